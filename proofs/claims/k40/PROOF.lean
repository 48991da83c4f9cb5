import PyProof.Rows.All
import Wide.All
import OpenK.AllK
import Wide.FinOn
import KE.KStateDown
import Lean
import HandS.ForMost
import HandS.WordsExc
import HandS.Defaults
import HandS.Head0
import HandS.Head1
import HandS.Head2
import HandS.HeadEnd
import HandS.HeadHook1
import HandS.HeadHook2
import HandS.Gcd
import HandS.Wide
import HandS.IsInst
import HandS.RaiseMore
import HandS.TupLe
import HandS.TupAny
import HandS.Style
import HandS.Flow
import HandS.FStr
import HandS.Deep
import KE.DataMinMax
import KE.SortData
import HandS.EndBits
import HandS.Head3
import KE.DatumOrd
import HandS.SetFor
import HandS.Conv
import KE.KTupSum
import PySem.Challenge.RW_starlands_k40_whole_periods_of_light_cur
set_option Elab.async false
set_option linter.all false
set_option maxRecDepth 100000
set_option maxHeartbeats 8000000
namespace Ev
open PySem L2

/-! ## values without the heap -/
inductive D where
  | non | bl (b : Bool) | int (i : Int) | str (x : Str) | lst (xs : List D) | tup (xs : List D) | obj (n : Nat)
  | dic (ks vs : List D) | set (xs : List D)
  /-- the law's script: numbers that are read alone -/
  | scr (ns : List Int)

/-- every old row stands -/
abbrev Pre (l m : List Addr) : Prop := ∀ (n : Nat) (p : Addr), l[n]? = some p → m[n]? = some p

mutual
inductive Rep (K : PySem.W.Frag) (R : Hp) (L : List Addr) : V → D → Prop
  | non : Rep K R L .non .non
  | bl (b : Bool) : Rep K R L (.bl b) (.bl b)
  | int (i : Int) : Rep K R L (.int i) (.int i)
  | str (x : Str) : Rep K R L (.str x) (.str x)
  | lst {a : Addr} {vs : List V} {xs : List D} : Rd R a (.lst vs) → Reps K R L vs xs → Rep K R L (.ref a) (.lst xs)
  | tup {a : Addr} {vs : List V} {xs : List D} : SqT K R a vs → Reps K R L vs xs → Rep K R L (.ref a) (.tup xs)
  | obj {a : Addr} {n : Nat} : L[n]? = some a → Rep K R L (.ref a) (.obj n)
  | scr {a : Addr} {ns : List Int} : SqL K R a (ns.map V.int) → Rep K R L (.ref a) (.scr ns)
inductive Reps (K : PySem.W.Frag) (R : Hp) (L : List Addr) : List V → List D → Prop
  | nil : Reps K R L [] []
  | cons {v : V} {vs : List V} {x : D} {xs : List D} : Rep K R L v x → Reps K R L vs xs → Reps K R L (v :: vs) (x :: xs)
end

theorem rd_mono {R R' : Hp} {a : Addr} {u : HO} (e : Same R R') (h : Rd R a u) : Rd R' a u := by
  rcases h with h | ⟨o, h⟩
  · exact .inl (e _ _ h)
  · exact .inr ⟨o, e _ _ h⟩
theorem sqT_mono {K : PySem.W.Frag} {R R' : Hp} {a : Addr} {xs : List V} (e : Same R R') (h : SqT K R a xs) : SqT K R' a xs := by
  rcases h with (h | ⟨o, h⟩) | h
  · exact .inl (.inl (e _ _ h))
  · exact .inl (.inr ⟨o, e _ _ h⟩)
  · exact .inr h

section
variable {K : PySem.W.Frag} {R R' : Hp} {L L' : List Addr}
mutual
theorem Rep.mono (hR : Same R R') (hL : Pre L L') : ∀ (d : D) (v : V), Rep K R L v d → Rep K R' L' v d
  | .non, _, h => by cases h; exact .non
  | .bl b, _, h => by cases h; exact .bl b
  | .int i, _, h => by cases h; exact .int i
  | .str x, _, h => by cases h; exact .str x
  | .lst xs, _, h => by cases h with | lst hs hr => exact .lst (rd_mono hR hs) (Reps.mono hR hL xs _ hr)
  | .tup xs, _, h => by cases h with | tup hs hr => exact .tup (sqT_mono hR hs) (Reps.mono hR hL xs _ hr)
  | .obj n, _, h => by cases h with | obj hs => exact .obj (hL _ _ hs)
  | .dic _ _, _, h => by cases h
  | .set _, _, h => by cases h
  | .scr ns, _, h => by cases h with | scr hs => exact .scr (hR.seq hs)
theorem Reps.mono (hR : Same R R') (hL : Pre L L') : ∀ (xs : List D) (vs : List V), Reps K R L vs xs → Reps K R' L' vs xs
  | [], _, h => by cases h; exact .nil
  | x :: xs, _, h => by cases h with | cons h1 h2 => exact .cons (Rep.mono hR hL x _ h1) (Reps.mono hR hL xs _ h2)
end
theorem Reps.length : ∀ {vs : List V} {xs : List D}, Reps K R L vs xs → vs.length = xs.length
  | _, _, .nil => rfl
  | _, _, .cons _ t => congrArg Nat.succ (Reps.length t)
theorem Reps.get : ∀ {vs : List V} {xs : List D} {i : Nat} {x : D}, Reps K R L vs xs → xs[i]? = some x → ∃ v, vs[i]? = some v ∧ Rep K R L v x
  | _, _, 0, _, .cons h _, e => by simp at e; subst e; exact ⟨_, rfl, h⟩
  | _, _, i + 1, x, .cons _ t, e => by
    obtain ⟨v, h1, h2⟩ := Reps.get (i := i) (x := x) t (by simpa using e)
    exact ⟨v, by simpa using h1, h2⟩
  | _, _, _, _, .nil, e => by simp at e
theorem Reps.append : ∀ {vs us : List V} {xs ys : List D}, Reps K R L vs xs → Reps K R L us ys → Reps K R L (vs ++ us) (xs ++ ys)
  | _, _, _, _, .nil, h => h
  | _, _, _, _, .cons a t, h => .cons a (Reps.append t h)
theorem Reps.take : ∀ {vs : List V} {xs : List D} (n : Nat), Reps K R L vs xs → Reps K R L (vs.take n) (xs.take n)
  | _, _, 0, _ => .nil
  | _, _, _ + 1, .nil => .nil
  | _, _, n + 1, .cons a t => .cons a (Reps.take n t)
theorem Reps.drop : ∀ {vs : List V} {xs : List D} (n : Nat), Reps K R L vs xs → Reps K R L (vs.drop n) (xs.drop n)
  | _, _, 0, h => h
  | _, _, _ + 1, .nil => .nil
  | _, _, n + 1, .cons a t => Reps.drop n t
theorem Reps.set : ∀ {vs : List V} {xs : List D} (n : Nat) {v : V} {x : D}, Rep K R L v x → Reps K R L vs xs → Reps K R L (vs.set n v) (xs.set n x)
  | _, _, _, _, _, _, .nil => .nil
  | _, _, 0, _, _, h, .cons _ t => .cons h t
  | _, _, n + 1, _, _, h, .cons a t => .cons a (Reps.set n h t)
theorem Reps.rev : ∀ {vs : List V} {xs : List D}, Reps K R L vs xs → Reps K R L vs.reverse xs.reverse
  | _, _, .nil => .nil
  | _, _, .cons a t => by
    rw [List.reverse_cons, List.reverse_cons]
    exact Reps.append (Reps.rev t) (.cons a .nil)
theorem Reps.ints : ∀ {ns : List Int}, Reps K R L (ns.map V.int) (ns.map D.int)
  | [] => .nil
  | n :: ns => .cons (.int n) Reps.ints
theorem Reps.of_ints : ∀ {ns : List Int} {vs : List V}, Reps K R L vs (ns.map D.int) → vs = ns.map V.int
  | [], _, h => by cases h; rfl
  | n :: ns, _, h => by
    cases h with
    | cons h1 h2 => cases h1; rw [Reps.of_ints h2]; rfl
end

/-! ## lists of one's own, that may be changed -/
inductive B where
  | v (d : D)
  | o (xs : List B)

mutual
def B.frz : B → D
  | .v d => d
  | .o xs => .lst (B.frzs xs)
def B.frzs : List B → List D
  | [] => []
  | x :: xs => x.frz :: B.frzs xs
end
theorem B.frzs_v : ∀ (ds : List D), B.frzs (ds.map B.v) = ds
  | [] => rfl
  | d :: ds => by rw [List.map_cons, B.frzs, B.frzs_v ds]; rfl

mutual
inductive RepB (K : PySem.W.Frag) (R : Hp) (L : List Addr) (H : Hp) : V → B → List Addr → Prop
  | v {v : V} {d : D} : Rep K R L v d → RepB K R L H v (.v d) []
  | o {a : Addr} {vs : List V} {xs : List B} {fp : List Addr} : H a = some (.lst vs) → R a = none → RepBs K R L H vs xs fp → RepB K R L H (.ref a) (.o xs) (a :: fp)
inductive RepBs (K : PySem.W.Frag) (R : Hp) (L : List Addr) (H : Hp) : List V → List B → List Addr → Prop
  | nil : RepBs K R L H [] [] []
  | cons {v : V} {vs : List V} {x : B} {xs : List B} {f g : List Addr} : RepB K R L H v x f → RepBs K R L H vs xs g → RepBs K R L H (v :: vs) (x :: xs) (f ++ g)
end

section
variable {K : PySem.W.Frag} {R R' : Hp} {L L' : List Addr} {H H' : Hp}
mutual
theorem RepB.mono (hR : Same R R') (hL : Pre L L') : ∀ (b : B) (v : V) (fp : List Addr), (∀ a ∈ fp, H' a = H a) → (∀ a ∈ fp, R' a = none) → RepB K R L H v b fp → RepB K R' L' H' v b fp
  | .v d, _, _, _, _, h => by cases h with | v h => exact .v (Rep.mono hR hL d _ h)
  | .o xs, _, _, e, n, h => by
    cases h with
    | o h1 h2 h3 =>
      exact .o ((e _ (List.mem_cons_self ..)).trans h1) (n _ (List.mem_cons_self ..)) (RepBs.mono hR hL xs _ _ (fun a ha => e a (List.mem_cons_of_mem _ ha)) (fun a ha => n a (List.mem_cons_of_mem _ ha)) h3)
theorem RepBs.mono (hR : Same R R') (hL : Pre L L') : ∀ (xs : List B) (vs : List V) (fp : List Addr), (∀ a ∈ fp, H' a = H a) → (∀ a ∈ fp, R' a = none) → RepBs K R L H vs xs fp → RepBs K R' L' H' vs xs fp
  | [], _, _, _, _, h => by cases h; exact .nil
  | x :: xs, _, _, e, n, h => by
    cases h with
    | cons h1 h2 =>
      exact .cons (RepB.mono hR hL x _ _ (fun a ha => e a (List.mem_append_left _ ha)) (fun a ha => n a (List.mem_append_left _ ha)) h1) (RepBs.mono hR hL xs _ _ (fun a ha => e a (List.mem_append_right _ ha)) (fun a ha => n a (List.mem_append_right _ ha)) h2)
end
mutual
theorem RepB.live : ∀ (b : B) (v : V) (fp : List Addr), RepB K R L H v b fp → ∀ a ∈ fp, R a = none ∧ ∃ vs, H a = some (.lst vs)
  | .v d, _, _, h => by cases h with | v h => intro a ha; cases ha
  | .o xs, _, _, h => by
    cases h with
    | o h1 h2 h3 =>
      intro a ha
      rcases List.mem_cons.mp ha with rfl | ha
      · exact ⟨h2, _, h1⟩
      · exact RepBs.live xs _ _ h3 a ha
theorem RepBs.live : ∀ (xs : List B) (vs : List V) (fp : List Addr), RepBs K R L H vs xs fp → ∀ a ∈ fp, R a = none ∧ ∃ vs, H a = some (.lst vs)
  | [], _, _, h => by cases h; intro a ha; cases ha
  | x :: xs, _, _, h => by
    cases h with
    | cons h1 h2 =>
      intro a ha
      rcases List.mem_append.mp ha with ha | ha
      · exact RepB.live x _ _ h1 a ha
      · exact RepBs.live xs _ _ h2 a ha
end
/-- R with the objects at fp as they stand in H -/
def frz (R H : Hp) (fp : List Addr) : Hp := fun a => if a ∈ fp then H a else R a
theorem frz_in {R H : Hp} {fp : List Addr} {a : Addr} (h : a ∈ fp) : frz R H fp a = H a := if_pos h
theorem frz_out {R H : Hp} {fp : List Addr} {a : Addr} (h : a ∉ fp) : frz R H fp a = R a := if_neg h
theorem frz_same {R H : Hp} {fp : List Addr} (n : ∀ a ∈ fp, R a = none) : Same R (frz R H fp) := fun a o e => by
  rw [frz_out fun h => by rw [n a h] at e; cases e]; exact e
mutual
theorem RepB.frozen (hR : Same R R') (hL : Pre L L') : ∀ (b : B) (v : V) (fp : List Addr), (∀ a ∈ fp, R' a = H a) → RepB K R L H v b fp → Rep K R' L' v b.frz
  | .v d, _, _, _, h => by cases h with | v h => exact Rep.mono hR hL d _ h
  | .o xs, _, _, e, h => by
    cases h with
    | o h1 h2 h3 =>
      refine .lst (.inl ((e _ (List.mem_cons_self ..)).trans h1)) (RepBs.frozen hR hL xs _ _ (fun a ha => e a (List.mem_cons_of_mem _ ha)) h3)
theorem RepBs.frozen (hR : Same R R') (hL : Pre L L') : ∀ (xs : List B) (vs : List V) (fp : List Addr), (∀ a ∈ fp, R' a = H a) → RepBs K R L H vs xs fp → Reps K R' L' vs (B.frzs xs)
  | [], _, _, _, h => by cases h; exact .nil
  | x :: xs, _, _, e, h => by
    cases h with
    | cons h1 h2 =>
      exact .cons (RepB.frozen hR hL x _ _ (fun a ha => e a (List.mem_append_left _ ha)) h1) (RepBs.frozen hR hL xs _ _ (fun a ha => e a (List.mem_append_right _ ha)) h2)
end
theorem RepBs.of_reps : ∀ {vs : List V} {xs : List D}, Reps K R L vs xs → RepBs K R L H vs (xs.map B.v) []
  | _, _, .nil => .nil
  | _, _, .cons h t => RepBs.cons (f := []) (g := []) (.v h) (RepBs.of_reps t)
theorem RepBs.length : ∀ {vs : List V} {xs : List B} {fp : List Addr}, RepBs K R L H vs xs fp → vs.length = xs.length
  | _, _, _, .nil => rfl
  | _, _, _, .cons _ t => congrArg Nat.succ (RepBs.length t)
theorem RepBs.append : ∀ {vs us : List V} {xs ys : List B} {f g : List Addr}, RepBs K R L H vs xs f → RepBs K R L H us ys g → RepBs K R L H (vs ++ us) (xs ++ ys) (f ++ g)
  | _, _, _, _, _, _, .nil, h => h
  | _, _, _, _, _, _, .cons a t, h => by rw [List.append_assoc]; exact .cons a (RepBs.append t h)
end

/-! ## the state -/
/-- a row of the store: a list that several hold -/
inductive Cel where
  | lst (xs : List D)
structure Sta where
  env : List (Option B)
  st : List Cel
  /-- within a def that turns nothing that others hold -/
  pu : Bool
abbrev Sta.put (s : Sta) (i : Nat) (b : Option B) : Sta := ⟨s.env.set i b, s.st, s.pu⟩

inductive RepE (K : PySem.W.Frag) (R : Hp) (L : List Addr) (H : Hp) : St → List (Option B) → List Addr → Prop
  | nil : RepE K R L H [] [] []
  | non {x : Option V} {σ : St} {e : List (Option B)} {f : List Addr} : RepE K R L H σ e f → RepE K R L H (x :: σ) (none :: e) f
  | val {v : V} {b : B} {σ : St} {e : List (Option B)} {f g : List Addr} : RepB K R L H v b f → RepE K R L H σ e g → RepE K R L H (some v :: σ) (some b :: e) (f ++ g)

def CelOk (K : PySem.W.Frag) (R : Hp) (L : List Addr) (H : Hp) (a : Addr) : Cel → Prop
  | .lst xs => ∃ vs, H a = some (.lst vs) ∧ Reps K R L vs xs
/-- R: what is frozen; L: the rows of the store; O: the own lists; J: what the shared things' numbers mean, if not L -/
structure Gh where
  R : Hp
  L : List Addr
  O : List Addr
  J : Option (List Addr)
def Gh.I (G : Gh) : List Addr := G.J.getD G.L
structure Rel (K : PySem.W.Frag) (G : Gh) (s : Sta) (σ : St) (H : Hp) : Prop where
  sub : Same G.R H
  env : RepE K G.R G.I H σ s.env G.O
  nd : (G.O ++ G.L).Nodup
  nr : ∀ a ∈ G.L, G.R a = none
  len : G.L.length = s.st.length
  il : s.pu = false → G.J = none
  pl : s.pu = true → s.st = []
  sto : ∀ (n : Nat) (c : Cel), s.st[n]? = some c → ∃ a, G.L[n]? = some a ∧ CelOk K G.R G.I H a c
/-- behind a step: what stood stands (st: the own lists may have been changed) -/
structure Fr (st : Bool) (G : Gh) (H : Hp) (G' : Gh) (H' : Hp) : Prop where
  r : Same G.R G'.R
  rn : ∀ a, G'.R a ≠ none → G.R a ≠ none ∨ a ∈ G.O ∨ H a = none
  l : Pre G.I G'.I
  o : ∀ a ∈ G'.O, a ∈ G.O ∨ H a = none
  lo : ∀ a ∈ G'.L, a ∈ G.L ∨ H a = none
  h : ∀ a u, H a = some u → (st = true → a ∉ G.O) → a ∉ G.L → H' a = some u
  d : ∀ a, H a ≠ none → H' a ≠ none
  j : G'.J = G.J

theorem Fr.refl (st : Bool) (G : Gh) (H : Hp) : Fr st G H G H := ⟨Same.refl _, fun _ h => .inl h, fun _ _ h => h, fun _ h => .inl h, fun _ h => .inl h, fun _ _ h _ _ => h, fun _ h => h, rfl⟩
theorem Fr.weak {st : Bool} {G G1 : Gh} {H H1 : Hp} (a : Fr false G H G1 H1) : Fr st G H G1 H1 := ⟨a.r, a.rn, a.l, a.o, a.lo, fun c u e _ n => a.h c u e (fun z => by cases z) n, a.d, a.j⟩
theorem Fr.trans {st : Bool} {G G1 G2 : Gh} {H H1 H2 : Hp} (a : Fr st G H G1 H1) (b : Fr st G1 H1 G2 H2) : Fr st G H G2 H2 where
  r := a.r.trans b.r
  rn := fun c h => by
    have back : H1 c = none → H c = none := fun q => by
      cases e : H c with
      | none => rfl
      | some u => exact absurd q (a.d c (by rw [e]; simp))
    rcases b.rn c h with h | h | h
    · exact a.rn c h
    · rcases a.o c h with h | h
      · exact .inr (.inl h)
      · exact .inr (.inr h)
    · exact .inr (.inr (back h))
  l := fun n p h => b.l n p (a.l n p h)
  o := fun c h => by
    rcases b.o c h with h | h
    · exact a.o c h
    · refine .inr ?_
      cases e : H c with
      | none => rfl
      | some u => exact absurd h (a.d c (by rw [e]; simp))
  lo := fun c h => by
    rcases b.lo c h with h | h
    · exact a.lo c h
    · refine .inr ?_
      cases e : H c with
      | none => rfl
      | some u => exact absurd h (a.d c (by rw [e]; simp))
  h := fun c u e n1 n2 => by
    have e1 := a.h c u e n1 n2
    refine b.h c u e1 (fun z q => ?_) fun q => ?_
    · rcases a.o c q with q | q
      · exact n1 z q
      · rw [e] at q; cases q
    · rcases a.lo c q with q | q
      · exact n2 q
      · rw [e] at q; cases q
  d := fun c h => b.d c (a.d c h)
  j := b.j.trans a.j

theorem Fr.back {st : Bool} {G G' : Gh} {H H' : Hp} (f : Fr st G H G' H') {a : Addr} (h : H' a = none) : H a = none := by
  cases e : H a with
  | none => rfl
  | some u => exact absurd h (f.d a (by rw [e]; simp))
section
variable {K : PySem.W.Frag} {R R' : Hp} {L L' : List Addr} {H H' : Hp}
theorem RepE.mono (hR : Same R R') (hL : Pre L L') : ∀ {σ : St} {e : List (Option B)} {f : List Addr}, (∀ a ∈ f, H' a = H a) → (∀ a ∈ f, R' a = none) → RepE K R L H σ e f → RepE K R' L' H' σ e f
  | _, _, _, _, _, .nil => .nil
  | _, _, _, e, n, .non t => .non (RepE.mono hR hL e n t)
  | _, _, _, e, n, .val (b := b) h t => .val (RepB.mono hR hL b _ _ (fun a ha => e a (List.mem_append_left _ ha)) (fun a ha => n a (List.mem_append_left _ ha)) h)
    (RepE.mono hR hL (fun a ha => e a (List.mem_append_right _ ha)) (fun a ha => n a (List.mem_append_right _ ha)) t)
theorem RepE.live : ∀ {σ : St} {e : List (Option B)} {f : List Addr}, RepE K R L H σ e f → ∀ a ∈ f, R a = none ∧ ∃ vs, H a = some (.lst vs)
  | _, _, _, .nil, a, ha => by cases ha
  | _, _, _, .non t, a, ha => RepE.live t a ha
  | _, _, _, .val (b := b) h t, a, ha => by
    rcases List.mem_append.mp ha with ha | ha
    · exact RepB.live b _ _ h a ha
    · exact RepE.live t a ha
theorem RepE.length : ∀ {σ : St} {e : List (Option B)} {f : List Addr}, RepE K R L H σ e f → σ.length = e.length
  | _, _, _, .nil => rfl
  | _, _, _, .non t => congrArg Nat.succ (RepE.length t)
  | _, _, _, .val _ t => congrArg Nat.succ (RepE.length t)
/-- one slot taken out of the list -/
theorem RepE.at : ∀ {σ : St} {e : List (Option B)} {f : List Addr} {i : Nat} {b : B}, RepE K R L H σ e f → e[i]? = some (some b) →
    ∃ v f1 f2 f3, σ[i]? = some (some v) ∧ f = f1 ++ (f2 ++ f3) ∧ RepB K R L H v b f2
  | _, _, _, 0, b, .val h t, q => by simp at q; subst q; exact ⟨_, [], _, _, rfl, rfl, h⟩
  | _, _, _, 0, b, .non t, q => by simp at q
  | _, _, _, i + 1, b, .val (f := f0) h t, q => by
    obtain ⟨v, f1, f2, f3, e1, e2, e3⟩ := RepE.at (i := i) t (by simpa using q)
    exact ⟨v, f0 ++ f1, f2, f3, by simpa using e1, by rw [e2, List.append_assoc], e3⟩
  | _, _, _, i + 1, b, .non t, q => by
    obtain ⟨v, f1, f2, f3, e1, e2, e3⟩ := RepE.at (i := i) t (by simpa using q)
    exact ⟨v, f1, f2, f3, by simpa using e1, e2, e3⟩
  | _, _, _, _, _, .nil, q => by simp at q
/-- a slot's content exchanged: the others stay (under a new heap that keeps their objects) -/
theorem RepE.put {v' : V} {b' : B} {g : List Addr} (hR : Same R R') (hL : Pre L L') (hb : RepB K R' L' H' v' b' g) : ∀ {σ : St} {e : List (Option B)} {f : List Addr} {i : Nat}, RepE K R L H σ e f → i < e.length →
    ∃ f1 f2 f3, f = f1 ++ (f2 ++ f3) ∧ ((∀ a ∈ f1 ++ f3, H' a = H a) → (∀ a ∈ f1 ++ f3, R' a = none) → RepE K R' L' H' (σ.set i (some v')) (e.set i (some b')) (f1 ++ (g ++ f3)))
  | _, _, _, 0, .val (f := f2) (g := f3) h t, _ => ⟨[], f2, f3, rfl, fun e n => by show RepE K R' L' H' _ _ (g ++ f3); exact .val hb (RepE.mono hR hL e n t)⟩
  | _, _, _, 0, .non (f := f3) t, _ => ⟨[], [], f3, rfl, fun e n => by show RepE K R' L' H' _ _ (g ++ f3); exact .val hb (RepE.mono hR hL e n t)⟩
  | _, _, _, i + 1, .val (b := b) (f := f0) h t, hi => by
    obtain ⟨f1, f2, f3, e2, e3⟩ := RepE.put hR hL hb (i := i) t (by simpa using hi)
    refine ⟨f0 ++ f1, f2, f3, by rw [e2, List.append_assoc], fun e n => ?_⟩
    rw [List.append_assoc] at e n ⊢
    exact .val (RepB.mono hR hL b _ _ (fun a ha => e a (List.mem_append_left _ ha)) (fun a ha => n a (List.mem_append_left _ ha)) h) (e3 (fun a ha => e a (List.mem_append_right _ ha)) fun a ha => n a (List.mem_append_right _ ha))
  | _, _, _, i + 1, .non t, hi => by
    obtain ⟨f1, f2, f3, e2, e3⟩ := RepE.put hR hL hb (i := i) t (by simpa using hi)
    exact ⟨f1, f2, f3, e2, fun e n => .non (e3 e n)⟩
  | _, _, _, _, .nil, hi => by simp at hi
/-- a slot wiped -/
theorem RepE.wipe1 : ∀ {σ : St} {e : List (Option B)} {f : List Addr} {i : Nat} {x : Option V}, RepE K R L H σ e f → ∃ f', RepE K R L H (σ.set i x) (e.set i none) f' ∧ f'.Sublist f
  | _, _, _, _, _, .nil => ⟨[], .nil, List.Sublist.refl _⟩
  | _, _, _, 0, _, .non t => ⟨_, .non t, List.Sublist.refl _⟩
  | _, _, _, 0, _, .val (f := f) (g := g) h t => ⟨_, .non t, List.sublist_append_right f g⟩
  | _, _, _, i + 1, x, .non t => by
    obtain ⟨f', h', s⟩ := RepE.wipe1 (i := i) (x := x) t
    exact ⟨f', .non h', s⟩
  | _, _, _, i + 1, x, .val (f := f) h t => by
    obtain ⟨f', h', s⟩ := RepE.wipe1 (i := i) (x := x) t
    exact ⟨f ++ f', .val h h', List.Sublist.append (List.Sublist.refl _) s⟩
end

theorem CelOk.mono {K : PySem.W.Frag} {R R' : Hp} {L L' : List Addr} {H H' : Hp} {a : Addr} (hR : Same R R') (hL : Pre L L') (e : H' a = H a) : ∀ {c : Cel}, CelOk K R L H a c → CelOk K R' L' H' a c
  | .lst xs, ⟨vs, h, r⟩ => ⟨vs, e.trans h, Reps.mono hR hL xs _ r⟩

/-- behind a rule that lays frozen objects alone -/
structure Ext (R : Hp) (H : Hp) (R' : Hp) (H' : Hp) : Prop where
  r : Same R R'
  h : Same H H'
  sub : Same R' H'
  rn : ∀ a, R' a ≠ none → R a ≠ none ∨ H a = none
theorem Ext.refl {R H : Hp} (s : Same R H) : Ext R H R H := ⟨Same.refl _, Same.refl _, s, fun _ h => .inl h⟩
theorem Ext.trans {R R1 R2 H H1 H2 : Hp} (a : Ext R H R1 H1) (b : Ext R1 H1 R2 H2) : Ext R H R2 H2 := ⟨a.r.trans b.r, a.h.trans b.h, b.sub, fun c q => by
  rcases b.rn c q with z | z
  · exact a.rn c z
  · exact .inr (a.h.free z)⟩
theorem same_new {H : Hp} {p : Addr} {u : HO} (hp : H p = none) : Same H (upd H p u) := fun b o e => by rw [upd_ne (ne_of_none e hp)]; exact e
/-- one new object -/
theorem Ext.new {R H : Hp} {p : Addr} {u : HO} (s : Same R H) (hp : H p = none) : Ext R H (upd R p u) (upd H p u) where
  r := same_new (s.free hp)
  h := same_new hp
  sub := fun a o e => by
    by_cases q : a = p
    · subst q; rw [upd_same] at e ⊢; exact e
    · rw [upd_ne q] at e ⊢; exact s _ _ e
  rn := fun a h => by
    by_cases q : a = p
    · subst q; exact .inr hp
    · rw [upd_ne q] at h; exact .inl h
/-- one new object, not frozen -/
theorem Rel.ext {K : PySem.W.Frag} {G : Gh} {s : Sta} {σ : St} {H : Hp} {R' H' : Hp} (r : Rel K G s σ H) (x : Ext G.R H R' H') : Rel K ⟨R', G.L, G.O, G.J⟩ s σ H' ∧ Fr false G H ⟨R', G.L, G.O, G.J⟩ H' := by
  have lv := r.env.live
  have cl : ∀ a ∈ G.L, ∃ u, H a = some u := fun a ha => by
    obtain ⟨n, hn⟩ := List.getElem?_of_mem ha
    have : n < s.st.length := by rw [← r.len]; exact (List.getElem?_eq_some_iff.mp hn).1
    obtain ⟨b, hb, hc⟩ := r.sto n s.st[n] (by simp [this])
    rw [hn] at hb; cases hb
    cases hcc : s.st[n] with
    | lst xs => rw [hcc] at hc; obtain ⟨vs, e, _⟩ := hc; exact ⟨_, e⟩
  have nO : ∀ a ∈ G.O, R' a = none := fun a ha => by
    obtain ⟨n, vs, e⟩ := lv a ha
    cases q : R' a with
    | none => rfl
    | some u =>
      rcases x.rn a (by rw [q]; simp) with z | z
      · exact absurd n z
      · rw [e] at z; cases z
  have nL : ∀ a ∈ G.L, R' a = none := fun a ha => by
    obtain ⟨u, e⟩ := cl a ha
    cases q : R' a with
    | none => rfl
    | some u =>
      rcases x.rn a (by rw [q]; simp) with z | z
      · exact absurd (r.nr a ha) z
      · rw [e] at z; cases z
  refine ⟨⟨x.sub, RepE.mono x.r (fun _ _ h => h) (fun a ha => ?_) nO r.env, r.nd, nL, r.len, r.il, r.pl, fun n c h => ?_⟩, ⟨x.r, fun a h => (x.rn a h).imp id .inr, fun _ _ h => h, fun _ h => .inl h, fun _ h => .inl h, fun a u e _ _ => x.h a u e, fun a h => ?_, rfl⟩⟩
  · obtain ⟨_, vs, e⟩ := lv a ha
    rw [e]; exact x.h _ _ e
  · obtain ⟨a, ha, hc⟩ := r.sto n c h
    obtain ⟨u, e⟩ := cl a (List.mem_of_getElem? ha)
    exact ⟨a, ha, hc.mono x.r (fun _ _ h => h) ((x.h _ _ e).trans e.symm)⟩
  · cases e : H a with
    | none => exact absurd e h
    | some u => rw [x.h _ _ e]; simp
/-- more objects, not frozen -/
theorem Rel.grow {K : PySem.W.Frag} {G : Gh} {s : Sta} {σ : St} {H H' : Hp} (r : Rel K G s σ H) (x : Same H H') : Rel K G s σ H' ∧ Fr false G H G H' := by
  have lv := r.env.live
  refine ⟨⟨r.sub.trans x, RepE.mono (Same.refl _) (fun _ _ h => h) (fun a ha => ?_) (fun a ha => (lv a ha).1) r.env, r.nd, r.nr, r.len, r.il, r.pl, fun n c h => ?_⟩, ⟨Same.refl _, fun a h => .inl h, fun _ _ h => h, fun _ h => .inl h, fun _ h => .inl h, fun a u e _ _ => x a u e, fun a h => ?_, rfl⟩⟩
  · obtain ⟨_, vs, e⟩ := lv a ha
    rw [e]; exact x _ _ e
  · obtain ⟨a, ha, hc⟩ := r.sto n c h
    refine ⟨a, ha, ?_⟩
    cases c with
    | lst xs => obtain ⟨vs, e, r⟩ := hc; exact ⟨vs, x _ _ e, r⟩
  · cases e : H a with
    | none => exact absurd e h
    | some u => rw [x _ _ e]; simp
/-- the heap without the rows of the store -/
def hid (H : Hp) (L : List Addr) : Hp := fun a => if a ∈ L then none else H a
theorem hid_out {H : Hp} {L : List Addr} {a : Addr} (h : a ∉ L) : hid H L a = H a := if_neg h
theorem hid_in {H : Hp} {L : List Addr} {a : Addr} (h : a ∈ L) : hid H L a = none := if_pos h
theorem hid_some {H : Hp} {L : List Addr} {a : Addr} {u : HO} (h : hid H L a = some u) : a ∉ L ∧ H a = some u := by
  by_cases q : a ∈ L
  · rw [hid_in q] at h; cases h
  · rw [hid_out q] at h; exact ⟨q, h⟩
/-- what a value may rest on: true for a look alone, at one's own lists as well -/
def md (m : Bool) (G : Gh) (H : Hp) : Hp := match m with
  | false => G.R
  | true => hid H G.L
section
variable {K : PySem.W.Frag} {G : Gh} {s : Sta} {σ : St} {H : Hp}
theorem md_sub (m : Bool) (r : Rel K G s σ H) : Same (md m G H) H := match m with
  | false => r.sub
  | true => fun _ _ h => (hid_some h).2
theorem md_low (m : Bool) (r : Rel K G s σ H) : Same G.R (md m G H) := match m with
  | false => Same.refl _
  | true => fun a u h => by
    show hid H G.L a = some u
    rw [hid_out fun q => by rw [r.nr a q] at h; cases h]
    exact r.sub _ _ h
theorem md_mono (m : Bool) {G' : Gh} {H' : Hp} (f : Fr false G H G' H') : Same (md m G H) (md m G' H') := match m with
  | false => f.r
  | true => fun a u h => by
    obtain ⟨h1, h2⟩ := hid_some (h : hid H G.L a = some u)
    show hid H' G'.L a = some u
    rw [hid_out fun q => (f.lo a q).elim h1 fun z => by rw [h2] at z; cases z]
    exact f.h a u h2 (fun z => by cases z) h1
theorem md_ext (m : Bool) {R' H' : Hp} (r : Rel K G s σ H) (x : Ext (md m G H) H R' H') : ∃ G', Rel K G' s σ H' ∧ Fr false G H G' H' ∧ G'.I = G.I ∧ Same R' (md m G' H') := match m with
  | false => by
    obtain ⟨r1, f1⟩ := r.ext x
    exact ⟨_, r1, f1, rfl, Same.refl _⟩
  | true => by
    obtain ⟨r1, f1⟩ := r.grow x.h
    refine ⟨G, r1, f1, rfl, fun a u h => ?_⟩
    show hid H' G.L a = some u
    rw [hid_out fun q => ?_]
    · exact x.sub _ _ h
    · rcases x.rn a (by rw [h]; simp) with z | z
      · exact z (hid_in q)
      · obtain ⟨n, hn⟩ := List.getElem?_of_mem q
        have : n < s.st.length := by rw [← r.len]; exact (List.getElem?_eq_some_iff.mp hn).1
        obtain ⟨b, hb, hc⟩ := r.sto n s.st[n] (by simp [this])
        rw [hn] at hb; cases hb
        cases hcc : s.st[n] with
        | lst xs => rw [hcc] at hc; obtain ⟨vs, e, _⟩ := hc; rw [e] at z; cases z
end
end Ev

namespace Ev
open PySem L2

/-! ## judgements -/
abbrev EvE := Sta → Option (D × Sta)
abbrev EvT := Sta → Option (Bool × Sta)
abbrev EvA := Sta → Option (List D × Sta)
abbrev EvB := Sta → Option (B × Sta)

def W {α : Type} (K : PySem.W.Frag) (r : Option (α × Sta)) (G : Gh) (σ : St) (H : Hp) (Q : α → Gh → Sta → Hp → Prop) : Prop := ∃ a s', r = some (a, s') ∧ ∀ G' H', Rel K G' s' σ H' → Fr false G H G' H' → Q a G' s' H'
theorem W.imp {α : Type} {K : PySem.W.Frag} {r : Option (α × Sta)} {G : Gh} {σ : St} {H : Hp} {Q Q' : α → Gh → Sta → Hp → Prop} (h : W K r G σ H Q) (i : ∀ a G' s' H', Rel K G' s' σ H' → Fr false G H G' H' → Q a G' s' H' → Q' a G' s' H') : W K r G σ H Q' := by
  obtain ⟨a, s', e, q⟩ := h
  exact ⟨a, s', e, fun G' H' r f => i a G' s' H' r f (q G' H' r f)⟩
theorem W.bind {α β : Type} {K : PySem.W.Frag} {r : Option (α × Sta)} {k : α → Sta → Option (β × Sta)} {G : Gh} {σ : St} {H : Hp} {Q : β → Gh → Sta → Hp → Prop} (h : W K (r.bind fun p => k p.1 p.2) G σ H Q) :
    W K r G σ H (fun a G1 s1 H1 => W K (k a s1) G1 σ H1 Q) := by
  obtain ⟨b, s2, e, q⟩ := h
  obtain ⟨⟨a, s1⟩, e1, e2⟩ := Option.bind_eq_some_iff.mp e
  exact ⟨a, s1, e1, fun G1 H1 r1 f1 => ⟨b, s2, e2, fun G2 H2 r2 f2 => q G2 H2 r2 (f1.trans f2)⟩⟩
theorem W.now {α : Type} {K : PySem.W.Frag} {a : α} {s : Sta} {G : Gh} {σ : St} {H : Hp} {Q : α → Gh → Sta → Hp → Prop} (h : W K (some (a, s)) G σ H Q) (r : Rel K G s σ H) : Q a G s H := by
  obtain ⟨b, s2, e, q⟩ := h
  cases e
  exact q G H r (Fr.refl _ G H)
def tE (K : PySem.W.Frag) (m : Bool) (f : EvE) : TE := fun σ H Q => ∃ (G : Gh) (s : Sta), Rel K G s σ H ∧ W K (f s) G σ H (fun d G' _ H' => ∀ v, Rep K (md m G' H') G'.I v d → Q v H')
def tT (K : PySem.W.Frag) (f : EvT) : TT := fun σ H Q => ∃ (G : Gh) (s : Sta), Rel K G s σ H ∧ W K (f s) G σ H (fun b _ _ H' => Q b H')
def tA (K : PySem.W.Frag) (m : Bool) (f : EvA) : TA := fun σ H Q => ∃ (G : Gh) (s : Sta), Rel K G s σ H ∧ W K (f s) G σ H (fun ds G' _ H' => ∀ vs, Reps K (md m G' H') G'.I vs ds → Q vs H')
def tB (K : PySem.W.Frag) (f : EvB) : TE := fun σ H Q => ∃ (G : Gh) (s : Sta), Rel K G s σ H ∧ W K (f s) G σ H (fun b G' _ H' => ∀ v fp, RepB K G'.R G'.I H' v b fp → (fp ++ (G'.O ++ G'.L)).Nodup → (∀ a ∈ fp, H a = none) → Q v H')
/-- true: for a look alone -/
abbrev SX (X : Cx) (m : Bool) (e : Expr) (f : EvE) : Prop := PE X e (tE X.K m f)
abbrev SE (X : Cx) (e : Expr) (f : EvE) : Prop := PE X e (tE X.K false f)
abbrev SB (X : Cx) (e : Expr) (f : EvB) : Prop := PE X e (tB X.K f)
abbrev STt (X : Cx) (e : Expr) (f : EvT) : Prop := PT X e (tT X.K f)
abbrev STw (X : Cx) (e : Expr) (f : EvT) : Prop := PW X e (tT X.K f)
abbrev SAm (X : Cx) (m : Bool) (es : List Expr) (f : EvA) : Prop := PA X es (tA X.K m f)
abbrev SA (X : Cx) (es : List Expr) (f : EvA) : Prop := PA X es (tA X.K false f)

theorem pe_imp {X : Cx} {e : Expr} {t t' : TE} (h : PE X e t) (i : ∀ σ H Q, t' σ H Q → t σ H Q) : PE X e t' := ⟨fun pins s σ H Q I q => h.run pins s σ H Q I (i σ H Q q)⟩
theorem pt_imp {X : Cx} {e : Expr} {t t' : TT} (h : PT X e t) (i : ∀ σ H Q, t' σ H Q → t σ H Q) : PT X e t' := ⟨fun pins s σ H Q I q => h.run pins s σ H Q I (i σ H Q q)⟩
theorem pw_imp {X : Cx} {e : Expr} {t t' : TT} (h : PW X e t) (i : ∀ σ H Q, t' σ H Q → t σ H Q) : PW X e t' := ⟨fun wh pins s σ H Q I q => h.run wh pins s σ H Q I (i σ H Q q)⟩
theorem pa_imp {X : Cx} {e : List Expr} {t t' : TA} (h : PA X e t) (i : ∀ σ H Q, t' σ H Q → t σ H Q) : PA X e t' := ⟨fun pos pins s σ H Q I q => h.run pos pins s σ H Q I (i σ H Q q)⟩

/-! ## values: what an operation hands back -/
def rsE (K : PySem.W.Frag) (R : Hp) (L : List Addr) (H : Hp) (d : D) (Q : VK) : Prop := ∀ v R' H', Ext R H R' H' → Rep K R' L v d → Q v H'
def rsB (K : PySem.W.Frag) (R : Hp) (L : List Addr) (H : Hp) (xs : List D) (Q : VK) : Prop := ∀ p vs R' H', Ext R H R' H' → H' p = none → Reps K R' L vs xs → Q (.ref p) (upd H' p (.lst vs))
theorem rsE.toB {K : PySem.W.Frag} {R : Hp} {L : List Addr} {H : Hp} {xs : List D} {Q : VK} (q : rsE K R L H (.lst xs) Q) : rsB K R L H xs Q := fun p vs R' H' x hp r => by
  have x2 := Ext.new (u := .lst vs) x.sub hp
  exact q _ _ _ (x.trans x2) (.lst (.inl upd_same) (Reps.mono x2.r (fun _ _ h => h) _ _ r))
def G1 (K : PySem.W.Frag) (g : D → Option D) : V → Hp → VK → Prop := fun x H Q => ∃ (R : Hp) (L : List Addr) (dx d : D), Same R H ∧ Rep K R L x dx ∧ g dx = some d ∧ rsE K R L H d Q
def G2 (K : PySem.W.Frag) (g : D → D → Option D) : R2 := fun x y H Q => ∃ (R : Hp) (L : List Addr) (dx dy d : D), Same R H ∧ Rep K R L x dx ∧ Rep K R L y dy ∧ g dx dy = some d ∧ rsE K R L H d Q
def GL (K : PySem.W.Frag) (g : List D → Option D) : List V → Hp → VK → Prop := fun vs H Q => ∃ (R : Hp) (L : List Addr) (ds : List D) (d : D), Same R H ∧ Reps K R L vs ds ∧ g ds = some d ∧ rsE K R L H d Q
def GLB (K : PySem.W.Frag) (g : List D → Option (List D)) : List V → Hp → VK → Prop := fun vs H Q => ∃ (R : Hp) (L : List Addr) (ds xs : List D), Same R H ∧ Reps K R L vs ds ∧ g ds = some xs ∧ rsB K R L H xs Q
def G2B (K : PySem.W.Frag) (g : D → D → Option (List D)) : R2 := fun x y H Q => ∃ (R : Hp) (L : List Addr) (dx dy : D) (xs : List D), Same R H ∧ Rep K R L x dx ∧ Rep K R L y dy ∧ g dx dy = some xs ∧ rsB K R L H xs Q
def GM (K : PySem.W.Frag) (g : D → List D → Option D) : V → List V → Hp → VK → Prop := fun x vs H Q => ∃ (R : Hp) (L : List Addr) (dx : D) (ds : List D) (d : D), Same R H ∧ Rep K R L x dx ∧ Reps K R L vs ds ∧ g dx ds = some d ∧ rsE K R L H d Q
/-- a list handed back, as a value -/
def lv1 {α : Type} (g : α → Option (List D)) : α → Option D := fun a => (g a).map .lst
def lv2 {α β : Type} (g : α → β → Option (List D)) : α → β → Option D := fun a b => (g a b).map .lst
theorem GLB.val {X : Cx} {f : Value} {g : List D → Option (List D)} (h : CallR X f (GLB X.K g)) : CallR X f (GL X.K (lv1 g)) := by
  intro pins s σ H xs us Q I r ⟨R, L, ds, d, sub, hr, e, q⟩
  obtain ⟨ys, e1, rfl⟩ := Option.map_eq_some_iff.mp e
  exact h pins s σ H xs us Q I r ⟨R, L, ds, ys, sub, hr, e1, q.toB⟩
theorem G2B.val {X : Cx} {f : Value → Value → Sem Value} {g : D → D → Option (List D)} (h : OpR X f (G2B X.K g)) : OpR X f (G2 X.K (lv2 g)) := by
  intro pins s σ H x y v u Q I rx ry ⟨R, L, dx, dy, d, sub, hx, hy, e, q⟩
  obtain ⟨ys, e1, rfl⟩ := Option.map_eq_some_iff.mp e
  exact h pins s σ H x y v u Q I rx ry ⟨R, L, dx, dy, ys, sub, hx, hy, e1, q.toB⟩

/-! ## whole numbers -/
def big : Nat := 2 ^ 1800
abbrev Sm (i : Int) : Prop := i.natAbs < big
def dAdd : D → D → Option D
  | .int i, .int j => some (.int (i + j))
  | .int i, .bl b => some (.int (i + PyProof.Rows.b2i b))
  | .str x, .str y => if x.length + y.length ≤ sizeLine then some (.str (x ++ y)) else none
  | .lst xs, .lst ys => if xs.length + ys.length ≤ sizeLine then some (.lst (xs ++ ys)) else none
  | .tup xs, .tup ys => if xs.length + ys.length ≤ sizeLine then some (.tup (xs ++ ys)) else none
  | _, _ => none
def dSub : D → D → Option D
  | .int i, .int j => some (.int (i - j))
  | _, _ => none
def dMul : D → D → Option D
  | .int i, .int j => if Sm i ∧ Sm j ∨ i.natAbs.log2 + j.natAbs.log2 < 2000000 then some (.int (i * j)) else none
  | .lst xs, .int k => if k.natAbs < 2 ^ 62 ∧ xs.length * k.toNat ≤ sizeLine then some (.lst (List.replicate k.toNat xs).flatten) else none
  | _, _ => none
def dFdiv : D → D → Option D
  | .int i, .int j => if j ≠ 0 ∧ Sm j then some (.int (i.fdiv j)) else none
  | _, _ => none
def dMod : D → D → Option D
  | .int i, .int j => if j ≠ 0 then some (.int (i.fmod j)) else none
  | _, _ => none
def dPow : D → D → Option D
  | .int i, .int j => if 0 ≤ j ∧ j ≤ 1000000 ∧ i.natAbs < 2 ^ 64 then some (.int (i ^ j.toNat)) else none
  | _, _ => none
def dXor : D → D → Option D
  | .int i, .int j => some (.int (Builtin.bitXor i j))
  | _, _ => none
def dOr : D → D → Option D
  | .int i, .int j => some (.int (Builtin.bitOr i j))
  | _, _ => none
def dNeg : D → Option D
  | .int i => some (.int (-i))
  | _ => none
def dCmp (p : Int → Int → Bool) : D → D → Option D
  | .int i, .int j => some (.bl (p i j))
  | _, _ => none


mutual
def D.py : D → Option PyData
  | .non => some .none
  | .bl b => some (.bool b)
  | .int i => some (.int i)
  | .str x => some (.str x)
  | .lst xs => (D.pys xs).map .list
  | .tup xs => (D.pys xs).map .tuple
  | .obj _ => none
  | .dic _ _ => none
  | .set _ => none
  | .scr _ => none
def D.pys : List D → Option (List PyData)
  | [] => some []
  | x :: xs => match x.py, D.pys xs with
    | some p, some ps => some (p :: ps)
    | _, _ => none
end
/-- ==, as Python has it -/
def dEqb (a b : D) : Option Bool := match a.py, b.py with
  | some p, some q => if SeqAt.shaped p = true ∧ SeqAt.shaped q = true then some (PyData.eqv p q) else none
  | _, _ => none
def dEq (a b : D) : Option D := (dEqb a b).map .bl
def dNe (a b : D) : Option D := (dEqb a b).map fun c => .bl (!c)
/-- is, of a truth value or None -/
def dIsb : D → D → Option Bool
  | .non, .non => some true
  | .bl a, .bl b => some (a == b)
  | _, .non => some false
  | .int _, .bl _ => some false
  | .str _, .bl _ => some false
  | .non, .bl _ => some false
  | .lst _, .bl _ => some false
  | .tup _, .bl _ => some false
  | _, _ => none
def dIs (a b : D) : Option D := (dIsb a b).map .bl
def dIsNot (a b : D) : Option D := (dIsb a b).map fun c => .bl (!c)
/-- truth -/
def dTru : D → Option Bool
  | .non => some false
  | .bl b => some b
  | .int i => some (i != 0)
  | .str x => if x.length ≤ sizeLine then some ((x.length : Int) != 0) else none
  | .lst xs => some (!xs.isEmpty)
  | .tup xs => some (!xs.isEmpty)
  | _ => none
def dLen : D → Option D
  | .lst xs => some (.int xs.length)
  | .tup xs => some (.int xs.length)
  | .scr ns => some (.int ns.length)
  | .str x => if x.length ≤ sizeLine then some (.int x.length) else none
  | _ => none
def dIx : D → D → Option D
  | .lst xs, .int i => atI xs i
  | .tup xs, .int i => atI xs i
  | .scr ns, .int i => (atI ns i).map .int
  | .str x, .int i => if x.length ≤ sizeLine then (atI x.cps.toList i).map fun c => .str ⟨#[c]⟩ else none
  | _, _ => none

section
variable {X : Cx}
theorem opr_imp {f : Value → Value → Sem Value} {r r' : R2} (h : OpR X f r) (i : ∀ x y H Q, r' x y H Q → r x y H Q) : OpR X f r' := fun pins s σ H x y v u Q I rx ry q => h pins s σ H x y v u Q I rx ry (i x y H Q q)
/-- list + list of any that can be read -/
theorem op_catR : OpR X (binaryOp .Add) (fun x y H Q => ∃ l b xs zs, x = .ref l ∧ y = .ref b ∧ Rd H l (.lst xs) ∧ Rd H b (.lst zs) ∧ xs.length + zs.length ≤ sizeLine ∧ ∀ p, H p = none → Q (.ref p) (upd H p (.lst (xs ++ zs)))) := by
  intro pins s σ H x y v u Q I rx ry h
  obtain ⟨l, b, xs, zs, rfl, rfl, hH, hB, hz, q⟩ := h
  cases rx
  cases ry
  obtain ⟨z1, its, n, r, e⟩ := hH.ok I.hok
  obtain ⟨z2, its2, n2, r2, e2⟩ := hB.ok I.hok
  refine PySem.P.add_list e e2 ?_ (by rw [List.size_toArray, List.size_toArray, ← r.length, ← r2.length]; exact hz)
  have ea : its.toArray ++ its2.toArray = (its ++ its2).toArray := by simp
  rw [ea]
  exact ⟨.ref _, _, I.lnew (t' := s.toks) (r.append r2) (by rw [List.length_append]; omega), rfl, q _ I.fresh⟩
theorem op_repR : OpR X (binaryOp .Mult) (fun x y H Q => ∃ l k xs, x = .ref l ∧ y = .int k ∧ Rd H l (.lst xs) ∧ -(2 ^ 63) ≤ k ∧ k < 2 ^ 63 ∧ xs.length * k.toNat ≤ sizeLine ∧ ∀ p, H p = none → Q (.ref p) (upd H p (.lst (List.replicate k.toNat xs).flatten))) := by
  intro pins s σ H x y v u Q I rx ry h
  obtain ⟨l, k, xs, rfl, rfl, hH, h1, h2, hz, q⟩ := h
  cases rx
  obtain ⟨t, rfl⟩ := ry
  obtain ⟨z, its, n, r, e⟩ := hH.ok I.hok
  have hl := r.length
  have hlen : its.toArray.size * k.toNat ≤ sizeLine := by rw [List.size_toArray, ← hl]; exact hz
  have hcap : ¬ its.toArray.size * k.toNat > (2 ^ 63 - 1) / 8 := by
    have : (sizeLine : Nat) ≤ (2 ^ 63 - 1) / 8 := by decide
    omega
  have hfit : ¬ (!Builtin.List.listFitsIndex k) = true := by
    rw [PySem.fitsIndex_both h1 h2]
    exact Bool.false_ne_true
  have hlong : ¬ Builtin.List.listTooLong (its.toArray.size * k.toNat) = true := by
    rw [notLongL hlen]
    exact Bool.false_ne_true
  have f0 : ∀ m : Nat, List.foldl (fun x1 x2 => x1 ++ x2) #[] (List.replicate m its.toArray) = (List.replicate m its).flatten.toArray := fun m => by
    have := foldl_rep its m []
    rw [List.nil_append] at this
    exact this
  have hnew : List.foldl (fun x1 x2 => x1 ++ x2) #[] (List.replicate (if its.toArray.isEmpty = true then 0 else k.toNat) its.toArray) = (List.replicate k.toNat its).flatten.toArray := by
    rw [f0]
    cases its with
    | nil => simp
    | cons a r' => rw [if_neg (by simp)]
  refine PySem.wpAny_binaryOp_repeat_ref (T := "list") (U := "int") (by decide) ⟨_, e, rfl⟩ (fun s' => typeIs_int s' k t) PySem.noFill_list_mul F.fills_int_mul F.slot_int_rmul PySem.repeat_list F.slot_int_index.lookup
    (call_meets F.slot_int_rmul (typeIs_int s k t) F.entry_int_rmul (F.args_int_rmul_2 _ _) (int___rmul___int_list k t l its.toArray n)
      ⟨e, rfl, ⟨_, e, rfl⟩, call_meets F.slot_list_mul ⟨_, e, rfl⟩ F.entry_list_mul (F.args_list_mul_2 _ _) (AutoListH.list___mul___list_int_3 l its.toArray n k t hfit hcap hlong) ⟨e, ?_⟩⟩)
  rw [hnew]
  exact ⟨.ref _, _, I.lnew (t' := s.toks) (r.rep k.toNat) (by rw [PyProof.Rows.lm_len_rep_flat, Nat.mul_comm]; exact hz), rfl, q _ I.fresh⟩
theorem reps_rep {K : PySem.W.Frag} {R : Hp} {L : List Addr} {vs : List V} {xs : List D} (h : Reps K R L vs xs) : ∀ k : Nat, Reps K R L (List.replicate k vs).flatten (List.replicate k xs).flatten
  | 0 => .nil
  | k + 1 => by
    rw [List.replicate_succ, List.replicate_succ, List.flatten_cons, List.flatten_cons]
    exact h.append (reps_rep h k)
/-- a new frozen list, a new frozen tuple -/
theorem rsE.newL {K : PySem.W.Frag} {R : Hp} {L : List Addr} {H : Hp} {vs : List V} {xs : List D} {Q : VK} (q : rsE K R L H (.lst xs) Q) (sub : Same R H) (r : Reps K R L vs xs) {p : Addr} (hp : H p = none) : Q (.ref p) (upd H p (.lst vs)) := by
  have x2 := Ext.new (u := .lst vs) sub hp
  exact q _ _ _ x2 (.lst (.inl upd_same) (Reps.mono x2.r (fun _ _ h => h) _ _ r))
theorem rsE.newT {K : PySem.W.Frag} {R : Hp} {L : List Addr} {H : Hp} {vs : List V} {xs : List D} {Q : VK} (q : rsE K R L H (.tup xs) Q) (sub : Same R H) (r : Reps K R L vs xs) {p : Addr} (hp : H p = none) : Q (.ref p) (upd H p (.tup vs)) := by
  have x2 := Ext.new (u := .tup vs) sub hp
  exact q _ _ _ x2 (.tup (.inl (.inl upd_same)) (Reps.mono x2.r (fun _ _ h => h) _ _ r))
theorem rsE.now {K : PySem.W.Frag} {R : Hp} {L : List Addr} {H : Hp} {d : D} {v : V} {Q : VK} (q : rsE K R L H d Q) (sub : Same R H) (r : Rep K R L v d) : Q v H := q _ _ _ (Ext.refl sub) r
theorem o_add : OpR X (binaryOp .Add) (G2 X.K dAdd) := by
  intro pins s σ H x y v u Q I rx ry ⟨R, L, dx, dy, d, sub, hx, hy, e, q⟩
  cases hx with
  | int i => cases hy with
    | int j => cases e; exact op_add pins s σ H _ _ v u Q I rx ry ⟨i, j, rfl, rfl, q.now sub (.int _)⟩
    | bl b => cases e; exact op_add_ib pins s σ H _ _ v u Q I rx ry ⟨i, b, rfl, rfl, q.now sub (.int _)⟩
    | _ => exact absurd e (by simp [dAdd])
  | str a => cases hy with
    | str b =>
      simp only [dAdd] at e
      split at e
      · cases e; exact op_add_str pins s σ H _ _ v u Q I rx ry ⟨a, b, rfl, rfl, ‹_›, q.now sub (.str _)⟩
      · cases e
    | _ => exact absurd e (by simp [dAdd])
  | lst h1 r1 => cases hy with
    | lst h2 r2 =>
      simp only [dAdd] at e
      split at e
      · cases e
        exact op_catR pins s σ H _ _ v u Q I rx ry ⟨_, _, _, _, rfl, rfl, rd_mono sub h1, rd_mono sub h2, by rw [r1.length, r2.length]; assumption, fun p hp => q.newL sub (r1.append r2) hp⟩
      · cases e
    | _ => exact absurd e (by simp [dAdd])
  | @tup a1 vs1 xs1 h1 r1 => cases hy with
    | @tup a2 vs2 xs2 h2 r2 =>
      simp only [dAdd] at e
      split at e
      · rename_i hz
        cases e
        refine op_catA pins s σ H _ _ v u Q I rx ry ⟨_, _, vs1, vs2, rfl, rfl, sqT_mono sub h1, sqT_mono sub h2, by rw [r1.length, r2.length]; exact hz, fun e1 => ?_, fun _ e2 => ?_, fun _ _ p hp => q.newT sub (r1.append r2) hp⟩
        · subst e1; cases r1; exact q.now sub (.tup h2 r2)
        · subst e2; cases r2; rw [List.append_nil] at q; exact q.now sub (.tup h1 r1)
      · cases e
    | _ => exact absurd e (by simp [dAdd])
  | _ => cases hy <;> exact absurd e (by simp [dAdd])
theorem o_sub : OpR X (binaryOp .Sub) (G2 X.K dSub) := by
  intro pins s σ H x y v u Q I rx ry ⟨R, L, dx, dy, d, sub, hx, hy, e, q⟩
  cases hx with
  | int i => cases hy with
    | int j => cases e; exact op_sub pins s σ H _ _ v u Q I rx ry ⟨i, j, rfl, rfl, q.now sub (.int _)⟩
    | _ => exact absurd e (by simp [dSub])
  | _ => cases hy <;> exact absurd e (by simp [dSub])
theorem big_log {i : Int} (h : Sm i) : i.natAbs.log2 < 1800 := PySem.Flt.log2_lt_of (by decide) h
theorem mul_ok {i j : Int} (h : Sm i ∧ Sm j ∨ i.natAbs.log2 + j.natAbs.log2 < 2000000) : IntMulOk i j := by
  have h3 : i.natAbs.log2 + j.natAbs.log2 < 2000000 := by
    rcases h with h | h
    · have := big_log h.1; have := big_log h.2; omega
    · exact h
  have b : ∀ x : Int, Builtin.Int.intBits x ≤ x.natAbs.log2 + 1 := fun x => by
    unfold Builtin.Int.intBits
    split <;> omega
  have h1 := b i
  have h2 := b j
  have e : bitsLine = 134217728 := by decide
  unfold IntMulOk
  intro z
  rw [Bool.and_eq_true] at z
  have z2 := z.2
  unfold Builtin.Int.intTooBig at z2
  have z3 := of_decide_eq_true z2
  rw [e] at z3
  omega
theorem op_mulX : OpR X (binaryOp .Mult) (rI (fun i j => Sm i ∧ Sm j ∨ i.natAbs.log2 + j.natAbs.log2 < 2000000) fun i j => .int (i * j)) := opI fun _ _ _ _ _ _ _ hc q => PyProof.Rows.mul_int q (mul_ok hc)
theorem o_mul : OpR X (binaryOp .Mult) (G2 X.K dMul) := by
  intro pins s σ H x y v u Q I rx ry ⟨R, L, dx, dy, d, sub, hx, hy, e, q⟩
  cases hx with
  | int i => cases hy with
    | int j =>
      simp only [dMul] at e
      split at e
      · rename_i h
        cases e
        exact op_mulX pins s σ H _ _ v u Q I rx ry ⟨i, j, rfl, rfl, h, q.now sub (.int _)⟩
      · cases e
    | _ => exact absurd e (by simp [dMul])
  | lst h1 r1 => cases hy with
    | int k =>
      simp only [dMul] at e
      split at e
      · rename_i h
        cases e
        exact op_repR pins s σ H _ _ v u Q I rx ry ⟨_, k, _, rfl, rfl, rd_mono sub h1, by omega, by omega, by rw [r1.length]; exact h.2, fun p hp => q.newL sub (reps_rep r1 _) hp⟩
      · cases e
    | _ => exact absurd e (by simp [dMul])
  | _ => cases hy <;> exact absurd e (by simp [dMul])
theorem op_fdivB : OpR X (binaryOp .FloorDiv) (rI (fun _ j => j ≠ 0 ∧ Sm j) fun i j => .int (i.fdiv j)) := opI fun i j _ _ _ _ _ hc q =>
  PyProof.Rows.floordiv_int hc.1 q (.inl (PyProof.noPylong_of_log2 (Nat.lt_trans (big_log hc.2) (by decide))))
theorem iop_fdivB : OpR X (inplaceOp .FloorDiv) (rI (fun _ j => j ≠ 0 ∧ Sm j) fun i j => .int (i.fdiv j)) := opI fun i j _ _ _ _ _ hc q =>
  PyProof.Rows.ifloordiv_int hc.1 q (.inl (PyProof.noPylong_of_log2 (Nat.lt_trans (big_log hc.2) (by decide))))
theorem o_fdiv : OpR X (binaryOp .FloorDiv) (G2 X.K dFdiv) := by
  intro pins s σ H x y v u Q I rx ry ⟨R, L, dx, dy, d, sub, hx, hy, e, q⟩
  cases hx with
  | int i => cases hy with
    | int j =>
      simp only [dFdiv] at e
      split at e
      · rename_i h; cases e; exact op_fdivB pins s σ H _ _ v u Q I rx ry ⟨i, j, rfl, rfl, h, q.now sub (.int _)⟩
      · cases e
    | _ => exact absurd e (by simp [dFdiv])
  | _ => cases hy <;> exact absurd e (by simp [dFdiv])
theorem o_mod : OpR X (binaryOp .Mod) (G2 X.K dMod) := by
  intro pins s σ H x y v u Q I rx ry ⟨R, L, dx, dy, d, sub, hx, hy, e, q⟩
  cases hx with
  | int i => cases hy with
    | int j =>
      simp only [dMod] at e
      split at e
      · rename_i h; cases e; exact op_modN pins s σ H _ _ v u Q I rx ry ⟨i, j, rfl, rfl, h, q.now sub (.int _)⟩
      · cases e
    | _ => exact absurd e (by simp [dMod])
  | _ => cases hy <;> exact absurd e (by simp [dMod])
theorem o_pow : OpR X (binaryOp .Pow) (G2 X.K dPow) := by
  intro pins s σ H x y v u Q I rx ry ⟨R, L, dx, dy, d, sub, hx, hy, e, q⟩
  cases hx with
  | int i => cases hy with
    | int j =>
      simp only [dPow] at e
      split at e
      · rename_i h; cases e; exact op_pow pins s σ H _ _ v u Q I rx ry ⟨i, j, rfl, rfl, h, q.now sub (.int _)⟩
      · cases e
    | _ => exact absurd e (by simp [dPow])
  | _ => cases hy <;> exact absurd e (by simp [dPow])
theorem o_xor : OpR X (binaryOp .BitXor) (G2 X.K dXor) := by
  intro pins s σ H x y v u Q I rx ry ⟨R, L, dx, dy, d, sub, hx, hy, e, q⟩
  cases hx with
  | int i => cases hy with
    | int j => cases e; exact op_xor pins s σ H _ _ v u Q I rx ry ⟨i, j, rfl, rfl, q.now sub (.int _)⟩
    | _ => exact absurd e (by simp [dXor])
  | _ => cases hy <;> exact absurd e (by simp [dXor])
theorem o_or : OpR X (binaryOp .BitOr) (G2 X.K dOr) := by
  intro pins s σ H x y v u Q I rx ry ⟨R, L, dx, dy, d, sub, hx, hy, e, q⟩
  cases hx with
  | int i => cases hy with
    | int j => cases e; exact op_or pins s σ H _ _ v u Q I rx ry ⟨i, j, rfl, rfl, q.now sub (.int _)⟩
    | _ => exact absurd e (by simp [dOr])
  | _ => cases hy <;> exact absurd e (by simp [dOr])
theorem o_neg : UnR X (unaryOp .USub) (G1 X.K dNeg) := by
  intro pins s σ H x v Q I rx ⟨R, L, dx, d, sub, hx, e, q⟩
  cases hx with
  | int i => cases e; exact un_neg pins s σ H _ v Q I rx ⟨i, rfl, q.now sub (.int _)⟩
  | _ => exact absurd e (by simp [dNeg])
theorem o_cmp {op : CmpOp} {p : Int → Int → Bool} (h : OpR X (compareOp op) (rI0 fun i j => .bl (p i j))) : OpR X (compareOp op) (G2 X.K (dCmp p)) := by
  intro pins s σ H x y v u Q I rx ry ⟨R, L, dx, dy, d, sub, hx, hy, e, q⟩
  cases hx with
  | int i => cases hy with
    | int j => cases e; exact h pins s σ H _ _ v u Q I rx ry ⟨i, j, rfl, rfl, q.now sub (.bl _)⟩
    | _ => exact absurd e (by simp [dCmp])
  | _ => cases hy <;> exact absurd e (by simp [dCmp])
abbrev dLt : D → D → Option D := dCmp fun i j => decide (i < j)
abbrev dLe : D → D → Option D := dCmp fun i j => decide (i ≤ j)
abbrev dGt : D → D → Option D := dCmp fun i j => decide (j < i)
abbrev dGe : D → D → Option D := dCmp fun i j => decide (j ≤ i)
theorem o_lt : OpR X (compareOp .Lt) (G2 X.K dLt) := o_cmp op_lt
theorem o_le : OpR X (compareOp .LtE) (G2 X.K dLe) := o_cmp op_le
theorem o_gt : OpR X (compareOp .Gt) (G2 X.K dGt) := o_cmp op_gt
theorem o_ge : OpR X (compareOp .GtE) (G2 X.K dGe) := o_cmp op_ge
mutual
theorem Rep.dp {K : PySem.W.Frag} {R : Hp} {L : List Addr} {H : Hp} (sub : Same R H) : ∀ (d : D) (v : V) (p : PyData), Rep K R L v d → d.py = some p → Dp K H v p
  | .non, _, _, h, e => by cases h; cases e; exact .non
  | .bl b, _, _, h, e => by cases h; cases e; exact .bl b
  | .int i, _, _, h, e => by cases h; cases e; exact .int i
  | .str x, _, _, h, e => by cases h; cases e; exact .str x
  | .lst xs, _, _, h, e => by
    obtain ⟨ps, e1, rfl⟩ := Option.map_eq_some_iff.mp e
    cases h with | lst hs hr => exact .lst (.inl (rd_mono sub hs)) (Reps.dp sub xs _ _ hr e1)
  | .tup xs, _, _, h, e => by
    obtain ⟨ps, e1, rfl⟩ := Option.map_eq_some_iff.mp e
    cases h with | tup hs hr => exact .tup (sqT_mono sub hs) (Reps.dp sub xs _ _ hr e1)
  | .obj _, _, _, _, e => by cases e
  | .dic _ _, _, _, _, e => by cases e
  | .set _, _, _, _, e => by cases e
  | .scr _, _, _, _, e => by cases e
theorem Reps.dp {K : PySem.W.Frag} {R : Hp} {L : List Addr} {H : Hp} (sub : Same R H) : ∀ (xs : List D) (vs : List V) (ps : List PyData), Reps K R L vs xs → D.pys xs = some ps → DpAll K H vs ps
  | [], _, _, h, e => by cases h; cases e; exact .nil
  | x :: xs, _, _, h, e => by
    cases h with
    | cons h1 h2 =>
      simp only [D.pys] at e
      split at e
      · rename_i p ps e1 e2
        cases e
        exact .cons (Rep.dp sub x _ _ h1 e1) (Reps.dp sub xs _ _ h2 e2)
      · cases e
end
theorem o_eq (hu : X.A.units + 64 < cLine) : OpR X (compareOp .Eq) (G2 X.K dEq) := by
  intro pins s σ H x y v u Q I rx ry ⟨R, L, dx, dy, d, sub, hx, hy, e, q⟩
  obtain ⟨c, e1, rfl⟩ := Option.map_eq_some_iff.mp e
  unfold dEqb at e1
  split at e1
  · rename_i p1 p2 q1 q2
    split at e1
    · rename_i h
      cases e1
      exact op_eqD hu pins s σ H x y v u Q I rx ry ⟨p1, p2, Rep.dp sub _ _ _ hx q1, Rep.dp sub _ _ _ hy q2, h.1, h.2, q.now sub (.bl _)⟩
    · cases e1
  · cases e1
theorem o_ne (hu : X.A.units + 64 < cLine) : OpR X (compareOp .NotEq) (G2 X.K dNe) := by
  intro pins s σ H x y v u Q I rx ry ⟨R, L, dx, dy, d, sub, hx, hy, e, q⟩
  obtain ⟨c, e1, rfl⟩ := Option.map_eq_some_iff.mp e
  unfold dEqb at e1
  split at e1
  · rename_i p1 p2 q1 q2
    split at e1
    · rename_i h
      cases e1
      exact op_neD hu pins s σ H x y v u Q I rx ry ⟨p1, p2, Rep.dp sub _ _ _ hx q1, Rep.dp sub _ _ _ hy q2, h.1, h.2, q.now sub (.bl _)⟩
    · cases e1
  · cases e1
theorem is_raw {K : PySem.W.Frag} {R : Hp} {L : List Addr} {x y : V} {dx dy : D} {v u : Value} {c : Bool} (hx : Rep K R L x dx) (hy : Rep K R L y dy) (rx : RelV x v) (ry : RelV y u) (e : dIsb dx dy = some c) : plainIs v u = true ∧ (v == u) = c := by
  cases hx <;> cases hy <;> first
    | (exfalso; revert e; simp [dIsb]; done)
    | (simp only [dIsb, Option.some.injEq] at e
       subst e
       first
         | (cases rx; cases ry; exact ⟨rfl, rfl⟩)
         | (cases rx; cases ry; rename_i a b; exact ⟨rfl, by cases a <;> cases b <;> rfl⟩)
         | (obtain ⟨t, rfl⟩ := rx; cases ry; exact ⟨rfl, rfl⟩))
theorem o_is : OpR X (compareOp .Is) (G2 X.K dIs) := by
  intro pins s σ H x y v u Q I rx ry ⟨R, L, dx, dy, d, sub, hx, hy, e, q⟩
  obtain ⟨c, e1, rfl⟩ := Option.map_eq_some_iff.mp e
  obtain ⟨p, e2⟩ := is_raw hx hy rx ry e1
  exact wpAny_is_plain p (by rw [e2]; exact ⟨.bl c, H, I, rfl, q.now sub (.bl _)⟩)
theorem o_isnot : OpR X (compareOp .IsNot) (G2 X.K dIsNot) := by
  intro pins s σ H x y v u Q I rx ry ⟨R, L, dx, dy, d, sub, hx, hy, e, q⟩
  obtain ⟨c, e1, rfl⟩ := Option.map_eq_some_iff.mp e
  obtain ⟨p, e2⟩ := is_raw hx hy rx ry e1
  exact wpAny_isNot_plain p (by rw [e2]; exact ⟨.bl (!c), H, I, rfl, q.now sub (.bl _)⟩)
theorem reps_empty {K : PySem.W.Frag} {R : Hp} {L : List Addr} {vs : List V} {xs : List D} (r : Reps K R L vs xs) : vs.isEmpty = xs.isEmpty := by cases r <;> rfl
theorem tru_rep {K : PySem.W.Frag} {R H : Hp} {L : List Addr} {x : V} {d : D} {c : Bool} (sub : Same R H) (h : Rep K R L x d) (e : dTru d = some c) : TruV K x H c := by
  cases h with
  | non => cases e; rfl
  | bl b => cases e; rfl
  | int i => cases e; rfl
  | str y =>
    simp only [dTru] at e
    split at e
    · cases e; exact ⟨‹_›, rfl⟩
    · cases e
  | lst h r => cases e; exact .inl ⟨_, .inl (rd_mono sub h), by rw [reps_empty r]⟩
  | tup h r => cases e; exact .inr (.inl ⟨_, sqT_mono sub h, by rw [reps_empty r]⟩)
  | obj _ => cases e
  | scr _ => cases e
theorem atI_map {α β : Type} {f : α → β} {xs : List α} {i : Int} {a : α} (e : atI xs i = some a) : atI (xs.map f) i = some (f a) := by
  unfold atI at e ⊢
  obtain ⟨j, e1, e2⟩ := Option.bind_eq_some_iff.mp e
  rw [List.length_map, e1]
  show (xs.map f)[j]? = some (f a)
  rw [List.getElem?_map, e2]; rfl
theorem atI_rep {K : PySem.W.Frag} {R : Hp} {L : List Addr} {vs : List V} {xs : List D} {i : Int} {d : D} (r : Reps K R L vs xs) (e : atI xs i = some d) : ∃ v, atI vs i = some v ∧ Rep K R L v d := by
  unfold atI at e ⊢
  obtain ⟨j, e1, e2⟩ := Option.bind_eq_some_iff.mp e
  obtain ⟨v, e3, h⟩ := r.get e2
  refine ⟨v, ?_, h⟩
  rw [r.length, e1]
  exact e3
theorem o_ix : IxR X (G2 X.K dIx) := by
  intro va sl pins s σ H x y v u Q I rx ry ⟨R, L, dx, dy, d, sub, hx, hy, e, q⟩ hs
  cases hy with
  | int i =>
    cases hx with
    | lst h r =>
      obtain ⟨w, e1, rw⟩ := atI_rep r e
      exact ix_seq va sl pins s σ H _ _ v u Q I rx ry (.inl ⟨_, _, i, w, rfl, rfl, .inl (rd_mono sub h), e1, q.now sub rw⟩) hs
    | tup h r =>
      obtain ⟨w, e1, rw⟩ := atI_rep r e
      exact ix_seq va sl pins s σ H _ _ v u Q I rx ry (.inr (.inl ⟨_, _, i, w, rfl, rfl, sqT_mono sub h, e1, q.now sub rw⟩)) hs
    | scr h =>
      obtain ⟨n, e1, rfl⟩ := Option.map_eq_some_iff.mp e
      exact ix_seq va sl pins s σ H _ _ v u Q I rx ry (.inl ⟨_, _, i, .int n, rfl, rfl, sub.seq h, atI_map e1, q.now sub (.int n)⟩) hs
    | str z =>
      simp only [dIx] at e
      split at e
      · rename_i hz
        obtain ⟨c, e1, rfl⟩ := Option.map_eq_some_iff.mp e
        exact ix_seq va sl pins s σ H _ _ v u Q I rx ry (.inr (.inr ⟨z, i, c, rfl, rfl, hz, e1, q.now sub (.str _)⟩)) hs
      · cases e
    | _ => exact absurd e (by simp [dIx])
  | _ => cases hx <;> exact absurd e (by simp [dIx])
end
end Ev

namespace Ev
open PySem L2

/-! ## expressions -/
theorem W.optE {K : PySem.W.Frag} {m : Bool} {o : Option D} {s : Sta} {G : Gh} {σ : St} {H : Hp} {Q : VK} (r : Rel K G s σ H) (h : W K (o.map fun d => (d, s)) G σ H (fun d G' _ H' => ∀ v, Rep K (md m G' H') G'.I v d → Q v H')) :
    ∃ d, o = some d ∧ rsE K (md m G H) G.I H d Q := by
  obtain ⟨d, s', e, q⟩ := h
  obtain ⟨d', e1, e2⟩ := Option.map_eq_some_iff.mp e
  cases e2
  refine ⟨d, e1, fun v R' H' x rv => ?_⟩
  obtain ⟨G1, r1, f1, ei, sm⟩ := md_ext m r x
  exact q _ H' r1 f1 v (by rw [ei]; exact Rep.mono sm (fun _ _ h => h) _ _ rv)
def e1 (g : D → Option D) (f : EvE) : EvE := fun s => (f s).bind fun p => (g p.1).map fun d => (d, p.2)
def e2 (g : D → D → Option D) (f h : EvE) : EvE := fun s => (f s).bind fun p => (h p.2).bind fun q => (g p.1 q.1).map fun d => (d, q.2)
def eC (d : D) : EvE := fun s => some (d, s)
def eT (f : EvE) : EvT := fun s => (f s).bind fun p => (dTru p.1).map fun c => (c, p.2)
/-- a comparison's answer -/
def eTb (f : EvE) : EvT := fun s => (f s).bind fun p => match p.1 with | .bl c => some (c, p.2) | _ => none
def wAnd (f g : EvT) : EvT := fun s => (f s).bind fun p => if p.1 = true then g p.2 else some (false, p.2)
def wOr (f g : EvT) : EvT := fun s => (f s).bind fun p => if p.1 = true then some (true, p.2) else g p.2
def wNot (f : EvT) : EvT := fun s => (f s).bind fun p => some (!p.1, p.2)
def eAnd (f g : EvE) : EvE := fun s => (f s).bind fun p => (dTru p.1).bind fun c => if c = true then g p.2 else some (p.1, p.2)
def eOr (f g : EvE) : EvE := fun s => (f s).bind fun p => (dTru p.1).bind fun c => if c = true then some (p.1, p.2) else g p.2
def eNot (f : EvE) : EvE := fun s => (f s).bind fun p => (dTru p.1).map fun c => (.bl (!c), p.2)
def eIf (c : EvT) (f g : EvE) : EvE := fun s => (c s).bind fun p => if p.1 = true then f p.2 else g p.2
def aNil : EvA := fun s => some ([], s)
def aCons (f : EvE) (g : EvA) : EvA := fun s => (f s).bind fun p => (g p.2).bind fun q => some (p.1 :: q.1, q.2)
def eL (g : List D → Option D) (f : EvA) : EvE := fun s => (f s).bind fun p => (g p.1).map fun d => (d, p.2)
def dTup (xs : List D) : Option D := if xs.length ≤ sizeLine then some (.tup xs) else none
/-- a op b op' c -/
def e3 (g h : D → D → Option D) (f1 f2 f3 : EvE) : EvE := fun s => (f1 s).bind fun p => (f2 p.2).bind fun q => (g p.1 q.1).bind fun r => match r with
  | .bl true => (f3 q.2).bind fun t => (h q.1 t.1).map fun d => (d, t.2)
  | .bl false => some (.bl false, q.2)
  | _ => none

section
variable {X : Cx} {m : Bool} {a b c : Expr} {f g h : EvE} {pos : Pos}
theorem s_const {e : Expr} {v : V} {d : D} (he : PE X e (tC v)) (r : ∀ R L, Rep X.K R L v d) : SX X m e (eC d) := pe_imp he fun σ H Q ⟨G, s, rel, w⟩ => w.now rel v (r _ _)
theorem s_int {i j pos} : SX X m (.Constant (.int i) j pos) (eC (.int i)) := s_const pe_int fun _ _ => .int i
theorem s_bl {i j pos} : SX X m (.Constant (.bool i) j pos) (eC (.bl i)) := s_const pe_bl fun _ _ => .bl i
theorem s_non {j pos} : SX X m (.Constant .none j pos) (eC .non) := s_const pe_non fun _ _ => .non
theorem s_str {i j pos} : SX X m (.Constant (.str i) j pos) (eC (.str i)) := s_const pe_str fun _ _ => .str i
theorem s_bin {op : Operator} {r : D → D → Option D} (ho : OpR X (binaryOp op) (G2 X.K r)) (ha : SX X m a f) (hb : SX X m b g) : SX X m (.BinOp a op b pos) (e2 r f g) :=
  pe_imp (pe_op ho ha hb) fun σ H Q ⟨G, s, rel, w⟩ => ⟨G, s, rel, w.bind.imp fun dx G1 s1 H1 rel1 _ w1 v rv => ⟨G1, s1, rel1, w1.bind.imp fun dy G2 s2 H2 rel2 fr2 w2 u ru => by
    obtain ⟨d, e, q⟩ := w2.optE rel2
    exact ⟨md m G2 _, G2.I, dx, dy, d, md_sub m rel2, Rep.mono (md_mono m fr2) fr2.l _ _ rv, ru, e, q⟩⟩⟩
theorem s_un {op : UnaryOp} {r : D → Option D} (ho : UnR X (unaryOp op) (G1 X.K r)) (ha : SX X m a f) : SX X m (.UnaryOp op a pos) (e1 r f) :=
  pe_imp (pe_un ho ha) fun σ H Q ⟨G, s, rel, w⟩ => ⟨G, s, rel, w.bind.imp fun dx G1 s1 H1 rel1 _ w1 v rv => by
    obtain ⟨d, e, q⟩ := w1.optE rel1
    exact ⟨md m G1 _, G1.I, dx, d, md_sub m rel1, rv, e, q⟩⟩
theorem rd_op {op : CmpOp} {r : D → D → Option D} (σ : St) (H : Hp) (Q : VK) (q : tE X.K m (e2 r f g) σ H Q) : tOp (G2 X.K r) (tE X.K m f) (tE X.K m g) σ H Q := by
  obtain ⟨G, s, rel, w⟩ := q
  exact ⟨G, s, rel, w.bind.imp fun dx G1 s1 H1 rel1 _ w1 v rv => ⟨G1, s1, rel1, w1.bind.imp fun dy G2 s2 H2 rel2 fr2 w2 u ru => by
    obtain ⟨d, e, q⟩ := w2.optE rel2
    exact ⟨md m G2 _, G2.I, dx, dy, d, md_sub m rel2, Rep.mono (md_mono m fr2) fr2.l _ _ rv, ru, e, q⟩⟩⟩
theorem s_cmp {op : CmpOp} {r : D → D → Option D} (ho : OpR X (compareOp op) (G2 X.K r)) (ha : SX X m a f) (hb : SX X m b g) (hm : behindInMarks op b = false) : SX X m (.Compare a [op] [b] pos) (e2 r f g) :=
  pe_imp (pe_cmpR ho ha hb hm) fun σ H Q q => rd_op (op := op) σ H Q q
/-- a test of a bool's reading -/
theorem rd_test {t : TE} {f : EvE} (i : ∀ σ H Q, tE X.K m f σ H Q → t σ H Q) (σ : St) (H : Hp) (Q : Bool → Hp → Prop) (q : tT X.K (eTb f) σ H Q) : tTest t σ H Q := by
  obtain ⟨G, s, rel, b, s2, e, q⟩ := q
  obtain ⟨⟨d, s1⟩, ea, eb⟩ := Option.bind_eq_some_iff.mp e
  refine i σ H _ ⟨G, s, rel, d, s1, ea, fun G1 H1 rel1 fr1 v rv => ?_⟩
  cases d with
  | bl k =>
    cases eb
    cases rv
    exact ⟨b, rfl, q G1 H1 rel1 fr1⟩
  | _ => cases eb
theorem t_cmp {op : CmpOp} {r : D → D → Option D} (ho : OpR X (compareOp op) (G2 X.K r)) (ha : SX X m a f) (hb : SX X m b g) (hm : behindInMarks op b = false) : STt X (.Compare a [op] [b] pos) (eTb (e2 r f g)) :=
  pt_imp (pt_cmpR ho ha hb hm) (rd_test fun σ H Q q => rd_op (op := op) σ H Q q)
theorem rd_chain {r r' : D → D → Option D} (σ : St) (H : Hp) (Q : VK) (q : tE X.K m (e3 r r' f g h) σ H Q) : tChain (G2 X.K r) (G2 X.K r') (tE X.K m f) (tE X.K m g) (tE X.K m h) σ H Q := by
  obtain ⟨G, s, rel, w⟩ := q
  let k2 : D → D → Sta → Option (D × Sta) := fun dx dy s2 => (r dx dy).bind fun c => match c with
    | .bl true => (h s2).bind fun t => (r' dy t.1).map fun d => (d, t.2)
    | .bl false => some (.bl false, s2)
    | _ => none
  refine ⟨G, s, rel, (W.bind (k := fun dx s1 => (g s1).bind fun q => k2 dx q.1 q.2) w).imp fun dx G1 s1 H1 rel1 _ w1 v rv => ⟨G1, s1, rel1, (W.bind (k := k2 dx) w1).imp fun dy G2 s2 H2 rel2 fr2 w2 u ru => ?_⟩⟩
  obtain ⟨d3, s3, e, q⟩ := w2
  obtain ⟨d, ed, e⟩ := Option.bind_eq_some_iff.mp e
  refine ⟨md m G2 _, G2.I, dx, dy, d, md_sub m rel2, Rep.mono (md_mono m fr2) fr2.l _ _ rv, ru, ed, fun z R' H' x rz => ?_⟩
  obtain ⟨G4, rel4, fr4, ei, sm⟩ := md_ext m rel2 x
  cases d with
  | bl k =>
    cases rz
    refine ⟨k, rfl, ?_⟩
    cases k with
    | false =>
      cases e
      rw [if_neg Bool.false_ne_true]
      exact q _ _ rel4 fr4 _ (.bl _)
    | true =>
      rw [if_pos rfl]
      have w3 : W X.K ((h s2).bind fun t => (r' dy t.1).map fun d => (d, t.2)) G4 σ H' (fun d G' _ H' => ∀ v, Rep X.K (md m G' H') G'.I v d → Q v H') :=
        ⟨d3, s3, e, fun G5 H5 r5 f5 => q G5 H5 r5 (fr4.trans f5)⟩
      refine ⟨_, s2, rel4, (W.bind (k := fun t s => (r' dy t).map fun d => (d, s)) w3).imp fun dz G5 s5 H5 rel5 fr5 w5 y ry => ?_⟩
      obtain ⟨d6, e6, q6⟩ := w5.optE rel5
      exact ⟨md m G5 _, G5.I, dy, dz, d6, md_sub m rel5, Rep.mono ((x.r.trans sm).trans (md_mono m fr5)) (by rw [← ei]; exact fr5.l) _ _ ru, ry, e6, q6⟩
  | _ => cases e
theorem s_chain {op op' : CmpOp} {r r' : D → D → Option D} (ho : OpR X (compareOp op) (G2 X.K r)) (ho' : OpR X (compareOp op') (G2 X.K r')) (ha : SX X m a f) (hb : SX X m b g) (hc : SX X m c h)
    (hm : lastMarks [op, op'] [b, c] = false := by with_unfolding_all rfl) : SX X m (.Compare a [op, op'] [b, c] pos) (e3 r r' f g h) := pe_imp (pe_chain ho ho' ha hb hc hm) fun σ H Q q => rd_chain σ H Q q
theorem t_chain {op op' : CmpOp} {r r' : D → D → Option D} (ho : OpR X (compareOp op) (G2 X.K r)) (ho' : OpR X (compareOp op') (G2 X.K r')) (ha : SX X m a f) (hb : SX X m b g) (hc : SX X m c h)
    (hm : lastMarks [op, op'] [b, c] = false := by with_unfolding_all rfl) : STt X (.Compare a [op, op'] [b, c] pos) (eTb (e3 r r' f g h)) := pt_imp (pt_chain ho ho' ha hb hc hm) (rd_test fun σ H Q q => rd_chain σ H Q q)
theorem W.optT {K : PySem.W.Frag} {α : Type} {o : Option α} {s : Sta} {G : Gh} {σ : St} {H : Hp} {Q : α → Hp → Prop} (r : Rel K G s σ H) (h : W K (o.map fun d => (d, s)) G σ H (fun b _ _ H' => Q b H')) : ∃ d, o = some d ∧ Q d H := by
  obtain ⟨d, s', e, q⟩ := h
  obtain ⟨d', e1, e2⟩ := Option.map_eq_some_iff.mp e
  cases e2
  exact ⟨d, e1, q G H r (Fr.refl _ _ _)⟩
/-- any expression by its truth -/
theorem t_val (ha : SX X m a f) (he : ∀ whole, isTrue a X.env whole = (do let v ← whole; standAt a.pos; holding [v] (truthy v)) := by intro _; rfl) : STt X a (eT f) :=
  pt_imp (pt_truth ha he) fun σ H Q ⟨G, s, rel, w⟩ => ⟨G, s, rel, w.bind.imp fun d G1 s1 H1 rel1 _ w1 v rv => by
    obtain ⟨c, e, q⟩ := w1.optT rel1
    exact ⟨c, tru_rep (md_sub m rel1) rv e, q⟩⟩
variable {tf tg : EvT} {rest : List Expr}
theorem w_and1 (ha : STt X a tf) : STw X (.BoolOp .And [a] pos) tf := pw_and1 ha
theorem w_or1 (ha : STt X a tf) : STw X (.BoolOp .Or [a] pos) tf := pw_or1 ha
theorem w_and (ha : STt X a tf) (hb : STw X (.BoolOp .And (b :: rest) pos) tg) : STw X (.BoolOp .And (a :: b :: rest) pos) (wAnd tf tg) :=
  pw_imp (pw_and ha hb) fun σ H Q ⟨G, s, rel, w⟩ => ⟨G, s, rel, (W.bind (k := fun c s => if c = true then tg s else some (false, s)) w).imp fun c G1 s1 H1 rel1 _ w1 => by
    cases c with
    | true => exact ⟨G1, s1, rel1, w1⟩
    | false => exact w1.now rel1⟩
theorem w_or (ha : STt X a tf) (hb : STw X (.BoolOp .Or (b :: rest) pos) tg) : STw X (.BoolOp .Or (a :: b :: rest) pos) (wOr tf tg) :=
  pw_imp (pw_or ha hb) fun σ H Q ⟨G, s, rel, w⟩ => ⟨G, s, rel, (W.bind (k := fun c s => if c = true then some (true, s) else tg s) w).imp fun c G1 s1 H1 rel1 _ w1 => by
    cases c with
    | false => exact ⟨G1, s1, rel1, w1⟩
    | true => exact w1.now rel1⟩
theorem t_not (ha : STt X a tf) : STt X (.UnaryOp .Not a pos) (wNot tf) :=
  pt_imp (pt_not ha) fun σ H Q ⟨G, s, rel, w⟩ => ⟨G, s, rel, (W.bind (k := fun c s => some (!c, s)) w).imp fun c G1 s1 H1 rel1 _ w1 => w1.now rel1⟩
theorem s_one {op} (ha : SX X m a f) : SX X m (.BoolOp op [a] pos) f := pe_one ha
theorem s_and (ha : SX X m a f) (hb : SX X m (.BoolOp .And (b :: rest) pos) g) : SX X m (.BoolOp .And (a :: b :: rest) pos) (eAnd f g) :=
  pe_imp (pe_andT ha hb) fun σ H Q ⟨G, s, rel, w⟩ => ⟨G, s, rel, (W.bind (k := fun d s => (dTru d).bind fun c => if c = true then g s else some (d, s)) w).imp fun d G1 s1 H1 rel1 _ w1 v rv => by
    obtain ⟨z, s2, e, q⟩ := w1
    obtain ⟨c, e1, e2⟩ := Option.bind_eq_some_iff.mp e
    refine ⟨c, tru_rep (md_sub m rel1) rv e1, ?_⟩
    cases c with
    | true => exact ⟨G1, s1, rel1, z, s2, e2, q⟩
    | false => cases e2; exact q G1 H1 rel1 (Fr.refl _ _ _) _ rv⟩
theorem s_or (ha : SX X m a f) (hb : SX X m (.BoolOp .Or (b :: rest) pos) g) : SX X m (.BoolOp .Or (a :: b :: rest) pos) (eOr f g) :=
  pe_imp (pe_orT ha hb) fun σ H Q ⟨G, s, rel, w⟩ => ⟨G, s, rel, (W.bind (k := fun d s => (dTru d).bind fun c => if c = true then some (d, s) else g s) w).imp fun d G1 s1 H1 rel1 _ w1 v rv => by
    obtain ⟨z, s2, e, q⟩ := w1
    obtain ⟨c, e1, e2⟩ := Option.bind_eq_some_iff.mp e
    refine ⟨c, tru_rep (md_sub m rel1) rv e1, ?_⟩
    cases c with
    | false => exact ⟨G1, s1, rel1, z, s2, e2, q⟩
    | true => cases e2; exact q G1 H1 rel1 (Fr.refl _ _ _) _ rv⟩
theorem s_not (ha : SX X m a f) : SX X m (.UnaryOp .Not a pos) (eNot f) :=
  pe_imp (pe_notT ha) fun σ H Q ⟨G, s, rel, w⟩ => ⟨G, s, rel, (W.bind (k := fun d s => (dTru d).map fun c => (D.bl (!c), s)) w).imp fun d G1 s1 H1 rel1 _ w1 v rv => by
    obtain ⟨z, s2, e, q⟩ := w1
    obtain ⟨c, e1, e2⟩ := Option.map_eq_some_iff.mp e
    cases e2
    exact ⟨c, tru_rep (md_sub m rel1) rv e1, q G1 H1 rel1 (Fr.refl _ _ _) _ (.bl _)⟩⟩
theorem s_if (hc : STt X c tf) (ha : SX X m a f) (hb : SX X m b g) : SX X m (.IfExp c a b pos) (eIf tf f g) :=
  pe_imp (pe_ifExp hc ha hb) fun σ H Q ⟨G, s, rel, w⟩ => ⟨G, s, rel, (W.bind (k := fun c s => if c = true then f s else g s) w).imp fun c G1 s1 H1 rel1 _ w1 => by
    cases c with
    | true => exact ⟨G1, s1, rel1, w1⟩
    | false => exact ⟨G1, s1, rel1, w1⟩⟩
theorem s_ix (ha : SX X m a f) (hb : SX X m b g) (hs : PlainIx b := by exact fun _ _ => rfl) : SX X m (.Subscript a b pos) (e2 dIx f g) :=
  pe_imp (pe_ix o_ix ha hb hs) fun σ H Q q => rd_op (op := .Eq) σ H Q q
variable {fa ga : EvA} {es : List Expr}
theorem a_nil : SAm X m [] aNil := pa_imp pa_nil fun σ H Q ⟨G, s, rel, w⟩ => w.now rel [] .nil
theorem a_cons (ha : SX X m a f) (hr : SAm X m es ga) (hs : starEach (a :: es) X.env = (false, eval a X.env) :: starEach es X.env := by rfl) : SAm X m (a :: es) (aCons f ga) :=
  pa_imp (pa_cons ha hr hs) fun σ H Q ⟨G, s, rel, w⟩ => ⟨G, s, rel, (W.bind (k := fun d s => (ga s).bind fun q => some (d :: q.1, q.2)) w).imp fun d G1 s1 H1 rel1 _ w1 v rv =>
    ⟨G1, s1, rel1, (W.bind (k := fun ds s => some (d :: ds, s)) w1).imp fun ds G2 s2 H2 rel2 fr2 w2 vs rvs => w2.now rel2 (v :: vs) (.cons (Rep.mono (md_mono m fr2) fr2.l _ _ rv) rvs)⟩⟩
theorem s_tup {k : Nat} (ha : SAm X m es fa) : SX X m (.Tuple es k pos) (eL dTup fa) :=
  pe_imp (pe_tup ha) fun σ H Q ⟨G, s, rel, w⟩ => ⟨G, s, rel, (W.bind (k := fun ds s => (dTup ds).map fun d => (d, s)) w).imp fun ds G1 s1 H1 rel1 _ w1 vs rvs => by
    obtain ⟨d, e, q⟩ := w1.optE rel1
    unfold dTup at e
    split at e
    · cases e
      exact ⟨by rw [rvs.length]; assumption, fun p hp => q.newT (md_sub m rel1) rvs hp⟩
    · cases e⟩
/-- a built-in function by its values -/
theorem s_blt {x : Str} {p : Pos} {id : String} {r : List D → Option D} (hc : CallR X (.builtin id) (GL X.K r)) (hg : Gl X x) (hm : X.mg x = none) (hv : bootBuiltins x = some (.builtin id)) (ha : SAm X m (a :: es) fa) (hn : x ≠ "__name__" := by decide) (hdb : (x == ("__debug__" : Str)) = false := by decide)
    (he : starEach (a :: es) X.env = (false, eval a X.env) :: starEach es X.env := by rfl) (hpl : (backTo pos (starEach es X.env)).any (·.1) = false := by rfl) : SX X m (.Call (.Name x p) (a :: es) [] pos) (eL r fa) :=
  pe_imp (pe_callB hc hg hm hv ha hn hdb he hpl) fun σ H Q ⟨G, s, rel, w⟩ => ⟨G, s, rel, w.bind.imp fun ds G1 s1 H1 rel1 _ w1 vs rvs => by
    obtain ⟨d, e, q⟩ := w1.optE rel1
    exact ⟨md m G1 _, G1.I, ds, d, md_sub m rel1, rvs, e, q⟩⟩
theorem s_bty {x : Str} {p : Pos} {id : String} {r : List D → Option D} (hc : CallR X (.type id) (GL X.K r)) (hg : Gl X x) (hm : X.mg x = none) (hv : bootBuiltins x = some (.type id)) (ha : SAm X m (a :: es) fa) (hn : x ≠ "__name__" := by decide) (hdb : (x == ("__debug__" : Str)) = false := by decide)
    (he : starEach (a :: es) X.env = (false, eval a X.env) :: starEach es X.env := by rfl) (hpl : (backTo pos (starEach es X.env)).any (·.1) = false := by rfl) : SX X m (.Call (.Name x p) (a :: es) [] pos) (eL r fa) :=
  pe_imp (pe_callTy hc hg hm hv ha hn hdb he hpl) fun σ H Q ⟨G, s, rel, w⟩ => ⟨G, s, rel, w.bind.imp fun ds G1 s1 H1 rel1 _ w1 vs rvs => by
    obtain ⟨d, e, q⟩ := w1.optE rel1
    exact ⟨md m G1 _, G1.I, ds, d, md_sub m rel1, rvs, e, q⟩⟩
/-- .. that stands in a module's name (math.gcd) -/
theorem s_bfun {x : Str} {p : Pos} {id : String} {r : List D → Option D} (hc : CallR X (.builtin id) (GL X.K r)) (hg : Gl X x) (hm : X.mg x = some (.builtin id)) (ha : SAm X m (a :: es) fa) (hdb : (x == ("__debug__" : Str)) = false := by decide)
    (he : starEach (a :: es) X.env = (false, eval a X.env) :: starEach es X.env := by rfl) (hpl : (backTo pos (starEach es X.env)).any (·.1) = false := by rfl) : SX X m (.Call (.Name x p) (a :: es) [] pos) (eL r fa) :=
  pe_imp (pe_callBfun hc hg hm ha hdb he hpl) fun σ H Q ⟨G, s, rel, w⟩ => ⟨G, s, rel, w.bind.imp fun ds G1 s1 H1 rel1 _ w1 vs rvs => by
    obtain ⟨d, e, q⟩ := w1.optE rel1
    exact ⟨md m G1 _, G1.I, ds, d, md_sub m rel1, rvs, e, q⟩⟩
/-- what is frozen may be looked at -/
theorem s_low (ha : SE X a f) : SX X true a f := pe_imp ha fun σ H Q ⟨G, s, rel, w⟩ => ⟨G, s, rel, w.imp fun d G1 s1 H1 rel1 _ q v rv => q v (Rep.mono (md_low true rel1) (fun _ _ h => h) _ _ rv)⟩
theorem a_low (ha : SA X es fa) : SAm X true es fa := pa_imp ha fun σ H Q ⟨G, s, rel, w⟩ => ⟨G, s, rel, w.imp fun d G1 s1 H1 rel1 _ q v rv => q v (Reps.mono (md_low true rel1) (fun _ _ h => h) _ _ rv)⟩
/-- a plain thing -/
def D.plain : D → Bool
  | .non => true
  | .bl _ => true
  | .int _ => true
  | .str _ => true
  | _ => false
def eP (f : EvE) : EvE := fun s => (f s).bind fun p => if p.1.plain = true then some p else none
theorem Rep.any {K : PySem.W.Frag} {R R' : Hp} {L L' : List Addr} {v : V} {d : D} (h : Rep K R L v d) (p : d.plain = true) : Rep K R' L' v d := by
  cases h with
  | non => exact .non
  | bl b => exact .bl b
  | int i => exact .int i
  | str x => exact .str x
  | _ => cases p
theorem s_pl (ha : SX X true a f) : SE X a (eP f) := pe_imp ha fun σ H Q ⟨G, s, rel, w⟩ => ⟨G, s, rel, (W.bind (k := fun d s => if d.plain = true then some (d, s) else none) w).imp fun d G1 s1 H1 rel1 _ w1 v rv => by
    by_cases hp : d.plain = true
    · rw [if_pos hp] at w1
      exact w1.now rel1 v (rv.any hp)
    · rw [if_neg hp] at w1
      obtain ⟨_, _, e, _⟩ := w1
      cases e⟩
end
end Ev

namespace Ev
open PySem L2

/-! ## slots and places -/
section
variable {K : PySem.W.Frag} {R R' : Hp} {L L' : List Addr} {H H' : Hp}
theorem RepE.focus : ∀ {σ : St} {e : List (Option B)} {f : List Addr} {i : Nat} {b : B}, RepE K R L H σ e f → e[i]? = some (some b) →
    ∃ v f1 f2 f3, σ[i]? = some (some v) ∧ f = f1 ++ (f2 ++ f3) ∧ RepB K R L H v b f2 ∧
      ∀ {R' : Hp} {L' : List Addr} {H' : Hp} {v' : V} {b' : B} {g : List Addr}, Same R R' → Pre L L' → RepB K R' L' H' v' b' g → (∀ a ∈ f1 ++ f3, H' a = H a) → (∀ a ∈ f1 ++ f3, R' a = none) →
        RepE K R' L' H' (σ.set i (some v')) (e.set i (some b')) (f1 ++ (g ++ f3))
  | _, _, _, 0, b, .val (f := f2) (g := f3) h t, q => by
    simp at q; subst q
    refine ⟨_, [], f2, f3, rfl, rfl, h, fun {R' L' H' v' b' g} hR hL hb e n => ?_⟩
    show RepE K R' L' H' _ _ (g ++ f3)
    exact .val hb (RepE.mono hR hL e n t)
  | _, _, _, 0, b, .non t, q => by simp at q
  | _, _, _, i + 1, b, .val (b := b0) (f := f0) h t, q => by
    obtain ⟨v, f1, f2, f3, e1, e2, e3, k⟩ := RepE.focus (i := i) t (by simpa using q)
    refine ⟨v, f0 ++ f1, f2, f3, by simpa using e1, by rw [e2, List.append_assoc], e3, fun {R' L' H' v' b' g} hR hL hb e n => ?_⟩
    rw [List.append_assoc] at e n ⊢
    exact .val (RepB.mono hR hL b0 _ _ (fun a ha => e a (List.mem_append_left _ ha)) (fun a ha => n a (List.mem_append_left _ ha)) h) (k hR hL hb (fun a ha => e a (List.mem_append_right _ ha)) fun a ha => n a (List.mem_append_right _ ha))
  | _, _, _, i + 1, b, .non t, q => by
    obtain ⟨v, f1, f2, f3, e1, e2, e3, k⟩ := RepE.focus (i := i) t (by simpa using q)
    exact ⟨v, f1, f2, f3, by simpa using e1, e2, e3, fun hR hL hb e n => .non (k hR hL hb e n)⟩
  | _, _, _, _, _, .nil, q => by simp at q
theorem Same.sub_none {R H : Hp} (s : Same R H) {a : Addr} (h : H a = none) : R a = none := s.free h
end

theorem set_self {α : Type} {l : List α} {i : Nat} {v : α} (h : l[i]? = some v) : l.set i v = l := by
  obtain ⟨h1, h2⟩ := List.getElem?_eq_some_iff.mp h
  subst h2
  exact List.set_getElem_self h1
theorem nodup_sub {a b : List Addr} (h : b.Nodup) (c : ∀ x : Addr, List.count x a ≤ List.count x b) : a.Nodup := by
  rw [List.nodup_iff_count] at h ⊢
  exact fun x => Nat.le_trans (c x) (h x)
theorem nodup_ne {a b : List Addr} (h : (a ++ b).Nodup) {x : Addr} (h1 : x ∈ a) (h2 : x ∈ b) : False := (List.nodup_append.mp h).2.2 x h1 x h2 rfl

section
variable {K : PySem.W.Frag} {G : Gh} {s : Sta} {σ : St} {H : Hp}
/-- a slot's own list becomes a value -/
theorem Rel.freeze {i : Nat} {xs : List B} (r : Rel K G s σ H) (e : s.env[i]? = some (some (.o xs))) :
    ∃ v G', σ[i]? = some (some v) ∧ Rel K G' (s.put i (some (.v (B.o xs).frz))) σ H ∧ Rep K G'.R G'.I v (B.o xs).frz ∧ Fr false G H G' H := by
  obtain ⟨v, f1, f2, f3, e1, e2, hb, k⟩ := r.env.focus e
  have nd := r.nd
  rw [e2] at nd
  have n0 : ∀ a ∈ f2, G.R a = none := fun a ha => (RepB.live _ _ _ hb a ha).1
  have sm : Same G.R (frz G.R H f2) := frz_same n0
  have hv := RepB.frozen (R' := frz G.R H f2) (L' := G.I) sm (fun _ _ h => h) _ _ _ (fun a ha => frz_in ha) hb
  have out : ∀ a, a ∈ f1 ++ f3 → a ∉ f2 := fun a h1 h2 => by
    have nd2 : (f2 ++ (f1 ++ f3)).Nodup := nodup_sub nd fun x => by simp only [List.count_append]; omega
    exact nodup_ne nd2 h2 h1
  have outL : ∀ a, a ∈ G.L → a ∉ f2 := fun a h1 h2 => by
    have nd2 : (f2 ++ G.L).Nodup := nodup_sub nd fun x => by simp only [List.count_append]; omega
    exact nodup_ne nd2 h2 h1
  have rO := r.env.live
  refine ⟨v, ⟨frz G.R H f2, G.L, f1 ++ ([] ++ f3), G.J⟩, e1, ⟨fun a o q => ?_, ?_, nodup_sub nd fun x => by simp only [List.count_append, List.count_nil]; omega, fun a ha => ?_, r.len, r.il, r.pl, fun n c h => ?_⟩, hv, ⟨sm, fun a h => ?_, fun _ _ h => h, fun a h => .inl ?_, fun _ h => .inl h, fun _ _ h _ _ => h, fun _ h => h, rfl⟩⟩
  · have q : frz G.R H f2 a = some o := q
    by_cases ha : a ∈ f2
    · rw [frz_in ha] at q; exact q
    · rw [frz_out ha] at q; exact r.sub _ _ q
  · have := k (v' := v) sm (fun _ _ h => h) (.v hv) (fun _ _ => rfl) (fun a ha => by
      rw [frz_out (out a ha)]
      exact (rO a (by rw [e2]; simp only [List.mem_append] at ha ⊢; rcases ha with h | h <;> simp [h])).1)
    rw [set_self e1] at this
    exact this
  · show frz G.R H f2 a = none
    rw [frz_out (outL a ha)]; exact r.nr a ha
  · obtain ⟨a, h1, h2⟩ := r.sto n c h
    exact ⟨a, h1, h2.mono sm (fun _ _ h => h) rfl⟩
  · by_cases ha : a ∈ f2
    · exact .inr (.inl (by rw [e2]; simp [ha]))
    · have h : frz G.R H f2 a ≠ none := h
      rw [frz_out ha] at h; exact .inl h
  · rw [e2]
    have h' : a ∈ f1 ++ ([] ++ f3) := h
    simp only [List.mem_append, List.not_mem_nil, false_or] at h' ⊢
    rcases h' with h' | h' <;> simp [h']
/-- a slot stored -/
theorem Rel.put {i : Nat} {v : V} {b : B} {g : List Addr} (r : Rel K G s σ H) (hb : RepB K G.R G.I H v b g) (hn : (g ++ (G.O ++ G.L)).Nodup) :
    ∃ O', Rel K ⟨G.R, G.L, O', G.J⟩ (s.put i (some b)) (σ.set i (some v)) H ∧ ∀ a ∈ O', a ∈ G.O ∨ a ∈ g := by
  by_cases hi : i < s.env.length
  · obtain ⟨f1, f2, f3, e2, k⟩ := RepE.put (Same.refl _) (fun _ _ h => h) hb (i := i) r.env hi
    have lv := r.env.live
    refine ⟨f1 ++ (g ++ f3), ⟨r.sub, k (fun _ _ => rfl) (fun a ha => (lv a (by rw [e2]; simp only [List.mem_append] at ha ⊢; rcases ha with h | h <;> simp [h])).1), nodup_sub hn fun x => by rw [e2]; simp only [List.count_append]; omega, r.nr, r.len, r.il, r.pl, r.sto⟩, fun a ha => ?_⟩
    rw [e2]
    simp only [List.mem_append] at ha ⊢
    rcases ha with h | h | h <;> simp [h]
  · refine ⟨G.O, ?_, fun a h => .inl h⟩
    have e1 : s.env.set i (some b) = s.env := List.set_eq_of_length_le (by omega)
    have e2 : σ.set i (some v) = σ := List.set_eq_of_length_le (by rw [r.env.length]; omega)
    show Rel K ⟨G.R, G.L, G.O, G.J⟩ ⟨s.env.set i (some b), s.st, s.pu⟩ _ H
    rw [e1, e2]
    exact r
theorem Rel.wipe {i : Nat} (x : Option V) (r : Rel K G s σ H) : ∃ O', Rel K ⟨G.R, G.L, O', G.J⟩ (s.put i none) (σ.set i x) H ∧ ∀ a ∈ O', a ∈ G.O := by
  obtain ⟨f', h', sb⟩ := r.env.wipe1 (i := i) (x := x)
  exact ⟨f', ⟨r.sub, h', nodup_sub r.nd fun y => by have := sb.count_le y; simp only [List.count_append]; omega, r.nr, r.len, r.il, r.pl, r.sto⟩, fun a ha => sb.subset ha⟩
theorem Fr.own {st : Bool} {G0 G : Gh} {H0 H : Hp} {O' g : List Addr} (f : Fr st G0 H0 G H) (h : ∀ a ∈ O', a ∈ G.O ∨ a ∈ g) (n : ∀ a ∈ g, H0 a = none) : Fr st G0 H0 ⟨G.R, G.L, O', G.J⟩ H :=
  ⟨f.r, f.rn, f.l, fun a ha => (h a ha).elim (f.o a) fun q => .inr (n a q), f.lo, f.h, f.d, f.j⟩

/-! ### a name -/
def eV (i : Nat) : EvE := fun s => match s.env[i]? with
  | some (some (.v d)) => some (d, s)
  | some (some (.o xs)) => some ((B.o xs).frz, (s.put i (some (.v (B.o xs).frz))))
  | _ => none
end
section
variable {X : Cx}
theorem s_of_var {i : Nat} {e : Expr} (h : PE X e (tVar i)) : SE X e (eV i) := pe_imp h fun σ H Q ⟨G, s, rel, d, s', e, q⟩ => by
  unfold eV at e
  split at e
  · rename_i d' hd
    cases e
    obtain ⟨v, f1, f2, f3, e1, e2, hb, k⟩ := rel.env.focus hd
    cases hb with
    | v hb => exact ⟨v, e1, q G H rel (Fr.refl _ _ _) v hb⟩
  · rename_i xs hd
    cases e
    obtain ⟨v, G', e1, r', hv, f'⟩ := rel.freeze hd
    exact ⟨v, e1, q G' H r' f' v hv⟩
  · cases e
theorem s_var (i : Nat) {x : Str} {pos : Pos} (hN : X.N[i]? = some x := by rfl) (hv : Vis X.env.scope x := by first | exact Or.inl rfl | exact Or.inr (Or.inl rfl) | exact Or.inr (Or.inr rfl)) (hd : (x == ("__debug__" : Str)) = false := by decide)
    (hcd : (x == ("__classdict__" : Str)) = false := by decide) : SE X (.Name x pos) (eV i) := s_of_var (pe_var hN hv hd hcd)
/-- .. looked at alone -/
def eW (i : Nat) : EvE := fun s => match s.env[i]? with
  | some (some b) => some (b.frz, s)
  | _ => none
theorem RepB.look {K : PySem.W.Frag} {G : Gh} {s : Sta} {σ : St} {H : Hp} {v : V} {b : B} {fp : List Addr} (r : Rel K G s σ H) (h : RepB K G.R G.I H v b fp) (n : ∀ a ∈ fp, a ∉ G.L) : Rep K (hid H G.L) G.I v b.frz :=
  RepB.frozen (md_low true r) (fun _ _ h => h) b v fp (fun a ha => hid_out (n a ha)) h
theorem s_of_look {i : Nat} {e : Expr} (h : PE X e (tVar i)) : SX X true e (eW i) := pe_imp h fun σ H Q ⟨G, s, rel, d, s', e, q⟩ => by
  unfold eW at e
  split at e
  · rename_i b hd
    cases e
    obtain ⟨v, f1, f2, f3, e1, e2, hb, k⟩ := rel.env.focus hd
    exact ⟨v, e1, q G H rel (Fr.refl _ _ _) v (hb.look rel fun a ha q => nodup_ne rel.nd (by rw [e2]; simp [ha]) q)⟩
  · cases e
theorem s_look (i : Nat) {x : Str} {pos : Pos} (hN : X.N[i]? = some x := by rfl) (hv : Vis X.env.scope x := by first | exact Or.inl rfl | exact Or.inr (Or.inl rfl) | exact Or.inr (Or.inr rfl)) (hd : (x == ("__debug__" : Str)) = false := by decide)
    (hcd : (x == ("__classdict__" : Str)) = false := by decide) : SX X true (.Name x pos) (eW i) := s_of_look (pe_var hN hv hd hcd)
/-- a module's constant -/
theorem s_glob {m : Bool} {x : Str} {v : V} {u : Value} {d : D} {pos : Pos} (hg : Gl X x) (hm : X.mg x = some u) (r : RelV v u) (hr : ∀ R L, Rep X.K R L v d) (hd : (x == ("__debug__" : Str)) = false := by decide) : SX X m (.Name x pos) (eC d) := s_const (pe_glob hg hm r hd) hr
end

/-! ## statements -/
inductive Out where
  | nx | bk | ct
  | rt (b : B)
abbrev EvS := Sta → Option (Out × Sta)
def outOk (K : PySem.W.Frag) (D : Ends) (G0 : Gh) (H0 : Hp) (o : Out) (G : Gh) (σ : St) (H : Hp) : Prop := match o with
  | .nx => D.nx σ H
  | .bk => D.bk σ H
  | .ct => D.ct σ H
  | .rt b => ∀ v fp, RepB K G.R G.I H v b fp → (fp ++ G.L).Nodup → (∀ a ∈ fp, a ∈ G0.O ∨ H0 a = none) → D.rt v H
theorem outOk.later {K : PySem.W.Frag} {D : Ends} {G0 G1 : Gh} {H0 H1 : Hp} (f : Fr true G0 H0 G1 H1) {o : Out} {G : Gh} {σ : St} {H : Hp} (h : outOk K D G0 H0 o G σ H) : outOk K D G1 H1 o G σ H := by
  cases o with
  | rt b => exact fun v fp r n z => h v fp r n fun a ha => (z a ha).elim (f.o a) fun q => .inr (f.back q)
  | _ => exact h
def WS {α : Type} (K : PySem.W.Frag) (r : Option (α × Sta)) (G : Gh) (H : Hp) (Q : α → Gh → Sta → St → Hp → Prop) : Prop := ∃ a s', r = some (a, s') ∧ ∀ σ' G' H', Rel K G' s' σ' H' → Fr true G H G' H' → Q a G' s' σ' H'
theorem WS.imp {α : Type} {K : PySem.W.Frag} {r : Option (α × Sta)} {G : Gh} {H : Hp} {Q Q' : α → Gh → Sta → St → Hp → Prop} (h : WS K r G H Q) (i : ∀ a G' s' σ' H', Rel K G' s' σ' H' → Fr true G H G' H' → Q a G' s' σ' H' → Q' a G' s' σ' H') : WS K r G H Q' := by
  obtain ⟨a, s', e, q⟩ := h
  exact ⟨a, s', e, fun σ' G' H' r f => i a G' s' σ' H' r f (q σ' G' H' r f)⟩
theorem WS.bind {α β : Type} {K : PySem.W.Frag} {r : Option (α × Sta)} {k : α → Sta → Option (β × Sta)} {G : Gh} {H : Hp} {Q : β → Gh → Sta → St → Hp → Prop} (h : WS K (r.bind fun p => k p.1 p.2) G H Q) :
    WS K r G H (fun a G1 s1 σ1 H1 => WS K (k a s1) G1 H1 Q) := by
  obtain ⟨b, s2, e, q⟩ := h
  obtain ⟨⟨a, s1⟩, e1, e2⟩ := Option.bind_eq_some_iff.mp e
  exact ⟨a, s1, e1, fun σ1 G1 H1 r1 f1 => ⟨b, s2, e2, fun σ2 G2 H2 r2 f2 => q σ2 G2 H2 r2 (f1.trans f2)⟩⟩
/-- an expression ahead of a statement -/
theorem WS.bindE {α β : Type} {K : PySem.W.Frag} {r : Option (α × Sta)} {k : α → Sta → Option (β × Sta)} {G : Gh} {σ : St} {H : Hp} {Q : β → Gh → Sta → St → Hp → Prop} (h : WS K (r.bind fun p => k p.1 p.2) G H Q) :
    W K r G σ H (fun a G1 s1 H1 => WS K (k a s1) G1 H1 Q) := by
  obtain ⟨b, s2, e, q⟩ := h
  obtain ⟨⟨a, s1⟩, e1, e2⟩ := Option.bind_eq_some_iff.mp e
  exact ⟨a, s1, e1, fun G1 H1 r1 f1 => ⟨b, s2, e2, fun σ2 G2 H2 r2 f2 => q σ2 G2 H2 r2 (f1.weak.trans f2)⟩⟩
theorem WS.now {α : Type} {K : PySem.W.Frag} {a : α} {s : Sta} {G : Gh} {σ : St} {H : Hp} {Q : α → Gh → Sta → St → Hp → Prop} (h : WS K (some (a, s)) G H Q) {G' : Gh} {H' : Hp} (r : Rel K G' s σ H') (f : Fr true G H G' H') : Q a G' s σ H' := by
  obtain ⟨b, s2, e, q⟩ := h
  cases e
  exact q σ G' H' r f
def tS (K : PySem.W.Frag) (f : EvS) : TS := fun D σ H => ∃ (G : Gh) (s : Sta), Rel K G s σ H ∧ WS K (f s) G H (fun o G' _ σ' H' => outOk K D G H o G' σ' H')
abbrev SS (X : Cx) (st : Stmt) (f : EvS) : Prop := PS X st (tS X.K f)
abbrev SSs (X : Cx) (st : List Stmt) (f : EvS) : Prop := PSs X st (tS X.K f)
theorem ps_imp {X : Cx} {e : Stmt} {t t' : TS} (h : PS X e t) (i : ∀ D σ H, t' D σ H → t D σ H) : PS X e t' := ⟨fun pins s σ H D I q => h.run pins s σ H D I (i D σ H q)⟩
theorem pss_imp {X : Cx} {e : List Stmt} {t t' : TS} (h : PSs X e t) (i : ∀ D σ H, t' D σ H → t D σ H) : PSs X e t' := ⟨fun pins s σ H D I q => h.run pins s σ H D I (i D σ H q)⟩

def sNil : EvS := fun s => some (.nx, s)
def sBk : EvS := fun s => some (.bk, s)
def sCt : EvS := fun s => some (.ct, s)
def sSeq (f g : EvS) : EvS := fun s => (f s).bind fun p => match p.1 with
  | .nx => g p.2
  | o => some (o, p.2)
def sIf (c : EvT) (f g : EvS) : EvS := fun s => (c s).bind fun p => if p.1 = true then f p.2 else g p.2
def sRet (f : EvE) : EvS := fun s => (f s).bind fun p => some (.rt (.v p.1), p.2)
def sRetB (f : EvB) : EvS := fun s => (f s).bind fun p => some (.rt p.1, p.2)
def sRetN : EvS := fun s => some (.rt (.v .non), s)
/-- a slot's content handed back -/
def sRetV (i : Nat) : EvS := fun s => match s.env[i]? with
  | some (some b) => some (.rt b, s.put i none)
  | _ => none
def sExp (f : EvE) : EvS := fun s => (f s).bind fun p => some (.nx, p.2)
def sSet (i : Nat) (f : EvE) : EvS := fun s => (f s).bind fun p => some (.nx, (p.2.put i (some (.v p.1))))
def sSetB (i : Nat) (f : EvB) : EvS := fun s => (f s).bind fun p => some (.nx, (p.2.put i (some p.1)))
def sAug (i : Nat) (g : D → D → Option D) (f : EvE) : EvS := fun s => match s.env[i]? with
  | some (some (.v d)) => (f s).bind fun p => (g d p.1).bind fun z => some (.nx, (p.2.put i (some (.v z))))
  | _ => none

section
variable {X : Cx} {st : Stmt} {rest : List Stmt} {f g : EvS} {e : Expr} {fe : EvE} {pos : Pos}
theorem ss_nil : SSs X [] sNil := pss_imp pss_nil fun D σ H ⟨G, s, rel, w⟩ => w.now rel (Fr.refl _ _ _)
theorem ss_pass : SS X (.Pass pos) sNil := ps_imp ps_pass fun D σ H ⟨G, s, rel, w⟩ => w.now rel (Fr.refl _ _ _)
theorem ss_bk : SS X (.Break pos) sBk := ps_imp ps_break fun D σ H ⟨G, s, rel, w⟩ => w.now rel (Fr.refl _ _ _)
theorem ss_ct : SS X (.Continue pos) sCt := ps_imp ps_continue fun D σ H ⟨G, s, rel, w⟩ => w.now rel (Fr.refl _ _ _)
theorem ss_cons (h1 : SS X st f) (h2 : SSs X rest g) : SSs X (st :: rest) (sSeq f g) :=
  pss_imp (pss_cons h1 h2) fun D σ H ⟨G, s, rel, w⟩ => ⟨G, s, rel, (WS.bind (k := fun o s => match o with | .nx => g s | o => some (o, s)) w).imp fun o G1 s1 σ1 H1 rel1 fr1 w1 => by
    cases o with
    | nx => exact ⟨G1, s1, rel1, w1.imp fun o' G' s' σ' H' _ _ h => h.later fr1⟩
    | bk => exact w1.now rel1 (Fr.refl _ _ _)
    | ct => exact w1.now rel1 (Fr.refl _ _ _)
    | rt d => exact w1.now rel1 (Fr.refl _ _ _)⟩
theorem ss_one (h1 : SS X st f) : SSs X [st] f := pss_one h1
theorem ss_if {c : Expr} {a b : List Stmt} {tc : EvT} (hc : STt X c tc) (ha : SSs X a f) (hb : SSs X b g) : SS X (.If c a b pos) (sIf tc f g) :=
  ps_imp (ps_if hc ha hb) fun D σ H ⟨G, s, rel, w⟩ => ⟨G, s, rel, (WS.bindE (k := fun c s => if c = true then f s else g s) w).imp fun c G1 s1 H1 rel1 fr1 w1 => by
    have w2 := w1.imp fun o' G' s' σ' H' _ _ h => outOk.later fr1.weak h
    cases c with
    | true => exact ⟨G1, s1, rel1, w2⟩
    | false => exact ⟨G1, s1, rel1, w2⟩⟩
theorem ss_ret (he : SE X e fe) : SS X (.Return (some e) pos) (sRet fe) :=
  ps_imp (ps_ret he) fun D σ H ⟨G, s, rel, w⟩ => ⟨G, s, rel, (WS.bindE (k := fun d s => some (Out.rt (.v d), s)) w).imp fun d G1 s1 H1 rel1 _ w1 v rv => w1.now rel1 (Fr.refl _ _ _) v [] (.v rv) (by rw [List.nil_append]; exact (List.nodup_append.mp rel1.nd).2.1) (fun _ h => by cases h)⟩
theorem ss_retB {fb : EvB} (he : SB X e fb) : SS X (.Return (some e) pos) (sRetB fb) :=
  ps_imp (ps_ret he) fun D σ H ⟨G, s, rel, o, s9, e0, q⟩ => by
    obtain ⟨⟨b, s1⟩, ea, eb⟩ := Option.bind_eq_some_iff.mp e0
    cases eb
    refine ⟨G, s, rel, b, _, ea, fun G1 H1 rel1 fr1 v fp rv hn hf => q σ G1 H1 rel1 fr1.weak v fp rv ?_ fun a ha => .inr (hf a ha)⟩
    exact nodup_sub hn fun x => by simp only [List.count_append]; omega
theorem ss_retN : SS X (.Return none pos) sRetN := ps_imp ps_retN fun D σ H ⟨G, s, rel, w⟩ => (w.now rel (Fr.refl _ _ _) : ∀ v fp, _) _ [] (.v .non) (by rw [List.nil_append]; exact (List.nodup_append.mp rel.nd).2.1) (fun _ h => by cases h)
theorem ss_retV {i : Nat} (he : PE X e (tVar i)) : SS X (.Return (some e) pos) (sRetV i) :=
  ps_imp (ps_ret he) fun D σ H ⟨G, s, rel, o, s9, e0, q⟩ => by
    unfold sRetV at e0
    split at e0
    · rename_i b hb
      cases e0
      obtain ⟨v, f1, f2, f3, e1, e2, h, k⟩ := rel.env.focus hb
      refine ⟨v, e1, ?_⟩
      obtain ⟨O', r', hO⟩ := rel.wipe (i := i) (some v)
      rw [set_self e1] at r'
      refine q σ _ H r' ((Fr.refl true G H).own (g := []) (fun a ha => .inl (hO a ha)) fun _ h => by cases h) v f2 h ?_ fun a ha => .inl (by rw [e2]; simp [ha])
      have := rel.nd
      rw [e2] at this
      exact nodup_sub this fun x => by simp only [List.count_append]; omega
    · cases e0
theorem ss_exp (he : SE X e fe) (hs : swapsWith e none pos.line X.env = pure false := by rfl) : SS X (.Expr e pos) (sExp fe) :=
  ps_imp (ps_expr he hs) fun D σ H ⟨G, s, rel, w⟩ => ⟨G, s, rel, (WS.bindE (k := fun _ s => some (Out.nx, s)) w).imp fun d G1 s1 H1 rel1 _ w1 v rv => w1.now rel1 (Fr.refl _ _ _)⟩
/-- a slot stored, behind an expression -/
theorem set_end {K : PySem.W.Frag} {G : Gh} {H : Hp} {s1 : Sta} {G1 : Gh} {σ : St} {H1 : Hp} {i : Nat} {v : V} {b : B} {g : List Addr} {Q : Out → Gh → Sta → St → Hp → Prop} (rel1 : Rel K G1 s1 σ H1) (hb : RepB K G1.R G1.I H1 v b g) (hn : (g ++ (G1.O ++ G1.L)).Nodup)
    (hf : Fr true G H G1 H1) (hg : ∀ a ∈ g, H a = none) (w : WS K (some (Out.nx, (s1.put i (some b)))) G H Q) : ∃ G', Q .nx G' (s1.put i (some b)) (σ.set i (some v)) H1 := by
  obtain ⟨O', r', ho⟩ := rel1.put (i := i) hb hn
  exact ⟨_, w.now r' (hf.own ho hg)⟩
theorem ss_set {i : Nat} {x : Str} {pos' : Pos} (hN : X.N.Nodup) (hi : X.N[i]? = some x) (hx : Loc X.env.scope x) (he : SE X e fe) (hs : swapsWith e (some (.Name x pos')) pos.line X.env = pure false := by rfl) (hf : X.fn x = true ∨ X.env.scope.names.lookup x = some .local := by first | exact .inl rfl | exact .inr rfl | assumption) :
    SS X (.Assign [.Name x pos'] e pos) (sSet i fe) :=
  ps_imp (ps_set hN hi hx he hs hf) fun D σ H ⟨G, s, rel, d, s1, e1, q⟩ => by
    obtain ⟨⟨d0, s0⟩, ea, eb⟩ := Option.bind_eq_some_iff.mp e1
    cases eb
    refine ⟨G, s, rel, d0, s0, ea, fun G1 H1 rel1 fr1 v rv => ?_⟩
    obtain ⟨G', q'⟩ := set_end (i := i) (Q := fun o G' _ σ' H' => outOk X.K D G H o G' σ' H') rel1 (.v rv) (by rw [List.nil_append]; exact rel1.nd) fr1.weak (fun _ h => by cases h) ⟨_, _, rfl, q⟩
    exact q'
theorem ss_setB {i : Nat} {x : Str} {pos' : Pos} {fb : EvB} (hN : X.N.Nodup) (hi : X.N[i]? = some x) (hx : Loc X.env.scope x) (he : SB X e fb) (hs : swapsWith e (some (.Name x pos')) pos.line X.env = pure false := by rfl) (hf : X.fn x = true ∨ X.env.scope.names.lookup x = some .local := by first | exact .inl rfl | exact .inr rfl | assumption) :
    SS X (.Assign [.Name x pos'] e pos) (sSetB i fb) :=
  ps_imp (ps_set hN hi hx he hs hf) fun D σ H ⟨G, s, rel, d, s1, e1, q⟩ => by
    obtain ⟨⟨d0, s0⟩, ea, eb⟩ := Option.bind_eq_some_iff.mp e1
    cases eb
    refine ⟨G, s, rel, d0, s0, ea, fun G1 H1 rel1 fr1 v fp rv hn hg => ?_⟩
    obtain ⟨G', q'⟩ := set_end (i := i) (Q := fun o G' _ σ' H' => outOk X.K D G H o G' σ' H') rel1 rv hn fr1.weak hg ⟨_, _, rfl, q⟩
    exact q'
theorem ss_aug {i : Nat} {x : Str} {pos' : Pos} {op : Operator} {r : D → D → Option D} (hN : X.N.Nodup) (hi : X.N[i]? = some x) (hx : Loc X.env.scope x) (he : SE X e fe) (ho : OpR X (inplaceOp op) (G2 X.K r)) (hf : X.fn x = true ∨ X.env.scope.names.lookup x = some .local := by first | exact .inl rfl | exact .inr rfl | assumption) :
    SS X (.AugAssign (.Name x pos') op e pos) (sAug i r fe) :=
  ps_imp (ps_aug hN hi hx he ho hf) fun D σ H ⟨G, s, rel, d, s1, e1, q⟩ => by
    unfold sAug at e1
    split at e1
    · rename_i dx hd
      obtain ⟨v, f1, f2, f3, ev, e2, hb, k⟩ := rel.env.focus hd
      cases hb with
      | v hb =>
        obtain ⟨⟨d0, s0⟩, ea, eb⟩ := Option.bind_eq_some_iff.mp e1
        obtain ⟨z, ec, ed⟩ := Option.bind_eq_some_iff.mp eb
        cases ed
        refine ⟨v, ev, G, s, rel, d0, s0, ea, fun G1 H1 rel1 fr1 w rw => ?_⟩
        refine ⟨G1.R, G1.I, dx, d0, z, rel1.sub, Rep.mono fr1.r fr1.l _ _ hb, rw, ec, fun y R' H' x ry => ?_⟩
        obtain ⟨rel2, fr2⟩ := rel1.ext x
        obtain ⟨G', q'⟩ := set_end (i := i) (Q := fun o G' _ σ' H' => outOk X.K D G H o G' σ' H') rel2 (.v ry) (by rw [List.nil_append]; exact rel2.nd) (fr1.trans fr2).weak (fun _ h => by cases h) ⟨_, _, rfl, q⟩
        exact q'
    · cases e1
end

/-! ### while -/
def whileN (c : EvT) (f : EvS) : Nat → EvS
  | 0 => fun _ => none
  | n + 1 => fun s => (c s).bind fun p => if p.1 = true then (f p.2).bind fun q => match q.1 with
      | .nx => whileN c f n q.2
      | .ct => whileN c f n q.2
      | .bk => some (.nx, q.2)
      | .rt d => some (.rt d, q.2)
    else some (.nx, p.2)
section
variable {X : Cx} {pos : Pos}
theorem ss_while (n : Nat) {c : Expr} {body : List Stmt} {tc : EvT} {f : EvS} (hc : STt X c tc) (hb : SSs X body f) (hp : PassesOwn (model X.prog X.w) X.A X.env X.xe := by exact PassesOwn.never) : SS X (.While c body [] pos) (whileN tc f n) :=
  ps_imp (ps_while hp hc hb) fun D σ H ⟨G0, s0, rel0, o, s9, e, q⟩ => by
    refine ⟨fun m σ' H' => ∃ G s, Rel X.K G s σ' H' ∧ Fr true G0 H G H' ∧ whileN tc f m s = some (o, s9), ⟨n, G0, s0, rel0, Fr.refl _ _ _, e⟩, fun m σ1 H1 ⟨G1, s1, rel1, fr1, e1⟩ => ?_⟩
    cases m with
    | zero => cases e1
    | succ m =>
      obtain ⟨⟨b, s2⟩, ea, eb⟩ := Option.bind_eq_some_iff.mp e1
      refine ⟨G1, s1, rel1, b, s2, ea, fun G2 H2 rel2 fr2 => ?_⟩
      have fr02 := fr1.trans fr2.weak
      cases b with
      | false =>
        simp only [Bool.false_eq_true, if_false] at eb ⊢
        cases eb
        exact q _ _ _ rel2 fr02
      | true =>
        simp only [if_true] at eb ⊢
        refine ⟨fun σ' H' => ∃ G s, Rel X.K G s σ' H' ∧ Fr true G0 H G H' ∧ whileN tc f m s = some (o, s9), fun σ' H' ⟨G, s, h⟩ => ⟨m, Nat.lt_succ_self m, G, s, h⟩, ?_⟩
        obtain ⟨⟨o3, s3⟩, ec, ed⟩ := Option.bind_eq_some_iff.mp eb
        refine ⟨G2, s2, rel2, o3, s3, ec, fun σ3 G3 H3 rel3 fr3 => ?_⟩
        have fr03 := fr02.trans fr3
        cases o3 with
        | nx => exact ⟨G3, s3, rel3, fr03, ed⟩
        | ct => exact ⟨G3, s3, rel3, fr03, ed⟩
        | bk => cases ed; exact q _ _ _ rel3 fr03
        | rt d => cases ed; exact (q _ _ _ rel3 fr03).later fr02
end
end Ev

namespace Ev
open PySem L2

/-! ## targets -/
abbrev EvG := D → Sta → Option Sta
def tG (K : PySem.W.Frag) (h : EvG) : TG := fun v σ H Q => ∃ (G : Gh) (s : Sta) (d : D) (s' : Sta), Rel K G s σ H ∧ Rep K G.R G.I v d ∧ h d s = some s' ∧ ∀ σ' G', Rel K G' s' σ' H → Fr true G H G' H → G'.R = G.R ∧ G'.L = G.L → Q σ' H
def tGs (K : PySem.W.Frag) (h : List D → Sta → Option Sta) : TGs := fun vs σ H Q => ∃ (G : Gh) (s : Sta) (ds : List D) (s' : Sta), Rel K G s σ H ∧ Reps K G.R G.I vs ds ∧ h ds s = some s' ∧ ∀ σ' G', Rel K G' s' σ' H → Fr true G H G' H → G'.R = G.R ∧ G'.L = G.L → Q σ' H
/-- .. with what the target leaves of the slots at own -/
def tGw (K : PySem.W.Frag) (own : List Nat) (h : EvG) : TG := fun v σ H Q => ∃ (G : Gh) (s : Sta) (d : D) (s' : Sta), Rel K G s σ H ∧ Rep K G.R G.I v d ∧ h d s = some s' ∧ ∀ σ' G', Rel K G' s' σ' H → Fr true G H G' H → G'.R = G.R ∧ G'.L = G.L → wipe σ' own = wipe σ own → Q σ' H
def tGsw (K : PySem.W.Frag) (own : List Nat) (h : List D → Sta → Option Sta) : TGs := fun vs σ H Q => ∃ (G : Gh) (s : Sta) (ds : List D) (s' : Sta), Rel K G s σ H ∧ Reps K G.R G.I vs ds ∧ h ds s = some s' ∧ ∀ σ' G', Rel K G' s' σ' H → Fr true G H G' H → G'.R = G.R ∧ G'.L = G.L → wipe σ' own = wipe σ own → Q σ' H
abbrev SG (X : Cx) (e : Expr) (h : EvG) : Prop := PG X e (tG X.K h)
abbrev SGs (X : Cx) (e : List Expr) (h : List D → Sta → Option Sta) : Prop := PGs X e (tGs X.K h)
abbrev SGw (X : Cx) (own : List Nat) (e : Expr) (h : EvG) : Prop := PG X e (tGw X.K own h)
abbrev SGsw (X : Cx) (own : List Nat) (e : List Expr) (h : List D → Sta → Option Sta) : Prop := PGs X e (tGsw X.K own h)
def gN (i : Nat) : EvG := fun d s => some (s.put i (some (.v d)))
def gsNil : List D → Sta → Option Sta := fun ds s => match ds with
  | [] => some s
  | _ => none
def gsCons (h : EvG) (k : List D → Sta → Option Sta) : List D → Sta → Option Sta := fun ds s => match ds with
  | d :: r => (h d s).bind fun s1 => k r s1
  | _ => none
def gT (n : Nat) (k : List D → Sta → Option Sta) : EvG := fun d s => match d with
  | .tup ds => if ds.length = n then k ds s else none
  | _ => none
theorem pg_imp {X : Cx} {e : Expr} {t t' : TG} (h : PG X e t) (i : ∀ v σ H Q, t' v σ H Q → t v σ H Q) : PG X e t' := ⟨fun pins s σ H v u Q I r q => h.run pins s σ H v u Q I r (i v σ H Q q)⟩
theorem pgs_imp {X : Cx} {e : List Expr} {t t' : TGs} (h : PGs X e t) (i : ∀ v σ H Q, t' v σ H Q → t v σ H Q) : PGs X e t' := ⟨fun pins s σ H v u Q I r q => h.run pins s σ H v u Q I r (i v σ H Q q)⟩
theorem wipe_get {σ : St} : ∀ {vs : List Nat} {i : Nat}, (wipe σ vs)[i]? = if i ∈ vs then (σ[i]?).map (fun _ => none) else σ[i]?
  | [], i => by simp [L2.wipe]
  | v :: vs, i => by
    show ((L2.wipe σ vs).set v none)[i]? = _
    by_cases e : v = i
    · subst e
      rw [if_pos (List.mem_cons_self ..), List.getElem?_set_self']
      have := wipe_length σ vs
      cases h : σ[v]? with
      | none =>
        have h1 : σ.length ≤ v := List.getElem?_eq_none_iff.mp h
        have h2 : (L2.wipe σ vs)[v]? = none := List.getElem?_eq_none_iff.mpr (by omega)
        rw [h2]; rfl
      | some x =>
        have h1 : v < σ.length := (List.getElem?_eq_some_iff.mp h).1
        have h2 : (L2.wipe σ vs)[v]? = some (L2.wipe σ vs)[v] := List.getElem?_eq_getElem (by omega)
        rw [h2]; rfl
    · rw [List.getElem?_set_ne e, wipe_get]
      have e' : i ≠ v := fun z => e z.symm
      simp [List.mem_cons, e']
theorem wipe_put {σ : St} {vs : List Nat} {i : Nat} {x : Option V} (h : i ∈ vs) : wipe (σ.set i x) vs = wipe σ vs := by
  apply List.ext_getElem?
  intro j
  rw [wipe_get, wipe_get]
  by_cases e : j ∈ vs
  · rw [if_pos e, if_pos e]
    by_cases z : i = j
    · subst z
      rw [List.getElem?_set_self']
      cases σ[i]? <;> rfl
    · rw [List.getElem?_set_ne z]
  · rw [if_neg e, if_neg e, List.getElem?_set_ne (fun z => by subst z; exact e h)]
theorem wipe_idem {σ : St} {vs : List Nat} : wipe (wipe σ vs) vs = wipe σ vs := by
  apply List.ext_getElem?
  intro j
  rw [wipe_get, wipe_get]
  by_cases e : j ∈ vs
  · rw [if_pos e, if_pos e]; cases σ[j]? <;> rfl
  · rw [if_neg e, if_neg e]
section
variable {X : Cx} {pos : Pos} {own : List Nat}
theorem g_name (i : Nat) {x : Str} (hN : X.N.Nodup) (hi : X.N[i]? = some x) (hx : Loc X.env.scope x) (hf : X.fn x = true ∨ X.env.scope.names.lookup x = some .local := by first | exact .inl rfl | exact .inr rfl | assumption) : SG X (.Name x pos) (gN i) :=
  pg_imp (pg_name hN hi hx hf) fun v σ H Q ⟨G, s, d, s', rel, rv, e, q⟩ => by
    cases e
    obtain ⟨O', r', ho⟩ := rel.put (i := i) (.v rv) (by rw [List.nil_append]; exact rel.nd)
    exact q _ _ r' ((Fr.refl _ _ _).own ho fun _ h => by cases h) ⟨rfl, rfl⟩
theorem gw_name (i : Nat) {x : Str} (ho : i ∈ own) (hN : X.N.Nodup) (hi : X.N[i]? = some x) (hx : Loc X.env.scope x) (hf : X.fn x = true ∨ X.env.scope.names.lookup x = some .local := by first | exact .inl rfl | exact .inr rfl | assumption) : SGw X own (.Name x pos) (gN i) :=
  pg_imp (pg_name hN hi hx hf) fun v σ H Q ⟨G, s, d, s', rel, rv, e, q⟩ => by
    cases e
    obtain ⟨O', r', hO⟩ := rel.put (i := i) (.v rv) (by rw [List.nil_append]; exact rel.nd)
    exact q _ _ r' ((Fr.refl _ _ _).own hO fun _ h => by cases h) ⟨rfl, rfl⟩ (wipe_put ho)
theorem gs_nil : SGs X [] gsNil := pgs_imp pgs_nil fun vs σ H Q ⟨G, s, ds, s', rel, rv, e, q⟩ => by
  cases rv with
  | nil => cases e; exact ⟨rfl, q _ _ rel (Fr.refl _ _ _) ⟨rfl, rfl⟩⟩
  | cons _ _ => cases e
theorem gsw_nil : SGsw X own [] gsNil := pgs_imp pgs_nil fun vs σ H Q ⟨G, s, ds, s', rel, rv, e, q⟩ => by
  cases rv with
  | nil => cases e; exact ⟨rfl, q _ _ rel (Fr.refl _ _ _) ⟨rfl, rfl⟩ rfl⟩
  | cons _ _ => cases e
variable {e : Expr} {es : List Expr} {h : EvG} {k : List D → Sta → Option Sta}
theorem gs_cons (h1 : SG X e h) (h2 : SGs X es k) (hs : (assignEach (e :: es) X.env).map (·.2) = assign e X.env :: (assignEach es X.env).map (·.2) := by rfl) : SGs X (e :: es) (gsCons h k) :=
  pgs_imp (pgs_cons h1 h2 hs) fun vs σ H Q ⟨G, s, ds, s', rel, rv, e, q⟩ => by
    cases rv with
    | nil => cases e
    | cons rv rvs =>
      obtain ⟨s1, ea, eb⟩ := Option.bind_eq_some_iff.mp e
      refine ⟨_, _, rfl, G, s, _, s1, rel, rv, ea, fun σ1 G1 rel1 fr1 ⟨e1, e2⟩ => ⟨G1, s1, _, s', rel1, Reps.mono fr1.r fr1.l _ _ rvs, eb, fun σ2 G2 rel2 fr2 ⟨e3, e4⟩ => q σ2 G2 rel2 (fr1.trans fr2) ⟨e3.trans e1, e4.trans e2⟩⟩⟩
theorem gsw_cons (h1 : SGw X own e h) (h2 : SGsw X own es k) (hs : (assignEach (e :: es) X.env).map (·.2) = assign e X.env :: (assignEach es X.env).map (·.2) := by rfl) : SGsw X own (e :: es) (gsCons h k) :=
  pgs_imp (pgs_cons h1 h2 hs) fun vs σ H Q ⟨G, s, ds, s', rel, rv, e, q⟩ => by
    cases rv with
    | nil => cases e
    | cons rv rvs =>
      obtain ⟨s1, ea, eb⟩ := Option.bind_eq_some_iff.mp e
      refine ⟨_, _, rfl, G, s, _, s1, rel, rv, ea, fun σ1 G1 rel1 fr1 ⟨e1, e2⟩ w1 => ⟨G1, s1, _, s', rel1, Reps.mono fr1.r fr1.l _ _ rvs, eb, fun σ2 G2 rel2 fr2 ⟨e3, e4⟩ w2 => q σ2 G2 rel2 (fr1.trans fr2) ⟨e3.trans e1, e4.trans e2⟩ (w2.trans w1)⟩⟩
theorem g_tup {kk n : Nat} (hc : X.calm = true) (h : SGs X es k) (hn : (assignEach es X.env).length = n := by rfl) (hst : (assignEach es X.env).findIdx? (·.1) = none := by rfl) : SG X (.Tuple es kk pos) (gT n k) :=
  pg_imp (pg_tup hc h hn hst) fun v σ H Q ⟨G, s, d, s', rel, rv, e, q⟩ => by
    cases rv with
    | tup ht hr =>
      simp only [gT] at e
      split at e
      · exact ⟨_, _, rfl, sqT_mono rel.sub ht, by rw [hr.length]; assumption, G, s, _, s', rel, hr, e, q⟩
      · cases e
    | _ => cases e
theorem gw_tup {kk n : Nat} (hc : X.calm = true) (h : SGsw X own es k) (hn : (assignEach es X.env).length = n := by rfl) (hst : (assignEach es X.env).findIdx? (·.1) = none := by rfl) : SGw X own (.Tuple es kk pos) (gT n k) :=
  pg_imp (pg_tup hc h hn hst) fun v σ H Q ⟨G, s, d, s', rel, rv, e, q⟩ => by
    cases rv with
    | tup ht hr =>
      simp only [gT] at e
      split at e
      · exact ⟨_, _, rfl, sqT_mono rel.sub ht, by rw [hr.length]; assumption, G, s, _, s', rel, hr, e, q⟩
      · cases e
    | _ => cases e
/-- target = e, any target (a tuple of names ..) -/
def sAsg (g : EvG) (f : EvE) : EvS := fun s => (f s).bind fun p => (g p.1 p.2).bind fun s1 => some (.nx, s1)
theorem ss_asg {tg : Expr} {fe : EvE} {ex : Expr} (he : SE X ex fe) (hg : SG X tg h) (hs : swapsWithSole [tg] ex pos.line X.env = pure false := by rfl) (hw : swappedStores [tg] ex X.env = pure none := by rfl)
    (h1 : (assignEach [tg] X.env).map (·.2) = [assign tg X.env] := by rfl) : SS X (.Assign [tg] ex pos) (sAsg h fe) :=
  ps_imp (ps_asg he hg hs hw h1) fun D σ H ⟨G, s, rel, w⟩ => ⟨G, s, rel, (WS.bindE (k := fun d s => (h d s).bind fun s1 => some (Out.nx, s1)) w).imp fun d G1 s1 H1 rel1 _ w1 v rv => by
    obtain ⟨o, s9, e, q⟩ := w1
    obtain ⟨s2, ea, eb⟩ := Option.bind_eq_some_iff.mp e
    cases eb
    exact ⟨G1, s1, d, _, rel1, rv, ea, fun σ' G' rel' fr' _ => q σ' G' H1 rel' fr'⟩⟩
end

/-! ## what is walked -/
def Wk (K : PySem.W.Frag) (J : It) (R : Hp) (L : List Addr) (ds : List D) : Prop := ∀ (R' : Hp) (L' : List Addr) (H : Hp), Same R R' → Pre L L' → Same R' H → J.stop ds.length H ∧
  ∀ i d, ds[i]? = some d → J.go i H ∧ ∀ x H', J.yld i H x H' → ∃ R'', Ext R' H R'' H' ∧ Rep K R'' L' x d
def tI (K : PySem.W.Frag) (f : EvA) : TI := fun σ H Rr => ∃ (G : Gh) (s : Sta), Rel K G s σ H ∧ W K (f s) G σ H (fun ds G' _ H' => ∀ J, Wk K J G'.R G'.I ds → Rr J H')
abbrev SI (X : Cx) (tg e : Expr) (f : EvA) : Prop := PI X tg e (tI X.K f)
theorem pi_imp {X : Cx} {tg e : Expr} {t t' : TI} (h : PI X tg e t) (i : ∀ σ H Q, t' σ H Q → t σ H Q) : PI X tg e t' := ⟨fun pins s σ H R I q => h.run pins s σ H R I (i σ H R q)⟩
theorem pi_or {X : Cx} {tg e : Expr} {t t' : TI} (h : PI X tg e t) (h' : PI X tg e t') : PI X tg e (fun σ H R => t σ H R ∨ t' σ H R) := ⟨fun pins s σ H R I q => q.elim (h.run pins s σ H R I) (h'.run pins s σ H R I)⟩
theorem rd_seq {K : PySem.W.Frag} {R H : Hp} {a : Addr} {vs : List V} (h : Rd R a (.lst vs)) (s : Same R H) : SqL K H a vs := .inl (rd_mono s h)
theorem wk_list {K : PySem.W.Frag} {R : Hp} {L : List Addr} {a : Addr} {vs : List V} {xs : List D} (h : Rd R a (.lst vs)) (r : Reps K R L vs xs) : Wk K (Itl K a) R L xs := fun R' L' H s1 l1 s2 => by
  have hq : SqL K H a vs := rd_seq h (s1.trans s2)
  refine ⟨⟨vs, hq, by rw [r.length]; exact Nat.le_refl _⟩, fun i d hd => ?_⟩
  obtain ⟨v, e, rv⟩ := r.get hd
  refine ⟨⟨vs, v, hq, e⟩, fun x H' ⟨e1, e2⟩ => ?_⟩
  have := e2 vs hq
  rw [e] at this
  cases this
  rw [e1]
  exact ⟨R', Ext.refl s2, Rep.mono s1 l1 _ _ rv⟩
theorem wk_scr {K : PySem.W.Frag} {R : Hp} {L : List Addr} {a : Addr} {ns : List Int} (h : SqL K R a (ns.map V.int)) : Wk K (Itl K a) R L (ns.map D.int) := fun R' L' H s1 l1 s2 => by
  have hq : SqL K H a (ns.map V.int) := (s1.trans s2).seq h
  refine ⟨⟨_, hq, by rw [List.length_map, List.length_map]; exact Nat.le_refl _⟩, fun i d hd => ?_⟩
  obtain ⟨v, e, rv⟩ := (Reps.ints (K := K) (R := R') (L := L')).get hd
  refine ⟨⟨_, v, hq, e⟩, fun x H' ⟨e1, e2⟩ => ?_⟩
  have := e2 _ hq
  rw [e] at this
  cases this
  rw [e1]
  exact ⟨R', Ext.refl s2, rv⟩
theorem wk_tup {K : PySem.W.Frag} {R : Hp} {L : List Addr} {a : Addr} {vs : List V} {xs : List D} (h : SqT K R a vs) (r : Reps K R L vs xs) : Wk K (Itt K a) R L xs := fun R' L' H s1 l1 s2 => by
  have hq : SqT K H a vs := sqT_mono (s1.trans s2) h
  refine ⟨⟨vs, hq, by rw [r.length]; exact Nat.le_refl _⟩, fun i d hd => ?_⟩
  obtain ⟨v, e, rv⟩ := r.get hd
  refine ⟨⟨vs, v, hq, e⟩, fun x H' ⟨e1, e2⟩ => ?_⟩
  have := e2 vs hq
  rw [e] at this
  cases this
  rw [e1]
  exact ⟨R', Ext.refl s2, Rep.mono s1 l1 _ _ rv⟩
/-- the signs of a text, one by one -/
def signs (x : Str) : List D := x.cps.toList.map fun c => .str ⟨#[c]⟩
theorem wk_str {K : PySem.W.Frag} {R : Hp} {L : List Addr} {x : Str} : Wk K (Its x) R L (signs x) := fun R' L' H s1 l1 s2 => by
  refine ⟨?_, fun i d hd => ?_⟩
  · show x.cps.size ≤ (signs x).length
    unfold signs
    rw [List.length_map, Array.length_toList]
    exact Nat.le_refl _
  · unfold signs at hd
    rw [List.getElem?_map] at hd
    obtain ⟨c, e1, e2⟩ := Option.map_eq_some_iff.mp hd
    have e1' : x.cps[i]? = some c := by simpa using e1
    refine ⟨by show i < x.cps.size; exact (Array.getElem?_eq_some_iff.mp e1').1, fun y H' ⟨e3, c', e4, e5⟩ => ?_⟩
    rw [e1'] at e4
    cases e4
    subst e3 e5 e2
    exact ⟨R', Ext.refl s2, .str _⟩
def items : D → Option (List D)
  | .lst xs => some xs
  | .tup xs => some xs
  | .scr ns => some (ns.map .int)
  | .str x => some (signs x)
  | _ => none
def iV (f : EvE) : EvA := fun s => (f s).bind fun p => (items p.1).bind fun xs => some (xs, p.2)
def dRange1 : List D → Option (List D)
  | [.int j] => if j.natAbs < 2 ^ 62 then some ((List.range j.toNat).map fun i : Nat => .int i) else none
  | _ => none
def dRange2 : List D → Option (List D)
  | [.int i, .int j] => if i.natAbs < 2 ^ 62 ∧ j.natAbs < 2 ^ 62 then some ((List.range (j - i).toNat).map fun k : Nat => .int (i + k)) else none
  | _ => none
def iA (g : List D → Option (List D)) (f : EvA) : EvA := fun s => (f s).bind fun p => (g p.1).bind fun xs => some (xs, p.2)
def pairUp (xs ys : List D) : List D := (xs.zip ys).map fun p => .tup [p.1, p.2]
def dEnum : List D → Option (List D)
  | [.lst xs] => some (pairUp ((List.range xs.length).map fun i : Nat => .int i) xs)
  | _ => none
def dZip : List D → Option (List D)
  | [.lst xs, .lst ys] => some (pairUp xs ys)
  | _ => none
def dRev : List D → Option (List D)
  | [.lst xs] => some xs.reverse
  | _ => none
section
variable {X : Cx} {tg e : Expr} {f : EvE} {fa : EvA} {p pos : Pos}
theorem dRange1_inv {ds xs : List D} (h : dRange1 ds = some xs) : ∃ j : Int, ds = [.int j] ∧ j.natAbs < 2 ^ 62 ∧ xs = (List.range j.toNat).map fun i : Nat => .int i := by
  unfold dRange1 at h
  split at h
  · split at h
    · cases h; exact ⟨_, rfl, ‹_›, rfl⟩
    · cases h
  · cases h
theorem dRange2_inv {ds xs : List D} (h : dRange2 ds = some xs) : ∃ i j : Int, ds = [.int i, .int j] ∧ (i.natAbs < 2 ^ 62 ∧ j.natAbs < 2 ^ 62) ∧ xs = (List.range (j - i).toNat).map fun k : Nat => .int (i + k) := by
  unfold dRange2 at h
  split at h
  · split at h
    · cases h; exact ⟨_, _, rfl, ‹_›, rfl⟩
    · cases h
  · cases h
theorem dEnum_inv {ds xs : List D} (h : dEnum ds = some xs) : ∃ ys, ds = [.lst ys] ∧ xs = pairUp ((List.range ys.length).map fun i : Nat => .int i) ys := by
  unfold dEnum at h
  split at h
  · cases h; exact ⟨_, rfl, rfl⟩
  · cases h
theorem dZip_inv {ds xs : List D} (h : dZip ds = some xs) : ∃ ys zs, ds = [.lst ys, .lst zs] ∧ xs = pairUp ys zs := by
  unfold dZip at h
  split at h
  · cases h; exact ⟨_, _, rfl, rfl⟩
  · cases h
theorem dRev_inv {ds xs : List D} (h : dRev ds = some xs) : ∃ ys, ds = [.lst ys] ∧ xs = ys.reverse := by
  unfold dRev at h
  split at h
  · cases h; exact ⟨_, rfl, rfl⟩
  · cases h
theorem i_any (he : SE X e f) : SI X tg e (iV f) :=
  pi_imp (pi_or (pi_list he) (pi_or (pi_tup he) (pi_str he))) fun σ H Rr ⟨G, s, rel, ds, s', e, q⟩ => by
    obtain ⟨⟨d, s1⟩, ea, eb⟩ := Option.bind_eq_some_iff.mp e
    obtain ⟨xs, ec, ed⟩ := Option.bind_eq_some_iff.mp eb
    cases ed
    cases d with
    | lst ys =>
      cases ec
      refine .inl ⟨G, s, rel, _, _, ea, fun G1 H1 rel1 fr1 v rv => ?_⟩
      cases rv with | lst h r => exact ⟨_, rfl, ⟨_, rd_seq h rel1.sub⟩, q G1 H1 rel1 fr1 _ (wk_list h r)⟩
    | scr ns =>
      cases ec
      refine .inl ⟨G, s, rel, _, _, ea, fun G1 H1 rel1 fr1 v rv => ?_⟩
      cases rv with | scr h => exact ⟨_, rfl, ⟨_, rel1.sub.seq h⟩, q G1 H1 rel1 fr1 _ (wk_scr h)⟩
    | tup ys =>
      cases ec
      refine .inr (.inl ⟨G, s, rel, _, _, ea, fun G1 H1 rel1 fr1 v rv => ?_⟩)
      cases rv with | tup h r => exact ⟨_, rfl, ⟨_, sqT_mono rel1.sub h⟩, q G1 H1 rel1 fr1 _ (wk_tup h r)⟩
    | str x =>
      cases ec
      refine .inr (.inr ⟨G, s, rel, _, _, ea, fun G1 H1 rel1 fr1 v rv => ?_⟩)
      cases rv with | str => exact ⟨_, rfl, q G1 H1 rel1 fr1 _ wk_str⟩
    | _ => cases ec
theorem wk_range {K : PySem.W.Frag} {R : Hp} {L : List Addr} {lo : Int} {n : Nat} : Wk K (Itr lo n) R L ((List.range n).map fun k : Nat => .int (lo + k)) := fun R' L' H s1 l1 s2 => by
  refine ⟨by show n ≤ _; simp, fun i d hd => ?_⟩
  rw [List.getElem?_map] at hd
  obtain ⟨c, e1, e2⟩ := Option.map_eq_some_iff.mp hd
  have e1' := List.getElem?_eq_some_iff.mp e1
  simp only [List.length_range, List.getElem_range] at e1'
  obtain ⟨h1, rfl⟩ := e1'
  refine ⟨h1, fun y H' ⟨e3, e4⟩ => ?_⟩
  subst e3 e4 e2
  exact ⟨R', Ext.refl s2, .int _⟩
theorem i_rng1 (hg : Gl X "range") (hm : X.mg "range" = none) {a : Expr} (ha : SA X [a] fa) (hs : starEach [a] X.env = [(false, eval a X.env)] := by rfl) : SI X tg (.Call (.Name "range" p) [a] [] pos) (iA dRange1 fa) :=
  pi_imp (pi_range1 hg hm ha hs) fun σ H Rr ⟨G, s, rel, ds, s', e, q⟩ => by
    obtain ⟨⟨d, s1⟩, ea, eb⟩ := Option.bind_eq_some_iff.mp e
    obtain ⟨xs, ec, ed⟩ := Option.bind_eq_some_iff.mp eb
    cases ed
    refine ⟨G, s, rel, _, _, ea, fun G1 H1 rel1 fr1 vs rv => ?_⟩
    obtain ⟨j, rfl, hj, rfl⟩ := dRange1_inv ec
    cases rv with
    | cons r1 r2 =>
      cases r2; cases r1
      have := wk_range (K := X.K) (R := G1.R) (L := G1.I) (lo := 0) (n := j.toNat)
      simp only [Int.zero_add] at this
      exact ⟨j, rfl, by omega, by omega, q G1 H1 rel1 fr1 _ this⟩
theorem i_rng2 (hg : Gl X "range") (hm : X.mg "range" = none) {a b : Expr} (ha : SA X [a, b] fa) (hs : starEach [a, b] X.env = [(false, eval a X.env), (false, eval b X.env)] := by rfl) (hs2 : starEach [b] X.env = [(false, eval b X.env)] := by rfl) : SI X tg (.Call (.Name "range" p) [a, b] [] pos) (iA dRange2 fa) :=
  pi_imp (pi_range2 hg hm ha hs hs2) fun σ H Rr ⟨G, s, rel, ds, s', e, q⟩ => by
    obtain ⟨⟨d, s1⟩, ea, eb⟩ := Option.bind_eq_some_iff.mp e
    obtain ⟨xs, ec, ed⟩ := Option.bind_eq_some_iff.mp eb
    cases ed
    refine ⟨G, s, rel, _, _, ea, fun G1 H1 rel1 fr1 vs rv => ?_⟩
    obtain ⟨i, j, rfl, hj, rfl⟩ := dRange2_inv ec
    cases rv with
    | cons r1 r2 =>
      cases r2 with
      | cons r2 r3 =>
        cases r3; cases r1; cases r2
        exact ⟨i, j, rfl, ⟨by omega, by omega, by omega, by omega⟩, q G1 H1 rel1 fr1 _ wk_range⟩
theorem pair_get {xs ys : List D} {i : Nat} {d : D} (h : (pairUp xs ys)[i]? = some d) : ∃ x y, xs[i]? = some x ∧ ys[i]? = some y ∧ d = .tup [x, y] := by
  unfold pairUp at h
  rw [List.getElem?_map] at h
  obtain ⟨⟨x, y⟩, e1, e2⟩ := Option.map_eq_some_iff.mp h
  rw [List.getElem?_zip_eq_some] at e1
  exact ⟨x, y, e1.1, e1.2, e2.symm⟩
theorem pair_new {K : PySem.W.Frag} {R H : Hp} {L : List Addr} {T : Addr} {x y : V} {dx dy : D} (s : Same R H) (hT : H T = none) (rx : Rep K R L x dx) (ry : Rep K R L y dy) : ∃ R'', Ext R H R'' (upd H T (.tup [x, y])) ∧ Rep K R'' L (.ref T) (.tup [dx, dy]) := by
  have x2 := Ext.new (u := .tup [x, y]) s hT
  exact ⟨_, x2, .tup (.inl (.inl upd_same)) (.cons (Rep.mono x2.r (fun _ _ h => h) _ _ rx) (.cons (Rep.mono x2.r (fun _ _ h => h) _ _ ry) .nil))⟩
theorem i_enum {elts : List Expr} {kk : Nat} {tpos : Pos} {a : Expr} (hg : Gl X "enumerate") (hm : X.mg "enumerate" = none) (ha : SA X [a] fa) (hs : starEach [a] X.env = [(false, eval a X.env)] := by rfl) : SI X (.Tuple elts kk tpos) (.Call (.Name "enumerate" p) [a] [] pos) (iA dEnum fa) :=
  pi_imp (pi_enum hg hm ha hs) fun σ H Rr ⟨G, s, rel, ds, s', e, q⟩ => by
    obtain ⟨⟨d, s1⟩, ea, eb⟩ := Option.bind_eq_some_iff.mp e
    obtain ⟨xs, ec, ed⟩ := Option.bind_eq_some_iff.mp eb
    cases ed
    refine ⟨G, s, rel, _, _, ea, fun G1 H1 rel1 fr1 vs rv => ?_⟩
    obtain ⟨ys, rfl, rfl⟩ := dEnum_inv ec
    cases rv with
    | cons r1 r2 =>
      cases r2
      cases r1 with
      | @lst a vs _ h r =>
        refine ⟨a, vs, rfl, rd_seq h rel1.sub, q G1 H1 rel1 fr1 _ fun R' L' H s1 l1 s2 => ?_⟩
        have hq : SqL X.K H a vs := rd_seq h (s1.trans s2)
        refine ⟨⟨vs, hq, by rw [r.length]; simp [pairUp]⟩, fun i d hd => ?_⟩
        obtain ⟨x, y, e1, e2, rfl⟩ := pair_get hd
        obtain ⟨v, e3, rv⟩ := r.get e2
        refine ⟨⟨vs, v, hq, e3⟩, fun z H' ⟨T, w, e4, hT, e5, e6⟩ => ?_⟩
        have := e6 _ hq
        rw [e3] at this
        cases this
        subst e4 e5
        rw [List.getElem?_map] at e1
        obtain ⟨c, e1, e7⟩ := Option.map_eq_some_iff.mp e1
        have e8 := List.getElem?_eq_some_iff.mp e1
        simp only [List.getElem_range] at e8
        obtain ⟨_, rfl⟩ := e8
        subst e7
        exact pair_new s2 hT (.int _) (Rep.mono s1 l1 _ _ rv)
theorem i_zip {elts : List Expr} {kk : Nat} {tpos : Pos} {a b : Expr} (hg : Gl X "zip") (hm : X.mg "zip" = none) (ha : SA X [a, b] fa) (hs : starEach [a, b] X.env = (false, eval a X.env) :: starEach [b] X.env := by rfl) (hpl : (backTo pos (starEach [b] X.env)).any (·.1) = false := by rfl) : SI X (.Tuple elts kk tpos) (.Call (.Name "zip" p) [a, b] [] pos) (iA dZip fa) :=
  pi_imp (pi_zip hg hm ha hs hpl) fun σ H Rr ⟨G, s, rel, ds, s', e, q⟩ => by
    obtain ⟨⟨d, s1⟩, ea, eb⟩ := Option.bind_eq_some_iff.mp e
    obtain ⟨xs, ec, ed⟩ := Option.bind_eq_some_iff.mp eb
    cases ed
    refine ⟨G, s, rel, _, _, ea, fun G1 H1 rel1 fr1 vs rv => ?_⟩
    obtain ⟨xs, ys, rfl, rfl⟩ := dZip_inv ec
    cases rv with
    | cons r1 r2 =>
      cases r2 with
      | cons r2 r3 =>
        cases r3
        cases r1 with
        | @lst a vs _ h r =>
          cases r2 with
          | @lst b us _ h' r' =>
            refine ⟨a, b, vs, us, rfl, rd_seq h rel1.sub, rd_seq h' rel1.sub, q G1 H1 rel1 fr1 _ fun R' L' H s1 l1 s2 => ?_⟩
            have hq : SqL X.K H a vs := rd_seq h (s1.trans s2)
            have hq' : SqL X.K H b us := rd_seq h' (s1.trans s2)
            refine ⟨⟨vs, us, hq, hq', by rw [r.length, r'.length]; simp only [pairUp, List.length_map, List.length_zip]; omega⟩, fun i d hd => ?_⟩
            obtain ⟨x, y, e1, e2, rfl⟩ := pair_get hd
            obtain ⟨v, e3, rv⟩ := r.get e1
            obtain ⟨u, e4, ru⟩ := r'.get e2
            refine ⟨⟨vs, us, v, u, hq, hq', e3, e4⟩, fun z H' ⟨T, w, t, e5, hT, e6, e7, e8⟩ => ?_⟩
            have z1 := e7 _ hq
            have z2 := e8 _ hq'
            rw [e3] at z1
            rw [e4] at z2
            cases z1; cases z2
            subst e5 e6
            exact pair_new s2 hT (Rep.mono s1 l1 _ _ rv) (Rep.mono s1 l1 _ _ ru)
theorem i_rev {a : Expr} (hg : Gl X "reversed") (hm : X.mg "reversed" = none) (ha : SA X [a] fa) (hs : starEach [a] X.env = [(false, eval a X.env)] := by rfl) : SI X tg (.Call (.Name "reversed" p) [a] [] pos) (iA dRev fa) :=
  pi_imp (pi_reversed hg hm ha hs) fun σ H Rr ⟨G, s, rel, ds, s', e, q⟩ => by
    obtain ⟨⟨d, s1⟩, ea, eb⟩ := Option.bind_eq_some_iff.mp e
    obtain ⟨xs, ec, ed⟩ := Option.bind_eq_some_iff.mp eb
    cases ed
    refine ⟨G, s, rel, _, _, ea, fun G1 H1 rel1 fr1 vs rv => ?_⟩
    obtain ⟨ys, rfl, rfl⟩ := dRev_inv ec
    cases rv with
    | cons r1 r2 =>
      cases r2
      cases r1 with
      | @lst a vs _ h r =>
        refine ⟨a, vs, rfl, rd_seq h rel1.sub, q G1 H1 rel1 fr1 _ fun R' L' H s1 l1 s2 => ?_⟩
        have hq : SqL X.K H a vs := rd_seq h (s1.trans s2)
        have hl := r.length
        refine ⟨by show vs.length ≤ _; rw [hl, List.length_reverse]; exact Nat.le_refl _, fun i d hd => ?_⟩
        have hi : i < ys.length := by have := (List.getElem?_eq_some_iff.mp hd).1; simpa using this
        rw [List.getElem?_reverse hi] at hd
        obtain ⟨v, e3, rv⟩ := r.get hd
        rw [← hl] at e3
        refine ⟨⟨by omega, vs, v, hq, e3⟩, fun z H' ⟨e5, e6⟩ => ?_⟩
        have := e6 _ hq
        rw [e3] at this
        cases this
        subst e5
        exact ⟨R', Ext.refl s2, Rep.mono s1 l1 _ _ rv⟩
end

/-! ## for -/
def forL (h : EvG) (f : EvS) : List D → EvS
  | [] => fun s => some (.nx, s)
  | d :: ds => fun s => (h d s).bind fun s1 => (f s1).bind fun q => match q.1 with
    | .nx => forL h f ds q.2
    | .ct => forL h f ds q.2
    | .bk => some (.nx, q.2)
    | .rt d => some (.rt d, q.2)
def sFor (fi : EvA) (h : EvG) (f : EvS) : EvS := fun s => (fi s).bind fun p => forL h f p.1 p.2
section
variable {X : Cx} {pos : Pos}
theorem ss_for {tg iter : Expr} {body : List Stmt} {fi : EvA} {h : EvG} {f : EvS} (hi : SI X tg iter fi) (hg : SG X tg h) (hb : SSs X body f) (hp : PassesOwn (model X.prog X.w) X.A X.env X.xe := by exact PassesOwn.never) (hc : X.calm = true := by rfl)
    (hs : ∀ x, foldedSetIterable iter X.env x = pure x := by intro _; rfl) : SS X (.For tg iter body [] pos) (sFor fi h f) :=
  ps_imp (ps_for hp hc hi hg hb hs) fun D σ H ⟨G, s, rel, w⟩ => ⟨G, s, rel, (WS.bindE (k := fun ds s => forL h f ds s) w).imp fun ds G1 s1 H1 rel1 fr1 ⟨o, s9, e, q⟩ J wk => by
    refine ⟨fun i m σ' H' => ∃ G s, Rel X.K G s σ' H' ∧ Fr true G1 H1 G H' ∧ m = ds.length - i ∧ i ≤ ds.length ∧ forL h f (ds.drop i) s = some (o, s9), ⟨_, G1, s1, rel1, Fr.refl _ _ _, rfl, Nat.zero_le _, by simpa using e⟩, fun i m σ2 H2 ⟨G2, s2, rel2, fr2, em, hi, e2⟩ => ?_⟩
    obtain ⟨stop, go⟩ := wk G2.R G2.I H2 fr2.r fr2.l rel2.sub
    by_cases hl : i < ds.length
    · refine .inr ?_
      rw [List.drop_eq_getElem_cons hl] at e2
      obtain ⟨hgo, yl⟩ := go i ds[i] (List.getElem?_eq_getElem hl)
      refine ⟨hgo, fun σ' H' => ∃ G s, Rel X.K G s σ' H' ∧ Fr true G1 H1 G H' ∧ forL h f (ds.drop (i + 1)) s = some (o, s9), fun σ' H' ⟨G, s, r, fr, e⟩ => ⟨ds.length - (i + 1), by omega, G, s, r, fr, rfl, hl, e⟩, fun x H3 hy => ?_⟩
      obtain ⟨R3, x3, rx⟩ := yl x H3 hy
      have frA := fr1.weak (st := true)
      obtain ⟨rel3, fr3⟩ := rel2.ext x3
      obtain ⟨s4, ea, eb⟩ := Option.bind_eq_some_iff.mp e2
      refine ⟨_, s2, _, s4, rel3, rx, ea, fun σ4 G4 rel4 fr4 _ => ?_⟩
      obtain ⟨⟨o5, s5⟩, ec, ed⟩ := Option.bind_eq_some_iff.mp eb
      refine ⟨G4, s4, rel4, o5, s5, ec, fun σ5 G5 H5 rel5 fr5 => ?_⟩
      have fr := ((fr2.trans fr3.weak).trans fr4).trans fr5
      cases o5 with
      | nx => exact ⟨G5, s5, rel5, fr, ed⟩
      | ct => exact ⟨G5, s5, rel5, fr, ed⟩
      | bk => cases ed; exact q _ _ _ rel5 fr
      | rt d => cases ed; exact (q _ _ _ rel5 fr).later ((frA.trans ((fr2.trans fr3.weak).trans fr4)))
    · have ei : i = ds.length := by omega
      subst ei
      rw [List.drop_length] at e2
      cases e2
      exact .inl ⟨stop, q _ _ _ rel2 fr2⟩⟩
end
end Ev

namespace Ev
open PySem L2

/-! ## lists of one's own -/
section
variable {K : PySem.W.Frag} {G : Gh} {s : Sta} {σ : St} {H : Hp}
/-- a list of one's own, not held by a slot, becomes a value -/
theorem Rel.frzOut {v : V} {b : B} {fp : List Addr} (r : Rel K G s σ H) (hb : RepB K G.R G.I H v b fp) (hn : (fp ++ (G.O ++ G.L)).Nodup) :
    Rel K ⟨frz G.R H fp, G.L, G.O, G.J⟩ s σ H ∧ Rep K (frz G.R H fp) G.I v b.frz ∧ Same G.R (frz G.R H fp) := by
  have n0 : ∀ a ∈ fp, G.R a = none := fun a ha => (RepB.live _ _ _ hb a ha).1
  have sm : Same G.R (frz G.R H fp) := frz_same n0
  have out : ∀ a, a ∈ G.O ++ G.L → a ∉ fp := fun a h1 h2 => nodup_ne hn h2 h1
  have lv := r.env.live
  refine ⟨⟨fun a o q => ?_, RepE.mono sm (fun _ _ h => h) (fun _ _ => rfl) (fun a ha => ?_) r.env, r.nd, fun a ha => ?_, r.len, r.il, r.pl, fun n c h => ?_⟩, RepB.frozen sm (fun _ _ h => h) _ _ _ (fun a ha => frz_in ha) hb, sm⟩
  · have q : frz G.R H fp a = some o := q
    by_cases ha : a ∈ fp
    · rw [frz_in ha] at q; exact q
    · rw [frz_out ha] at q; exact r.sub _ _ q
  · show frz G.R H fp a = none
    rw [frz_out (out a (List.mem_append_left _ ha))]; exact (lv a ha).1
  · show frz G.R H fp a = none
    rw [frz_out (out a (List.mem_append_right _ ha))]; exact r.nr a ha
  · obtain ⟨a, h1, h2⟩ := r.sto n c h
    exact ⟨a, h1, h2.mono sm (fun _ _ h => h) rfl⟩
theorem Fr.frzOut {st : Bool} {G0 : Gh} {H0 : Hp} {fp : List Addr} (f : Fr st G0 H0 G H) (sm : Same G.R (frz G.R H fp)) (n : ∀ a ∈ fp, H0 a = none) : Fr st G0 H0 ⟨frz G.R H fp, G.L, G.O, G.J⟩ H :=
  ⟨f.r.trans sm, fun a h => by
    have h : frz G.R H fp a ≠ none := h
    by_cases ha : a ∈ fp
    · exact .inr (.inr (n a ha))
    · rw [frz_out ha] at h; exact f.rn a h, f.l, f.o, f.lo, f.h, f.d, f.j⟩
/-- a new object that nobody holds yet -/
theorem Rel.lay {p : Addr} {o : HO} (r : Rel K G s σ H) (hp : H p = none) : Rel K G s σ (upd H p o) ∧ Fr false G H G (upd H p o) := by
  have lv := r.env.live
  have cl : ∀ (n : Nat) (c : Cel) (a : Addr), G.L[n]? = some a → CelOk K G.R G.I H a c → a ≠ p := fun n c a h1 h2 e => by
    subst e
    cases c with
    | lst xs => obtain ⟨vs, e, _⟩ := h2; rw [hp] at e; cases e
  refine ⟨⟨r.sub.trans (same_new hp), RepE.mono (Same.refl _) (fun _ _ h => h) (fun a ha => ?_) (fun a ha => (lv a ha).1) r.env, r.nd, r.nr, r.len, r.il, r.pl, fun n c h => ?_⟩, ⟨Same.refl _, fun _ h => .inl h, fun _ _ h => h, fun _ h => .inl h, fun _ h => .inl h, fun a u e _ _ => same_new hp a u e, fun a h => ?_, rfl⟩⟩
  · obtain ⟨_, vs, e⟩ := lv a ha
    exact upd_ne (ne_of_none e hp)
  · obtain ⟨a, h1, h2⟩ := r.sto n c h
    exact ⟨a, h1, h2.mono (Same.refl _) (fun _ _ h => h) (upd_ne (cl n c a h1 h2))⟩
  · cases e : H a with
    | none => exact absurd e h
    | some u => rw [same_new hp a u e]; simp
theorem Rel.fresh {p : Addr} (r : Rel K G s σ H) (hp : H p = none) : p ∉ G.O ++ G.L := fun h => by
  rcases List.mem_append.mp h with h | h
  · obtain ⟨_, vs, e⟩ := r.env.live p h; rw [hp] at e; cases e
  · obtain ⟨n, hn⟩ := List.getElem?_of_mem h
    have : n < s.st.length := by rw [← r.len]; exact (List.getElem?_eq_some_iff.mp hn).1
    obtain ⟨b, hb, hc⟩ := r.sto n s.st[n] (by simp [this])
    rw [hn] at hb; cases hb
    cases hcc : s.st[n] with
    | lst xs => rw [hcc] at hc; obtain ⟨vs, e, _⟩ := hc; rw [hp] at e; cases e
end
def eFz (f : EvB) : EvE := fun s => (f s).bind fun p => some (p.1.frz, p.2)
def bLst (f : EvA) : EvB := fun s => (f s).bind fun p => if p.1.length ≤ sizeLine then some (.o (p.1.map .v), p.2) else none
def bL (g : List D → Option (List D)) (f : EvA) : EvB := fun s => (f s).bind fun p => (g p.1).bind fun xs => some (.o (xs.map .v), p.2)
def b2 (g : D → D → Option (List D)) (f h : EvE) : EvB := fun s => (f s).bind fun p => (h p.2).bind fun q => (g p.1 q.1).bind fun xs => some (.o (xs.map .v), q.2)
theorem W.optB {K : PySem.W.Frag} {o : Option (List D)} {s : Sta} {G : Gh} {σ : St} {H0 H : Hp} {Q : VK} (r : Rel K G s σ H) (d0 : ∀ a, H a = none → H0 a = none) (h : W K (o.bind fun xs => some (B.o (xs.map .v), s)) G σ H (fun b G' _ H' => ∀ v fp, RepB K G'.R G'.I H' v b fp → (fp ++ (G'.O ++ G'.L)).Nodup → (∀ a ∈ fp, H0 a = none) → Q v H')) :
    ∃ xs, o = some xs ∧ rsB K G.R G.I H xs Q := by
  obtain ⟨d, s', e, q⟩ := h
  obtain ⟨xs, e1, e2⟩ := Option.bind_eq_some_iff.mp e
  cases e2
  refine ⟨xs, e1, fun p vs R' H' x hp rv => ?_⟩
  obtain ⟨r1, f1⟩ := r.ext x
  obtain ⟨r2, f2⟩ := r1.lay (o := .lst vs) hp
  have hn := r1.fresh hp
  have hR : R' p = none := x.sub.free hp
  have hb : RepB K R' G.I (upd H' p (.lst vs)) (.ref p) (.o (xs.map .v)) [p] := RepB.o (fp := []) upd_same hR (RepBs.of_reps rv)
  refine q _ _ r2 (f1.trans f2) _ [p] hb ?_ fun a ha => ?_
  · rw [List.singleton_append, List.nodup_cons]
    exact ⟨hn, r1.nd⟩
  · cases List.mem_singleton.mp ha
    exact d0 _ (x.h.free hp)
section
variable {X : Cx} {e a b : Expr} {es : List Expr} {f g : EvE} {fa : EvA} {fb : EvB} {pos : Pos}
theorem s_frz (h : SB X e fb) : SE X e (eFz fb) := pe_imp h fun σ H Q ⟨G, s, rel, d, s2, e, q⟩ => by
  obtain ⟨⟨b, s1⟩, ea, eb⟩ := Option.bind_eq_some_iff.mp e
  cases eb
  refine ⟨G, s, rel, b, _, ea, fun G1 H1 rel1 fr1 v fp hb hn hg => ?_⟩
  obtain ⟨r2, hv, sm⟩ := rel1.frzOut hb hn
  exact q _ H1 r2 (fr1.frzOut sm hg) v hv
theorem b_lst (ha : SA X es fa) : SB X (.List es pos) (bLst fa) :=
  pe_imp (pe_lst ha) fun σ H Q ⟨G, s, rel, d, s2, e, q⟩ => by
    obtain ⟨⟨ds, s1⟩, ea, eb⟩ := Option.bind_eq_some_iff.mp e
    have eb : (if ds.length ≤ sizeLine then some (B.o (ds.map .v), s1) else none) = some (d, s2) := eb
    split at eb
    · rename_i hz
      cases eb
      refine ⟨G, s, rel, ds, s2, ea, fun G1 H1 rel1 fr1 vs rvs => ⟨by rw [rvs.length]; exact hz, fun p hp => ?_⟩⟩
      have w : W X.K ((some ds).bind fun xs => some (B.o (xs.map .v), s2)) G1 σ H1 (fun b G' _ H' => ∀ v fp, RepB X.K G'.R G'.I H' v b fp → (fp ++ (G'.O ++ G'.L)).Nodup → (∀ a ∈ fp, H a = none) → Q v H') :=
        ⟨_, _, rfl, fun G2 H2 r2 f2 => q G2 H2 r2 (fr1.trans f2)⟩
      obtain ⟨xs, e1, q1⟩ := w.optB rel1 (fun a h => fr1.back h)
      cases e1
      exact q1 p vs G1.R H1 (Ext.refl rel1.sub) hp rvs
    · cases eb
theorem s_lst (ha : SA X es fa) : SE X (.List es pos) (eFz (bLst fa)) := s_frz (b_lst ha)
theorem b_blt {x : Str} {p : Pos} {id : String} {r : List D → Option (List D)} (hc : CallR X (.builtin id) (GLB X.K r)) (hg : Gl X x) (hm : X.mg x = none) (hv : bootBuiltins x = some (.builtin id)) (ha : SA X (a :: es) fa) (hn : x ≠ "__name__" := by decide) (hdb : (x == ("__debug__" : Str)) = false := by decide)
    (he : starEach (a :: es) X.env = (false, eval a X.env) :: starEach es X.env := by rfl) (hpl : (backTo pos (starEach es X.env)).any (·.1) = false := by rfl) : SB X (.Call (.Name x p) (a :: es) [] pos) (bL r fa) :=
  pe_imp (pe_callB hc hg hm hv ha hn hdb he hpl) fun σ H Q ⟨G, s, rel, d, s2, e, q⟩ => by
    obtain ⟨⟨ds, s1⟩, ea, eb⟩ := Option.bind_eq_some_iff.mp e
    refine ⟨G, s, rel, ds, s1, ea, fun G1 H1 rel1 fr1 vs rvs => ?_⟩
    have w : W X.K ((r ds).bind fun xs => some (B.o (xs.map .v), s1)) G1 σ H1 (fun b G' _ H' => ∀ v fp, RepB X.K G'.R G'.I H' v b fp → (fp ++ (G'.O ++ G'.L)).Nodup → (∀ a ∈ fp, H a = none) → Q v H') :=
      ⟨_, _, eb, fun G2 H2 r2 f2 => q G2 H2 r2 (fr1.trans f2)⟩
    obtain ⟨xs, e1, q1⟩ := w.optB rel1 (fun a h => fr1.back h)
    exact ⟨G1.R, G1.I, ds, xs, rel1.sub, rvs, e1, q1⟩
theorem b_bty {x : Str} {p : Pos} {id : String} {r : List D → Option (List D)} (hc : CallR X (.type id) (GLB X.K r)) (hg : Gl X x) (hm : X.mg x = none) (hv : bootBuiltins x = some (.type id)) (ha : SA X (a :: es) fa) (hn : x ≠ "__name__" := by decide) (hdb : (x == ("__debug__" : Str)) = false := by decide)
    (he : starEach (a :: es) X.env = (false, eval a X.env) :: starEach es X.env := by rfl) (hpl : (backTo pos (starEach es X.env)).any (·.1) = false := by rfl) : SB X (.Call (.Name x p) (a :: es) [] pos) (bL r fa) :=
  pe_imp (pe_callTy hc hg hm hv ha hn hdb he hpl) fun σ H Q ⟨G, s, rel, d, s2, e, q⟩ => by
    obtain ⟨⟨ds, s1⟩, ea, eb⟩ := Option.bind_eq_some_iff.mp e
    refine ⟨G, s, rel, ds, s1, ea, fun G1 H1 rel1 fr1 vs rvs => ?_⟩
    have w : W X.K ((r ds).bind fun xs => some (B.o (xs.map .v), s1)) G1 σ H1 (fun b G' _ H' => ∀ v fp, RepB X.K G'.R G'.I H' v b fp → (fp ++ (G'.O ++ G'.L)).Nodup → (∀ a ∈ fp, H a = none) → Q v H') :=
      ⟨_, _, eb, fun G2 H2 r2 f2 => q G2 H2 r2 (fr1.trans f2)⟩
    obtain ⟨xs, e1, q1⟩ := w.optB rel1 (fun a h => fr1.back h)
    exact ⟨G1.R, G1.I, ds, xs, rel1.sub, rvs, e1, q1⟩
theorem b_bin {op : Operator} {r : D → D → Option (List D)} (ho : OpR X (binaryOp op) (G2B X.K r)) (ha : SE X a f) (hb : SE X b g) : SB X (.BinOp a op b pos) (b2 r f g) :=
  pe_imp (pe_op ho ha hb) fun σ H Q ⟨G, s, rel, d, s9, e, q⟩ => by
    obtain ⟨⟨dx, s1⟩, ea, eb⟩ := Option.bind_eq_some_iff.mp e
    obtain ⟨⟨dy, s2⟩, ec, ed⟩ := Option.bind_eq_some_iff.mp eb
    refine ⟨G, s, rel, dx, s1, ea, fun G1 H1 rel1 fr1 v rv => ⟨G1, s1, rel1, dy, s2, ec, fun G2 H2 rel2 fr2 u ru => ?_⟩⟩
    have w : W X.K ((r dx dy).bind fun xs => some (B.o (xs.map .v), s2)) G2 σ H2 (fun b G' _ H' => ∀ v fp, RepB X.K G'.R G'.I H' v b fp → (fp ++ (G'.O ++ G'.L)).Nodup → (∀ a ∈ fp, H a = none) → Q v H') :=
      ⟨_, _, ed, fun G3 H3 r3 f3 => q G3 H3 r3 ((fr1.trans fr2).trans f3)⟩
    obtain ⟨xs, e1, q1⟩ := w.optB rel2 (fun a h => (fr1.trans fr2).back h)
    exact ⟨G2.R, G2.I, dx, dy, xs, rel2.sub, Rep.mono fr2.r fr2.l _ _ rv, ru, e1, q1⟩
end

/-! ## comprehensions -/
def wipeE (s : Sta) : List Nat → Sta
  | [] => s
  | v :: vs => (wipeE s vs).put v none
def lcL (own : List Nat) (h : EvG) (c : EvT) (e : EvE) : List D → Sta → Option (List D × Sta)
  | [], s => some ([], s)
  | d :: ds, s => (h d s).bind fun s1 => (c s1).bind fun p => if p.1 = true then (e p.2).bind fun q => (lcL own h c e ds (wipeE q.2 own)).bind fun r => some (q.1 :: r.1, r.2) else lcL own h c e ds (wipeE p.2 own)
def bLc (own : List Nat) (fi : EvA) (h : EvG) (c : EvT) (e : EvE) : EvB := fun s => (fi s).bind fun p => if p.1.length ≤ sizeLine then (lcL own h c e p.1 (wipeE p.2 own)).bind fun r => some (.o (r.1.map .v), r.2) else none
def tYes' : EvT := fun s => some (true, s)
section
variable {K : PySem.W.Frag} {G : Gh} {s : Sta} {σ : St} {H : Hp}
theorem Rel.wipes (r : Rel K G s σ H) : ∀ own : List Nat, ∃ O', Rel K ⟨G.R, G.L, O', G.J⟩ (wipeE s own) (L2.wipe σ own) H ∧ ∀ a ∈ O', a ∈ G.O
  | [] => ⟨G.O, r, fun _ h => h⟩
  | v :: vs => by
    obtain ⟨O1, r1, h1⟩ := Rel.wipes r vs
    obtain ⟨O2, r2, h2⟩ := r1.wipe (i := v) none
    exact ⟨O2, r2, fun a h => h1 a (h2 a h)⟩
theorem RepE.unset {K : PySem.W.Frag} {R : Hp} {L : List Addr} {H : Hp} : ∀ {σ : St} {e : List (Option B)} {f : List Addr} {i : Nat} {x : Option V}, RepE K R L H (σ.set i x) e f → (e[i]? = some none ∨ e[i]? = none) → RepE K R L H σ e f
  | [], e, f, i, x, h, _ => by rw [List.set_nil] at h; exact h
  | y :: σ, e, f, 0, x, h, z => by
    cases h with
    | non t => exact .non t
    | val b t => simp at z
  | y :: σ, e, f, i + 1, x, h, z => by
    cases h with
    | non t => exact .non (RepE.unset t (by simpa using z))
    | val b t => exact .val b (RepE.unset t (by simpa using z))
theorem wipeE_env : ∀ (own : List Nat) (s : Sta), (wipeE s own).env.length = s.env.length
  | [], s => rfl
  | v :: vs, s => by
    show ((wipeE s vs).env.set v none).length = _
    rw [List.length_set, wipeE_env vs s]
theorem wipeE_none : ∀ (own : List Nat) (s : Sta) (i : Nat), i ∈ own → ((wipeE s own).env[i]? = some none ∨ (wipeE s own).env[i]? = none)
  | [], s, i, h => by cases h
  | v :: vs, s, i, h => by
    show ((wipeE s vs).env.set v none)[i]? = some none ∨ ((wipeE s vs).env.set v none)[i]? = none
    by_cases e : v = i
    · subst e
      rw [List.getElem?_set_self']
      cases (wipeE s vs).env[v]? <;> simp
    · rw [List.getElem?_set_ne e]
      exact wipeE_none vs s i ((List.mem_cons.mp h).resolve_left fun z => e z.symm)
/-- the slots wiped may hold anything -/
theorem RepE.unwipe {K : PySem.W.Frag} {R : Hp} {L : List Addr} {H : Hp} {e : List (Option B)} {f : List Addr} : ∀ {own : List Nat} {σ : St}, RepE K R L H (L2.wipe σ own) e f → (∀ i ∈ own, e[i]? = some none ∨ e[i]? = none) → RepE K R L H σ e f
  | [], σ, h, _ => h
  | v :: vs, σ, h, z => RepE.unwipe (own := vs) (RepE.unset h (z v (List.mem_cons_self ..))) fun i hi => z i (List.mem_cons_of_mem _ hi)
end
section
variable {X : Cx} {elt tg iter : Expr} {ifs : List Expr} {scope : Scope} {own : List (Str × Nat)} {pos spos : Pos} {fi : EvA} {h : EvG} {c : EvT} {e : EvE}
abbrev STs (X : Cx) (ifs : List Expr) (f : EvT) : Prop := PTs X ifs (tT X.K f)
theorem ts_nil : STs X [] tYes' := ⟨fun pins s σ H Q I ⟨G, st, rel, w⟩ => pts_nil.run pins s σ H Q I (w.now rel)⟩
theorem ts_one {x : Expr} {f : EvT} (h : STt X x f) : STs X [x] f := pts_one h
theorem rd_lc {K : PySem.W.Frag} {vs : List Nat} (σ : St) (H : Hp) (Q : VK) (q : tB K (bLc vs fi h c e) σ H Q) : tLc (tI K fi) (tGw K vs h) (tT K c) (tE K false e) vs σ H Q := by
  obtain ⟨G, s, rel, b, s9, e0, q⟩ := q
  obtain ⟨⟨ds, s1⟩, ea, eb⟩ := Option.bind_eq_some_iff.mp e0
  have eb : (if ds.length ≤ sizeLine then (lcL vs h c e ds (wipeE s1 vs)).bind fun r => some (B.o (r.1.map .v), r.2) else none) = some (b, s9) := eb
  split at eb
  · rename_i hz
    obtain ⟨⟨out, s8⟩, ec, ed⟩ := Option.bind_eq_some_iff.mp eb
    cases ed
    refine ⟨G, s, rel, ds, s1, ea, fun G1 H1 rel1 fr1 J wk D hD => ?_⟩
    obtain ⟨r0, f0⟩ := rel1.lay (o := .lst []) hD
    have nD := rel1.fresh hD
    obtain ⟨O1, r1, hO1⟩ := r0.wipes vs
    -- the state at turn i: the items so far stand at D
    refine ⟨fun i m H' => ∃ G' s' done us, Rel K G' s' (L2.wipe σ vs) H' ∧ Fr false G H G' H' ∧ Same G1.R G'.R ∧ Pre G1.I G'.I ∧ H' D = some (.lst us) ∧ Reps K G'.R G'.I us done ∧ G'.R D = none ∧ D ∉ G'.O ++ G'.L ∧ m = ds.length - i ∧ i ≤ ds.length ∧ done.length ≤ i ∧
      (∃ more, lcL vs h c e (ds.drop i) s' = some (more, s8) ∧ out = done ++ more) ∧ (∀ j ∈ vs, s'.env[j]? = some none ∨ s'.env[j]? = none),
      ⟨_, ⟨G1.R, G1.L, O1, G1.J⟩, wipeE s1 vs, [], [], r1, ?_, Same.refl _, fun _ _ h => h, upd_same, .nil, rel1.sub.free hD, fun z => nD (by
        rcases List.mem_append.mp z with z | z
        · exact List.mem_append_left _ (hO1 _ z)
        · exact List.mem_append_right _ z), rfl, Nat.zero_le _, Nat.le_refl _, ⟨out, by simpa using ec, by simp⟩, fun j hj => wipeE_none vs s1 j hj⟩, ?_⟩
    · exact (fr1.trans f0).own (g := []) (fun a ha => .inl (hO1 a ha)) fun _ h => by cases h
    · rintro i m H2 ⟨G2, s2, done, us, rel2, fr2, sR, pL, hDs, hr, nR, nO, em, hi, hd, ⟨more, e2, eo⟩, hw⟩
      obtain ⟨stop, go⟩ := wk G2.R G2.I H2 sR pL rel2.sub
      by_cases hl : i < ds.length
      · refine .inr ?_
        rw [List.drop_eq_getElem_cons hl] at e2
        obtain ⟨hgo, yl⟩ := go i ds[i] (List.getElem?_eq_getElem hl)
        refine ⟨hgo, fun H' => ∃ G' s' done us, Rel K G' s' (L2.wipe σ vs) H' ∧ Fr false G H G' H' ∧ Same G1.R G'.R ∧ Pre G1.I G'.I ∧ H' D = some (.lst us) ∧ Reps K G'.R G'.I us done ∧ G'.R D = none ∧ D ∉ G'.O ++ G'.L ∧ done.length ≤ i + 1 ∧
          (∃ more, lcL vs h c e (ds.drop (i + 1)) s' = some (more, s8) ∧ out = done ++ more) ∧ (∀ j ∈ vs, s'.env[j]? = some none ∨ s'.env[j]? = none),
          fun H' ⟨G', s', done, us, a1, a2, a3, a4, a5, a6, a7, a8, a9, a10, a11⟩ => ⟨ds.length - (i + 1), by omega, G', s', done, us, a1, a2, a3, a4, a5, a6, a7, a8, rfl, hl, a9, a10, a11⟩, fun x H3 hy => ?_⟩
        obtain ⟨R3, x3, rx⟩ := yl x H3 hy
        obtain ⟨rel3, fr3⟩ := rel2.ext x3
        have hD3 : H3 D = some (.lst us) := x3.h _ _ hDs
        have nR3 : R3 D = none := by
          cases z : R3 D with
          | none => rfl
          | some u =>
            rcases x3.rn D (by rw [z]; simp) with w | w
            · exact absurd nR w
            · rw [hDs] at w; cases w
        obtain ⟨s4, ef, eg⟩ := Option.bind_eq_some_iff.mp e2
        refine ⟨⟨R3, G2.L, G2.O, G2.J⟩, s2, _, s4, rel3, rx, ef, fun σ4 G4 rel4 fr4 ⟨eR4, eL4⟩ hw4 => ?_⟩
        have hw4' : L2.wipe σ4 vs = L2.wipe σ vs := by rw [hw4, wipe_idem]
        refine ⟨hw4', ?_⟩
        obtain ⟨⟨k, s5⟩, eh, ei⟩ := Option.bind_eq_some_iff.mp eg
        refine ⟨G4, s4, rel4, k, s5, eh, fun G5 H5 rel5 fr5 => ?_⟩
        have nR4 : G4.R D = none := by rw [eR4]; exact nR3
        have nO4 : D ∉ G4.O ++ G4.L := fun z => by
          rcases List.mem_append.mp z with z | z
          · rcases fr4.o D z with z | z
            · exact nO (List.mem_append_left _ z)
            · rw [hD3] at z; cases z
          · rw [eL4] at z; exact nO (List.mem_append_right _ z)
        -- D behind a step that is none of its own
        have stepD : ∀ {Ga Gb : Gh} {Ha Hb : Hp}, Fr false Ga Ha Gb Hb → Ha D = some (.lst us) → Ga.R D = none → D ∉ Ga.O ++ Ga.L → Hb D = some (.lst us) ∧ Gb.R D = none ∧ D ∉ Gb.O ++ Gb.L := fun {Ga Gb Ha Hb} f z1 z2 z3 => by
          refine ⟨f.h D _ z1 (fun z => by cases z) fun z => z3 (List.mem_append_right _ z), ?_, fun z => ?_⟩
          · cases y : Gb.R D with
            | none => rfl
            | some u =>
              rcases f.rn D (by rw [y]; simp) with w | w | w
              · exact absurd z2 w
              · exact absurd (List.mem_append_left _ w) z3
              · rw [z1] at w; cases w
          · rcases List.mem_append.mp z with z | z
            · rcases f.o D z with w | w
              · exact z3 (List.mem_append_left _ w)
              · rw [z1] at w; cases w
            · rcases f.lo D z with w | w
              · exact z3 (List.mem_append_right _ w)
              · rw [z1] at w; cases w
        obtain ⟨hD5, nR5, nO5⟩ := stepD fr5 hD3 nR4 nO4
        -- the frames, as seen from the start: own slots alone were stored
        have fr4' : Fr false ⟨R3, G2.L, G2.O, G2.J⟩ H3 G4 H3 := ⟨fr4.r, fr4.rn, fr4.l, fr4.o, fr4.lo, fun a u z _ _ => z, fr4.d, fr4.j⟩
        have frA : Fr false G H G5 H5 := ((fr2.trans fr3).trans fr4').trans fr5
        have sRA : Same G1.R G5.R := ((sR.trans fr3.r).trans fr4.r).trans fr5.r
        have pLA : Pre G1.I G5.I := fun n p z => fr5.l n p (fr4.l n p (pL n p z))
        have hr5 : Reps K G5.R G5.I us done := Reps.mono (((x3.r).trans fr4.r).trans fr5.r) (fun n p z => fr5.l n p (fr4.l n p z)) _ _ hr
        cases k with
        | false =>
          simp only [Bool.false_eq_true, if_false] at ei ⊢
          obtain ⟨O6, r6, hO6⟩ := rel5.wipes vs
          rw [hw4'] at r6
          exact ⟨⟨G5.R, G5.L, O6, G5.J⟩, wipeE s5 vs, done, us, r6, frA.own (g := []) (fun a ha => .inl (hO6 a ha)) (fun _ z => by cases z), sRA, pLA, hD5, hr5, nR5, fun z => nO5 (by
            rcases List.mem_append.mp z with z | z
            · exact List.mem_append_left _ (hO6 _ z)
            · exact List.mem_append_right _ z), by omega, ⟨more, ei, eo⟩, fun j hj => wipeE_none vs s5 j hj⟩
        | true =>
          simp only [if_true] at ei ⊢
          obtain ⟨⟨d6, s6⟩, ej, ek⟩ := Option.bind_eq_some_iff.mp ei
          obtain ⟨⟨more', s7⟩, el, em2⟩ := Option.bind_eq_some_iff.mp ek
          cases em2
          refine ⟨G5, s5, rel5, d6, s6, ej, fun G6 H6 rel6 fr6 y ry => ?_⟩
          obtain ⟨hD6, nR6, nO6⟩ := stepD fr6 hD5 nR5 nO5
          have hus : us.length = done.length := hr5.length
          refine ⟨us, hD6, by omega, ?_⟩
          -- the new item appended
          have keep : Rel K G6 s6 σ4 (upd H6 D (.lst (us ++ [y]))) := by
            have lv := rel6.env.live
            refine ⟨fun a o z => ?_, RepE.mono (Same.refl _) (fun _ _ h => h) (fun a ha => ?_) (fun a ha => (lv a ha).1) rel6.env, rel6.nd, rel6.nr, rel6.len, rel6.il, rel6.pl, fun n cc z => ?_⟩
            · have : a ≠ D := fun w => by rw [w, nR6] at z; cases z
              rw [upd_ne this]; exact rel6.sub _ _ z
            · exact upd_ne fun w => nO6 (by rw [← w]; exact List.mem_append_left _ ha)
            · obtain ⟨a, z1, z2⟩ := rel6.sto n cc z
              exact ⟨a, z1, z2.mono (Same.refl _) (fun _ _ h => h) (upd_ne fun w => nO6 (by rw [← w]; exact List.mem_append_right _ (List.mem_of_getElem? z1)))⟩
          obtain ⟨O7, r7, hO7⟩ := keep.wipes vs
          rw [hw4'] at r7
          have frB : Fr false G H G6 H6 := frA.trans fr6
          have hDn : H D = none := fr1.back hD
          refine ⟨⟨G6.R, G6.L, O7, G6.J⟩, wipeE s6 vs, done ++ [d6], us ++ [y], r7, ?_, sRA.trans fr6.r, fun n p z => fr6.l n p (pLA n p z), upd_same, ?_, nR6, fun z => nO6 (by
            rcases List.mem_append.mp z with z | z
            · exact List.mem_append_left _ (hO7 _ z)
            · exact List.mem_append_right _ z), by rw [List.length_append, List.length_singleton]; omega, ⟨more', el, by rw [eo, List.append_assoc]; rfl⟩, fun j hj => wipeE_none vs s6 j hj⟩
          · refine ⟨frB.r, frB.rn, frB.l, fun a ha => frB.o a (hO7 a ha), frB.lo, fun a u z w1 w2 => ?_, fun a z => ?_, frB.j⟩
            · have : a ≠ D := fun w => by rw [w, hDn] at z; cases z
              rw [upd_ne this]; exact frB.h a u z w1 w2
            · by_cases w : a = D
              · rw [w, upd_same]; simp
              · rw [upd_ne w]; exact frB.d a z
          · exact (Reps.mono fr6.r fr6.l _ _ hr5).append (.cons ry .nil)
      · have ei : i = ds.length := by omega
        subst ei
        rw [List.drop_length] at e2
        cases e2
        rw [List.append_nil] at eo
        subst eo
        refine .inl ⟨stop, ?_⟩
        have relE : Rel K G2 _ σ H2 := ⟨rel2.sub, rel2.env.unwipe hw, rel2.nd, rel2.nr, rel2.len, rel2.il, rel2.pl, rel2.sto⟩
        refine q G2 H2 relE fr2 (.ref D) [D] (RepB.o (fp := []) hDs nR (RepBs.of_reps hr)) ?_ fun a ha => ?_
        · rw [List.singleton_append, List.nodup_cons]; exact ⟨nO, rel2.nd⟩
        · cases List.mem_singleton.mp ha
          exact fr1.back hD
  · cases eb
theorem b_lc (hc : X.calm = true) (hN : X.N.Nodup) (hi : SI X tg iter fi) (ok : BlkOk X.N X.env.scope scope own)
    (hg : ∀ (s : Shared) (H : Hp) (C : Addr) (cl : List (Str × Addr)) (fp : List Addr), SGw (X.blk s H scope (compEnvC scope cl C X.env) fp) (own.map (·.2)) tg h) (ht : ∀ (s : Shared) (H : Hp) (C : Addr) (cl : List (Str × Addr)) (fp : List Addr), STs (X.blk s H scope (compEnvC scope cl C X.env) fp) ifs c)
    (he : ∀ (s : Shared) (H : Hp) (C : Addr) (cl : List (Str × Addr)) (fp : List Addr), SE (X.blk s H scope (compEnvC scope cl C X.env) fp) elt e) (hs : ∀ x, foldedSetIterable iter X.env x = pure x := by intro _; rfl) :
    SB X (.ListComp elt [⟨tg, iter, ifs, 0⟩] scope pos) (bLc (own.map (·.2)) fi h c e) := pe_imp (pe_lc hc hN hi ok hg ht he hs) fun σ H Q q => rd_lc σ H Q q
/-- name = [..] on one line -/
theorem ss_setLc {i : Nat} {y : Str} {py : Pos} (hc : X.calm = true) (hN : X.N.Nodup) (hy : X.N[i]? = some y) (hyl : X.env.scope.names.lookup y = some .local)
    (hsw : swapsWith (.ListComp elt [⟨tg, iter, ifs, 0⟩] scope pos) (some (.Name y py)) spos.line X.env = pure true) (hi : SI X tg iter fi) (ok : BlkOk X.N X.env.scope scope own)
    (hg : ∀ (s : Shared) (H : Hp) (C : Addr) (cl : List (Str × Addr)) (fp : List Addr), SGw (X.blk s H scope (compEnvC scope cl C X.env) fp) (own.map (·.2)) tg h) (ht : ∀ (s : Shared) (H : Hp) (C : Addr) (cl : List (Str × Addr)) (fp : List Addr), STs (X.blk s H scope (compEnvC scope cl C X.env) fp) ifs c)
    (he : ∀ (s : Shared) (H : Hp) (C : Addr) (cl : List (Str × Addr)) (fp : List Addr), SE (X.blk s H scope (compEnvC scope cl C X.env) fp) elt e) (hs : ∀ x, foldedSetIterable iter X.env x = pure x := by intro _; rfl) :
    SS X (.Assign [.Name y py] (.ListComp elt [⟨tg, iter, ifs, 0⟩] scope pos) spos) (sSetB i (bLc (own.map (·.2)) fi h c e)) :=
  ps_imp (ps_setLc hc hN hy hyl hsw hi ok hg ht he hs) fun D σ H ⟨G, s, rel, d, s1, e1, q⟩ => by
    obtain ⟨⟨d0, s0⟩, ea, eb⟩ := Option.bind_eq_some_iff.mp e1
    cases eb
    refine rd_lc σ H _ ⟨G, s, rel, d0, s0, ea, fun G1 H1 rel1 fr1 v fp rv hn hg => ?_⟩
    obtain ⟨G', q'⟩ := set_end (i := i) (Q := fun o G' _ σ' H' => outOk X.K D G H o G' σ' H') rel1 rv hn fr1.weak hg ⟨_, _, rfl, q⟩
    exact q'
/-- .. kept as a value -/
theorem ss_setLcV {i : Nat} {y : Str} {py : Pos} (hc : X.calm = true) (hN : X.N.Nodup) (hy : X.N[i]? = some y) (hyl : X.env.scope.names.lookup y = some .local)
    (hsw : swapsWith (.ListComp elt [⟨tg, iter, ifs, 0⟩] scope pos) (some (.Name y py)) spos.line X.env = pure true) (hi : SI X tg iter fi) (ok : BlkOk X.N X.env.scope scope own)
    (hg : ∀ (s : Shared) (H : Hp) (C : Addr) (cl : List (Str × Addr)) (fp : List Addr), SGw (X.blk s H scope (compEnvC scope cl C X.env) fp) (own.map (·.2)) tg h) (ht : ∀ (s : Shared) (H : Hp) (C : Addr) (cl : List (Str × Addr)) (fp : List Addr), STs (X.blk s H scope (compEnvC scope cl C X.env) fp) ifs c)
    (he : ∀ (s : Shared) (H : Hp) (C : Addr) (cl : List (Str × Addr)) (fp : List Addr), SE (X.blk s H scope (compEnvC scope cl C X.env) fp) elt e) (hs : ∀ x, foldedSetIterable iter X.env x = pure x := by intro _; rfl) :
    SS X (.Assign [.Name y py] (.ListComp elt [⟨tg, iter, ifs, 0⟩] scope pos) spos) (sSet i (eFz (bLc (own.map (·.2)) fi h c e))) :=
  ps_imp (ps_setLc hc hN hy hyl hsw hi ok hg ht he hs) fun D σ H ⟨G, s, rel, d, s1, e1, q⟩ => by
    obtain ⟨⟨d0, s0⟩, ea, eb⟩ := Option.bind_eq_some_iff.mp e1
    cases eb
    obtain ⟨⟨b, s2⟩, ec, ed⟩ := Option.bind_eq_some_iff.mp ea
    cases ed
    refine rd_lc σ H _ ⟨G, s, rel, b, _, ec, fun G1 H1 rel1 fr1 v fp hb hn hg => ?_⟩
    obtain ⟨r2, hv, sm⟩ := rel1.frzOut hb hn
    obtain ⟨G', q'⟩ := set_end (i := i) (Q := fun o G' _ σ' H' => outOk X.K D G H o G' σ' H') r2 (.v hv) (by rw [List.nil_append]; exact r2.nd) (fr1.frzOut sm hg).weak (fun _ h => by cases h) ⟨_, _, rfl, q⟩
    exact q'
end
end Ev

namespace Ev
open PySem L2

/-! ## places within lists of one's own -/
def B.get : List Nat → B → Option B
  | [], b => some b
  | i :: p, .o xs => (xs[i]?).bind (B.get p)
  | _ :: _, .v _ => none
def B.put (c : B) : List Nat → B → B
  | [], _ => c
  | i :: p, .o xs => match xs[i]? with
    | some b => .o (xs.set i (B.put c p b))
    | none => .o xs
  | _ :: _, .v d => .v d
def PathV (H : Hp) : List Nat → V → V → Prop
  | [], v, w => v = w
  | i :: p, v, w => ∃ a vs u, v = .ref a ∧ H a = some (.lst vs) ∧ vs[i]? = some u ∧ PathV H p u w
theorem PathV.inj {H : Hp} : ∀ {p : List Nat} {v w w' : V}, PathV H p v w → PathV H p v w' → w = w'
  | [], _, _, _, h, h' => h.symm.trans h'
  | i :: p, _, _, _, ⟨a, vs, u, e1, e2, e3, h⟩, ⟨a', vs', u', e1', e2', e3', h'⟩ => by
    rw [e1] at e1'; cases e1'
    rw [e2] at e2'; cases e2'
    rw [e3] at e3'; cases e3'
    exact PathV.inj h h'
theorem PathV.snoc {H : Hp} : ∀ {p : List Nat} {v : V} {a : Addr} {vs : List V} {j : Nat} {u : V}, PathV H p v (.ref a) → H a = some (.lst vs) → vs[j]? = some u → PathV H (p ++ [j]) v u
  | [], _, a, vs, j, u, h, e1, e2 => ⟨a, vs, u, h, e1, e2, rfl⟩
  | i :: p, _, a, vs, j, u, ⟨b, ws, x, e3, e4, e5, h⟩, e1, e2 => ⟨b, ws, x, e3, e4, e5, PathV.snoc h e1 e2⟩
section
variable {K : PySem.W.Frag} {R : Hp} {L : List Addr} {H : Hp}
theorem RepBs.focus : ∀ {vs : List V} {xs : List B} {fp : List Addr} {i : Nat} {b : B}, RepBs K R L H vs xs fp → xs[i]? = some b →
    ∃ v f1 f2 f3, vs[i]? = some v ∧ fp = f1 ++ (f2 ++ f3) ∧ RepB K R L H v b f2 ∧ ∀ {H' : Hp} {b' : B} {g : List Addr}, RepB K R L H' v b' g → (∀ a ∈ f1 ++ f3, H' a = H a) → RepBs K R L H' vs (xs.set i b') (f1 ++ (g ++ f3))
  | _, _, _, _, _, .nil, e => by simp at e
  | _, _, _, 0, b, .cons (f := f) (g := g) h t, e => by
    simp at e; subst e
    have lt := RepBs.live _ _ _ t
    refine ⟨_, [], f, g, rfl, rfl, h, fun {H' b' g'} hb k => ?_⟩
    show RepBs K R L H' _ _ (g' ++ g)
    exact .cons hb (RepBs.mono (Same.refl _) (fun _ _ h => h) _ _ _ k (fun a ha => (lt a ha).1) t)
  | _, _, _, i + 1, b, .cons (f := f) (x := x) h t, e => by
    obtain ⟨v, f1, f2, f3, e1, e2, e3, k⟩ := RepBs.focus (i := i) t (by simpa using e)
    have lt := RepB.live _ _ _ h
    refine ⟨v, f ++ f1, f2, f3, by simpa using e1, by rw [e2, List.append_assoc], e3, fun {H' b' g'} hb z => ?_⟩
    rw [List.append_assoc] at z ⊢
    exact .cons (RepB.mono (Same.refl _) (fun _ _ h => h) _ _ _ (fun a ha => z a (List.mem_append_left _ ha)) (fun a ha => (lt a ha).1) h) (k hb fun a ha => z a (List.mem_append_right _ ha))
theorem RepB.path : ∀ {p : List Nat} {b : B} {v : V} {fp : List Addr} {c : B}, RepB K R L H v b fp → b.get p = some c →
    ∃ w f1 f2 f3, fp = f1 ++ (f2 ++ f3) ∧ RepB K R L H w c f2 ∧ (∀ H' : Hp, (∀ a ∈ f1, H' a = H a) → PathV H' p v w) ∧
      ∀ {H' : Hp} {c' : B} {g : List Addr}, RepB K R L H' w c' g → (∀ a ∈ f1 ++ f3, H' a = H a) → RepB K R L H' v (B.put c' p b) (f1 ++ (g ++ f3))
  | [], b, y, fp, c, h, e => by
    cases e
    refine ⟨y, [], fp, [], by simp, h, fun _ _ => rfl, fun {H' c' g} hb _ => ?_⟩
    show RepB K R L H' y c' (g ++ [])
    rw [List.append_nil]
    exact hb
  | i :: p, .v d, y, fp, c, h, e => by cases e
  | i :: p, .o xs, y, fp, c, h, e => by
    obtain ⟨b, e1, e2⟩ := Option.bind_eq_some_iff.mp e
    cases h with
    | @o a vs _ fp0 h1 h2 h3 =>
      obtain ⟨u, f1, f2, f3, e3, e4, hb, k⟩ := RepBs.focus h3 e1
      obtain ⟨w, g1, g2, g3, e5, hc, hp, k2⟩ := RepB.path hb e2
      refine ⟨w, a :: (f1 ++ g1), g2, g3 ++ f3, by rw [e4, e5]; simp, hc, fun H' z => ⟨a, vs, u, rfl, (z a (List.mem_cons_self ..)).trans h1, e3, hp H' fun c hc => z c (List.mem_cons_of_mem _ (List.mem_append_right _ hc))⟩, fun {H' c' g} hb' z => ?_⟩
      have hput : B.put c' (i :: p) (.o xs) = .o (xs.set i (B.put c' p b)) := by simp only [B.put, e1]
      rw [hput]
      have hk := k (k2 hb' fun c hc => z c (by simp only [List.mem_append, List.mem_cons] at hc ⊢; rcases hc with h | h <;> simp [h])) fun c hc => z c (by simp only [List.mem_append, List.mem_cons] at hc ⊢; rcases hc with h | h <;> simp [h])
      have ea : a :: (f1 ++ g1) ++ (g ++ (g3 ++ f3)) = a :: (f1 ++ (g1 ++ (g ++ g3) ++ f3)) := by simp
      rw [ea]
      exact .o ((z a (by simp)).trans h1) h2 hk
end
section
variable {K : PySem.W.Frag} {G : Gh} {s : Sta} {σ : St} {H : Hp}
/-- the list of one's own at a place of a slot, and what follows when it is changed -/
theorem Rel.mut {i : Nat} {p : List Nat} {b : B} {xs : List B} (r : Rel K G s σ H) (e : s.env[i]? = some (some b)) (eg : b.get p = some (.o xs)) :
    ∃ v0 a vs fp0, σ[i]? = some (some v0) ∧ (∀ H' : Hp, (∀ c ∈ G.O, c ≠ a → H' c = H c) → PathV H' p v0 (.ref a)) ∧ H a = some (.lst vs) ∧ G.R a = none ∧ RepBs K G.R G.I H vs xs fp0 ∧ a ∈ G.O ∧ a ∉ fp0 ∧ (∀ c ∈ fp0, c ∈ G.O) ∧
      ∀ (vs' : List V) (xs' : List B) (fp' fe : List Addr), RepBs K G.R G.I (upd H a (.lst vs')) vs' xs' fp' → (∀ x, List.count x fp' ≤ List.count x fp0 + List.count x fe) → (fe ++ (G.O ++ G.L)).Nodup →
        ∃ O', Rel K ⟨G.R, G.L, O', G.J⟩ (s.put i (some (B.put (.o xs') p b))) σ (upd H a (.lst vs')) ∧ (∀ c ∈ O', c ∈ G.O ∨ c ∈ fe) := by
  obtain ⟨v0, f1, f2, f3, e1, e2, hb, k⟩ := r.env.focus e
  obtain ⟨w, g1, g2, g3, e3, hc, hp, k2⟩ := RepB.path hb eg
  cases hc with
  | @o a vs _ fp0 h1 h2 h3 =>
    have eO : G.O = f1 ++ (g1 ++ ((a :: fp0) ++ g3) ++ f3) := by rw [e2, e3]
    have cnt : ∀ x, List.count x (f1 ++ (g1 ++ ((a :: fp0) ++ g3) ++ f3) ++ G.L) ≤ 1 := by
      have := r.nd
      rw [eO, List.nodup_iff_count] at this
      exact this
    have aout : ∀ c, c ∈ f1 ++ (g1 ++ (fp0 ++ (g3 ++ f3))) ++ G.L → c ≠ a := fun c hcm ec => by
      subst ec
      have h1 := cnt c
      have h2 := List.count_pos_iff.mpr hcm
      simp only [List.count_append, List.count_cons_self] at h1 h2
      omega
    refine ⟨v0, a, vs, fp0, e1, fun H' z => hp H' fun c hcm => z c (by rw [eO]; simp [hcm]) (aout c (by simp [hcm])), h1, h2, h3, by rw [eO]; simp, fun z => aout a (by simp [z]) rfl, fun c hcm => by rw [eO]; simp [hcm], fun vs' xs' fp' fe hr hcount hfe => ?_⟩
    have lv := r.env.live
    have up : ∀ c, c ≠ a → upd H a (.lst vs') c = H c := fun c h => upd_ne h
    have hb2 : RepB K G.R G.I (upd H a (.lst vs')) (.ref a) (.o xs') (a :: fp') := .o upd_same h2 hr
    have hb3 := k2 hb2 fun c hcm => up c (aout c (by simp only [List.mem_append] at hcm ⊢; rcases hcm with h | h <;> simp [h]))
    have hE := k (v' := v0) (Same.refl _) (fun _ _ h => h) hb3 (fun c hcm => up c (aout c (by simp only [List.mem_append] at hcm ⊢; rcases hcm with h | h <;> simp [h]))) (fun c hcm => (lv c (by rw [e2]; simp only [List.mem_append] at hcm ⊢; rcases hcm with h | h <;> simp [h])).1)
    rw [set_self e1] at hE
    refine ⟨f1 ++ (g1 ++ (a :: fp' ++ g3) ++ f3), ⟨fun c o z => ?_, hE, ?_, r.nr, r.len, r.il, r.pl, fun n c z => ?_⟩, fun c hcm => ?_⟩
    · have : c ≠ a := fun q => by rw [q, h2] at z; cases z
      rw [up c this]; exact r.sub _ _ z
    · rw [List.nodup_iff_count] at hfe ⊢
      intro x
      have q1 := hfe x
      have q2 := hcount x
      rw [eO] at q1
      simp only [List.count_append, List.count_cons] at q1 ⊢
      omega
    · obtain ⟨q, z1, z2⟩ := r.sto n c z
      exact ⟨q, z1, z2.mono (Same.refl _) (fun _ _ h => h) (up q (aout q (by simp [List.mem_of_getElem? z1])))⟩
    · rw [eO]
      have q := List.count_pos_iff.mpr hcm
      have q2 := hcount c
      simp only [List.count_append, List.count_cons] at q
      by_cases z : c ∈ fe
      · exact .inr z
      · refine .inl (List.count_pos_iff.mp ?_)
        have z0 : List.count c fe = 0 := List.count_eq_zero.mpr z
        simp only [List.count_append, List.count_cons]
        omega
theorem Fr.mut {G0 : Gh} {H0 : Hp} {a : Addr} {o : HO} {O' fe : List Addr} (f : Fr true G0 H0 G H) (ha : a ∈ G.O) (hO : ∀ c ∈ O', c ∈ G.O ∨ c ∈ fe) (hf : ∀ c ∈ fe, H0 c = none) : Fr true G0 H0 ⟨G.R, G.L, O', G.J⟩ (upd H a o) where
  r := f.r
  rn := f.rn
  l := f.l
  o := fun c hc => (hO c hc).elim (f.o c) fun q => .inr (hf c q)
  lo := f.lo
  h := fun c u e n1 n2 => by
    have : c ≠ a := fun q => by
      subst q
      rcases f.o c ha with z | z
      · exact n1 rfl z
      · rw [e] at z; cases z
    rw [upd_ne this]
    exact f.h c u e n1 n2
  d := fun c h => by
    by_cases q : c = a
    · subst q; rw [upd_same]; simp
    · rw [upd_ne q]; exact f.d c h
  j := f.j
end

/-! ### places as expressions -/
abbrev EvP := Sta → Option (List Nat × Sta)
def own? (i : Nat) (p : List Nat) (s : Sta) : Option (List B) := match s.env[i]? with
  | some (some b) => match b.get p with
    | some (.o xs) => some xs
    | _ => none
  | _ => none
theorem own_inv {i : Nat} {p : List Nat} {s : Sta} {xs : List B} (h : own? i p s = some xs) : ∃ b, s.env[i]? = some (some b) ∧ b.get p = some (.o xs) := by
  unfold own? at h
  split at h
  · rename_i b hb
    split at h
    · rename_i ys hy
      cases h; exact ⟨b, hb, hy⟩
    · cases h
  · cases h
def tP (K : PySem.W.Frag) (i : Nat) (f : EvP) : TE := fun σ H Q => ∃ (G : Gh) (s : Sta), Rel K G s σ H ∧ W K (f s) G σ H (fun p G' _ H' => ∀ v0 a, σ[i]? = some (some v0) → PathV H' p v0 (.ref a) → a ∈ G'.O → (∃ vs, H' a = some (.lst vs)) → Q (.ref a) H')
abbrev SP (X : Cx) (i : Nat) (e : Expr) (f : EvP) : Prop := PE X e (tP X.K i f)
def pN (i : Nat) : EvP := fun s => (own? i [] s).bind fun _ => some ([], s)
def pIx (i : Nat) (f : EvP) (g : EvE) : EvP := fun s => (f s).bind fun p => (own? i p.1 p.2).bind fun _ => (g p.2).bind fun q => (own? i p.1 q.2).bind fun xs => match q.1 with
  | .int k => (ixN xs.length k).bind fun j => (own? i (p.1 ++ [j]) q.2).bind fun _ => some (p.1 ++ [j], q.2)
  | _ => none
section
variable {X : Cx} {e b : Expr} {f : EvP} {g : EvE} {pos : Pos} {i : Nat}
theorem p_name {x : Str} (hN : X.N[i]? = some x := by rfl) (hv : Vis X.env.scope x := by first | exact Or.inl rfl | exact Or.inr (Or.inl rfl) | exact Or.inr (Or.inr rfl)) (hd : (x == ("__debug__" : Str)) = false := by decide)
    (hcd : (x == ("__classdict__" : Str)) = false := by decide) : SP X i (.Name x pos) (pN i) := pe_imp (pe_var hN hv hd hcd) fun σ H Q ⟨G, s, rel, d, s', e, q⟩ => by
  obtain ⟨xs, ea, eb⟩ := Option.bind_eq_some_iff.mp e
  cases eb
  obtain ⟨b, hb, hg⟩ := own_inv ea
  cases hg
  obtain ⟨v0, f1, f2, f3, e1, e2, h, _⟩ := rel.env.focus hb
  cases h with
  | o h1 h2 h3 => exact ⟨_, e1, q G H rel (Fr.refl _ _ _) _ _ e1 rfl (by rw [e2]; simp) ⟨_, h1⟩⟩
theorem getP_snoc : ∀ {p : List Nat} {b : B} {xs : List B} {j : Nat} {c : B}, b.get p = some (.o xs) → b.get (p ++ [j]) = some c → xs[j]? = some c
  | [], b, xs, j, c, h, h' => by
    cases h
    obtain ⟨d, e1, e2⟩ := Option.bind_eq_some_iff.mp h'
    cases e2; exact e1
  | i :: p, .o ys, xs, j, c, h, h' => by
    obtain ⟨d, e1, e2⟩ := Option.bind_eq_some_iff.mp h
    obtain ⟨d', e1', e2'⟩ := Option.bind_eq_some_iff.mp (show (ys[i]?).bind (B.get (p ++ [j])) = some c from h')
    rw [e1] at e1'; cases e1'
    exact getP_snoc e2 e2'
  | i :: p, .v d, xs, j, c, h, h' => by cases h
theorem p_ix (ha : SP X i e f) (hb : SE X b g) (hs : PlainIx b := by exact fun _ _ => rfl) : SP X i (.Subscript e b pos) (pIx i f g) :=
  pe_imp (pe_ix ix_list ha hb hs) fun σ H Q ⟨G, s, rel, p9, s9, e0, q⟩ => by
    obtain ⟨⟨p, s1⟩, ea, eb⟩ := Option.bind_eq_some_iff.mp e0
    obtain ⟨xs1, ec, ed⟩ := Option.bind_eq_some_iff.mp eb
    obtain ⟨⟨d, s2⟩, ee, ef⟩ := Option.bind_eq_some_iff.mp ed
    obtain ⟨xs2, eg, eh⟩ := Option.bind_eq_some_iff.mp ef
    cases d with
    | int k =>
      obtain ⟨j, ei, ej⟩ := Option.bind_eq_some_iff.mp (show (ixN xs2.length k).bind (fun j => (own? i (p ++ [j]) s2).bind fun _ => some (p ++ [j], s2)) = some (p9, s9) from eh)
      obtain ⟨ys, ek, el⟩ := Option.bind_eq_some_iff.mp ej
      cases el
      refine ⟨G, s, rel, p, s1, ea, fun G1 H1 rel1 fr1 v0 a e1 hp hO ⟨us, hus⟩ => ?_⟩
      refine ⟨G1, s1, rel1, _, _, ee, fun G2 H2 rel2 fr2 v rv => ?_⟩
      cases rv
      -- the place's list at the state behind the index
      obtain ⟨b2, hb2, hg2⟩ := own_inv eg
      obtain ⟨b3, hb3, hg3⟩ := own_inv ek
      rw [hb2] at hb3; cases hb3
      obtain ⟨v0', a', vs, fp0, z1, z2, z3, z4, z5, z6, z7, z8, _⟩ := rel2.mut hb2 hg2
      rw [e1] at z1; cases z1
      -- what stood at H1 stands
      have keep : ∀ c u, H1 c = some u → c ∉ G1.L → H2 c = some u := fun c u h1 h2 => fr2.h c u h1 (fun z => by cases z) h2
      obtain ⟨b1, hb1, hg1⟩ := own_inv ec
      obtain ⟨w0, a1, us1, fp1, y1, y2, y3, y4, y5, y6, y7, y8, _⟩ := rel1.mut hb1 hg1
      rw [e1] at y1; cases y1
      have pa1 : PathV H1 p v0 (.ref a1) := y2 H1 fun _ _ _ => rfl
      have ea1 : V.ref a = V.ref a1 := hp.inj pa1
      cases ea1
      have oL : ∀ c ∈ G1.O, c ∉ G1.L := fun c h1 h2 => nodup_ne rel1.nd h1 h2
      have pa2 : PathV H2 p v0 (.ref a) := y2 H2 fun c h1 _ => by
        obtain ⟨_, ws, hw⟩ := rel1.env.live c h1
        rw [hw]; exact keep c _ hw (oL c h1)
      have pa3 : PathV H2 p v0 (.ref a') := z2 H2 fun _ _ _ => rfl
      have ea2 : V.ref a = V.ref a' := pa2.inj pa3
      cases ea2
      have hx := getP_snoc hg2 hg3
      obtain ⟨u, f1, f2, f3, q1, q2, q3, q4⟩ := RepBs.focus z5 hx
      cases q3 with
      | @o b vb _ fb k1 k2 k3 =>
        have hlen := RepBs.length z5
        refine ⟨a, vs, k, .ref b, rfl, rfl, SqL.of z3, ?_, ?_⟩
        · unfold atI
          rw [hlen, ei]
          exact q1
        · exact q G2 H2 rel2 (fr1.trans fr2) v0 b e1 (pa2.snoc z3 q1) (z8 b (by rw [q2]; simp)) ⟨_, k1⟩
    | _ => cases eh
end

/-! ### changing them -/
def mutS (i : Nat) (p : List Nat) (xs : List B) (s : Sta) : Sta := match s.env[i]? with
  | some (some b) => s.put i (some (B.put (.o xs) p b))
  | _ => s
theorem Rel.mutAt {K : PySem.W.Frag} {G1 G2 : Gh} {s1 s2 : Sta} {σ : St} {H1 H2 : Hp} {i : Nat} {p : List Nat} {ys xs : List B} {v0 : V} {a : Addr} (rel1 : Rel K G1 s1 σ H1) (o1 : own? i p s1 = some ys) (e1 : σ[i]? = some (some v0)) (hp : PathV H1 p v0 (.ref a))
    (fr2 : Fr false G1 H1 G2 H2) (rel2 : Rel K G2 s2 σ H2) (o2 : own? i p s2 = some xs) :
    ∃ vs fp0, H2 a = some (.lst vs) ∧ G2.R a = none ∧ RepBs K G2.R G2.I H2 vs xs fp0 ∧ a ∈ G2.O ∧ a ∉ fp0 ∧ (∀ c ∈ fp0, c ∈ G2.O) ∧
      ∀ (vs' : List V) (xs' : List B) (fp' fe : List Addr), RepBs K G2.R G2.I (upd H2 a (.lst vs')) vs' xs' fp' → (∀ x, List.count x fp' ≤ List.count x fp0 + List.count x fe) → (fe ++ (G2.O ++ G2.L)).Nodup →
        ∃ O', Rel K ⟨G2.R, G2.L, O', G2.J⟩ (mutS i p xs' s2) σ (upd H2 a (.lst vs')) ∧ (∀ c ∈ O', c ∈ G2.O ∨ c ∈ fe) := by
  obtain ⟨b2, hb2, hg2⟩ := own_inv o2
  obtain ⟨v0', a', vs, fp0, z1, z2, z3, z4, z5, z6, z7, z8, z9⟩ := rel2.mut hb2 hg2
  rw [e1] at z1; cases z1
  have keep : ∀ c u, H1 c = some u → c ∉ G1.L → H2 c = some u := fun c u h1 h2 => fr2.h c u h1 (fun z => by cases z) h2
  obtain ⟨b1, hb1, hg1⟩ := own_inv o1
  obtain ⟨w0, a1, us1, fp1, y1, y2, y3, y4, y5, y6, y7, y8, _⟩ := rel1.mut hb1 hg1
  rw [e1] at y1; cases y1
  have pa1 : PathV H1 p v0 (.ref a1) := y2 H1 fun _ _ _ => rfl
  have ea1 : V.ref a = V.ref a1 := hp.inj pa1
  cases ea1
  have oL : ∀ c ∈ G1.O, c ∉ G1.L := fun c h1 h2 => nodup_ne rel1.nd h1 h2
  have pa2 : PathV H2 p v0 (.ref a) := y2 H2 fun c h1 _ => by
    obtain ⟨_, ws, hw⟩ := rel1.env.live c h1
    rw [hw]; exact keep c _ hw (oL c h1)
  have pa3 : PathV H2 p v0 (.ref a') := z2 H2 fun _ _ _ => rfl
  have ea2 : V.ref a = V.ref a' := pa2.inj pa3
  cases ea2
  refine ⟨vs, fp0, z3, z4, z5, z6, z7, z8, fun vs' xs' fp' fe h1 h2 h3 => ?_⟩
  have em : mutS i p xs' s2 = s2.put i (some (B.put (.o xs') p b2)) := by unfold mutS; rw [hb2]
  rw [em]
  exact z9 vs' xs' fp' fe h1 h2 h3

/-- expressions that change lists of one's own -/
def tM (K : PySem.W.Frag) (f : EvE) : TE := fun σ H Q => ∃ (G : Gh) (s : Sta) (d : D) (s' : Sta), Rel K G s σ H ∧ f s = some (d, s') ∧ ∀ G' H', Rel K G' s' σ H' → Fr true G H G' H' → ∀ v, Rep K G'.R G'.I v d → Q v H'
abbrev SM (X : Cx) (e : Expr) (f : EvE) : Prop := PE X e (tM X.K f)
def mApp (i : Nat) (fp : EvP) (fe : EvE) : EvE := fun s => (fp s).bind fun p => (own? i p.1 p.2).bind fun _ => (fe p.2).bind fun q => (own? i p.1 q.2).bind fun xs => if xs.length < sizeLine then some (.non, mutS i p.1 (xs ++ [.v q.1]) q.2) else none
def mAppB (i : Nat) (fp : EvP) (fe : EvB) : EvE := fun s => (fp s).bind fun p => (own? i p.1 p.2).bind fun _ => (fe p.2).bind fun q => (own? i p.1 q.2).bind fun xs => if xs.length < sizeLine then some (.non, mutS i p.1 (xs ++ [q.1]) q.2) else none
def mPop (i : Nat) (fp : EvP) : EvE := fun s => (fp s).bind fun p => (own? i p.1 p.2).bind fun xs => match xs[xs.length - 1]? with
  | some (.v d) => some (d, mutS i p.1 xs.dropLast p.2)
  | _ => none
def mPopAt (i : Nat) (fp : EvP) (fe : EvE) : EvE := fun s => (fp s).bind fun p => (own? i p.1 p.2).bind fun _ => (fe p.2).bind fun q => (own? i p.1 q.2).bind fun xs => match q.1 with
  | .int k => if k.natAbs < 2 ^ 62 then (seqIndex? k xs.length).bind fun j => match xs[j]? with
    | some (.v d) => some (d, mutS i p.1 (xs.eraseIdx j) q.2)
    | _ => none
    else none
  | _ => none
section
variable {K : PySem.W.Frag} {R : Hp} {L : List Addr} {H : Hp}
theorem RepBs.at_upd {vs : List V} {xs : List B} {fp : List Addr} {a : Addr} {o : HO} (h : RepBs K R L H vs xs fp) (ha : a ∉ fp) : RepBs K R L (upd H a o) vs xs fp :=
  RepBs.mono (Same.refl _) (fun _ _ h => h) _ _ _ (fun c hc => upd_ne fun z => ha (z ▸ hc)) (fun c hc => (RepBs.live _ _ _ h c hc).1) h
theorem RepBs.dropLast : ∀ {vs : List V} {xs : List B} {fp : List Addr}, RepBs K R L H vs xs fp → ∃ fp', RepBs K R L H vs.dropLast xs.dropLast fp' ∧ ∀ x, List.count x fp' ≤ List.count x fp
  | _, _, _, .nil => ⟨[], .nil, fun _ => Nat.le_refl _⟩
  | _, _, _, .cons h .nil => ⟨[], .nil, fun x => by simp⟩
  | _, _, _, .cons (f := f) h (.cons (f := f2) (g := g2) h2 t) => by
    obtain ⟨fp', h', c⟩ := RepBs.dropLast (.cons h2 t)
    exact ⟨f ++ fp', .cons h h', fun x => by have := c x; simp only [List.count_append] at this ⊢; omega⟩
theorem RepBs.erase : ∀ {vs : List V} {xs : List B} {fp : List Addr} (j : Nat), RepBs K R L H vs xs fp → ∃ fp', RepBs K R L H (vs.eraseIdx j) (xs.eraseIdx j) fp' ∧ ∀ x, List.count x fp' ≤ List.count x fp
  | _, _, _, _, .nil => ⟨[], .nil, fun _ => Nat.le_refl _⟩
  | _, _, _, 0, .cons (f := f) (g := g) h t => ⟨g, t, fun x => by simp only [List.count_append]; omega⟩
  | _, _, _, j + 1, .cons (f := f) (g := g) h t => by
    obtain ⟨fp', h', c⟩ := RepBs.erase j t
    exact ⟨f ++ fp', .cons h h', fun x => by have := c x; simp only [List.count_append] at this ⊢; omega⟩
theorem RepBs.setV : ∀ {vs : List V} {xs : List B} {fp : List Addr} (j : Nat) {v : V} {d : D}, Rep K R L v d → RepBs K R L H vs xs fp → ∃ fp', RepBs K R L H (vs.set j v) (xs.set j (.v d)) fp' ∧ ∀ x, List.count x fp' ≤ List.count x fp
  | _, _, _, _, _, _, _, .nil => ⟨[], .nil, fun _ => Nat.le_refl _⟩
  | _, _, _, 0, _, _, r, .cons (f := f) (g := g) h t => ⟨[] ++ g, .cons (.v r) t, fun x => by simp only [List.count_append, List.count_nil]; omega⟩
  | _, _, _, j + 1, _, _, r, .cons (f := f) (g := g) h t => by
    obtain ⟨fp', h', c⟩ := RepBs.setV j r t
    exact ⟨f ++ fp', .cons h h', fun x => by have := c x; simp only [List.count_append] at this ⊢; omega⟩
end
section
variable {X : Cx} {e o b : Expr} {f : EvP} {g : EvE} {gb : EvB} {pos apos cpos : Pos} {i : Nat}
theorem m_of (h : SE X e g) : SM X e g := pe_imp h fun σ H Q ⟨G, s, d, s', rel, e, q⟩ => ⟨G, s, rel, d, s', e, fun G' H' r fr => q G' H' r fr.weak⟩
theorem m_app (ho : SP X i o f) (he : SE X e g) (hbase : attributeBase o "append" X.env (eval o X.env) = eval o X.env := by rfl)
    (hfew : ((backTo cpos (starEach [e] X.env)).all (fun x => !x.1) && (backToKw cpos (keywordEach [] X.env)).all (fun x => x.1.isSome) && decide ([e].length + ([] : List Keyword).length + (if ([] : List Keyword).isEmpty then 0 else 1) < 30)) = true := by rfl)
    (hline : (apos.endLine == cpos.line) = true := by rfl) (hs : starEach [e] X.env = (false, eval e X.env) :: starEach [] X.env := by rfl) (hplain : (backTo cpos (starEach [] X.env)).any (·.1) = false := by rfl) :
    SM X (.Call (.Attribute o "append" apos) [e] [] cpos) (mApp i f g) :=
  pe_imp (pe_bm PySem.F.plainAttrs_list PySem.F.slot_list_append PySem.F.type_list_append mt_append ho (a_cons he a_nil hs) hbase hfew hline hs hplain) fun σ H Q ⟨G, s, d9, s9, rel, e0, q⟩ => by
    obtain ⟨⟨p, s1⟩, ea, eb⟩ := Option.bind_eq_some_iff.mp e0
    obtain ⟨xs1, ec, ed⟩ := Option.bind_eq_some_iff.mp eb
    obtain ⟨⟨d, s2⟩, ee, ef⟩ := Option.bind_eq_some_iff.mp ed
    obtain ⟨xs2, eg, eh⟩ := Option.bind_eq_some_iff.mp ef
    split at eh
    · rename_i hz
      cases eh
      refine ⟨G, s, rel, p, s1, ea, fun G1 H1 rel1 fr1 v0 a e1 hp hO ⟨us, hus⟩ => ⟨.inl ⟨rfl, us, SqL.of hus⟩, G1, s1, rel1, [d], s2, ?_, fun G2 H2 rel2 fr2 vs rv => ?_⟩⟩
      · show ((g s1).bind fun p => (aNil p.2).bind fun q => some (p.1 :: q.1, q.2)) = _
        rw [ee]; rfl
      · cases rv with
        | @cons v _ _ _ rv rn =>
          cases rn
          obtain ⟨ws, fp0, z1, z2, z3, z4, z5, z6, z7⟩ := rel1.mutAt ec e1 hp fr2 rel2 eg
          have hr : RepBs X.K G2.R G2.I (upd H2 a (.lst (ws ++ [v]))) (ws ++ [v]) (xs2 ++ [.v d]) (fp0 ++ ([] ++ [])) := (z3.at_upd z5).append (.cons (.v rv) .nil)
          obtain ⟨O', r', hO'⟩ := z7 _ _ _ [] hr (fun x => by simp) (by rw [List.nil_append]; exact rel2.nd)
          have hw : ws.length < sizeLine := by rw [RepBs.length z3]; exact hz
          exact ⟨a, ws, _, rfl, rfl, z1, hw, q _ _ r' ((fr1.trans fr2).weak.mut z4 hO' fun _ h => by cases h) _ .non⟩
    · cases eh
theorem m_appB (ho : SP X i o f) (he : SB X e gb) (hbase : attributeBase o "append" X.env (eval o X.env) = eval o X.env := by rfl)
    (hfew : ((backTo cpos (starEach [e] X.env)).all (fun x => !x.1) && (backToKw cpos (keywordEach [] X.env)).all (fun x => x.1.isSome) && decide ([e].length + ([] : List Keyword).length + (if ([] : List Keyword).isEmpty then 0 else 1) < 30)) = true := by rfl)
    (hline : (apos.endLine == cpos.line) = true := by rfl) (hs : starEach [e] X.env = (false, eval e X.env) :: starEach [] X.env := by rfl) (hplain : (backTo cpos (starEach [] X.env)).any (·.1) = false := by rfl) :
    SM X (.Call (.Attribute o "append" apos) [e] [] cpos) (mAppB i f gb) :=
  pe_imp (pe_bm PySem.F.plainAttrs_list PySem.F.slot_list_append PySem.F.type_list_append mt_append ho (pa_cons he pa_nil hs) hbase hfew hline hs hplain) fun σ H Q ⟨G, s, d9, s9, rel, e0, q⟩ => by
    obtain ⟨⟨p, s1⟩, ea, eb⟩ := Option.bind_eq_some_iff.mp e0
    obtain ⟨xs1, ec, ed⟩ := Option.bind_eq_some_iff.mp eb
    obtain ⟨⟨d, s2⟩, ee, ef⟩ := Option.bind_eq_some_iff.mp ed
    obtain ⟨xs2, eg, eh⟩ := Option.bind_eq_some_iff.mp ef
    split at eh
    · rename_i hz
      cases eh
      refine ⟨G, s, rel, p, s1, ea, fun G1 H1 rel1 fr1 v0 a e1 hp hO ⟨us, hus⟩ => ⟨.inl ⟨rfl, us, SqL.of hus⟩, G1, s1, rel1, d, s2, ee, fun G2 H2 rel2 fr2 v fe rv hn hf => ?_⟩⟩
      obtain ⟨ws, fp0, z1, z2, z3, z4, z5, z6, z7⟩ := rel1.mutAt ec e1 hp fr2 rel2 eg
      have afe : a ∉ fe := fun h => by
        have := hf a h
        rw [hus] at this; cases this
      have hv : RepB X.K G2.R G2.I (upd H2 a (.lst (ws ++ [v]))) v d fe := RepB.mono (Same.refl _) (fun _ _ h => h) _ _ _ (fun c hc => upd_ne fun z => afe (z ▸ hc)) (fun c hc => (RepB.live _ _ _ rv c hc).1) rv
      have hr : RepBs X.K G2.R G2.I (upd H2 a (.lst (ws ++ [v]))) (ws ++ [v]) (xs2 ++ [d]) (fp0 ++ (fe ++ [])) := (z3.at_upd z5).append (.cons hv .nil)
      obtain ⟨O', r', hO'⟩ := z7 _ _ _ fe hr (fun x => by simp only [List.count_append, List.count_nil]; omega) hn
      have hw : ws.length < sizeLine := by rw [RepBs.length z3]; exact hz
      exact ⟨a, ws, _, rfl, rfl, z1, hw, q _ _ r' ((fr1.trans fr2).weak.mut z4 hO' fun c hc => fr1.back (hf c hc)) _ .non⟩
    · cases eh
theorem m_pop (ho : SP X i o f) (hbase : attributeBase o "pop" X.env (eval o X.env) = eval o X.env := by rfl) (hline : (apos.endLine == cpos.line) = true := by rfl) : SM X (.Call (.Attribute o "pop" apos) [] [] cpos) (mPop i f) :=
  pe_imp (pe_bm0 PySem.F.plainAttrs_list PySem.F.slot_list_pop PySem.F.type_list_pop mt_pop ho hbase hline) fun σ H Q ⟨G, s, d9, s9, rel, e0, q⟩ => by
    obtain ⟨⟨p, s1⟩, ea, eb⟩ := Option.bind_eq_some_iff.mp e0
    obtain ⟨xs1, ec, ed⟩ := Option.bind_eq_some_iff.mp eb
    split at ed
    · rename_i d hd
      cases ed
      refine ⟨G, s, rel, p, s1, ea, fun G1 H1 rel1 fr1 v0 a e1 hp hO ⟨us, hus⟩ => ⟨.inl ⟨rfl, us, SqL.of hus⟩, ?_⟩⟩
      obtain ⟨ws, fp0, z1, z2, z3, z4, z5, z6, z7⟩ := rel1.mutAt ec e1 hp (Fr.refl _ _ _) rel1 ec
      have hlen := RepBs.length z3
      obtain ⟨v, f1, f2, f3, q1, q2, q3, _⟩ := RepBs.focus z3 hd
      cases q3 with
      | v q3 =>
        obtain ⟨fp', hr, hc⟩ := RepBs.dropLast (z3.at_upd (o := .lst ws.dropLast) z5)
        obtain ⟨O', r', hO'⟩ := z7 _ _ _ [] hr (fun x => by have := hc x; simp; omega) (by rw [List.nil_append]; exact rel1.nd)
        exact ⟨a, ws, v, rfl, rfl, z1, by rw [hlen]; exact q1, q _ _ r' (fr1.weak.mut z4 hO' fun _ h => by cases h) _ q3⟩
    · cases ed
/-- statements over them -/
theorem ss_expM (he : SM X e g) (hs : swapsWith e none pos.line X.env = pure false := by rfl) : SS X (.Expr e pos) (sExp g) :=
  ps_imp (ps_expr he hs) fun D σ H ⟨G, s, rel, d, s1, e1, q⟩ => by
    obtain ⟨⟨d0, s0⟩, ea, eb⟩ := Option.bind_eq_some_iff.mp e1
    cases eb
    exact ⟨G, s, d0, _, rel, ea, fun G1 H1 rel1 fr1 v rv => q σ G1 H1 rel1 fr1⟩
theorem ss_setM {x : Str} {pos' : Pos} (hN : X.N.Nodup) (hi : X.N[i]? = some x) (hx : Loc X.env.scope x) (he : SM X e g) (hs : swapsWith e (some (.Name x pos')) pos.line X.env = pure false := by rfl) (hf : X.fn x = true ∨ X.env.scope.names.lookup x = some .local := by first | exact .inl rfl | exact .inr rfl | assumption) :
    SS X (.Assign [.Name x pos'] e pos) (sSet i g) :=
  ps_imp (ps_set hN hi hx he hs hf) fun D σ H ⟨G, s, rel, d, s1, e1, q⟩ => by
    obtain ⟨⟨d0, s0⟩, ea, eb⟩ := Option.bind_eq_some_iff.mp e1
    cases eb
    refine ⟨G, s, d0, s0, rel, ea, fun G1 H1 rel1 fr1 v rv => ?_⟩
    obtain ⟨G', q'⟩ := set_end (i := i) (Q := fun o G' _ σ' H' => outOk X.K D G H o G' σ' H') rel1 (.v rv) (by rw [List.nil_append]; exact rel1.nd) fr1 (fun _ h => by cases h) ⟨_, _, rfl, q⟩
    exact q'
theorem ss_retM (he : SM X e g) : SS X (.Return (some e) pos) (sRet g) :=
  ps_imp (ps_ret he) fun D σ H ⟨G, s, rel, d, s1, e1, q⟩ => by
    obtain ⟨⟨d0, s0⟩, ea, eb⟩ := Option.bind_eq_some_iff.mp e1
    cases eb
    exact ⟨G, s, d0, _, rel, ea, fun G1 H1 rel1 fr1 v rv => q σ G1 H1 rel1 fr1 v [] (.v rv) (by rw [List.nil_append]; exact (List.nodup_append.mp rel1.nd).2.1) fun _ h => by cases h⟩
/-- o[j] = e -/
def sSetIx (i : Nat) (fp : EvP) (fj fe : EvE) : EvS := fun s => (fe s).bind fun r => (fp r.2).bind fun p => (own? i p.1 p.2).bind fun _ => (fj p.2).bind fun q => (own? i p.1 q.2).bind fun xs => match q.1 with
  | .int k => (ixN xs.length k).bind fun j => some (.nx, mutS i p.1 (xs.set j (.v r.1)) q.2)
  | _ => none
theorem ss_setIx {ge : EvE} (ho : SP X i o f) (hj : SE X b g) (he : SE X e ge)
    (ha : ∀ v, assign (.Subscript o b apos) X.env v = (do
      let ov ← holding [v] (eval o X.env)
      let iv ← holding [v, ov] (eval b X.env)
      standAt apos
      holding [v, ov, iv] (setItem ov iv v)
      release [v, ov, iv] []) := by intro _; rfl)
    (hs : swapsWithSole [.Subscript o b apos] e pos.line X.env = pure false := by rfl) (hw : swappedStores [.Subscript o b apos] e X.env = pure none := by rfl) (h1 : (assignEach [.Subscript o b apos] X.env).map (·.2) = [assign (.Subscript o b apos) X.env] := by rfl) :
    SS X (.Assign [.Subscript o b apos] e pos) (sSetIx i f g ge) :=
  ps_imp (ps_asg he (pg_sub ho hj set_list ha) hs hw h1) fun D σ H ⟨G, s, rel, d9, s9, e0, q⟩ => by
    obtain ⟨⟨dv, s0⟩, e2, e3⟩ := Option.bind_eq_some_iff.mp e0
    obtain ⟨⟨p, s1⟩, ea, eb⟩ := Option.bind_eq_some_iff.mp e3
    obtain ⟨xs1, ec, ed⟩ := Option.bind_eq_some_iff.mp eb
    obtain ⟨⟨d, s2⟩, ee, ef⟩ := Option.bind_eq_some_iff.mp ed
    obtain ⟨xs2, eg, eh⟩ := Option.bind_eq_some_iff.mp ef
    cases d with
    | int k =>
      obtain ⟨j, ei, ej⟩ := Option.bind_eq_some_iff.mp (show (ixN xs2.length k).bind (fun j => some (Out.nx, mutS i p (xs2.set j (.v dv)) s2)) = some (d9, s9) from eh)
      cases ej
      refine ⟨G, s, rel, dv, s0, e2, fun G0 H0 rel0 fr0 v rv => ⟨G0, s0, rel0, p, s1, ea, fun G1 H1 rel1 fr1 v0 a e1 hp hO hus => ⟨G1, s1, rel1, _, s2, ee, fun G2 H2 rel2 fr2 w rw => ?_⟩⟩⟩
      cases rw
      obtain ⟨ws, fp0, z1, z2, z3, z4, z5, z6, z7⟩ := rel1.mutAt ec e1 hp fr2 rel2 eg
      have rv2 : Rep X.K G2.R G2.I v dv := Rep.mono (fr1.r.trans fr2.r) (fun n p z => fr2.l n p (fr1.l n p z)) _ _ rv
      obtain ⟨fp', hr, hc⟩ := RepBs.setV j rv2 (z3.at_upd (o := .lst (ws.set j v)) z5)
      obtain ⟨O', r', hO'⟩ := z7 _ _ _ [] hr (fun x => by have := hc x; simp; omega) (by rw [List.nil_append]; exact rel2.nd)
      exact ⟨a, ws, k, j, rfl, rfl, z1, by rw [RepBs.length z3]; exact ei, q _ _ _ r' (((fr0.trans fr1).trans fr2).weak.mut z4 hO' fun _ h => by cases h)⟩
    | _ => cases eh
end
end Ev

namespace Ev
open PySem L2

/-! ## what several hold -/
abbrev Sto := List Cel
def eObj (f : EvA) : EvE := fun s => (f s).bind fun p => if p.1.length ≤ sizeLine ∧ p.2.pu = false then some (.obj p.2.st.length, ⟨p.2.env, p.2.st ++ [.lst p.1], p.2.pu⟩) else none
def dIxS (st : Sto) : D → D → Option D
  | .obj n, .int i => match st[n]? with
    | some (.lst xs) => atI xs i
    | _ => none
  | a, b => dIx a b
def eIxS (f h : EvE) : EvE := fun s => (f s).bind fun p => (h p.2).bind fun q => (dIxS q.2.st p.1 q.1).map fun d => (d, q.2)
def sSetO (fo fj fe : EvE) : EvS := fun s => (fe s).bind fun r => (fo r.2).bind fun p => (fj p.2).bind fun q => match p.1, q.1 with
  | .obj n, .int k => match q.2.st[n]? with
    | some (.lst xs) => (ixN xs.length k).bind fun j => some (.nx, ⟨q.2.env, q.2.st.set n (.lst (xs.set j r.1)), q.2.pu⟩)
    | _ => none
  | _, _ => none
theorem Rel.il_of {K : PySem.W.Frag} {G : Gh} {s : Sta} {σ : St} {H : Hp} {n : Nat} {c : Cel} (r : Rel K G s σ H) (h : s.st[n]? = some c) : G.I = G.L := by
  have : s.pu = false := by
    cases e : s.pu with
    | false => rfl
    | true => rw [r.pl e] at h; simp at h
  unfold Gh.I
  rw [r.il this]; rfl
section
variable {X : Cx} {e o a b : Expr} {es : List Expr} {f g ge : EvE} {fa : EvA} {pos apos : Pos}
theorem pre_snoc (l : List Addr) (p : Addr) : Pre l (l ++ [p]) := fun n q h => by
  have := (List.getElem?_eq_some_iff.mp h).1
  rw [List.getElem?_append_left this]; exact h
theorem s_obj (ha : SA X es fa) : SE X (.List es pos) (eObj fa) :=
  pe_imp (pe_lst ha) fun σ H Q ⟨G, s, rel, d, s2, e, q⟩ => by
    obtain ⟨⟨ds, s1⟩, ea, eb⟩ := Option.bind_eq_some_iff.mp e
    have eb : (if ds.length ≤ sizeLine ∧ s1.pu = false then some (D.obj s1.st.length, (⟨s1.env, s1.st ++ [.lst ds], s1.pu⟩ : Sta)) else none) = some (d, s2) := eb
    split at eb
    · rename_i hz
      cases eb
      refine ⟨G, s, rel, ds, s1, ea, fun G1 H1 rel1 fr1 vs rvs => ⟨by rw [rvs.length]; exact hz.1, fun p hp => ?_⟩⟩
      have hJ : G1.J = none := rel1.il hz.2
      have hI : G1.I = G1.L := by unfold Gh.I; rw [hJ]; rfl
      obtain ⟨r2, f2⟩ := rel1.lay (o := .lst vs) hp
      have hn := rel1.fresh hp
      have hpre := pre_snoc G1.L p
      have hpr2 : Pre G1.I (G1.L ++ [p]) := by rw [hI]; exact hpre
      have lv := rel1.env.live
      refine q ⟨G1.R, G1.L ++ [p], G1.O, none⟩ _ ⟨r2.sub, RepE.mono (Same.refl _) hpr2 (fun _ _ => rfl) (fun a ha => (lv a ha).1) r2.env, ?_, fun a ha => ?_, ?_, fun _ => rfl, fun z => absurd hz.2 (by rw [show s1.pu = true from z]; simp), fun n c h => ?_⟩ ?_ _ (.obj ?_)
      · have := rel1.nd
        rw [List.nodup_iff_count] at this ⊢
        intro x
        have h1 := this x
        have h2 : x = p → List.count x G1.O = 0 ∧ List.count x G1.L = 0 := fun z => by
          subst z
          exact ⟨List.count_eq_zero.mpr fun z => hn (List.mem_append_left _ z), List.count_eq_zero.mpr fun z => hn (List.mem_append_right _ z)⟩
        simp only [List.count_append, List.count_cons, List.count_nil] at h1 ⊢
        by_cases z : x = p
        · have := h2 z; subst z; simp; omega
        · have : (p == x) = false := by simp; exact fun w => z w.symm
          rw [this]; simp; omega
      · rcases List.mem_append.mp ha with h | h
        · exact rel1.nr a h
        · cases List.mem_singleton.mp h; exact rel1.sub.free hp
      · show (G1.L ++ [p]).length = (s1.st ++ [Cel.lst ds]).length
        rw [List.length_append, List.length_append, rel1.len]; rfl
      · by_cases hl : n < s1.st.length
        · have h' : s1.st[n]? = some c := by rw [List.getElem?_append_left hl] at h; exact h
          obtain ⟨a, h1, h2⟩ := r2.sto n c h'
          exact ⟨a, hpre n a h1, h2.mono (Same.refl _) hpr2 rfl⟩
        · have hl2 : n = s1.st.length := by
            have := (List.getElem?_eq_some_iff.mp h).1
            rw [List.length_append, List.length_singleton] at this
            omega
          subst hl2
          have h' : (s1.st ++ [Cel.lst ds])[s1.st.length]? = some c := h
          rw [List.getElem?_concat_length] at h'
          cases h'
          refine ⟨p, ?_, vs, upd_same, Reps.mono (Same.refl _) hpr2 _ _ rvs⟩
          rw [← rel1.len]
          exact List.getElem?_concat_length
      · have f3 : Fr false G1 H1 ⟨G1.R, G1.L ++ [p], G1.O, none⟩ (upd H1 p (.lst vs)) := ⟨f2.r, f2.rn, hpr2, f2.o, fun a ha => by
          rcases List.mem_append.mp ha with h | h
          · exact .inl h
          · cases List.mem_singleton.mp h; exact .inr hp, f2.h, f2.d, hJ.symm⟩
        exact fr1.trans f3
      · show (G1.L ++ [p])[s1.st.length]? = some p
        rw [← rel1.len]
        exact List.getElem?_concat_length
    · cases eb
theorem s_ixS (ha : SE X a f) (hb : SE X b g) (hs : PlainIx b := by exact fun _ _ => rfl) : SE X (.Subscript a b pos) (eIxS f g) :=
  ⟨fun pins st σ H Q I ⟨G, s, rel, d9, s9, e0, q⟩ => by
    obtain ⟨⟨d, s1⟩, ea, eb⟩ := Option.bind_eq_some_iff.mp e0
    obtain ⟨⟨d2, s2⟩, ec, ed⟩ := Option.bind_eq_some_iff.mp eb
    obtain ⟨d3, ee, ef⟩ := Option.map_eq_some_iff.mp ed
    cases ef
    have gen : ∀ {x : D}, dIx d d2 = some x → x = d9 → wpAny (model X.prog X.w) X.A (eval (.Subscript a b pos) X.env) (EP X pins σ Q) X.xe st := fun {x} h1 h2 => by
      subst h2
      refine (s_ix ha hb hs).run pins st σ H Q I ⟨G, s, rel, x, _, ?_, q⟩
      show ((f s).bind fun p => (g p.2).bind fun q => (dIx p.1 q.1).map fun d => (d, q.2)) = _
      rw [ea]
      show ((g s1).bind fun q => (dIx d q.1).map fun d => (d, q.2)) = _
      rw [ec]
      show (dIx d d2).map _ = _
      rw [h1]; rfl
    cases d with
    | obj n =>
      cases d2 with
      | int k =>
        have ee : (match s2.st[n]? with | some (.lst xs) => atI xs k | _ => none) = some d9 := ee
        split at ee
        · rename_i xs hx
          refine (pe_ix ix_list ha hb hs).run pins st σ H Q I ⟨G, s, rel, _, s1, ea, fun G1 H1 rel1 fr1 v rv => ⟨G1, s1, rel1, _, s2, ec, fun G2 H2 rel2 fr2 u ru => ?_⟩⟩
          cases ru
          cases rv with
          | obj hL =>
            obtain ⟨c, h1, vs, h2, hr⟩ := rel2.sto n _ hx
            have := fr2.l _ _ hL
            rw [rel2.il_of hx] at this
            rw [h1] at this
            cases this
            obtain ⟨w, h3, hw⟩ := atI_rep hr ee
            exact ⟨_, vs, k, w, rfl, rfl, SqL.of h2, h3, q G2 H2 rel2 (fr1.trans fr2) w hw⟩
        · cases ee
      | _ => exact gen ee rfl
    | _ => exact gen ee rfl⟩
theorem ss_setO (ho : SE X o f) (hj : SE X b g) (he : SE X e ge)
    (ha : ∀ v, assign (.Subscript o b apos) X.env v = (do
      let ov ← holding [v] (eval o X.env)
      let iv ← holding [v, ov] (eval b X.env)
      standAt apos
      holding [v, ov, iv] (setItem ov iv v)
      release [v, ov, iv] []) := by intro _; rfl)
    (hs : swapsWithSole [.Subscript o b apos] e pos.line X.env = pure false := by rfl) (hw : swappedStores [.Subscript o b apos] e X.env = pure none := by rfl) (h1 : (assignEach [.Subscript o b apos] X.env).map (·.2) = [assign (.Subscript o b apos) X.env] := by rfl) :
    SS X (.Assign [.Subscript o b apos] e pos) (sSetO f g ge) :=
  ps_imp (ps_asg he (pg_sub ho hj set_list ha) hs hw h1) fun D σ H ⟨G, s, rel, d9, s9, e0, q⟩ => by
    obtain ⟨⟨dv, s0⟩, e2, e3⟩ := Option.bind_eq_some_iff.mp e0
    obtain ⟨⟨d, s1⟩, ea, eb⟩ := Option.bind_eq_some_iff.mp e3
    obtain ⟨⟨d2, s2⟩, ec, ed⟩ := Option.bind_eq_some_iff.mp eb
    cases d with
    | obj n =>
      cases d2 with
      | int k =>
        have ed : (match s2.st[n]? with | some (.lst xs) => (ixN xs.length k).bind fun j => some (Out.nx, (⟨s2.env, s2.st.set n (.lst (xs.set j dv)), s2.pu⟩ : Sta)) | _ => none) = some (d9, s9) := ed
        split at ed
        · rename_i xs hx
          obtain ⟨j, ei, ej⟩ := Option.bind_eq_some_iff.mp ed
          cases ej
          refine ⟨G, s, rel, dv, s0, e2, fun G0 H0 rel0 fr0 v rv => ⟨G0, s0, rel0, _, s1, ea, fun G1 H1 rel1 fr1 u ru => ⟨G1, s1, rel1, _, s2, ec, fun G2 H2 rel2 fr2 w rw => ?_⟩⟩⟩
          cases rw
          cases ru with
          | obj hL =>
            obtain ⟨c, z1, vs, z2, hr⟩ := rel2.sto n _ hx
            have := fr2.l _ _ hL
            rw [rel2.il_of hx] at this
            rw [z1] at this
            have eqc := Option.some.inj this
            subst eqc
            have rv2 : Rep X.K G2.R G2.I v dv := Rep.mono (fr1.r.trans fr2.r) (fun n p z => fr2.l n p (fr1.l n p z)) _ _ rv
            have cL : c ∈ G2.L := List.mem_of_getElem? z1
            have nR : G2.R c = none := rel2.nr c cL
            have cO : c ∉ G2.O := fun z => nodup_ne rel2.nd z cL
            have lv := rel2.env.live
            have r' : Rel X.K G2 ⟨s2.env, s2.st.set n (.lst (xs.set j dv)), s2.pu⟩ σ (upd H2 c (.lst (vs.set j v))) := by
              refine ⟨fun p u z => ?_, RepE.mono (Same.refl _) (fun _ _ h => h) (fun p hp => upd_ne fun z => cO (z ▸ hp)) (fun p hp => (lv p hp).1) rel2.env, rel2.nd, rel2.nr, by show _ = (s2.st.set n _).length; rw [List.length_set]; exact rel2.len, rel2.il, fun z => absurd (rel2.pl z) (fun w => by rw [w] at hx; simp at hx), fun m c' z => ?_⟩
              · have : p ≠ c := fun w => by rw [w, nR] at z; cases z
                rw [upd_ne this]; exact rel2.sub _ _ z
              · have z : (s2.st.set n (.lst (xs.set j dv)))[m]? = some c' := z
                by_cases hm : n = m
                · subst hm
                  rw [List.getElem?_set_self (List.getElem?_eq_some_iff.mp hx).1] at z
                  cases z
                  exact ⟨c, z1, _, upd_same, Reps.set j rv2 hr⟩
                · rw [List.getElem?_set_ne hm] at z
                  obtain ⟨p, w1, w2⟩ := rel2.sto m c' z
                  have pc : p ≠ c := fun w => by
                    rw [w] at w1
                    have nd : G2.L.Nodup := (List.nodup_append.mp rel2.nd).2.1
                    obtain ⟨l1, k1⟩ := List.getElem?_eq_some_iff.mp z1
                    obtain ⟨l2, k2⟩ := List.getElem?_eq_some_iff.mp w1
                    exact hm ((List.getElem_inj nd).mp (k1.trans k2.symm))
                  exact ⟨p, w1, w2.mono (Same.refl _) (fun _ _ h => h) (upd_ne pc)⟩
            have f3 : Fr true G2 H2 G2 (upd H2 c (.lst (vs.set j v))) := ⟨Same.refl _, fun _ h => .inl h, fun _ _ h => h, fun _ h => .inl h, fun _ h => .inl h, fun p u z _ n2 => by
              have : p ≠ c := fun w => n2 (by rw [w]; exact cL)
              rw [upd_ne this]; exact z, fun p h => by
              by_cases w : p = c
              · rw [w, upd_same]; simp
              · rw [upd_ne w]; exact h, rfl⟩
            have hl := hr.length
            exact ⟨_, vs, k, j, rfl, rfl, z2, by rw [hl]; exact ei, q _ _ _ r' ((((fr0.trans fr1).trans fr2).weak).trans f3)⟩
        · cases ed
      | _ => cases ed
    | _ => cases ed
end

/-! ## defs -/
abbrev Fn := Bool → List D → Sto → Option (B × Sto)
def spF (K : PySem.W.Frag) (n : Nat) (F : Fn) : Sp := fun vs H Q _ => ∃ (R : Hp) (L : List Addr) (S : Sto) (ds : List D) (b : B) (S' : Sto), vs.length = n ∧ Rel K ⟨R, L, [], none⟩ ⟨[], S, false⟩ [] H ∧ Reps K R L vs ds ∧ F false ds S = some (b, S') ∧
  ∀ v fp R' L' H', Rel K ⟨R', L', [], none⟩ ⟨[], S', false⟩ [] H' → RepB K R' L' H' v b fp → (fp ++ L').Nodup → (∀ a ∈ fp, H a = none) → Fr true ⟨R, L, [], none⟩ H ⟨R', L', [], none⟩ H' → Q v H'
/-- what a call hands back that is not held by anything yet -/
def rsO (K : PySem.W.Frag) (R : Hp) (I : List Addr) (H : Hp) (b : B) (Q : VK) : Prop := ∀ v fp R' H', Ext R H R' H' → RepB K R' I H' v b fp → fp.Nodup → (∀ a ∈ fp, H a = none) → Q v H'
/-- a def that turns nothing that others hold, by its values -/
def pF (F : Fn) (ds : List D) : Option B := (F true ds []).map (·.1)
def pV (F : Fn) (ds : List D) : Option D := (pF F ds).map B.frz
def spP (K : PySem.W.Frag) (n : Nat) (F : Fn) : Sp := fun vs H Q _ => ∃ (R : Hp) (I : List Addr) (ds : List D) (b : B), vs.length = n ∧ Same R H ∧ Reps K R I vs ds ∧ pF F ds = some b ∧ rsO K R I H b Q
def bCall (F : Fn) (f : EvA) : EvB := fun s => (f s).bind fun p => if p.2.pu = false then (F false p.1 p.2.st).bind fun q => some (q.1, ⟨p.2.env, q.2, p.2.pu⟩) else none
def bPure (F : Fn) (f : EvA) : EvB := fun s => (f s).bind fun p => (pF F p.1).bind fun b => some (b, p.2)
/-- a def by its body: n parameters, m slots -/
def fnF (n m : Nat) (f : EvS) : Fn := fun pu ds S => if ds.length = n then (f ⟨ds.map (fun d => some (.v d)) ++ List.replicate (m - n) none, S, pu⟩).bind fun r => match r.1 with
  | .rt b => some (b, r.2.st)
  | .nx => some (.v .non, r.2.st)
  | _ => none
  else none
section
variable {K : PySem.W.Frag} {G : Gh} {s : Sta} {σ : St} {H : Hp}
theorem Rel.drop (r : Rel K G s σ H) (p : s.pu = false) : Rel K ⟨G.R, G.L, [], none⟩ ⟨[], s.st, false⟩ [] H := ⟨r.sub, .nil, (by rw [List.nil_append]; exact (List.nodup_append.mp r.nd).2.1), r.nr, r.len, fun _ => rfl, (fun z => by cases z), fun n c h => by
  have := r.sto n c h
  rw [r.il_of h] at this
  exact this⟩
theorem Rel.back {R' : Hp} {L' : List Addr} {H' : Hp} {S' : Sto} (r : Rel K G s σ H) (p : s.pu = false) (r' : Rel K ⟨R', L', [], none⟩ ⟨[], S', false⟩ [] H') (f : Fr true ⟨G.R, G.L, [], none⟩ H ⟨R', L', [], none⟩ H') : Rel K ⟨R', L', G.O, none⟩ ⟨s.env, S', false⟩ σ H' ∧ Fr false G H ⟨R', L', G.O, none⟩ H' := by
  have lv := r.env.live
  have hJ := r.il p
  have hI : G.I = G.L := by unfold Gh.I; rw [hJ]; rfl
  have fl : Pre G.I L' := by rw [hI]; exact f.l
  have oL : ∀ a ∈ G.O, a ∉ G.L := fun a h1 h2 => nodup_ne r.nd h1 h2
  refine ⟨⟨r'.sub, RepE.mono f.r fl (fun a ha => ?_) (fun a ha => ?_) r.env, ?_, r'.nr, r'.len, fun _ => rfl, (fun z => by cases z), r'.sto⟩, ⟨f.r, fun a h => ?_, fl, fun a h => .inl h, f.lo, fun a u e _ n => f.h a u e (fun _ z => by cases z) n, f.d, hJ.symm⟩⟩
  · obtain ⟨_, vs, e⟩ := lv a ha
    rw [e]
    exact f.h a _ e (fun _ z => by cases z) (oL a ha)
  · obtain ⟨n, vs, e⟩ := lv a ha
    show R' a = none
    cases z : R' a with
    | none => rfl
    | some u =>
      rcases f.rn a (by show R' a ≠ none; rw [z]; simp) with w | w | w
      · exact absurd n w
      · cases w
      · rw [e] at w; cases w
  · have n1 := (List.nodup_append.mp r.nd).1
    have n2 : L'.Nodup := by have := r'.nd; rw [List.nil_append] at this; exact this
    refine List.nodup_append.mpr ⟨n1, n2, fun a ha b hb e => ?_⟩
    subst e
    rcases f.lo a hb with w | w
    · exact oL a ha w
    · obtain ⟨_, vs, e⟩ := lv a ha
      rw [e] at w; cases w
  · rcases f.rn a h with w | w | w
    · exact .inl w
    · cases w
    · exact .inr (.inr w)
theorem Rel.ex {a : Addr} (r : Rel K G s σ H) (h : a ∈ G.O ++ G.L) : ∃ u, H a = some u := by
  cases e : H a with
  | none => exact absurd h (r.fresh e)
  | some u => exact ⟨u, rfl⟩
end
section
variable {X : Cx} {k : Nat} {f : Addr} {fd : FuncData} {ps : List Str} {x : Str} {p pos : Pos} {e : Expr} {es : List Expr} {fa : EvA} {n : Nat} {F : Fn}
theorem rd_call {E : XK} (σ : St) (H : Hp) (Q : VK) (q : tB X.K (bCall F fa) σ H Q) (hn : ∀ s ds s', fa s = some (ds, s') → ds.length = n) : tCall (spF X.K n F) [] E (tA X.K false fa) σ H Q := by
  obtain ⟨G, s, rel, d9, s9, e0, q⟩ := q
  obtain ⟨⟨ds, s1⟩, ea, eb⟩ := Option.bind_eq_some_iff.mp e0
  have eb : (if s1.pu = false then (F false ds s1.st).bind fun q => some (q.1, (⟨s1.env, q.2, s1.pu⟩ : Sta)) else none) = some (d9, s9) := eb
  split at eb
  · rename_i hp
    obtain ⟨⟨d, S'⟩, ec, ed⟩ := Option.bind_eq_some_iff.mp eb
    rw [hp] at ed
    cases ed
    refine ⟨G, s, rel, ds, s1, ea, fun G1 H1 rel1 fr1 vs rvs => ?_⟩
    show spF X.K n F (vs ++ []) H1 Q E
    rw [List.append_nil]
    have hI : G1.I = G1.L := by unfold Gh.I; rw [rel1.il hp]; rfl
    have rvs' : Reps X.K G1.R G1.L vs ds := by rw [← hI]; exact rvs
    refine ⟨G1.R, G1.L, s1.st, ds, d, S', by rw [rvs.length]; exact hn _ _ _ ea, rel1.drop hp, rvs', ec, fun v fp R' L' H' r' rv nd fresh fr' => ?_⟩
    obtain ⟨r2, f2⟩ := rel1.back hp r' fr'
    refine q _ H' r2 (fr1.trans f2) v fp rv ?_ fun a ha => fr1.back (fresh a ha)
    rw [List.nodup_append] at nd ⊢
    refine ⟨nd.1, r2.nd, fun a ha b hb e => ?_⟩
    subst e
    rcases List.mem_append.mp hb with z | z
    · obtain ⟨_, w⟩ := rel1.ex (List.mem_append_left _ z)
      rw [fresh a ha] at w; cases w
    · exact nd.2.2 a ha a z rfl
  · cases eb
theorem rd_pure {E : XK} (σ : St) (H : Hp) (Q : VK) (q : tB X.K (bPure F fa) σ H Q) (hn : ∀ s ds s', fa s = some (ds, s') → ds.length = n) : tCall (spP X.K n F) [] E (tA X.K false fa) σ H Q := by
  obtain ⟨G, s, rel, d9, s9, e0, q⟩ := q
  obtain ⟨⟨ds, s1⟩, ea, eb⟩ := Option.bind_eq_some_iff.mp e0
  obtain ⟨b, ec, ed⟩ := Option.bind_eq_some_iff.mp eb
  cases ed
  refine ⟨G, s, rel, ds, s1, ea, fun G1 H1 rel1 fr1 vs rvs => ?_⟩
  show spP X.K n F (vs ++ []) H1 Q E
  rw [List.append_nil]
  refine ⟨G1.R, G1.I, ds, _, by rw [rvs.length]; exact hn _ _ _ ea, rel1.sub, rvs, ec, fun v fp R' H' x rv nd fresh => ?_⟩
  obtain ⟨r2, f2⟩ := rel1.ext x
  refine q _ H' r2 (fr1.trans f2) v fp rv ?_ fun a ha => fr1.back (fresh a ha)
  refine List.nodup_append.mpr ⟨nd, r2.nd, fun a ha b hb e => ?_⟩
  subst e
  obtain ⟨_, w⟩ := rel1.ex hb
  rw [fresh a ha] at w; cases w
/-- .. as a value -/
theorem rsE.ofO {K : PySem.W.Frag} {R : Hp} {I : List Addr} {H : Hp} {b : B} {Q : VK} (q : rsE K R I H b.frz Q) : rsO K R I H b Q := fun v fp R' H' x rv nd fresh => by
  have n0 : ∀ a ∈ fp, R' a = none := fun a ha => (RepB.live _ _ _ rv a ha).1
  have sm : Same R' (frz R' H' fp) := frz_same n0
  refine q v (frz R' H' fp) H' ⟨x.r.trans sm, x.h, fun a o z => ?_, fun a z => ?_⟩ (RepB.frozen sm (fun _ _ h => h) _ _ _ (fun a ha => frz_in ha) rv)
  · by_cases ha : a ∈ fp
    · rw [frz_in ha] at z; exact z
    · rw [frz_out ha] at z; exact x.sub _ _ z
  · by_cases ha : a ∈ fp
    · exact .inr (fresh a ha)
    · rw [frz_out ha] at z; exact x.rn a z
theorem rd_pureV {m : Bool} {E : XK} (σ : St) (H : Hp) (Q : VK) (q : tE X.K m (eL (pV F) fa) σ H Q) (hn : ∀ s ds s', fa s = some (ds, s') → ds.length = n) : tCall (spP X.K n F) [] E (tA X.K m fa) σ H Q := by
  obtain ⟨G, s, rel, d9, s9, e0, q⟩ := q
  obtain ⟨⟨ds, s1⟩, ea, eb⟩ := Option.bind_eq_some_iff.mp e0
  refine ⟨G, s, rel, ds, s1, ea, fun G1 H1 rel1 fr1 vs rvs => ?_⟩
  have w1 : W X.K ((pV F ds).map fun d => (d, s1)) G1 σ H1 (fun d G' _ H' => ∀ v, Rep X.K (md m G' H') G'.I v d → Q v H') := ⟨d9, s9, eb, fun G2 H2 r2 f2 => q G2 H2 r2 (fr1.trans f2)⟩
  obtain ⟨d, e1, q1⟩ := w1.optE rel1
  obtain ⟨b, e2, rfl⟩ := Option.map_eq_some_iff.mp e1
  show spP X.K n F (vs ++ []) H1 Q E
  rw [List.append_nil]
  exact ⟨md m G1 H1, G1.I, ds, b, by rw [rvs.length]; exact hn _ _ _ ea, md_sub m rel1, rvs, e2, q1.ofO⟩
theorem aCons_len {f : EvE} {g : EvA} {n : Nat} (h : ∀ s ds s', g s = some (ds, s') → ds.length = n) : ∀ s ds s', aCons f g s = some (ds, s') → ds.length = n + 1 := fun s ds s' e => by
  obtain ⟨⟨d, s1⟩, ea, eb⟩ := Option.bind_eq_some_iff.mp e
  obtain ⟨⟨r, s2⟩, ec, ed⟩ := Option.bind_eq_some_iff.mp eb
  cases ed
  rw [List.length_cons, h _ _ _ ec]
theorem aNil_len : ∀ s ds s', aNil s = some (ds, s') → ds.length = 0 := fun s ds s' e => by cases e; rfl
/-- a call of a def of the text -/
theorem b_call (F0 : FnOk X.prog X.w X.K X.mg X.base CX0 k f fd ps (spF X.K n F)) (hr : Room k X.A) (hg : Gl X x) (hm : X.mg x = some (.ref f)) (hk : PySem.W.keepIn X.K (.ref f) = true) (hb : Binds X.K fd ps []) (ha : SA X (e :: es) fa)
    (hn : ∀ s ds s', fa s = some (ds, s') → ds.length = n) (hdb : (x == ("__debug__" : Str)) = false := by decide) (he : starEach (e :: es) X.env = (false, eval e X.env) :: starEach es X.env := by rfl) (hpl : (backTo pos (starEach es X.env)).any (·.1) = false := by rfl) :
    SB X (.Call (.Name x p) (e :: es) [] pos) (bCall F fa) := pe_imp (pe_call F0 hr hg hm hk hb .nil pass0 ha hdb he hpl) fun σ H Q q => rd_call σ H Q q hn
theorem b_call0 (F0 : FnOk X.prog X.w X.K X.mg X.base CX0 k f fd ps (spF X.K 0 F)) (hr : Room k X.A) (hg : Gl X x) (hm : X.mg x = some (.ref f)) (hk : PySem.W.keepIn X.K (.ref f) = true) (hb : Binds X.K fd ps []) (hdb : (x == ("__debug__" : Str)) = false := by decide) :
    SB X (.Call (.Name x p) [] [] pos) (bCall F aNil) := pe_imp (pe_call0 F0 hr hg hm hk hb .nil pass0 hdb) fun σ H Q q => by
  have h := rd_call (X := X) (n := 0) (fa := aNil) (F := F) (E := E0) σ H Q q aNil_len
  obtain ⟨G, s, rel, ds, s1, ea, h⟩ := h
  cases ea
  exact h G H rel (Fr.refl _ _ _) [] .nil
theorem b_pure (F0 : FnOk X.prog X.w X.K X.mg X.base CX0 k f fd ps (spP X.K n F)) (hr : Room k X.A) (hg : Gl X x) (hm : X.mg x = some (.ref f)) (hk : PySem.W.keepIn X.K (.ref f) = true) (hb : Binds X.K fd ps []) (ha : SA X (e :: es) fa)
    (hn : ∀ s ds s', fa s = some (ds, s') → ds.length = n) (hdb : (x == ("__debug__" : Str)) = false := by decide) (he : starEach (e :: es) X.env = (false, eval e X.env) :: starEach es X.env := by rfl) (hpl : (backTo pos (starEach es X.env)).any (·.1) = false := by rfl) :
    SB X (.Call (.Name x p) (e :: es) [] pos) (bPure F fa) := pe_imp (pe_call F0 hr hg hm hk hb .nil pass0 ha hdb he hpl) fun σ H Q q => rd_pure σ H Q q hn
theorem s_pure {m : Bool} (F0 : FnOk X.prog X.w X.K X.mg X.base CX0 k f fd ps (spP X.K n F)) (hr : Room k X.A) (hg : Gl X x) (hm : X.mg x = some (.ref f)) (hk : PySem.W.keepIn X.K (.ref f) = true) (hb : Binds X.K fd ps []) (ha : SAm X m (e :: es) fa)
    (hn : ∀ s ds s', fa s = some (ds, s') → ds.length = n) (hdb : (x == ("__debug__" : Str)) = false := by decide) (he : starEach (e :: es) X.env = (false, eval e X.env) :: starEach es X.env := by rfl) (hpl : (backTo pos (starEach es X.env)).any (·.1) = false := by rfl) :
    SX X m (.Call (.Name x p) (e :: es) [] pos) (eL (pV F) fa) := pe_imp (pe_call F0 hr hg hm hk hb .nil pass0 ha hdb he hpl) fun σ H Q q => rd_pureV σ H Q q hn
theorem b_pure0 (F0 : FnOk X.prog X.w X.K X.mg X.base CX0 k f fd ps (spP X.K 0 F)) (hr : Room k X.A) (hg : Gl X x) (hm : X.mg x = some (.ref f)) (hk : PySem.W.keepIn X.K (.ref f) = true) (hb : Binds X.K fd ps []) (hdb : (x == ("__debug__" : Str)) = false := by decide) :
    SB X (.Call (.Name x p) [] [] pos) (bPure F aNil) := pe_imp (pe_call0 F0 hr hg hm hk hb .nil pass0 hdb) fun σ H Q q => by
  have h := rd_pure (X := X) (n := 0) (fa := aNil) (F := F) (E := E0) σ H Q q aNil_len
  obtain ⟨G, s, rel, ds, s1, ea, h⟩ := h
  cases ea
  exact h G H rel (Fr.refl _ _ _) [] .nil
theorem repE_start {K : PySem.W.Frag} {R : Hp} {L : List Addr} {H : Hp} : ∀ {vs : List V} {ds : List D} (m : Nat), Reps K R L vs ds → RepE K R L H (vs.map some ++ List.replicate m none) (ds.map (fun d => some (.v d)) ++ List.replicate m none) []
  | _, _, 0, .nil => .nil
  | _, _, m + 1, .nil => .non (repE_start m .nil)
  | _, _, m, .cons h t => RepE.val (f := []) (g := []) (.v h) (repE_start m t)
/-- THE RULE for a def: its body as a term of rules -/
theorem fn_ok {P : Program} {w : World} {K : PySem.W.Frag} {mg : Str → Option Value} {base : Heap} {x qual : Str} {params : Arguments} {body : List Stmt} {scope : Scope} {f : Addr} {fd : FuncData} {N ps : List Str} {k : Nat} {F : EvS}
    (D0 : FunD K x qual params body scope [] [] f fd) (S : FnScope N ps scope)
    (hbody : ∀ (cdv : Value) (A : Around) (outer : List Env) (s : Shared) (H : Hp), Room k (A.deeper (PyProof.Rows.envOfC qual scope s.heap.objs.size f cdv)) → SSs (cxOf CX0 P w K mg base N qual scope f cdv A outer s H E0).nox body F) :
    FnOk P w K mg base CX0 (k + 1) f fd ps (spF K ps.length (fnF ps.length N.length F)) := by
  refine D0.ok S (fun vs H Q E h => ?_) fun cdv A outer s H vs Q E hr h => ?_
  · obtain ⟨_, _, _, _, _, _, e, _⟩ := h; exact e
  · obtain ⟨R, L, S0, ds, d, S', hl, rel, rvs, e, q⟩ := h
    refine ⟨_, (hbody cdv A outer s H hr).nox, ?_⟩
    unfold fnF at e
    split at e
    · obtain ⟨⟨o, s9⟩, ea, eb⟩ := Option.bind_eq_some_iff.mp e
      have r0 : Rel K ⟨R, L, [], none⟩ ⟨ds.map (fun d => some (.v d)) ++ List.replicate (N.length - ps.length) none, S0, false⟩ (start N vs) H := by
        refine ⟨rel.sub, ?_, rel.nd, rel.nr, rel.len, fun _ => rfl, (fun z => by cases z), rel.sto⟩
        unfold L2.start
        rw [hl]
        exact repE_start _ rvs
      refine ⟨⟨R, L, [], none⟩, _, r0, o, s9, ea, fun σ' G' H' r' fr' => ?_⟩
      have hJ : G'.J = none := fr'.j
      have hI : G'.I = G'.L := by unfold Gh.I; rw [hJ]; rfl
      have drop : Fr true ⟨R, L, [], none⟩ H ⟨G'.R, G'.L, [], none⟩ H' := ⟨fr'.r, fr'.rn, (by rw [← show G'.I = (⟨G'.R, G'.L, [], none⟩ : Gh).I from hI]; exact fr'.l), (fun _ z => by cases z), fr'.lo, fr'.h, fr'.d, rfl⟩
      have rd : Rel K ⟨G'.R, G'.L, [], none⟩ ⟨[], s9.st, false⟩ [] H' := ⟨r'.sub, .nil, (by rw [List.nil_append]; exact (List.nodup_append.mp r'.nd).2.1), r'.nr, r'.len, fun _ => rfl, (fun z => by cases z), fun n c h => by
        have := r'.sto n c h
        rw [hI] at this
        exact this⟩
      cases o with
      | rt d' =>
        cases eb
        intro v fp rv nd fresh
        rw [hI] at rv
        exact q v fp _ _ _ rd rv nd (fun a ha => (fresh a ha).resolve_left fun z => by cases z) drop
      | nx => cases eb; exact q _ [] _ _ _ rd (.v .non) (by rw [List.nil_append]; exact (List.nodup_append.mp r'.nd).2.1) (fun _ z => by cases z) drop
      | _ => cases eb
    · cases e
/-- .. that turns nothing that others hold -/
theorem fn_okP {P : Program} {w : World} {K : PySem.W.Frag} {mg : Str → Option Value} {base : Heap} {x qual : Str} {params : Arguments} {body : List Stmt} {scope : Scope} {f : Addr} {fd : FuncData} {N ps : List Str} {k : Nat} {F : EvS}
    (D0 : FunD K x qual params body scope [] [] f fd) (S : FnScope N ps scope)
    (hbody : ∀ (cdv : Value) (A : Around) (outer : List Env) (s : Shared) (H : Hp), Room k (A.deeper (PyProof.Rows.envOfC qual scope s.heap.objs.size f cdv)) → SSs (cxOf CX0 P w K mg base N qual scope f cdv A outer s H E0).nox body F) :
    FnOk P w K mg base CX0 (k + 1) f fd ps (spP K ps.length (fnF ps.length N.length F)) := by
  refine D0.ok S (fun vs H Q E h => ?_) fun cdv A outer s H vs Q E hr h => ?_
  · obtain ⟨_, _, _, _, e, _⟩ := h; exact e
  · obtain ⟨R, I, ds, b, hl, sub, rvs, e, q⟩ := h
    refine ⟨_, (hbody cdv A outer s H hr).nox, ?_⟩
    obtain ⟨⟨b', S'⟩, e3, rfl⟩ := Option.map_eq_some_iff.mp e
    unfold fnF at e3
    split at e3
    · obtain ⟨⟨o, s9⟩, ea, eb⟩ := Option.bind_eq_some_iff.mp e3
      have r0 : Rel K ⟨R, [], [], some I⟩ ⟨ds.map (fun d => some (.v d)) ++ List.replicate (N.length - ps.length) none, [], true⟩ (start N vs) H := by
        refine ⟨sub, ?_, List.nodup_nil, (fun _ z => by cases z), rfl, (fun z => by cases z), fun _ => rfl, fun n c z => by simp at z⟩
        unfold L2.start
        rw [hl]
        exact repE_start _ rvs
      refine ⟨⟨R, [], [], some I⟩, _, r0, o, s9, ea, fun σ' G' H' r' fr' => ?_⟩
      have hJ : G'.J = some I := fr'.j
      have hI : G'.I = I := by unfold Gh.I; rw [hJ]; rfl
      have x : Ext R H G'.R H' := ⟨fr'.r, fun a u z => fr'.h a u z (fun _ z => by cases z) (fun z => by cases z), r'.sub, fun a z => by
        rcases fr'.rn a z with w | w | w
        · exact .inl w
        · cases w
        · exact .inr w⟩
      cases o with
      | rt d' =>
        cases eb
        intro v fp rv nd fresh
        rw [hI] at rv
        exact q v fp _ _ x rv (List.nodup_append.mp nd).1 fun a ha => (fresh a ha).resolve_left fun z => by cases z
      | nx => cases eb; exact q _ [] _ _ x (.v .non) List.nodup_nil (fun _ z => by cases z)
      | _ => cases eb
    · cases e3
end
end Ev

namespace Ev
open PySem L2

/-! ## built-ins by values -/
def num (i : Int) : Str := Str.ofString (toString i)
def bLen : List D → Option D
  | [d] => dLen d
  | _ => none
def bAbs : List D → Option D
  | [.int i] => some (.int (if i < 0 then -i else i))
  | _ => none
def bInt : List D → Option D
  | [.int i] => some (.int i)
  | [.bl b] => some (.int (if b then 1 else 0))
  | [.str x] => if x.length ≤ 640 then (PySem.intText? x).map .int else none
  | _ => none
def bStr : List D → Option D
  | [.int i] => if Sm i then some (.str (num i)) else none
  | [.str x] => some (.str x)
  | _ => none
def bRepr : List D → Option D
  | [.int i] => if Sm i then some (.str (num i)) else none
  | [.str x] => if (reprText x).length ≤ sizeLine then some (.str (reprText x)) else none
  | _ => none
def asInts : List D → Option (List Int)
  | [] => some []
  | .int i :: r => (asInts r).map (i :: ·)
  | _ :: _ => none
def asBools : List D → Option (List Bool)
  | [] => some []
  | .bl i :: r => (asBools r).map (i :: ·)
  | _ :: _ => none
def bSum : List D → Option D
  | [.lst xs] => (asInts xs).map fun ns => .int ns.sum
  | [.scr ns] => some (.int ns.sum)
  | _ => none
/-- the greatest, the least of some numbers -/
def maxL : List Int → Int
  | [] => 0
  | [a] => a
  | a :: r => max a (maxL r)
def minL : List Int → Int
  | [] => 0
  | [a] => a
  | a :: r => min a (minL r)
def bMax : List D → Option D
  | [.int i, .int j] => some (.int (if j > i then j else i))
  | [.lst xs] => (asInts xs).bind fun ns => if ns = [] then none else some (.int (maxL ns))
  | _ => none
def bMin : List D → Option D
  | [.int i, .int j] => some (.int (if j < i then j else i))
  | [.lst xs] => (asInts xs).bind fun ns => if ns = [] then none else some (.int (minL ns))
  | _ => none
def bAny : List D → Option D
  | [.lst xs] => (asBools xs).map fun bs => .bl (bs.any id)
  | _ => none
def bAll : List D → Option D
  | [.lst xs] => (asBools xs).map fun bs => .bl (bs.all id)
  | _ => none
def sortI (ns : List Int) : List Int := ns.mergeSort fun a b => decide (a ≤ b)
def bSortedI : List D → Option (List D)
  | [.lst xs] => (asInts xs).bind fun ns => if ns.length < 64 then some ((sortI ns).map .int) else none
  | _ => none
def bList : List D → Option (List D)
  | [.lst xs] => some xs
  | [.tup xs] => some xs
  | [.scr ns] => some (ns.map .int)
  | _ => none
def bTuple : List D → Option D
  | [.lst xs] => some (.tup xs)
  | [.tup xs] => some (.tup xs)
  | _ => none
def bDivmod : List D → Option D
  | [.int i, .int j] => if 0 < j ∧ j < 1073741824 then some (.tup [.int (i / j), .int (i % j)]) else none
  | _ => none
def bGcd : List D → Option D
  | [.int a, .int b] => some (.int (Nat.gcd a.natAbs b.natAbs : Nat))
  | _ => none
def tyName : D → Option String
  | .non => some "NoneType"
  | .bl _ => some "bool"
  | .int _ => some "int"
  | .str _ => some "str"
  | .lst _ => some "list"
  | .tup _ => some "tuple"
  | _ => none
/-- isinstance of a built-in class -/
def dIsi (T : String) (d : D) : Option D := (tyName d).bind fun t => (kitB t T).map .bl
theorem maxL_mem : ∀ {ns : List Int}, ns ≠ [] → maxL ns ∈ ns
  | [], h => absurd rfl h
  | [a], _ => by simp [maxL]
  | a :: b :: r, _ => by
    have := maxL_mem (ns := b :: r) (by simp)
    show max a (maxL (b :: r)) ∈ a :: b :: r
    by_cases h : a ≤ maxL (b :: r)
    · rw [Int.max_eq_right h]; exact List.mem_cons_of_mem _ this
    · rw [Int.max_eq_left (by omega)]; exact List.mem_cons_self ..
theorem maxL_le : ∀ {ns : List Int} {x : Int}, x ∈ ns → x ≤ maxL ns
  | [a], x, h => by cases List.mem_singleton.mp h; exact Int.le_refl _
  | a :: b :: r, x, h => by
    show x ≤ max a (maxL (b :: r))
    rcases List.mem_cons.mp h with h | h
    · subst h; exact Int.le_max_left ..
    · exact Int.le_trans (maxL_le h) (Int.le_max_right ..)
theorem minL_mem : ∀ {ns : List Int}, ns ≠ [] → minL ns ∈ ns
  | [], h => absurd rfl h
  | [a], _ => by simp [minL]
  | a :: b :: r, _ => by
    have := minL_mem (ns := b :: r) (by simp)
    show min a (minL (b :: r)) ∈ a :: b :: r
    by_cases h : a ≤ minL (b :: r)
    · rw [Int.min_eq_left h]; exact List.mem_cons_self ..
    · rw [Int.min_eq_right (by omega)]; exact List.mem_cons_of_mem _ this
theorem minL_le : ∀ {ns : List Int} {x : Int}, x ∈ ns → minL ns ≤ x
  | [a], x, h => by cases List.mem_singleton.mp h; exact Int.le_refl _
  | a :: b :: r, x, h => by
    show min a (minL (b :: r)) ≤ x
    rcases List.mem_cons.mp h with h | h
    · subst h; exact Int.min_le_left ..
    · exact Int.le_trans (Int.min_le_right ..) (minL_le h)
theorem asInts_map : ∀ (ns : List Int), asInts (ns.map .int) = some ns
  | [] => rfl
  | n :: ns => by simp only [List.map_cons, asInts, asInts_map ns, Option.map_some]
theorem asInts_inv : ∀ {xs : List D} {ns : List Int}, asInts xs = some ns → xs = ns.map .int
  | [], ns, h => by cases h; rfl
  | x :: r, ns, h => by
    cases x with
    | int i =>
      obtain ⟨ms, e1, e2⟩ := Option.map_eq_some_iff.mp h
      subst e2
      rw [asInts_inv e1]; rfl
    | _ => cases h
theorem asBools_map : ∀ (ns : List Bool), asBools (ns.map .bl) = some ns
  | [] => rfl
  | n :: ns => by simp only [List.map_cons, asBools, asBools_map ns, Option.map_some]
theorem asBools_inv : ∀ {xs : List D} {ns : List Bool}, asBools xs = some ns → xs = ns.map .bl
  | [], ns, h => by cases h; rfl
  | x :: r, ns, h => by
    cases x with
    | bl i =>
      obtain ⟨ms, e1, e2⟩ := Option.map_eq_some_iff.mp h
      subst e2
      rw [asBools_inv e1]; rfl
    | _ => cases h
theorem sortI_perm (ns : List Int) : (sortI ns).Perm ns := List.mergeSort_perm _ _
theorem sortI_sorted (ns : List Int) : (sortI ns).Pairwise (· ≤ ·) := by
  have := List.pairwise_mergeSort (le := fun a b : Int => decide (a ≤ b)) (fun a b c h1 h2 => by simp at h1 h2 ⊢; omega) (fun a b => by simp; omega) ns
  exact this.imp fun h => by simpa using h
theorem sortI_eq {ns ms : List Int} (h : ms.Perm ns) (s : ms.Pairwise (· ≤ ·)) : ms = sortI ns :=
  List.Perm.eq_of_pairwise (fun a b _ _ h1 h2 => by omega) s (sortI_sorted ns) (h.trans (sortI_perm ns).symm)
section
variable {K : PySem.W.Frag} {R : Hp} {L : List Addr}
theorem reps1 {vs : List V} {d : D} (h : Reps K R L vs [d]) : ∃ v, vs = [v] ∧ Rep K R L v d := by
  cases h with | cons h t => cases t; exact ⟨_, rfl, h⟩
theorem reps2 {vs : List V} {d d' : D} (h : Reps K R L vs [d, d']) : ∃ v v', vs = [v, v'] ∧ Rep K R L v d ∧ Rep K R L v' d' := by
  cases h with
  | cons h t => cases t with | cons h2 t2 => cases t2; exact ⟨_, _, rfl, h, h2⟩
theorem Reps.of_bools : ∀ {ns : List Bool} {vs : List V}, Reps K R L vs (ns.map D.bl) → vs = ns.map V.bl
  | [], _, h => by cases h; rfl
  | n :: ns, _, h => by
    cases h with
    | cons h1 h2 => cases h1; rw [Reps.of_bools h2]; rfl
end
section
variable {X : Cx}
theorem c_len : CallR X (.builtin "len") (GL X.K bLen) := by
  intro pins s σ H vs us Q I r ⟨R, L, ds, d, sub, hr, e, q⟩
  match ds, e with
  | [dx], e =>
    obtain ⟨v, rfl, hv⟩ := reps1 hr
    cases hv with
    | str y =>
      simp only [bLen, dLen] at e
      split at e
      · cases e; exact call_len pins s σ H _ us Q I r ⟨_, y.length, rfl, ⟨‹_›, rfl⟩, q.now sub (.int _)⟩
      · cases e
    | lst h t => cases e; exact call_len pins s σ H _ us Q I r ⟨_, _, rfl, .inl ⟨_, rd_seq h sub, t.length.symm⟩, q.now sub (.int _)⟩
    | scr h => cases e; exact call_len pins s σ H _ us Q I r ⟨_, _, rfl, .inl ⟨_, sub.seq h, by rw [List.length_map]⟩, q.now sub (.int _)⟩
    | tup h t => cases e; exact call_len pins s σ H _ us Q I r ⟨_, _, rfl, .inr ⟨_, sqT_mono sub h, t.length.symm⟩, q.now sub (.int _)⟩
    | _ => cases e
theorem c_abs : CallR X (.builtin "abs") (GL X.K bAbs) := by
  intro pins s σ H vs us Q I r ⟨R, L, ds, d, sub, hr, e, q⟩
  match ds, e with
  | [.int i], e =>
    cases e
    obtain ⟨v, rfl, hv⟩ := reps1 hr
    cases hv
    exact call_abs pins s σ H _ us Q I r ⟨i, rfl, q.now sub (.int _)⟩
theorem c_int : CallR X (.type "int") (GL X.K bInt) := by
  intro pins s σ H vs us Q I r ⟨R, L, ds, d, sub, hr, e, q⟩
  match ds, e with
  | [.int i], e =>
    cases e
    obtain ⟨v, rfl, hv⟩ := reps1 hr
    cases hv
    exact call_int1 pins s σ H _ us Q I r (.inl ⟨i, rfl, q.now sub (.int _)⟩)
  | [.bl b], e =>
    cases e
    obtain ⟨v, rfl, hv⟩ := reps1 hr
    cases hv
    exact call_int1 pins s σ H _ us Q I r (.inr ⟨b, rfl, q.now sub (.int _)⟩)
  | [.str x], e =>
    obtain ⟨v, rfl, hv⟩ := reps1 hr
    cases hv
    simp only [bInt] at e
    split at e
    · obtain ⟨n, e1, rfl⟩ := Option.map_eq_some_iff.mp e
      exact call_int_str pins s σ H _ us Q I r ⟨x, n, rfl, e1, ‹_›, q.now sub (.int _)⟩
    · cases e
theorem sm_log {i : Int} (h : Sm i) : i.natAbs.log2 < 1920 := Nat.lt_trans (big_log h) (by decide)
theorem c_str : CallR X (.type "str") (GL X.K bStr) := by
  intro pins s σ H vs us Q I r ⟨R, L, ds, d, sub, hr, e, q⟩
  match ds, e with
  | [.int i], e =>
    obtain ⟨v, rfl, hv⟩ := reps1 hr
    cases hv
    simp only [bStr] at e
    split at e
    · cases e; exact call_str_int pins s σ H _ us Q I r ⟨i, rfl, sm_log ‹_›, q.now sub (.str _)⟩
    · cases e
  | [.str x], e =>
    cases e
    obtain ⟨v, rfl, hv⟩ := reps1 hr
    cases hv
    exact SkE.call_str_str pins s σ H _ us Q I r ⟨x, rfl, q.now sub (.str _)⟩
theorem c_repr : CallR X (.builtin "repr") (GL X.K bRepr) := by
  intro pins s σ H vs us Q I r ⟨R, L, ds, d, sub, hr, e, q⟩
  match ds, e with
  | [.int i], e =>
    obtain ⟨v, rfl, hv⟩ := reps1 hr
    cases hv
    simp only [bRepr] at e
    split at e
    · cases e; exact SkE.call_repr_int pins s σ H _ us Q I r ⟨i, rfl, sm_log ‹_›, q.now sub (.str _)⟩
    · cases e
  | [.str x], e =>
    obtain ⟨v, rfl, hv⟩ := reps1 hr
    cases hv
    simp only [bRepr] at e
    split at e
    · cases e
      obtain ⟨u, rfl, t, rfl⟩ := vals1 r
      exact PySem.P.repr_of_str ⟨.str (reprText x), H, I.tok _, ⟨_, rfl⟩, q.now sub (.str _)⟩ ‹_›
    · cases e
theorem c_sum (hc : X.calm = true) : CallR X (.builtin "sum") (GL X.K bSum) := by
  intro pins s σ H vs us Q I r ⟨R, L, ds, d, sub, hr, e, q⟩
  match ds, e with
  | [.lst xs], e =>
    obtain ⟨ns, e1, rfl⟩ := Option.map_eq_some_iff.mp e
    obtain rfl := asInts_inv e1
    obtain ⟨v, rfl, hv⟩ := reps1 hr
    cases hv with
    | lst h t =>
      obtain rfl := Reps.of_ints t
      exact cr_sum hc pins s σ H _ us Q I r ⟨_, ns, rfl, rd_seq h sub, q.now sub (.int _)⟩
  | [.scr ns], e =>
    cases e
    obtain ⟨v, rfl, hv⟩ := reps1 hr
    cases hv with
    | scr h => exact cr_sum hc pins s σ H _ us Q I r ⟨_, ns, rfl, sub.seq h, q.now sub (.int _)⟩
theorem len_pos {ns : List Int} (h : ns ≠ []) : 0 < ns.length := by
  cases ns with
  | nil => exact absurd rfl h
  | cons _ _ => exact Nat.succ_pos _
theorem c_max (hc : X.calm = true) : CallR X (.builtin "max") (GL X.K bMax) := by
  intro pins s σ H vs us Q I r ⟨R, L, ds, d, sub, hr, e, q⟩
  match ds, e with
  | [.int i, .int j], e =>
    cases e
    obtain ⟨v, w, rfl, hv, hw⟩ := reps2 hr
    cases hv; cases hw
    exact call_max2 hc pins s σ H _ us Q I r ⟨i, j, rfl, q.now sub (.int _)⟩
  | [.lst xs], e =>
    obtain ⟨ns, e1, e2⟩ := Option.bind_eq_some_iff.mp e
    obtain rfl := asInts_inv e1
    split at e2
    · cases e2
    · rename_i hne
      cases e2
      obtain ⟨v, rfl, hv⟩ := reps1 hr
      cases hv with
      | lst h t =>
        obtain rfl := Reps.of_ints t
        refine cr_max hc pins s σ H _ us Q I r ⟨_, ns, rfl, rd_seq h sub, len_pos hne, fun m hm hle => ?_⟩
        have e3 : m = maxL ns := Int.le_antisymm (maxL_le hm) (hle _ (maxL_mem hne))
        subst e3
        exact q.now sub (.int _)
theorem c_min (hc : X.calm = true) : CallR X (.builtin "min") (GL X.K bMin) := by
  intro pins s σ H vs us Q I r ⟨R, L, ds, d, sub, hr, e, q⟩
  match ds, e with
  | [.int i, .int j], e =>
    cases e
    obtain ⟨v, w, rfl, hv, hw⟩ := reps2 hr
    cases hv; cases hw
    exact call_min2 hc pins s σ H _ us Q I r ⟨i, j, rfl, q.now sub (.int _)⟩
  | [.lst xs], e =>
    obtain ⟨ns, e1, e2⟩ := Option.bind_eq_some_iff.mp e
    obtain rfl := asInts_inv e1
    split at e2
    · cases e2
    · rename_i hne
      cases e2
      obtain ⟨v, rfl, hv⟩ := reps1 hr
      cases hv with
      | lst h t =>
        obtain rfl := Reps.of_ints t
        refine cr_min hc pins s σ H _ us Q I r ⟨_, ns, rfl, rd_seq h sub, len_pos hne, fun m hm hle => ?_⟩
        have e3 : m = minL ns := Int.le_antisymm (hle _ (minL_mem hne)) (minL_le hm)
        subst e3
        exact q.now sub (.int _)
theorem c_any (hc : X.calm = true) : CallR X (.builtin "any") (GL X.K bAny) := by
  intro pins s σ H vs us Q I r ⟨R, L, ds, d, sub, hr, e, q⟩
  match ds, e with
  | [.lst xs], e =>
    obtain ⟨ns, e1, rfl⟩ := Option.map_eq_some_iff.mp e
    obtain rfl := asBools_inv e1
    obtain ⟨v, rfl, hv⟩ := reps1 hr
    cases hv with
    | lst h t =>
      obtain rfl := Reps.of_bools t
      exact cr_any hc pins s σ H _ us Q I r ⟨_, ns, rfl, rd_seq h sub, q.now sub (.bl _)⟩
theorem c_all (hc : X.calm = true) : CallR X (.builtin "all") (GL X.K bAll) := by
  intro pins s σ H vs us Q I r ⟨R, L, ds, d, sub, hr, e, q⟩
  match ds, e with
  | [.lst xs], e =>
    obtain ⟨ns, e1, rfl⟩ := Option.map_eq_some_iff.mp e
    obtain rfl := asBools_inv e1
    obtain ⟨v, rfl, hv⟩ := reps1 hr
    cases hv with
    | lst h t =>
      obtain rfl := Reps.of_bools t
      exact cr_all hc pins s σ H _ us Q I r ⟨_, ns, rfl, rd_seq h sub, q.now sub (.bl _)⟩
theorem c_sortedI : CallR X (.builtin "sorted") (GLB X.K bSortedI) := by
  intro pins s σ H vs us Q I r ⟨R, L, ds, ys, sub, hr, e, q⟩
  match ds, e with
  | [.lst xs], e =>
    obtain ⟨ns, e1, e2⟩ := Option.bind_eq_some_iff.mp e
    obtain rfl := asInts_inv e1
    split at e2
    · rename_i h64
      cases e2
      obtain ⟨v, rfl, hv⟩ := reps1 hr
      cases hv with
      | lst h t =>
        obtain rfl := Reps.of_ints t
        refine cr_sorted pins s σ H _ us Q I r ⟨_, ns, rfl, rd_seq h sub, h64, fun ns' p h1 h2 hp => ?_⟩
        rw [sortI_eq h1 h2]
        exact q p _ R H (Ext.refl sub) hp Reps.ints
    · cases e2
theorem c_list : CallR X (.type "list") (GLB X.K bList) := by
  intro pins s σ H vs us Q I r ⟨R, L, ds, ys, sub, hr, e, q⟩
  match ds, e with
  | [.lst xs], e =>
    cases e
    obtain ⟨v, rfl, hv⟩ := reps1 hr
    cases hv with | lst h t => exact call_list_of pins s σ H _ us Q I r ⟨_, _, rfl, .inl (rd_seq h sub), fun p hp => q p _ R H (Ext.refl sub) hp t⟩
  | [.tup xs], e =>
    cases e
    obtain ⟨v, rfl, hv⟩ := reps1 hr
    cases hv with | tup h t => exact call_list_of pins s σ H _ us Q I r ⟨_, _, rfl, .inr (sqT_mono sub h), fun p hp => q p _ R H (Ext.refl sub) hp t⟩
  | [.scr ns], e =>
    cases e
    obtain ⟨v, rfl, hv⟩ := reps1 hr
    cases hv with | scr h => exact call_list_of pins s σ H _ us Q I r ⟨_, _, rfl, .inl (sub.seq h), fun p hp => q p _ R H (Ext.refl sub) hp Reps.ints⟩
theorem c_tuple : CallR X (.type "tuple") (GL X.K bTuple) := by
  intro pins s σ H vs us Q I r ⟨R, L, ds, d, sub, hr, e, q⟩
  match ds, e with
  | [.lst xs], e =>
    cases e
    obtain ⟨v, rfl, hv⟩ := reps1 hr
    cases hv with | lst h t => exact call_tuple_of pins s σ H _ us Q I r ⟨_, _, rfl, .inl ⟨rd_seq h sub, fun p hp => q.newT sub t hp⟩⟩
  | [.tup xs], e =>
    cases e
    obtain ⟨v, rfl, hv⟩ := reps1 hr
    cases hv with | tup h t => exact call_tuple_of pins s σ H _ us Q I r ⟨_, _, rfl, .inr ⟨sqT_mono sub h, q.now sub (.tup h t)⟩⟩
theorem c_divmod : CallR X (.builtin "divmod") (GL X.K bDivmod) := by
  intro pins s σ H vs us Q I r ⟨R, L, ds, d, sub, hr, e, q⟩
  match ds, e with
  | [.int i, .int j], e =>
    simp only [bDivmod] at e
    split at e
    · cases e
      obtain ⟨v, w, rfl, hv, hw⟩ := reps2 hr
      cases hv; cases hw
      exact call_divmod pins s σ H _ us Q I r ⟨i, j, rfl, ‹_›, fun p hp => q.newT sub (.cons (.int _) (.cons (.int _) .nil)) hp⟩
    · cases e
theorem c_gcd : CallR X (.builtin "math.gcd") (GL X.K bGcd) := by
  intro pins s σ H vs us Q I r ⟨R, L, ds, d, sub, hr, e, q⟩
  match ds, e with
  | [.int i, .int j], e =>
    cases e
    obtain ⟨v, w, rfl, hv, hw⟩ := reps2 hr
    cases hv; cases hw
    exact cr_gcd pins s σ H _ us Q I r ⟨i, j, rfl, q.now sub (.int _)⟩
theorem ty_rep {K : PySem.W.Frag} {R H : Hp} {L : List Addr} {x : V} {d : D} {t : String} (sub : Same R H) (h : Rep K R L x d) (e : tyName d = some t) : TyX K H x (.type t) := by
  cases h with
  | non => cases e; exact .base .non
  | bl b => cases e; exact .base (.bl b)
  | int i => cases e; exact .base (.int i)
  | str y => cases e; exact .base (.str y)
  | lst h r =>
    cases e
    rcases rd_mono sub h with h | ⟨o, h⟩
    · exact .base (.lst h)
    · exact .base (.frz h)
  | tup h r =>
    cases e
    rcases sqT_mono sub h with (h | ⟨o, h⟩) | ⟨o, its, n, hk, hc, _⟩
    · exact .base (.tup h)
    · exact .fTuple h
    · exact .kTuple hk hc
  | obj _ => cases e
  | scr _ => cases e
/-- isinstance(e, T), T a built-in class -/
theorem s_isi {m : Bool} {T : String} {x c : Str} {a : Expr} {f : EvE} {p p2 pos : Pos} (hg : Gl X x) (hm : X.mg x = none) (hv : bootBuiltins x = some (.builtin "isinstance")) (hgc : Gl X c) (hmc : X.mg c = none) (hvc : bootBuiltins c = some (.type T)) (ha : SX X m a f)
    (hn : x ≠ "__name__" := by decide) (hdb : (x == ("__debug__" : Str)) = false := by decide) (hnc : c ≠ "__name__" := by decide) (hdc : (c == ("__debug__" : Str)) = false := by decide)
    (he : starEach (a :: [.Name c p2]) X.env = (false, eval a X.env) :: starEach [.Name c p2] X.env := by rfl) (he2 : starEach [.Name c p2] X.env = (false, eval (.Name c p2) X.env) :: starEach [] X.env := by rfl) (hpl : (backTo pos (starEach [.Name c p2] X.env)).any (·.1) = false := by rfl) : SX X m (.Call (.Name x p) [a, .Name c p2] [] pos) (e1 (dIsi T) f) :=
  pe_imp (pe_callB call_isi hg hm hv (pa_cons ha (pa_cons (pe_bltn (v := .ty T) hgc hmc hvc rfl hnc hdc) pa_nil he2) he) hn hdb he hpl) fun σ H Q ⟨G, s, rel, w⟩ => ⟨G, s, rel, w.bind.imp fun d G1 s1 H1 rel1 _ w1 v rv => by
    obtain ⟨d', e, q⟩ := w1.optE rel1
    obtain ⟨t, e1, e2⟩ := Option.bind_eq_some_iff.mp e
    obtain ⟨b, e3, rfl⟩ := Option.map_eq_some_iff.mp e2
    exact ⟨v, .ty T, .type t, .type T, b, rfl, .ty T, ty_rep (md_sub m rel1) rv e1, kit_ty e3, q.now (md_sub m rel1) (.bl b)⟩⟩
end

/-! ## slices -/
def dCut (d : D) (lo hi : Option Int) : Option D := match d with
  | .lst xs => some (.lst ((xs.drop (HT.sIx xs.length 0 lo)).take (HT.sIx xs.length xs.length hi - HT.sIx xs.length 0 lo)))
  | .tup xs => some (.tup ((xs.drop (HT.sIx xs.length 0 lo)).take (HT.sIx xs.length xs.length hi - HT.sIx xs.length 0 lo)))
  | .str z => if z.length ≤ sizeLine then some (.str (cutS z lo hi)) else none
  | _ => none
abbrev EvO := Sta → Option (Option Int × Sta)
def tOo (K : PySem.W.Frag) (f : EvO) : TO := fun σ H Q => ∃ (G : Gh) (s : Sta), Rel K G s σ H ∧ W K (f s) G σ H (fun o _ _ H' => Q o H')
abbrev SO (X : Cx) (e : Option Expr) (f : EvO) : Prop := PO X e (tOo X.K f)
theorem po_imp {X : Cx} {e : Option Expr} {t t' : TO} (h : PO X e t) (i : ∀ σ H Q, t' σ H Q → t σ H Q) : PO X e t' := ⟨fun pins s σ H Q I q => h.run pins s σ H Q I (i σ H Q q)⟩
def oNone : EvO := fun s => some (none, s)
def oSome (f : EvE) : EvO := fun s => (f s).bind fun p => match p.1 with
  | .int i => some (some i, p.2)
  | _ => none
def eCut (f : EvE) (lo hi : EvO) : EvE := fun s => (f s).bind fun p => (lo p.2).bind fun q => (hi q.2).bind fun r => (dCut p.1 q.1 r.1).map fun d => (d, r.2)
def bCut (f : EvE) (lo hi : EvO) : EvB := fun s => (f s).bind fun p => (lo p.2).bind fun q => (hi q.2).bind fun r => match p.1 with
  | .lst xs => some (.o (((xs.drop (HT.sIx xs.length 0 q.1)).take (HT.sIx xs.length xs.length r.1 - HT.sIx xs.length 0 q.1)).map .v), r.2)
  | _ => none
section
variable {X : Cx} {m : Bool} {e : Expr} {f : EvE} {lo hi : Option Expr} {fl fh : EvO} {pos p2 : Pos}
theorem o_none : SO X none oNone := po_imp po_none fun σ H Q ⟨G, s, rel, w⟩ => w.now rel
theorem o_some (h : SX X m e f) : SO X (some e) (oSome f) := po_imp (po_some h) fun σ H Q ⟨G, s, rel, o, s9, e, q⟩ => by
  obtain ⟨⟨d, s1⟩, ea, eb⟩ := Option.bind_eq_some_iff.mp e
  cases d with
  | int i =>
    cases eb
    refine ⟨G, s, rel, _, _, ea, fun G1 H1 rel1 fr1 v rv => ?_⟩
    cases rv
    exact ⟨i, rfl, q G1 H1 rel1 fr1⟩
  | _ => cases eb
theorem sl_listR : SlR X (fun x lo hi H Q => ∃ a xs, x = .ref a ∧ Rd H a (.lst xs) ∧ ∀ p, H p = none → Q (.ref p) (upd H p (.lst (cutV xs lo hi)))) := by
  intro pins s σ H x v vl vu lo hi sl Q I rx hs pl pu hq
  obtain ⟨a, xs, e, h, q⟩ := hq
  exact sl_list pins s σ H x v vl vu lo hi sl Q I rx hs pl pu ⟨a, xs, e, .inl h, q⟩
theorem sl_all : SlR X (fun x lo hi H Q => ∃ (R : Hp) (L : List Addr) (d d' : D), Same R H ∧ Rep X.K R L x d ∧ dCut d lo hi = some d' ∧ rsE X.K R L H d' Q) := by
  intro pins s σ H x v vl vu lo hi sl Q I rx hs pl pu ⟨R, L, d, d', sub, hv, e, q⟩
  cases hv with
  | lst h r =>
    cases e
    refine sl_listR pins s σ H _ v vl vu lo hi sl Q I rx hs pl pu ⟨_, _, rfl, rd_mono sub h, fun p hp => q.newL sub ?_ hp⟩
    unfold cutV
    rw [r.length]
    exact (r.drop _).take _
  | tup h r =>
    cases e
    refine sl_tupA pins s σ H _ v vl vu lo hi sl Q I rx hs pl pu ⟨_, _, rfl, sqT_mono sub h, fun hw => ?_, fun _ p hp => q.newT sub ?_ hp⟩
    · rw [r.length] at hw
      rw [hw.1, hw.2] at q
      simp only [List.drop_zero, Nat.sub_zero, List.take_length] at q
      exact q.now sub (.tup h r)
    · unfold cutV
      rw [r.length]
      exact (r.drop _).take _
  | str z =>
    simp only [dCut] at e
    split at e
    · cases e; exact sl_str pins s σ H _ v vl vu lo hi sl Q I rx hs pl pu ⟨z, rfl, ‹_›, q.now sub (.str _)⟩
    · cases e
  | _ => cases e
theorem s_cut (he : SX X m e f) (hl : SO X lo fl) (hh : SO X hi fh) : SX X m (.Subscript e (.Slice lo hi none p2) pos) (eCut f fl fh) :=
  pe_imp (pe_slice sl_all he hl hh) fun σ H Q ⟨G, s, rel, w⟩ =>
    ⟨G, s, rel, (W.bind (k := fun d s => (fl s).bind fun q => (fh q.2).bind fun r => (dCut d q.1 r.1).map fun d => (d, r.2)) w).imp fun d G1 s1 H1 rel1 _ w1 v rv =>
      ⟨G1, s1, rel1, (W.bind (k := fun l s => (fh s).bind fun r => (dCut d l r.1).map fun d => (d, r.2)) w1).imp fun l G2 s2 H2 rel2 fr2 w2 =>
        ⟨G2, s2, rel2, (W.bind (k := fun h s => (dCut d l h).map fun d => (d, s)) w2).imp fun h G3 s3 H3 rel3 fr3 w3 => by
          obtain ⟨d', e, q⟩ := w3.optE rel3
          exact ⟨md m G3 H3, G3.I, d, d', md_sub m rel3, Rep.mono ((md_mono m fr2).trans (md_mono m fr3)) (fun n p z => fr3.l n p (fr2.l n p z)) _ _ rv, e, q⟩⟩⟩⟩
end

/-! ## f-strings -/
def dFmt : D → Option D
  | .str y => if y.length ≤ sizeLine then some (.str y) else none
  | .int i => if Sm i then some (.str (num i)) else none
  | _ => none
def eJoin : List EvE → Str → EvE
  | [], acc => fun s => some (.str acc, s)
  | f :: fs, acc => fun s => (f s).bind fun p => match p.1 with
    | .str y => if (acc ++ y).length ≤ sizeLine then eJoin fs (acc ++ y) p.2 else none
    | _ => none
section
variable {X : Cx} {m : Bool} {e : Expr} {f : EvE} {pos : Pos}
theorem s_fmt (he : SX X m e f) : SX X m (.FormattedValue e (-1) none pos) (e1 dFmt f) :=
  pe_imp (pe_fmt he) fun σ H Q ⟨G, s, rel, w⟩ => ⟨G, s, rel, (W.bind (k := fun d s => (dFmt d).map fun d => (d, s)) w).imp fun d G1 s1 H1 rel1 _ w1 v rv => by
    obtain ⟨d', e, q⟩ := w1.optE rel1
    cases rv with
    | str y =>
      simp only [dFmt] at e
      split at e
      · cases e; exact .inl ⟨y, rfl, ‹_›, q.now (md_sub m rel1) (.str _)⟩
      · cases e
    | int i =>
      simp only [dFmt] at e
      split at e
      · cases e; exact .inr ⟨i, rfl, sm_log ‹_›, q.now (md_sub m rel1) (.str _)⟩
      · cases e
    | _ => cases e⟩
inductive SJ (X : Cx) (m : Bool) : List Expr → List EvE → Prop where
  | nil : SJ X m [] []
  | cons {e : Expr} {f : EvE} {es : List Expr} {fs : List EvE} (h : SX X m e f) (r : SJ X m es fs) : SJ X m (e :: es) (f :: fs)
theorem SJ.pj {es : List Expr} {fs : List EvE} (h : SJ X m es fs) : PJ X es (fs.map (tE X.K m)) := by
  induction h with
  | nil => exact .nil
  | cons h r ih => exact .cons h ih
theorem rd_join {K : PySem.W.Frag} {m : Bool} : ∀ (fs : List EvE) (acc : Str) (σ : St) (H : Hp) (Q : VK), tE K m (eJoin fs acc) σ H Q → tJs (fs.map (tE K m)) acc σ H fun out H1 => Q (.str out) H1
  | [], acc, σ, H, Q, ⟨G, s, rel, w⟩ => w.now rel _ (.str _)
  | f :: fs, acc, σ, H, Q, ⟨G, s, rel, d, s9, e, q⟩ => by
    obtain ⟨⟨d1, s1⟩, ea, eb⟩ := Option.bind_eq_some_iff.mp e
    refine ⟨G, s, rel, d1, s1, ea, fun G1 H1 rel1 fr1 v rv => ?_⟩
    cases d1 with
    | str y =>
      cases rv
      simp only at eb
      split at eb
      · exact ⟨y, rfl, ‹_›, rd_join fs (acc ++ y) σ H1 Q ⟨G1, s1, rel1, d, s9, eb, fun G2 H2 r2 f2 => q G2 H2 r2 (fr1.trans f2)⟩⟩
      · cases eb
    | _ => cases eb
theorem s_join {v1 v2 : Expr} {rest : List Expr} {fs : List EvE} (h : SJ X m (v1 :: v2 :: rest) fs) : SX X m (.JoinedStr (v1 :: v2 :: rest) pos) (eJoin fs Str.empty) := pe_imp (pe_joined h.pj) fun σ H Q q => rd_join fs _ σ H Q q
theorem s_join1 (h : SX X m e f) : SX X m (.JoinedStr [e] pos) f := pe_joined1 h
end

/-! ## membership -/
/-- flat values, for membership in tuples -/
def flatD : D → Option V
  | .non => some .non
  | .bl b => some (.bl b)
  | .int i => some (.int i)
  | .str x => some (.str x)
  | _ => none
def flatDs : List D → Option (List V)
  | [] => some []
  | d :: r => (flatD d).bind fun v => (flatDs r).map (v :: ·)
/-- x in y -/
def dInb : D → D → Option Bool
  | d, .lst xs => match d.py, D.pys xs with
    | some p, some ps => if SeqAt.shaped p = true ∧ SeqAt.shaped (.list ps) = true then some (ps.any fun z => PyData.eqv z p) else none
    | _, _ => none
  | d, .tup xs => (flatD d).bind fun v => (flatDs xs).map fun vs => inV v vs
  | .str x, .str y => some (!(Builtin.Str.occurrences y x 0 y.length 1).isEmpty)
  | _, _ => none
def dIn (a b : D) : Option D := (dInb a b).map .bl
def dNotIn (a b : D) : Option D := (dInb a b).map fun c => .bl (!c)
section
variable {K : PySem.W.Frag} {R : Hp} {L : List Addr}
theorem flat_rep {v : V} {d : D} {u : V} (h : Rep K R L v d) (e : flatD d = some u) : v = u ∧ flatV u = true := by
  cases h <;> first
    | (cases e; exact ⟨rfl, rfl⟩)
    | cases e
theorem flat_reps : ∀ {vs : List V} {ds : List D} {us : List V}, Reps K R L vs ds → flatDs ds = some us → vs = us ∧ us.all flatV = true
  | _, _, _, .nil, e => by cases e; exact ⟨rfl, rfl⟩
  | _, _, _, .cons h t, e => by
    obtain ⟨v, e1, e2⟩ := Option.bind_eq_some_iff.mp e
    obtain ⟨ws, e3, rfl⟩ := Option.map_eq_some_iff.mp e2
    obtain ⟨rfl, f1⟩ := flat_rep h e1
    obtain ⟨rfl, f2⟩ := flat_reps t e3
    exact ⟨rfl, by rw [List.all_cons, f1, f2]; rfl⟩
end
section
variable {X : Cx}
theorem o_in (hu : X.A.units + 65 < cLine) : OpR X (compareOp .In) (G2 X.K dIn) := by
  intro pins s σ H x y v u Q I rx ry ⟨R, L, dx, dy, d, sub, hx, hy, e, q⟩
  obtain ⟨c, e1, rfl⟩ := Option.map_eq_some_iff.mp e
  cases hy with
  | lst h r =>
    simp only [dInb] at e1
    split at e1
    · rename_i p ps q1 q2
      split at e1
      · rename_i hs
        cases e1
        exact op_inD hu pins s σ H x _ v u Q I rx ry ⟨p, ps, Rep.dp sub _ _ _ hx q1, .lst (rd_seq h sub) (Reps.dp sub _ _ _ r q2), hs.1, hs.2, q.now sub (.bl _)⟩
      · cases e1
    · cases e1
  | tup h r =>
    simp only [dInb] at e1
    obtain ⟨w, e2, e3⟩ := Option.bind_eq_some_iff.mp e1
    obtain ⟨ws, e4, rfl⟩ := Option.map_eq_some_iff.mp e3
    obtain ⟨rfl, f1⟩ := flat_rep hx e2
    obtain ⟨rfl, f2⟩ := flat_reps r e4
    exact op_in_seq pins s σ H _ _ v u Q I rx ry ⟨_, _, rfl, .inr (sqT_mono sub h), f1, f2, q.now sub (.bl _)⟩
  | str b =>
    cases hx with
    | str a => cases e1; exact op_in_str pins s σ H _ _ v u Q I rx ry ⟨a, b, rfl, rfl, q.now sub (.bl _)⟩
    | _ => cases e1
  | _ => cases hx <;> cases e1
theorem o_notin (hu : X.A.units + 65 < cLine) : OpR X (compareOp .NotIn) (G2 X.K dNotIn) := by
  intro pins s σ H x y v u Q I rx ry ⟨R, L, dx, dy, d, sub, hx, hy, e, q⟩
  obtain ⟨c, e1, rfl⟩ := Option.map_eq_some_iff.mp e
  cases hy with
  | lst h r =>
    simp only [dInb] at e1
    split at e1
    · rename_i p ps q1 q2
      split at e1
      · rename_i hs
        cases e1
        exact op_notInD hu pins s σ H x _ v u Q I rx ry ⟨p, ps, Rep.dp sub _ _ _ hx q1, .lst (rd_seq h sub) (Reps.dp sub _ _ _ r q2), hs.1, hs.2, q.now sub (.bl _)⟩
      · cases e1
    · cases e1
  | tup h r =>
    simp only [dInb] at e1
    obtain ⟨w, e2, e3⟩ := Option.bind_eq_some_iff.mp e1
    obtain ⟨ws, e4, rfl⟩ := Option.map_eq_some_iff.mp e3
    obtain ⟨rfl, f1⟩ := flat_rep hx e2
    obtain ⟨rfl, f2⟩ := flat_reps r e4
    exact op_notIn_seq pins s σ H _ _ v u Q I rx ry ⟨_, _, rfl, .inr (sqT_mono sub h), f1, f2, q.now sub (.bl _)⟩
  | str b =>
    cases hx with
    | str a => cases e1; exact op_notin_str pins s σ H _ _ v u Q I rx ry ⟨a, b, rfl, rfl, q.now sub (.bl _)⟩
    | _ => cases e1
  | _ => cases hx <;> cases e1
end

/-! ## inplace operators -/
def dIAdd : D → D → Option D
  | .int i, .int j => some (.int (i + j))
  | .str x, .str y => if x.length + y.length ≤ sizeLine then some (.str (x ++ y)) else none
  | _, _ => none
def dIMul : D → D → Option D
  | .int i, .int j => if Sm i ∧ Sm j then some (.int (i * j)) else none
  | _, _ => none
section
variable {X : Cx}
theorem io_add : OpR X (inplaceOp .Add) (G2 X.K dIAdd) := by
  intro pins s σ H x y v u Q I rx ry ⟨R, L, dx, dy, d, sub, hx, hy, e, q⟩
  cases hx with
  | int i => cases hy with
    | int j => cases e; exact iop_add pins s σ H _ _ v u Q I rx ry ⟨i, j, rfl, rfl, q.now sub (.int _)⟩
    | _ => exact absurd e (by simp [dIAdd])
  | str a => cases hy with
    | str b =>
      simp only [dIAdd] at e
      split at e
      · cases e; exact iop_add_str pins s σ H _ _ v u Q I rx ry ⟨a, b, rfl, rfl, ‹_›, q.now sub (.str _)⟩
      · cases e
    | _ => exact absurd e (by simp [dIAdd])
  | _ => cases hy <;> exact absurd e (by simp [dIAdd])
theorem io_sub : OpR X (inplaceOp .Sub) (G2 X.K dSub) := by
  intro pins s σ H x y v u Q I rx ry ⟨R, L, dx, dy, d, sub, hx, hy, e, q⟩
  cases hx with
  | int i => cases hy with
    | int j => cases e; exact iop_sub pins s σ H _ _ v u Q I rx ry ⟨i, j, rfl, rfl, q.now sub (.int _)⟩
    | _ => exact absurd e (by simp [dSub])
  | _ => cases hy <;> exact absurd e (by simp [dSub])
theorem iop_mulW : OpR X (inplaceOp .Mult) (rI CMulW fun i j => .int (i * j)) := opI fun _ _ _ _ _ _ _ hc q => PyProof.Rows.imul_int q hc.ok
theorem io_mul : OpR X (inplaceOp .Mult) (G2 X.K dIMul) := by
  intro pins s σ H x y v u Q I rx ry ⟨R, L, dx, dy, d, sub, hx, hy, e, q⟩
  cases hx with
  | int i => cases hy with
    | int j =>
      simp only [dIMul] at e
      split at e
      · rename_i h
        cases e
        exact iop_mulW pins s σ H _ _ v u Q I rx ry ⟨i, j, rfl, rfl, by have := big_log h.1; have := big_log h.2; unfold CMulW; omega, q.now sub (.int _)⟩
      · cases e
    | _ => exact absurd e (by simp [dIMul])
  | _ => cases hy <;> exact absurd e (by simp [dIMul])
end

/-! ## a law's end -/
theorem law_end {K : PySem.W.Frag} {H : Hp} {a : Addr} {ns : List Int} {F : Fn} {E : XK} (hS : SqL K H a (ns.map V.int)) (e : ∃ S', F false [.scr ns] [] = some (.v (.bl true), S')) : spF K 1 F [.ref a] H (fun v _ => v = .bl true) E := by
  obtain ⟨S', e⟩ := e
  refine ⟨H, [], [], [.scr ns], .v (.bl true), S', rfl, ⟨Same.refl _, .nil, List.nodup_nil, (fun _ h => by cases h), rfl, fun _ => rfl, (fun z => by cases z), (fun n c (h : ([] : Sto)[n]? = some c) => by simp at h)⟩, .cons (.scr hS) .nil, e, fun v fp R' L' H' _ rv _ _ _ => ?_⟩
  cases rv with
  | v rv => cases rv; rfl
end Ev

namespace Ev
open PySem L2

/-! ## more ways to a list of one's own -/
def gCat : D → D → Option (List D)
  | .lst xs, .lst ys => if xs.length + ys.length ≤ sizeLine then some (xs ++ ys) else none
  | _, _ => none
def gRep : D → D → Option (List D)
  | .lst xs, .int k => if k.natAbs < 2 ^ 62 ∧ xs.length * k.toNat ≤ sizeLine then some (List.replicate k.toNat xs).flatten else none
  | _, _ => none
section
variable {X : Cx}
theorem o_catB : OpR X (binaryOp .Add) (G2B X.K gCat) := by
  intro pins s σ H x y v u Q I rx ry ⟨R, L, dx, dy, zs, sub, hx, hy, e, q⟩
  cases hx with
  | lst h1 r1 => cases hy with
    | lst h2 r2 =>
      simp only [gCat] at e
      split at e
      · cases e
        exact op_catR pins s σ H _ _ v u Q I rx ry ⟨_, _, _, _, rfl, rfl, rd_mono sub h1, rd_mono sub h2, by rw [r1.length, r2.length]; assumption, fun p hp => q p _ R H (Ext.refl sub) hp (r1.append r2)⟩
      · cases e
    | _ => cases e
  | _ => cases hy <;> cases e
theorem o_repB : OpR X (binaryOp .Mult) (G2B X.K gRep) := by
  intro pins s σ H x y v u Q I rx ry ⟨R, L, dx, dy, zs, sub, hx, hy, e, q⟩
  cases hx with
  | lst h1 r1 => cases hy with
    | int k =>
      simp only [gRep] at e
      split at e
      · rename_i h
        cases e
        exact op_repR pins s σ H _ _ v u Q I rx ry ⟨_, k, _, rfl, rfl, rd_mono sub h1, by omega, by omega, by rw [r1.length]; exact h.2, fun p hp => q p _ R H (Ext.refl sub) hp (reps_rep r1 _)⟩
      · cases e
    | _ => cases e
  | _ => cases hy <;> cases e
variable {e : Expr} {f : EvE} {lo hi : Option Expr} {fl fh : EvO} {pos p2 : Pos}
theorem b_cut (he : SE X e f) (hl : SO X lo fl) (hh : SO X hi fh) : SB X (.Subscript e (.Slice lo hi none p2) pos) (bCut f fl fh) :=
  pe_imp (pe_slice sl_listR he hl hh) fun σ H Q ⟨G, s, rel, b, s9, e0, q⟩ => by
    obtain ⟨⟨d, s1⟩, ea, eb⟩ := Option.bind_eq_some_iff.mp e0
    obtain ⟨⟨l, s2⟩, ec, ed⟩ := Option.bind_eq_some_iff.mp eb
    obtain ⟨⟨h, s3⟩, ee, ef⟩ := Option.bind_eq_some_iff.mp ed
    cases d with
    | lst xs =>
      refine ⟨G, s, rel, _, s1, ea, fun G1 H1 rel1 fr1 v rv => ⟨G1, s1, rel1, l, s2, ec, fun G2 H2 rel2 fr2 => ⟨G2, s2, rel2, h, s3, ee, fun G3 H3 rel3 fr3 => ?_⟩⟩⟩
      cases rv with
      | lst hh r =>
        have fr := (fr1.trans fr2).trans fr3
        have w : W X.K ((some ((xs.drop (HT.sIx xs.length 0 l)).take (HT.sIx xs.length xs.length h - HT.sIx xs.length 0 l))).bind fun ys => some (B.o (ys.map .v), s3)) G3 σ H3 (fun b G' _ H' => ∀ v fp, RepB X.K G'.R G'.I H' v b fp → (fp ++ (G'.O ++ G'.L)).Nodup → (∀ a ∈ fp, H a = none) → Q v H') :=
          ⟨_, _, ef, fun G4 H4 r4 f4 => q G4 H4 r4 (fr.trans f4)⟩
        obtain ⟨ys, e1, q1⟩ := w.optB rel3 (fun a h => fr.back h)
        cases e1
        refine ⟨_, _, rfl, rd_mono (rel3.sub) (rd_mono (fr2.r.trans fr3.r) hh), fun p hp => q1 p _ G3.R H3 (Ext.refl rel3.sub) hp ?_⟩
        unfold cutV
        have r' := Reps.mono (fr2.r.trans fr3.r) (fun n p z => fr3.l n p (fr2.l n p z)) _ _ r
        rw [r'.length]
        exact (r'.drop _).take _
    | _ => cases ef
/-- a, b = x, y with plain local names -/
def sPar (i j : Nat) (f : EvA) : EvS := fun s => (f s).bind fun p => match p.1 with
  | [a, b] => some (.nx, (p.2.put i (some (.v a))).put j (some (.v b)))
  | _ => none
def sPar3 (i j l : Nat) (f : EvA) : EvS := fun s => (f s).bind fun p => match p.1 with
  | [a, b, c] => some (.nx, ((p.2.put i (some (.v a))).put j (some (.v b))).put l (some (.v c)))
  | _ => none
theorem Rel.putV {K : PySem.W.Frag} {G : Gh} {s : Sta} {σ : St} {H : Hp} {i : Nat} {v : V} {d : D} (r : Rel K G s σ H) (h : Rep K G.R G.I v d) : ∃ O', Rel K ⟨G.R, G.L, O', G.J⟩ (s.put i (some (.v d))) (σ.set i (some v)) H ∧ ∀ a ∈ O', a ∈ G.O := by
  obtain ⟨O', r', h'⟩ := r.put (i := i) (.v h) (by rw [List.nil_append]; exact r.nd)
  exact ⟨O', r', fun a ha => (h' a ha).resolve_right fun z => by cases z⟩
theorem ss_par {i j : Nat} {x y : Str} {a b : Expr} {fa : EvA} {px py pt : Pos} {kt k2 pt2} (hc : X.calm = true) (hN : X.N.Nodup) (hi : X.N[i]? = some x) (hj : X.N[j]? = some y) (hij : i ≠ j)
    (hx : X.env.scope.names.lookup x = some .local) (hy : X.env.scope.names.lookup y = some .local) (ha : SA X [a, b] fa)
    (hw : swappedStores [.Tuple [.Name x px, .Name y py] kt pt] (.Tuple [a, b] k2 pt2) X.env = pure (some [x, y]))
    (hs : swapsWithSole [.Tuple [.Name x px, .Name y py] kt pt] (.Tuple [a, b] k2 pt2) pos.line X.env = pure false := by rfl) :
    SS X (.Assign [.Tuple [.Name x px, .Name y py] kt pt] (.Tuple [a, b] k2 pt2) pos) (sPar i j fa) :=
  ps_imp (ps_par hc hN hi hj hij hx hy ha hw hs) fun D σ H ⟨G, s, rel, o, s9, e0, q⟩ => by
    obtain ⟨⟨ds, s1⟩, ea, eb⟩ := Option.bind_eq_some_iff.mp e0
    match ds, eb with
    | [da, db], eb =>
      cases eb
      refine ⟨G, s, rel, _, s1, ea, fun G1 H1 rel1 fr1 vs rvs => ?_⟩
      obtain ⟨v, w, rfl, rv, rw⟩ := reps2 rvs
      obtain ⟨O2, r2, h2⟩ := rel1.putV (i := i) rv
      obtain ⟨O3, r3, h3⟩ := r2.putV (i := j) rw
      refine ⟨v, w, rfl, q _ _ H1 r3 (Fr.own (G := G1) (g := []) fr1.weak (fun a ha => .inl (h2 a (h3 a ha))) fun _ z => by cases z)⟩
theorem ss_par3 {i j l : Nat} {x y z : Str} {a b c : Expr} {fa : EvA} {px py pz pt : Pos} {kt k2 pt2} (hc : X.calm = true) (hN : X.N.Nodup) (hi : X.N[i]? = some x) (hj : X.N[j]? = some y) (hl : X.N[l]? = some z) (hij : i ≠ j) (hil : i ≠ l) (hjl : j ≠ l)
    (hx : X.env.scope.names.lookup x = some .local) (hy : X.env.scope.names.lookup y = some .local) (hz : X.env.scope.names.lookup z = some .local) (ha : SA X [a, b, c] fa)
    (hw : swappedStores [.Tuple [.Name x px, .Name y py, .Name z pz] kt pt] (.Tuple [a, b, c] k2 pt2) X.env = pure (some [x, y, z]))
    (hs : swapsWithSole [.Tuple [.Name x px, .Name y py, .Name z pz] kt pt] (.Tuple [a, b, c] k2 pt2) pos.line X.env = pure false := by rfl) :
    SS X (.Assign [.Tuple [.Name x px, .Name y py, .Name z pz] kt pt] (.Tuple [a, b, c] k2 pt2) pos) (sPar3 i j l fa) :=
  ps_imp (ps_par3 hc hN hi hj hl hij hil hjl hx hy hz ha hw hs) fun D σ H ⟨G, s, rel, o, s9, e0, q⟩ => by
    obtain ⟨⟨ds, s1⟩, ea, eb⟩ := Option.bind_eq_some_iff.mp e0
    match ds, eb with
    | [da, db, dc], eb =>
      cases eb
      refine ⟨G, s, rel, _, s1, ea, fun G1 H1 rel1 fr1 vs rvs => ?_⟩
      cases rvs with
      | cons ra rvs => cases rvs with
        | cons rb rvs => cases rvs with
          | cons rc rvs =>
            cases rvs
            obtain ⟨O2, r2, h2⟩ := rel1.putV (i := i) ra
            obtain ⟨O3, r3, h3⟩ := r2.putV (i := j) rb
            obtain ⟨O4, r4, h4⟩ := r3.putV (i := l) rc
            refine ⟨_, _, _, rfl, q _ _ H1 r4 (Fr.own (G := G1) (g := []) fr1.weak (fun a ha => .inl (h2 a (h3 a (h4 a ha)))) fun _ z => by cases z)⟩
end

/-! ## a def of the text, kept -/
/-- pu: turns nothing that others hold -/
def spU (pu : Bool) (K : PySem.W.Frag) (n : Nat) (F : Fn) : Sp := match pu with
  | true => spP K n F
  | false => spF K n F
structure Ok (P : Program) (w : World) (K : PySem.W.Frag) (mg : Str → Option Value) (base : Heap) (x : Str) (n k : Nat) (pu : Bool) (F : Fn) : Prop where
  ex : ∃ (f : Addr) (fd : FuncData) (ps : List Str), ps.length = n ∧ mg x = some (.ref f) ∧ PySem.W.keepIn K (.ref f) = true ∧ Binds K fd ps [] ∧ FnOk P w K mg base CX0 k f fd ps (spU pu K n F)
theorem Ok.mk' {P : Program} {w : World} {K : PySem.W.Frag} {mg : Str → Option Value} {base : Heap} {x : Str} {f : Addr} {fd : FuncData} {qual : Str} {params : Arguments} {body : List Stmt} {scope : Scope} {N ps : List Str} {k : Nat} {F : EvS} (pu : Bool)
    (hm : mg x = some (.ref f)) (D0 : FunD K x qual params body scope [] [] f fd) (S : FnScope N ps scope) (hb : Binds K fd ps [])
    (hbody : ∀ (cdv : Value) (A : Around) (outer : List Env) (s : Shared) (H : Hp), Room k (A.deeper (PyProof.Rows.envOfC qual scope s.heap.objs.size f cdv)) → SSs (cxOf CX0 P w K mg base N qual scope f cdv A outer s H E0).nox body F) :
    Ok P w K mg base x ps.length (k + 1) pu (fnF ps.length N.length F) := ⟨f, fd, ps, rfl, hm, D0.kp, hb, match pu with
    | true => fn_okP D0 S hbody
    | false => fn_ok D0 S hbody⟩
theorem Ok.mono {P : Program} {w : World} {K : PySem.W.Frag} {mg : Str → Option Value} {base : Heap} {x : Str} {n j k : Nat} {pu : Bool} {F : Fn} (h : Ok P w K mg base x n j pu F) (l : j ≤ k) : Ok P w K mg base x n k pu F := by
  obtain ⟨f, fd, ps, a, b, c, d, e⟩ := h
  exact ⟨f, fd, ps, a, b, c, d, e.mono l⟩
theorem spU_none {P : Program} {w : World} {K : PySem.W.Frag} {mg : Str → Option Value} {base : Heap} (k : Nat) (f : Addr) (fd : FuncData) (ps : List Str) (pu : Bool) : FnOk P w K mg base CX0 k f fd ps (spU pu K ps.length (fun _ _ _ => none)) := match pu with
  | true => ⟨fun vs H Q E h => by obtain ⟨_, _, _, _, e, _⟩ := h; exact e, fun A outer s H args us vs Q E _ _ _ _ h => by obtain ⟨_, _, _, _, _, _, _, e, _⟩ := h; simp [pF] at e⟩
  | false => ⟨fun vs H Q E h => by obtain ⟨_, _, _, _, _, _, e, _⟩ := h; exact e, fun A outer s H args us vs Q E _ _ _ _ h => by obtain ⟨_, _, _, _, _, _, _, _, _, e, _⟩ := h; cases e⟩
section
variable {X : Cx} {m : Bool} {k n : Nat} {x : Str} {p pos : Pos} {e : Expr} {es : List Expr} {fa : EvA} {F : Fn}
theorem b_ok (h : Ok X.prog X.w X.K X.mg X.base x n k false F) (hr : Room k X.A) (hg : Gl X x) (ha : SA X (e :: es) fa)
    (hn : ∀ s ds s', fa s = some (ds, s') → ds.length = n) (hdb : (x == ("__debug__" : Str)) = false := by decide) (he : starEach (e :: es) X.env = (false, eval e X.env) :: starEach es X.env := by rfl) (hpl : (backTo pos (starEach es X.env)).any (·.1) = false := by rfl) :
    SB X (.Call (.Name x p) (e :: es) [] pos) (bCall F fa) := by
  obtain ⟨f, fd, ps, a, b, c, d, e⟩ := h
  exact b_call e hr hg b c d ha hn hdb he hpl
theorem b_ok0 (h : Ok X.prog X.w X.K X.mg X.base x 0 k false F) (hr : Room k X.A) (hg : Gl X x) (hdb : (x == ("__debug__" : Str)) = false := by decide) :
    SB X (.Call (.Name x p) [] [] pos) (bCall F aNil) := by
  obtain ⟨f, fd, ps, a, b, c, d, e⟩ := h
  exact b_call0 e hr hg b c d hdb
theorem b_okP (h : Ok X.prog X.w X.K X.mg X.base x n k true F) (hr : Room k X.A) (hg : Gl X x) (ha : SA X (e :: es) fa)
    (hn : ∀ s ds s', fa s = some (ds, s') → ds.length = n) (hdb : (x == ("__debug__" : Str)) = false := by decide) (he : starEach (e :: es) X.env = (false, eval e X.env) :: starEach es X.env := by rfl) (hpl : (backTo pos (starEach es X.env)).any (·.1) = false := by rfl) :
    SB X (.Call (.Name x p) (e :: es) [] pos) (bPure F fa) := by
  obtain ⟨f, fd, ps, a, b, c, d, e⟩ := h
  exact b_pure e hr hg b c d ha hn hdb he hpl
theorem s_okP (h : Ok X.prog X.w X.K X.mg X.base x n k true F) (hr : Room k X.A) (hg : Gl X x) (ha : SAm X m (e :: es) fa)
    (hn : ∀ s ds s', fa s = some (ds, s') → ds.length = n) (hdb : (x == ("__debug__" : Str)) = false := by decide) (he : starEach (e :: es) X.env = (false, eval e X.env) :: starEach es X.env := by rfl) (hpl : (backTo pos (starEach es X.env)).any (·.1) = false := by rfl) :
    SX X m (.Call (.Name x p) (e :: es) [] pos) (eL (pV F) fa) := by
  obtain ⟨f, fd, ps, a, b, c, d, e⟩ := h
  exact s_pure e hr hg b c d ha hn hdb he hpl
theorem b_okP0 (h : Ok X.prog X.w X.K X.mg X.base x 0 k true F) (hr : Room k X.A) (hg : Gl X x) (hdb : (x == ("__debug__" : Str)) = false := by decide) :
    SB X (.Call (.Name x p) [] [] pos) (bPure F aNil) := by
  obtain ⟨f, fd, ps, a, b, c, d, e⟩ := h
  exact b_pure0 e hr hg b c d hdb
end
/-! ## what the built-ins' names hold -/
theorem bt_len : bootBuiltins "len" = some (.builtin "len") := by decide +kernel
theorem bt_abs : bootBuiltins "abs" = some (.builtin "abs") := by decide +kernel
theorem bt_int : bootBuiltins "int" = some (.type "int") := by decide +kernel
theorem bt_str : bootBuiltins "str" = some (.type "str") := by decide +kernel
theorem bt_repr : bootBuiltins "repr" = some (.builtin "repr") := by decide +kernel
theorem bt_sum : bootBuiltins "sum" = some (.builtin "sum") := by decide +kernel
theorem bt_max : bootBuiltins "max" = some (.builtin "max") := by decide +kernel
theorem bt_min : bootBuiltins "min" = some (.builtin "min") := by decide +kernel
theorem bt_any : bootBuiltins "any" = some (.builtin "any") := by decide +kernel
theorem bt_all : bootBuiltins "all" = some (.builtin "all") := by decide +kernel
theorem bt_tuple : bootBuiltins "tuple" = some (.type "tuple") := by decide +kernel
theorem bt_divmod : bootBuiltins "divmod" = some (.builtin "divmod") := by decide +kernel
theorem bt_sorted : bootBuiltins "sorted" = some (.builtin "sorted") := by decide +kernel
theorem bt_list : bootBuiltins "list" = some (.type "list") := by decide +kernel
theorem bt_isinstance : bootBuiltins "isinstance" = some (.builtin "isinstance") := by decide +kernel
theorem bt_bool : bootBuiltins "bool" = some (.type "bool") := by decide +kernel
theorem bt_dict : bootBuiltins "dict" = some (.type "dict") := by decide +kernel
theorem bt_set : bootBuiltins "set" = some (.type "set") := by decide +kernel
theorem bt_float : bootBuiltins "float" = some (.type "float") := by decide +kernel
theorem room65 {k : Nat} {A : Around} (r : Room k A) : A.units + 65 < cLine := by have := r.un; omega
end Ev

namespace Ev
open PySem L2
open PySem.W (alike alikeAll dataLt AlikeAll AllAlike Sortable dataLe reads_keeps min_list_data max_list_data min_tuple_data max_tuple_data sorted_data sorted_rev_data EachIs keyToks keyToksAll)

/-! ## least, greatest, in order: of any data -/
def D.pd (d : D) : PyData := d.py.getD .none
/-- a before b -/
def dltB (a b : D) : Bool := dataLt a.pd b.pd
/-- all can be held against one another -/
def okD (xs : List D) : Bool := match D.pys xs with
  | some ps => (ps.all fun p => (ps.all fun q => alike p q) && !(alike p .none)) && decide (PyData.depthAll ps ≤ 50)
  | none => false
def minF (x : D) (xs : List D) : D := xs.foldl (fun a y => if dltB y a then y else a) x
def maxF (x : D) (xs : List D) : D := xs.foldl (fun a y => if dltB a y then y else a) x
def bMinD : List D → Option D
  | [.int i, .int j] => some (.int (if j < i then j else i))
  | [.lst (x :: xs)] => if okD (x :: xs) = true then some (minF x xs) else none
  | [.tup (x :: xs)] => if okD (x :: xs) = true then some (minF x xs) else none
  | _ => none
def bMaxD : List D → Option D
  | [.int i, .int j] => some (.int (if j > i then j else i))
  | [.lst (x :: xs)] => if okD (x :: xs) = true then some (maxF x xs) else none
  | [.tup (x :: xs)] => if okD (x :: xs) = true then some (maxF x xs) else none
  | _ => none
mutual
theorem D.py_inj : ∀ (a b : D) (p : PyData), a.py = some p → b.py = some p → a = b
  | .non, b, p, h, h' => by cases h; cases b <;> simp [D.py] at h'; rfl
  | .bl c, b, p, h, h' => by cases h; cases b <;> simp [D.py] at h'; rw [h']
  | .int c, b, p, h, h' => by cases h; cases b <;> simp [D.py] at h'; rw [h']
  | .str c, b, p, h, h' => by cases h; cases b <;> simp [D.py] at h'; rw [h']
  | .lst xs, b, p, h, h' => by
    obtain ⟨ps, e, rfl⟩ := Option.map_eq_some_iff.mp h
    cases b <;> simp [D.py] at h'
    rw [D.pys_inj xs _ ps e h']
  | .tup xs, b, p, h, h' => by
    obtain ⟨ps, e, rfl⟩ := Option.map_eq_some_iff.mp h
    cases b <;> simp [D.py] at h'
    rw [D.pys_inj xs _ ps e h']
  | .obj _, _, _, h, _ => by cases h
  | .dic _ _, _, _, h, _ => by cases h
  | .set _, _, _, h, _ => by cases h
  | .scr _, _, _, h, _ => by cases h
theorem D.pys_inj : ∀ (xs ys : List D) (ps : List PyData), D.pys xs = some ps → D.pys ys = some ps → xs = ys
  | [], [], _, _, _ => rfl
  | [], y :: ys, ps, h, h' => by
    cases h
    simp only [D.pys] at h'
    split at h' <;> cases h'
  | x :: xs, [], ps, h, h' => by
    cases h'
    simp only [D.pys] at h
    split at h <;> cases h
  | x :: xs, y :: ys, ps, h, h' => by
    simp only [D.pys] at h h'
    split at h
    · rename_i p qs e1 e2
      cases h
      split at h'
      · rename_i p' qs' e3 e4
        cases h'
        rw [D.py_inj x y p e1 e3, D.pys_inj xs ys qs e2 e4]
      · cases h'
    · cases h
end
theorem pys_cons {x : D} {xs : List D} {ps : List PyData} (h : D.pys (x :: xs) = some ps) : ∃ p qs, ps = p :: qs ∧ x.py = some p ∧ D.pys xs = some qs := by
  simp only [D.pys] at h
  split at h
  · cases h; exact ⟨_, _, rfl, ‹_›, ‹_›⟩
  · cases h
theorem pys_get : ∀ {xs : List D} {ps : List PyData}, D.pys xs = some ps → ∀ (i : Nat) (d : D), xs[i]? = some d → ∃ p, ps[i]? = some p ∧ d.py = some p
  | [], _, _, i, d, e => by simp at e
  | x :: xs, ps, h, i, d, e => by
    obtain ⟨p, qs, rfl, h1, h2⟩ := pys_cons h
    cases i with
    | zero => simp at e; subst e; exact ⟨p, rfl, h1⟩
    | succ i =>
      obtain ⟨q, a, b⟩ := pys_get h2 i d (by simpa using e)
      exact ⟨q, by simpa using a, b⟩
theorem py_pd {d : D} {p : PyData} (h : d.py = some p) : d.pd = p := by unfold D.pd; rw [h]; rfl
theorem fold_py (f : PyData → PyData → Bool) : ∀ {xs : List D} {ps : List PyData} {x : D} {p : PyData}, D.pys xs = some ps → x.py = some p →
    (xs.foldl (fun a y => if f y.pd a.pd then y else a) x).py = some (ps.foldl (fun a y => if f y a then y else a) p)
  | [], ps, x, p, h, h' => by cases h; exact h'
  | y :: ys, ps, x, p, h, h' => by
    obtain ⟨q, qs, rfl, h1, h2⟩ := pys_cons h
    rw [List.foldl_cons, List.foldl_cons, py_pd h1, py_pd h']
    by_cases c : f q p = true
    · rw [if_pos c, if_pos c]; exact fold_py f h2 h1
    · rw [if_neg c, if_neg c]; exact fold_py f h2 h'
theorem fold_mem (f : D → D → Bool) : ∀ (xs : List D) (x : D), xs.foldl (fun a y => if f a y then y else a) x ∈ x :: xs
  | [], x => by simp
  | y :: ys, x => by
    rw [List.foldl_cons]
    by_cases c : f x y = true
    · rw [if_pos c]; exact List.mem_cons_of_mem _ (fold_mem f ys y)
    · rw [if_neg c]
      rcases List.mem_cons.mp (fold_mem f ys x) with e | e
      · rw [e]; exact List.mem_cons_self ..
      · exact List.mem_cons_of_mem _ (List.mem_cons_of_mem _ e)
theorem okD_inv {xs : List D} (h : okD xs = true) : ∃ ps, D.pys xs = some ps ∧ AlikeAll ps ∧ PyData.depthAll ps ≤ 50 := by
  unfold okD at h
  split at h
  · rename_i ps e
    rw [Bool.and_eq_true, decide_eq_true_eq, List.all_eq_true] at h
    refine ⟨ps, e, ⟨fun x hx y hy => ?_, fun x hx ex => ?_⟩, h.2⟩
    · have := h.1 x hx
      rw [Bool.and_eq_true, List.all_eq_true] at this
      exact this.1 y hy
    · have := h.1 x hx
      rw [Bool.and_eq_true] at this
      have h0 : alike .none .none = true := by rw [alike]
      rw [ex, h0] at this
      exact absurd this.2 (by decide)
  · cases h
section
variable {X : Cx}
theorem vals_get : ∀ {vs : List V} {us : List Value} {i : Nat} {u : Value}, Vals vs us → us[i]? = some u → ∃ v, vs[i]? = some v ∧ RelV v u
  | _, _, 0, u, .cons r t, e => by simp at e; subst e; exact ⟨_, rfl, r⟩
  | _, _, i + 1, u, .cons r t, e => by
    obtain ⟨v, a, b⟩ := vals_get (i := i) t (by simpa using e)
    exact ⟨v, by simpa using a, b⟩
  | _, _, _, _, .nil, e => by simp at e
/-- the item that the walk hands back -/
theorem best_item {pins : List (Addr × Obj)} {σ : St} {H : Hp} {s : Shared} {R : Hp} {L : List Addr} (I : L2.Inv X pins σ H s) (sub : Same R H) {vs : List V} {its : List Value} {xs : List D} {ps : List PyData} (rv : Vals vs its) (hr : Reps X.K R L vs xs) (hp : D.pys xs = some ps)
    {i : Nat} {u : Value} {h' : Heap} {tk : Nat} {bs : List Addr} {b : D} {pb : PyData} (hu : its[i]? = some u) (hk : ∀ b o, s.heap.get? b = some o → h'.get? b = some o) (r : Reads h' u pb bs) (hb : b.py = some pb) :
    ∃ v, RelV v u ∧ Rep X.K R L v b := by
  obtain ⟨v, hv, rel⟩ := vals_get rv hu
  have hi : i < xs.length := by
    have := (List.getElem?_eq_some_iff.mp hv).1
    rw [hr.length] at this; exact this
  obtain ⟨v', hv', rep⟩ := hr.get (List.getElem?_eq_getElem hi)
  rw [hv] at hv'
  cases hv'
  obtain ⟨p, h1, h2⟩ := pys_get hp i _ (List.getElem?_eq_getElem hi)
  obtain ⟨as, r2⟩ := Dp.reads I p v u (Rep.dp sub _ _ _ rep h2) rel
  have r3 : Reads h' u p as := reads_keeps hk r2
  have e := (Reads.unique r3 _ _ r).1
  subst e
  rw [D.py_inj b _ _ hb h2]
  exact ⟨v, rel, rep⟩
theorem c_minD (hc : X.calm = true) (hu : X.A.units + 64 < cLine) : CallR X (.builtin "min") (GL X.K bMinD) := by
  intro pins s σ H xs us Q I r ⟨R, L, ds, d, sub, hr, e, q⟩
  unfold bMinD at e
  split at e
  · rename_i i j
    cases e
    obtain ⟨v, w, rfl, hv, hw⟩ := reps2 hr
    cases hv; cases hw
    exact call_min2 hc pins s σ H _ us Q I r ⟨i, j, rfl, q.now sub (.int _)⟩
  · rename_i x ys
    split at e
    · rename_i hok
      cases e
      obtain ⟨v, rfl, hv⟩ := reps1 hr
      obtain ⟨ps, hp, al, dp⟩ := okD_inv hok
      obtain ⟨p, qs, rfl, h1, h2⟩ := pys_cons hp
      cases hv with
      | @lst a vs _ hs hrs =>
        obtain ⟨its, rv, hl, _⟩ := I.list (rd_seq hs sub)
        rw [Vals.ref1 r]
        obtain ⟨as, hra⟩ := Dp.readsAll I _ _ its (Reps.dp sub _ _ _ hrs hp) rv
        refine min_list_data (vs := its.toArray) (I.ok.hd hc) hl.isList (by simpa using hra) al (by omega) fun i u h' tk bs hv' hrd hk => ?_
        obtain ⟨v, rel, rep⟩ := best_item I sub rv hrs hp (tk := tk) (b := minF x ys) (by simpa using hv') hk hrd (fold_py (fun a b => dataLt a b) h2 h1)
        exact ⟨v, H, I.kept hk, rel, q.now sub rep⟩
    · cases e
  · rename_i x ys
    split at e
    · rename_i hok
      cases e
      obtain ⟨v, rfl, hv⟩ := reps1 hr
      obtain ⟨ps, hp, al, dp⟩ := okD_inv hok
      obtain ⟨p, qs, rfl, h1, h2⟩ := pys_cons hp
      cases hv with
      | @tup a vs _ hs hrs =>
        obtain ⟨its, rv, hl, _⟩ := I.tuple (sqT_mono sub hs)
        rw [Vals.ref1 r]
        obtain ⟨as, hra⟩ := Dp.readsAll I _ _ its (Reps.dp sub _ _ _ hrs hp) rv
        refine min_tuple_data (vs := its.toArray) (I.ok.hd hc) hl (by simpa using hra) al (by omega) fun i u h' tk bs hv' hrd hk => ?_
        obtain ⟨v, rel, rep⟩ := best_item I sub rv hrs hp (tk := tk) (b := minF x ys) (by simpa using hv') hk hrd (fold_py (fun a b => dataLt a b) h2 h1)
        exact ⟨v, H, I.kept hk, rel, q.now sub rep⟩
    · cases e
  · cases e
theorem c_maxD (hc : X.calm = true) (hu : X.A.units + 64 < cLine) : CallR X (.builtin "max") (GL X.K bMaxD) := by
  intro pins s σ H xs us Q I r ⟨R, L, ds, d, sub, hr, e, q⟩
  unfold bMaxD at e
  split at e
  · rename_i i j
    cases e
    obtain ⟨v, w, rfl, hv, hw⟩ := reps2 hr
    cases hv; cases hw
    exact call_max2 hc pins s σ H _ us Q I r ⟨i, j, rfl, q.now sub (.int _)⟩
  · rename_i x ys
    split at e
    · rename_i hok
      cases e
      obtain ⟨v, rfl, hv⟩ := reps1 hr
      obtain ⟨ps, hp, al, dp⟩ := okD_inv hok
      obtain ⟨p, qs, rfl, h1, h2⟩ := pys_cons hp
      cases hv with
      | @lst a vs _ hs hrs =>
        obtain ⟨its, rv, hl, _⟩ := I.list (rd_seq hs sub)
        rw [Vals.ref1 r]
        obtain ⟨as, hra⟩ := Dp.readsAll I _ _ its (Reps.dp sub _ _ _ hrs hp) rv
        refine max_list_data (vs := its.toArray) (I.ok.hd hc) hl.isList (by simpa using hra) al (by omega) fun i u h' tk bs hv' hrd hk => ?_
        obtain ⟨v, rel, rep⟩ := best_item I sub rv hrs hp (tk := tk) (b := maxF x ys) (by simpa using hv') hk hrd (fold_py (fun a b => dataLt b a) h2 h1)
        exact ⟨v, H, I.kept hk, rel, q.now sub rep⟩
    · cases e
  · rename_i x ys
    split at e
    · rename_i hok
      cases e
      obtain ⟨v, rfl, hv⟩ := reps1 hr
      obtain ⟨ps, hp, al, dp⟩ := okD_inv hok
      obtain ⟨p, qs, rfl, h1, h2⟩ := pys_cons hp
      cases hv with
      | @tup a vs _ hs hrs =>
        obtain ⟨its, rv, hl, _⟩ := I.tuple (sqT_mono sub hs)
        rw [Vals.ref1 r]
        obtain ⟨as, hra⟩ := Dp.readsAll I _ _ its (Reps.dp sub _ _ _ hrs hp) rv
        refine max_tuple_data (vs := its.toArray) (I.ok.hd hc) hl (by simpa using hra) al (by omega) fun i u h' tk bs hv' hrd hk => ?_
        obtain ⟨v, rel, rep⟩ := best_item I sub rv hrs hp (tk := tk) (b := maxF x ys) (by simpa using hv') hk hrd (fold_py (fun a b => dataLt b a) h2 h1)
        exact ⟨v, H, I.kept hk, rel, q.now sub rep⟩
    · cases e
  · cases e
/-! ### sorted -/
def okS (xs : List D) : Bool := match D.pys xs with
  | some ps => (ps.all fun p => ps.all fun q => alike p q) && decide (PyData.depthAll ps ≤ 50) && ((ps.all fun p => match p with | .tuple (_ :: _) => true | _ => false) || ps.all fun p => match p with | .none => false | .tuple _ => false | _ => true)
  | none => false
def sortD (rev : Bool) (xs : List D) : List D := xs.mergeSort (dataLe rev D.pd)
def bSortD (rev : Bool) : List D → Option (List D)
  | [.lst xs] => if okS xs = true ∧ xs.length ≤ sizeLine then some (sortD rev xs) else none
  | _ => none
theorem depth_mem : ∀ {ps : List PyData} {p : PyData}, p ∈ ps → p.depth ≤ PyData.depthAll ps
  | q :: qs, p, h => by
    rcases List.mem_cons.mp h with rfl | h
    · exact Nat.le_max_left _ _
    · exact Nat.le_trans (depth_mem h) (Nat.le_max_right _ _)
theorem pys_map : ∀ {xs : List D} {ps : List PyData}, D.pys xs = some ps → xs.map D.pd = ps
  | [], _, h => by cases h; rfl
  | x :: xs, ps, h => by
    obtain ⟨p, qs, rfl, h1, h2⟩ := pys_cons h
    rw [List.map_cons, py_pd h1, pys_map h2]
theorem okS_inv {xs : List D} (h : okS xs = true) : D.pys xs = some (xs.map D.pd) ∧ AllAlike (xs.map D.pd) ∧ PyData.depthAll (xs.map D.pd) ≤ 50 ∧ Sortable (xs.map D.pd) := by
  unfold okS at h
  split at h
  · rename_i ps e
    have em := pys_map e
    rw [em]
    rw [Bool.and_eq_true, Bool.and_eq_true, decide_eq_true_eq, Bool.or_eq_true, List.all_eq_true, List.all_eq_true, List.all_eq_true] at h
    refine ⟨e, fun x hx y hy => ?_, h.1.2, ?_⟩
    · have := h.1.1 x hx
      rw [List.all_eq_true] at this
      exact this y hy
    · rcases h.2 with h | h
      · refine .inl fun d hd => ?_
        have := h d hd
        split at this
        · exact ⟨_, _, rfl⟩
        · cases this
      · refine .inr fun d hd => ?_
        have := h d hd
        refine ⟨fun z => ?_, fun xs z => ?_⟩ <;> (rw [z] at this; cases this)
  · cases h
theorem each_of {K : PySem.W.Frag} {R : Hp} {L : List Addr} : ∀ {vs : List V} {us : List Value} {ds : List D}, Vals vs us → Reps K R L vs ds → EachIs (fun u d => ∃ v, RelV v u ∧ Rep K R L v d) us ds
  | _, _, _, .nil, h => by cases h; exact .nil
  | _, _, _, .cons r t, h => by
    cases h with
    | cons h1 h2 => exact .cons ⟨_, r, h1⟩ (each_of t h2)
theorem each_back {K : PySem.W.Frag} {R : Hp} {L : List Addr} : ∀ {us : List Value} {ds : List D}, EachIs (fun u d => ∃ v, RelV v u ∧ Rep K R L v d) us ds → ∃ vs, Vals vs us ∧ Reps K R L vs ds
  | _, _, .nil => ⟨[], .nil, .nil⟩
  | _, _, .cons ⟨v, r, h⟩ t => by
    obtain ⟨vs, a, b⟩ := each_back t
    exact ⟨v :: vs, .cons r a, .cons h b⟩
theorem each_imp {α β : Type} {R R' : α → β → Prop} : ∀ {as : List α} {bs : List β}, EachIs R as bs → (∀ a b, b ∈ bs → R a b → R' a b) → EachIs R' as bs
  | _, _, .nil, _ => .nil
  | _, _, .cons h t, i => .cons (i _ _ (List.mem_cons_self ..) h) (each_imp t fun a b hb => i a b (List.mem_cons_of_mem _ hb))
theorem pys_mem {xs : List D} {ps : List PyData} (h : D.pys xs = some ps) {d : D} (hd : d ∈ xs) : d.py = some d.pd := by
  obtain ⟨i, hi⟩ := List.getElem?_of_mem hd
  obtain ⟨p, _, e⟩ := pys_get h i d hi
  rw [py_pd e]; exact e
theorem c_sortD (hu : X.A.units + 64 < cLine) : CallR X (.builtin "sorted") (GLB X.K (bSortD false)) := by
  intro pins s σ H xs us Q I r ⟨R, L, ds, ys, sub, hr, e, q⟩
  unfold bSortD at e
  split at e
  · rename_i zs
    split at e
    · rename_i hok
      cases e
      obtain ⟨hok, hz⟩ := hok
      obtain ⟨v, rfl, hv⟩ := reps1 hr
      obtain ⟨hp, al, dp, so⟩ := okS_inv hok
      cases hv with
      | @lst a vs _ hs hrs =>
        obtain ⟨its, rv, hl, _⟩ := I.list (rd_seq hs sub)
        rw [Vals.ref1 r]
        have e0 := each_of rv hrs
        refine sorted_data (enc := D.pd) hl.isList e0 (each_imp e0 fun u d hd ⟨v, rel, rep⟩ => Dp.reads I _ v u (Rep.dp sub _ _ _ rep (pys_mem hp hd)) rel) al so hz (fun d hd => ?_) fun out ho eo => ?_
        · have := depth_mem (List.mem_map.mpr ⟨d, hd, rfl⟩ : d.pd ∈ zs.map D.pd)
          omega
        · obtain ⟨ws, rw', rr⟩ := each_back eo
          obtain ⟨ep, he'⟩ := PyProof.Rows.sortedAll_at s.heap its out.toArray
          have hlen : ws.length ≤ sizeLine := by rw [rr.length, List.length_mergeSort]; exact hz
          exact ⟨.ref _, upd H (s.heap.objs.size + 1) (.lst ws), I.laid (t' := s.toks) (fun _ _ => PyProof.Rows.sortedAll_old) (Nat.le_succ _) ⟨hlen, out, ep, rw', he'⟩, rfl, q _ ws R H (Ext.refl sub) (I.hok.fresh (Nat.le_succ _)) rr⟩
    · cases e
  · cases e
end
end Ev

namespace Ev
open PySem L2

/-! ## reckoning with the terms -/
class Kt (α β : Type) where
  f : α → Option β
/-- first o, then what follows (set apart, so that it is not looked at ahead of its time) -/
def bnd {α β : Type} (o : Option α) [k : Kt α β] : Option β := o.bind k.f
theorem bnd_some {α β : Type} {a : α} {k : α → Option β} : @bnd α β (some a) ⟨k⟩ = k a := rfl
theorem bnd_none {α β : Type} {k : α → Option β} : @bnd α β none ⟨k⟩ = none := rfl
theorem bnd_ite {α β : Type} {c : Prop} [Decidable c] {a b : Option α} {k : α → Option β} : @bnd α β (if c then a else b) ⟨k⟩ = if c then @bnd α β a ⟨k⟩ else @bnd α β b ⟨k⟩ := by split <;> rfl
theorem map_bnd {α β : Type} {o : Option α} {g : α → β} : o.map g = @bnd _ _ o ⟨fun a => some (g a)⟩ := by cases o <;> rfl
theorem bnd_inv {α β : Type} {o : Option α} {k : α → Option β} {b : β} (h : @bnd _ _ o ⟨k⟩ = some b) : ∃ a, o = some a ∧ k a = some b := Option.bind_eq_some_iff.mp h
section
variable {s : Sta} {d : D} {b : B} {i j n : Nat}
def eVk : Option (Option B) → Nat → Sta → Option (D × Sta)
  | some (some (.v d)), _, s => some (d, s)
  | some (some (.o xs)), i, s => some ((B.o xs).frz, s.put i (some (.v (B.o xs).frz)))
  | _, _, _ => none
def eWk : Option (Option B) → Sta → Option (D × Sta)
  | some (some b), s => some (b.frz, s)
  | _, _ => none
theorem eV_q : eV i s = eVk s.env[i]? i s := by
  unfold eV eVk
  rcases s.env[i]? with _ | _ | _ | _ <;> rfl
theorem eVk_v : eVk (some (some (.v d))) i s = some (d, s) := rfl
theorem eVk_o {xs : List B} : eVk (some (some (.o xs))) i s = some ((B.o xs).frz, s.put i (some (.v (B.o xs).frz))) := rfl
theorem eW_q : eW i s = eWk s.env[i]? s := by
  unfold eW eWk
  rcases s.env[i]? with _ | _ | _ <;> rfl
theorem eWk_b : eWk (some (some b)) s = some (b.frz, s) := rfl
theorem frz_v : (B.v d).frz = d := rfl
theorem frz_o {xs : List B} : (B.o xs).frz = .lst (B.frzs xs) := rfl
theorem frzs_nil : B.frzs [] = [] := rfl
theorem frzs_cons {xs : List B} : B.frzs (b :: xs) = b.frz :: B.frzs xs := rfl
theorem eC_q : eC d s = some (d, s) := rfl
variable {f g h : EvE} {tf tg : EvT} {fa ga : EvA} {fb : EvB} {sf sg : EvS} {fp : EvP} {pu : Bool}
theorem e1_q {r : D → Option D} : e1 r f s = @bnd _ _ (f s) ⟨fun p => @bnd _ _ (r p.1) ⟨fun d => some (d, p.2)⟩⟩ := by
  show (f s).bind (fun p => (r p.1).map fun d => (d, p.2)) = _
  simp only [map_bnd]; rfl
theorem e2_q {r : D → D → Option D} : e2 r f g s = @bnd _ _ (f s) ⟨fun p => @bnd _ _ (g p.2) ⟨fun q => @bnd _ _ (r p.1 q.1) ⟨fun d => some (d, q.2)⟩⟩⟩ := by
  show (f s).bind (fun p => (g p.2).bind fun q => (r p.1 q.1).map fun d => (d, q.2)) = _
  simp only [map_bnd]; rfl
def e3k (r' : D → D → Option D) (y : D) (h : EvE) (s : Sta) : D → Option (D × Sta)
  | .bl true => @bnd _ _ (h s) ⟨fun t => @bnd _ _ (r' y t.1) ⟨fun d => some (d, t.2)⟩⟩
  | .bl false => some (.bl false, s)
  | _ => none
theorem e3_q {r r' : D → D → Option D} : e3 r r' f g h s = @bnd _ _ (f s) ⟨fun p => @bnd _ _ (g p.2) ⟨fun q => @bnd _ _ (r p.1 q.1) ⟨fun c => e3k r' q.1 h q.2 c⟩⟩⟩ := by
  unfold e3 bnd
  cases f s with
  | none => rfl
  | some p =>
    show (g p.2).bind _ = (g p.2).bind _
    cases g p.2 with
    | none => rfl
    | some q =>
      show (r p.1 q.1).bind _ = (r p.1 q.1).bind _
      cases r p.1 q.1 with
      | none => rfl
      | some c =>
        cases c with
        | bl c =>
          cases c with
          | false => rfl
          | true =>
            show (h q.2).bind _ = (h q.2).bind _
            cases h q.2 with
            | none => rfl
            | some t => show (r' q.1 t.1).map _ = _; rw [map_bnd]; rfl
        | _ => rfl
theorem e3k_b {r' : D → D → Option D} {y : D} {c : Bool} : e3k r' y h s (.bl c) = if c = true then @bnd _ _ (h s) ⟨fun t => @bnd _ _ (r' y t.1) ⟨fun d => some (d, t.2)⟩⟩ else some (.bl false, s) := by cases c <;> rfl
theorem eT_q : eT f s = @bnd _ _ (f s) ⟨fun p => @bnd _ _ (dTru p.1) ⟨fun c => some (c, p.2)⟩⟩ := by
  show (f s).bind (fun p => (dTru p.1).map fun c => (c, p.2)) = _
  simp only [map_bnd]; rfl
def eTbk : D → Sta → Option (Bool × Sta)
  | .bl c, s => some (c, s)
  | _, _ => none
theorem eTb_q : eTb f s = @bnd _ _ (f s) ⟨fun p => eTbk p.1 p.2⟩ := by
  unfold eTb bnd; cases f s with
  | none => rfl
  | some p => obtain ⟨d, s⟩ := p; cases d <;> rfl
theorem eTbk_b {c : Bool} : eTbk (.bl c) s = some (c, s) := rfl
theorem wAnd_q : wAnd tf tg s = @bnd _ _ (tf s) ⟨fun p => if p.1 = true then tg p.2 else some (false, p.2)⟩ := rfl
theorem wOr_q : wOr tf tg s = @bnd _ _ (tf s) ⟨fun p => if p.1 = true then some (true, p.2) else tg p.2⟩ := rfl
theorem wNot_q : wNot tf s = @bnd _ _ (tf s) ⟨fun p => some (!p.1, p.2)⟩ := rfl
theorem eAnd_q : eAnd f g s = @bnd _ _ (f s) ⟨fun p => @bnd _ _ (dTru p.1) ⟨fun c => if c = true then g p.2 else some (p.1, p.2)⟩⟩ := rfl
theorem eOr_q : eOr f g s = @bnd _ _ (f s) ⟨fun p => @bnd _ _ (dTru p.1) ⟨fun c => if c = true then some (p.1, p.2) else g p.2⟩⟩ := rfl
theorem eNot_q : eNot f s = @bnd _ _ (f s) ⟨fun p => @bnd _ _ (dTru p.1) ⟨fun c => some (.bl (!c), p.2)⟩⟩ := by
  show (f s).bind (fun p => (dTru p.1).map fun c => (D.bl (!c), p.2)) = _
  simp only [map_bnd]; rfl
theorem eIf_q : eIf tf f g s = @bnd _ _ (tf s) ⟨fun p => if p.1 = true then f p.2 else g p.2⟩ := rfl
theorem eP_q : eP f s = @bnd _ _ (f s) ⟨fun p => if p.1.plain = true then some p else none⟩ := rfl
theorem aNil_q : aNil s = some ([], s) := rfl
theorem aCons_q : aCons f fa s = @bnd _ _ (f s) ⟨fun p => @bnd _ _ (fa p.2) ⟨fun q => some (p.1 :: q.1, q.2)⟩⟩ := rfl
theorem eL_q {r : List D → Option D} : eL r fa s = @bnd _ _ (fa s) ⟨fun p => @bnd _ _ (r p.1) ⟨fun d => some (d, p.2)⟩⟩ := by
  show (fa s).bind (fun p => (r p.1).map fun d => (d, p.2)) = _
  simp only [map_bnd]; rfl
theorem eFz_q : eFz fb s = @bnd _ _ (fb s) ⟨fun p => some (p.1.frz, p.2)⟩ := rfl
theorem bLst_q : bLst fa s = @bnd _ _ (fa s) ⟨fun p => if p.1.length ≤ sizeLine then some (.o (p.1.map .v), p.2) else none⟩ := rfl
theorem bL_q {r : List D → Option (List D)} : bL r fa s = @bnd _ _ (fa s) ⟨fun p => @bnd _ _ (r p.1) ⟨fun xs => some (.o (xs.map .v), p.2)⟩⟩ := rfl
theorem b2_q {r : D → D → Option (List D)} : b2 r f g s = @bnd _ _ (f s) ⟨fun p => @bnd _ _ (g p.2) ⟨fun q => @bnd _ _ (r p.1 q.1) ⟨fun xs => some (.o (xs.map .v), q.2)⟩⟩⟩ := rfl
theorem bCall_q {F : Fn} : bCall F fa s = @bnd _ _ (fa s) ⟨fun p => if p.2.pu = false then @bnd _ _ (F false p.1 p.2.st) ⟨fun q => some (q.1, ⟨p.2.env, q.2, p.2.pu⟩)⟩ else none⟩ := rfl
theorem bPure_q {F : Fn} : bPure F fa s = @bnd _ _ (fa s) ⟨fun p => @bnd _ _ (pF F p.1) ⟨fun b => some (b, p.2)⟩⟩ := rfl
theorem pV_q {F : Fn} {ds : List D} : pV F ds = @bnd _ _ (pF F ds) ⟨fun b => some b.frz⟩ := by
  show (pF F ds).map _ = _
  rw [map_bnd]
theorem pF_q {F : Fn} {ds : List D} : pF F ds = @bnd _ _ (F true ds []) ⟨fun p => some p.1⟩ := by
  show (F true ds []).map _ = _
  rw [map_bnd]
theorem pF_ok {F : Fn} {ds : List D} {S : Sto} (h : F true ds [] = some (b, S)) : pF F ds = some b := by rw [pF_q, h]; rfl
theorem pV_ok {F : Fn} {ds : List D} (h : pF F ds = some b) : pV F ds = some b.frz := by rw [pV_q, h]; rfl
/-! statements -/
def seqK : Out × Sta → EvS → Option (Out × Sta)
  | (.nx, s), g => g s
  | (o, s), _ => some (o, s)
theorem sSeq_q : sSeq sf sg s = @bnd _ _ (sf s) ⟨fun p => seqK p sg⟩ := by
  unfold sSeq bnd; cases sf s with
  | none => rfl
  | some p => obtain ⟨o, s⟩ := p; cases o <;> rfl
theorem seqK_nx : seqK (.nx, s) sg = sg s := rfl
theorem seqK_rt : seqK (.rt b, s) sg = some (.rt b, s) := rfl
theorem seqK_bk : seqK (.bk, s) sg = some (.bk, s) := rfl
theorem seqK_ct : seqK (.ct, s) sg = some (.ct, s) := rfl
theorem sIf_q : sIf tf sf sg s = @bnd _ _ (tf s) ⟨fun p => if p.1 = true then sf p.2 else sg p.2⟩ := rfl
theorem sNil_q : sNil s = some (.nx, s) := rfl
theorem sBk_q : sBk s = some (.bk, s) := rfl
theorem sCt_q : sCt s = some (.ct, s) := rfl
theorem sRet_q : sRet f s = @bnd _ _ (f s) ⟨fun p => some (.rt (.v p.1), p.2)⟩ := rfl
theorem sRetB_q : sRetB fb s = @bnd _ _ (fb s) ⟨fun p => some (.rt p.1, p.2)⟩ := rfl
theorem sRetN_q : sRetN s = some (.rt (.v .non), s) := rfl
def rvK : Option (Option B) → Nat → Sta → Option (Out × Sta)
  | some (some b), i, s => some (.rt b, s.put i none)
  | _, _, _ => none
theorem sRetV_q : sRetV i s = rvK s.env[i]? i s := by
  unfold sRetV rvK
  rcases s.env[i]? with _ | _ | _ <;> rfl
theorem rvK_b : rvK (some (some b)) i s = some (.rt b, s.put i none) := rfl
theorem sExp_q : sExp f s = @bnd _ _ (f s) ⟨fun p => some (.nx, p.2)⟩ := rfl
theorem sSet_q : sSet i f s = @bnd _ _ (f s) ⟨fun p => some (.nx, p.2.put i (some (.v p.1)))⟩ := rfl
theorem sSetB_q : sSetB i fb s = @bnd _ _ (fb s) ⟨fun p => some (.nx, p.2.put i (some p.1))⟩ := rfl
theorem put_q {e : List (Option B)} {st : Sto} {x : Option B} : Sta.put ⟨e, st, pu⟩ i x = ⟨e.set i x, st, pu⟩ := rfl
def augK : Option (Option B) → Nat → (D → D → Option D) → EvE → Sta → Option (Out × Sta)
  | some (some (.v d)), i, g, f, s => @bnd _ _ (f s) ⟨fun p => @bnd _ _ (g d p.1) ⟨fun z => some (.nx, p.2.put i (some (.v z)))⟩⟩
  | _, _, _, _, _ => none
theorem sAug_q {r : D → D → Option D} : sAug i r f s = augK s.env[i]? i r f s := by
  unfold sAug augK
  rcases s.env[i]? with _ | _ | _ | _ <;> rfl
theorem augK_v {r : D → D → Option D} : augK (some (some (.v d))) i r f s = @bnd _ _ (f s) ⟨fun p => @bnd _ _ (r d p.1) ⟨fun z => some (.nx, p.2.put i (some (.v z)))⟩⟩ := rfl
def finK : Out × Sta → Option (B × Sto)
  | (.rt b, s) => some (b, s.st)
  | (.nx, s) => some (.v .non, s.st)
  | _ => none
theorem finK_rt : finK (.rt b, s) = some (b, s.st) := rfl
theorem finK_nx : finK (.nx, s) = some (.v .non, s.st) := rfl
theorem fnF_q {m : Nat} {ds : List D} {S : Sto} (hl : ds.length = n) : fnF n m sf pu ds S = @bnd _ _ (sf ⟨ds.map (fun d => some (.v d)) ++ List.replicate (m - n) none, S, pu⟩) ⟨finK⟩ := by
  unfold fnF bnd
  rw [if_pos hl]
  cases sf _ with
  | none => rfl
  | some p => obtain ⟨o, s⟩ := p; cases o <;> rfl
/-! targets, loops -/
theorem gN_q : gN i d s = some (s.put i (some (.v d))) := rfl
theorem gsNil_q : gsNil [] s = some s := rfl
theorem gsCons_q {eh : EvG} {k : List D → Sta → Option Sta} {ds : List D} : gsCons eh k (d :: ds) s = @bnd _ _ (eh d s) ⟨fun s1 => k ds s1⟩ := rfl
theorem gT_q {k : List D → Sta → Option Sta} {ds : List D} : gT n k (.tup ds) s = if ds.length = n then k ds s else none := rfl
theorem sAsg_q {eh : EvG} : sAsg eh f s = @bnd _ _ (f s) ⟨fun p => @bnd _ _ (eh p.1 p.2) ⟨fun s1 => some (.nx, s1)⟩⟩ := rfl
theorem iV_q : iV f s = @bnd _ _ (f s) ⟨fun p => @bnd _ _ (items p.1) ⟨fun xs => some (xs, p.2)⟩⟩ := rfl
theorem iA_q {r : List D → Option (List D)} : iA r fa s = @bnd _ _ (fa s) ⟨fun p => @bnd _ _ (r p.1) ⟨fun xs => some (xs, p.2)⟩⟩ := rfl
theorem items_lst {xs : List D} : items (.lst xs) = some xs := rfl
theorem items_tup {xs : List D} : items (.tup xs) = some xs := rfl
theorem sFor_q {eh : EvG} : sFor fa eh sf s = @bnd _ _ (fa s) ⟨fun p => forL eh sf p.1 p.2⟩ := rfl
def forK : Out × Sta → EvG → EvS → List D → Option (Out × Sta)
  | (.nx, s), h, f, ds => forL h f ds s
  | (.ct, s), h, f, ds => forL h f ds s
  | (.bk, s), _, _, _ => some (.nx, s)
  | (.rt b, s), _, _, _ => some (.rt b, s)
theorem forL_nil {eh : EvG} : forL eh sf [] s = some (.nx, s) := rfl
theorem forL_cons {eh : EvG} {ds : List D} : forL eh sf (d :: ds) s = @bnd _ _ (eh d s) ⟨fun s1 => @bnd _ _ (sf s1) ⟨fun q => forK q eh sf ds⟩⟩ := by
  show (eh d s).bind _ = _
  unfold bnd
  cases eh d s with
  | none => rfl
  | some s1 =>
    show (sf s1).bind _ = (sf s1).bind _
    cases sf s1 with
    | none => rfl
    | some p => obtain ⟨o, s⟩ := p; cases o <;> rfl
theorem forK_nx {eh : EvG} {ds : List D} : forK (.nx, s) eh sf ds = forL eh sf ds s := rfl
theorem forK_ct {eh : EvG} {ds : List D} : forK (.ct, s) eh sf ds = forL eh sf ds s := rfl
theorem forK_bk {eh : EvG} {ds : List D} : forK (.bk, s) eh sf ds = some (.nx, s) := rfl
theorem forK_rt {eh : EvG} {ds : List D} : forK (.rt b, s) eh sf ds = some (.rt b, s) := rfl
def whK : Out × Sta → EvT → EvS → Nat → Option (Out × Sta)
  | (.nx, s), c, f, n => whileN c f n s
  | (.ct, s), c, f, n => whileN c f n s
  | (.bk, s), _, _, _ => some (.nx, s)
  | (.rt b, s), _, _, _ => some (.rt b, s)
theorem whileN_q : whileN tf sf (n + 1) s = @bnd _ _ (tf s) ⟨fun p => if p.1 = true then @bnd _ _ (sf p.2) ⟨fun q => whK q tf sf n⟩ else some (.nx, p.2)⟩ := by
  show (tf s).bind _ = _
  unfold bnd
  cases tf s with
  | none => rfl
  | some p =>
    obtain ⟨c, s1⟩ := p
    cases c with
    | false => rfl
    | true =>
      show (sf s1).bind _ = (sf s1).bind _
      cases sf s1 with
      | none => rfl
      | some p => obtain ⟨o, s⟩ := p; cases o <;> rfl
theorem whK_nx : whK (.nx, s) tf sf n = whileN tf sf n s := rfl
theorem whK_ct : whK (.ct, s) tf sf n = whileN tf sf n s := rfl
theorem whK_bk : whK (.bk, s) tf sf n = some (.nx, s) := rfl
theorem whK_rt : whK (.rt b, s) tf sf n = some (.rt b, s) := rfl
theorem bLc_q {own : List Nat} {eh : EvG} : bLc own fa eh tf f s = @bnd _ _ (fa s) ⟨fun p => if p.1.length ≤ sizeLine then @bnd _ _ (lcL own eh tf f p.1 (wipeE p.2 own)) ⟨fun r => some (.o (r.1.map .v), r.2)⟩ else none⟩ := rfl
theorem tYes_q : tYes' s = some (true, s) := rfl
theorem wipeE_nil : wipeE s [] = s := rfl
theorem wipeE_cons {own : List Nat} : wipeE s (i :: own) = (wipeE s own).put i none := rfl
/-! changes -/
theorem pN_q : pN i s = @bnd _ _ (own? i [] s) ⟨fun _ => some ([], s)⟩ := rfl
def ownK : Option (Option B) → List Nat → Option (List B)
  | some (some b), p => match b.get p with
    | some (.o xs) => some xs
    | _ => none
  | _, _ => none
theorem own_q {p : List Nat} : own? i p s = ownK s.env[i]? p := by
  unfold own? ownK
  rcases s.env[i]? with _ | _ | _ <;> rfl
theorem ownK_o {xs : List B} : ownK (some (some (.o xs))) [] = some xs := rfl
theorem ownK_1 {xs ys : List B} (h : xs[j]? = some (.o ys)) : ownK (some (some (.o xs))) [j] = some ys := by
  show (match (xs[j]?).bind (B.get []) with | some (.o xs) => some xs | _ => none) = _
  rw [h]; rfl
def mutK : Option (Option B) → Nat → List Nat → List B → Sta → Sta
  | some (some b), i, p, xs, s => s.put i (some (B.put (.o xs) p b))
  | _, _, _, _, s => s
theorem mutS_q {p : List Nat} {xs : List B} : mutS i p xs s = mutK s.env[i]? i p xs s := by
  unfold mutS mutK
  rcases s.env[i]? with _ | _ | _ <;> rfl
theorem mutK_o {xs : List B} : mutK (some (some b)) i [] xs s = s.put i (some (.o xs)) := rfl
theorem mutK_b {xs : List B} {p : List Nat} : mutK (some (some b)) i p xs s = s.put i (some (B.put (.o xs) p b)) := rfl
theorem mApp_q : mApp i fp f s = @bnd _ _ (fp s) ⟨fun p => @bnd _ _ (own? i p.1 p.2) ⟨fun _ => @bnd _ _ (f p.2) ⟨fun q => @bnd _ _ (own? i p.1 q.2) ⟨fun xs => if xs.length < sizeLine then some (.non, mutS i p.1 (xs ++ [.v q.1]) q.2) else none⟩⟩⟩⟩ := rfl
theorem mAppB_q : mAppB i fp fb s = @bnd _ _ (fp s) ⟨fun p => @bnd _ _ (own? i p.1 p.2) ⟨fun _ => @bnd _ _ (fb p.2) ⟨fun q => @bnd _ _ (own? i p.1 q.2) ⟨fun xs => if xs.length < sizeLine then some (.non, mutS i p.1 (xs ++ [q.1]) q.2) else none⟩⟩⟩⟩ := rfl
def popK (i : Nat) (p : List Nat) (xs : List B) (s : Sta) : Option B → Option (D × Sta)
  | some (.v d) => some (d, mutS i p xs.dropLast s)
  | _ => none
theorem mPop_q : mPop i fp s = @bnd _ _ (fp s) ⟨fun p => @bnd _ _ (own? i p.1 p.2) ⟨fun xs => popK i p.1 xs p.2 xs[xs.length - 1]?⟩⟩ := by
  unfold mPop bnd
  cases fp s with
  | none => rfl
  | some p =>
    show (own? i p.1 p.2).bind _ = (own? i p.1 p.2).bind _
    cases own? i p.1 p.2 with
    | none => rfl
    | some xs =>
      show (match xs[xs.length - 1]? with | some (.v d) => some (d, mutS i p.1 xs.dropLast p.2) | _ => none) = popK i p.1 xs p.2 xs[xs.length - 1]?
      rcases xs[xs.length - 1]? with _ | _ | _ <;> rfl
theorem popK_v {p : List Nat} {xs : List B} : popK i p xs s (some (.v d)) = some (d, mutS i p xs.dropLast s) := rfl
def setK (i : Nat) (p : List Nat) (xs : List B) (v : D) (s : Sta) : D → Option (Out × Sta)
  | .int k => @bnd _ _ (ixN xs.length k) ⟨fun j => some (.nx, mutS i p (xs.set j (.v v)) s)⟩
  | _ => none
theorem sSetIx_q : sSetIx i fp f g s = @bnd _ _ (g s) ⟨fun r => @bnd _ _ (fp r.2) ⟨fun p => @bnd _ _ (own? i p.1 p.2) ⟨fun _ => @bnd _ _ (f p.2) ⟨fun q => @bnd _ _ (own? i p.1 q.2) ⟨fun xs => setK i p.1 xs r.1 q.2 q.1⟩⟩⟩⟩⟩ := by
  unfold sSetIx bnd
  cases g s with
  | none => rfl
  | some r =>
    show (fp r.2).bind _ = (fp r.2).bind _
    cases fp r.2 with
    | none => rfl
    | some p =>
      show (own? i p.1 p.2).bind _ = (own? i p.1 p.2).bind _
      cases own? i p.1 p.2 with
      | none => rfl
      | some ys =>
        show (f p.2).bind _ = (f p.2).bind _
        cases f p.2 with
        | none => rfl
        | some q =>
          show (own? i p.1 q.2).bind _ = (own? i p.1 q.2).bind _
          cases own? i p.1 q.2 with
          | none => rfl
          | some xs => obtain ⟨d, s⟩ := q; cases d <;> rfl
theorem setK_i {p : List Nat} {xs : List B} {v : D} {k : Int} : setK i p xs v s (.int k) = @bnd _ _ (ixN xs.length k) ⟨fun j => some (.nx, mutS i p (xs.set j (.v v)) s)⟩ := rfl
/-! the store -/
theorem eObj_q : eObj fa s = @bnd _ _ (fa s) ⟨fun p => if p.1.length ≤ sizeLine ∧ p.2.pu = false then some (.obj p.2.st.length, ⟨p.2.env, p.2.st ++ [.lst p.1], p.2.pu⟩) else none⟩ := rfl
theorem eIxS_q : eIxS f g s = @bnd _ _ (f s) ⟨fun p => @bnd _ _ (g p.2) ⟨fun q => @bnd _ _ (dIxS q.2.st p.1 q.1) ⟨fun d => some (d, q.2)⟩⟩⟩ := by
  show (f s).bind (fun p => (g p.2).bind fun q => (dIxS q.2.st p.1 q.1).map fun d => (d, q.2)) = _
  simp only [map_bnd]; rfl
def setOk (v : D) (s : Sta) : D → D → Option (Out × Sta)
  | .obj n, .int k => match s.st[n]? with
    | some (.lst xs) => (ixN xs.length k).bind fun j => some (.nx, ⟨s.env, s.st.set n (.lst (xs.set j v)), s.pu⟩)
    | _ => none
  | _, _ => none
theorem sSetO_q : sSetO f g h s = @bnd _ _ (h s) ⟨fun r => @bnd _ _ (f r.2) ⟨fun p => @bnd _ _ (g p.2) ⟨fun q => setOk r.1 q.2 p.1 q.1⟩⟩⟩ := by
  unfold sSetO bnd
  cases h s with
  | none => rfl
  | some r =>
    show (f r.2).bind _ = (f r.2).bind _
    cases f r.2 with
    | none => rfl
    | some p =>
      show (g p.2).bind _ = (g p.2).bind _
      cases g p.2 with
      | none => rfl
      | some q =>
        obtain ⟨d, s1⟩ := p; obtain ⟨e, s2⟩ := q
        cases d <;> cases e <;> rfl
end

/-! ### numbers -/
theorem sm_of {i : Int} (h : -(10 ^ 30) ≤ i ∧ i ≤ 10 ^ 30) : Sm i := by
  have e : (10 : Nat) ^ 30 < 2 ^ 200 := by decide
  have e2 : (2 : Nat) ^ 200 ≤ 2 ^ 1800 := Nat.pow_le_pow_right (by decide) (by decide)
  show i.natAbs < 2 ^ 1800
  have : i.natAbs ≤ 10 ^ 30 := by omega
  omega
section
variable {i j : Int}
theorem dAdd_i : dAdd (.int i) (.int j) = some (.int (i + j)) := rfl
theorem dSub_i : dSub (.int i) (.int j) = some (.int (i - j)) := rfl
theorem dMul_i (h1 : -(10 ^ 30) ≤ i ∧ i ≤ 10 ^ 30) (h2 : -(10 ^ 30) ≤ j ∧ j ≤ 10 ^ 30) : dMul (.int i) (.int j) = some (.int (i * j)) := by
  simp only [dMul]; rw [if_pos (.inl ⟨sm_of h1, sm_of h2⟩)]
theorem dFdiv_i (h : 0 < j ∧ j ≤ 10 ^ 30) : dFdiv (.int i) (.int j) = some (.int (i / j)) := by
  simp only [dFdiv]; rw [if_pos ⟨by omega, sm_of ⟨by omega, h.2⟩⟩, Int.fdiv_eq_ediv_of_nonneg _ (by omega)]
theorem dMod_i (h : 0 < j) : dMod (.int i) (.int j) = some (.int (i % j)) := by
  simp only [dMod]; rw [if_pos (by omega), Int.fmod_eq_emod_of_nonneg _ (by omega)]
theorem dNeg_i : dNeg (.int i) = some (.int (-i)) := rfl
theorem dLt_i : dLt (.int i) (.int j) = some (.bl (decide (i < j))) := rfl
theorem dLe_i : dLe (.int i) (.int j) = some (.bl (decide (i ≤ j))) := rfl
theorem dGt_i : dGt (.int i) (.int j) = some (.bl (decide (j < i))) := rfl
theorem dGe_i : dGe (.int i) (.int j) = some (.bl (decide (j ≤ i))) := rfl
theorem shaped_i : SeqAt.shaped (.int i) = true := by with_unfolding_all rfl
theorem eqv_i : PyData.eqv (.int i) (.int j) = decide (i = j) := by
  show (i == j) = _
  rw [Bool.eq_iff_iff]; simp
theorem dEqb_i : dEqb (.int i) (.int j) = some (decide (i = j)) := by
  show (if SeqAt.shaped (.int i) = true ∧ SeqAt.shaped (.int j) = true then some (PyData.eqv (.int i) (.int j)) else none) = _
  rw [if_pos ⟨shaped_i, shaped_i⟩, eqv_i]
theorem dEq_i : dEq (.int i) (.int j) = some (.bl (decide (i = j))) := by unfold dEq; rw [dEqb_i]; rfl
theorem dNe_i : dNe (.int i) (.int j) = some (.bl (!decide (i = j))) := by unfold dNe; rw [dEqb_i]; rfl
theorem dTru_b {b : Bool} : dTru (.bl b) = some b := rfl
theorem dTru_i : dTru (.int i) = some (i != 0) := rfl
theorem dTru_l {xs : List D} : dTru (.lst xs) = some (!xs.isEmpty) := rfl
theorem dTru_t {xs : List D} : dTru (.tup xs) = some (!xs.isEmpty) := rfl
theorem bAbs_i : bAbs [.int i] = some (.int (i.natAbs : Int)) := by
  show some (D.int (if i < 0 then -i else i)) = _
  congr 2
  split <;> omega
theorem bInt_i : bInt [.int i] = some (.int i) := rfl
theorem bLen_l {xs : List D} : bLen [.lst xs] = some (.int xs.length) := rfl
theorem bLen_t {xs : List D} : bLen [.tup xs] = some (.int xs.length) := rfl
theorem bLen_s {ns : List Int} : bLen [.scr ns] = some (.int ns.length) := rfl
theorem dIx_l {xs : List D} : dIx (.lst xs) (.int i) = atI xs i := rfl
theorem dIx_t {xs : List D} : dIx (.tup xs) (.int i) = atI xs i := rfl
theorem bMaxD_2 : bMaxD [.int i, .int j] = some (.int (max i j)) := by
  show some (D.int (if j > i then j else i)) = _
  congr 2
  split <;> omega
theorem bMinD_2 : bMinD [.int i, .int j] = some (.int (min i j)) := by
  show some (D.int (if j < i then j else i)) = _
  congr 2
  split <;> omega
theorem dTup_q {xs : List D} : dTup xs = if xs.length ≤ sizeLine then some (.tup xs) else none := rfl
theorem rng1 (h : j ≤ 10 ^ 15) (h0 : -(10 ^ 15) ≤ j) : dRange1 [.int j] = some ((List.range j.toNat).map fun i : Nat => .int i) := by
  simp only [dRange1]; rw [if_pos (by omega)]
theorem rng2 (h : (-(10 ^ 15) ≤ i ∧ i ≤ 10 ^ 15) ∧ -(10 ^ 15) ≤ j ∧ j ≤ 10 ^ 15) : dRange2 [.int i, .int j] = some ((List.range (j - i).toNat).map fun k : Nat => .int (i + k)) := by
  simp only [dRange2]; rw [if_pos (by omega)]
end
theorem le_line {n : Nat} (h : n ≤ 10 ^ 6) : n ≤ sizeLine := by rw [sizeLine_eq]; omega
theorem lt_line {n : Nat} (h : n < 10 ^ 6) : n < sizeLine := by rw [sizeLine_eq]; omega
theorem atI_nn {α : Type} {xs : List α} {i : Int} (h : 0 ≤ i) : atI xs i = xs[i.toNat]? := by
  unfold atI ixN
  rw [if_pos h]
  by_cases h1 : i < xs.length
  · rw [if_pos h1]; rfl
  · rw [if_neg h1, List.getElem?_eq_none (by omega)]; rfl
end Ev

namespace Ev
open PySem L2

/-! ## the laws' common helpers -/
theorem le_refl_line : (0 : Nat) ≤ sizeLine := Nat.zero_le _
def b_law_cell : EvS := (sSeq (sIf (eTb (e2 dLt (eW 1) (eL bLen (aCons (eW 0) aNil)))) (sRet (e2 dIx (eV 0) (eV 1))) sNil) (sRet (eC (.int 0))))
def F_law_cell : Fn := fnF 2 2 (b_law_cell)
def b_law_digits : EvS := (sSeq (sSetB 3 (bLst aNil)) (sSeq (sFor (iA dRange2 (aCons (eV 1) (aCons (eV 2) aNil))) (gN 4) (sSeq (sSet 5 (eL (pV (F_law_cell)) (aCons (eV 0) (aCons (eV 4) aNil)))) (sSeq (sIf (eTb (e2 dLt (eW 5) (eC (.int 0)))) (sSet 5 (e2 dSub (eC (.int 1)) (e2 dMul (eC (.int 2)) (eV 5)))) sNil) (sIf (eTb (e2 dGe (eW 5) (e2 dPow (eC (.int 10)) (eC (.int 18))))) (sFor (iA dRange1 (aCons (eC (.int 60)) aNil)) (gN 6) (sIf (eTb (e2 dGt (eW 5) (eC (.int 0)))) (sSeq (sExp (mApp 3 (pN 3) (e2 dMod (eL bInt (aCons (eV 5) aNil)) (eC (.int 1000))))) (sSet 5 (e2 dFdiv (eV 5) (eC (.int 1000))))) sNil)) (sSeq (sSet 7 (e2 dMod (eL bInt (aCons (e2 dAdd (e2 dAdd (e2 dMul (eV 5) (eC (.int 48271))) (e2 dMul (eV 4) (eC (.int 69621)))) (eC (.int 11))) aNil)) (eC (.int 2147483647)))) (sFor (iA dRange1 (aCons (eC (.int 12)) aNil)) (gN 6) (sSeq (sSet 7 (e2 dMod (eL bInt (aCons (e2 dAdd (e2 dAdd (e2 dMul (eV 7) (eC (.int 16807))) (e2 dMul (eC (.int 7)) (eV 6))) (eC (.int 1))) aNil)) (eC (.int 2147483647)))) (sExp (mApp 3 (pN 3) (e2 dMod (eL bInt (aCons (e2 dFdiv (eV 7) (eC (.int 997))) aNil)) (eC (.int 1000)))))))))))) (sRet (eV 3))))
def F_law_digits : Fn := fnF 3 8 (b_law_digits)
def b_law_draw : EvS := (sSeq (sSetO (eV 0) (eC (.int 1)) (e2 dAdd (eIxS (eV 0) (eC (.int 1))) (eC (.int 1)))) (sSeq (sIf (eTb (e2 dGt (eIxS (eV 0) (eC (.int 1))) (eL bLen (aCons (eIxS (eV 0) (eC (.int 0))) aNil)))) (sRet (e2 dMod (eL bInt (aCons (e2 dAdd (e2 dMul (eIxS (eV 0) (eC (.int 1))) (eC (.int 7))) (eC (.int 3))) aNil)) (eV 1))) sNil) (sRet (e2 dMod (eL bInt (aCons (e2 dIx (eIxS (eV 0) (eC (.int 0))) (e2 dSub (eIxS (eV 0) (eC (.int 1))) (eC (.int 1)))) aNil)) (eV 1)))))
def F_law_draw : Fn := fnF 2 2 (b_law_draw)
def b_law_pick : EvS := (sRet (e2 dIx (eV 1) (e2 dMod (eL bInt (aCons (eFz (bCall (F_law_draw) (aCons (eV 0) (aCons (eC (.int 1000)) aNil)))) aNil)) (eL bLen (aCons (eV 1) aNil)))))
def F_law_pick : Fn := fnF 2 2 (b_law_pick)
def b_law_same (R : Fn) : EvS := (sSeq (sIf (eTb (e2 dIs (eW 1) (eC .non))) (sRet (e2 dIs (eV 0) (eC .non))) sNil) (sSeq (sIf (eTb (e2 dIs (eW 1) (eC (.bl true)))) (sRet (e2 dIs (eV 0) (eC (.bl true)))) sNil) (sSeq (sIf (eTb (e2 dIs (eW 1) (eC (.bl false)))) (sRet (e2 dIs (eV 0) (eC (.bl false)))) sNil) (sSeq (sIf (eT (e1 (dIsi "str") (eW 1))) (sRet (eAnd (e1 (dIsi "str") (eV 0)) (e2 dEq (eL bRepr (aCons (eV 0) aNil)) (eL bRepr (aCons (eV 1) aNil))))) sNil) (sSeq (sIf (eT (e1 (dIsi "int") (eW 1))) (sRet (eAnd (e1 (dIsi "int") (eV 0)) (eAnd (eNot (e1 (dIsi "bool") (eV 0))) (e2 dEq (eL bRepr (aCons (eV 0) aNil)) (eL bRepr (aCons (eV 1) aNil)))))) sNil) (sSeq (sIf (wOr (wAnd (eT (e1 (dIsi "tuple") (eW 1))) (wNot (eT (e1 (dIsi "tuple") (eW 0))))) (wAnd (eT (e1 (dIsi "list") (eW 1))) (wNot (eT (e1 (dIsi "list") (eW 0)))))) (sRet (eC (.bl false))) sNil) (sSeq (sIf (eTb (e2 dNe (eL bLen (aCons (eW 0) aNil)) (eL bLen (aCons (eW 1) aNil)))) (sRet (eC (.bl false))) sNil) (sSeq (sFor (iA dRange1 (aCons (eL bLen (aCons (eV 1) aNil)) aNil)) (gN 2) (sIf (wNot (eT (eL (pV R) (aCons (e2 dIx (eW 0) (eW 2)) (aCons (e2 dIx (eW 1) (eW 2)) aNil))))) (sRet (eC (.bl false))) sNil)) (sRet (eC (.bl true)))))))))))
def R_law_same : Nat → Fn
  | 0 => fun _ _ _ => none
  | n + 1 => fnF 2 3 (b_law_same (R_law_same n))
def F_law_same : Fn := R_law_same 10

theorem q_law_cell {pu : Bool} {a b : D} {S : Sto} : F_law_cell pu [a, b] S = @bnd _ _ (b_law_cell ⟨[some (.v a), some (.v b)], S, pu⟩) ⟨finK⟩ := fnF_q rfl
theorem q_law_digits {pu : Bool} {a b c : D} {S : Sto} : F_law_digits pu [a, b, c] S = @bnd _ _ (b_law_digits ⟨[some (.v a), some (.v b), some (.v c), none, none, none, none, none], S, pu⟩) ⟨finK⟩ := fnF_q rfl
theorem q_law_draw {pu : Bool} {a b : D} {S : Sto} : F_law_draw pu [a, b] S = @bnd _ _ (b_law_draw ⟨[some (.v a), some (.v b)], S, pu⟩) ⟨finK⟩ := fnF_q rfl
theorem q_law_pick {pu : Bool} {a b : D} {S : Sto} : F_law_pick pu [a, b] S = @bnd _ _ (b_law_pick ⟨[some (.v a), some (.v b)], S, pu⟩) ⟨finK⟩ := fnF_q rfl
theorem q_law_same {n : Nat} {pu : Bool} {a b : D} {S : Sto} : R_law_same (n + 1) pu [a, b] S = @bnd _ _ (b_law_same (R_law_same n) ⟨[some (.v a), some (.v b), none], S, pu⟩) ⟨finK⟩ := fnF_q rfl

theorem cell_ok {ns : List Int} {k : Nat} : pF F_law_cell [.scr ns, .int k] = some (.v (.int (ns[k]?.getD 0))) := by
  rw [pF_q, q_law_cell, b_law_cell]
  by_cases h : k < ns.length
  · have h2 : (k : Int) < ns.length := by omega
    have e : dIx (.scr ns) (.int k) = some (.int (ns[k]?.getD 0)) := by
      show (atI ns k).map D.int = _
      rw [atI_nn (by omega)]
      simp [h]
    simp -implicitDefEqProofs (maxSteps := 1000000) (disch := omega) only [↓bnd_some, bnd_some, eV_q, eVk_v, eVk_o, eW_q, eWk_b, frz_v, frz_o, frzs_nil, frzs_cons, ↓eC_q, ↓e1_q, ↓e2_q, ↓e3_q, e3k_b, ↓eT_q, ↓eTb_q, ↓eTbk_b, eTbk_b, ↓wAnd_q, ↓wOr_q, ↓wNot_q, ↓eAnd_q, ↓eOr_q, ↓eNot_q, ↓eIf_q, ↓eP_q, ↓aNil_q, ↓aCons_q, ↓eL_q, ↓eFz_q, ↓bLst_q, ↓bL_q, ↓b2_q, ↓bCall_q, ↓bPure_q, ↓pV_q, ↓sSeq_q, ↓seqK_nx, seqK_nx, ↓seqK_rt, seqK_rt, ↓seqK_bk, seqK_bk, ↓seqK_ct, seqK_ct, ↓sIf_q, ↓sNil_q, ↓sBk_q, ↓sCt_q, ↓sRet_q, ↓sRetB_q, ↓sRetN_q, ↓sRetV_q, rvK_b, ↓sExp_q, ↓sSet_q, ↓sSetB_q, put_q, ↓sAug_q, augK_v, ↓finK_rt, finK_rt, ↓finK_nx, finK_nx, ↓gN_q, ↓gsNil_q, ↓gsCons_q, ↓gT_q, ↓sAsg_q, ↓iV_q, ↓iA_q, items_lst, items_tup, ↓sFor_q, forL_nil, ↓forK_nx, forK_nx, ↓forK_ct, forK_ct, ↓forK_bk, forK_bk, ↓forK_rt, forK_rt, ↓whK_nx, whK_nx, ↓whK_ct, whK_ct, ↓whK_bk, whK_bk, ↓whK_rt, whK_rt, ↓bLc_q, ↓tYes_q, wipeE_nil, wipeE_cons, ↓pN_q, own_q, ownK_o, mutS_q, mutK_o, ↓mApp_q, ↓mAppB_q, ↓mPop_q, popK_v, ↓sSetIx_q, setK_i, ↓eObj_q, ↓eIxS_q, ↓sSetO_q, dAdd_i, dSub_i, dNeg_i, dLt_i, dLe_i, dGt_i, dGe_i, dEq_i, dNe_i, dTru_b, dTru_i, dTru_l, dTru_t, bAbs_i, bInt_i, bLen_l, bLen_t, bLen_s, dIx_l, dIx_t, bMaxD_2, bMinD_2, ↓dTup_q, List.getElem?_cons_zero, List.getElem?_cons_succ, List.set_cons_zero, List.set_cons_succ, if_true, if_false, Bool.false_eq_true, decide_eq_true_eq, decide_eq_false_iff_not, Bool.not_true, Bool.not_false, List.length_cons, List.length_nil, List.map_cons, List.map_nil, dMul_i, dFdiv_i, dMod_i, List.nil_append, Nat.zero_add, Nat.reduceAdd, Nat.reduceLeDiff, Nat.reduceLT, Nat.reduceEqDiff, le_refl_line, and_self, true_and, and_true, bnd_none, Bool.not_eq_true, eq_self, reduceCtorEq, decide_true, decide_false, B.frzs_v, Nat.add_assoc, h2, e]
  · have h2 : ¬ (k : Int) < ns.length := by omega
    have e : ns[k]?.getD 0 = 0 := by rw [List.getElem?_eq_none (by omega)]; rfl
    simp -implicitDefEqProofs (maxSteps := 1000000) (disch := omega) only [↓bnd_some, bnd_some, eV_q, eVk_v, eVk_o, eW_q, eWk_b, frz_v, frz_o, frzs_nil, frzs_cons, ↓eC_q, ↓e1_q, ↓e2_q, ↓e3_q, e3k_b, ↓eT_q, ↓eTb_q, ↓eTbk_b, eTbk_b, ↓wAnd_q, ↓wOr_q, ↓wNot_q, ↓eAnd_q, ↓eOr_q, ↓eNot_q, ↓eIf_q, ↓eP_q, ↓aNil_q, ↓aCons_q, ↓eL_q, ↓eFz_q, ↓bLst_q, ↓bL_q, ↓b2_q, ↓bCall_q, ↓bPure_q, ↓pV_q, ↓sSeq_q, ↓seqK_nx, seqK_nx, ↓seqK_rt, seqK_rt, ↓seqK_bk, seqK_bk, ↓seqK_ct, seqK_ct, ↓sIf_q, ↓sNil_q, ↓sBk_q, ↓sCt_q, ↓sRet_q, ↓sRetB_q, ↓sRetN_q, ↓sRetV_q, rvK_b, ↓sExp_q, ↓sSet_q, ↓sSetB_q, put_q, ↓sAug_q, augK_v, ↓finK_rt, finK_rt, ↓finK_nx, finK_nx, ↓gN_q, ↓gsNil_q, ↓gsCons_q, ↓gT_q, ↓sAsg_q, ↓iV_q, ↓iA_q, items_lst, items_tup, ↓sFor_q, forL_nil, ↓forK_nx, forK_nx, ↓forK_ct, forK_ct, ↓forK_bk, forK_bk, ↓forK_rt, forK_rt, ↓whK_nx, whK_nx, ↓whK_ct, whK_ct, ↓whK_bk, whK_bk, ↓whK_rt, whK_rt, ↓bLc_q, ↓tYes_q, wipeE_nil, wipeE_cons, ↓pN_q, own_q, ownK_o, mutS_q, mutK_o, ↓mApp_q, ↓mAppB_q, ↓mPop_q, popK_v, ↓sSetIx_q, setK_i, ↓eObj_q, ↓eIxS_q, ↓sSetO_q, dAdd_i, dSub_i, dNeg_i, dLt_i, dLe_i, dGt_i, dGe_i, dEq_i, dNe_i, dTru_b, dTru_i, dTru_l, dTru_t, bAbs_i, bInt_i, bLen_l, bLen_t, bLen_s, dIx_l, dIx_t, bMaxD_2, bMinD_2, ↓dTup_q, List.getElem?_cons_zero, List.getElem?_cons_succ, List.set_cons_zero, List.set_cons_succ, if_true, if_false, Bool.false_eq_true, decide_eq_true_eq, decide_eq_false_iff_not, Bool.not_true, Bool.not_false, List.length_cons, List.length_nil, List.map_cons, List.map_nil, dMul_i, dFdiv_i, dMod_i, List.nil_append, Nat.zero_add, Nat.reduceAdd, Nat.reduceLeDiff, Nat.reduceLT, Nat.reduceEqDiff, le_refl_line, and_self, true_and, and_true, bnd_none, Bool.not_eq_true, eq_self, reduceCtorEq, decide_true, decide_false, B.frzs_v, Nat.add_assoc, h2, e]
/-! ### the box that is drawn from -/
def bx (ds : List Int) (p : Nat) : Sto := [.lst [.lst (ds.map .int), .int p]]
def rv (ds : List Int) (p : Nat) (many : Int) : Int := if ds.length < p + 1 then (((p : Int) + 1) * 7 + 3) % many else (ds[p]?.getD 0) % many
theorem rv_nn {ds : List Int} {p : Nat} {m : Int} (h : 0 < m) : 0 ≤ rv ds p m := by
  unfold rv; split <;> exact Int.emod_nonneg _ (by omega)
theorem rv_lt {ds : List Int} {p : Nat} {m : Int} (h : 0 < m) : rv ds p m < m := by
  unfold rv; split <;> exact Int.emod_lt_of_pos _ h
theorem ix0 {a : D} {l : List D} : atI (a :: l) 0 = some a := by rw [atI_nn (by decide)]; rfl
theorem ix1 {a b : D} {l : List D} : atI (a :: b :: l) 1 = some b := by rw [atI_nn (by decide)]; rfl
theorem bx_0 {ds : List Int} {p : Nat} : dIxS (bx ds p) (.obj 0) (.int 0) = some (.lst (ds.map .int)) := ix0
theorem bx_1 {ds : List Int} {p : Nat} : dIxS (bx ds p) (.obj 0) (.int 1) = some (.int p) := ix1
theorem bx_set {ds : List Int} {p : Nat} {e : List (Option B)} {pu : Bool} : setOk (.int ((p : Int) + 1)) ⟨e, bx ds p, pu⟩ (.obj 0) (.int 1) = some (.nx, ⟨e, bx ds (p + 1), pu⟩) := rfl
theorem draw_ok {ds : List Int} {p : Nat} {m : Int} (hm : 0 < m) (hp : p ≤ 10 ^ 15) : F_law_draw false [.obj 0, .int m] (bx ds p) = some (.v (.int (rv ds p m)), bx ds (p + 1)) := by
  rw [q_law_draw, b_law_draw]
  have hc : ((p + 1 : Nat) : Int) = (p : Int) + 1 := rfl
  by_cases h : ds.length < p + 1
  · have h1 : (ds.length : Int) < (p : Int) + 1 := by omega
    simp -implicitDefEqProofs (maxSteps := 1000000) (disch := omega) only [↓bnd_some, bnd_some, eV_q, eVk_v, eVk_o, eW_q, eWk_b, frz_v, frz_o, frzs_nil, frzs_cons, ↓eC_q, ↓e1_q, ↓e2_q, ↓e3_q, e3k_b, ↓eT_q, ↓eTb_q, ↓eTbk_b, eTbk_b, ↓wAnd_q, ↓wOr_q, ↓wNot_q, ↓eAnd_q, ↓eOr_q, ↓eNot_q, ↓eIf_q, ↓eP_q, ↓aNil_q, ↓aCons_q, ↓eL_q, ↓eFz_q, ↓bLst_q, ↓bL_q, ↓b2_q, ↓bCall_q, ↓bPure_q, ↓pV_q, ↓sSeq_q, ↓seqK_nx, seqK_nx, ↓seqK_rt, seqK_rt, ↓seqK_bk, seqK_bk, ↓seqK_ct, seqK_ct, ↓sIf_q, ↓sNil_q, ↓sBk_q, ↓sCt_q, ↓sRet_q, ↓sRetB_q, ↓sRetN_q, ↓sRetV_q, rvK_b, ↓sExp_q, ↓sSet_q, ↓sSetB_q, put_q, ↓sAug_q, augK_v, ↓finK_rt, finK_rt, ↓finK_nx, finK_nx, ↓gN_q, ↓gsNil_q, ↓gsCons_q, ↓gT_q, ↓sAsg_q, ↓iV_q, ↓iA_q, items_lst, items_tup, ↓sFor_q, forL_nil, ↓forK_nx, forK_nx, ↓forK_ct, forK_ct, ↓forK_bk, forK_bk, ↓forK_rt, forK_rt, ↓whK_nx, whK_nx, ↓whK_ct, whK_ct, ↓whK_bk, whK_bk, ↓whK_rt, whK_rt, ↓bLc_q, ↓tYes_q, wipeE_nil, wipeE_cons, ↓pN_q, own_q, ownK_o, mutS_q, mutK_o, ↓mApp_q, ↓mAppB_q, ↓mPop_q, popK_v, ↓sSetIx_q, setK_i, ↓eObj_q, ↓eIxS_q, ↓sSetO_q, dAdd_i, dSub_i, dNeg_i, dLt_i, dLe_i, dGt_i, dGe_i, dEq_i, dNe_i, dTru_b, dTru_i, dTru_l, dTru_t, bAbs_i, bInt_i, bLen_l, bLen_t, bLen_s, dIx_l, dIx_t, bMaxD_2, bMinD_2, ↓dTup_q, List.getElem?_cons_zero, List.getElem?_cons_succ, List.set_cons_zero, List.set_cons_succ, if_true, if_false, Bool.false_eq_true, decide_eq_true_eq, decide_eq_false_iff_not, Bool.not_true, Bool.not_false, List.length_cons, List.length_nil, List.map_cons, List.map_nil, dMul_i, dFdiv_i, dMod_i, List.nil_append, Nat.zero_add, Nat.reduceAdd, Nat.reduceLeDiff, Nat.reduceLT, Nat.reduceEqDiff, le_refl_line, and_self, true_and, and_true, bnd_none, Bool.not_eq_true, eq_self, reduceCtorEq, decide_true, decide_false, B.frzs_v, Nat.add_assoc, bx_0, bx_1, bx_set, hc, List.length_map, h1, rv, h]
  · have h1 : ¬ (ds.length : Int) < (p : Int) + 1 := by omega
    have e : (p : Int) + 1 - 1 = p := by omega
    have e2 : atI (ds.map D.int) (p : Int) = some (.int (ds[p]?.getD 0)) := by
      rw [atI_nn (by omega)]
      have : p < ds.length := by omega
      simp [this]
    simp -implicitDefEqProofs (maxSteps := 1000000) (disch := omega) only [↓bnd_some, bnd_some, eV_q, eVk_v, eVk_o, eW_q, eWk_b, frz_v, frz_o, frzs_nil, frzs_cons, ↓eC_q, ↓e1_q, ↓e2_q, ↓e3_q, e3k_b, ↓eT_q, ↓eTb_q, ↓eTbk_b, eTbk_b, ↓wAnd_q, ↓wOr_q, ↓wNot_q, ↓eAnd_q, ↓eOr_q, ↓eNot_q, ↓eIf_q, ↓eP_q, ↓aNil_q, ↓aCons_q, ↓eL_q, ↓eFz_q, ↓bLst_q, ↓bL_q, ↓b2_q, ↓bCall_q, ↓bPure_q, ↓pV_q, ↓sSeq_q, ↓seqK_nx, seqK_nx, ↓seqK_rt, seqK_rt, ↓seqK_bk, seqK_bk, ↓seqK_ct, seqK_ct, ↓sIf_q, ↓sNil_q, ↓sBk_q, ↓sCt_q, ↓sRet_q, ↓sRetB_q, ↓sRetN_q, ↓sRetV_q, rvK_b, ↓sExp_q, ↓sSet_q, ↓sSetB_q, put_q, ↓sAug_q, augK_v, ↓finK_rt, finK_rt, ↓finK_nx, finK_nx, ↓gN_q, ↓gsNil_q, ↓gsCons_q, ↓gT_q, ↓sAsg_q, ↓iV_q, ↓iA_q, items_lst, items_tup, ↓sFor_q, forL_nil, ↓forK_nx, forK_nx, ↓forK_ct, forK_ct, ↓forK_bk, forK_bk, ↓forK_rt, forK_rt, ↓whK_nx, whK_nx, ↓whK_ct, whK_ct, ↓whK_bk, whK_bk, ↓whK_rt, whK_rt, ↓bLc_q, ↓tYes_q, wipeE_nil, wipeE_cons, ↓pN_q, own_q, ownK_o, mutS_q, mutK_o, ↓mApp_q, ↓mAppB_q, ↓mPop_q, popK_v, ↓sSetIx_q, setK_i, ↓eObj_q, ↓eIxS_q, ↓sSetO_q, dAdd_i, dSub_i, dNeg_i, dLt_i, dLe_i, dGt_i, dGe_i, dEq_i, dNe_i, dTru_b, dTru_i, dTru_l, dTru_t, bAbs_i, bInt_i, bLen_l, bLen_t, bLen_s, dIx_l, dIx_t, bMaxD_2, bMinD_2, ↓dTup_q, List.getElem?_cons_zero, List.getElem?_cons_succ, List.set_cons_zero, List.set_cons_succ, if_true, if_false, Bool.false_eq_true, decide_eq_true_eq, decide_eq_false_iff_not, Bool.not_true, Bool.not_false, List.length_cons, List.length_nil, List.map_cons, List.map_nil, dMul_i, dFdiv_i, dMod_i, List.nil_append, Nat.zero_add, Nat.reduceAdd, Nat.reduceLeDiff, Nat.reduceLT, Nat.reduceEqDiff, le_refl_line, and_self, true_and, and_true, bnd_none, Bool.not_eq_true, eq_self, reduceCtorEq, decide_true, decide_false, B.frzs_v, Nat.add_assoc, bx_0, bx_1, bx_set, hc, List.length_map, h1, rv, h, e, e2]
/-- the place that is picked -/
def pk (ds : List Int) (p : Nat) (n : Nat) : Nat := (rv ds p 1000 % n).toNat
theorem pk_lt {ds : List Int} {p n : Nat} (h : 0 < n) : pk ds p n < n := by
  unfold pk
  have h1 := Int.emod_nonneg (rv ds p 1000) (show (n : Int) ≠ 0 by omega)
  have h2 := Int.emod_lt_of_pos (rv ds p 1000) (show (0 : Int) < n by omega)
  omega
theorem pick_ok {ds : List Int} {p : Nat} {row : List D} (hr : 0 < row.length) (hl : row.length ≤ 10 ^ 15) (hp : p ≤ 10 ^ 15) : F_law_pick false [.obj 0, .lst row] (bx ds p) = some (.v ((row[pk ds p row.length]?).getD .non), bx ds (p + 1)) := by
  rw [q_law_pick, b_law_pick]
  have e : atI row (rv ds p 1000 % (row.length : Int)) = some ((row[pk ds p row.length]?).getD .non) := by
    have h1 := Int.emod_nonneg (rv ds p 1000) (show (row.length : Int) ≠ 0 by omega)
    rw [atI_nn h1]
    have := pk_lt (ds := ds) (p := p) hr
    show row[pk ds p row.length]? = _
    simp [this]
  have hd := draw_ok (ds := ds) (p := p) (m := 1000) (by decide) hp
  simp -implicitDefEqProofs (maxSteps := 1000000) (disch := omega) only [↓bnd_some, bnd_some, eV_q, eVk_v, eVk_o, eW_q, eWk_b, frz_v, frz_o, frzs_nil, frzs_cons, ↓eC_q, ↓e1_q, ↓e2_q, ↓e3_q, e3k_b, ↓eT_q, ↓eTb_q, ↓eTbk_b, eTbk_b, ↓wAnd_q, ↓wOr_q, ↓wNot_q, ↓eAnd_q, ↓eOr_q, ↓eNot_q, ↓eIf_q, ↓eP_q, ↓aNil_q, ↓aCons_q, ↓eL_q, ↓eFz_q, ↓bLst_q, ↓bL_q, ↓b2_q, ↓bCall_q, ↓bPure_q, ↓pV_q, ↓sSeq_q, ↓seqK_nx, seqK_nx, ↓seqK_rt, seqK_rt, ↓seqK_bk, seqK_bk, ↓seqK_ct, seqK_ct, ↓sIf_q, ↓sNil_q, ↓sBk_q, ↓sCt_q, ↓sRet_q, ↓sRetB_q, ↓sRetN_q, ↓sRetV_q, rvK_b, ↓sExp_q, ↓sSet_q, ↓sSetB_q, put_q, ↓sAug_q, augK_v, ↓finK_rt, finK_rt, ↓finK_nx, finK_nx, ↓gN_q, ↓gsNil_q, ↓gsCons_q, ↓gT_q, ↓sAsg_q, ↓iV_q, ↓iA_q, items_lst, items_tup, ↓sFor_q, forL_nil, ↓forK_nx, forK_nx, ↓forK_ct, forK_ct, ↓forK_bk, forK_bk, ↓forK_rt, forK_rt, ↓whK_nx, whK_nx, ↓whK_ct, whK_ct, ↓whK_bk, whK_bk, ↓whK_rt, whK_rt, ↓bLc_q, ↓tYes_q, wipeE_nil, wipeE_cons, ↓pN_q, own_q, ownK_o, mutS_q, mutK_o, ↓mApp_q, ↓mAppB_q, ↓mPop_q, popK_v, ↓sSetIx_q, setK_i, ↓eObj_q, ↓eIxS_q, ↓sSetO_q, dAdd_i, dSub_i, dNeg_i, dLt_i, dLe_i, dGt_i, dGe_i, dEq_i, dNe_i, dTru_b, dTru_i, dTru_l, dTru_t, bAbs_i, bInt_i, bLen_l, bLen_t, bLen_s, dIx_l, dIx_t, bMaxD_2, bMinD_2, ↓dTup_q, List.getElem?_cons_zero, List.getElem?_cons_succ, List.set_cons_zero, List.set_cons_succ, if_true, if_false, Bool.false_eq_true, decide_eq_true_eq, decide_eq_false_iff_not, Bool.not_true, Bool.not_false, List.length_cons, List.length_nil, List.map_cons, List.map_nil, dMul_i, dFdiv_i, dMod_i, List.nil_append, Nat.zero_add, Nat.reduceAdd, Nat.reduceLeDiff, Nat.reduceLT, Nat.reduceEqDiff, le_refl_line, and_self, true_and, and_true, bnd_none, Bool.not_eq_true, eq_self, reduceCtorEq, decide_true, decide_false, B.frzs_v, Nat.add_assoc, hd, e]
/-! ### the same told twice -/
inductive Dt : Nat → D → Prop
  | non {n : Nat} : Dt n .non
  | bl {n : Nat} {b : Bool} : Dt n (.bl b)
  | int {n : Nat} {i : Int} : Sm i → Dt n (.int i)
  | str {n : Nat} {x : Str} : (reprText x).length ≤ sizeLine → PyData.strOk (reprText x) = true → Dt n (.str x)
  | lst {n : Nat} {xs : List D} : (∀ x ∈ xs, Dt n x) → xs.length ≤ 10 ^ 15 → Dt (n + 1) (.lst xs)
  | tup {n : Nat} {xs : List D} : (∀ x ∈ xs, Dt n x) → xs.length ≤ 10 ^ 15 → Dt (n + 1) (.tup xs)
theorem Dt.i {n : Nat} {i : Int} (h : -(10 ^ 30) ≤ i ∧ i ≤ 10 ^ 30) : Dt n (.int i) := .int (sm_of h)
theorem is_in {i : Int} : dIs (.int i) .non = some (.bl false) := rfl
theorem is_ib {i : Int} {b : Bool} : dIs (.int i) (.bl b) = some (.bl false) := rfl
theorem is_sn {x : Str} : dIs (.str x) .non = some (.bl false) := rfl
theorem is_sb {x : Str} {b : Bool} : dIs (.str x) (.bl b) = some (.bl false) := rfl
theorem is_ln {xs : List D} : dIs (.lst xs) .non = some (.bl false) := rfl
theorem is_lb {xs : List D} {b : Bool} : dIs (.lst xs) (.bl b) = some (.bl false) := rfl
theorem is_tn {xs : List D} : dIs (.tup xs) .non = some (.bl false) := rfl
theorem is_tb {xs : List D} {b : Bool} : dIs (.tup xs) (.bl b) = some (.bl false) := rfl
theorem is_nn : dIs .non .non = some (.bl true) := rfl
theorem is_bn {b : Bool} : dIs (.bl b) .non = some (.bl false) := rfl
theorem is_bb {a b : Bool} : dIs (.bl a) (.bl b) = some (.bl (a == b)) := rfl
theorem isi_ii {i : Int} : dIsi "int" (.int i) = some (.bl true) := by have : kitB "int" "int" = some true := by decide +kernel
                                                                       show (kitB "int" "int").map _ = _; rw [this]; rfl
theorem isi_is {i : Int} : dIsi "str" (.int i) = some (.bl false) := by have : kitB "int" "str" = some false := by decide +kernel
                                                                        show (kitB "int" "str").map _ = _; rw [this]; rfl
theorem isi_ib {i : Int} : dIsi "bool" (.int i) = some (.bl false) := by have : kitB "int" "bool" = some false := by decide +kernel
                                                                         show (kitB "int" "bool").map _ = _; rw [this]; rfl
theorem isi_it {i : Int} : dIsi "tuple" (.int i) = some (.bl false) := by have : kitB "int" "tuple" = some false := by decide +kernel
                                                                          show (kitB "int" "tuple").map _ = _; rw [this]; rfl
theorem isi_il {i : Int} : dIsi "list" (.int i) = some (.bl false) := by have : kitB "int" "list" = some false := by decide +kernel
                                                                         show (kitB "int" "list").map _ = _; rw [this]; rfl
theorem isi_ss {x : Str} : dIsi "str" (.str x) = some (.bl true) := by have : kitB "str" "str" = some true := by decide +kernel
                                                                       show (kitB "str" "str").map _ = _; rw [this]; rfl
theorem isi_ls {xs : List D} : dIsi "str" (.lst xs) = some (.bl false) := by have : kitB "list" "str" = some false := by decide +kernel
                                                                             show (kitB "list" "str").map _ = _; rw [this]; rfl
theorem isi_li {xs : List D} : dIsi "int" (.lst xs) = some (.bl false) := by have : kitB "list" "int" = some false := by decide +kernel
                                                                             show (kitB "list" "int").map _ = _; rw [this]; rfl
theorem isi_lt {xs : List D} : dIsi "tuple" (.lst xs) = some (.bl false) := by have : kitB "list" "tuple" = some false := by decide +kernel
                                                                               show (kitB "list" "tuple").map _ = _; rw [this]; rfl
theorem isi_ll {xs : List D} : dIsi "list" (.lst xs) = some (.bl true) := by have : kitB "list" "list" = some true := by decide +kernel
                                                                             show (kitB "list" "list").map _ = _; rw [this]; rfl
theorem isi_ts {xs : List D} : dIsi "str" (.tup xs) = some (.bl false) := by have : kitB "tuple" "str" = some false := by decide +kernel
                                                                             show (kitB "tuple" "str").map _ = _; rw [this]; rfl
theorem isi_ti {xs : List D} : dIsi "int" (.tup xs) = some (.bl false) := by have : kitB "tuple" "int" = some false := by decide +kernel
                                                                             show (kitB "tuple" "int").map _ = _; rw [this]; rfl
theorem isi_tt {xs : List D} : dIsi "tuple" (.tup xs) = some (.bl true) := by have : kitB "tuple" "tuple" = some true := by decide +kernel
                                                                              show (kitB "tuple" "tuple").map _ = _; rw [this]; rfl
theorem isi_tl {xs : List D} : dIsi "list" (.tup xs) = some (.bl false) := by have : kitB "tuple" "list" = some false := by decide +kernel
                                                                              show (kitB "tuple" "list").map _ = _; rw [this]; rfl
theorem ofString_ok (t : String) : PyData.strOk (Str.ofString t) = true := by
  rw [Str.ofString_eq_toList]
  simp only [PyData.strOk, List.all_toArray, List.all_map, List.all_eq_true, Function.comp_apply, decide_eq_true_eq]
  intro c _
  rcases c.valid with h | h
  · have : c.toNat < 0xd800 := h
    omega
  · exact h.2
theorem num_ok (i : Int) : PyData.strOk (num i) = true := ofString_ok _
theorem eq_s {x : Str} (hx : PyData.strOk x = true) : dEq (.str x) (.str x) = some (.bl true) := by
  show (if SeqAt.shaped (.str x) = true ∧ SeqAt.shaped (.str x) = true then some (PyData.eqv (.str x) (.str x)) else none).map _ = _
  have h : SeqAt.shaped (.str x) = true := by simp [SeqAt.shaped, PyData.canLay0, PyData.depth, hx]
  rw [if_pos ⟨h, h⟩]
  show some (D.bl (x == x)) = _
  simp
theorem repr_i {i : Int} (h : Sm i) : bRepr [.int i] = some (.str (num i)) := if_pos h
theorem repr_s {x : Str} (h : (reprText x).length ≤ sizeLine) : bRepr [.str x] = some (.str (reprText x)) := if_pos h
theorem forL_inv {eh : EvG} {f : EvS} (P : List D → Sta → Prop) (step : ∀ d ds s, P (d :: ds) s → ∃ s2, @bnd _ _ (eh d s) ⟨f⟩ = some (.nx, s2) ∧ P ds s2) : ∀ ds s, P ds s → ∃ s', forL eh f ds s = some (.nx, s') ∧ P [] s'
  | [], s, h => ⟨s, rfl, h⟩
  | d :: ds, s, h => by
    obtain ⟨s2, e, h2⟩ := step d ds s h
    obtain ⟨s1, e1, e2⟩ := bnd_inv e
    obtain ⟨s', e3, h3⟩ := forL_inv P step ds s2 h2
    refine ⟨s', ?_, h3⟩
    rw [forL_cons, e1, bnd_some, e2, bnd_some, forK_nx, e3]
theorem same_R : ∀ (n : Nat) (d : D), Dt n d → ∀ S, R_law_same (n + 1) true [d, d] S = some (.v (.bl true), S) := by
  intro n
  induction n with
  | zero =>
    intro d h S
    rw [q_law_same, b_law_same]
    cases h with
    | non => simp -implicitDefEqProofs (maxSteps := 1000000) (disch := omega) only [↓bnd_some, bnd_some, eV_q, eVk_v, eVk_o, eW_q, eWk_b, frz_v, frz_o, frzs_nil, frzs_cons, ↓eC_q, ↓e1_q, ↓e2_q, ↓e3_q, e3k_b, ↓eT_q, ↓eTb_q, ↓eTbk_b, eTbk_b, ↓wAnd_q, ↓wOr_q, ↓wNot_q, ↓eAnd_q, ↓eOr_q, ↓eNot_q, ↓eIf_q, ↓eP_q, ↓aNil_q, ↓aCons_q, ↓eL_q, ↓eFz_q, ↓bLst_q, ↓bL_q, ↓b2_q, ↓bCall_q, ↓bPure_q, ↓pV_q, ↓sSeq_q, ↓seqK_nx, seqK_nx, ↓seqK_rt, seqK_rt, ↓seqK_bk, seqK_bk, ↓seqK_ct, seqK_ct, ↓sIf_q, ↓sNil_q, ↓sBk_q, ↓sCt_q, ↓sRet_q, ↓sRetB_q, ↓sRetN_q, ↓sRetV_q, rvK_b, ↓sExp_q, ↓sSet_q, ↓sSetB_q, put_q, ↓sAug_q, augK_v, ↓finK_rt, finK_rt, ↓finK_nx, finK_nx, ↓gN_q, ↓gsNil_q, ↓gsCons_q, ↓gT_q, ↓sAsg_q, ↓iV_q, ↓iA_q, items_lst, items_tup, ↓sFor_q, forL_nil, ↓forK_nx, forK_nx, ↓forK_ct, forK_ct, ↓forK_bk, forK_bk, ↓forK_rt, forK_rt, ↓whK_nx, whK_nx, ↓whK_ct, whK_ct, ↓whK_bk, whK_bk, ↓whK_rt, whK_rt, ↓bLc_q, ↓tYes_q, wipeE_nil, wipeE_cons, ↓pN_q, own_q, ownK_o, mutS_q, mutK_o, ↓mApp_q, ↓mAppB_q, ↓mPop_q, popK_v, ↓sSetIx_q, setK_i, ↓eObj_q, ↓eIxS_q, ↓sSetO_q, dAdd_i, dSub_i, dNeg_i, dLt_i, dLe_i, dGt_i, dGe_i, dEq_i, dNe_i, dTru_b, dTru_i, dTru_l, dTru_t, bAbs_i, bInt_i, bLen_l, bLen_t, bLen_s, dIx_l, dIx_t, bMaxD_2, bMinD_2, ↓dTup_q, List.getElem?_cons_zero, List.getElem?_cons_succ, List.set_cons_zero, List.set_cons_succ, if_true, if_false, Bool.false_eq_true, decide_eq_true_eq, decide_eq_false_iff_not, Bool.not_true, Bool.not_false, List.length_cons, List.length_nil, List.map_cons, List.map_nil, dMul_i, dFdiv_i, dMod_i, List.nil_append, Nat.zero_add, Nat.reduceAdd, Nat.reduceLeDiff, Nat.reduceLT, Nat.reduceEqDiff, le_refl_line, and_self, true_and, and_true, bnd_none, Bool.not_eq_true, eq_self, reduceCtorEq, decide_true, decide_false, B.frzs_v, Nat.add_assoc, is_nn]
    | bl => rename_i b; cases b <;> simp -implicitDefEqProofs (maxSteps := 1000000) (disch := omega) only [↓bnd_some, bnd_some, eV_q, eVk_v, eVk_o, eW_q, eWk_b, frz_v, frz_o, frzs_nil, frzs_cons, ↓eC_q, ↓e1_q, ↓e2_q, ↓e3_q, e3k_b, ↓eT_q, ↓eTb_q, ↓eTbk_b, eTbk_b, ↓wAnd_q, ↓wOr_q, ↓wNot_q, ↓eAnd_q, ↓eOr_q, ↓eNot_q, ↓eIf_q, ↓eP_q, ↓aNil_q, ↓aCons_q, ↓eL_q, ↓eFz_q, ↓bLst_q, ↓bL_q, ↓b2_q, ↓bCall_q, ↓bPure_q, ↓pV_q, ↓sSeq_q, ↓seqK_nx, seqK_nx, ↓seqK_rt, seqK_rt, ↓seqK_bk, seqK_bk, ↓seqK_ct, seqK_ct, ↓sIf_q, ↓sNil_q, ↓sBk_q, ↓sCt_q, ↓sRet_q, ↓sRetB_q, ↓sRetN_q, ↓sRetV_q, rvK_b, ↓sExp_q, ↓sSet_q, ↓sSetB_q, put_q, ↓sAug_q, augK_v, ↓finK_rt, finK_rt, ↓finK_nx, finK_nx, ↓gN_q, ↓gsNil_q, ↓gsCons_q, ↓gT_q, ↓sAsg_q, ↓iV_q, ↓iA_q, items_lst, items_tup, ↓sFor_q, forL_nil, ↓forK_nx, forK_nx, ↓forK_ct, forK_ct, ↓forK_bk, forK_bk, ↓forK_rt, forK_rt, ↓whK_nx, whK_nx, ↓whK_ct, whK_ct, ↓whK_bk, whK_bk, ↓whK_rt, whK_rt, ↓bLc_q, ↓tYes_q, wipeE_nil, wipeE_cons, ↓pN_q, own_q, ownK_o, mutS_q, mutK_o, ↓mApp_q, ↓mAppB_q, ↓mPop_q, popK_v, ↓sSetIx_q, setK_i, ↓eObj_q, ↓eIxS_q, ↓sSetO_q, dAdd_i, dSub_i, dNeg_i, dLt_i, dLe_i, dGt_i, dGe_i, dEq_i, dNe_i, dTru_b, dTru_i, dTru_l, dTru_t, bAbs_i, bInt_i, bLen_l, bLen_t, bLen_s, dIx_l, dIx_t, bMaxD_2, bMinD_2, ↓dTup_q, List.getElem?_cons_zero, List.getElem?_cons_succ, List.set_cons_zero, List.set_cons_succ, if_true, if_false, Bool.false_eq_true, decide_eq_true_eq, decide_eq_false_iff_not, Bool.not_true, Bool.not_false, List.length_cons, List.length_nil, List.map_cons, List.map_nil, dMul_i, dFdiv_i, dMod_i, List.nil_append, Nat.zero_add, Nat.reduceAdd, Nat.reduceLeDiff, Nat.reduceLT, Nat.reduceEqDiff, le_refl_line, and_self, true_and, and_true, bnd_none, Bool.not_eq_true, eq_self, reduceCtorEq, decide_true, decide_false, B.frzs_v, Nat.add_assoc, is_bn, is_bb, show (true == true) = true from rfl, show (false == true) = false from rfl, show (false == false) = true from rfl]
    | int h => simp -implicitDefEqProofs (maxSteps := 1000000) (disch := omega) only [↓bnd_some, bnd_some, eV_q, eVk_v, eVk_o, eW_q, eWk_b, frz_v, frz_o, frzs_nil, frzs_cons, ↓eC_q, ↓e1_q, ↓e2_q, ↓e3_q, e3k_b, ↓eT_q, ↓eTb_q, ↓eTbk_b, eTbk_b, ↓wAnd_q, ↓wOr_q, ↓wNot_q, ↓eAnd_q, ↓eOr_q, ↓eNot_q, ↓eIf_q, ↓eP_q, ↓aNil_q, ↓aCons_q, ↓eL_q, ↓eFz_q, ↓bLst_q, ↓bL_q, ↓b2_q, ↓bCall_q, ↓bPure_q, ↓pV_q, ↓sSeq_q, ↓seqK_nx, seqK_nx, ↓seqK_rt, seqK_rt, ↓seqK_bk, seqK_bk, ↓seqK_ct, seqK_ct, ↓sIf_q, ↓sNil_q, ↓sBk_q, ↓sCt_q, ↓sRet_q, ↓sRetB_q, ↓sRetN_q, ↓sRetV_q, rvK_b, ↓sExp_q, ↓sSet_q, ↓sSetB_q, put_q, ↓sAug_q, augK_v, ↓finK_rt, finK_rt, ↓finK_nx, finK_nx, ↓gN_q, ↓gsNil_q, ↓gsCons_q, ↓gT_q, ↓sAsg_q, ↓iV_q, ↓iA_q, items_lst, items_tup, ↓sFor_q, forL_nil, ↓forK_nx, forK_nx, ↓forK_ct, forK_ct, ↓forK_bk, forK_bk, ↓forK_rt, forK_rt, ↓whK_nx, whK_nx, ↓whK_ct, whK_ct, ↓whK_bk, whK_bk, ↓whK_rt, whK_rt, ↓bLc_q, ↓tYes_q, wipeE_nil, wipeE_cons, ↓pN_q, own_q, ownK_o, mutS_q, mutK_o, ↓mApp_q, ↓mAppB_q, ↓mPop_q, popK_v, ↓sSetIx_q, setK_i, ↓eObj_q, ↓eIxS_q, ↓sSetO_q, dAdd_i, dSub_i, dNeg_i, dLt_i, dLe_i, dGt_i, dGe_i, dEq_i, dNe_i, dTru_b, dTru_i, dTru_l, dTru_t, bAbs_i, bInt_i, bLen_l, bLen_t, bLen_s, dIx_l, dIx_t, bMaxD_2, bMinD_2, ↓dTup_q, List.getElem?_cons_zero, List.getElem?_cons_succ, List.set_cons_zero, List.set_cons_succ, if_true, if_false, Bool.false_eq_true, decide_eq_true_eq, decide_eq_false_iff_not, Bool.not_true, Bool.not_false, List.length_cons, List.length_nil, List.map_cons, List.map_nil, dMul_i, dFdiv_i, dMod_i, List.nil_append, Nat.zero_add, Nat.reduceAdd, Nat.reduceLeDiff, Nat.reduceLT, Nat.reduceEqDiff, le_refl_line, and_self, true_and, and_true, bnd_none, Bool.not_eq_true, eq_self, reduceCtorEq, decide_true, decide_false, B.frzs_v, Nat.add_assoc, is_in, is_ib, isi_ii, isi_is, isi_ib, isi_it, isi_il, repr_i h, eq_s (num_ok _)]
    | str h h2 => simp -implicitDefEqProofs (maxSteps := 1000000) (disch := omega) only [↓bnd_some, bnd_some, eV_q, eVk_v, eVk_o, eW_q, eWk_b, frz_v, frz_o, frzs_nil, frzs_cons, ↓eC_q, ↓e1_q, ↓e2_q, ↓e3_q, e3k_b, ↓eT_q, ↓eTb_q, ↓eTbk_b, eTbk_b, ↓wAnd_q, ↓wOr_q, ↓wNot_q, ↓eAnd_q, ↓eOr_q, ↓eNot_q, ↓eIf_q, ↓eP_q, ↓aNil_q, ↓aCons_q, ↓eL_q, ↓eFz_q, ↓bLst_q, ↓bL_q, ↓b2_q, ↓bCall_q, ↓bPure_q, ↓pV_q, ↓sSeq_q, ↓seqK_nx, seqK_nx, ↓seqK_rt, seqK_rt, ↓seqK_bk, seqK_bk, ↓seqK_ct, seqK_ct, ↓sIf_q, ↓sNil_q, ↓sBk_q, ↓sCt_q, ↓sRet_q, ↓sRetB_q, ↓sRetN_q, ↓sRetV_q, rvK_b, ↓sExp_q, ↓sSet_q, ↓sSetB_q, put_q, ↓sAug_q, augK_v, ↓finK_rt, finK_rt, ↓finK_nx, finK_nx, ↓gN_q, ↓gsNil_q, ↓gsCons_q, ↓gT_q, ↓sAsg_q, ↓iV_q, ↓iA_q, items_lst, items_tup, ↓sFor_q, forL_nil, ↓forK_nx, forK_nx, ↓forK_ct, forK_ct, ↓forK_bk, forK_bk, ↓forK_rt, forK_rt, ↓whK_nx, whK_nx, ↓whK_ct, whK_ct, ↓whK_bk, whK_bk, ↓whK_rt, whK_rt, ↓bLc_q, ↓tYes_q, wipeE_nil, wipeE_cons, ↓pN_q, own_q, ownK_o, mutS_q, mutK_o, ↓mApp_q, ↓mAppB_q, ↓mPop_q, popK_v, ↓sSetIx_q, setK_i, ↓eObj_q, ↓eIxS_q, ↓sSetO_q, dAdd_i, dSub_i, dNeg_i, dLt_i, dLe_i, dGt_i, dGe_i, dEq_i, dNe_i, dTru_b, dTru_i, dTru_l, dTru_t, bAbs_i, bInt_i, bLen_l, bLen_t, bLen_s, dIx_l, dIx_t, bMaxD_2, bMinD_2, ↓dTup_q, List.getElem?_cons_zero, List.getElem?_cons_succ, List.set_cons_zero, List.set_cons_succ, if_true, if_false, Bool.false_eq_true, decide_eq_true_eq, decide_eq_false_iff_not, Bool.not_true, Bool.not_false, List.length_cons, List.length_nil, List.map_cons, List.map_nil, dMul_i, dFdiv_i, dMod_i, List.nil_append, Nat.zero_add, Nat.reduceAdd, Nat.reduceLeDiff, Nat.reduceLT, Nat.reduceEqDiff, le_refl_line, and_self, true_and, and_true, bnd_none, Bool.not_eq_true, eq_self, reduceCtorEq, decide_true, decide_false, B.frzs_v, Nat.add_assoc, is_sn, is_sb, isi_ss, repr_s h, eq_s h2]
  | succ n ih =>
    intro d h S
    rw [q_law_same, b_law_same]
    have loop : ∀ (xs : List D) (c : D) (hc : ∀ i : Nat, i < xs.length → dIx c (.int i) = some (xs[i]?.getD .non)) (hx : ∀ x ∈ xs, Dt n x), ∀ (ks : List Nat) (k : Option B), (∀ i ∈ ks, i < xs.length) → ∃ k', forL (gN 2) (sIf (wNot (eT (eL (pV (R_law_same (n + 1))) (aCons (e2 dIx (eW 0) (eW 2)) (aCons (e2 dIx (eW 1) (eW 2)) aNil))))) (sRet (eC (.bl false))) sNil) (ks.map fun i : Nat => D.int i) ⟨[some (.v c), some (.v c), k], S, true⟩ = some (.nx, ⟨[some (.v c), some (.v c), k'], S, true⟩) := by
      intro xs c hc hx ks
      induction ks with
      | nil => intro k _; exact ⟨k, rfl⟩
      | cons i ks ih2 =>
        intro k hk
        have hi := hk i (List.mem_cons_self ..)
        have e := ih (xs[i]?.getD .non) (hx _ (by rw [List.getElem?_eq_getElem hi]; exact List.getElem_mem hi)) []
        obtain ⟨k', e2⟩ := ih2 (some (.v (.int i))) fun j hj => hk j (List.mem_cons_of_mem _ hj)
        refine ⟨k', ?_⟩
        rw [List.map_cons, forL_cons]
        simp -implicitDefEqProofs (maxSteps := 1000000) (disch := omega) only [↓bnd_some, bnd_some, eV_q, eVk_v, eVk_o, eW_q, eWk_b, frz_v, frz_o, frzs_nil, frzs_cons, ↓eC_q, ↓e1_q, ↓e2_q, ↓e3_q, e3k_b, ↓eT_q, ↓eTb_q, ↓eTbk_b, eTbk_b, ↓wAnd_q, ↓wOr_q, ↓wNot_q, ↓eAnd_q, ↓eOr_q, ↓eNot_q, ↓eIf_q, ↓eP_q, ↓aNil_q, ↓aCons_q, ↓eL_q, ↓eFz_q, ↓bLst_q, ↓bL_q, ↓b2_q, ↓bCall_q, ↓bPure_q, ↓pV_q, ↓sSeq_q, ↓seqK_nx, seqK_nx, ↓seqK_rt, seqK_rt, ↓seqK_bk, seqK_bk, ↓seqK_ct, seqK_ct, ↓sIf_q, ↓sNil_q, ↓sBk_q, ↓sCt_q, ↓sRet_q, ↓sRetB_q, ↓sRetN_q, ↓sRetV_q, rvK_b, ↓sExp_q, ↓sSet_q, ↓sSetB_q, put_q, ↓sAug_q, augK_v, ↓finK_rt, finK_rt, ↓finK_nx, finK_nx, ↓gN_q, ↓gsNil_q, ↓gsCons_q, ↓gT_q, ↓sAsg_q, ↓iV_q, ↓iA_q, items_lst, items_tup, ↓sFor_q, forL_nil, ↓forK_nx, forK_nx, ↓forK_ct, forK_ct, ↓forK_bk, forK_bk, ↓forK_rt, forK_rt, ↓whK_nx, whK_nx, ↓whK_ct, whK_ct, ↓whK_bk, whK_bk, ↓whK_rt, whK_rt, ↓bLc_q, ↓tYes_q, wipeE_nil, wipeE_cons, ↓pN_q, own_q, ownK_o, mutS_q, mutK_o, ↓mApp_q, ↓mAppB_q, ↓mPop_q, popK_v, ↓sSetIx_q, setK_i, ↓eObj_q, ↓eIxS_q, ↓sSetO_q, dAdd_i, dSub_i, dNeg_i, dLt_i, dLe_i, dGt_i, dGe_i, dEq_i, dNe_i, dTru_b, dTru_i, dTru_l, dTru_t, bAbs_i, bInt_i, bLen_l, bLen_t, bLen_s, dIx_l, dIx_t, bMaxD_2, bMinD_2, ↓dTup_q, List.getElem?_cons_zero, List.getElem?_cons_succ, List.set_cons_zero, List.set_cons_succ, if_true, if_false, Bool.false_eq_true, decide_eq_true_eq, decide_eq_false_iff_not, Bool.not_true, Bool.not_false, List.length_cons, List.length_nil, List.map_cons, List.map_nil, dMul_i, dFdiv_i, dMod_i, List.nil_append, Nat.zero_add, Nat.reduceAdd, Nat.reduceLeDiff, Nat.reduceLT, Nat.reduceEqDiff, le_refl_line, and_self, true_and, and_true, bnd_none, Bool.not_eq_true, eq_self, reduceCtorEq, decide_true, decide_false, B.frzs_v, Nat.add_assoc, hc i hi, pF_ok e]
        exact e2
    cases h with
    | non => simp -implicitDefEqProofs (maxSteps := 1000000) (disch := omega) only [↓bnd_some, bnd_some, eV_q, eVk_v, eVk_o, eW_q, eWk_b, frz_v, frz_o, frzs_nil, frzs_cons, ↓eC_q, ↓e1_q, ↓e2_q, ↓e3_q, e3k_b, ↓eT_q, ↓eTb_q, ↓eTbk_b, eTbk_b, ↓wAnd_q, ↓wOr_q, ↓wNot_q, ↓eAnd_q, ↓eOr_q, ↓eNot_q, ↓eIf_q, ↓eP_q, ↓aNil_q, ↓aCons_q, ↓eL_q, ↓eFz_q, ↓bLst_q, ↓bL_q, ↓b2_q, ↓bCall_q, ↓bPure_q, ↓pV_q, ↓sSeq_q, ↓seqK_nx, seqK_nx, ↓seqK_rt, seqK_rt, ↓seqK_bk, seqK_bk, ↓seqK_ct, seqK_ct, ↓sIf_q, ↓sNil_q, ↓sBk_q, ↓sCt_q, ↓sRet_q, ↓sRetB_q, ↓sRetN_q, ↓sRetV_q, rvK_b, ↓sExp_q, ↓sSet_q, ↓sSetB_q, put_q, ↓sAug_q, augK_v, ↓finK_rt, finK_rt, ↓finK_nx, finK_nx, ↓gN_q, ↓gsNil_q, ↓gsCons_q, ↓gT_q, ↓sAsg_q, ↓iV_q, ↓iA_q, items_lst, items_tup, ↓sFor_q, forL_nil, ↓forK_nx, forK_nx, ↓forK_ct, forK_ct, ↓forK_bk, forK_bk, ↓forK_rt, forK_rt, ↓whK_nx, whK_nx, ↓whK_ct, whK_ct, ↓whK_bk, whK_bk, ↓whK_rt, whK_rt, ↓bLc_q, ↓tYes_q, wipeE_nil, wipeE_cons, ↓pN_q, own_q, ownK_o, mutS_q, mutK_o, ↓mApp_q, ↓mAppB_q, ↓mPop_q, popK_v, ↓sSetIx_q, setK_i, ↓eObj_q, ↓eIxS_q, ↓sSetO_q, dAdd_i, dSub_i, dNeg_i, dLt_i, dLe_i, dGt_i, dGe_i, dEq_i, dNe_i, dTru_b, dTru_i, dTru_l, dTru_t, bAbs_i, bInt_i, bLen_l, bLen_t, bLen_s, dIx_l, dIx_t, bMaxD_2, bMinD_2, ↓dTup_q, List.getElem?_cons_zero, List.getElem?_cons_succ, List.set_cons_zero, List.set_cons_succ, if_true, if_false, Bool.false_eq_true, decide_eq_true_eq, decide_eq_false_iff_not, Bool.not_true, Bool.not_false, List.length_cons, List.length_nil, List.map_cons, List.map_nil, dMul_i, dFdiv_i, dMod_i, List.nil_append, Nat.zero_add, Nat.reduceAdd, Nat.reduceLeDiff, Nat.reduceLT, Nat.reduceEqDiff, le_refl_line, and_self, true_and, and_true, bnd_none, Bool.not_eq_true, eq_self, reduceCtorEq, decide_true, decide_false, B.frzs_v, Nat.add_assoc, is_nn]
    | bl => rename_i b; cases b <;> simp -implicitDefEqProofs (maxSteps := 1000000) (disch := omega) only [↓bnd_some, bnd_some, eV_q, eVk_v, eVk_o, eW_q, eWk_b, frz_v, frz_o, frzs_nil, frzs_cons, ↓eC_q, ↓e1_q, ↓e2_q, ↓e3_q, e3k_b, ↓eT_q, ↓eTb_q, ↓eTbk_b, eTbk_b, ↓wAnd_q, ↓wOr_q, ↓wNot_q, ↓eAnd_q, ↓eOr_q, ↓eNot_q, ↓eIf_q, ↓eP_q, ↓aNil_q, ↓aCons_q, ↓eL_q, ↓eFz_q, ↓bLst_q, ↓bL_q, ↓b2_q, ↓bCall_q, ↓bPure_q, ↓pV_q, ↓sSeq_q, ↓seqK_nx, seqK_nx, ↓seqK_rt, seqK_rt, ↓seqK_bk, seqK_bk, ↓seqK_ct, seqK_ct, ↓sIf_q, ↓sNil_q, ↓sBk_q, ↓sCt_q, ↓sRet_q, ↓sRetB_q, ↓sRetN_q, ↓sRetV_q, rvK_b, ↓sExp_q, ↓sSet_q, ↓sSetB_q, put_q, ↓sAug_q, augK_v, ↓finK_rt, finK_rt, ↓finK_nx, finK_nx, ↓gN_q, ↓gsNil_q, ↓gsCons_q, ↓gT_q, ↓sAsg_q, ↓iV_q, ↓iA_q, items_lst, items_tup, ↓sFor_q, forL_nil, ↓forK_nx, forK_nx, ↓forK_ct, forK_ct, ↓forK_bk, forK_bk, ↓forK_rt, forK_rt, ↓whK_nx, whK_nx, ↓whK_ct, whK_ct, ↓whK_bk, whK_bk, ↓whK_rt, whK_rt, ↓bLc_q, ↓tYes_q, wipeE_nil, wipeE_cons, ↓pN_q, own_q, ownK_o, mutS_q, mutK_o, ↓mApp_q, ↓mAppB_q, ↓mPop_q, popK_v, ↓sSetIx_q, setK_i, ↓eObj_q, ↓eIxS_q, ↓sSetO_q, dAdd_i, dSub_i, dNeg_i, dLt_i, dLe_i, dGt_i, dGe_i, dEq_i, dNe_i, dTru_b, dTru_i, dTru_l, dTru_t, bAbs_i, bInt_i, bLen_l, bLen_t, bLen_s, dIx_l, dIx_t, bMaxD_2, bMinD_2, ↓dTup_q, List.getElem?_cons_zero, List.getElem?_cons_succ, List.set_cons_zero, List.set_cons_succ, if_true, if_false, Bool.false_eq_true, decide_eq_true_eq, decide_eq_false_iff_not, Bool.not_true, Bool.not_false, List.length_cons, List.length_nil, List.map_cons, List.map_nil, dMul_i, dFdiv_i, dMod_i, List.nil_append, Nat.zero_add, Nat.reduceAdd, Nat.reduceLeDiff, Nat.reduceLT, Nat.reduceEqDiff, le_refl_line, and_self, true_and, and_true, bnd_none, Bool.not_eq_true, eq_self, reduceCtorEq, decide_true, decide_false, B.frzs_v, Nat.add_assoc, is_bn, is_bb, show (true == true) = true from rfl, show (false == true) = false from rfl, show (false == false) = true from rfl]
    | int h => simp -implicitDefEqProofs (maxSteps := 1000000) (disch := omega) only [↓bnd_some, bnd_some, eV_q, eVk_v, eVk_o, eW_q, eWk_b, frz_v, frz_o, frzs_nil, frzs_cons, ↓eC_q, ↓e1_q, ↓e2_q, ↓e3_q, e3k_b, ↓eT_q, ↓eTb_q, ↓eTbk_b, eTbk_b, ↓wAnd_q, ↓wOr_q, ↓wNot_q, ↓eAnd_q, ↓eOr_q, ↓eNot_q, ↓eIf_q, ↓eP_q, ↓aNil_q, ↓aCons_q, ↓eL_q, ↓eFz_q, ↓bLst_q, ↓bL_q, ↓b2_q, ↓bCall_q, ↓bPure_q, ↓pV_q, ↓sSeq_q, ↓seqK_nx, seqK_nx, ↓seqK_rt, seqK_rt, ↓seqK_bk, seqK_bk, ↓seqK_ct, seqK_ct, ↓sIf_q, ↓sNil_q, ↓sBk_q, ↓sCt_q, ↓sRet_q, ↓sRetB_q, ↓sRetN_q, ↓sRetV_q, rvK_b, ↓sExp_q, ↓sSet_q, ↓sSetB_q, put_q, ↓sAug_q, augK_v, ↓finK_rt, finK_rt, ↓finK_nx, finK_nx, ↓gN_q, ↓gsNil_q, ↓gsCons_q, ↓gT_q, ↓sAsg_q, ↓iV_q, ↓iA_q, items_lst, items_tup, ↓sFor_q, forL_nil, ↓forK_nx, forK_nx, ↓forK_ct, forK_ct, ↓forK_bk, forK_bk, ↓forK_rt, forK_rt, ↓whK_nx, whK_nx, ↓whK_ct, whK_ct, ↓whK_bk, whK_bk, ↓whK_rt, whK_rt, ↓bLc_q, ↓tYes_q, wipeE_nil, wipeE_cons, ↓pN_q, own_q, ownK_o, mutS_q, mutK_o, ↓mApp_q, ↓mAppB_q, ↓mPop_q, popK_v, ↓sSetIx_q, setK_i, ↓eObj_q, ↓eIxS_q, ↓sSetO_q, dAdd_i, dSub_i, dNeg_i, dLt_i, dLe_i, dGt_i, dGe_i, dEq_i, dNe_i, dTru_b, dTru_i, dTru_l, dTru_t, bAbs_i, bInt_i, bLen_l, bLen_t, bLen_s, dIx_l, dIx_t, bMaxD_2, bMinD_2, ↓dTup_q, List.getElem?_cons_zero, List.getElem?_cons_succ, List.set_cons_zero, List.set_cons_succ, if_true, if_false, Bool.false_eq_true, decide_eq_true_eq, decide_eq_false_iff_not, Bool.not_true, Bool.not_false, List.length_cons, List.length_nil, List.map_cons, List.map_nil, dMul_i, dFdiv_i, dMod_i, List.nil_append, Nat.zero_add, Nat.reduceAdd, Nat.reduceLeDiff, Nat.reduceLT, Nat.reduceEqDiff, le_refl_line, and_self, true_and, and_true, bnd_none, Bool.not_eq_true, eq_self, reduceCtorEq, decide_true, decide_false, B.frzs_v, Nat.add_assoc, is_in, is_ib, isi_ii, isi_is, isi_ib, isi_it, isi_il, repr_i h, eq_s (num_ok _)]
    | str h h2 => simp -implicitDefEqProofs (maxSteps := 1000000) (disch := omega) only [↓bnd_some, bnd_some, eV_q, eVk_v, eVk_o, eW_q, eWk_b, frz_v, frz_o, frzs_nil, frzs_cons, ↓eC_q, ↓e1_q, ↓e2_q, ↓e3_q, e3k_b, ↓eT_q, ↓eTb_q, ↓eTbk_b, eTbk_b, ↓wAnd_q, ↓wOr_q, ↓wNot_q, ↓eAnd_q, ↓eOr_q, ↓eNot_q, ↓eIf_q, ↓eP_q, ↓aNil_q, ↓aCons_q, ↓eL_q, ↓eFz_q, ↓bLst_q, ↓bL_q, ↓b2_q, ↓bCall_q, ↓bPure_q, ↓pV_q, ↓sSeq_q, ↓seqK_nx, seqK_nx, ↓seqK_rt, seqK_rt, ↓seqK_bk, seqK_bk, ↓seqK_ct, seqK_ct, ↓sIf_q, ↓sNil_q, ↓sBk_q, ↓sCt_q, ↓sRet_q, ↓sRetB_q, ↓sRetN_q, ↓sRetV_q, rvK_b, ↓sExp_q, ↓sSet_q, ↓sSetB_q, put_q, ↓sAug_q, augK_v, ↓finK_rt, finK_rt, ↓finK_nx, finK_nx, ↓gN_q, ↓gsNil_q, ↓gsCons_q, ↓gT_q, ↓sAsg_q, ↓iV_q, ↓iA_q, items_lst, items_tup, ↓sFor_q, forL_nil, ↓forK_nx, forK_nx, ↓forK_ct, forK_ct, ↓forK_bk, forK_bk, ↓forK_rt, forK_rt, ↓whK_nx, whK_nx, ↓whK_ct, whK_ct, ↓whK_bk, whK_bk, ↓whK_rt, whK_rt, ↓bLc_q, ↓tYes_q, wipeE_nil, wipeE_cons, ↓pN_q, own_q, ownK_o, mutS_q, mutK_o, ↓mApp_q, ↓mAppB_q, ↓mPop_q, popK_v, ↓sSetIx_q, setK_i, ↓eObj_q, ↓eIxS_q, ↓sSetO_q, dAdd_i, dSub_i, dNeg_i, dLt_i, dLe_i, dGt_i, dGe_i, dEq_i, dNe_i, dTru_b, dTru_i, dTru_l, dTru_t, bAbs_i, bInt_i, bLen_l, bLen_t, bLen_s, dIx_l, dIx_t, bMaxD_2, bMinD_2, ↓dTup_q, List.getElem?_cons_zero, List.getElem?_cons_succ, List.set_cons_zero, List.set_cons_succ, if_true, if_false, Bool.false_eq_true, decide_eq_true_eq, decide_eq_false_iff_not, Bool.not_true, Bool.not_false, List.length_cons, List.length_nil, List.map_cons, List.map_nil, dMul_i, dFdiv_i, dMod_i, List.nil_append, Nat.zero_add, Nat.reduceAdd, Nat.reduceLeDiff, Nat.reduceLT, Nat.reduceEqDiff, le_refl_line, and_self, true_and, and_true, bnd_none, Bool.not_eq_true, eq_self, reduceCtorEq, decide_true, decide_false, B.frzs_v, Nat.add_assoc, is_sn, is_sb, isi_ss, repr_s h, eq_s h2]
    | @lst _ xs h hl =>
      have hc : ∀ i : Nat, i < xs.length → dIx (.lst xs) (.int i) = some (xs[i]?.getD .non) := fun i hi => by
        rw [dIx_l, atI_nn (by omega)]
        simp [hi]
      obtain ⟨k', e⟩ := loop xs (.lst xs) hc h (List.range xs.length) none fun i hi => List.mem_range.mp hi
      have r : dRange1 [.int (xs.length : Int)] = some ((List.range xs.length).map fun i : Nat => .int i) := by
        rw [rng1 (by omega) (by omega)]; rfl
      simp -implicitDefEqProofs (maxSteps := 1000000) (disch := omega) only [↓bnd_some, bnd_some, eV_q, eVk_v, eVk_o, eW_q, eWk_b, frz_v, frz_o, frzs_nil, frzs_cons, ↓eC_q, ↓e1_q, ↓e2_q, ↓e3_q, e3k_b, ↓eT_q, ↓eTb_q, ↓eTbk_b, eTbk_b, ↓wAnd_q, ↓wOr_q, ↓wNot_q, ↓eAnd_q, ↓eOr_q, ↓eNot_q, ↓eIf_q, ↓eP_q, ↓aNil_q, ↓aCons_q, ↓eL_q, ↓eFz_q, ↓bLst_q, ↓bL_q, ↓b2_q, ↓bCall_q, ↓bPure_q, ↓pV_q, ↓sSeq_q, ↓seqK_nx, seqK_nx, ↓seqK_rt, seqK_rt, ↓seqK_bk, seqK_bk, ↓seqK_ct, seqK_ct, ↓sIf_q, ↓sNil_q, ↓sBk_q, ↓sCt_q, ↓sRet_q, ↓sRetB_q, ↓sRetN_q, ↓sRetV_q, rvK_b, ↓sExp_q, ↓sSet_q, ↓sSetB_q, put_q, ↓sAug_q, augK_v, ↓finK_rt, finK_rt, ↓finK_nx, finK_nx, ↓gN_q, ↓gsNil_q, ↓gsCons_q, ↓gT_q, ↓sAsg_q, ↓iV_q, ↓iA_q, items_lst, items_tup, ↓sFor_q, forL_nil, ↓forK_nx, forK_nx, ↓forK_ct, forK_ct, ↓forK_bk, forK_bk, ↓forK_rt, forK_rt, ↓whK_nx, whK_nx, ↓whK_ct, whK_ct, ↓whK_bk, whK_bk, ↓whK_rt, whK_rt, ↓bLc_q, ↓tYes_q, wipeE_nil, wipeE_cons, ↓pN_q, own_q, ownK_o, mutS_q, mutK_o, ↓mApp_q, ↓mAppB_q, ↓mPop_q, popK_v, ↓sSetIx_q, setK_i, ↓eObj_q, ↓eIxS_q, ↓sSetO_q, dAdd_i, dSub_i, dNeg_i, dLt_i, dLe_i, dGt_i, dGe_i, dEq_i, dNe_i, dTru_b, dTru_i, dTru_l, dTru_t, bAbs_i, bInt_i, bLen_l, bLen_t, bLen_s, dIx_l, dIx_t, bMaxD_2, bMinD_2, ↓dTup_q, List.getElem?_cons_zero, List.getElem?_cons_succ, List.set_cons_zero, List.set_cons_succ, if_true, if_false, Bool.false_eq_true, decide_eq_true_eq, decide_eq_false_iff_not, Bool.not_true, Bool.not_false, List.length_cons, List.length_nil, List.map_cons, List.map_nil, dMul_i, dFdiv_i, dMod_i, List.nil_append, Nat.zero_add, Nat.reduceAdd, Nat.reduceLeDiff, Nat.reduceLT, Nat.reduceEqDiff, le_refl_line, and_self, true_and, and_true, bnd_none, Bool.not_eq_true, eq_self, reduceCtorEq, decide_true, decide_false, B.frzs_v, Nat.add_assoc, is_ln, is_lb, isi_ls, isi_li, isi_lt, isi_ll, dNe_i, r, e]
    | @tup _ xs h hl =>
      have hc : ∀ i : Nat, i < xs.length → dIx (.tup xs) (.int i) = some (xs[i]?.getD .non) := fun i hi => by
        rw [dIx_t, atI_nn (by omega)]
        simp [hi]
      obtain ⟨k', e⟩ := loop xs (.tup xs) hc h (List.range xs.length) none fun i hi => List.mem_range.mp hi
      have r : dRange1 [.int (xs.length : Int)] = some ((List.range xs.length).map fun i : Nat => .int i) := by
        rw [rng1 (by omega) (by omega)]; rfl
      simp -implicitDefEqProofs (maxSteps := 1000000) (disch := omega) only [↓bnd_some, bnd_some, eV_q, eVk_v, eVk_o, eW_q, eWk_b, frz_v, frz_o, frzs_nil, frzs_cons, ↓eC_q, ↓e1_q, ↓e2_q, ↓e3_q, e3k_b, ↓eT_q, ↓eTb_q, ↓eTbk_b, eTbk_b, ↓wAnd_q, ↓wOr_q, ↓wNot_q, ↓eAnd_q, ↓eOr_q, ↓eNot_q, ↓eIf_q, ↓eP_q, ↓aNil_q, ↓aCons_q, ↓eL_q, ↓eFz_q, ↓bLst_q, ↓bL_q, ↓b2_q, ↓bCall_q, ↓bPure_q, ↓pV_q, ↓sSeq_q, ↓seqK_nx, seqK_nx, ↓seqK_rt, seqK_rt, ↓seqK_bk, seqK_bk, ↓seqK_ct, seqK_ct, ↓sIf_q, ↓sNil_q, ↓sBk_q, ↓sCt_q, ↓sRet_q, ↓sRetB_q, ↓sRetN_q, ↓sRetV_q, rvK_b, ↓sExp_q, ↓sSet_q, ↓sSetB_q, put_q, ↓sAug_q, augK_v, ↓finK_rt, finK_rt, ↓finK_nx, finK_nx, ↓gN_q, ↓gsNil_q, ↓gsCons_q, ↓gT_q, ↓sAsg_q, ↓iV_q, ↓iA_q, items_lst, items_tup, ↓sFor_q, forL_nil, ↓forK_nx, forK_nx, ↓forK_ct, forK_ct, ↓forK_bk, forK_bk, ↓forK_rt, forK_rt, ↓whK_nx, whK_nx, ↓whK_ct, whK_ct, ↓whK_bk, whK_bk, ↓whK_rt, whK_rt, ↓bLc_q, ↓tYes_q, wipeE_nil, wipeE_cons, ↓pN_q, own_q, ownK_o, mutS_q, mutK_o, ↓mApp_q, ↓mAppB_q, ↓mPop_q, popK_v, ↓sSetIx_q, setK_i, ↓eObj_q, ↓eIxS_q, ↓sSetO_q, dAdd_i, dSub_i, dNeg_i, dLt_i, dLe_i, dGt_i, dGe_i, dEq_i, dNe_i, dTru_b, dTru_i, dTru_l, dTru_t, bAbs_i, bInt_i, bLen_l, bLen_t, bLen_s, dIx_l, dIx_t, bMaxD_2, bMinD_2, ↓dTup_q, List.getElem?_cons_zero, List.getElem?_cons_succ, List.set_cons_zero, List.set_cons_succ, if_true, if_false, Bool.false_eq_true, decide_eq_true_eq, decide_eq_false_iff_not, Bool.not_true, Bool.not_false, List.length_cons, List.length_nil, List.map_cons, List.map_nil, dMul_i, dFdiv_i, dMod_i, List.nil_append, Nat.zero_add, Nat.reduceAdd, Nat.reduceLeDiff, Nat.reduceLT, Nat.reduceEqDiff, le_refl_line, and_self, true_and, and_true, bnd_none, Bool.not_eq_true, eq_self, reduceCtorEq, decide_true, decide_false, B.frzs_v, Nat.add_assoc, is_tn, is_tb, isi_ts, isi_ti, isi_tt, isi_tl, dNe_i, r, e]
/-- told as due -/
theorem same_ok {d : D} (h : Dt 9 d) : pF F_law_same [d, d] = some (.v (.bl true)) := pF_ok (S := []) (same_R 9 d h [])
theorem same_v {d : D} (h : Dt 9 d) : pV F_law_same [d, d] = some (.bl true) := pV_ok (same_ok h)
/-! ### the digits of a script -/
def Bits (ns : List Int) : Prop := ∀ z ∈ ns, Builtin.Int.intBits z ≤ 1048576
def Dig (ds : List Int) : Prop := (∀ x ∈ ds, 0 ≤ x ∧ x < 1000) ∧ ds.length ≤ 10 ^ 6
theorem Dig.snoc {ds : List Int} {x : Int} (h : ∀ x ∈ ds, 0 ≤ x ∧ x < 1000) (hx : 0 ≤ x ∧ x < 1000) : ∀ y ∈ ds ++ [x], 0 ≤ y ∧ y < 1000 := fun y hy => by
  rcases List.mem_append.mp hy with h1 | h1
  · exact h y h1
  · cases List.mem_singleton.mp h1; exact hx
theorem map_snoc {ds : List Int} {x : Int} : ds.map (fun i => B.v (.int i)) ++ [B.v (.int x)] = (ds ++ [x]).map fun i => B.v (.int i) := by simp
theorem mul2_ok {z : Int} (h : Builtin.Int.intBits z ≤ 1048576) : dMul (.int 2) (.int z) = some (.int (2 * z)) := by
  have hb : z.natAbs.log2 ≤ 1048576 := by
    unfold Builtin.Int.intBits at h
    split at h
    · rename_i h0
      have : z.natAbs = 0 := by simpa using h0
      rw [this]; decide
    · omega
  have e2 : (2 : Int).natAbs.log2 = 1 := by decide
  simp only [dMul]
  rw [if_pos (.inr (by rw [e2]; omega))]
/-- what the digits' inner turns leave -/
def digS (ns : List Int) (a b : Int) (ds : List Int) (c k t e : Option B) : Sta := ⟨[some (.v (.scr ns)), some (.v (.int a)), some (.v (.int b)), some (.o (ds.map fun i => .v (.int i))), k, c, t, e], [], true⟩
theorem dig_big {ns : List Int} {a b : Int} {k e : Option B} (f : EvS) (hf : f = sIf (eTb (e2 dGt (eW 5) (eC (.int 0)))) (sSeq (sExp (mApp 3 (pN 3) (e2 dMod (eL bInt (aCons (eV 5) aNil)) (eC (.int 1000))))) (sSet 5 (e2 dFdiv (eV 5) (eC (.int 1000))))) sNil) : ∀ (ts : List D) (ds : List Int) (c : Int) (t : Option B), (∀ x ∈ ds, 0 ≤ x ∧ x < 1000) → ds.length + ts.length < 10 ^ 6 → ∃ ds' c' t', forL (gN 6) f ts (digS ns a b ds (some (.v (.int c))) k t e) = some (.nx, digS ns a b ds' (some (.v (.int c'))) k t' e) ∧ (∀ x ∈ ds', 0 ≤ x ∧ x < 1000) ∧ ds'.length ≤ ds.length + ts.length := by
  subst hf
  intro ts
  induction ts with
  | nil => intro ds c t h hl; exact ⟨ds, c, t, rfl, h, by simp⟩
  | cons d ts ih =>
    intro ds c t h hl
    rw [List.length_cons] at hl
    rw [forL_cons]
    unfold digS
    by_cases hc : 0 < c
    · obtain ⟨ds', c', t', e1, e2, e3⟩ := ih (ds ++ [c % 1000]) (c / 1000) (some (.v d)) (Dig.snoc h ⟨by omega, by omega⟩) (by simp; omega)
      refine ⟨ds', c', t', ?_, e2, by simp at e3 ⊢; omega⟩
      simp -implicitDefEqProofs (maxSteps := 1000000) (disch := omega) only [↓bnd_some, bnd_some, eV_q, eVk_v, eVk_o, eW_q, eWk_b, frz_v, frz_o, frzs_nil, frzs_cons, ↓eC_q, ↓e1_q, ↓e2_q, ↓e3_q, e3k_b, ↓eT_q, ↓eTb_q, ↓eTbk_b, eTbk_b, ↓wAnd_q, ↓wOr_q, ↓wNot_q, ↓eAnd_q, ↓eOr_q, ↓eNot_q, ↓eIf_q, ↓eP_q, ↓aNil_q, ↓aCons_q, ↓eL_q, ↓eFz_q, ↓bLst_q, ↓bL_q, ↓b2_q, ↓bCall_q, ↓bPure_q, ↓pV_q, ↓sSeq_q, ↓seqK_nx, seqK_nx, ↓seqK_rt, seqK_rt, ↓seqK_bk, seqK_bk, ↓seqK_ct, seqK_ct, ↓sIf_q, ↓sNil_q, ↓sBk_q, ↓sCt_q, ↓sRet_q, ↓sRetB_q, ↓sRetN_q, ↓sRetV_q, rvK_b, ↓sExp_q, ↓sSet_q, ↓sSetB_q, put_q, ↓sAug_q, augK_v, ↓finK_rt, finK_rt, ↓finK_nx, finK_nx, ↓gN_q, ↓gsNil_q, ↓gsCons_q, ↓gT_q, ↓sAsg_q, ↓iV_q, ↓iA_q, items_lst, items_tup, ↓sFor_q, forL_nil, ↓forK_nx, forK_nx, ↓forK_ct, forK_ct, ↓forK_bk, forK_bk, ↓forK_rt, forK_rt, ↓whK_nx, whK_nx, ↓whK_ct, whK_ct, ↓whK_bk, whK_bk, ↓whK_rt, whK_rt, ↓bLc_q, ↓tYes_q, wipeE_nil, wipeE_cons, ↓pN_q, own_q, ownK_o, mutS_q, mutK_o, ↓mApp_q, ↓mAppB_q, ↓mPop_q, popK_v, ↓sSetIx_q, setK_i, ↓eObj_q, ↓eIxS_q, ↓sSetO_q, dAdd_i, dSub_i, dNeg_i, dLt_i, dLe_i, dGt_i, dGe_i, dEq_i, dNe_i, dTru_b, dTru_i, dTru_l, dTru_t, bAbs_i, bInt_i, bLen_l, bLen_t, bLen_s, dIx_l, dIx_t, bMaxD_2, bMinD_2, ↓dTup_q, List.getElem?_cons_zero, List.getElem?_cons_succ, List.set_cons_zero, List.set_cons_succ, if_true, if_false, Bool.false_eq_true, decide_eq_true_eq, decide_eq_false_iff_not, Bool.not_true, Bool.not_false, List.length_cons, List.length_nil, List.map_cons, List.map_nil, dMul_i, dFdiv_i, dMod_i, List.nil_append, Nat.zero_add, Nat.reduceAdd, Nat.reduceLeDiff, Nat.reduceLT, Nat.reduceEqDiff, le_refl_line, and_self, true_and, and_true, bnd_none, Bool.not_eq_true, eq_self, reduceCtorEq, decide_true, decide_false, B.frzs_v, Nat.add_assoc, hc, List.length_map, lt_line (show ds.length < 10 ^ 6 by omega), map_snoc]
      exact e1
    · obtain ⟨ds', c', t', e1, e2, e3⟩ := ih ds c (some (.v d)) h (by omega)
      refine ⟨ds', c', t', ?_, e2, by simp at e3 ⊢; omega⟩
      simp -implicitDefEqProofs (maxSteps := 1000000) (disch := omega) only [↓bnd_some, bnd_some, eV_q, eVk_v, eVk_o, eW_q, eWk_b, frz_v, frz_o, frzs_nil, frzs_cons, ↓eC_q, ↓e1_q, ↓e2_q, ↓e3_q, e3k_b, ↓eT_q, ↓eTb_q, ↓eTbk_b, eTbk_b, ↓wAnd_q, ↓wOr_q, ↓wNot_q, ↓eAnd_q, ↓eOr_q, ↓eNot_q, ↓eIf_q, ↓eP_q, ↓aNil_q, ↓aCons_q, ↓eL_q, ↓eFz_q, ↓bLst_q, ↓bL_q, ↓b2_q, ↓bCall_q, ↓bPure_q, ↓pV_q, ↓sSeq_q, ↓seqK_nx, seqK_nx, ↓seqK_rt, seqK_rt, ↓seqK_bk, seqK_bk, ↓seqK_ct, seqK_ct, ↓sIf_q, ↓sNil_q, ↓sBk_q, ↓sCt_q, ↓sRet_q, ↓sRetB_q, ↓sRetN_q, ↓sRetV_q, rvK_b, ↓sExp_q, ↓sSet_q, ↓sSetB_q, put_q, ↓sAug_q, augK_v, ↓finK_rt, finK_rt, ↓finK_nx, finK_nx, ↓gN_q, ↓gsNil_q, ↓gsCons_q, ↓gT_q, ↓sAsg_q, ↓iV_q, ↓iA_q, items_lst, items_tup, ↓sFor_q, forL_nil, ↓forK_nx, forK_nx, ↓forK_ct, forK_ct, ↓forK_bk, forK_bk, ↓forK_rt, forK_rt, ↓whK_nx, whK_nx, ↓whK_ct, whK_ct, ↓whK_bk, whK_bk, ↓whK_rt, whK_rt, ↓bLc_q, ↓tYes_q, wipeE_nil, wipeE_cons, ↓pN_q, own_q, ownK_o, mutS_q, mutK_o, ↓mApp_q, ↓mAppB_q, ↓mPop_q, popK_v, ↓sSetIx_q, setK_i, ↓eObj_q, ↓eIxS_q, ↓sSetO_q, dAdd_i, dSub_i, dNeg_i, dLt_i, dLe_i, dGt_i, dGe_i, dEq_i, dNe_i, dTru_b, dTru_i, dTru_l, dTru_t, bAbs_i, bInt_i, bLen_l, bLen_t, bLen_s, dIx_l, dIx_t, bMaxD_2, bMinD_2, ↓dTup_q, List.getElem?_cons_zero, List.getElem?_cons_succ, List.set_cons_zero, List.set_cons_succ, if_true, if_false, Bool.false_eq_true, decide_eq_true_eq, decide_eq_false_iff_not, Bool.not_true, Bool.not_false, List.length_cons, List.length_nil, List.map_cons, List.map_nil, dMul_i, dFdiv_i, dMod_i, List.nil_append, Nat.zero_add, Nat.reduceAdd, Nat.reduceLeDiff, Nat.reduceLT, Nat.reduceEqDiff, le_refl_line, and_self, true_and, and_true, bnd_none, Bool.not_eq_true, eq_self, reduceCtorEq, decide_true, decide_false, B.frzs_v, Nat.add_assoc, hc]
      exact e1
theorem dig_small {ns : List Int} {a b : Int} {k c : Option B} (f : EvS) (hf : f = sSeq (sSet 7 (e2 dMod (eL bInt (aCons (e2 dAdd (e2 dAdd (e2 dMul (eV 7) (eC (.int 16807))) (e2 dMul (eC (.int 7)) (eV 6))) (eC (.int 1))) aNil)) (eC (.int 2147483647)))) (sExp (mApp 3 (pN 3) (e2 dMod (eL bInt (aCons (e2 dFdiv (eV 7) (eC (.int 997))) aNil)) (eC (.int 1000)))))) : ∀ (ts : List Nat) (ds : List Int) (z : Int) (t : Option B), (∀ x ∈ ds, 0 ≤ x ∧ x < 1000) → ds.length + ts.length < 10 ^ 6 → (∀ x ∈ ts, x < 100) → 0 ≤ z ∧ z < 2147483647 → ∃ ds' z' t', forL (gN 6) f (ts.map fun i : Nat => .int i) (digS ns a b ds c k t (some (.v (.int z)))) = some (.nx, digS ns a b ds' c k t' (some (.v (.int z')))) ∧ (∀ x ∈ ds', 0 ≤ x ∧ x < 1000) ∧ ds'.length ≤ ds.length + ts.length := by
  subst hf
  intro ts
  induction ts with
  | nil => intro ds z t h hl _ _; exact ⟨ds, z, t, rfl, h, by simp⟩
  | cons d ts ih =>
    intro ds z t h hl ht hz
    rw [List.length_cons] at hl
    have hd := ht d (List.mem_cons_self ..)
    rw [List.map_cons, forL_cons]
    unfold digS
    obtain ⟨ds', z', t', e1, e2, e3⟩ := ih (ds ++ [(z * 16807 + 7 * (d : Int) + 1) % 2147483647 / 997 % 1000]) ((z * 16807 + 7 * (d : Int) + 1) % 2147483647) (some (.v (.int d))) (Dig.snoc h ⟨by omega, by omega⟩) (by simp; omega) (fun x hx => ht x (List.mem_cons_of_mem _ hx)) ⟨by omega, by omega⟩
    refine ⟨ds', z', t', ?_, e2, by simp at e3 ⊢; omega⟩
    simp -implicitDefEqProofs (maxSteps := 1000000) (disch := omega) only [↓bnd_some, bnd_some, eV_q, eVk_v, eVk_o, eW_q, eWk_b, frz_v, frz_o, frzs_nil, frzs_cons, ↓eC_q, ↓e1_q, ↓e2_q, ↓e3_q, e3k_b, ↓eT_q, ↓eTb_q, ↓eTbk_b, eTbk_b, ↓wAnd_q, ↓wOr_q, ↓wNot_q, ↓eAnd_q, ↓eOr_q, ↓eNot_q, ↓eIf_q, ↓eP_q, ↓aNil_q, ↓aCons_q, ↓eL_q, ↓eFz_q, ↓bLst_q, ↓bL_q, ↓b2_q, ↓bCall_q, ↓bPure_q, ↓pV_q, ↓sSeq_q, ↓seqK_nx, seqK_nx, ↓seqK_rt, seqK_rt, ↓seqK_bk, seqK_bk, ↓seqK_ct, seqK_ct, ↓sIf_q, ↓sNil_q, ↓sBk_q, ↓sCt_q, ↓sRet_q, ↓sRetB_q, ↓sRetN_q, ↓sRetV_q, rvK_b, ↓sExp_q, ↓sSet_q, ↓sSetB_q, put_q, ↓sAug_q, augK_v, ↓finK_rt, finK_rt, ↓finK_nx, finK_nx, ↓gN_q, ↓gsNil_q, ↓gsCons_q, ↓gT_q, ↓sAsg_q, ↓iV_q, ↓iA_q, items_lst, items_tup, ↓sFor_q, forL_nil, ↓forK_nx, forK_nx, ↓forK_ct, forK_ct, ↓forK_bk, forK_bk, ↓forK_rt, forK_rt, ↓whK_nx, whK_nx, ↓whK_ct, whK_ct, ↓whK_bk, whK_bk, ↓whK_rt, whK_rt, ↓bLc_q, ↓tYes_q, wipeE_nil, wipeE_cons, ↓pN_q, own_q, ownK_o, mutS_q, mutK_o, ↓mApp_q, ↓mAppB_q, ↓mPop_q, popK_v, ↓sSetIx_q, setK_i, ↓eObj_q, ↓eIxS_q, ↓sSetO_q, dAdd_i, dSub_i, dNeg_i, dLt_i, dLe_i, dGt_i, dGe_i, dEq_i, dNe_i, dTru_b, dTru_i, dTru_l, dTru_t, bAbs_i, bInt_i, bLen_l, bLen_t, bLen_s, dIx_l, dIx_t, bMaxD_2, bMinD_2, ↓dTup_q, List.getElem?_cons_zero, List.getElem?_cons_succ, List.set_cons_zero, List.set_cons_succ, if_true, if_false, Bool.false_eq_true, decide_eq_true_eq, decide_eq_false_iff_not, Bool.not_true, Bool.not_false, List.length_cons, List.length_nil, List.map_cons, List.map_nil, dMul_i, dFdiv_i, dMod_i, List.nil_append, Nat.zero_add, Nat.reduceAdd, Nat.reduceLeDiff, Nat.reduceLT, Nat.reduceEqDiff, le_refl_line, and_self, true_and, and_true, bnd_none, Bool.not_eq_true, eq_self, reduceCtorEq, decide_true, decide_false, B.frzs_v, Nat.add_assoc, List.length_map, lt_line (show ds.length < 10 ^ 6 by omega), map_snoc]
    exact e1
def digG : EvS := (sIf (eTb (e2 dGt (eW 5) (eC (.int 0)))) (sSeq (sExp (mApp 3 (pN 3) (e2 dMod (eL bInt (aCons (eV 5) aNil)) (eC (.int 1000))))) (sSet 5 (e2 dFdiv (eV 5) (eC (.int 1000))))) sNil)
def digL : EvS := (sSeq (sSet 7 (e2 dMod (eL bInt (aCons (e2 dAdd (e2 dAdd (e2 dMul (eV 7) (eC (.int 16807))) (e2 dMul (eC (.int 7)) (eV 6))) (eC (.int 1))) aNil)) (eC (.int 2147483647)))) (sExp (mApp 3 (pN 3) (e2 dMod (eL bInt (aCons (e2 dFdiv (eV 7) (eC (.int 997))) aNil)) (eC (.int 1000))))))
def digR : EvS := (sIf (eTb (e2 dGe (eW 5) (e2 dPow (eC (.int 10)) (eC (.int 18))))) (sFor (iA dRange1 (aCons (eC (.int 60)) aNil)) (gN 6) digG) (sSeq (sSet 7 (e2 dMod (eL bInt (aCons (e2 dAdd (e2 dAdd (e2 dMul (eV 5) (eC (.int 48271))) (e2 dMul (eV 4) (eC (.int 69621)))) (eC (.int 11))) aNil)) (eC (.int 2147483647)))) (sFor (iA dRange1 (aCons (eC (.int 12)) aNil)) (gN 6) digL)))
def digB : EvS := (sSeq (sSet 5 (eL (pV (F_law_cell)) (aCons (eV 0) (aCons (eV 4) aNil)))) (sSeq (sIf (eTb (e2 dLt (eW 5) (eC (.int 0)))) (sSet 5 (e2 dSub (eC (.int 1)) (e2 dMul (eC (.int 2)) (eV 5)))) sNil) digR))
theorem b_digits_eq : b_law_digits = (sSeq (sSetB 3 (bLst aNil)) (sSeq (sFor (iA dRange2 (aCons (eV 1) (aCons (eV 2) aNil))) (gN 4) digB) (sRet (eV 3)))) := rfl
theorem range_lt {n m : Nat} (h : n ≤ m) : ∀ x ∈ List.range n, x < m := fun x hx => Nat.lt_of_lt_of_le (List.mem_range.mp hx) h
theorem pow18 : dPow (.int 10) (.int 18) = some (.int 1000000000000000000) := rfl
theorem dig_step {ns : List Int} (hb : Bits ns) {a b : Int} {i : Nat} (hi : i ≤ 2000) {ds : List Int} {c k t e : Option B} (h : ∀ x ∈ ds, 0 ≤ x ∧ x < 1000) (hl : ds.length + 60 < 10 ^ 6) :
    ∃ ds' c' k' t' e', @bnd _ _ (gN 4 (.int i) (digS ns a b ds c k t e)) ⟨digB⟩ = some (.nx, digS ns a b ds' c' k' t' e') ∧ (∀ x ∈ ds', 0 ≤ x ∧ x < 1000) ∧ ds'.length ≤ ds.length + 60 := by
  have hz : Builtin.Int.intBits (ns[i]?.getD 0) ≤ 1048576 := by
    cases e : ns[i]? with
    | none => decide
    | some z => exact hb z (List.mem_of_getElem? e)
  have fin : ∀ z : Int, 0 ≤ z → ∃ ds' c' k' t' e', digR (digS ns a b ds (some (.v (.int z))) (some (.v (.int i))) t e) = some (.nx, digS ns a b ds' c' k' t' e') ∧ (∀ x ∈ ds', 0 ≤ x ∧ x < 1000) ∧ ds'.length ≤ ds.length + 60 := by
    intro z hz0
    by_cases hg : 1000000000000000000 ≤ z
    · obtain ⟨ds', c', t', e1, e2, e3⟩ := dig_big (ns := ns) (a := a) (b := b) (k := some (.v (.int i))) (e := e) digG rfl ((List.range 60).map fun i : Nat => .int i) ds z t h (by rw [List.length_map, List.length_range]; exact hl)
      refine ⟨ds', some (.v (.int c')), some (.v (.int i)), t', e, ?_, e2, by rw [List.length_map, List.length_range] at e3; exact e3⟩
      have r : dRange1 [.int 60] = some ((List.range 60).map fun i : Nat => .int i) := rfl
      unfold digS digR
      simp -implicitDefEqProofs (maxSteps := 1000000) (disch := omega) only [↓bnd_some, bnd_some, eV_q, eVk_v, eVk_o, eW_q, eWk_b, frz_v, frz_o, frzs_nil, frzs_cons, ↓eC_q, ↓e1_q, ↓e2_q, ↓e3_q, e3k_b, ↓eT_q, ↓eTb_q, ↓eTbk_b, eTbk_b, ↓wAnd_q, ↓wOr_q, ↓wNot_q, ↓eAnd_q, ↓eOr_q, ↓eNot_q, ↓eIf_q, ↓eP_q, ↓aNil_q, ↓aCons_q, ↓eL_q, ↓eFz_q, ↓bLst_q, ↓bL_q, ↓b2_q, ↓bCall_q, ↓bPure_q, ↓pV_q, ↓sSeq_q, ↓seqK_nx, seqK_nx, ↓seqK_rt, seqK_rt, ↓seqK_bk, seqK_bk, ↓seqK_ct, seqK_ct, ↓sIf_q, ↓sNil_q, ↓sBk_q, ↓sCt_q, ↓sRet_q, ↓sRetB_q, ↓sRetN_q, ↓sRetV_q, rvK_b, ↓sExp_q, ↓sSet_q, ↓sSetB_q, put_q, ↓sAug_q, augK_v, ↓finK_rt, finK_rt, ↓finK_nx, finK_nx, ↓gN_q, ↓gsNil_q, ↓gsCons_q, ↓gT_q, ↓sAsg_q, ↓iV_q, ↓iA_q, items_lst, items_tup, ↓sFor_q, forL_nil, ↓forK_nx, forK_nx, ↓forK_ct, forK_ct, ↓forK_bk, forK_bk, ↓forK_rt, forK_rt, ↓whK_nx, whK_nx, ↓whK_ct, whK_ct, ↓whK_bk, whK_bk, ↓whK_rt, whK_rt, ↓bLc_q, ↓tYes_q, wipeE_nil, wipeE_cons, ↓pN_q, own_q, ownK_o, mutS_q, mutK_o, ↓mApp_q, ↓mAppB_q, ↓mPop_q, popK_v, ↓sSetIx_q, setK_i, ↓eObj_q, ↓eIxS_q, ↓sSetO_q, dAdd_i, dSub_i, dNeg_i, dLt_i, dLe_i, dGt_i, dGe_i, dEq_i, dNe_i, dTru_b, dTru_i, dTru_l, dTru_t, bAbs_i, bInt_i, bLen_l, bLen_t, bLen_s, dIx_l, dIx_t, bMaxD_2, bMinD_2, ↓dTup_q, List.getElem?_cons_zero, List.getElem?_cons_succ, List.set_cons_zero, List.set_cons_succ, if_true, if_false, Bool.false_eq_true, decide_eq_true_eq, decide_eq_false_iff_not, Bool.not_true, Bool.not_false, List.length_cons, List.length_nil, List.map_cons, List.map_nil, dMul_i, dFdiv_i, dMod_i, List.nil_append, Nat.zero_add, Nat.reduceAdd, Nat.reduceLeDiff, Nat.reduceLT, Nat.reduceEqDiff, le_refl_line, and_self, true_and, and_true, bnd_none, Bool.not_eq_true, eq_self, reduceCtorEq, decide_true, decide_false, B.frzs_v, Nat.add_assoc, pow18, hg, r]
      exact e1
    · obtain ⟨ds', c', t', e1, e2, e3⟩ := dig_small (ns := ns) (a := a) (b := b) (k := some (.v (.int i))) (c := some (.v (.int z))) digL rfl (List.range 12) ds ((z * 48271 + (i : Int) * 69621 + 11) % 2147483647) t h (by rw [List.length_range]; omega) (range_lt (by decide)) ⟨by omega, by omega⟩
      refine ⟨ds', some (.v (.int z)), some (.v (.int i)), t', some (.v (.int c')), ?_, e2, by rw [List.length_range] at e3; omega⟩
      have r : dRange1 [.int 12] = some ((List.range 12).map fun i : Nat => .int i) := rfl
      unfold digS digR
      simp -implicitDefEqProofs (maxSteps := 1000000) (disch := omega) only [↓bnd_some, bnd_some, eV_q, eVk_v, eVk_o, eW_q, eWk_b, frz_v, frz_o, frzs_nil, frzs_cons, ↓eC_q, ↓e1_q, ↓e2_q, ↓e3_q, e3k_b, ↓eT_q, ↓eTb_q, ↓eTbk_b, eTbk_b, ↓wAnd_q, ↓wOr_q, ↓wNot_q, ↓eAnd_q, ↓eOr_q, ↓eNot_q, ↓eIf_q, ↓eP_q, ↓aNil_q, ↓aCons_q, ↓eL_q, ↓eFz_q, ↓bLst_q, ↓bL_q, ↓b2_q, ↓bCall_q, ↓bPure_q, ↓pV_q, ↓sSeq_q, ↓seqK_nx, seqK_nx, ↓seqK_rt, seqK_rt, ↓seqK_bk, seqK_bk, ↓seqK_ct, seqK_ct, ↓sIf_q, ↓sNil_q, ↓sBk_q, ↓sCt_q, ↓sRet_q, ↓sRetB_q, ↓sRetN_q, ↓sRetV_q, rvK_b, ↓sExp_q, ↓sSet_q, ↓sSetB_q, put_q, ↓sAug_q, augK_v, ↓finK_rt, finK_rt, ↓finK_nx, finK_nx, ↓gN_q, ↓gsNil_q, ↓gsCons_q, ↓gT_q, ↓sAsg_q, ↓iV_q, ↓iA_q, items_lst, items_tup, ↓sFor_q, forL_nil, ↓forK_nx, forK_nx, ↓forK_ct, forK_ct, ↓forK_bk, forK_bk, ↓forK_rt, forK_rt, ↓whK_nx, whK_nx, ↓whK_ct, whK_ct, ↓whK_bk, whK_bk, ↓whK_rt, whK_rt, ↓bLc_q, ↓tYes_q, wipeE_nil, wipeE_cons, ↓pN_q, own_q, ownK_o, mutS_q, mutK_o, ↓mApp_q, ↓mAppB_q, ↓mPop_q, popK_v, ↓sSetIx_q, setK_i, ↓eObj_q, ↓eIxS_q, ↓sSetO_q, dAdd_i, dSub_i, dNeg_i, dLt_i, dLe_i, dGt_i, dGe_i, dEq_i, dNe_i, dTru_b, dTru_i, dTru_l, dTru_t, bAbs_i, bInt_i, bLen_l, bLen_t, bLen_s, dIx_l, dIx_t, bMaxD_2, bMinD_2, ↓dTup_q, List.getElem?_cons_zero, List.getElem?_cons_succ, List.set_cons_zero, List.set_cons_succ, if_true, if_false, Bool.false_eq_true, decide_eq_true_eq, decide_eq_false_iff_not, Bool.not_true, Bool.not_false, List.length_cons, List.length_nil, List.map_cons, List.map_nil, dMul_i, dFdiv_i, dMod_i, List.nil_append, Nat.zero_add, Nat.reduceAdd, Nat.reduceLeDiff, Nat.reduceLT, Nat.reduceEqDiff, le_refl_line, and_self, true_and, and_true, bnd_none, Bool.not_eq_true, eq_self, reduceCtorEq, decide_true, decide_false, B.frzs_v, Nat.add_assoc, pow18, hg, r]
      exact e1
  unfold digB
  by_cases hn : ns[i]?.getD 0 < 0
  · obtain ⟨ds', c', k', t', e', e1, e2, e3⟩ := fin (1 - 2 * (ns[i]?.getD 0)) (by omega)
    refine ⟨ds', c', k', t', e', ?_, e2, e3⟩
    unfold digS at e1 ⊢
    simp -implicitDefEqProofs (maxSteps := 1000000) (disch := omega) only [↓bnd_some, bnd_some, eV_q, eVk_v, eVk_o, eW_q, eWk_b, frz_v, frz_o, frzs_nil, frzs_cons, ↓eC_q, ↓e1_q, ↓e2_q, ↓e3_q, e3k_b, ↓eT_q, ↓eTb_q, ↓eTbk_b, eTbk_b, ↓wAnd_q, ↓wOr_q, ↓wNot_q, ↓eAnd_q, ↓eOr_q, ↓eNot_q, ↓eIf_q, ↓eP_q, ↓aNil_q, ↓aCons_q, ↓eL_q, ↓eFz_q, ↓bLst_q, ↓bL_q, ↓b2_q, ↓bCall_q, ↓bPure_q, ↓pV_q, ↓sSeq_q, ↓seqK_nx, seqK_nx, ↓seqK_rt, seqK_rt, ↓seqK_bk, seqK_bk, ↓seqK_ct, seqK_ct, ↓sIf_q, ↓sNil_q, ↓sBk_q, ↓sCt_q, ↓sRet_q, ↓sRetB_q, ↓sRetN_q, ↓sRetV_q, rvK_b, ↓sExp_q, ↓sSet_q, ↓sSetB_q, put_q, ↓sAug_q, augK_v, ↓finK_rt, finK_rt, ↓finK_nx, finK_nx, ↓gN_q, ↓gsNil_q, ↓gsCons_q, ↓gT_q, ↓sAsg_q, ↓iV_q, ↓iA_q, items_lst, items_tup, ↓sFor_q, forL_nil, ↓forK_nx, forK_nx, ↓forK_ct, forK_ct, ↓forK_bk, forK_bk, ↓forK_rt, forK_rt, ↓whK_nx, whK_nx, ↓whK_ct, whK_ct, ↓whK_bk, whK_bk, ↓whK_rt, whK_rt, ↓bLc_q, ↓tYes_q, wipeE_nil, wipeE_cons, ↓pN_q, own_q, ownK_o, mutS_q, mutK_o, ↓mApp_q, ↓mAppB_q, ↓mPop_q, popK_v, ↓sSetIx_q, setK_i, ↓eObj_q, ↓eIxS_q, ↓sSetO_q, dAdd_i, dSub_i, dNeg_i, dLt_i, dLe_i, dGt_i, dGe_i, dEq_i, dNe_i, dTru_b, dTru_i, dTru_l, dTru_t, bAbs_i, bInt_i, bLen_l, bLen_t, bLen_s, dIx_l, dIx_t, bMaxD_2, bMinD_2, ↓dTup_q, List.getElem?_cons_zero, List.getElem?_cons_succ, List.set_cons_zero, List.set_cons_succ, if_true, if_false, Bool.false_eq_true, decide_eq_true_eq, decide_eq_false_iff_not, Bool.not_true, Bool.not_false, List.length_cons, List.length_nil, List.map_cons, List.map_nil, dMul_i, dFdiv_i, dMod_i, List.nil_append, Nat.zero_add, Nat.reduceAdd, Nat.reduceLeDiff, Nat.reduceLT, Nat.reduceEqDiff, le_refl_line, and_self, true_and, and_true, bnd_none, Bool.not_eq_true, eq_self, reduceCtorEq, decide_true, decide_false, B.frzs_v, Nat.add_assoc, cell_ok, hn, mul2_ok hz]
    exact e1
  · obtain ⟨ds', c', k', t', e', e1, e2, e3⟩ := fin (ns[i]?.getD 0) (by omega)
    refine ⟨ds', c', k', t', e', ?_, e2, e3⟩
    unfold digS at e1 ⊢
    simp -implicitDefEqProofs (maxSteps := 1000000) (disch := omega) only [↓bnd_some, bnd_some, eV_q, eVk_v, eVk_o, eW_q, eWk_b, frz_v, frz_o, frzs_nil, frzs_cons, ↓eC_q, ↓e1_q, ↓e2_q, ↓e3_q, e3k_b, ↓eT_q, ↓eTb_q, ↓eTbk_b, eTbk_b, ↓wAnd_q, ↓wOr_q, ↓wNot_q, ↓eAnd_q, ↓eOr_q, ↓eNot_q, ↓eIf_q, ↓eP_q, ↓aNil_q, ↓aCons_q, ↓eL_q, ↓eFz_q, ↓bLst_q, ↓bL_q, ↓b2_q, ↓bCall_q, ↓bPure_q, ↓pV_q, ↓sSeq_q, ↓seqK_nx, seqK_nx, ↓seqK_rt, seqK_rt, ↓seqK_bk, seqK_bk, ↓seqK_ct, seqK_ct, ↓sIf_q, ↓sNil_q, ↓sBk_q, ↓sCt_q, ↓sRet_q, ↓sRetB_q, ↓sRetN_q, ↓sRetV_q, rvK_b, ↓sExp_q, ↓sSet_q, ↓sSetB_q, put_q, ↓sAug_q, augK_v, ↓finK_rt, finK_rt, ↓finK_nx, finK_nx, ↓gN_q, ↓gsNil_q, ↓gsCons_q, ↓gT_q, ↓sAsg_q, ↓iV_q, ↓iA_q, items_lst, items_tup, ↓sFor_q, forL_nil, ↓forK_nx, forK_nx, ↓forK_ct, forK_ct, ↓forK_bk, forK_bk, ↓forK_rt, forK_rt, ↓whK_nx, whK_nx, ↓whK_ct, whK_ct, ↓whK_bk, whK_bk, ↓whK_rt, whK_rt, ↓bLc_q, ↓tYes_q, wipeE_nil, wipeE_cons, ↓pN_q, own_q, ownK_o, mutS_q, mutK_o, ↓mApp_q, ↓mAppB_q, ↓mPop_q, popK_v, ↓sSetIx_q, setK_i, ↓eObj_q, ↓eIxS_q, ↓sSetO_q, dAdd_i, dSub_i, dNeg_i, dLt_i, dLe_i, dGt_i, dGe_i, dEq_i, dNe_i, dTru_b, dTru_i, dTru_l, dTru_t, bAbs_i, bInt_i, bLen_l, bLen_t, bLen_s, dIx_l, dIx_t, bMaxD_2, bMinD_2, ↓dTup_q, List.getElem?_cons_zero, List.getElem?_cons_succ, List.set_cons_zero, List.set_cons_succ, if_true, if_false, Bool.false_eq_true, decide_eq_true_eq, decide_eq_false_iff_not, Bool.not_true, Bool.not_false, List.length_cons, List.length_nil, List.map_cons, List.map_nil, dMul_i, dFdiv_i, dMod_i, List.nil_append, Nat.zero_add, Nat.reduceAdd, Nat.reduceLeDiff, Nat.reduceLT, Nat.reduceEqDiff, le_refl_line, and_self, true_and, and_true, bnd_none, Bool.not_eq_true, eq_self, reduceCtorEq, decide_true, decide_false, B.frzs_v, Nat.add_assoc, cell_ok, hn]
    exact e1
theorem dig_loop {ns : List Int} (hb : Bits ns) {a b : Int} : ∀ (ts : List Nat) (ds : List Int) (c k t e : Option B), (∀ x ∈ ds, 0 ≤ x ∧ x < 1000) → ds.length + 60 * ts.length < 10 ^ 6 → (∀ x ∈ ts, x ≤ 2000) →
      ∃ ds' c' k' t' e', forL (gN 4) digB (ts.map fun i : Nat => .int i) (digS ns a b ds c k t e) = some (.nx, digS ns a b ds' c' k' t' e') ∧ (∀ x ∈ ds', 0 ≤ x ∧ x < 1000) ∧ ds'.length ≤ ds.length + 60 * ts.length
  | [], ds, c, k, t, e, h, _, _ => ⟨ds, c, k, t, e, rfl, h, by simp⟩
  | i :: ts, ds, c, k, t, e, h, hl, ht => by
    rw [List.length_cons] at hl
    obtain ⟨ds1, c1, k1, t1, e1, f1, f2, f3⟩ := dig_step hb (a := a) (b := b) (ht i (List.mem_cons_self ..)) (c := c) (k := k) (t := t) (e := e) h (by omega)
    obtain ⟨ds2, c2, k2, t2, e2, g1, g2, g3⟩ := dig_loop hb (a := a) (b := b) ts ds1 c1 k1 t1 e1 f2 (by omega) fun x hx => ht x (List.mem_cons_of_mem _ hx)
    refine ⟨ds2, c2, k2, t2, e2, ?_, g2, by rw [List.length_cons]; omega⟩
    obtain ⟨s1, p1, p2⟩ := bnd_inv f1
    rw [List.map_cons, forL_cons, p1, bnd_some, p2, bnd_some, forK_nx]
    exact g1
theorem digits_ok {ns : List Int} (hb : Bits ns) {a b : Nat} (hab : a + b ≤ 1000) : ∃ ds, pF F_law_digits [.scr ns, .int a, .int b] = some (.v (.lst (ds.map .int))) ∧ Dig ds := by
  rw [pF_q, q_law_digits, b_digits_eq]
  obtain ⟨ds, c, k, t, e, e1, e2, e3⟩ := dig_loop hb (a := a) (b := b) ((List.range (b - a)).map fun k => a + k) [] none none none none (fun _ h => by cases h) (by simp; omega) (fun x hx => by
    obtain ⟨y, h1, rfl⟩ := List.mem_map.mp hx
    have := List.mem_range.mp h1
    omega)
  have r : dRange2 [.int (a : Int), .int (b : Int)] = some (((List.range (b - a)).map fun k => a + k).map fun i : Nat => .int i) := by
    rw [rng2 ⟨⟨by omega, by omega⟩, by omega, by omega⟩, List.map_map]
    congr 1
    have : ((b : Int) - a).toNat = b - a := by omega
    rw [this]
    rfl
  refine ⟨ds, ?_, e2, by simp at e3; omega⟩
  unfold digS at e1
  rw [show List.map (fun i => B.v (D.int i)) ([] : List Int) = [] from rfl] at e1
  have f0 : B.frzs (ds.map fun i => B.v (.int i)) = ds.map D.int := by
    have := B.frzs_v (ds.map D.int)
    rw [List.map_map] at this
    exact this
  simp -implicitDefEqProofs (maxSteps := 1000000) (disch := omega) only [↓bnd_some, bnd_some, eV_q, eVk_v, eVk_o, eW_q, eWk_b, frz_v, frz_o, frzs_nil, frzs_cons, ↓eC_q, ↓e1_q, ↓e2_q, ↓e3_q, e3k_b, ↓eT_q, ↓eTb_q, ↓eTbk_b, eTbk_b, ↓wAnd_q, ↓wOr_q, ↓wNot_q, ↓eAnd_q, ↓eOr_q, ↓eNot_q, ↓eIf_q, ↓eP_q, ↓aNil_q, ↓aCons_q, ↓eL_q, ↓eFz_q, ↓bLst_q, ↓bL_q, ↓b2_q, ↓bCall_q, ↓bPure_q, ↓pV_q, ↓sSeq_q, ↓seqK_nx, seqK_nx, ↓seqK_rt, seqK_rt, ↓seqK_bk, seqK_bk, ↓seqK_ct, seqK_ct, ↓sIf_q, ↓sNil_q, ↓sBk_q, ↓sCt_q, ↓sRet_q, ↓sRetB_q, ↓sRetN_q, ↓sRetV_q, rvK_b, ↓sExp_q, ↓sSet_q, ↓sSetB_q, put_q, ↓sAug_q, augK_v, ↓finK_rt, finK_rt, ↓finK_nx, finK_nx, ↓gN_q, ↓gsNil_q, ↓gsCons_q, ↓gT_q, ↓sAsg_q, ↓iV_q, ↓iA_q, items_lst, items_tup, ↓sFor_q, forL_nil, ↓forK_nx, forK_nx, ↓forK_ct, forK_ct, ↓forK_bk, forK_bk, ↓forK_rt, forK_rt, ↓whK_nx, whK_nx, ↓whK_ct, whK_ct, ↓whK_bk, whK_bk, ↓whK_rt, whK_rt, ↓bLc_q, ↓tYes_q, wipeE_nil, wipeE_cons, ↓pN_q, own_q, ownK_o, mutS_q, mutK_o, ↓mApp_q, ↓mAppB_q, ↓mPop_q, popK_v, ↓sSetIx_q, setK_i, ↓eObj_q, ↓eIxS_q, ↓sSetO_q, dAdd_i, dSub_i, dNeg_i, dLt_i, dLe_i, dGt_i, dGe_i, dEq_i, dNe_i, dTru_b, dTru_i, dTru_l, dTru_t, bAbs_i, bInt_i, bLen_l, bLen_t, bLen_s, dIx_l, dIx_t, bMaxD_2, bMinD_2, ↓dTup_q, List.getElem?_cons_zero, List.getElem?_cons_succ, List.set_cons_zero, List.set_cons_succ, if_true, if_false, Bool.false_eq_true, decide_eq_true_eq, decide_eq_false_iff_not, Bool.not_true, Bool.not_false, List.length_cons, List.length_nil, List.map_cons, List.map_nil, dMul_i, dFdiv_i, dMod_i, List.nil_append, Nat.zero_add, Nat.reduceAdd, Nat.reduceLeDiff, Nat.reduceLT, Nat.reduceEqDiff, le_refl_line, and_self, true_and, and_true, bnd_none, Bool.not_eq_true, eq_self, reduceCtorEq, decide_true, decide_false, B.frzs_v, Nat.add_assoc, r, e1, f0]
end Ev

namespace Ev
open PySem L2
open PySem.W (alike alikeAll dataLt AlikeAll AllAlike Sortable dataLe keyToks keyToksAll)

/-! ## a law's end, the script's bits told -/
theorem walk_ofEB {l : PySem.W.OpenLaw} {n k : Nat} {q : Program} {loose : List Str} {XP : (Str → Option Value) → Heap → Prop} {YP : World → Heap → Prop} {d : DefRec} {CX : CXT} {x : Str}
    (hn : l.most = some n) (hn2 : n ≤ sizeLine) (hdf : d.params.defaults = []) (hr : Room k callerA)
    (F : ∀ (w : World) (mg : Str → Option Value) (fa : Addr) (h : Heap), YP w h → h.Ns mainGlobals mg → mg d.name = some (.ref fa) →
      ∃ (K : PySem.W.Frag) (fd : FuncData) (sp : Sp), K.In h ∧ (∀ (s : Shared) (u : Value), BindsTo s fd ⟨[u], []⟩ [(x, u)]) ∧
        (∀ (H : Hp) (a : Addr) (ns : List Int), ns.length ≤ n → Bits ns → Only H → SqL K H a (ns.map V.int) → sp [.ref a] H (fun v _ => v = .bl true) fun _ _ _ => False) ∧
        ∀ base : Heap, K.In base → base.Ns mainGlobals mg → FnOk l.prog w K mg base CX k fa fd [x] sp)
    (hCX : ∀ (H : Hp) (s : Shared) (e : Value) (s' : Shared), CX [] H s (fun _ _ _ => False) e s' → False) :
    PySem.W.WalkO q loose XP YP l.row.toRowW d [] (fun f vs => PySem.call f vs) := by
  refine Att.attach_callB hn hdf fun w s₀ s₁ mg mb fa o pm cd doc a vs ns G Y ho hd hcd hmg hobj hints hlen hbits hg => ?_
  obtain ⟨K, fd, sp, KX, hb, hsp, hF⟩ := F w mg fa _ Y G.T.g hmg
  exact law_call KX G.T.g G.T.b G.T.builtins G.T.nolimit hg hobj hints (Nat.le_trans hlen hn2) hr hF hb (fun H hO hS => hsp H a ns hlen hbits hO hS) fun H e s' => hCX H s₁ e s'

/-! ## comprehensions, loops, least ones: by plain lists -/
/-- one turn of a comprehension -/
def lcS (own : List Nat) (h : EvG) (c : EvT) (e : EvE) (d : D) (s : Sta) : Option (Option D × Sta) :=
  @bnd _ _ (h d s) ⟨fun s1 => @bnd _ _ (c s1) ⟨fun p => if p.1 = true then @bnd _ _ (e p.2) ⟨fun q => some (some q.1, wipeE q.2 own)⟩ else some (none, wipeE p.2 own)⟩⟩
theorem lcL_map {α : Type} {own : List Nat} {h : EvG} {c : EvT} {e : EvE} {s : Sta} {g : α → D} (b : α → Bool) (v : α → D) : ∀ (xs : List α), (∀ x ∈ xs, (b x = true → lcS own h c e (g x) s = some (some (v x), s)) ∧ (b x = false → lcS own h c e (g x) s = some (none, s))) →
    lcL own h c e (xs.map g) s = some ((xs.filter b).map v, s)
  | [], _ => rfl
  | x :: xs, H => by
    have ih := lcL_map b v xs fun y hy => H y (List.mem_cons_of_mem _ hy)
    obtain ⟨h1, h2⟩ := H x (List.mem_cons_self ..)
    rw [List.map_cons, lcL]
    cases hb : b x with
    | true =>
      obtain ⟨s1, e1, e2⟩ := bnd_inv (h1 hb)
      obtain ⟨⟨k, s2⟩, e3, e4⟩ := bnd_inv e2
      cases k with
      | false => cases e4
      | true =>
        obtain ⟨⟨d, s3⟩, e5, e6⟩ := bnd_inv (show @bnd _ _ (e s2) ⟨fun q => some (some q.1, wipeE q.2 own)⟩ = _ from e4)
        have e7 := Option.some.inj e6
        injection e7 with e8 e9
        injection e8 with e8
        rw [List.filter_cons_of_pos hb, List.map_cons, e1]
        show ((c s1).bind _) = _
        rw [e3]
        show ((e s2).bind _) = _
        rw [e5]
        show ((lcL own h c e (xs.map g) (wipeE s3 own)).bind _) = _
        rw [show wipeE s3 own = s from e9, ih]
        show some (d :: _, s) = _
        rw [show d = v x from e8]
    | false =>
      obtain ⟨s1, e1, e2⟩ := bnd_inv (h2 hb)
      obtain ⟨⟨k, s2⟩, e3, e4⟩ := bnd_inv e2
      cases k with
      | true =>
        obtain ⟨⟨d, s3⟩, e5, e6⟩ := bnd_inv (show @bnd _ _ (e s2) ⟨fun q => some (some q.1, wipeE q.2 own)⟩ = _ from e4)
        cases e6
      | false =>
        have e7 := Option.some.inj e4
        injection e7 with e8 e9
        rw [List.filter_cons_of_neg (by rw [hb]; simp), e1]
        show ((c s1).bind _) = _
        rw [e3]
        show lcL own h c e (xs.map g) (wipeE s2 own) = _
        rw [show wipeE s2 own = s from e9, ih]
theorem lcL_all {α : Type} {own : List Nat} {h : EvG} {c : EvT} {e : EvE} {s : Sta} {g : α → D} (v : α → D) (xs : List α) (H : ∀ x ∈ xs, lcS own h c e (g x) s = some (some (v x), s)) :
    lcL own h c e (xs.map g) s = some (xs.map v, s) := by
  have := lcL_map (own := own) (h := h) (c := c) (e := e) (s := s) (g := g) (fun _ => true) v xs fun x hx => ⟨fun _ => H x hx, fun z => by cases z⟩
  rw [this]
  congr 2
  rw [List.filter_eq_self.mpr fun _ _ => rfl]
/-- the whole numbers from a below b -/
def seg (a b : Int) : List Int := (List.range (b - a).toNat).map fun k : Nat => a + k
theorem mem_seg {a b x : Int} : x ∈ seg a b ↔ a ≤ x ∧ x < b := by
  unfold seg
  rw [List.mem_map]
  constructor
  · rintro ⟨k, hk, rfl⟩
    have := List.mem_range.mp hk
    omega
  · rintro ⟨h1, h2⟩
    exact ⟨(x - a).toNat, List.mem_range.mpr (by omega), by omega⟩
theorem seg_len {a b : Int} : (seg a b).length = (b - a).toNat := by unfold seg; rw [List.length_map, List.length_range]
theorem rng2' {i j : Int} (h : (-(10 ^ 15) ≤ i ∧ i ≤ 10 ^ 15) ∧ -(10 ^ 15) ≤ j ∧ j ≤ 10 ^ 15) : dRange2 [.int i, .int j] = some ((seg i j).map .int) := by
  rw [rng2 h]; unfold seg; rw [List.map_map]; rfl
theorem rng1' {j : Int} (h : -(10 ^ 15) ≤ j ∧ j ≤ 10 ^ 15) : dRange1 [.int j] = some ((seg 0 j).map .int) := by
  rw [rng1 h.2 h.1]; unfold seg; rw [List.map_map, Int.sub_zero]
  congr 1
  refine List.map_congr_left fun x _ => ?_
  simp
theorem seg_nil {a b : Int} (h : b ≤ a) : seg a b = [] := by
  unfold seg
  have : (b - a).toNat = 0 := by omega
  rw [this]; rfl
theorem seg_cons {a b : Int} (h : a < b) : seg a b = a :: seg (a + 1) b := by
  unfold seg
  have e : (b - a).toNat = (b - (a + 1)).toNat + 1 := by omega
  rw [e, List.range_succ_eq_map, List.map_cons, List.map_map]
  congr 1
  · simp
  · refine List.map_congr_left fun x _ => ?_
    show a + ((x + 1 : Nat) : Int) = a + 1 + x
    omega
theorem seg_snoc {a b : Int} (h : a ≤ b) : seg a (b + 1) = seg a b ++ [b] := by
  unfold seg
  have e : (b + 1 - a).toNat = (b - a).toNat + 1 := by omega
  rw [e, List.range_succ, List.map_append]
  congr 1
  simp; omega
theorem seg_app {a b c : Int} (h1 : a ≤ b) (h2 : b ≤ c) : seg a c = seg a b ++ seg b c := by
  have key : ∀ n : Nat, ∀ b : Int, (b - a).toNat = n → a ≤ b → b ≤ c → seg a c = seg a b ++ seg b c := by
    intro n
    induction n with
    | zero => intro b hn ha hb; have : b = a := by omega
              subst this; rw [seg_nil (Int.le_refl _)]; rfl
    | succ n ih =>
      intro b hn ha hb
      have e := ih (b - 1) (by omega) (by omega) (by omega)
      have e2 := seg_snoc (a := a) (b := b - 1) (by omega)
      rw [show b - 1 + 1 = b by omega] at e2
      rw [e2, e, seg_cons (a := b - 1) (by omega), List.append_assoc, show b - 1 + 1 = b by omega]
      rfl
  exact key _ b rfl h1 h2
theorem frzs_ints {xs : List Int} : B.frzs (xs.map fun i => B.v (.int i)) = xs.map D.int := by
  have := B.frzs_v (xs.map D.int)
  rw [List.map_map] at this
  exact this
theorem pys_ints : ∀ (xs : List Int), D.pys (xs.map .int) = some (xs.map .int)
  | [] => rfl
  | x :: xs => by rw [List.map_cons, D.pys]; simp only [D.py, pys_ints xs, List.map_cons]
theorem depthAll_le {k : Nat} : ∀ {ps : List PyData}, (∀ p ∈ ps, p.depth ≤ k) → PyData.depthAll ps ≤ k
  | [], _ => Nat.zero_le _
  | p :: ps, h => Nat.max_le.mpr ⟨h p (List.mem_cons_self ..), depthAll_le fun q hq => h q (List.mem_cons_of_mem _ hq)⟩
theorem okD_of {xs : List D} {ps : List PyData} (h : D.pys xs = some ps) (h1 : ∀ p ∈ ps, ∀ q ∈ ps, alike p q = true) (h2 : ∀ p ∈ ps, alike p .none = false) (h3 : ∀ p ∈ ps, p.depth ≤ 50) : okD xs = true := by
  unfold okD
  rw [h]
  simp only [Bool.and_eq_true, decide_eq_true_eq, List.all_eq_true]
  exact ⟨fun p hp => ⟨fun q hq => h1 p hp q hq, by rw [h2 p hp]; rfl⟩, depthAll_le h3⟩
theorem okD_ints (xs : List Int) : okD (xs.map .int) = true := by
  refine okD_of (pys_ints xs) (fun p hp q hq => ?_) (fun p hp => ?_) fun p hp => ?_
  · obtain ⟨a, _, rfl⟩ := List.mem_map.mp hp
    obtain ⟨b, _, rfl⟩ := List.mem_map.mp hq
    rw [alike]
  · obtain ⟨a, _, rfl⟩ := List.mem_map.mp hp
    rw [alike] <;> simp
  · obtain ⟨a, _, rfl⟩ := List.mem_map.mp hp
    rw [PyData.depth] <;> simp
theorem dlt_ints {a b : Int} : dltB (.int a) (.int b) = decide (a < b) := PySem.W.dataLt_int a b
/-- pairs of whole numbers -/
def pr (p : Int × Int) : D := .tup [.int p.1, .int p.2]
def prlt (p q : Int × Int) : Bool := decide (p.1 < q.1 ∨ (p.1 = q.1 ∧ p.2 < q.2))
theorem dlt_pr {p q : Int × Int} : dltB (pr p) (pr q) = prlt p q := by
  show dataLt (.tuple [.int p.1, .int p.2]) (.tuple [.int q.1, .int q.2]) = _
  unfold dataLt prlt
  have key : ∀ (a b : Int) (r t : List (Int ⊕ List Nat)), PyProof.Rows.lexLt PyProof.Rows.itemOrd (.inl a :: r) (.inl b :: t) = (decide (a < b) || (!decide (b < a) && PyProof.Rows.lexLt PyProof.Rows.itemOrd r t)) := fun _ _ _ _ => rfl
  have k0 : PyProof.Rows.lexLt PyProof.Rows.itemOrd [] [] = false := rfl
  simp only [keyToks, keyToksAll, List.cons_append, List.nil_append]
  rw [key, key, key, key, key, k0]
  by_cases h1 : p.1 < q.1
  · simp [h1]
  · by_cases h2 : q.1 < p.1
    · have : ¬ p.1 = q.1 := by omega
      simp [h1, h2, this]
    · have e : p.1 = q.1 := by omega
      by_cases h3 : p.2 < q.2 <;> simp [e, h3]
theorem pys_prs : ∀ (xs : List (Int × Int)), D.pys (xs.map pr) = some (xs.map fun p => .tuple [.int p.1, .int p.2])
  | [] => rfl
  | x :: xs => by
    have : (pr x).py = some (.tuple [.int x.1, .int x.2]) := rfl
    rw [List.map_cons, D.pys]; simp only [this, pys_prs xs, List.map_cons]
theorem okD_prs (xs : List (Int × Int)) : okD (xs.map pr) = true := by
  refine okD_of (pys_prs xs) (fun p hp q hq => ?_) (fun p hp => ?_) fun p hp => ?_
  · obtain ⟨a, _, rfl⟩ := List.mem_map.mp hp
    obtain ⟨b, _, rfl⟩ := List.mem_map.mp hq
    simp [alike, alikeAll]
  · obtain ⟨a, _, rfl⟩ := List.mem_map.mp hp
    rw [alike] <;> simp
  · obtain ⟨a, _, rfl⟩ := List.mem_map.mp hp
    simp [PyData.depth, PyData.depthAll]
theorem minF_map {α : Type} (g : α → D) (lt : α → α → Bool) (h : ∀ a b, dltB (g a) (g b) = lt a b) : ∀ (xs : List α) (x : α), minF (g x) (xs.map g) = g (xs.foldl (fun a y => if lt y a then y else a) x)
  | [], _ => rfl
  | y :: ys, x => by
    have ih := minF_map g lt h ys
    unfold minF at ih ⊢
    rw [List.map_cons, List.foldl_cons, List.foldl_cons, h]
    cases lt y x with
    | true => exact ih y
    | false => exact ih x
theorem maxF_map {α : Type} (g : α → D) (lt : α → α → Bool) (h : ∀ a b, dltB (g a) (g b) = lt a b) : ∀ (xs : List α) (x : α), maxF (g x) (xs.map g) = g (xs.foldl (fun a y => if lt a y then y else a) x)
  | [], _ => rfl
  | y :: ys, x => by
    have ih := maxF_map g lt h ys
    unfold maxF at ih ⊢
    rw [List.map_cons, List.foldl_cons, List.foldl_cons, h]
    cases lt x y with
    | true => exact ih y
    | false => exact ih x
theorem bMin_prs {x : Int × Int} {xs : List (Int × Int)} : bMinD [.lst (pr x :: xs.map pr)] = some (pr (xs.foldl (fun a y => if prlt y a then y else a) x)) := by
  show (if okD ((x :: xs).map pr) = true then some (minF (pr x) (xs.map pr)) else none) = _
  rw [if_pos (okD_prs (x :: xs)), minF_map pr prlt (fun _ _ => dlt_pr)]
theorem bMax_prs {x : Int × Int} {xs : List (Int × Int)} : bMaxD [.lst (pr x :: xs.map pr)] = some (pr (xs.foldl (fun a y => if prlt a y then y else a) x)) := by
  show (if okD ((x :: xs).map pr) = true then some (maxF (pr x) (xs.map pr)) else none) = _
  rw [if_pos (okD_prs (x :: xs)), maxF_map pr prlt (fun _ _ => dlt_pr)]
theorem foldl_max {xs : List Int} : ∀ {x : Int}, xs.foldl (fun a y => if decide (a < y) then y else a) x = xs.foldl max x := by
  induction xs with
  | nil => intro x; rfl
  | cons y ys ih =>
    intro x
    rw [List.foldl_cons, List.foldl_cons, ← ih]
    congr 1
    by_cases h : x < y
    · rw [if_pos (decide_eq_true h)]; omega
    · rw [if_neg (by simpa using h)]; omega
theorem foldl_min {xs : List Int} : ∀ {x : Int}, xs.foldl (fun a y => if decide (y < a) then y else a) x = xs.foldl min x := by
  induction xs with
  | nil => intro x; rfl
  | cons y ys ih =>
    intro x
    rw [List.foldl_cons, List.foldl_cons, ← ih]
    congr 1
    by_cases h : y < x
    · rw [if_pos (decide_eq_true h)]; omega
    · rw [if_neg (by simpa using h)]; omega
theorem bMax_ints {x : Int} {xs : List Int} : bMaxD [.lst (.int x :: xs.map .int)] = some (.int (xs.foldl max x)) := by
  show (if okD ((x :: xs).map D.int) = true then some (maxF (.int x) (xs.map .int)) else none) = _
  rw [if_pos (okD_ints (x :: xs)), maxF_map D.int (fun a b => decide (a < b)) (fun _ _ => dlt_ints), foldl_max]
theorem bMin_ints {x : Int} {xs : List Int} : bMinD [.lst (.int x :: xs.map .int)] = some (.int (xs.foldl min x)) := by
  show (if okD ((x :: xs).map D.int) = true then some (minF (.int x) (xs.map .int)) else none) = _
  rw [if_pos (okD_ints (x :: xs)), minF_map D.int (fun a b => decide (a < b)) (fun _ _ => dlt_ints), foldl_min]
/-- a number picked of some -/
theorem pick_i {ds : List Int} {p : Nat} {xs : List Int} (h : xs ≠ []) (hl : xs.length ≤ 10 ^ 15) (hp : p ≤ 10 ^ 15) : ∃ z ∈ xs, F_law_pick false [.obj 0, .lst (xs.map .int)] (bx ds p) = some (.v (.int z), bx ds (p + 1)) := by
  have hn : 0 < xs.length := List.length_pos_iff.mpr h
  have e := pick_ok (ds := ds) (p := p) (row := xs.map .int) (by rw [List.length_map]; exact hn) (by rw [List.length_map]; exact hl) hp
  have hk := pk_lt (ds := ds) (p := p) hn
  rw [List.length_map, List.getElem?_map, List.getElem?_eq_getElem hk] at e
  exact ⟨xs[pk ds p xs.length], List.getElem_mem hk, e⟩
/-- a number in a list of numbers -/
theorem dIn_ints {x : Int} {xs : List Int} : dIn (.int x) (.lst (xs.map .int)) = some (.bl (decide (x ∈ xs))) := by
  have h : dInb (.int x) (.lst (xs.map .int)) = some (decide (x ∈ xs)) := by
    show (match D.py (.int x), D.pys (xs.map .int) with | some p, some ps => if SeqAt.shaped p = true ∧ SeqAt.shaped (.list ps) = true then some (ps.any fun z => PyData.eqv z p) else none | _, _ => none) = _
    rw [pys_ints]
    show (if SeqAt.shaped (.int x) = true ∧ SeqAt.shaped (.list (xs.map .int)) = true then some ((xs.map PyData.int).any fun z => PyData.eqv z (.int x)) else none) = _
    have h3 : PyData.canLayAll0 (xs.map .int) = true := by
      induction xs with
      | nil => rfl
      | cons y ys ih => rw [List.map_cons, PyData.canLayAll0, ih]; simp [PyData.canLay0]
    have h4 : PyData.depthAll (xs.map .int) ≤ 1 := depthAll_le fun p hp => by
      obtain ⟨a, _, rfl⟩ := List.mem_map.mp hp
      rw [PyData.depth] <;> simp
    have h2 : SeqAt.shaped (.list (xs.map .int)) = true := by
      unfold SeqAt.shaped
      rw [PyData.canLay0, h3, PyData.depth]
      simp; omega
    rw [if_pos ⟨shaped_i, h2⟩, List.any_map]
    congr 1
    rw [Bool.eq_iff_iff]
    simp only [List.any_eq_true, Function.comp_apply, eqv_i, decide_eq_true_eq]
    constructor
    · rintro ⟨y, hy, rfl⟩; exact hy
    · exact fun h => ⟨x, h, rfl⟩
  unfold dIn; rw [h]; rfl
/-! the same, of plain things -/
theorem same_int {i : Int} (h : -(10 ^ 30) ≤ i ∧ i ≤ 10 ^ 30) : pF F_law_same [.int i, .int i] = some (.v (.bl true)) := same_ok (.i h)
theorem same_bl {b : Bool} : pF F_law_same [.bl b, .bl b] = some (.v (.bl true)) := same_ok .bl
theorem same_non : pF F_law_same [.non, .non] = some (.v (.bl true)) := same_ok .non
theorem dt_ints {n : Nat} {xs : List Int} (hl : xs.length ≤ 10 ^ 15) (h : ∀ x ∈ xs, -(10 ^ 30) ≤ x ∧ x ≤ 10 ^ 30) : Dt (n + 1) (.lst (xs.map .int)) := .lst (fun x hx => by
  obtain ⟨y, hy, rfl⟩ := List.mem_map.mp hx
  exact .i (h y hy)) (by rw [List.length_map]; exact hl)
theorem same_ints {xs : List Int} (hl : xs.length ≤ 10 ^ 15) (h : ∀ x ∈ xs, -(10 ^ 30) ≤ x ∧ x ≤ 10 ^ 30) : pF F_law_same [.lst (xs.map .int), .lst (xs.map .int)] = some (.v (.bl true)) := same_ok (dt_ints hl h)
/-! slices -/
theorem eCut_q {f : EvE} {lo hi : EvO} {s : Sta} : eCut f lo hi s = @bnd _ _ (f s) ⟨fun p => @bnd _ _ (lo p.2) ⟨fun q => @bnd _ _ (hi q.2) ⟨fun r => @bnd _ _ (dCut p.1 q.1 r.1) ⟨fun d => some (d, r.2)⟩⟩⟩⟩ := by
  show (f s).bind (fun p => (lo p.2).bind fun q => (hi q.2).bind fun r => (dCut p.1 q.1 r.1).map fun d => (d, r.2)) = _
  simp only [map_bnd]; rfl
theorem oNone_q {s : Sta} : oNone s = some (none, s) := rfl
def oSk : D → Sta → Option (Option Int × Sta)
  | .int i, s => some (some i, s)
  | _, _ => none
theorem oSome_q {f : EvE} {s : Sta} : oSome f s = @bnd _ _ (f s) ⟨fun p => oSk p.1 p.2⟩ := by
  unfold oSome bnd; cases f s with
  | none => rfl
  | some p => obtain ⟨d, s⟩ := p; cases d <;> rfl
theorem oSk_i {i : Int} {s : Sta} : oSk (.int i) s = some (some i, s) := rfl
theorem cut_from {xs : List D} {k : Nat} : dCut (.lst xs) (some (k : Int)) none = some (.lst (xs.drop k)) := by
  show some (D.lst ((xs.drop (HT.sIx xs.length 0 (some k))).take (xs.length - HT.sIx xs.length 0 (some k)))) = _
  rw [HT.sIx_nat]
  congr 2
  by_cases h : k ≤ xs.length
  · rw [Nat.min_eq_left h, List.take_of_length_le (by rw [List.length_drop]; exact Nat.le_refl _)]
  · rw [Nat.min_eq_right (by omega), List.drop_length, List.drop_eq_nil_of_le (by omega), List.take_nil]
theorem cut_to {xs : List D} {k : Nat} : dCut (.lst xs) none (some (k : Int)) = some (.lst (xs.take k)) := by
  show some (D.lst ((xs.drop 0).take (HT.sIx xs.length xs.length (some k) - 0))) = _
  rw [HT.sIx_nat]
  congr 2
  rw [List.drop_zero, Nat.sub_zero]
  by_cases h : k ≤ xs.length
  · rw [Nat.min_eq_left h]
  · rw [Nat.min_eq_right (by omega), List.take_of_length_le (by omega), List.take_of_length_le (by omega)]
/-! four turns, and such -/
theorem seg_four {a : Int} : seg a (a + 4) = [a, a + 1, a + 2, a + 3] := by
  rw [seg_cons (by omega), seg_cons (by omega), seg_cons (by omega), seg_cons (by omega), seg_nil (by omega)]
  simp only [Int.add_assoc]; rfl
theorem div_bd {x m N : Int} (hm : 0 < m) (h : -N ≤ x ∧ x ≤ N) : -N ≤ x / m ∧ x / m ≤ N := by
  have h1 : N * 1 ≤ N * m := Int.mul_le_mul_of_nonneg_left (by omega) (by omega)
  refine ⟨Int.le_ediv_of_mul_le hm (by rw [Int.neg_mul]; omega), Int.ediv_le_of_le_mul hm (by omega)⟩
theorem mul_bd {a b A B : Int} (ha : -A ≤ a ∧ a ≤ A) (hb : -B ≤ b ∧ b ≤ B) : -(A * B) ≤ a * b ∧ a * b ≤ A * B := by
  have h1 : (a * b).natAbs = a.natAbs * b.natAbs := Int.natAbs_mul a b
  have h2 : a.natAbs * b.natAbs ≤ A.toNat * B.toNat := Nat.mul_le_mul (by omega) (by omega)
  have h3 : ((A.toNat * B.toNat : Nat) : Int) = A * B := by
    rw [Int.natCast_mul, Int.toNat_of_nonneg (by omega), Int.toNat_of_nonneg (by omega)]
  generalize a.natAbs * b.natAbs = u at *
  generalize A.toNat * B.toNat = w at *
  generalize a * b = z at *
  generalize A * B = y at *
  omega
theorem filter_seg {a s e b : Int} (h : a ≤ s ∧ e ≤ b) (q : Int → Bool) : ((seg a b).filter q).filter (fun x => decide (s ≤ x) && decide (x < e)) = (seg s e).filter q := by
  rw [List.filter_filter]
  by_cases hse : s ≤ e
  · rw [seg_app h.1 (show s ≤ b by omega), seg_app hse h.2, List.filter_append, List.filter_append]
    have h1 : (seg a s).filter (fun x => (decide (s ≤ x) && decide (x < e)) && q x) = [] := List.filter_eq_nil_iff.mpr fun x hx => by
      have := mem_seg.mp hx
      simp; omega
    have h2 : (seg e b).filter (fun x => (decide (s ≤ x) && decide (x < e)) && q x) = [] := List.filter_eq_nil_iff.mpr fun x hx => by
      have := mem_seg.mp hx
      simp; omega
    rw [h1, h2, List.nil_append, List.append_nil]
    refine List.filter_congr fun x hx => ?_
    have := mem_seg.mp hx
    simp [this.1, this.2]
  · rw [seg_nil (show e ≤ s by omega), List.filter_nil]
    refine List.filter_eq_nil_iff.mpr fun x hx => ?_
    simp; omega
end Ev

namespace Ev
open PySem L2

/-! ## a head's facts, with names that hold built-ins -/
def biB (fb : List (Str × String)) (K : PySem.W.Frag) : Bool := fb.all fun p => He.eqO (PySem.W.nsIn K mainGlobals p.1) (some (some (.builtin p.2)))
def obsB (n : Nat) (fa : List He.Fa) (fn : List He.DefD) (fb : List (Str × String)) (g : Addr → Option Obj) : He.AlD × Bool := (He.obsDG n fa fn g, biB fb (He.frG g (He.asD g n)))
def hookB (n : Nat) (fa : List He.Fa) (fn : List He.DefD) (fb : List (Str × String)) : PySem.W.Hook where
  α := He.AlD × Bool
  obs := fun s => obsB n fa fn fb s.heap.get?
  val := fun _ => (He.valD fn, true)
  says := fun _ h => ∃ K : PySem.W.Frag, K.In h ∧ He.SaysD fa fn K ∧ biB fb K = true
  of := fun _ _ e => ⟨_, He.frG_in, congrArg (fun z : He.AlD × Bool => z.1) e, congrArg (fun z : He.AlD × Bool => z.2) e⟩
  keeps := fun _ _ _ ⟨K, hK, c⟩ k => ⟨K, PySem.W.Frag.In.keeps hK k, c⟩
theorem obsB_eq {n : Nat} {fa : List He.Fa} {fn : List He.DefD} {fb : List (Str × String)} {g : Addr → Option Obj} {s : Shared} (h : ∀ a, g a = s.heap.get? a) : obsB n fa fn fb g = (hookB n fa fn fb).obs s := by
  have e : g = s.heap.get? := funext h
  rw [e] <;> rfl
theorem bi_ok {fb : List (Str × String)} {K : PySem.W.Frag} {h : Heap} {mg : Str → Option Value} (X : K.In h) (G : h.Ns mainGlobals mg) (c : biB fb K = true) (i : Nat) {x : Str} {b : String} (e : fb[i]? = some (x, b) := by rfl) : mg x = some (.builtin b) :=
  PySem.W.mg_of X G (He.eqO_ok (List.all_eq_true.mp c (x, b) (List.mem_of_getElem? e)))
theorem ss_retI {X : Cx} (i : Nat) {x : Str} {p pos : Pos} (hN : X.N[i]? = some x := by rfl) (hv : Vis X.env.scope x := by first | exact Or.inl rfl | exact Or.inr (Or.inl rfl) | exact Or.inr (Or.inr rfl)) (hd : (x == ("__debug__" : Str)) = false := by decide)
    (hcd : (x == ("__classdict__" : Str)) = false := by decide) : SS X (.Return (some (.Name x p)) pos) (sRetV i) := ss_retV (pe_var hN hv hd hcd)
end Ev

namespace Ev
open PySem L2
open PySem.W (alike alikeAll dataLt AlikeAll AllAlike Sortable dataLe keyToks keyToksAll)

/-! ## rows of whole numbers -/
def rowD (xs : List Int) : D := .tup (xs.map .int)
theorem py_tI (xs : List Int) : (rowD xs).py = some (.tuple (xs.map .int)) := by
  show (D.pys (xs.map .int)).map PyData.tuple = _
  rw [pys_ints]; rfl
theorem dlt_tI {xs ys : List Int} : dltB (rowD xs) (rowD ys) = decide (xs < ys) := by
  unfold dltB
  rw [py_pd (py_tI xs), py_pd (py_tI ys), ← PySem.W.dataLt_ints]
  unfold dataLt PySem.W.rowLt
  simp only [keyToks]
theorem pys_tIs : ∀ (xs : List (List Int)), D.pys (xs.map rowD) = some (xs.map fun r => .tuple (r.map .int))
  | [] => rfl
  | x :: xs => by
    rw [List.map_cons, D.pys]; simp only [py_tI x, pys_tIs xs, List.map_cons]
theorem alike_ints : ∀ (xs ys : List Int), alikeAll (xs.map .int) (ys.map .int) = true
  | [], _ => by rw [List.map_nil]; simp [alikeAll]
  | _ :: _, [] => by simp [alikeAll]
  | x :: xs, y :: ys => by rw [List.map_cons, List.map_cons, alikeAll, alike_ints xs ys, alike]; rfl
theorem depth_ints (xs : List Int) : PyData.depthAll (xs.map .int) ≤ 1 := depthAll_le fun p hp => by
  obtain ⟨a, _, rfl⟩ := List.mem_map.mp hp
  rw [PyData.depth] <;> simp
theorem depth_tI (xs : List Int) : (PyData.tuple (xs.map .int)).depth ≤ 2 := by
  rw [PyData.depth]; have := depth_ints xs; omega
theorem okD_tIs (xs : List (List Int)) : okD (xs.map rowD) = true := by
  refine okD_of (pys_tIs xs) (fun p hp q hq => ?_) (fun p hp => ?_) fun p hp => ?_
  · obtain ⟨a, _, rfl⟩ := List.mem_map.mp hp
    obtain ⟨b, _, rfl⟩ := List.mem_map.mp hq
    rw [alike]; exact alike_ints a b
  · obtain ⟨a, _, rfl⟩ := List.mem_map.mp hp
    rw [alike] <;> simp
  · obtain ⟨a, _, rfl⟩ := List.mem_map.mp hp
    have := depth_tI a; omega
theorem bMin_tIs {x : List Int} {xs : List (List Int)} : bMinD [.lst (rowD x :: xs.map rowD)] = some (rowD (xs.foldl (fun a y => if decide (y < a) then y else a) x)) := by
  show (if okD ((x :: xs).map rowD) = true then some (minF (rowD x) (xs.map rowD)) else none) = _
  rw [if_pos (okD_tIs (x :: xs)), minF_map rowD (fun a b => decide (a < b)) (fun _ _ => dlt_tI)]
theorem bMax_tIs {x : List Int} {xs : List (List Int)} : bMaxD [.lst (rowD x :: xs.map rowD)] = some (rowD (xs.foldl (fun a y => if decide (a < y) then y else a) x)) := by
  show (if okD ((x :: xs).map rowD) = true then some (maxF (rowD x) (xs.map rowD)) else none) = _
  rw [if_pos (okD_tIs (x :: xs)), maxF_map rowD (fun a b => decide (a < b)) (fun _ _ => dlt_tI)]
/-! ### in order -/
theorem okS_ints (xs : List Int) : okS (xs.map .int) = true := by
  unfold okS
  rw [pys_ints]
  simp only [Bool.and_eq_true, Bool.or_eq_true, decide_eq_true_eq, List.all_eq_true]
  refine ⟨⟨fun p hp q hq => ?_, by have := depth_ints xs; omega⟩, .inr fun p hp => ?_⟩
  · obtain ⟨a, _, rfl⟩ := List.mem_map.mp hp
    obtain ⟨b, _, rfl⟩ := List.mem_map.mp hq
    rw [alike]
  · obtain ⟨a, _, rfl⟩ := List.mem_map.mp hp
    rfl
theorem dle_ints {a b : Int} : dataLe false D.pd (.int a) (.int b) = decide (a ≤ b) := by
  show (!dataLt (.int b) (.int a)) = _
  rw [PySem.W.dataLt_int, Bool.eq_iff_iff]
  simp
theorem sort_ints (xs : List Int) : sortD false (xs.map .int) = (sortI xs).map .int := by
  unfold sortD sortI
  refine (List.map_mergeSort (r := fun a b => decide (a ≤ b)) (s := dataLe false D.pd) (f := D.int) (l := xs) fun a _ b _ => ?_).symm
  exact dle_ints.symm
theorem bSort_ints {xs : List Int} (h : xs.length ≤ 10 ^ 6) : bSortD false [.lst (xs.map .int)] = some ((sortI xs).map .int) := by
  show (if okS (xs.map .int) = true ∧ (xs.map D.int).length ≤ sizeLine then some (sortD false (xs.map .int)) else none) = _
  rw [if_pos ⟨okS_ints xs, le_line (by rw [List.length_map]; exact h)⟩, sort_ints]
theorem sortI_congr {xs ys : List Int} (h : xs.Perm ys) : sortI xs = sortI ys := (sortI_eq ((sortI_perm xs).trans h) (sortI_sorted xs))
/-! ### alike -/
theorem lay_ints : ∀ (xs : List Int), PyData.canLayAll0 (xs.map .int) = true
  | [] => rfl
  | x :: xs => by rw [List.map_cons, PyData.canLayAll0, lay_ints xs]; simp [PyData.canLay0]
theorem shaped_lints (xs : List Int) : SeqAt.shaped (.list (xs.map .int)) = true := by
  unfold SeqAt.shaped
  rw [PyData.canLay0, lay_ints, PyData.depth]
  have := depth_ints xs
  simp; omega
theorem shaped_tints (xs : List Int) : SeqAt.shaped (.tuple (xs.map .int)) = true := by
  unfold SeqAt.shaped
  rw [PyData.canLay0, lay_ints, PyData.depth]
  have := depth_ints xs
  simp; omega
theorem lay_tIs : ∀ (xs : List (List Int)), PyData.canLayAll0 (xs.map fun r => .tuple (r.map .int)) = true
  | [] => rfl
  | x :: xs => by rw [List.map_cons, PyData.canLayAll0, lay_tIs xs, PyData.canLay0, lay_ints]; rfl
theorem shaped_tIs (xs : List (List Int)) : SeqAt.shaped (.list (xs.map fun r => .tuple (r.map .int))) = true := by
  unfold SeqAt.shaped
  rw [PyData.canLay0, lay_tIs, PyData.depth]
  have : PyData.depthAll (xs.map fun r => PyData.tuple (r.map .int)) ≤ 2 := depthAll_le fun p hp => by
    obtain ⟨a, _, rfl⟩ := List.mem_map.mp hp
    exact depth_tI a
  simp; omega
theorem eqv_ints : ∀ (xs ys : List Int), PyData.eqvAll (xs.map .int) (ys.map .int) = decide (xs = ys)
  | [], [] => by rw [List.map_nil, PyData.eqvAll]; rfl
  | [], y :: ys => by rw [List.map_nil, List.map_cons, PyData.eqvAll]; simp
  | x :: xs, [] => by rw [List.map_nil, List.map_cons, PyData.eqvAll]; simp
  | x :: xs, y :: ys => by
    rw [List.map_cons, List.map_cons, PyData.eqvAll, eqv_ints xs ys, eqv_i, Bool.eq_iff_iff]
    simp
theorem eqv_rows : ∀ (xs ys : List (List Int)), PyData.eqvAll (xs.map fun r => .tuple (r.map .int)) (ys.map fun r => .tuple (r.map .int)) = decide (xs = ys)
  | [], [] => by rw [List.map_nil, PyData.eqvAll]; rfl
  | [], y :: ys => by rw [List.map_nil, List.map_cons, PyData.eqvAll]; simp
  | x :: xs, [] => by rw [List.map_nil, List.map_cons, PyData.eqvAll]; simp
  | x :: xs, y :: ys => by
    rw [List.map_cons, List.map_cons, PyData.eqvAll, eqv_rows xs ys, PyData.eqv, eqv_ints, Bool.eq_iff_iff]
    simp
theorem dEq_of {a b : D} {p q : PyData} (ha : a.py = some p) (hb : b.py = some q) (sa : SeqAt.shaped p = true) (sb : SeqAt.shaped q = true) : dEqb a b = some (PyData.eqv p q) := by
  unfold dEqb; rw [ha, hb]; exact if_pos ⟨sa, sb⟩
theorem py_lints (xs : List Int) : (D.lst (xs.map .int)).py = some (.list (xs.map .int)) := by
  show (D.pys (xs.map .int)).map PyData.list = _
  rw [pys_ints]; rfl
theorem py_lrows (xs : List (List Int)) : (D.lst (xs.map rowD)).py = some (.list (xs.map fun r => .tuple (r.map .int))) := by
  show (D.pys (xs.map rowD)).map PyData.list = _
  rw [pys_tIs]; rfl
theorem dEqb_ints (xs ys : List Int) : dEqb (.lst (xs.map .int)) (.lst (ys.map .int)) = some (decide (xs = ys)) := by
  rw [dEq_of (py_lints xs) (py_lints ys) (shaped_lints xs) (shaped_lints ys), PyData.eqv, eqv_ints]
theorem dEqb_row (xs ys : List Int) : dEqb (rowD xs) (rowD ys) = some (decide (xs = ys)) := by
  rw [dEq_of (py_tI xs) (py_tI ys) (shaped_tints xs) (shaped_tints ys), PyData.eqv, eqv_ints]
theorem dEqb_rows (xs ys : List (List Int)) : dEqb (.lst (xs.map rowD)) (.lst (ys.map rowD)) = some (decide (xs = ys)) := by
  rw [dEq_of (py_lrows xs) (py_lrows ys) (shaped_tIs xs) (shaped_tIs ys), PyData.eqv, eqv_rows]
theorem dEq_nil_ints (xs : List Int) : dEq (.lst (xs.map .int)) (.lst []) = some (.bl (decide (xs = []))) := by
  unfold dEq; rw [show (D.lst []) = .lst (([] : List Int).map .int) from rfl, dEqb_ints]; rfl
theorem dEq_nil_rows (xs : List (List Int)) : dEq (.lst (xs.map rowD)) (.lst []) = some (.bl (decide (xs = []))) := by
  unfold dEq; rw [show (D.lst []) = .lst (([] : List (List Int)).map rowD) from rfl, dEqb_rows]; rfl
/-! ### the last item -/
theorem atI_last {α : Type} {xs : List α} {x : α} : atI (xs ++ [x]) (-1) = some x := by
  unfold atI ixN
  rw [if_neg (by decide), if_pos (by rw [List.length_append, List.length_singleton]; omega), List.length_append, List.length_singleton]
  have : (-1 + ((xs.length + 1 : Nat) : Int)).toNat = xs.length := by omega
  show (xs ++ [x])[(-1 + ((xs.length + 1 : Nat) : Int)).toNat]? = _
  rw [this]; simp
theorem atI_m1 {α : Type} {xs : List α} : atI xs (-1) = xs.getLast? := by
  rcases List.eq_nil_or_concat xs with rfl | ⟨l, x, rfl⟩
  · rfl
  · rw [List.concat_eq_append, atI_last]; simp
end Ev

namespace Ev
open PySem L2

/-! ## fractions, measures: helpers of many laws -/
def b_fraction : EvS := (sSeq (sSet 2 (eL bGcd (aCons (eV 0) (aCons (eV 1) aNil)))) (sSeq (sIf (eTb (e2 dLt (eW 1) (eC (.int 0)))) (sSet 2 (e1 dNeg (eV 2))) sNil) (sRet (eL dTup (aCons (e2 dFdiv (eV 0) (eV 2)) (aCons (e2 dFdiv (eV 1) (eV 2)) aNil))))))
def F_fraction : Fn := fnF 2 3 (b_fraction)
theorem q_fraction {pu : Bool} {S : Sto} {d0 d1 : D} : F_fraction pu [d0, d1] S = @bnd _ _ (b_fraction ⟨[some (.v d0), some (.v d1), none], S, pu⟩) ⟨finK⟩ := fnF_q rfl
def b_is_less : EvS := (sRet (e2 dLt (e2 dMul (e2 dIx (eV 0) (eC (.int 0))) (e2 dIx (eV 1) (eC (.int 1)))) (e2 dMul (e2 dIx (eV 1) (eC (.int 0))) (e2 dIx (eV 0) (eC (.int 1))))))
def F_is_less : Fn := fnF 2 2 (b_is_less)
theorem q_is_less {pu : Bool} {S : Sto} {d0 d1 : D} : F_is_less pu [d0, d1] S = @bnd _ _ (b_is_less ⟨[some (.v d0), some (.v d1)], S, pu⟩) ⟨finK⟩ := fnF_q rfl
def b_plus : EvS := (sRet (eL (pV (F_fraction)) (aCons (e2 dAdd (e2 dMul (e2 dIx (eV 0) (eC (.int 0))) (e2 dIx (eV 1) (eC (.int 1)))) (e2 dMul (e2 dIx (eV 1) (eC (.int 0))) (e2 dIx (eV 0) (eC (.int 1))))) (aCons (e2 dMul (e2 dIx (eV 0) (eC (.int 1))) (e2 dIx (eV 1) (eC (.int 1)))) aNil))))
def F_plus : Fn := fnF 2 2 (b_plus)
theorem q_plus {pu : Bool} {S : Sto} {d0 d1 : D} : F_plus pu [d0, d1] S = @bnd _ _ (b_plus ⟨[some (.v d0), some (.v d1)], S, pu⟩) ⟨finK⟩ := fnF_q rfl
def b_minus : EvS := (sRet (eL (pV (F_fraction)) (aCons (e2 dSub (e2 dMul (e2 dIx (eV 0) (eC (.int 0))) (e2 dIx (eV 1) (eC (.int 1)))) (e2 dMul (e2 dIx (eV 1) (eC (.int 0))) (e2 dIx (eV 0) (eC (.int 1))))) (aCons (e2 dMul (e2 dIx (eV 0) (eC (.int 1))) (e2 dIx (eV 1) (eC (.int 1)))) aNil))))
def F_minus : Fn := fnF 2 2 (b_minus)
theorem q_minus {pu : Bool} {S : Sto} {d0 d1 : D} : F_minus pu [d0, d1] S = @bnd _ _ (b_minus ⟨[some (.v d0), some (.v d1)], S, pu⟩) ⟨finK⟩ := fnF_q rfl
def b_times : EvS := (sRet (eL (pV (F_fraction)) (aCons (e2 dMul (e2 dIx (eV 0) (eC (.int 0))) (e2 dIx (eV 1) (eC (.int 0)))) (aCons (e2 dMul (e2 dIx (eV 0) (eC (.int 1))) (e2 dIx (eV 1) (eC (.int 1)))) aNil))))
def F_times : Fn := fnF 2 2 (b_times)
theorem q_times {pu : Bool} {S : Sto} {d0 d1 : D} : F_times pu [d0, d1] S = @bnd _ _ (b_times ⟨[some (.v d0), some (.v d1)], S, pu⟩) ⟨finK⟩ := fnF_q rfl
def b_over : EvS := (sRet (eL (pV (F_fraction)) (aCons (e2 dMul (e2 dIx (eV 0) (eC (.int 0))) (e2 dIx (eV 1) (eC (.int 1)))) (aCons (e2 dMul (e2 dIx (eV 0) (eC (.int 1))) (e2 dIx (eV 1) (eC (.int 0)))) aNil))))
def F_over : Fn := fnF 2 2 (b_over)
theorem q_over {pu : Bool} {S : Sto} {d0 d1 : D} : F_over pu [d0, d1] S = @bnd _ _ (b_over ⟨[some (.v d0), some (.v d1)], S, pu⟩) ⟨finK⟩ := fnF_q rfl
def b_whole : EvS := (sRet (eL dTup (aCons (eV 0) (aCons (eC (.int 1)) aNil))))
def F_whole : Fn := fnF 1 1 (b_whole)
theorem q_whole {pu : Bool} {S : Sto} {d0 : D} : F_whole pu [d0] S = @bnd _ _ (b_whole ⟨[some (.v d0)], S, pu⟩) ⟨finK⟩ := fnF_q rfl
def b_measure : EvS := (sRet (eL bGcd (aCons (eV 0) (aCons (eV 1) aNil))))
def F_measure : Fn := fnF 2 2 (b_measure)
theorem q_measure {pu : Bool} {S : Sto} {d0 d1 : D} : F_measure pu [d0, d1] S = @bnd _ _ (b_measure ⟨[some (.v d0), some (.v d1)], S, pu⟩) ⟨finK⟩ := fnF_q rfl
def b_multiple : EvS := (sRet (e2 dFdiv (e2 dMul (eV 0) (eV 1)) (eL bGcd (aCons (eV 0) (aCons (eV 1) aNil)))))
def F_multiple : Fn := fnF 2 2 (b_multiple)
theorem q_multiple {pu : Bool} {S : Sto} {d0 d1 : D} : F_multiple pu [d0, d1] S = @bnd _ _ (b_multiple ⟨[some (.v d0), some (.v d1)], S, pu⟩) ⟨finK⟩ := fnF_q rfl
def l1_law_measure : EvS := (sSeq (sIf (eTb (e2 dEq (eW 1) (eC (.int 0)))) sBk sNil) (sSeq (sSet 3 (e2 dMod (eL bInt (aCons (eV 0) aNil)) (eV 1))) (sSeq (sSet 0 (eV 1)) (sSet 1 (eV 3)))))
def b_law_measure : EvS := (sSeq (sFor (iA dRange1 (aCons (eC (.int 400)) aNil)) (gN 2) l1_law_measure) (sRet (eV 0)))
def F_law_measure : Fn := fnF 2 4 (b_law_measure)
theorem q_law_measure {pu : Bool} {S : Sto} {d0 d1 : D} : F_law_measure pu [d0, d1] S = @bnd _ _ (b_law_measure ⟨[some (.v d0), some (.v d1), none, none], S, pu⟩) ⟨finK⟩ := fnF_q rfl
def b_law_low : EvS := (sSeq (sSet 2 (eL (pV (F_law_measure)) (aCons (eL bAbs (aCons (eV 0) aNil)) (aCons (eV 1) aNil)))) (sRet (eL dTup (aCons (e2 dFdiv (eV 0) (eV 2)) (aCons (e2 dFdiv (eV 1) (eV 2)) aNil)))))
def F_law_low : Fn := fnF 2 3 (b_law_low)
theorem q_law_low {pu : Bool} {S : Sto} {d0 d1 : D} : F_law_low pu [d0, d1] S = @bnd _ _ (b_law_low ⟨[some (.v d0), some (.v d1), none], S, pu⟩) ⟨finK⟩ := fnF_q rfl
def l1_law_is : EvS := (sIf (wOr (wNot (eT (e1 (dIsi "int") (eW 3)))) (eT (e1 (dIsi "bool") (eW 3)))) (sRet (eC (.bl false))) sNil)
def b_law_is : EvS := (sSeq (sIf (wOr (wNot (eT (e1 (dIsi "tuple") (eW 0)))) (eTb (e2 dNe (eL bLen (aCons (eW 0) aNil)) (eC (.int 2))))) (sRet (eC (.bl false))) sNil) (sSeq (sFor (iV (eV 0)) (gN 3) l1_law_is) (sSeq (sIf (wOr (eTb (e2 dLt (e2 dIx (eW 0) (eC (.int 1))) (eC (.int 1)))) (eTb (e2 dNe (e2 dMul (e2 dIx (eW 0) (eC (.int 0))) (eW 2)) (e2 dMul (eW 1) (e2 dIx (eW 0) (eC (.int 1))))))) (sRet (eC (.bl false))) sNil) (sRet (e2 dEq (eL (pV (F_law_measure)) (aCons (eL bAbs (aCons (e2 dIx (eV 0) (eC (.int 0))) aNil)) (aCons (e2 dIx (eV 0) (eC (.int 1))) aNil))) (eC (.int 1)))))))
def F_law_is : Fn := fnF 3 4 (b_law_is)
theorem q_law_is {pu : Bool} {S : Sto} {d0 d1 d2 : D} : F_law_is pu [d0, d1, d2] S = @bnd _ _ (b_law_is ⟨[some (.v d0), some (.v d1), some (.v d2), none], S, pu⟩) ⟨finK⟩ := fnF_q rfl
def l1_law_gcd : EvS := (sSeq (sIf (eTb (e2 dEq (eW 1) (eC (.int 0)))) (sRet (eV 0)) sNil) (sPar 0 1 (aCons (eV 1) (aCons (e2 dMod (eL bInt (aCons (eV 0) aNil)) (eV 1)) aNil))))
def b_law_gcd : EvS := (sSeq (sFor (iA dRange1 (aCons (eC (.int 400)) aNil)) (gN 2) l1_law_gcd) (sRet (eV 0)))
def F_law_gcd : Fn := fnF 2 3 (b_law_gcd)
theorem q_law_gcd {pu : Bool} {S : Sto} {d0 d1 : D} : F_law_gcd pu [d0, d1] S = @bnd _ _ (b_law_gcd ⟨[some (.v d0), some (.v d1), none], S, pu⟩) ⟨finK⟩ := fnF_q rfl
def t1_law_frac (w : Nat) : EvT := (eTb (e2 dNe (eW 3) (eC (.int 0))))
def l1_law_frac (w : Nat) : EvS := (sPar 2 3 (aCons (eV 3) (aCons (e2 dMod (eL bInt (aCons (eV 2) aNil)) (eV 3)) aNil)))
def b_law_frac (w : Nat) : EvS := (sSeq (sIf (eTb (e2 dLt (eW 1) (eC (.int 0)))) (sSeq (sSet 0 (e1 dNeg (eV 0))) (sSet 1 (e1 dNeg (eV 1)))) sNil) (sSeq (sSet 2 (eL bAbs (aCons (eV 0) aNil))) (sSeq (sSet 3 (eV 1)) (sSeq (whileN (t1_law_frac w) (l1_law_frac w) w) (sRet (eL dTup (aCons (e2 dFdiv (eV 0) (eV 2)) (aCons (e2 dFdiv (eV 1) (eV 2)) aNil))))))))
def F_law_frac (w : Nat) : Fn := fnF 2 4 (b_law_frac w)
theorem q_law_frac {w : Nat} {pu : Bool} {S : Sto} {d0 d1 : D} : F_law_frac w pu [d0, d1] S = @bnd _ _ (b_law_frac w ⟨[some (.v d0), some (.v d1), none, none], S, pu⟩) ⟨finK⟩ := fnF_q rfl
/-! ### the greatest common measure -/
def gcdI (a b : Int) : Int := (Nat.gcd a.natAbs b.natAbs : Nat)
theorem gcdI_nn (a b : Int) : 0 ≤ gcdI a b := by unfold gcdI; omega
theorem gcdI_dl (a b : Int) : gcdI a b ∣ a := by
  have := Nat.gcd_dvd_left a.natAbs b.natAbs
  exact Int.natAbs_dvd_natAbs.mp (by unfold gcdI; simpa using this)
theorem gcdI_dr (a b : Int) : gcdI a b ∣ b := by
  have := Nat.gcd_dvd_right a.natAbs b.natAbs
  exact Int.natAbs_dvd_natAbs.mp (by unfold gcdI; simpa using this)
theorem gcdI_pos {a b : Int} (h : b ≠ 0) : 0 < gcdI a b := by
  have : 0 < Nat.gcd a.natAbs b.natAbs := Nat.gcd_pos_of_pos_right _ (by omega)
  unfold gcdI; omega
theorem gcdI_le {a b : Int} (h : b ≠ 0) : gcdI a b ≤ b.natAbs := by
  have := Nat.le_of_dvd (show 0 < b.natAbs by omega) (Nat.gcd_dvd_right a.natAbs b.natAbs)
  unfold gcdI; omega
theorem gcdI_step {a b : Int} (ha : 0 ≤ a) (hb : 0 ≤ b) : gcdI a b = gcdI b (a % b) := by
  obtain ⟨x, rfl⟩ := Int.eq_ofNat_of_zero_le ha
  obtain ⟨y, rfl⟩ := Int.eq_ofNat_of_zero_le hb
  unfold gcdI
  rw [← Int.natCast_emod, Int.natAbs_natCast, Int.natAbs_natCast, Int.natAbs_natCast, Nat.gcd_comm x y, Nat.gcd_rec y x, Nat.gcd_comm]
theorem gcdI_zero {a : Int} (ha : 0 ≤ a) : gcdI a 0 = a := by
  unfold gcdI; rw [Int.natAbs_zero, Nat.gcd_zero_right]; omega
theorem gcdI_abs {a b : Int} : gcdI (a.natAbs : Int) b = gcdI a b := by unfold gcdI; rw [Int.natAbs_natCast]
theorem mod_half {b r : Int} (h0 : 0 < r) (h1 : r ≤ b) : 0 ≤ b % r ∧ 2 * (b % r) < b := by
  have e := Int.emod_add_ediv_mul b r
  have h2 := Int.emod_nonneg b (show r ≠ 0 by omega)
  have h3 := Int.emod_lt_of_pos b h0
  have h4 : 1 ≤ b / r := (Int.le_ediv_iff_mul_le h0).mpr (by omega)
  have h5 : 1 * r ≤ b / r * r := Int.mul_le_mul_of_nonneg_right h4 (by omega)
  omega
/-- so many turns are enough -/
def Euc (k : Nat) (b : Int) : Prop := b < 2 ^ k
theorem euc_half {k : Nat} {b r : Int} (h : Euc (k + 1) b) (h0 : 0 < r) (h1 : r ≤ b) : Euc k (b % r) := by
  have := (mod_half h0 h1).2
  have e : (2 : Int) ^ (k + 1) = 2 ^ k * 2 := Int.pow_succ 2 k
  unfold Euc at h ⊢
  rw [e] at h
  omega
theorem euc_big {b : Int} (h : b ≤ 10 ^ 30) : Euc 199 b := by
  have e : (10 : Int) ^ 30 < 2 ^ 199 := by decide
  unfold Euc; omega
theorem measure_loop : ∀ (k : Nat) (ts : List D) (a b : Int) (x2 x3 : Option B), 0 ≤ a → 0 ≤ b → Euc k b → 2 * k + 1 ≤ ts.length →
    ∃ y1 y2 y3, forL (gN 2) l1_law_measure ts ⟨[some (.v (.int a)), some (.v (.int b)), x2, x3], [], true⟩ = some (.nx, ⟨[some (.v (.int (gcdI a b))), y1, y2, y3], [], true⟩) := by
  have stop : ∀ (t : D) (ts : List D) (a : Int) (x2 x3 : Option B), 0 ≤ a → ∃ y1 y2 y3, forL (gN 2) l1_law_measure (t :: ts) ⟨[some (.v (.int a)), some (.v (.int 0)), x2, x3], [], true⟩ = some (.nx, ⟨[some (.v (.int (gcdI a 0))), y1, y2, y3], [], true⟩) := fun t ts a x2 x3 ha => by
    refine ⟨?_, ?_, ?_, ?_⟩
    rotate_left 3
    rw [forL_cons, gcdI_zero ha]
    simp -implicitDefEqProofs (maxSteps := 1000000) (disch := omega) only [↓bnd_some, bnd_some, eV_q, eVk_v, eVk_o, eW_q, eWk_b, frz_v, frz_o, frzs_nil, frzs_cons, ↓eC_q, ↓e1_q, ↓e2_q, ↓e3_q, e3k_b, ↓eT_q, ↓eTb_q, ↓eTbk_b, eTbk_b, ↓wAnd_q, ↓wOr_q, ↓wNot_q, ↓eAnd_q, ↓eOr_q, ↓eNot_q, ↓eIf_q, ↓eP_q, ↓aNil_q, ↓aCons_q, ↓eL_q, ↓eFz_q, ↓bLst_q, ↓bL_q, ↓b2_q, ↓bCall_q, ↓bPure_q, ↓pV_q, ↓sSeq_q, ↓seqK_nx, seqK_nx, ↓seqK_rt, seqK_rt, ↓seqK_bk, seqK_bk, ↓seqK_ct, seqK_ct, ↓sIf_q, ↓sNil_q, ↓sBk_q, ↓sCt_q, ↓sRet_q, ↓sRetB_q, ↓sRetN_q, ↓sRetV_q, rvK_b, ↓sExp_q, ↓sSet_q, ↓sSetB_q, put_q, ↓sAug_q, augK_v, ↓finK_rt, finK_rt, ↓finK_nx, finK_nx, ↓gN_q, ↓gsNil_q, ↓gsCons_q, ↓gT_q, ↓sAsg_q, ↓iV_q, ↓iA_q, items_lst, items_tup, ↓sFor_q, forL_nil, ↓forK_nx, forK_nx, ↓forK_ct, forK_ct, ↓forK_bk, forK_bk, ↓forK_rt, forK_rt, ↓whK_nx, whK_nx, ↓whK_ct, whK_ct, ↓whK_bk, whK_bk, ↓whK_rt, whK_rt, ↓bLc_q, ↓tYes_q, wipeE_nil, wipeE_cons, ↓pN_q, own_q, ownK_o, mutS_q, mutK_o, ↓mApp_q, ↓mAppB_q, ↓mPop_q, popK_v, ↓sSetIx_q, setK_i, ↓eObj_q, ↓eIxS_q, ↓sSetO_q, dAdd_i, dSub_i, dNeg_i, dLt_i, dLe_i, dGt_i, dGe_i, dEq_i, dNe_i, dTru_b, dTru_i, dTru_l, dTru_t, bAbs_i, bInt_i, bLen_l, bLen_t, bLen_s, dIx_l, dIx_t, bMaxD_2, bMinD_2, ↓dTup_q, ↓eCut_q, ↓oNone_q, ↓oSome_q, ↓oSk_i, oSk_i, List.getElem?_cons_zero, List.getElem?_cons_succ, List.set_cons_zero, List.set_cons_succ, if_true, if_false, Bool.false_eq_true, decide_eq_true_eq, decide_eq_false_iff_not, Bool.not_true, Bool.not_false, List.length_cons, List.length_nil, List.map_cons, List.map_nil, dMul_i, dFdiv_i, dMod_i, List.nil_append, Nat.zero_add, Nat.reduceAdd, Nat.reduceLeDiff, Nat.reduceLT, Nat.reduceEqDiff, le_refl_line, and_self, true_and, and_true, bnd_none, Bool.not_eq_true, eq_self, reduceCtorEq, decide_true, decide_false, B.frzs_v, Nat.add_assoc, draw_ok, ix0, ix1, Int.cast_ofNat_Int, Int.natCast_zero, Int.natCast_one, l1_law_measure, dEq_i]
    rfl
  have turn : ∀ (t : D) (ts : List D) (a b : Int) (x2 x3 : Option B), 0 < b → forL (gN 2) l1_law_measure (t :: ts) ⟨[some (.v (.int a)), some (.v (.int b)), x2, x3], [], true⟩ = forL (gN 2) l1_law_measure ts ⟨[some (.v (.int b)), some (.v (.int (a % b))), some (.v t), some (.v (.int (a % b)))], [], true⟩ := fun t ts a b x2 x3 hb => by
    have hz : ¬ b = 0 := by omega
    rw [forL_cons]
    simp -implicitDefEqProofs (maxSteps := 1000000) (disch := omega) only [↓bnd_some, bnd_some, eV_q, eVk_v, eVk_o, eW_q, eWk_b, frz_v, frz_o, frzs_nil, frzs_cons, ↓eC_q, ↓e1_q, ↓e2_q, ↓e3_q, e3k_b, ↓eT_q, ↓eTb_q, ↓eTbk_b, eTbk_b, ↓wAnd_q, ↓wOr_q, ↓wNot_q, ↓eAnd_q, ↓eOr_q, ↓eNot_q, ↓eIf_q, ↓eP_q, ↓aNil_q, ↓aCons_q, ↓eL_q, ↓eFz_q, ↓bLst_q, ↓bL_q, ↓b2_q, ↓bCall_q, ↓bPure_q, ↓pV_q, ↓sSeq_q, ↓seqK_nx, seqK_nx, ↓seqK_rt, seqK_rt, ↓seqK_bk, seqK_bk, ↓seqK_ct, seqK_ct, ↓sIf_q, ↓sNil_q, ↓sBk_q, ↓sCt_q, ↓sRet_q, ↓sRetB_q, ↓sRetN_q, ↓sRetV_q, rvK_b, ↓sExp_q, ↓sSet_q, ↓sSetB_q, put_q, ↓sAug_q, augK_v, ↓finK_rt, finK_rt, ↓finK_nx, finK_nx, ↓gN_q, ↓gsNil_q, ↓gsCons_q, ↓gT_q, ↓sAsg_q, ↓iV_q, ↓iA_q, items_lst, items_tup, ↓sFor_q, forL_nil, ↓forK_nx, forK_nx, ↓forK_ct, forK_ct, ↓forK_bk, forK_bk, ↓forK_rt, forK_rt, ↓whK_nx, whK_nx, ↓whK_ct, whK_ct, ↓whK_bk, whK_bk, ↓whK_rt, whK_rt, ↓bLc_q, ↓tYes_q, wipeE_nil, wipeE_cons, ↓pN_q, own_q, ownK_o, mutS_q, mutK_o, ↓mApp_q, ↓mAppB_q, ↓mPop_q, popK_v, ↓sSetIx_q, setK_i, ↓eObj_q, ↓eIxS_q, ↓sSetO_q, dAdd_i, dSub_i, dNeg_i, dLt_i, dLe_i, dGt_i, dGe_i, dEq_i, dNe_i, dTru_b, dTru_i, dTru_l, dTru_t, bAbs_i, bInt_i, bLen_l, bLen_t, bLen_s, dIx_l, dIx_t, bMaxD_2, bMinD_2, ↓dTup_q, ↓eCut_q, ↓oNone_q, ↓oSome_q, ↓oSk_i, oSk_i, List.getElem?_cons_zero, List.getElem?_cons_succ, List.set_cons_zero, List.set_cons_succ, if_true, if_false, Bool.false_eq_true, decide_eq_true_eq, decide_eq_false_iff_not, Bool.not_true, Bool.not_false, List.length_cons, List.length_nil, List.map_cons, List.map_nil, dMul_i, dFdiv_i, dMod_i, List.nil_append, Nat.zero_add, Nat.reduceAdd, Nat.reduceLeDiff, Nat.reduceLT, Nat.reduceEqDiff, le_refl_line, and_self, true_and, and_true, bnd_none, Bool.not_eq_true, eq_self, reduceCtorEq, decide_true, decide_false, B.frzs_v, Nat.add_assoc, draw_ok, ix0, ix1, Int.cast_ofNat_Int, Int.natCast_zero, Int.natCast_one, l1_law_measure, dEq_i, hz]
  intro k
  induction k with
  | zero =>
    intro ts a b x2 x3 ha hb hk hl
    have : b = 0 := by unfold Euc at hk; simp at hk; omega
    subst this
    cases ts with
    | nil => simp at hl
    | cons t ts => exact stop t ts a x2 x3 ha
  | succ k ih =>
    intro ts a b x2 x3 ha hb hk hl
    cases ts with
    | nil => simp at hl
    | cons t ts =>
      rcases Int.lt_or_le 0 b with h | h
      · rw [turn _ _ _ _ _ _ h, gcdI_step ha hb]
        have h2 := Int.emod_nonneg a (show b ≠ 0 by omega)
        have h3 := Int.emod_lt_of_pos a h
        cases ts with
        | nil => simp at hl
        | cons t2 ts =>
          rcases Int.lt_or_le 0 (a % b) with z | z
          · rw [turn _ _ _ _ _ _ z, gcdI_step hb h2]
            have h4 := mod_half z (show a % b ≤ b by omega)
            exact ih ts _ _ _ _ h2 h4.1 (euc_half hk z (by omega)) (by simp at hl; omega)
          · have e : a % b = 0 := by omega
            rw [e]
            exact stop t2 ts b _ _ hb
      · have : b = 0 := by omega
        subst this
        exact stop t ts a x2 x3 ha
theorem rng400 : dRange1 [.int 400] = some ((List.range 400).map fun i : Nat => .int i) := rfl
theorem law_measure_ok {a b : Int} (ha : 0 ≤ a) (hb : 0 ≤ b ∧ b ≤ 10 ^ 30) : pF F_law_measure [.int a, .int b] = some (.v (.int (gcdI a b))) := by
  rw [pF_q, q_law_measure, b_law_measure]
  obtain ⟨y1, y2, y3, e⟩ := measure_loop 199 ((List.range 400).map fun i : Nat => D.int i) a b none none ha hb.1 (euc_big hb.2) (by rw [List.length_map, List.length_range]; decide)
  simp -implicitDefEqProofs (maxSteps := 1000000) (disch := omega) only [↓bnd_some, bnd_some, eV_q, eVk_v, eVk_o, eW_q, eWk_b, frz_v, frz_o, frzs_nil, frzs_cons, ↓eC_q, ↓e1_q, ↓e2_q, ↓e3_q, e3k_b, ↓eT_q, ↓eTb_q, ↓eTbk_b, eTbk_b, ↓wAnd_q, ↓wOr_q, ↓wNot_q, ↓eAnd_q, ↓eOr_q, ↓eNot_q, ↓eIf_q, ↓eP_q, ↓aNil_q, ↓aCons_q, ↓eL_q, ↓eFz_q, ↓bLst_q, ↓bL_q, ↓b2_q, ↓bCall_q, ↓bPure_q, ↓pV_q, ↓sSeq_q, ↓seqK_nx, seqK_nx, ↓seqK_rt, seqK_rt, ↓seqK_bk, seqK_bk, ↓seqK_ct, seqK_ct, ↓sIf_q, ↓sNil_q, ↓sBk_q, ↓sCt_q, ↓sRet_q, ↓sRetB_q, ↓sRetN_q, ↓sRetV_q, rvK_b, ↓sExp_q, ↓sSet_q, ↓sSetB_q, put_q, ↓sAug_q, augK_v, ↓finK_rt, finK_rt, ↓finK_nx, finK_nx, ↓gN_q, ↓gsNil_q, ↓gsCons_q, ↓gT_q, ↓sAsg_q, ↓iV_q, ↓iA_q, items_lst, items_tup, ↓sFor_q, forL_nil, ↓forK_nx, forK_nx, ↓forK_ct, forK_ct, ↓forK_bk, forK_bk, ↓forK_rt, forK_rt, ↓whK_nx, whK_nx, ↓whK_ct, whK_ct, ↓whK_bk, whK_bk, ↓whK_rt, whK_rt, ↓bLc_q, ↓tYes_q, wipeE_nil, wipeE_cons, ↓pN_q, own_q, ownK_o, mutS_q, mutK_o, ↓mApp_q, ↓mAppB_q, ↓mPop_q, popK_v, ↓sSetIx_q, setK_i, ↓eObj_q, ↓eIxS_q, ↓sSetO_q, dAdd_i, dSub_i, dNeg_i, dLt_i, dLe_i, dGt_i, dGe_i, dEq_i, dNe_i, dTru_b, dTru_i, dTru_l, dTru_t, bAbs_i, bInt_i, bLen_l, bLen_t, bLen_s, dIx_l, dIx_t, bMaxD_2, bMinD_2, ↓dTup_q, ↓eCut_q, ↓oNone_q, ↓oSome_q, ↓oSk_i, oSk_i, List.getElem?_cons_zero, List.getElem?_cons_succ, List.set_cons_zero, List.set_cons_succ, if_true, if_false, Bool.false_eq_true, decide_eq_true_eq, decide_eq_false_iff_not, Bool.not_true, Bool.not_false, List.length_cons, List.length_nil, List.map_cons, List.map_nil, dMul_i, dFdiv_i, dMod_i, List.nil_append, Nat.zero_add, Nat.reduceAdd, Nat.reduceLeDiff, Nat.reduceLT, Nat.reduceEqDiff, le_refl_line, and_self, true_and, and_true, bnd_none, Bool.not_eq_true, eq_self, reduceCtorEq, decide_true, decide_false, B.frzs_v, Nat.add_assoc, draw_ok, ix0, ix1, Int.cast_ofNat_Int, Int.natCast_zero, Int.natCast_one, rng400, e]
/-- a fraction in lowest terms, the bottom above 0 -/
def lowT (t b : Int) : Int := if b < 0 then (-t) / gcdI t b else t / gcdI t b
def lowB (t b : Int) : Int := if b < 0 then (-b) / gcdI t b else b / gcdI t b
abbrev fq (p q : Int) : D := .tup [.int p, .int q]
abbrev lowD (t b : Int) : D := fq (lowT t b) (lowB t b)
abbrev Bd (i : Int) : Prop := -(10 ^ 30) ≤ i ∧ i ≤ 10 ^ 30
theorem low_spec {t b : Int} (hb : b ≠ 0) : 0 < lowB t b ∧ lowT t b * b = t * lowB t b ∧ gcdI (lowT t b) (lowB t b) = 1 ∧ lowB t b ≤ b.natAbs ∧ (lowT t b).natAbs ≤ t.natAbs := by
  have hg := gcdI_pos (a := t) hb
  obtain ⟨u, hu⟩ := gcdI_dl t b
  obtain ⟨v, hv⟩ := gcdI_dr t b
  obtain ⟨g, hgd⟩ : ∃ g, g = gcdI t b := ⟨_, rfl⟩
  unfold lowT lowB
  rw [← hgd] at hg hu hv ⊢
  have e2 : g.natAbs = Nat.gcd t.natAbs b.natAbs := by rw [hgd]; unfold gcdI; simp
  clear hgd
  have hcop : Nat.gcd u.natAbs v.natAbs = 1 := by
    have e : Nat.gcd t.natAbs b.natAbs = g.natAbs * Nat.gcd u.natAbs v.natAbs := by
      rw [hu, hv, Int.natAbs_mul, Int.natAbs_mul, Nat.gcd_mul_left]
    rw [← e2] at e
    exact Nat.eq_of_mul_eq_mul_left (show 0 < g.natAbs by omega) (by omega)
  have q1 : t / g = u := by rw [hu]; exact Int.mul_ediv_cancel_left _ (by omega)
  have q2 : b / g = v := by rw [hv]; exact Int.mul_ediv_cancel_left _ (by omega)
  have q3 : (-t) / g = -u := by rw [hu, ← Int.mul_neg]; exact Int.mul_ediv_cancel_left _ (by omega)
  have q4 : (-b) / g = -v := by rw [hv, ← Int.mul_neg]; exact Int.mul_ediv_cancel_left _ (by omega)
  have n1 : t.natAbs = g.natAbs * u.natAbs := by rw [hu, Int.natAbs_mul]
  have n2 : b.natAbs = g.natAbs * v.natAbs := by rw [hv, Int.natAbs_mul]
  have n3 : 1 * u.natAbs ≤ g.natAbs * u.natAbs := Nat.mul_le_mul_right _ (by omega)
  have n4 : 1 * v.natAbs ≤ g.natAbs * v.natAbs := Nat.mul_le_mul_right _ (by omega)
  have cr : u * b = t * v := by rw [hv, hu, Int.mul_left_comm, Int.mul_assoc]
  rcases Int.lt_or_le b 0 with h | h
  · have hv0 : v < 0 := by
      rcases Int.lt_or_le v 0 with z | z
      · exact z
      · have := Int.mul_nonneg (show 0 ≤ g by omega) z; omega
    rw [if_pos h, if_pos h, q3, q4]
    refine ⟨by omega, by rw [Int.neg_mul, Int.mul_neg, cr], ?_, by omega, by omega⟩
    unfold gcdI; rw [Int.natAbs_neg, Int.natAbs_neg, hcop]; rfl
  · have hv0 : 0 < v := by
      rcases Int.lt_or_le 0 v with z | z
      · exact z
      · have := Int.mul_nonpos_of_nonneg_of_nonpos (show 0 ≤ g by omega) z; omega
    rw [if_neg (by omega), if_neg (by omega), q1, q2]
    refine ⟨hv0, cr, ?_, by omega, by omega⟩
    unfold gcdI; rw [hcop]; rfl
theorem low_uniq {p q p' q' : Int} (h1 : 0 < q) (h2 : gcdI p q = 1) (h3 : 0 < q') (h4 : gcdI p' q' = 1) (e : p * q' = p' * q) : p = p' ∧ q = q' := by
  have c1 : Nat.gcd p.natAbs q.natAbs = 1 := by unfold gcdI at h2; omega
  have c2 : Nat.gcd p'.natAbs q'.natAbs = 1 := by unfold gcdI at h4; omega
  have en : p.natAbs * q'.natAbs = p'.natAbs * q.natAbs := by rw [← Int.natAbs_mul, ← Int.natAbs_mul, e]
  have d1 : q.natAbs ∣ q'.natAbs := (Nat.Coprime.symm c1).dvd_of_dvd_mul_left (by rw [en]; exact Nat.dvd_mul_left _ _)
  have d2 : q'.natAbs ∣ q.natAbs := (Nat.Coprime.symm c2).dvd_of_dvd_mul_left (by rw [← en]; exact Nat.dvd_mul_left _ _)
  have eq : q = q' := by have := Nat.dvd_antisymm d1 d2; omega
  subst eq
  exact ⟨Int.eq_of_mul_eq_mul_right (by omega) e, rfl⟩
theorem low_congr {t b t' b' : Int} (hb : b ≠ 0) (hb' : b' ≠ 0) (e : t * b' = t' * b) : lowT t b = lowT t' b' ∧ lowB t b = lowB t' b' := by
  obtain ⟨a1, a2, a3, _⟩ := low_spec (t := t) hb
  obtain ⟨c1, c2, c3, _⟩ := low_spec (t := t') hb'
  refine low_uniq a1 a3 c1 c3 ?_
  have h : (b * b') * (lowT t b * lowB t' b') = (b * b') * (lowT t' b' * lowB t b) := by
    have e1 : (b * b') * (lowT t b * lowB t' b') = (lowT t b * b) * (b' * lowB t' b') := by simp only [Int.mul_comm, Int.mul_left_comm, Int.mul_assoc]
    have e2 : (b * b') * (lowT t' b' * lowB t b) = (lowT t' b' * b') * (b * lowB t b) := by simp only [Int.mul_comm, Int.mul_left_comm, Int.mul_assoc]
    rw [e1, e2, a2, c2]
    have e3 : t * lowB t b * (b' * lowB t' b') = (t * b') * (lowB t b * lowB t' b') := by simp only [Int.mul_comm, Int.mul_left_comm, Int.mul_assoc]
    have e4 : t' * lowB t' b' * (b * lowB t b) = (t' * b) * (lowB t b * lowB t' b') := by simp only [Int.mul_comm, Int.mul_left_comm, Int.mul_assoc]
    rw [e3, e4, e]
  exact Int.eq_of_mul_eq_mul_left (Int.mul_ne_zero hb hb') h
theorem fdiv_neg {t g : Int} (hg : 0 < g) (hd : g ∣ t) : t.fdiv (-g) = (-t) / g := by
  obtain ⟨u, rfl⟩ := hd
  rw [show (-(g * u)) / g = -u by rw [← Int.mul_neg]; exact Int.mul_ediv_cancel_left _ (by omega)]
  rw [show g * u = (-g) * (-u) by rw [Int.neg_mul_neg]]
  exact Int.mul_fdiv_cancel_left _ (by omega)
theorem dFdiv_neg {t g : Int} (hg : 0 < g ∧ g ≤ 10 ^ 30) (hd : g ∣ t) : dFdiv (.int t) (.int (-g)) = some (.int ((-t) / g)) := by
  simp only [dFdiv]
  rw [if_pos ⟨by omega, sm_of ⟨by omega, by omega⟩⟩, fdiv_neg hg.1 hd]
theorem bGcd_q {a b : Int} : bGcd [.int a, .int b] = some (.int (gcdI a b)) := rfl
theorem two_line : (2 : Nat) ≤ sizeLine := le_line (by decide)
theorem fraction_ok {t b : Int} (hb : b ≠ 0) (h : Bd b) : pF F_fraction [.int t, .int b] = some (.v (lowD t b)) := by
  rw [pF_q, q_fraction, b_fraction]
  have hg := gcdI_pos (a := t) hb
  have hl := gcdI_le (a := t) hb
  have d1 := gcdI_dl t b
  have d2 := gcdI_dr t b
  unfold lowD lowT lowB
  by_cases c : b < 0
  · simp -implicitDefEqProofs (maxSteps := 1000000) (disch := omega) only [↓bnd_some, bnd_some, eV_q, eVk_v, eVk_o, eW_q, eWk_b, frz_v, frz_o, frzs_nil, frzs_cons, ↓eC_q, ↓e1_q, ↓e2_q, ↓e3_q, e3k_b, ↓eT_q, ↓eTb_q, ↓eTbk_b, eTbk_b, ↓wAnd_q, ↓wOr_q, ↓wNot_q, ↓eAnd_q, ↓eOr_q, ↓eNot_q, ↓eIf_q, ↓eP_q, ↓aNil_q, ↓aCons_q, ↓eL_q, ↓eFz_q, ↓bLst_q, ↓bL_q, ↓b2_q, ↓bCall_q, ↓bPure_q, ↓pV_q, ↓sSeq_q, ↓seqK_nx, seqK_nx, ↓seqK_rt, seqK_rt, ↓seqK_bk, seqK_bk, ↓seqK_ct, seqK_ct, ↓sIf_q, ↓sNil_q, ↓sBk_q, ↓sCt_q, ↓sRet_q, ↓sRetB_q, ↓sRetN_q, ↓sRetV_q, rvK_b, ↓sExp_q, ↓sSet_q, ↓sSetB_q, put_q, ↓sAug_q, augK_v, ↓finK_rt, finK_rt, ↓finK_nx, finK_nx, ↓gN_q, ↓gsNil_q, ↓gsCons_q, ↓gT_q, ↓sAsg_q, ↓iV_q, ↓iA_q, items_lst, items_tup, ↓sFor_q, forL_nil, ↓forK_nx, forK_nx, ↓forK_ct, forK_ct, ↓forK_bk, forK_bk, ↓forK_rt, forK_rt, ↓whK_nx, whK_nx, ↓whK_ct, whK_ct, ↓whK_bk, whK_bk, ↓whK_rt, whK_rt, ↓bLc_q, ↓tYes_q, wipeE_nil, wipeE_cons, ↓pN_q, own_q, ownK_o, mutS_q, mutK_o, ↓mApp_q, ↓mAppB_q, ↓mPop_q, popK_v, ↓sSetIx_q, setK_i, ↓eObj_q, ↓eIxS_q, ↓sSetO_q, dAdd_i, dSub_i, dNeg_i, dLt_i, dLe_i, dGt_i, dGe_i, dEq_i, dNe_i, dTru_b, dTru_i, dTru_l, dTru_t, bAbs_i, bInt_i, bLen_l, bLen_t, bLen_s, dIx_l, dIx_t, bMaxD_2, bMinD_2, ↓dTup_q, ↓eCut_q, ↓oNone_q, ↓oSome_q, ↓oSk_i, oSk_i, List.getElem?_cons_zero, List.getElem?_cons_succ, List.set_cons_zero, List.set_cons_succ, if_true, if_false, Bool.false_eq_true, decide_eq_true_eq, decide_eq_false_iff_not, Bool.not_true, Bool.not_false, List.length_cons, List.length_nil, List.map_cons, List.map_nil, dMul_i, dFdiv_i, dMod_i, List.nil_append, Nat.zero_add, Nat.reduceAdd, Nat.reduceLeDiff, Nat.reduceLT, Nat.reduceEqDiff, le_refl_line, and_self, true_and, and_true, bnd_none, Bool.not_eq_true, eq_self, reduceCtorEq, decide_true, decide_false, B.frzs_v, Nat.add_assoc, draw_ok, ix0, ix1, Int.cast_ofNat_Int, Int.natCast_zero, Int.natCast_one, bGcd_q, c, dFdiv_neg ⟨hg, by omega⟩ d1, dFdiv_neg ⟨hg, by omega⟩ d2, dTup_q, two_line]
  · simp -implicitDefEqProofs (maxSteps := 1000000) (disch := omega) only [↓bnd_some, bnd_some, eV_q, eVk_v, eVk_o, eW_q, eWk_b, frz_v, frz_o, frzs_nil, frzs_cons, ↓eC_q, ↓e1_q, ↓e2_q, ↓e3_q, e3k_b, ↓eT_q, ↓eTb_q, ↓eTbk_b, eTbk_b, ↓wAnd_q, ↓wOr_q, ↓wNot_q, ↓eAnd_q, ↓eOr_q, ↓eNot_q, ↓eIf_q, ↓eP_q, ↓aNil_q, ↓aCons_q, ↓eL_q, ↓eFz_q, ↓bLst_q, ↓bL_q, ↓b2_q, ↓bCall_q, ↓bPure_q, ↓pV_q, ↓sSeq_q, ↓seqK_nx, seqK_nx, ↓seqK_rt, seqK_rt, ↓seqK_bk, seqK_bk, ↓seqK_ct, seqK_ct, ↓sIf_q, ↓sNil_q, ↓sBk_q, ↓sCt_q, ↓sRet_q, ↓sRetB_q, ↓sRetN_q, ↓sRetV_q, rvK_b, ↓sExp_q, ↓sSet_q, ↓sSetB_q, put_q, ↓sAug_q, augK_v, ↓finK_rt, finK_rt, ↓finK_nx, finK_nx, ↓gN_q, ↓gsNil_q, ↓gsCons_q, ↓gT_q, ↓sAsg_q, ↓iV_q, ↓iA_q, items_lst, items_tup, ↓sFor_q, forL_nil, ↓forK_nx, forK_nx, ↓forK_ct, forK_ct, ↓forK_bk, forK_bk, ↓forK_rt, forK_rt, ↓whK_nx, whK_nx, ↓whK_ct, whK_ct, ↓whK_bk, whK_bk, ↓whK_rt, whK_rt, ↓bLc_q, ↓tYes_q, wipeE_nil, wipeE_cons, ↓pN_q, own_q, ownK_o, mutS_q, mutK_o, ↓mApp_q, ↓mAppB_q, ↓mPop_q, popK_v, ↓sSetIx_q, setK_i, ↓eObj_q, ↓eIxS_q, ↓sSetO_q, dAdd_i, dSub_i, dNeg_i, dLt_i, dLe_i, dGt_i, dGe_i, dEq_i, dNe_i, dTru_b, dTru_i, dTru_l, dTru_t, bAbs_i, bInt_i, bLen_l, bLen_t, bLen_s, dIx_l, dIx_t, bMaxD_2, bMinD_2, ↓dTup_q, ↓eCut_q, ↓oNone_q, ↓oSome_q, ↓oSk_i, oSk_i, List.getElem?_cons_zero, List.getElem?_cons_succ, List.set_cons_zero, List.set_cons_succ, if_true, if_false, Bool.false_eq_true, decide_eq_true_eq, decide_eq_false_iff_not, Bool.not_true, Bool.not_false, List.length_cons, List.length_nil, List.map_cons, List.map_nil, dMul_i, dFdiv_i, dMod_i, List.nil_append, Nat.zero_add, Nat.reduceAdd, Nat.reduceLeDiff, Nat.reduceLT, Nat.reduceEqDiff, le_refl_line, and_self, true_and, and_true, bnd_none, Bool.not_eq_true, eq_self, reduceCtorEq, decide_true, decide_false, B.frzs_v, Nat.add_assoc, draw_ok, ix0, ix1, Int.cast_ofNat_Int, Int.natCast_zero, Int.natCast_one, bGcd_q, c, dTup_q, two_line]
theorem measure_ok {a b : Int} : pF F_measure [.int a, .int b] = some (.v (.int (gcdI a b))) := by
  rw [pF_q, q_measure, b_measure]
  simp -implicitDefEqProofs (maxSteps := 1000000) (disch := omega) only [↓bnd_some, bnd_some, eV_q, eVk_v, eVk_o, eW_q, eWk_b, frz_v, frz_o, frzs_nil, frzs_cons, ↓eC_q, ↓e1_q, ↓e2_q, ↓e3_q, e3k_b, ↓eT_q, ↓eTb_q, ↓eTbk_b, eTbk_b, ↓wAnd_q, ↓wOr_q, ↓wNot_q, ↓eAnd_q, ↓eOr_q, ↓eNot_q, ↓eIf_q, ↓eP_q, ↓aNil_q, ↓aCons_q, ↓eL_q, ↓eFz_q, ↓bLst_q, ↓bL_q, ↓b2_q, ↓bCall_q, ↓bPure_q, ↓pV_q, ↓sSeq_q, ↓seqK_nx, seqK_nx, ↓seqK_rt, seqK_rt, ↓seqK_bk, seqK_bk, ↓seqK_ct, seqK_ct, ↓sIf_q, ↓sNil_q, ↓sBk_q, ↓sCt_q, ↓sRet_q, ↓sRetB_q, ↓sRetN_q, ↓sRetV_q, rvK_b, ↓sExp_q, ↓sSet_q, ↓sSetB_q, put_q, ↓sAug_q, augK_v, ↓finK_rt, finK_rt, ↓finK_nx, finK_nx, ↓gN_q, ↓gsNil_q, ↓gsCons_q, ↓gT_q, ↓sAsg_q, ↓iV_q, ↓iA_q, items_lst, items_tup, ↓sFor_q, forL_nil, ↓forK_nx, forK_nx, ↓forK_ct, forK_ct, ↓forK_bk, forK_bk, ↓forK_rt, forK_rt, ↓whK_nx, whK_nx, ↓whK_ct, whK_ct, ↓whK_bk, whK_bk, ↓whK_rt, whK_rt, ↓bLc_q, ↓tYes_q, wipeE_nil, wipeE_cons, ↓pN_q, own_q, ownK_o, mutS_q, mutK_o, ↓mApp_q, ↓mAppB_q, ↓mPop_q, popK_v, ↓sSetIx_q, setK_i, ↓eObj_q, ↓eIxS_q, ↓sSetO_q, dAdd_i, dSub_i, dNeg_i, dLt_i, dLe_i, dGt_i, dGe_i, dEq_i, dNe_i, dTru_b, dTru_i, dTru_l, dTru_t, bAbs_i, bInt_i, bLen_l, bLen_t, bLen_s, dIx_l, dIx_t, bMaxD_2, bMinD_2, ↓dTup_q, ↓eCut_q, ↓oNone_q, ↓oSome_q, ↓oSk_i, oSk_i, List.getElem?_cons_zero, List.getElem?_cons_succ, List.set_cons_zero, List.set_cons_succ, if_true, if_false, Bool.false_eq_true, decide_eq_true_eq, decide_eq_false_iff_not, Bool.not_true, Bool.not_false, List.length_cons, List.length_nil, List.map_cons, List.map_nil, dMul_i, dFdiv_i, dMod_i, List.nil_append, Nat.zero_add, Nat.reduceAdd, Nat.reduceLeDiff, Nat.reduceLT, Nat.reduceEqDiff, le_refl_line, and_self, true_and, and_true, bnd_none, Bool.not_eq_true, eq_self, reduceCtorEq, decide_true, decide_false, B.frzs_v, Nat.add_assoc, draw_ok, ix0, ix1, Int.cast_ofNat_Int, Int.natCast_zero, Int.natCast_one, bGcd_q]
theorem law_low_ok {t b : Int} (hb : 0 < b ∧ b ≤ 10 ^ 30) : pF F_law_low [.int t, .int b] = some (.v (lowD t b)) := by
  rw [pF_q, q_law_low, b_law_low]
  have hg := gcdI_pos (a := t) (show b ≠ 0 by omega)
  have hl := gcdI_le (a := t) (show b ≠ 0 by omega)
  have c : ¬ b < 0 := by omega
  unfold lowD lowT lowB
  simp -implicitDefEqProofs (maxSteps := 1000000) (disch := omega) only [↓bnd_some, bnd_some, eV_q, eVk_v, eVk_o, eW_q, eWk_b, frz_v, frz_o, frzs_nil, frzs_cons, ↓eC_q, ↓e1_q, ↓e2_q, ↓e3_q, e3k_b, ↓eT_q, ↓eTb_q, ↓eTbk_b, eTbk_b, ↓wAnd_q, ↓wOr_q, ↓wNot_q, ↓eAnd_q, ↓eOr_q, ↓eNot_q, ↓eIf_q, ↓eP_q, ↓aNil_q, ↓aCons_q, ↓eL_q, ↓eFz_q, ↓bLst_q, ↓bL_q, ↓b2_q, ↓bCall_q, ↓bPure_q, ↓pV_q, ↓sSeq_q, ↓seqK_nx, seqK_nx, ↓seqK_rt, seqK_rt, ↓seqK_bk, seqK_bk, ↓seqK_ct, seqK_ct, ↓sIf_q, ↓sNil_q, ↓sBk_q, ↓sCt_q, ↓sRet_q, ↓sRetB_q, ↓sRetN_q, ↓sRetV_q, rvK_b, ↓sExp_q, ↓sSet_q, ↓sSetB_q, put_q, ↓sAug_q, augK_v, ↓finK_rt, finK_rt, ↓finK_nx, finK_nx, ↓gN_q, ↓gsNil_q, ↓gsCons_q, ↓gT_q, ↓sAsg_q, ↓iV_q, ↓iA_q, items_lst, items_tup, ↓sFor_q, forL_nil, ↓forK_nx, forK_nx, ↓forK_ct, forK_ct, ↓forK_bk, forK_bk, ↓forK_rt, forK_rt, ↓whK_nx, whK_nx, ↓whK_ct, whK_ct, ↓whK_bk, whK_bk, ↓whK_rt, whK_rt, ↓bLc_q, ↓tYes_q, wipeE_nil, wipeE_cons, ↓pN_q, own_q, ownK_o, mutS_q, mutK_o, ↓mApp_q, ↓mAppB_q, ↓mPop_q, popK_v, ↓sSetIx_q, setK_i, ↓eObj_q, ↓eIxS_q, ↓sSetO_q, dAdd_i, dSub_i, dNeg_i, dLt_i, dLe_i, dGt_i, dGe_i, dEq_i, dNe_i, dTru_b, dTru_i, dTru_l, dTru_t, bAbs_i, bInt_i, bLen_l, bLen_t, bLen_s, dIx_l, dIx_t, bMaxD_2, bMinD_2, ↓dTup_q, ↓eCut_q, ↓oNone_q, ↓oSome_q, ↓oSk_i, oSk_i, List.getElem?_cons_zero, List.getElem?_cons_succ, List.set_cons_zero, List.set_cons_succ, if_true, if_false, Bool.false_eq_true, decide_eq_true_eq, decide_eq_false_iff_not, Bool.not_true, Bool.not_false, List.length_cons, List.length_nil, List.map_cons, List.map_nil, dMul_i, dFdiv_i, dMod_i, List.nil_append, Nat.zero_add, Nat.reduceAdd, Nat.reduceLeDiff, Nat.reduceLT, Nat.reduceEqDiff, le_refl_line, and_self, true_and, and_true, bnd_none, Bool.not_eq_true, eq_self, reduceCtorEq, decide_true, decide_false, B.frzs_v, Nat.add_assoc, draw_ok, ix0, ix1, Int.cast_ofNat_Int, Int.natCast_zero, Int.natCast_one, law_measure_ok, gcdI_abs, c, dTup_q, two_line]
theorem law_is_ok {p q t b : Int} (hq : 0 < q) (e : p * b = t * q) (hg : gcdI p q = 1) (h1 : Bd p) (h2 : Bd q) (h3 : Bd t) (h4 : Bd b) : pF F_law_is [fq p q, .int t, .int b] = some (.v (.bl true)) := by
  rw [pF_q, q_law_is, b_law_is]
  have g : gcdI ((p.natAbs : Nat) : Int) q = 1 := by rw [gcdI_abs, hg]
  have hz : ¬ q < 1 := by omega
  simp -implicitDefEqProofs (maxSteps := 1000000) (disch := omega) only [↓bnd_some, bnd_some, eV_q, eVk_v, eVk_o, eW_q, eWk_b, frz_v, frz_o, frzs_nil, frzs_cons, ↓eC_q, ↓e1_q, ↓e2_q, ↓e3_q, e3k_b, ↓eT_q, ↓eTb_q, ↓eTbk_b, eTbk_b, ↓wAnd_q, ↓wOr_q, ↓wNot_q, ↓eAnd_q, ↓eOr_q, ↓eNot_q, ↓eIf_q, ↓eP_q, ↓aNil_q, ↓aCons_q, ↓eL_q, ↓eFz_q, ↓bLst_q, ↓bL_q, ↓b2_q, ↓bCall_q, ↓bPure_q, ↓pV_q, ↓sSeq_q, ↓seqK_nx, seqK_nx, ↓seqK_rt, seqK_rt, ↓seqK_bk, seqK_bk, ↓seqK_ct, seqK_ct, ↓sIf_q, ↓sNil_q, ↓sBk_q, ↓sCt_q, ↓sRet_q, ↓sRetB_q, ↓sRetN_q, ↓sRetV_q, rvK_b, ↓sExp_q, ↓sSet_q, ↓sSetB_q, put_q, ↓sAug_q, augK_v, ↓finK_rt, finK_rt, ↓finK_nx, finK_nx, ↓gN_q, ↓gsNil_q, ↓gsCons_q, ↓gT_q, ↓sAsg_q, ↓iV_q, ↓iA_q, items_lst, items_tup, ↓sFor_q, forL_nil, ↓forK_nx, forK_nx, ↓forK_ct, forK_ct, ↓forK_bk, forK_bk, ↓forK_rt, forK_rt, ↓whK_nx, whK_nx, ↓whK_ct, whK_ct, ↓whK_bk, whK_bk, ↓whK_rt, whK_rt, ↓bLc_q, ↓tYes_q, wipeE_nil, wipeE_cons, ↓pN_q, own_q, ownK_o, mutS_q, mutK_o, ↓mApp_q, ↓mAppB_q, ↓mPop_q, popK_v, ↓sSetIx_q, setK_i, ↓eObj_q, ↓eIxS_q, ↓sSetO_q, dAdd_i, dSub_i, dNeg_i, dLt_i, dLe_i, dGt_i, dGe_i, dEq_i, dNe_i, dTru_b, dTru_i, dTru_l, dTru_t, bAbs_i, bInt_i, bLen_l, bLen_t, bLen_s, dIx_l, dIx_t, bMaxD_2, bMinD_2, ↓dTup_q, ↓eCut_q, ↓oNone_q, ↓oSome_q, ↓oSk_i, oSk_i, List.getElem?_cons_zero, List.getElem?_cons_succ, List.set_cons_zero, List.set_cons_succ, if_true, if_false, Bool.false_eq_true, decide_eq_true_eq, decide_eq_false_iff_not, Bool.not_true, Bool.not_false, List.length_cons, List.length_nil, List.map_cons, List.map_nil, dMul_i, dFdiv_i, dMod_i, List.nil_append, Nat.zero_add, Nat.reduceAdd, Nat.reduceLeDiff, Nat.reduceLT, Nat.reduceEqDiff, le_refl_line, and_self, true_and, and_true, bnd_none, Bool.not_eq_true, eq_self, reduceCtorEq, decide_true, decide_false, B.frzs_v, Nat.add_assoc, draw_ok, ix0, ix1, Int.cast_ofNat_Int, Int.natCast_zero, Int.natCast_one, isi_tt, dNe_i, forL_cons, l1_law_is, isi_ii, isi_ib, hz, e, law_measure_ok, g, dEq_i]
theorem law_is_low {t b t' b' : Int} (hb : b ≠ 0) (hb' : 0 < b') (e : t * b' = t' * b) (h1 : Bd t) (h2 : Bd b) (h3 : Bd t') (h4 : Bd b') : pF F_law_is [lowD t b, .int t', .int b'] = some (.v (.bl true)) := by
  obtain ⟨a1, a2, a3, a4, a5⟩ := low_spec (t := t) hb
  obtain ⟨c1, c2⟩ := low_congr (t := t) (t' := t') hb (show b' ≠ 0 by omega) e
  obtain ⟨d1, d2, _⟩ := low_spec (t := t') (show b' ≠ 0 by omega)
  refine law_is_ok a1 ?_ a3 (by unfold Bd at *; omega) (by unfold Bd at *; omega) h3 h4
  rw [c1, c2]; exact d2
section
variable {a b c d : Int}
theorem is_less_ok (h1 : Bd a) (h2 : Bd b) (h3 : Bd c) (h4 : Bd d) : pF F_is_less [fq a b, fq c d] = some (.v (.bl (decide (a * d < c * b)))) := by
  rw [pF_q, q_is_less, b_is_less]
  simp -implicitDefEqProofs (maxSteps := 1000000) (disch := omega) only [↓bnd_some, bnd_some, eV_q, eVk_v, eVk_o, eW_q, eWk_b, frz_v, frz_o, frzs_nil, frzs_cons, ↓eC_q, ↓e1_q, ↓e2_q, ↓e3_q, e3k_b, ↓eT_q, ↓eTb_q, ↓eTbk_b, eTbk_b, ↓wAnd_q, ↓wOr_q, ↓wNot_q, ↓eAnd_q, ↓eOr_q, ↓eNot_q, ↓eIf_q, ↓eP_q, ↓aNil_q, ↓aCons_q, ↓eL_q, ↓eFz_q, ↓bLst_q, ↓bL_q, ↓b2_q, ↓bCall_q, ↓bPure_q, ↓pV_q, ↓sSeq_q, ↓seqK_nx, seqK_nx, ↓seqK_rt, seqK_rt, ↓seqK_bk, seqK_bk, ↓seqK_ct, seqK_ct, ↓sIf_q, ↓sNil_q, ↓sBk_q, ↓sCt_q, ↓sRet_q, ↓sRetB_q, ↓sRetN_q, ↓sRetV_q, rvK_b, ↓sExp_q, ↓sSet_q, ↓sSetB_q, put_q, ↓sAug_q, augK_v, ↓finK_rt, finK_rt, ↓finK_nx, finK_nx, ↓gN_q, ↓gsNil_q, ↓gsCons_q, ↓gT_q, ↓sAsg_q, ↓iV_q, ↓iA_q, items_lst, items_tup, ↓sFor_q, forL_nil, ↓forK_nx, forK_nx, ↓forK_ct, forK_ct, ↓forK_bk, forK_bk, ↓forK_rt, forK_rt, ↓whK_nx, whK_nx, ↓whK_ct, whK_ct, ↓whK_bk, whK_bk, ↓whK_rt, whK_rt, ↓bLc_q, ↓tYes_q, wipeE_nil, wipeE_cons, ↓pN_q, own_q, ownK_o, mutS_q, mutK_o, ↓mApp_q, ↓mAppB_q, ↓mPop_q, popK_v, ↓sSetIx_q, setK_i, ↓eObj_q, ↓eIxS_q, ↓sSetO_q, dAdd_i, dSub_i, dNeg_i, dLt_i, dLe_i, dGt_i, dGe_i, dEq_i, dNe_i, dTru_b, dTru_i, dTru_l, dTru_t, bAbs_i, bInt_i, bLen_l, bLen_t, bLen_s, dIx_l, dIx_t, bMaxD_2, bMinD_2, ↓dTup_q, ↓eCut_q, ↓oNone_q, ↓oSome_q, ↓oSk_i, oSk_i, List.getElem?_cons_zero, List.getElem?_cons_succ, List.set_cons_zero, List.set_cons_succ, if_true, if_false, Bool.false_eq_true, decide_eq_true_eq, decide_eq_false_iff_not, Bool.not_true, Bool.not_false, List.length_cons, List.length_nil, List.map_cons, List.map_nil, dMul_i, dFdiv_i, dMod_i, List.nil_append, Nat.zero_add, Nat.reduceAdd, Nat.reduceLeDiff, Nat.reduceLT, Nat.reduceEqDiff, le_refl_line, and_self, true_and, and_true, bnd_none, Bool.not_eq_true, eq_self, reduceCtorEq, decide_true, decide_false, B.frzs_v, Nat.add_assoc, draw_ok, ix0, ix1, Int.cast_ofNat_Int, Int.natCast_zero, Int.natCast_one, ]
theorem plus_ok (h1 : Bd a) (h2 : Bd b) (h3 : Bd c) (h4 : Bd d) (hz : b * d ≠ 0) (hb : Bd (b * d)) : pF F_plus [fq a b, fq c d] = some (.v (lowD (a * d + c * b) (b * d))) := by
  rw [pF_q, q_plus, b_plus]
  simp -implicitDefEqProofs (maxSteps := 1000000) (disch := omega) only [↓bnd_some, bnd_some, eV_q, eVk_v, eVk_o, eW_q, eWk_b, frz_v, frz_o, frzs_nil, frzs_cons, ↓eC_q, ↓e1_q, ↓e2_q, ↓e3_q, e3k_b, ↓eT_q, ↓eTb_q, ↓eTbk_b, eTbk_b, ↓wAnd_q, ↓wOr_q, ↓wNot_q, ↓eAnd_q, ↓eOr_q, ↓eNot_q, ↓eIf_q, ↓eP_q, ↓aNil_q, ↓aCons_q, ↓eL_q, ↓eFz_q, ↓bLst_q, ↓bL_q, ↓b2_q, ↓bCall_q, ↓bPure_q, ↓pV_q, ↓sSeq_q, ↓seqK_nx, seqK_nx, ↓seqK_rt, seqK_rt, ↓seqK_bk, seqK_bk, ↓seqK_ct, seqK_ct, ↓sIf_q, ↓sNil_q, ↓sBk_q, ↓sCt_q, ↓sRet_q, ↓sRetB_q, ↓sRetN_q, ↓sRetV_q, rvK_b, ↓sExp_q, ↓sSet_q, ↓sSetB_q, put_q, ↓sAug_q, augK_v, ↓finK_rt, finK_rt, ↓finK_nx, finK_nx, ↓gN_q, ↓gsNil_q, ↓gsCons_q, ↓gT_q, ↓sAsg_q, ↓iV_q, ↓iA_q, items_lst, items_tup, ↓sFor_q, forL_nil, ↓forK_nx, forK_nx, ↓forK_ct, forK_ct, ↓forK_bk, forK_bk, ↓forK_rt, forK_rt, ↓whK_nx, whK_nx, ↓whK_ct, whK_ct, ↓whK_bk, whK_bk, ↓whK_rt, whK_rt, ↓bLc_q, ↓tYes_q, wipeE_nil, wipeE_cons, ↓pN_q, own_q, ownK_o, mutS_q, mutK_o, ↓mApp_q, ↓mAppB_q, ↓mPop_q, popK_v, ↓sSetIx_q, setK_i, ↓eObj_q, ↓eIxS_q, ↓sSetO_q, dAdd_i, dSub_i, dNeg_i, dLt_i, dLe_i, dGt_i, dGe_i, dEq_i, dNe_i, dTru_b, dTru_i, dTru_l, dTru_t, bAbs_i, bInt_i, bLen_l, bLen_t, bLen_s, dIx_l, dIx_t, bMaxD_2, bMinD_2, ↓dTup_q, ↓eCut_q, ↓oNone_q, ↓oSome_q, ↓oSk_i, oSk_i, List.getElem?_cons_zero, List.getElem?_cons_succ, List.set_cons_zero, List.set_cons_succ, if_true, if_false, Bool.false_eq_true, decide_eq_true_eq, decide_eq_false_iff_not, Bool.not_true, Bool.not_false, List.length_cons, List.length_nil, List.map_cons, List.map_nil, dMul_i, dFdiv_i, dMod_i, List.nil_append, Nat.zero_add, Nat.reduceAdd, Nat.reduceLeDiff, Nat.reduceLT, Nat.reduceEqDiff, le_refl_line, and_self, true_and, and_true, bnd_none, Bool.not_eq_true, eq_self, reduceCtorEq, decide_true, decide_false, B.frzs_v, Nat.add_assoc, draw_ok, ix0, ix1, Int.cast_ofNat_Int, Int.natCast_zero, Int.natCast_one, fraction_ok hz hb]
theorem minus_ok (h1 : Bd a) (h2 : Bd b) (h3 : Bd c) (h4 : Bd d) (hz : b * d ≠ 0) (hb : Bd (b * d)) : pF F_minus [fq a b, fq c d] = some (.v (lowD (a * d - c * b) (b * d))) := by
  rw [pF_q, q_minus, b_minus]
  simp -implicitDefEqProofs (maxSteps := 1000000) (disch := omega) only [↓bnd_some, bnd_some, eV_q, eVk_v, eVk_o, eW_q, eWk_b, frz_v, frz_o, frzs_nil, frzs_cons, ↓eC_q, ↓e1_q, ↓e2_q, ↓e3_q, e3k_b, ↓eT_q, ↓eTb_q, ↓eTbk_b, eTbk_b, ↓wAnd_q, ↓wOr_q, ↓wNot_q, ↓eAnd_q, ↓eOr_q, ↓eNot_q, ↓eIf_q, ↓eP_q, ↓aNil_q, ↓aCons_q, ↓eL_q, ↓eFz_q, ↓bLst_q, ↓bL_q, ↓b2_q, ↓bCall_q, ↓bPure_q, ↓pV_q, ↓sSeq_q, ↓seqK_nx, seqK_nx, ↓seqK_rt, seqK_rt, ↓seqK_bk, seqK_bk, ↓seqK_ct, seqK_ct, ↓sIf_q, ↓sNil_q, ↓sBk_q, ↓sCt_q, ↓sRet_q, ↓sRetB_q, ↓sRetN_q, ↓sRetV_q, rvK_b, ↓sExp_q, ↓sSet_q, ↓sSetB_q, put_q, ↓sAug_q, augK_v, ↓finK_rt, finK_rt, ↓finK_nx, finK_nx, ↓gN_q, ↓gsNil_q, ↓gsCons_q, ↓gT_q, ↓sAsg_q, ↓iV_q, ↓iA_q, items_lst, items_tup, ↓sFor_q, forL_nil, ↓forK_nx, forK_nx, ↓forK_ct, forK_ct, ↓forK_bk, forK_bk, ↓forK_rt, forK_rt, ↓whK_nx, whK_nx, ↓whK_ct, whK_ct, ↓whK_bk, whK_bk, ↓whK_rt, whK_rt, ↓bLc_q, ↓tYes_q, wipeE_nil, wipeE_cons, ↓pN_q, own_q, ownK_o, mutS_q, mutK_o, ↓mApp_q, ↓mAppB_q, ↓mPop_q, popK_v, ↓sSetIx_q, setK_i, ↓eObj_q, ↓eIxS_q, ↓sSetO_q, dAdd_i, dSub_i, dNeg_i, dLt_i, dLe_i, dGt_i, dGe_i, dEq_i, dNe_i, dTru_b, dTru_i, dTru_l, dTru_t, bAbs_i, bInt_i, bLen_l, bLen_t, bLen_s, dIx_l, dIx_t, bMaxD_2, bMinD_2, ↓dTup_q, ↓eCut_q, ↓oNone_q, ↓oSome_q, ↓oSk_i, oSk_i, List.getElem?_cons_zero, List.getElem?_cons_succ, List.set_cons_zero, List.set_cons_succ, if_true, if_false, Bool.false_eq_true, decide_eq_true_eq, decide_eq_false_iff_not, Bool.not_true, Bool.not_false, List.length_cons, List.length_nil, List.map_cons, List.map_nil, dMul_i, dFdiv_i, dMod_i, List.nil_append, Nat.zero_add, Nat.reduceAdd, Nat.reduceLeDiff, Nat.reduceLT, Nat.reduceEqDiff, le_refl_line, and_self, true_and, and_true, bnd_none, Bool.not_eq_true, eq_self, reduceCtorEq, decide_true, decide_false, B.frzs_v, Nat.add_assoc, draw_ok, ix0, ix1, Int.cast_ofNat_Int, Int.natCast_zero, Int.natCast_one, fraction_ok hz hb]
theorem times_ok (h1 : Bd a) (h2 : Bd b) (h3 : Bd c) (h4 : Bd d) (hz : b * d ≠ 0) (hb : Bd (b * d)) : pF F_times [fq a b, fq c d] = some (.v (lowD (a * c) (b * d))) := by
  rw [pF_q, q_times, b_times]
  simp -implicitDefEqProofs (maxSteps := 1000000) (disch := omega) only [↓bnd_some, bnd_some, eV_q, eVk_v, eVk_o, eW_q, eWk_b, frz_v, frz_o, frzs_nil, frzs_cons, ↓eC_q, ↓e1_q, ↓e2_q, ↓e3_q, e3k_b, ↓eT_q, ↓eTb_q, ↓eTbk_b, eTbk_b, ↓wAnd_q, ↓wOr_q, ↓wNot_q, ↓eAnd_q, ↓eOr_q, ↓eNot_q, ↓eIf_q, ↓eP_q, ↓aNil_q, ↓aCons_q, ↓eL_q, ↓eFz_q, ↓bLst_q, ↓bL_q, ↓b2_q, ↓bCall_q, ↓bPure_q, ↓pV_q, ↓sSeq_q, ↓seqK_nx, seqK_nx, ↓seqK_rt, seqK_rt, ↓seqK_bk, seqK_bk, ↓seqK_ct, seqK_ct, ↓sIf_q, ↓sNil_q, ↓sBk_q, ↓sCt_q, ↓sRet_q, ↓sRetB_q, ↓sRetN_q, ↓sRetV_q, rvK_b, ↓sExp_q, ↓sSet_q, ↓sSetB_q, put_q, ↓sAug_q, augK_v, ↓finK_rt, finK_rt, ↓finK_nx, finK_nx, ↓gN_q, ↓gsNil_q, ↓gsCons_q, ↓gT_q, ↓sAsg_q, ↓iV_q, ↓iA_q, items_lst, items_tup, ↓sFor_q, forL_nil, ↓forK_nx, forK_nx, ↓forK_ct, forK_ct, ↓forK_bk, forK_bk, ↓forK_rt, forK_rt, ↓whK_nx, whK_nx, ↓whK_ct, whK_ct, ↓whK_bk, whK_bk, ↓whK_rt, whK_rt, ↓bLc_q, ↓tYes_q, wipeE_nil, wipeE_cons, ↓pN_q, own_q, ownK_o, mutS_q, mutK_o, ↓mApp_q, ↓mAppB_q, ↓mPop_q, popK_v, ↓sSetIx_q, setK_i, ↓eObj_q, ↓eIxS_q, ↓sSetO_q, dAdd_i, dSub_i, dNeg_i, dLt_i, dLe_i, dGt_i, dGe_i, dEq_i, dNe_i, dTru_b, dTru_i, dTru_l, dTru_t, bAbs_i, bInt_i, bLen_l, bLen_t, bLen_s, dIx_l, dIx_t, bMaxD_2, bMinD_2, ↓dTup_q, ↓eCut_q, ↓oNone_q, ↓oSome_q, ↓oSk_i, oSk_i, List.getElem?_cons_zero, List.getElem?_cons_succ, List.set_cons_zero, List.set_cons_succ, if_true, if_false, Bool.false_eq_true, decide_eq_true_eq, decide_eq_false_iff_not, Bool.not_true, Bool.not_false, List.length_cons, List.length_nil, List.map_cons, List.map_nil, dMul_i, dFdiv_i, dMod_i, List.nil_append, Nat.zero_add, Nat.reduceAdd, Nat.reduceLeDiff, Nat.reduceLT, Nat.reduceEqDiff, le_refl_line, and_self, true_and, and_true, bnd_none, Bool.not_eq_true, eq_self, reduceCtorEq, decide_true, decide_false, B.frzs_v, Nat.add_assoc, draw_ok, ix0, ix1, Int.cast_ofNat_Int, Int.natCast_zero, Int.natCast_one, fraction_ok hz hb]
theorem over_ok (h1 : Bd a) (h2 : Bd b) (h3 : Bd c) (h4 : Bd d) (hz : b * c ≠ 0) (hb : Bd (b * c)) : pF F_over [fq a b, fq c d] = some (.v (lowD (a * d) (b * c))) := by
  rw [pF_q, q_over, b_over]
  simp -implicitDefEqProofs (maxSteps := 1000000) (disch := omega) only [↓bnd_some, bnd_some, eV_q, eVk_v, eVk_o, eW_q, eWk_b, frz_v, frz_o, frzs_nil, frzs_cons, ↓eC_q, ↓e1_q, ↓e2_q, ↓e3_q, e3k_b, ↓eT_q, ↓eTb_q, ↓eTbk_b, eTbk_b, ↓wAnd_q, ↓wOr_q, ↓wNot_q, ↓eAnd_q, ↓eOr_q, ↓eNot_q, ↓eIf_q, ↓eP_q, ↓aNil_q, ↓aCons_q, ↓eL_q, ↓eFz_q, ↓bLst_q, ↓bL_q, ↓b2_q, ↓bCall_q, ↓bPure_q, ↓pV_q, ↓sSeq_q, ↓seqK_nx, seqK_nx, ↓seqK_rt, seqK_rt, ↓seqK_bk, seqK_bk, ↓seqK_ct, seqK_ct, ↓sIf_q, ↓sNil_q, ↓sBk_q, ↓sCt_q, ↓sRet_q, ↓sRetB_q, ↓sRetN_q, ↓sRetV_q, rvK_b, ↓sExp_q, ↓sSet_q, ↓sSetB_q, put_q, ↓sAug_q, augK_v, ↓finK_rt, finK_rt, ↓finK_nx, finK_nx, ↓gN_q, ↓gsNil_q, ↓gsCons_q, ↓gT_q, ↓sAsg_q, ↓iV_q, ↓iA_q, items_lst, items_tup, ↓sFor_q, forL_nil, ↓forK_nx, forK_nx, ↓forK_ct, forK_ct, ↓forK_bk, forK_bk, ↓forK_rt, forK_rt, ↓whK_nx, whK_nx, ↓whK_ct, whK_ct, ↓whK_bk, whK_bk, ↓whK_rt, whK_rt, ↓bLc_q, ↓tYes_q, wipeE_nil, wipeE_cons, ↓pN_q, own_q, ownK_o, mutS_q, mutK_o, ↓mApp_q, ↓mAppB_q, ↓mPop_q, popK_v, ↓sSetIx_q, setK_i, ↓eObj_q, ↓eIxS_q, ↓sSetO_q, dAdd_i, dSub_i, dNeg_i, dLt_i, dLe_i, dGt_i, dGe_i, dEq_i, dNe_i, dTru_b, dTru_i, dTru_l, dTru_t, bAbs_i, bInt_i, bLen_l, bLen_t, bLen_s, dIx_l, dIx_t, bMaxD_2, bMinD_2, ↓dTup_q, ↓eCut_q, ↓oNone_q, ↓oSome_q, ↓oSk_i, oSk_i, List.getElem?_cons_zero, List.getElem?_cons_succ, List.set_cons_zero, List.set_cons_succ, if_true, if_false, Bool.false_eq_true, decide_eq_true_eq, decide_eq_false_iff_not, Bool.not_true, Bool.not_false, List.length_cons, List.length_nil, List.map_cons, List.map_nil, dMul_i, dFdiv_i, dMod_i, List.nil_append, Nat.zero_add, Nat.reduceAdd, Nat.reduceLeDiff, Nat.reduceLT, Nat.reduceEqDiff, le_refl_line, and_self, true_and, and_true, bnd_none, Bool.not_eq_true, eq_self, reduceCtorEq, decide_true, decide_false, B.frzs_v, Nat.add_assoc, draw_ok, ix0, ix1, Int.cast_ofNat_Int, Int.natCast_zero, Int.natCast_one, fraction_ok hz hb]
theorem whole_ok : pF F_whole [.int a] = some (.v (fq a 1)) := by
  rw [pF_q, q_whole, b_whole]
  simp -implicitDefEqProofs (maxSteps := 1000000) (disch := omega) only [↓bnd_some, bnd_some, eV_q, eVk_v, eVk_o, eW_q, eWk_b, frz_v, frz_o, frzs_nil, frzs_cons, ↓eC_q, ↓e1_q, ↓e2_q, ↓e3_q, e3k_b, ↓eT_q, ↓eTb_q, ↓eTbk_b, eTbk_b, ↓wAnd_q, ↓wOr_q, ↓wNot_q, ↓eAnd_q, ↓eOr_q, ↓eNot_q, ↓eIf_q, ↓eP_q, ↓aNil_q, ↓aCons_q, ↓eL_q, ↓eFz_q, ↓bLst_q, ↓bL_q, ↓b2_q, ↓bCall_q, ↓bPure_q, ↓pV_q, ↓sSeq_q, ↓seqK_nx, seqK_nx, ↓seqK_rt, seqK_rt, ↓seqK_bk, seqK_bk, ↓seqK_ct, seqK_ct, ↓sIf_q, ↓sNil_q, ↓sBk_q, ↓sCt_q, ↓sRet_q, ↓sRetB_q, ↓sRetN_q, ↓sRetV_q, rvK_b, ↓sExp_q, ↓sSet_q, ↓sSetB_q, put_q, ↓sAug_q, augK_v, ↓finK_rt, finK_rt, ↓finK_nx, finK_nx, ↓gN_q, ↓gsNil_q, ↓gsCons_q, ↓gT_q, ↓sAsg_q, ↓iV_q, ↓iA_q, items_lst, items_tup, ↓sFor_q, forL_nil, ↓forK_nx, forK_nx, ↓forK_ct, forK_ct, ↓forK_bk, forK_bk, ↓forK_rt, forK_rt, ↓whK_nx, whK_nx, ↓whK_ct, whK_ct, ↓whK_bk, whK_bk, ↓whK_rt, whK_rt, ↓bLc_q, ↓tYes_q, wipeE_nil, wipeE_cons, ↓pN_q, own_q, ownK_o, mutS_q, mutK_o, ↓mApp_q, ↓mAppB_q, ↓mPop_q, popK_v, ↓sSetIx_q, setK_i, ↓eObj_q, ↓eIxS_q, ↓sSetO_q, dAdd_i, dSub_i, dNeg_i, dLt_i, dLe_i, dGt_i, dGe_i, dEq_i, dNe_i, dTru_b, dTru_i, dTru_l, dTru_t, bAbs_i, bInt_i, bLen_l, bLen_t, bLen_s, dIx_l, dIx_t, bMaxD_2, bMinD_2, ↓dTup_q, ↓eCut_q, ↓oNone_q, ↓oSome_q, ↓oSk_i, oSk_i, List.getElem?_cons_zero, List.getElem?_cons_succ, List.set_cons_zero, List.set_cons_succ, if_true, if_false, Bool.false_eq_true, decide_eq_true_eq, decide_eq_false_iff_not, Bool.not_true, Bool.not_false, List.length_cons, List.length_nil, List.map_cons, List.map_nil, dMul_i, dFdiv_i, dMod_i, List.nil_append, Nat.zero_add, Nat.reduceAdd, Nat.reduceLeDiff, Nat.reduceLT, Nat.reduceEqDiff, le_refl_line, and_self, true_and, and_true, bnd_none, Bool.not_eq_true, eq_self, reduceCtorEq, decide_true, decide_false, B.frzs_v, Nat.add_assoc, draw_ok, ix0, ix1, Int.cast_ofNat_Int, Int.natCast_zero, Int.natCast_one, dTup_q, two_line]
theorem same_fq (h1 : Bd a) (h2 : Bd b) : pF F_law_same [fq a b, fq a b] = some (.v (.bl true)) := same_ok (.tup (fun x hx => by
  rcases List.mem_cons.mp hx with rfl | hx
  · exact .i h1
  · cases List.mem_singleton.mp hx; exact .i h2) (by simp))
theorem multiple_ok (hb : b ≠ 0) (h1 : Bd a) (h2 : Bd b) : pF F_multiple [.int a, .int b] = some (.v (.int (a * b / gcdI a b))) := by
  rw [pF_q, q_multiple, b_multiple]
  have hg := gcdI_pos (a := a) hb
  have hl := gcdI_le (a := a) hb
  simp -implicitDefEqProofs (maxSteps := 1000000) (disch := omega) only [↓bnd_some, bnd_some, eV_q, eVk_v, eVk_o, eW_q, eWk_b, frz_v, frz_o, frzs_nil, frzs_cons, ↓eC_q, ↓e1_q, ↓e2_q, ↓e3_q, e3k_b, ↓eT_q, ↓eTb_q, ↓eTbk_b, eTbk_b, ↓wAnd_q, ↓wOr_q, ↓wNot_q, ↓eAnd_q, ↓eOr_q, ↓eNot_q, ↓eIf_q, ↓eP_q, ↓aNil_q, ↓aCons_q, ↓eL_q, ↓eFz_q, ↓bLst_q, ↓bL_q, ↓b2_q, ↓bCall_q, ↓bPure_q, ↓pV_q, ↓sSeq_q, ↓seqK_nx, seqK_nx, ↓seqK_rt, seqK_rt, ↓seqK_bk, seqK_bk, ↓seqK_ct, seqK_ct, ↓sIf_q, ↓sNil_q, ↓sBk_q, ↓sCt_q, ↓sRet_q, ↓sRetB_q, ↓sRetN_q, ↓sRetV_q, rvK_b, ↓sExp_q, ↓sSet_q, ↓sSetB_q, put_q, ↓sAug_q, augK_v, ↓finK_rt, finK_rt, ↓finK_nx, finK_nx, ↓gN_q, ↓gsNil_q, ↓gsCons_q, ↓gT_q, ↓sAsg_q, ↓iV_q, ↓iA_q, items_lst, items_tup, ↓sFor_q, forL_nil, ↓forK_nx, forK_nx, ↓forK_ct, forK_ct, ↓forK_bk, forK_bk, ↓forK_rt, forK_rt, ↓whK_nx, whK_nx, ↓whK_ct, whK_ct, ↓whK_bk, whK_bk, ↓whK_rt, whK_rt, ↓bLc_q, ↓tYes_q, wipeE_nil, wipeE_cons, ↓pN_q, own_q, ownK_o, mutS_q, mutK_o, ↓mApp_q, ↓mAppB_q, ↓mPop_q, popK_v, ↓sSetIx_q, setK_i, ↓eObj_q, ↓eIxS_q, ↓sSetO_q, dAdd_i, dSub_i, dNeg_i, dLt_i, dLe_i, dGt_i, dGe_i, dEq_i, dNe_i, dTru_b, dTru_i, dTru_l, dTru_t, bAbs_i, bInt_i, bLen_l, bLen_t, bLen_s, dIx_l, dIx_t, bMaxD_2, bMinD_2, ↓dTup_q, ↓eCut_q, ↓oNone_q, ↓oSome_q, ↓oSk_i, oSk_i, List.getElem?_cons_zero, List.getElem?_cons_succ, List.set_cons_zero, List.set_cons_succ, if_true, if_false, Bool.false_eq_true, decide_eq_true_eq, decide_eq_false_iff_not, Bool.not_true, Bool.not_false, List.length_cons, List.length_nil, List.map_cons, List.map_nil, dMul_i, dFdiv_i, dMod_i, List.nil_append, Nat.zero_add, Nat.reduceAdd, Nat.reduceLeDiff, Nat.reduceLT, Nat.reduceEqDiff, le_refl_line, and_self, true_and, and_true, bnd_none, Bool.not_eq_true, eq_self, reduceCtorEq, decide_true, decide_false, B.frzs_v, Nat.add_assoc, draw_ok, ix0, ix1, Int.cast_ofNat_Int, Int.natCast_zero, Int.natCast_one, bGcd_q]
end
/-! ### a row that is drawn -/
theorem lcL_draw {α : Type} {own : List Nat} {h : EvG} {c : EvT} {e : EvE} {env : List (Option B)} {ds : List Int} {g : α → D} (Q : D → Prop) (k N : Nat) : ∀ (xs : List α) (p : Nat), p + k * xs.length ≤ N → (∀ x ∈ xs, ∀ p, p ≤ N → ∃ v q, lcS own h c e (g x) ⟨env, bx ds p, false⟩ = some (some v, ⟨env, bx ds q, false⟩) ∧ Q v ∧ q ≤ p + k) →
    ∃ vs q, lcL own h c e (xs.map g) ⟨env, bx ds p, false⟩ = some (vs, ⟨env, bx ds q, false⟩) ∧ (∀ v ∈ vs, Q v) ∧ vs.length = xs.length ∧ q ≤ p + k * xs.length
  | [], p, _, _ => ⟨[], p, rfl, (fun _ h => by cases h), rfl, by simp⟩
  | x :: xs, p, hp, H => by
    rw [List.length_cons, Nat.mul_succ] at hp
    obtain ⟨v, q1, e1, hv, hq⟩ := H x (List.mem_cons_self ..) p (by omega)
    obtain ⟨vs, q, e2, hvs, hl, hq2⟩ := lcL_draw Q k N xs q1 (by omega) fun y hy => H y (List.mem_cons_of_mem _ hy)
    refine ⟨v :: vs, q, ?_, ?_, by rw [List.length_cons, hl, List.length_cons], by rw [List.length_cons, Nat.mul_succ]; omega⟩
    · unfold lcS at e1
      obtain ⟨s1, f1, f2⟩ := bnd_inv e1
      obtain ⟨⟨b, s2⟩, f3, f4⟩ := bnd_inv f2
      cases b with
      | false => cases f4
      | true =>
        obtain ⟨⟨d, s3⟩, f5, f6⟩ := bnd_inv (show @bnd _ _ (e s2) ⟨fun q => some (some q.1, wipeE q.2 own)⟩ = _ from f4)
        have f7 := Option.some.inj f6
        injection f7 with f8 f9
        injection f8 with f8
        rw [List.map_cons, lcL, f1]
        show ((c s1).bind _) = _
        rw [f3]
        show ((e s2).bind _) = _
        rw [f5]
        show ((lcL own h c e (xs.map g) (wipeE s3 own)).bind _) = _
        rw [show wipeE s3 own = _ from f9, e2]
        show some (d :: vs, _) = _
        rw [show d = v from f8]
    · intro y hy
      rcases List.mem_cons.mp hy with rfl | hy
      · exact hv
      · exact hvs y hy
/-! ### the least whole number of times -/
theorem least_mul {m h : Int} (hm : 0 < m) (hh : 0 < h) : 0 < h / gcdI m h ∧ h / gcdI m h ≤ h ∧ (m * (h / gcdI m h)) % h = 0 ∧ ∀ k, (m * k) % h = 0 → h / gcdI m h ∣ k := by
  have hg := gcdI_pos (a := m) (show h ≠ 0 by omega)
  obtain ⟨u, hu⟩ := gcdI_dl m h
  obtain ⟨v, hv⟩ := gcdI_dr m h
  obtain ⟨g, hgd⟩ : ∃ g, g = gcdI m h := ⟨_, rfl⟩
  rw [← hgd] at hg hu hv ⊢
  have e2 : g.natAbs = Nat.gcd m.natAbs h.natAbs := by rw [hgd]; unfold gcdI; simp
  clear hgd
  have hcop : Nat.gcd u.natAbs v.natAbs = 1 := by
    have e : Nat.gcd m.natAbs h.natAbs = g.natAbs * Nat.gcd u.natAbs v.natAbs := by
      rw [hu, hv, Int.natAbs_mul, Int.natAbs_mul, Nat.gcd_mul_left]
    rw [← e2] at e
    exact Nat.eq_of_mul_eq_mul_left (show 0 < g.natAbs by omega) (by omega)
  have hq : h / g = v := by rw [hv]; exact Int.mul_ediv_cancel_left _ (by omega)
  rw [hq]
  have hvp : 0 < v := by
    rcases Int.lt_or_le 0 v with z | z
    · exact z
    · have := Int.mul_nonpos_of_nonneg_of_nonpos (show 0 ≤ g by omega) z; omega
  refine ⟨hvp, ?_, ?_, fun k hz => ?_⟩
  · have : 1 * v ≤ g * v := Int.mul_le_mul_of_nonneg_right (by omega) (by omega)
    omega
  · have e : m * v = h * u := by rw [hu, hv, Int.mul_assoc, Int.mul_assoc, Int.mul_comm u v]
    rw [e]; exact Int.mul_emod_right _ _
  · have hdv2 : v ∣ u * k := by
      obtain ⟨w, hw⟩ := Int.dvd_of_emod_eq_zero hz
      refine ⟨w, ?_⟩
      have : g * (u * k) = g * (v * w) := by rw [← Int.mul_assoc, ← Int.mul_assoc, ← hu, ← hv]; exact hw
      exact Int.eq_of_mul_eq_mul_left (by omega) this
    have h3 : v.natAbs ∣ u.natAbs * k.natAbs := by rw [← Int.natAbs_mul]; exact Int.natAbs_dvd_natAbs.mpr hdv2
    exact Int.natAbs_dvd_natAbs.mp ((Nat.Coprime.symm hcop).dvd_of_dvd_mul_left h3)
theorem dNotIn_ints {x : Int} {xs : List Int} : dNotIn (.int x) (.lst (xs.map .int)) = some (.bl (!decide (x ∈ xs))) := by
  have e := dIn_ints (x := x) (xs := xs)
  unfold dIn at e
  unfold dNotIn
  obtain ⟨c, hc, e2⟩ := Option.map_eq_some_iff.mp e
  rw [hc]
  cases e2; rfl
theorem frzs_map {α : Type} (g : α → D) (xs : List α) : B.frzs (xs.map fun x => B.v (g x)) = xs.map g := by
  have := B.frzs_v (xs.map g)
  rw [List.map_map] at this
  exact this
theorem last_ints {xs : List Int} (hne : xs ≠ []) : ∃ x ∈ xs, dIx (.lst (xs.map D.int)) (.int (-1)) = some (.int x) := by
  refine ⟨xs.getLast hne, List.getLast_mem hne, ?_⟩
  rw [dIx_l, atI_m1, List.getLast?_map, List.getLast?_eq_some_getLast hne]; rfl
theorem first_ints {xs : List Int} (hne : 0 < xs.length) : ∃ x ∈ xs, dIx (.lst (xs.map D.int)) (.int 0) = some (.int x) := by
  cases xs with
  | nil => cases hne
  | cons x xs => exact ⟨x, List.mem_cons_self .., ix0⟩
theorem dNe_ints {xs ys : List Int} : dNe (.lst (xs.map .int)) (.lst (ys.map .int)) = some (.bl (!decide (xs = ys))) := by
  unfold dNe; rw [dEqb_ints]; rfl
theorem bList_l {xs : List D} : bList [.lst xs] = some xs := rfl
def parK (i j : Nat) : List D × Sta → Option (Out × Sta)
  | ([a, b], s) => some (.nx, (s.put i (some (.v a))).put j (some (.v b)))
  | _ => none
theorem sPar_e {i j : Nat} {f : EvA} {s : Sta} : sPar i j f s = @bnd _ _ (f s) ⟨parK i j⟩ := by
  unfold sPar bnd
  cases f s with
  | none => rfl
  | some p =>
    obtain ⟨l, s⟩ := p
    match l with
    | [] => rfl
    | [_] => rfl
    | [_, _] => rfl
    | _ :: _ :: _ :: _ => rfl
theorem parK_e {i j : Nat} {a b : D} {s : Sta} : parK i j ([a, b], s) = some (.nx, (s.put i (some (.v a))).put j (some (.v b))) := rfl
theorem gcd_loop : ∀ (k : Nat) (ts : List D) (a b : Int) (x2 : Option B), 0 ≤ a → 0 ≤ b → Euc k b → 2 * k + 1 ≤ ts.length →
    ∃ s, forL (gN 2) l1_law_gcd ts ⟨[some (.v (.int a)), some (.v (.int b)), x2], [], true⟩ = some (.rt (.v (.int (gcdI a b))), s) ∧ s.st = [] := by
  have stop : ∀ (t : D) (ts : List D) (a : Int) (x2 : Option B), 0 ≤ a → ∃ s, forL (gN 2) l1_law_gcd (t :: ts) ⟨[some (.v (.int a)), some (.v (.int 0)), x2], [], true⟩ = some (.rt (.v (.int (gcdI a 0))), s) ∧ s.st = [] := fun t ts a x2 ha => by
    refine ⟨?_, ?_, ?_⟩
    rotate_left
    rw [forL_cons, gcdI_zero ha]
    simp -implicitDefEqProofs (maxSteps := 1000000) (disch := omega) only [↓bnd_some, bnd_some, eV_q, eVk_v, eVk_o, eW_q, eWk_b, frz_v, frz_o, frzs_nil, frzs_cons, ↓eC_q, ↓e1_q, ↓e2_q, ↓e3_q, e3k_b, ↓eT_q, ↓eTb_q, ↓eTbk_b, eTbk_b, ↓wAnd_q, ↓wOr_q, ↓wNot_q, ↓eAnd_q, ↓eOr_q, ↓eNot_q, ↓eIf_q, ↓eP_q, ↓aNil_q, ↓aCons_q, ↓eL_q, ↓eFz_q, ↓bLst_q, ↓bL_q, ↓b2_q, ↓bCall_q, ↓bPure_q, ↓pV_q, ↓sSeq_q, ↓seqK_nx, seqK_nx, ↓seqK_rt, seqK_rt, ↓seqK_bk, seqK_bk, ↓seqK_ct, seqK_ct, ↓sIf_q, ↓sNil_q, ↓sBk_q, ↓sCt_q, ↓sRet_q, ↓sRetB_q, ↓sRetN_q, ↓sRetV_q, rvK_b, ↓sExp_q, ↓sSet_q, ↓sSetB_q, put_q, ↓sAug_q, augK_v, ↓finK_rt, finK_rt, ↓finK_nx, finK_nx, ↓gN_q, ↓gsNil_q, ↓gsCons_q, ↓gT_q, ↓sAsg_q, ↓iV_q, ↓iA_q, items_lst, items_tup, ↓sFor_q, forL_nil, ↓forK_nx, forK_nx, ↓forK_ct, forK_ct, ↓forK_bk, forK_bk, ↓forK_rt, forK_rt, ↓whK_nx, whK_nx, ↓whK_ct, whK_ct, ↓whK_bk, whK_bk, ↓whK_rt, whK_rt, ↓bLc_q, ↓tYes_q, wipeE_nil, wipeE_cons, ↓pN_q, own_q, ownK_o, mutS_q, mutK_o, ↓mApp_q, ↓mAppB_q, ↓mPop_q, popK_v, ↓sSetIx_q, setK_i, ↓eObj_q, ↓eIxS_q, ↓sSetO_q, dAdd_i, dSub_i, dNeg_i, dLt_i, dLe_i, dGt_i, dGe_i, dEq_i, dNe_i, dTru_b, dTru_i, dTru_l, dTru_t, bAbs_i, bInt_i, bLen_l, bLen_t, bLen_s, dIx_l, dIx_t, bMaxD_2, bMinD_2, ↓dTup_q, ↓eCut_q, ↓oNone_q, ↓oSome_q, ↓oSk_i, oSk_i, List.getElem?_cons_zero, List.getElem?_cons_succ, List.set_cons_zero, List.set_cons_succ, if_true, if_false, Bool.false_eq_true, decide_eq_true_eq, decide_eq_false_iff_not, Bool.not_true, Bool.not_false, List.length_cons, List.length_nil, List.map_cons, List.map_nil, dMul_i, dFdiv_i, dMod_i, List.nil_append, Nat.zero_add, Nat.reduceAdd, Nat.reduceLeDiff, Nat.reduceLT, Nat.reduceEqDiff, le_refl_line, and_self, true_and, and_true, bnd_none, Bool.not_eq_true, eq_self, reduceCtorEq, decide_true, decide_false, B.frzs_v, Nat.add_assoc, draw_ok, ix0, ix1, Int.cast_ofNat_Int, Int.natCast_zero, Int.natCast_one, l1_law_gcd, dEq_i]
    rfl
    rfl
  have turn : ∀ (t : D) (ts : List D) (a b : Int) (x2 : Option B), 0 < b → forL (gN 2) l1_law_gcd (t :: ts) ⟨[some (.v (.int a)), some (.v (.int b)), x2], [], true⟩ = forL (gN 2) l1_law_gcd ts ⟨[some (.v (.int b)), some (.v (.int (a % b))), some (.v t)], [], true⟩ := fun t ts a b x2 hb => by
    have hz : ¬ b = 0 := by omega
    rw [forL_cons]
    simp -implicitDefEqProofs (maxSteps := 1000000) (disch := omega) only [↓bnd_some, bnd_some, eV_q, eVk_v, eVk_o, eW_q, eWk_b, frz_v, frz_o, frzs_nil, frzs_cons, ↓eC_q, ↓e1_q, ↓e2_q, ↓e3_q, e3k_b, ↓eT_q, ↓eTb_q, ↓eTbk_b, eTbk_b, ↓wAnd_q, ↓wOr_q, ↓wNot_q, ↓eAnd_q, ↓eOr_q, ↓eNot_q, ↓eIf_q, ↓eP_q, ↓aNil_q, ↓aCons_q, ↓eL_q, ↓eFz_q, ↓bLst_q, ↓bL_q, ↓b2_q, ↓bCall_q, ↓bPure_q, ↓pV_q, ↓sSeq_q, ↓seqK_nx, seqK_nx, ↓seqK_rt, seqK_rt, ↓seqK_bk, seqK_bk, ↓seqK_ct, seqK_ct, ↓sIf_q, ↓sNil_q, ↓sBk_q, ↓sCt_q, ↓sRet_q, ↓sRetB_q, ↓sRetN_q, ↓sRetV_q, rvK_b, ↓sExp_q, ↓sSet_q, ↓sSetB_q, put_q, ↓sAug_q, augK_v, ↓finK_rt, finK_rt, ↓finK_nx, finK_nx, ↓gN_q, ↓gsNil_q, ↓gsCons_q, ↓gT_q, ↓sAsg_q, ↓iV_q, ↓iA_q, items_lst, items_tup, ↓sFor_q, forL_nil, ↓forK_nx, forK_nx, ↓forK_ct, forK_ct, ↓forK_bk, forK_bk, ↓forK_rt, forK_rt, ↓whK_nx, whK_nx, ↓whK_ct, whK_ct, ↓whK_bk, whK_bk, ↓whK_rt, whK_rt, ↓bLc_q, ↓tYes_q, wipeE_nil, wipeE_cons, ↓pN_q, own_q, ownK_o, mutS_q, mutK_o, ↓mApp_q, ↓mAppB_q, ↓mPop_q, popK_v, ↓sSetIx_q, setK_i, ↓eObj_q, ↓eIxS_q, ↓sSetO_q, dAdd_i, dSub_i, dNeg_i, dLt_i, dLe_i, dGt_i, dGe_i, dEq_i, dNe_i, dTru_b, dTru_i, dTru_l, dTru_t, bAbs_i, bInt_i, bLen_l, bLen_t, bLen_s, dIx_l, dIx_t, bMaxD_2, bMinD_2, ↓dTup_q, ↓eCut_q, ↓oNone_q, ↓oSome_q, ↓oSk_i, oSk_i, List.getElem?_cons_zero, List.getElem?_cons_succ, List.set_cons_zero, List.set_cons_succ, if_true, if_false, Bool.false_eq_true, decide_eq_true_eq, decide_eq_false_iff_not, Bool.not_true, Bool.not_false, List.length_cons, List.length_nil, List.map_cons, List.map_nil, dMul_i, dFdiv_i, dMod_i, List.nil_append, Nat.zero_add, Nat.reduceAdd, Nat.reduceLeDiff, Nat.reduceLT, Nat.reduceEqDiff, le_refl_line, and_self, true_and, and_true, bnd_none, Bool.not_eq_true, eq_self, reduceCtorEq, decide_true, decide_false, B.frzs_v, Nat.add_assoc, draw_ok, ix0, ix1, Int.cast_ofNat_Int, Int.natCast_zero, Int.natCast_one, l1_law_gcd, dEq_i, hz, sPar_e, parK_e]
  intro k
  induction k with
  | zero =>
    intro ts a b x2 ha hb hk hl
    have : b = 0 := by unfold Euc at hk; simp at hk; omega
    subst this
    cases ts with
    | nil => simp at hl
    | cons t ts => exact stop t ts a x2 ha
  | succ k ih =>
    intro ts a b x2 ha hb hk hl
    cases ts with
    | nil => simp at hl
    | cons t ts =>
      rcases Int.lt_or_le 0 b with h | h
      · rw [turn _ _ _ _ _ h, gcdI_step ha hb]
        have h2 := Int.emod_nonneg a (show b ≠ 0 by omega)
        have h3 := Int.emod_lt_of_pos a h
        cases ts with
        | nil => simp at hl
        | cons t2 ts =>
          rcases Int.lt_or_le 0 (a % b) with z | z
          · rw [turn _ _ _ _ _ z, gcdI_step hb h2]
            have h4 := mod_half z (show a % b ≤ b by omega)
            exact ih ts _ _ _ h2 h4.1 (euc_half hk z (by omega)) (by simp at hl; omega)
          · have e : a % b = 0 := by omega
            rw [e]
            exact stop t2 ts b _ hb
      · have : b = 0 := by omega
        subst this
        exact stop t ts a x2 ha
theorem law_gcd_ok {a b : Int} (ha : 0 ≤ a) (hb : 0 ≤ b ∧ b ≤ 10 ^ 30) : pF F_law_gcd [.int a, .int b] = some (.v (.int (gcdI a b))) := by
  rw [pF_q, q_law_gcd, b_law_gcd]
  obtain ⟨s, e, _⟩ := gcd_loop 199 ((List.range 400).map fun i : Nat => D.int i) a b none ha hb.1 (euc_big hb.2) (by rw [List.length_map, List.length_range]; decide)
  simp -implicitDefEqProofs (maxSteps := 1000000) (disch := omega) only [↓bnd_some, bnd_some, eV_q, eVk_v, eVk_o, eW_q, eWk_b, frz_v, frz_o, frzs_nil, frzs_cons, ↓eC_q, ↓e1_q, ↓e2_q, ↓e3_q, e3k_b, ↓eT_q, ↓eTb_q, ↓eTbk_b, eTbk_b, ↓wAnd_q, ↓wOr_q, ↓wNot_q, ↓eAnd_q, ↓eOr_q, ↓eNot_q, ↓eIf_q, ↓eP_q, ↓aNil_q, ↓aCons_q, ↓eL_q, ↓eFz_q, ↓bLst_q, ↓bL_q, ↓b2_q, ↓bCall_q, ↓bPure_q, ↓pV_q, ↓sSeq_q, ↓seqK_nx, seqK_nx, ↓seqK_rt, seqK_rt, ↓seqK_bk, seqK_bk, ↓seqK_ct, seqK_ct, ↓sIf_q, ↓sNil_q, ↓sBk_q, ↓sCt_q, ↓sRet_q, ↓sRetB_q, ↓sRetN_q, ↓sRetV_q, rvK_b, ↓sExp_q, ↓sSet_q, ↓sSetB_q, put_q, ↓sAug_q, augK_v, ↓finK_rt, finK_rt, ↓finK_nx, finK_nx, ↓gN_q, ↓gsNil_q, ↓gsCons_q, ↓gT_q, ↓sAsg_q, ↓iV_q, ↓iA_q, items_lst, items_tup, ↓sFor_q, forL_nil, ↓forK_nx, forK_nx, ↓forK_ct, forK_ct, ↓forK_bk, forK_bk, ↓forK_rt, forK_rt, ↓whK_nx, whK_nx, ↓whK_ct, whK_ct, ↓whK_bk, whK_bk, ↓whK_rt, whK_rt, ↓bLc_q, ↓tYes_q, wipeE_nil, wipeE_cons, ↓pN_q, own_q, ownK_o, mutS_q, mutK_o, ↓mApp_q, ↓mAppB_q, ↓mPop_q, popK_v, ↓sSetIx_q, setK_i, ↓eObj_q, ↓eIxS_q, ↓sSetO_q, dAdd_i, dSub_i, dNeg_i, dLt_i, dLe_i, dGt_i, dGe_i, dEq_i, dNe_i, dTru_b, dTru_i, dTru_l, dTru_t, bAbs_i, bInt_i, bLen_l, bLen_t, bLen_s, dIx_l, dIx_t, bMaxD_2, bMinD_2, ↓dTup_q, ↓eCut_q, ↓oNone_q, ↓oSome_q, ↓oSk_i, oSk_i, List.getElem?_cons_zero, List.getElem?_cons_succ, List.set_cons_zero, List.set_cons_succ, if_true, if_false, Bool.false_eq_true, decide_eq_true_eq, decide_eq_false_iff_not, Bool.not_true, Bool.not_false, List.length_cons, List.length_nil, List.map_cons, List.map_nil, dMul_i, dFdiv_i, dMod_i, List.nil_append, Nat.zero_add, Nat.reduceAdd, Nat.reduceLeDiff, Nat.reduceLT, Nat.reduceEqDiff, le_refl_line, and_self, true_and, and_true, bnd_none, Bool.not_eq_true, eq_self, reduceCtorEq, decide_true, decide_false, B.frzs_v, Nat.add_assoc, draw_ok, ix0, ix1, Int.cast_ofNat_Int, Int.natCast_zero, Int.natCast_one, rng400, e]
theorem frac_loop {x0 x1 : Option B} {w : Nat} : ∀ (k n : Nat) (a b : Int), 0 ≤ a → 0 ≤ b → Euc k b → 2 * k + 1 ≤ n →
    whileN (t1_law_frac w) (l1_law_frac w) n ⟨[x0, x1, some (.v (.int a)), some (.v (.int b))], [], true⟩ = some (.nx, ⟨[x0, x1, some (.v (.int (gcdI a b))), some (.v (.int 0))], [], true⟩) := by
  have stop : ∀ (n : Nat) (a : Int), 0 ≤ a → whileN (t1_law_frac w) (l1_law_frac w) (n + 1) ⟨[x0, x1, some (.v (.int a)), some (.v (.int 0))], [], true⟩ = some (.nx, ⟨[x0, x1, some (.v (.int (gcdI a 0))), some (.v (.int 0))], [], true⟩) := fun n a ha => by
    rw [whileN_q, gcdI_zero ha]
    simp -implicitDefEqProofs (maxSteps := 1000000) (disch := omega) only [↓bnd_some, bnd_some, eV_q, eVk_v, eVk_o, eW_q, eWk_b, frz_v, frz_o, frzs_nil, frzs_cons, ↓eC_q, ↓e1_q, ↓e2_q, ↓e3_q, e3k_b, ↓eT_q, ↓eTb_q, ↓eTbk_b, eTbk_b, ↓wAnd_q, ↓wOr_q, ↓wNot_q, ↓eAnd_q, ↓eOr_q, ↓eNot_q, ↓eIf_q, ↓eP_q, ↓aNil_q, ↓aCons_q, ↓eL_q, ↓eFz_q, ↓bLst_q, ↓bL_q, ↓b2_q, ↓bCall_q, ↓bPure_q, ↓pV_q, ↓sSeq_q, ↓seqK_nx, seqK_nx, ↓seqK_rt, seqK_rt, ↓seqK_bk, seqK_bk, ↓seqK_ct, seqK_ct, ↓sIf_q, ↓sNil_q, ↓sBk_q, ↓sCt_q, ↓sRet_q, ↓sRetB_q, ↓sRetN_q, ↓sRetV_q, rvK_b, ↓sExp_q, ↓sSet_q, ↓sSetB_q, put_q, ↓sAug_q, augK_v, ↓finK_rt, finK_rt, ↓finK_nx, finK_nx, ↓gN_q, ↓gsNil_q, ↓gsCons_q, ↓gT_q, ↓sAsg_q, ↓iV_q, ↓iA_q, items_lst, items_tup, ↓sFor_q, forL_nil, ↓forK_nx, forK_nx, ↓forK_ct, forK_ct, ↓forK_bk, forK_bk, ↓forK_rt, forK_rt, ↓whK_nx, whK_nx, ↓whK_ct, whK_ct, ↓whK_bk, whK_bk, ↓whK_rt, whK_rt, ↓bLc_q, ↓tYes_q, wipeE_nil, wipeE_cons, ↓pN_q, own_q, ownK_o, mutS_q, mutK_o, ↓mApp_q, ↓mAppB_q, ↓mPop_q, popK_v, ↓sSetIx_q, setK_i, ↓eObj_q, ↓eIxS_q, ↓sSetO_q, dAdd_i, dSub_i, dNeg_i, dLt_i, dLe_i, dGt_i, dGe_i, dEq_i, dNe_i, dTru_b, dTru_i, dTru_l, dTru_t, bAbs_i, bInt_i, bLen_l, bLen_t, bLen_s, dIx_l, dIx_t, bMaxD_2, bMinD_2, ↓dTup_q, ↓eCut_q, ↓oNone_q, ↓oSome_q, ↓oSk_i, oSk_i, List.getElem?_cons_zero, List.getElem?_cons_succ, List.set_cons_zero, List.set_cons_succ, if_true, if_false, Bool.false_eq_true, decide_eq_true_eq, decide_eq_false_iff_not, Bool.not_true, Bool.not_false, List.length_cons, List.length_nil, List.map_cons, List.map_nil, dMul_i, dFdiv_i, dMod_i, List.nil_append, Nat.zero_add, Nat.reduceAdd, Nat.reduceLeDiff, Nat.reduceLT, Nat.reduceEqDiff, le_refl_line, and_self, true_and, and_true, bnd_none, Bool.not_eq_true, eq_self, reduceCtorEq, decide_true, decide_false, B.frzs_v, Nat.add_assoc, draw_ok, ix0, ix1, Int.cast_ofNat_Int, Int.natCast_zero, Int.natCast_one, t1_law_frac, dNe_i]
  have turn : ∀ (n : Nat) (a b : Int), 0 < b → whileN (t1_law_frac w) (l1_law_frac w) (n + 1) ⟨[x0, x1, some (.v (.int a)), some (.v (.int b))], [], true⟩ = whileN (t1_law_frac w) (l1_law_frac w) n ⟨[x0, x1, some (.v (.int b)), some (.v (.int (a % b)))], [], true⟩ := fun n a b hb => by
    have hz : ¬ b = 0 := by omega
    rw [whileN_q]
    simp -implicitDefEqProofs (maxSteps := 1000000) (disch := omega) only [↓bnd_some, bnd_some, eV_q, eVk_v, eVk_o, eW_q, eWk_b, frz_v, frz_o, frzs_nil, frzs_cons, ↓eC_q, ↓e1_q, ↓e2_q, ↓e3_q, e3k_b, ↓eT_q, ↓eTb_q, ↓eTbk_b, eTbk_b, ↓wAnd_q, ↓wOr_q, ↓wNot_q, ↓eAnd_q, ↓eOr_q, ↓eNot_q, ↓eIf_q, ↓eP_q, ↓aNil_q, ↓aCons_q, ↓eL_q, ↓eFz_q, ↓bLst_q, ↓bL_q, ↓b2_q, ↓bCall_q, ↓bPure_q, ↓pV_q, ↓sSeq_q, ↓seqK_nx, seqK_nx, ↓seqK_rt, seqK_rt, ↓seqK_bk, seqK_bk, ↓seqK_ct, seqK_ct, ↓sIf_q, ↓sNil_q, ↓sBk_q, ↓sCt_q, ↓sRet_q, ↓sRetB_q, ↓sRetN_q, ↓sRetV_q, rvK_b, ↓sExp_q, ↓sSet_q, ↓sSetB_q, put_q, ↓sAug_q, augK_v, ↓finK_rt, finK_rt, ↓finK_nx, finK_nx, ↓gN_q, ↓gsNil_q, ↓gsCons_q, ↓gT_q, ↓sAsg_q, ↓iV_q, ↓iA_q, items_lst, items_tup, ↓sFor_q, forL_nil, ↓forK_nx, forK_nx, ↓forK_ct, forK_ct, ↓forK_bk, forK_bk, ↓forK_rt, forK_rt, ↓whK_nx, whK_nx, ↓whK_ct, whK_ct, ↓whK_bk, whK_bk, ↓whK_rt, whK_rt, ↓bLc_q, ↓tYes_q, wipeE_nil, wipeE_cons, ↓pN_q, own_q, ownK_o, mutS_q, mutK_o, ↓mApp_q, ↓mAppB_q, ↓mPop_q, popK_v, ↓sSetIx_q, setK_i, ↓eObj_q, ↓eIxS_q, ↓sSetO_q, dAdd_i, dSub_i, dNeg_i, dLt_i, dLe_i, dGt_i, dGe_i, dEq_i, dNe_i, dTru_b, dTru_i, dTru_l, dTru_t, bAbs_i, bInt_i, bLen_l, bLen_t, bLen_s, dIx_l, dIx_t, bMaxD_2, bMinD_2, ↓dTup_q, ↓eCut_q, ↓oNone_q, ↓oSome_q, ↓oSk_i, oSk_i, List.getElem?_cons_zero, List.getElem?_cons_succ, List.set_cons_zero, List.set_cons_succ, if_true, if_false, Bool.false_eq_true, decide_eq_true_eq, decide_eq_false_iff_not, Bool.not_true, Bool.not_false, List.length_cons, List.length_nil, List.map_cons, List.map_nil, dMul_i, dFdiv_i, dMod_i, List.nil_append, Nat.zero_add, Nat.reduceAdd, Nat.reduceLeDiff, Nat.reduceLT, Nat.reduceEqDiff, le_refl_line, and_self, true_and, and_true, bnd_none, Bool.not_eq_true, eq_self, reduceCtorEq, decide_true, decide_false, B.frzs_v, Nat.add_assoc, draw_ok, ix0, ix1, Int.cast_ofNat_Int, Int.natCast_zero, Int.natCast_one, t1_law_frac, l1_law_frac, dNe_i, hz, sPar_e, parK_e]
  intro k
  induction k with
  | zero =>
    intro n a b ha hb hk hl
    have : b = 0 := by unfold Euc at hk; simp at hk; omega
    subst this
    obtain ⟨n, rfl⟩ : ∃ m, n = m + 1 := ⟨n - 1, by omega⟩
    exact stop n a ha
  | succ k ih =>
    intro n a b ha hb hk hl
    obtain ⟨n, rfl⟩ : ∃ m, n = m + 2 := ⟨n - 2, by omega⟩
    rcases Int.lt_or_le 0 b with h | h
    · rw [turn _ _ _ h, gcdI_step ha hb]
      have h2 := Int.emod_nonneg a (show b ≠ 0 by omega)
      have h3 := Int.emod_lt_of_pos a h
      rcases Int.lt_or_le 0 (a % b) with z | z
      · rw [turn _ _ _ z, gcdI_step hb h2]
        have h4 := mod_half z (show a % b ≤ b by omega)
        exact ih n _ _ h2 h4.1 (euc_half hk z (by omega)) (by omega)
      · have e : a % b = 0 := by omega
        rw [e]
        exact stop n b hb
    · have : b = 0 := by omega
      subst this
      exact stop (n + 1) a ha
theorem law_frac_ok {t b : Int} {w : Nat} (hw : 400 ≤ w) (hb : b ≠ 0) (h : Bd b) : pF (F_law_frac w) [.int t, .int b] = some (.v (lowD t b)) := by
  rw [pF_q, q_law_frac, b_law_frac]
  have hg := gcdI_pos (a := t) hb
  have hl := gcdI_le (a := t) hb
  unfold lowD lowT lowB
  by_cases c : b < 0
  · have e := frac_loop (x0 := some (.v (.int (-t)))) (x1 := some (.v (.int (-b)))) (w := w) 199 w (((-t).natAbs : Nat) : Int) (-b) (by omega) (by omega) (euc_big (by unfold Bd at h; omega)) (by omega)
    have eg : gcdI (((-t).natAbs : Nat) : Int) (-b) = gcdI t b := by unfold gcdI; rw [Int.natAbs_natCast, Int.natAbs_neg, Int.natAbs_neg]
    rw [eg] at e
    simp -implicitDefEqProofs (maxSteps := 1000000) (disch := omega) only [↓bnd_some, bnd_some, eV_q, eVk_v, eVk_o, eW_q, eWk_b, frz_v, frz_o, frzs_nil, frzs_cons, ↓eC_q, ↓e1_q, ↓e2_q, ↓e3_q, e3k_b, ↓eT_q, ↓eTb_q, ↓eTbk_b, eTbk_b, ↓wAnd_q, ↓wOr_q, ↓wNot_q, ↓eAnd_q, ↓eOr_q, ↓eNot_q, ↓eIf_q, ↓eP_q, ↓aNil_q, ↓aCons_q, ↓eL_q, ↓eFz_q, ↓bLst_q, ↓bL_q, ↓b2_q, ↓bCall_q, ↓bPure_q, ↓pV_q, ↓sSeq_q, ↓seqK_nx, seqK_nx, ↓seqK_rt, seqK_rt, ↓seqK_bk, seqK_bk, ↓seqK_ct, seqK_ct, ↓sIf_q, ↓sNil_q, ↓sBk_q, ↓sCt_q, ↓sRet_q, ↓sRetB_q, ↓sRetN_q, ↓sRetV_q, rvK_b, ↓sExp_q, ↓sSet_q, ↓sSetB_q, put_q, ↓sAug_q, augK_v, ↓finK_rt, finK_rt, ↓finK_nx, finK_nx, ↓gN_q, ↓gsNil_q, ↓gsCons_q, ↓gT_q, ↓sAsg_q, ↓iV_q, ↓iA_q, items_lst, items_tup, ↓sFor_q, forL_nil, ↓forK_nx, forK_nx, ↓forK_ct, forK_ct, ↓forK_bk, forK_bk, ↓forK_rt, forK_rt, ↓whK_nx, whK_nx, ↓whK_ct, whK_ct, ↓whK_bk, whK_bk, ↓whK_rt, whK_rt, ↓bLc_q, ↓tYes_q, wipeE_nil, wipeE_cons, ↓pN_q, own_q, ownK_o, mutS_q, mutK_o, ↓mApp_q, ↓mAppB_q, ↓mPop_q, popK_v, ↓sSetIx_q, setK_i, ↓eObj_q, ↓eIxS_q, ↓sSetO_q, dAdd_i, dSub_i, dNeg_i, dLt_i, dLe_i, dGt_i, dGe_i, dEq_i, dNe_i, dTru_b, dTru_i, dTru_l, dTru_t, bAbs_i, bInt_i, bLen_l, bLen_t, bLen_s, dIx_l, dIx_t, bMaxD_2, bMinD_2, ↓dTup_q, ↓eCut_q, ↓oNone_q, ↓oSome_q, ↓oSk_i, oSk_i, List.getElem?_cons_zero, List.getElem?_cons_succ, List.set_cons_zero, List.set_cons_succ, if_true, if_false, Bool.false_eq_true, decide_eq_true_eq, decide_eq_false_iff_not, Bool.not_true, Bool.not_false, List.length_cons, List.length_nil, List.map_cons, List.map_nil, dMul_i, dFdiv_i, dMod_i, List.nil_append, Nat.zero_add, Nat.reduceAdd, Nat.reduceLeDiff, Nat.reduceLT, Nat.reduceEqDiff, le_refl_line, and_self, true_and, and_true, bnd_none, Bool.not_eq_true, eq_self, reduceCtorEq, decide_true, decide_false, B.frzs_v, Nat.add_assoc, draw_ok, ix0, ix1, Int.cast_ofNat_Int, Int.natCast_zero, Int.natCast_one, c, e, dTup_q, two_line]
  · have e := frac_loop (x0 := some (.v (.int t))) (x1 := some (.v (.int b))) (w := w) 199 w ((t.natAbs : Nat) : Int) b (by omega) (by omega) (euc_big (by unfold Bd at h; omega)) (by omega)
    rw [gcdI_abs] at e
    simp -implicitDefEqProofs (maxSteps := 1000000) (disch := omega) only [↓bnd_some, bnd_some, eV_q, eVk_v, eVk_o, eW_q, eWk_b, frz_v, frz_o, frzs_nil, frzs_cons, ↓eC_q, ↓e1_q, ↓e2_q, ↓e3_q, e3k_b, ↓eT_q, ↓eTb_q, ↓eTbk_b, eTbk_b, ↓wAnd_q, ↓wOr_q, ↓wNot_q, ↓eAnd_q, ↓eOr_q, ↓eNot_q, ↓eIf_q, ↓eP_q, ↓aNil_q, ↓aCons_q, ↓eL_q, ↓eFz_q, ↓bLst_q, ↓bL_q, ↓b2_q, ↓bCall_q, ↓bPure_q, ↓pV_q, ↓sSeq_q, ↓seqK_nx, seqK_nx, ↓seqK_rt, seqK_rt, ↓seqK_bk, seqK_bk, ↓seqK_ct, seqK_ct, ↓sIf_q, ↓sNil_q, ↓sBk_q, ↓sCt_q, ↓sRet_q, ↓sRetB_q, ↓sRetN_q, ↓sRetV_q, rvK_b, ↓sExp_q, ↓sSet_q, ↓sSetB_q, put_q, ↓sAug_q, augK_v, ↓finK_rt, finK_rt, ↓finK_nx, finK_nx, ↓gN_q, ↓gsNil_q, ↓gsCons_q, ↓gT_q, ↓sAsg_q, ↓iV_q, ↓iA_q, items_lst, items_tup, ↓sFor_q, forL_nil, ↓forK_nx, forK_nx, ↓forK_ct, forK_ct, ↓forK_bk, forK_bk, ↓forK_rt, forK_rt, ↓whK_nx, whK_nx, ↓whK_ct, whK_ct, ↓whK_bk, whK_bk, ↓whK_rt, whK_rt, ↓bLc_q, ↓tYes_q, wipeE_nil, wipeE_cons, ↓pN_q, own_q, ownK_o, mutS_q, mutK_o, ↓mApp_q, ↓mAppB_q, ↓mPop_q, popK_v, ↓sSetIx_q, setK_i, ↓eObj_q, ↓eIxS_q, ↓sSetO_q, dAdd_i, dSub_i, dNeg_i, dLt_i, dLe_i, dGt_i, dGe_i, dEq_i, dNe_i, dTru_b, dTru_i, dTru_l, dTru_t, bAbs_i, bInt_i, bLen_l, bLen_t, bLen_s, dIx_l, dIx_t, bMaxD_2, bMinD_2, ↓dTup_q, ↓eCut_q, ↓oNone_q, ↓oSome_q, ↓oSk_i, oSk_i, List.getElem?_cons_zero, List.getElem?_cons_succ, List.set_cons_zero, List.set_cons_succ, if_true, if_false, Bool.false_eq_true, decide_eq_true_eq, decide_eq_false_iff_not, Bool.not_true, Bool.not_false, List.length_cons, List.length_nil, List.map_cons, List.map_nil, dMul_i, dFdiv_i, dMod_i, List.nil_append, Nat.zero_add, Nat.reduceAdd, Nat.reduceLeDiff, Nat.reduceLT, Nat.reduceEqDiff, le_refl_line, and_self, true_and, and_true, bnd_none, Bool.not_eq_true, eq_self, reduceCtorEq, decide_true, decide_false, B.frzs_v, Nat.add_assoc, draw_ok, ix0, ix1, Int.cast_ofNat_Int, Int.natCast_zero, Int.natCast_one, c, e, dTup_q, two_line]
end Ev

namespace Ev
open PySem L2
/-- a thing picked of some -/
theorem pick_g {α : Type} {g : α → D} {ds : List Int} {p : Nat} {xs : List α} (h : xs ≠ []) (hl : xs.length ≤ 10 ^ 15) (hp : p ≤ 10 ^ 15) : ∃ z ∈ xs, F_law_pick false [.obj 0, .lst (xs.map g)] (bx ds p) = some (.v (g z), bx ds (p + 1)) := by
  have hn : 0 < xs.length := List.length_pos_iff.mpr h
  have e := pick_ok (ds := ds) (p := p) (row := xs.map g) (by rw [List.length_map]; exact hn) (by rw [List.length_map]; exact hl) hp
  have hk := pk_lt (ds := ds) (p := p) hn
  rw [List.length_map, List.getElem?_map, List.getElem?_eq_getElem hk] at e
  exact ⟨xs[pk ds p xs.length], List.getElem_mem hk, e⟩
/-- a number drawn -/
theorem draw_x {ds : List Int} {p : Nat} {m : Int} (hm : 0 < m) (hp : p ≤ 10 ^ 15) : ∃ r, F_law_draw false [.obj 0, .int m] (bx ds p) = some (.v (.int r), bx ds (p + 1)) ∧ r = rv ds p m ∧ 0 ≤ r ∧ r < m := ⟨_, draw_ok hm hp, rfl, rv_nn hm, rv_lt hm⟩
theorem rv_ex {ds : List Int} {p : Nat} {m : Int} (hm : 0 < m) : ∃ r, rv ds p m = r ∧ 0 ≤ r ∧ r < m := ⟨_, rfl, rv_nn hm, rv_lt hm⟩
theorem sum_ints (ps : List Int) : bSum [.lst (ps.map D.int)] = some (.int ps.sum) := by
  show (asInts (ps.map D.int)).map _ = _
  rw [asInts_map]; rfl
theorem any_bools (ps : List Bool) : bAny [.lst (ps.map D.bl)] = some (.bl (ps.any id)) := by
  show (asBools (ps.map D.bl)).map _ = _
  rw [asBools_map]; rfl
theorem all_bools (ps : List Bool) : bAll [.lst (ps.map D.bl)] = some (.bl (ps.all id)) := by
  show (asBools (ps.map D.bl)).map _ = _
  rw [asBools_map]; rfl
theorem atI_k {α : Type} {xs : List α} {k : Nat} (h : k < xs.length) : atI xs (k : Int) = some xs[k] := by rw [atI_nn (by omega)]; simp [h]
theorem atI_g {α : Type} {g : α → D} {xs : List α} {k : Nat} (h : k < xs.length) : atI (xs.map g) (k : Int) = some (g xs[k]) := by
  rw [atI_nn (by omega), List.getElem?_map, show ((k : Int)).toNat = k by omega, List.getElem?_eq_getElem h]; rfl
theorem atI_m {α : Type} {g : α → D} {xs : List α} {k : Int} (h0 : 0 ≤ k) (h : k < xs.length) : atI (xs.map g) k = some (g (xs[k.toNat]'(by omega))) := by
  rw [atI_nn h0, List.getElem?_map, List.getElem?_eq_getElem (by omega)]; rfl
theorem ixN_nn {n : Nat} {k : Int} (h : 0 ≤ k ∧ k < n) : ixN n k = some k.toNat := by
  unfold ixN; rw [if_pos h.1, if_pos h.2]
theorem pr_row (p : Int × Int) : pr p = rowD [p.1, p.2] := rfl
theorem prs_rows (xs : List (Int × Int)) : xs.map pr = (xs.map fun p => [p.1, p.2]).map rowD := by rw [List.map_map]; rfl
theorem row2_inj {xs ys : List (Int × Int)} : (xs.map fun p => [p.1, p.2]) = (ys.map fun p => [p.1, p.2]) ↔ xs = ys := by
  constructor
  · intro h
    exact List.map_inj_right (f := fun p : Int × Int => [p.1, p.2]) (fun a b e => by
      simp only [List.cons.injEq, and_true] at e
      exact Prod.ext e.1 e.2) |>.mp h
  · intro h; rw [h]
theorem dEq_prs {xs ys : List (Int × Int)} : dEq (.lst (xs.map pr)) (.lst (ys.map pr)) = some (.bl (decide (xs = ys))) := by
  unfold dEq; rw [prs_rows, prs_rows, dEqb_rows]
  simp only [row2_inj]; rfl
theorem dNe_prs {xs ys : List (Int × Int)} : dNe (.lst (xs.map pr)) (.lst (ys.map pr)) = some (.bl (!decide (xs = ys))) := by
  unfold dNe; rw [prs_rows, prs_rows, dEqb_rows]
  simp only [row2_inj]; rfl
theorem dEq_ints {xs ys : List Int} : dEq (.lst (xs.map .int)) (.lst (ys.map .int)) = some (.bl (decide (xs = ys))) := by
  unfold dEq; rw [dEqb_ints]; rfl
theorem dEq_pr {p q : Int × Int} : dEq (pr p) (pr q) = some (.bl (decide (p = q))) := by
  unfold dEq; rw [pr_row, pr_row, dEqb_row]
  have e : decide ([p.1, p.2] = [q.1, q.2]) = decide (p = q) := by
    rw [decide_eq_decide]
    simp only [List.cons.injEq, and_true]
    exact ⟨fun h => Prod.ext h.1 h.2, fun h => by rw [h]; exact ⟨rfl, rfl⟩⟩
  rw [e]; rfl
theorem dt_prs {n : Nat} {xs : List (Int × Int)} (hl : xs.length ≤ 10 ^ 15) (h : ∀ x ∈ xs, Bd x.1 ∧ Bd x.2) : Dt (n + 2) (.lst (xs.map pr)) := .lst (fun x hx => by
  obtain ⟨y, hy, rfl⟩ := List.mem_map.mp hx
  exact .tup (fun z hz => by
    rcases List.mem_cons.mp hz with rfl | hz
    · exact .i (h y hy).1
    · cases List.mem_singleton.mp hz; exact .i (h y hy).2) (by simp)) (by rw [List.length_map]; exact hl)
theorem same_prs {xs : List (Int × Int)} (hl : xs.length ≤ 10 ^ 15) (h : ∀ x ∈ xs, Bd x.1 ∧ Bd x.2) : pF F_law_same [.lst (xs.map pr), .lst (xs.map pr)] = some (.v (.bl true)) := same_ok (dt_prs hl h)
theorem isNot_l {xs : List D} : dIsNot (.lst xs) .non = some (.bl true) := rfl
theorem isNot_n : dIsNot .non .non = some (.bl false) := rfl
theorem isNot_t {xs : List D} : dIsNot (.tup xs) .non = some (.bl true) := rfl
theorem isNot_i {i : Int} : dIsNot (.int i) .non = some (.bl true) := rfl
theorem is_l {xs : List D} : dIs (.lst xs) .non = some (.bl false) := rfl
theorem is_n : dIs .non .non = some (.bl true) := rfl
theorem is_t {xs : List D} : dIs (.tup xs) .non = some (.bl false) := rfl
theorem is_i {i : Int} : dIs (.int i) .non = some (.bl false) := rfl
theorem frzs_mapv {α : Type} (g : α → D) (xs : List α) : B.frzs ((xs.map g).map B.v) = xs.map g := B.frzs_v _
theorem map_of {α : Type} {g : α → D} {P : α → Prop} : ∀ (vs : List D), (∀ v ∈ vs, ∃ z, v = g z ∧ P z) → ∃ zs : List α, vs = zs.map g ∧ ∀ z ∈ zs, P z
  | [], _ => ⟨[], rfl, fun _ h => by cases h⟩
  | v :: vs, H => by
    obtain ⟨z, rfl, hz⟩ := H v (List.mem_cons_self ..)
    obtain ⟨zs, rfl, hzs⟩ := map_of vs fun x hx => H x (List.mem_cons_of_mem _ hx)
    exact ⟨z :: zs, rfl, fun x hx => by
      rcases List.mem_cons.mp hx with rfl | hx
      · exact hz
      · exact hzs x hx⟩
theorem fmax_spec : ∀ (xs : List Int) (x : Int), xs.foldl max x ∈ x :: xs ∧ ∀ y ∈ x :: xs, y ≤ xs.foldl max x
  | [], x => ⟨List.mem_cons_self .., fun y hy => by cases List.mem_singleton.mp hy; exact Int.le_refl _⟩
  | z :: zs, x => by
    obtain ⟨h1, h2⟩ := fmax_spec zs (max x z)
    rw [List.foldl_cons]
    refine ⟨?_, fun y hy => ?_⟩
    · rcases List.mem_cons.mp h1 with e | h
      · rw [e]
        by_cases c : x ≤ z
        · rw [Int.max_eq_right c]; simp
        · rw [Int.max_eq_left (by omega)]; simp
      · exact List.mem_cons_of_mem _ (List.mem_cons_of_mem _ h)
    · have h3 := h2 (max x z) (List.mem_cons_self ..)
      rcases List.mem_cons.mp hy with rfl | hy
      · omega
      · rcases List.mem_cons.mp hy with rfl | hy
        · omega
        · exact h2 y (List.mem_cons_of_mem _ hy)
theorem fmin_spec : ∀ (xs : List Int) (x : Int), xs.foldl min x ∈ x :: xs ∧ ∀ y ∈ x :: xs, xs.foldl min x ≤ y
  | [], x => ⟨List.mem_cons_self .., fun y hy => by cases List.mem_singleton.mp hy; exact Int.le_refl _⟩
  | z :: zs, x => by
    obtain ⟨h1, h2⟩ := fmin_spec zs (min x z)
    rw [List.foldl_cons]
    refine ⟨?_, fun y hy => ?_⟩
    · rcases List.mem_cons.mp h1 with e | h
      · rw [e]
        by_cases c : x ≤ z
        · rw [Int.min_eq_left c]; simp
        · rw [Int.min_eq_right (by omega)]; simp
      · exact List.mem_cons_of_mem _ (List.mem_cons_of_mem _ h)
    · have h3 := h2 (min x z) (List.mem_cons_self ..)
      rcases List.mem_cons.mp hy with rfl | hy
      · omega
      · rcases List.mem_cons.mp hy with rfl | hy
        · omega
        · exact h2 y (List.mem_cons_of_mem _ hy)
theorem max_ex {xs : List Int} (h : xs ≠ []) : ∃ m, bMaxD [.lst (xs.map .int)] = some (.int m) ∧ m ∈ xs ∧ ∀ y ∈ xs, y ≤ m := by
  cases xs with
  | nil => exact absurd rfl h
  | cons x xs => exact ⟨_, bMax_ints, fmax_spec xs x⟩
theorem min_ex {xs : List Int} (h : xs ≠ []) : ∃ m, bMinD [.lst (xs.map .int)] = some (.int m) ∧ m ∈ xs ∧ ∀ y ∈ xs, m ≤ y := by
  cases xs with
  | nil => exact absurd rfl h
  | cons x xs => exact ⟨_, bMin_ints, fmin_spec xs x⟩
theorem map_set_i {zs : List Int} {j : Nat} {z : Int} : (zs.map fun i => B.v (.int i)).set j (.v (.int z)) = (zs.set j z).map fun i => B.v (.int i) := by rw [List.map_set]
theorem sm_big {i : Int} (h : -(10 ^ 120) ≤ i ∧ i ≤ 10 ^ 120) : Sm i := by
  have e : (10 : Nat) ^ 120 < 2 ^ 400 := by decide
  have e2 : (2 : Nat) ^ 400 ≤ 2 ^ 1800 := Nat.pow_le_pow_right (by decide) (by decide)
  show i.natAbs < 2 ^ 1800
  have : i.natAbs ≤ 10 ^ 120 := by omega
  omega
theorem dMul_big {i j : Int} (h1 : -(10 ^ 120) ≤ i ∧ i ≤ 10 ^ 120) (h2 : -(10 ^ 120) ≤ j ∧ j ≤ 10 ^ 120) : dMul (.int i) (.int j) = some (.int (i * j)) := by
  simp only [dMul]; rw [if_pos (.inl ⟨sm_big h1, sm_big h2⟩)]
theorem seg_get {n k : Nat} (h : k < (seg 0 (n : Int)).length) : (seg 0 (n : Int))[k] = (k : Int) := by
  have e : (seg 0 (n : Int))[k]? = some (k : Int) := by
    rw [seg_len] at h
    unfold seg
    rw [List.getElem?_map, List.getElem?_range (by omega)]
    simp
  exact Option.some.inj ((List.getElem?_eq_getElem h).symm.trans e)
/-- a comprehension over the places of a row -/
theorem lcL_idx {α : Type} {own : List Nat} {h : EvG} {c : EvT} {e : EvE} {s : Sta} {xs : List α} (v : α → D) (H : ∀ k (hk : k < xs.length), lcS own h c e (.int (k : Int)) s = some (some (v xs[k]), s)) :
    lcL own h c e ((seg 0 (xs.length : Int)).map D.int) s = some (xs.map v, s) := by
  have e1 := lcL_all (own := own) (h := h) (c := c) (e := e) (s := s) (g := D.int) (fun i : Int => ((xs[i.toNat]?).map v).getD .non) (seg 0 (xs.length : Int)) fun i hi => by
    have hi := mem_seg.mp hi
    have hk : i.toNat < xs.length := by omega
    have e := H i.toNat hk
    rw [show ((i.toNat : Nat) : Int) = i by omega] at e
    rw [e, List.getElem?_eq_getElem hk]; rfl
  rw [e1]
  congr 2
  refine List.ext_getElem (by rw [List.length_map, List.length_map, seg_len]; omega) fun k h1 h2 => ?_
  rw [List.length_map] at h1 h2
  rw [List.getElem_map, List.getElem_map, seg_get, Int.toNat_natCast, List.getElem?_eq_getElem h2]; rfl
theorem dEq_nil {xs : List Int} : dEq (.lst (xs.map .int)) (.lst []) = some (.bl (decide (xs = []))) := dEq_nil_ints xs
theorem dNe_nil {xs : List Int} : dNe (.lst (xs.map .int)) (.lst []) = some (.bl (!decide (xs = []))) := by
  have := dNe_ints (xs := xs) (ys := [])
  exact this
theorem dEq_nn : dEq (.lst []) (.lst []) = some (.bl true) := dEq_nil (xs := [])
theorem dNe_nn : dNe (.lst []) (.lst []) = some (.bl false) := dNe_nil (xs := [])
/-- strictly ascending -/
abbrev Asc (xs : List Int) : Prop := xs.Pairwise (· < ·)
theorem sort_asc {xs : List Int} (h : xs.Nodup) : Asc (sortI xs) := by
  have h1 := sortI_sorted xs
  have h2 : (sortI xs).Nodup := (sortI_perm xs).nodup_iff.mpr h
  exact (h1.and h2).imp fun ⟨a, b⟩ => by omega
theorem mem_sortI {xs : List Int} {x : Int} : x ∈ sortI xs ↔ x ∈ xs := (sortI_perm xs).mem_iff
theorem len_sortI {xs : List Int} : (sortI xs).length = xs.length := (sortI_perm xs).length_eq
/-- .. whose turns leave the state such as it was told -/
theorem lcL_mapP {α : Type} {own : List Nat} {h : EvG} {c : EvT} {e : EvE} {g : α → D} (P : Sta → Prop) (b : α → Bool) (v : α → D) : ∀ (xs : List α) (s : Sta), P s → (∀ x ∈ xs, ∀ s, P s → ∃ s', P s' ∧ lcS own h c e (g x) s = some (if b x = true then some (v x) else none, s')) →
    ∃ s', P s' ∧ lcL own h c e (xs.map g) s = some ((xs.filter b).map v, s')
  | [], s, hs, _ => ⟨s, hs, rfl⟩
  | x :: xs, s, hs, H => by
    obtain ⟨s2, hs2, e1⟩ := H x (List.mem_cons_self ..) s hs
    obtain ⟨s', hs', ih⟩ := lcL_mapP P b v xs s2 hs2 fun y hy => H y (List.mem_cons_of_mem _ hy)
    refine ⟨s', hs', ?_⟩
    unfold lcS at e1
    obtain ⟨s1, f1, f2⟩ := bnd_inv e1
    obtain ⟨⟨k, s3⟩, f3, f4⟩ := bnd_inv f2
    rw [List.map_cons, lcL, f1]
    show ((c s1).bind _) = _
    rw [f3]
    cases k with
    | true =>
      obtain ⟨⟨d, s4⟩, f5, f6⟩ := bnd_inv (show @bnd _ _ (e s3) ⟨fun q => some (some q.1, wipeE q.2 own)⟩ = _ from f4)
      have f7 := Option.some.inj f6
      injection f7 with f8 f9
      cases hb : b x with
      | false => rw [hb] at f8; cases f8
      | true =>
        rw [hb, if_pos rfl] at f8
        injection f8 with f8
        show ((e s3).bind _) = _
        rw [f5]
        show ((lcL own h c e (xs.map g) (wipeE s4 own)).bind _) = _
        rw [show wipeE s4 own = s2 from f9, ih, List.filter_cons_of_pos hb]
        show some (d :: _, s') = _
        rw [show d = v x from f8]; rfl
    | false =>
      have f7 := Option.some.inj f4
      injection f7 with f8 f9
      cases hb : b x with
      | true => rw [hb] at f8; cases f8
      | false =>
        show lcL own h c e (xs.map g) (wipeE s3 own) = _
        rw [show wipeE s3 own = s2 from f9, ih, List.filter_cons_of_neg (by rw [hb]; decide)]
end Ev

namespace Ev
open PySem L2
open PySem.W (alike alikeAll dataLt keyToks keyToksAll Datum DatumOrd Tup listLt minOf maxOf dataLe)

/-! ## data with a Lean type -/
class Dx (α : Type) [DecidableEq α] [DatumOrd α] where
  g : α → D
  py : ∀ a : α, (g a).py = some (Datum.toD a)
  lay : ∀ a : α, PyData.canLay0 (Datum.toD a) = true
/-- .. that can be put in order -/
class Ds (α : Type) [DecidableEq α] [DatumOrd α] where
  kd : Bool
  kt : kd = true → ∀ a : α, ∃ x xs, Datum.toD a = .tuple (x :: xs)
  kf : kd = false → ∀ a : α, (match Datum.toD a with | .none => false | .tuple _ => false | _ => true) = true
instance : Dx Int where
  g := .int
  py _ := rfl
  lay _ := by show PyData.canLay0 (.int _) = true; simp [PyData.canLay0]
instance : Ds Int := ⟨false, fun h => (by cases h), fun _ _ => rfl⟩
instance : Dx Bool where
  g := .bl
  py _ := rfl
  lay _ := by show PyData.canLay0 (.bool _) = true; simp [PyData.canLay0]
instance : Ds Bool := ⟨false, fun h => (by cases h), fun _ _ => rfl⟩
section
variable {α β γ : Type} [DecidableEq α] [DatumOrd α] [Dx α] [DecidableEq β] [DatumOrd β] [Dx β] [DecidableEq γ] [DatumOrd γ] [Dx γ]
theorem pys_g : ∀ xs : List α, D.pys (xs.map Dx.g) = some (xs.map Datum.toD)
  | [] => rfl
  | x :: xs => by rw [List.map_cons, D.pys]; simp only [Dx.py x, pys_g xs, List.map_cons]
theorem lay_g : ∀ xs : List α, PyData.canLayAll0 (xs.map Datum.toD) = true
  | [] => rfl
  | x :: xs => by rw [List.map_cons, PyData.canLayAll0, lay_g xs, Dx.lay]; rfl
theorem pd_g (a : α) : (Dx.g a).pd = Datum.toD a := py_pd (Dx.py a)
theorem shaped_g (hd : Datum.depth α ≤ 30 := by decide) (a : α) : SeqAt.shaped (Datum.toD a) = true := by
  unfold SeqAt.shaped
  have h1 := Datum.depth_le a
  rw [Dx.lay]
  simp; omega
theorem depths_g (hd : Datum.depth α ≤ 30 := by decide) (xs : List α) : PyData.depthAll (xs.map Datum.toD) ≤ 30 := Nat.le_trans (PySem.W.depthAll_map xs) hd
theorem shapedL_g (hd : Datum.depth α ≤ 30 := by decide) (xs : List α) : SeqAt.shaped (.list (xs.map Datum.toD)) = true := by
  unfold SeqAt.shaped
  rw [PyData.canLay0, lay_g, PyData.depth]
  have := depths_g hd xs
  simp; omega
theorem dEqb_d {a b : α} (hd : Datum.depth α ≤ 30 := by decide) : dEqb (Dx.g a) (Dx.g b) = some (decide (a = b)) := by
  rw [dEq_of (Dx.py a) (Dx.py b) (shaped_g hd a) (shaped_g hd b), Datum.eqv]
theorem dEq_d {a b : α} (hd : Datum.depth α ≤ 30 := by decide) : dEq (Dx.g a) (Dx.g b) = some (.bl (decide (a = b))) := by unfold dEq; rw [dEqb_d hd]; rfl
theorem dNe_d {a b : α} (hd : Datum.depth α ≤ 30 := by decide) : dNe (Dx.g a) (Dx.g b) = some (.bl (!decide (a = b))) := by unfold dNe; rw [dEqb_d hd]; rfl
theorem dInb_d {a : α} {xs : List α} (hd : Datum.depth α ≤ 30 := by decide) : dInb (Dx.g a) (.lst (xs.map Dx.g)) = some (decide (a ∈ xs)) := by
  show (match (Dx.g a).py, D.pys (xs.map Dx.g) with | some p, some ps => if SeqAt.shaped p = true ∧ SeqAt.shaped (.list ps) = true then some (ps.any fun z => PyData.eqv z p) else none | _, _ => none) = _
  rw [pys_g, Dx.py]
  show (if SeqAt.shaped (Datum.toD a) = true ∧ SeqAt.shaped (.list (xs.map Datum.toD)) = true then some ((xs.map Datum.toD).any fun z => PyData.eqv z (Datum.toD a)) else none) = _
  rw [if_pos ⟨shaped_g hd a, shapedL_g hd xs⟩, List.any_map]
  congr 1
  rw [Bool.eq_iff_iff]
  simp only [List.any_eq_true, Function.comp_apply, Datum.eqv, decide_eq_true_eq]
  constructor
  · rintro ⟨y, hy, rfl⟩; exact hy
  · exact fun h => ⟨a, h, rfl⟩
theorem dIn_d {a : α} {xs : List α} [Decidable (a ∈ xs)] (hd : Datum.depth α ≤ 30 := by decide) : dIn (Dx.g a) (.lst (xs.map Dx.g)) = some (.bl (decide (a ∈ xs))) := by unfold dIn; rw [dInb_d hd]; exact congrArg (fun b => some (D.bl b)) (decide_eq_decide.mpr Iff.rfl)
theorem dNotIn_d {a : α} {xs : List α} [Decidable (a ∈ xs)] (hd : Datum.depth α ≤ 30 := by decide) : dNotIn (Dx.g a) (.lst (xs.map Dx.g)) = some (.bl (!decide (a ∈ xs))) := by unfold dNotIn; rw [dInb_d hd]; exact congrArg (fun b => some (D.bl (!b))) (decide_eq_decide.mpr Iff.rfl)
theorem okD_d (hd : Datum.depth α ≤ 30 := by decide) (xs : List α) : okD (xs.map Dx.g) = true := by
  refine okD_of (pys_g xs) (fun p hp q hq => ?_) (fun p hp => ?_) fun p hp => ?_
  · obtain ⟨a, _, rfl⟩ := List.mem_map.mp hp
    obtain ⟨b, _, rfl⟩ := List.mem_map.mp hq
    exact DatumOrd.alike a b
  · obtain ⟨a, _, rfl⟩ := List.mem_map.mp hp
    have h := DatumOrd.notNone a
    cases e : Datum.toD a with
    | none => exact absurd e h
    | _ => rw [alike] <;> simp
  · obtain ⟨a, _, rfl⟩ := List.mem_map.mp hp
    have h1 := Datum.depth_le a
    exact Nat.le_trans h1 (by omega)
theorem dlt_d {a b : α} : dltB (Dx.g a) (Dx.g b) = DatumOrd.lt a b := by
  unfold dltB; rw [pd_g, pd_g, DatumOrd.lt_eq]
theorem bMin_d {x : α} {xs : List α} (hd : Datum.depth α ≤ 30 := by decide) : bMinD [.lst (Dx.g x :: xs.map Dx.g)] = some (Dx.g (minOf x xs)) := by
  show (if okD ((x :: xs).map Dx.g) = true then some (minF (Dx.g x) (xs.map Dx.g)) else none) = _
  rw [if_pos (okD_d hd (x :: xs)), minF_map Dx.g DatumOrd.lt (fun _ _ => dlt_d)]; rfl
theorem bMax_d {x : α} {xs : List α} (hd : Datum.depth α ≤ 30 := by decide) : bMaxD [.lst (Dx.g x :: xs.map Dx.g)] = some (Dx.g (maxOf x xs)) := by
  show (if okD ((x :: xs).map Dx.g) = true then some (maxF (Dx.g x) (xs.map Dx.g)) else none) = _
  rw [if_pos (okD_d hd (x :: xs)), maxF_map Dx.g DatumOrd.lt (fun _ _ => dlt_d)]; rfl
theorem okS_d [Ds α] (hd : Datum.depth α ≤ 30 := by decide) (xs : List α) : okS (xs.map Dx.g) = true := by
  unfold okS
  rw [pys_g]
  simp only [Bool.and_eq_true, Bool.or_eq_true, decide_eq_true_eq, List.all_eq_true]
  refine ⟨⟨fun p hp q hq => ?_, by have := depths_g hd xs; omega⟩, ?_⟩
  · obtain ⟨a, _, rfl⟩ := List.mem_map.mp hp
    obtain ⟨b, _, rfl⟩ := List.mem_map.mp hq
    exact DatumOrd.alike a b
  · cases e : Ds.kd α with
    | true =>
      refine .inl fun p hp => ?_
      obtain ⟨a, _, rfl⟩ := List.mem_map.mp hp
      obtain ⟨x, ys, e2⟩ := Ds.kt e a
      rw [e2]
    | false =>
      refine .inr fun p hp => ?_
      obtain ⟨a, _, rfl⟩ := List.mem_map.mp hp
      exact Ds.kf e a
/-- in order -/
def sortX (xs : List α) : List α := xs.mergeSort fun a b => !DatumOrd.lt b a
theorem sort_d (xs : List α) : sortD false (xs.map Dx.g) = (sortX xs).map Dx.g := by
  unfold sortD sortX
  refine (List.map_mergeSort (r := fun a b => !DatumOrd.lt b a) (s := dataLe false D.pd) (f := Dx.g) (l := xs) fun a _ b _ => ?_).symm
  show _ = (!dataLt (Dx.g b).pd (Dx.g a).pd)
  rw [pd_g, pd_g, DatumOrd.lt_eq]
theorem bSort_d [Ds α] {xs : List α} (h : xs.length ≤ 10 ^ 6) (hd : Datum.depth α ≤ 30 := by decide) : bSortD false [.lst (xs.map Dx.g)] = some ((sortX xs).map Dx.g) := by
  show (if okS (xs.map Dx.g) = true ∧ (xs.map (Dx.g (α := α))).length ≤ sizeLine then some (sortD false (xs.map Dx.g)) else none) = _
  rw [if_pos ⟨okS_d hd xs, le_line (by rw [List.length_map]; exact h)⟩, sort_d]
theorem sortX_perm (xs : List α) : (sortX xs).Perm xs := List.mergeSort_perm _ _
theorem mem_sortX {xs : List α} {x : α} : x ∈ sortX xs ↔ x ∈ xs := (sortX_perm xs).mem_iff
theorem len_sortX {xs : List α} : (sortX xs).length = xs.length := (sortX_perm xs).length_eq
/-- a tuple of three -/
structure T3 (α β γ : Type) where
  a : α
  b : β
  c : γ
  deriving DecidableEq
instance : Datum (T3 α β γ) where
  toD p := .tuple [Datum.toD p.a, Datum.toD p.b, Datum.toD p.c]
  plain p := by simp only [PyData.plain, PyData.plainAll, Datum.plain, Bool.and_self]
  eqv p q := by
    simp only [PyData.eqv, PyData.eqvAll]
    rw [Datum.eqv, Datum.eqv, Datum.eqv, Bool.and_true, ← Bool.decide_and, ← Bool.decide_and]
    exact decide_eq_decide.mpr ⟨fun e => by cases p; cases q; simp only [T3.mk.injEq]; exact e, fun e => by rw [e]; exact ⟨rfl, rfl, rfl⟩⟩
  depth := max (Datum.depth α) (max (Datum.depth β) (Datum.depth γ)) + 1
  depth_le p := by
    simp only [PyData.depth, PyData.depthAll]
    have h1 := Datum.depth_le p.a
    have h2 := Datum.depth_le p.b
    have h3 := Datum.depth_le p.c
    omega
instance : DatumOrd (T3 α β γ) where
  lt p q := if p.a = q.a then (if p.b = q.b then DatumOrd.lt p.c q.c else DatumOrd.lt p.b q.b) else DatumOrd.lt p.a q.a
  alike p q := by
    show PySem.W.alike (.tuple [_, _, _]) (.tuple [_, _, _]) = true
    simp only [PySem.W.alike, alikeAll, DatumOrd.alike, Bool.and_self]
  notNone a := fun e => by cases e
  lt_eq p q := by
    refine (PySem.W.dataLt_tuple _ _).trans ?_
    rw [PySem.W.dataLt_cons (DatumOrd.alike p.a q.a), PySem.W.dataLt_cons (DatumOrd.alike p.b q.b), PySem.W.dataLt_cons (DatumOrd.alike p.c q.c)]
    rw [Datum.eqv, Datum.eqv, Datum.eqv, DatumOrd.lt_eq, DatumOrd.lt_eq, DatumOrd.lt_eq]
    have e : PyProof.Rows.lexLt PyProof.Rows.itemOrd (keyToksAll []) (keyToksAll []) = false := rfl
    rw [e]
    simp only [decide_eq_true_eq]
    by_cases h1 : p.a = q.a
    · rw [if_pos h1, if_pos h1]
      by_cases h2 : p.b = q.b
      · rw [if_pos h2, if_pos h2]
        by_cases h3 : p.c = q.c
        · rw [if_pos h3, h3]
          exact (PySem.W.dataLt_self _).symm.trans (DatumOrd.lt_eq q.c q.c)
        · rw [if_neg h3]
      · rw [if_neg h2, if_neg h2]
    · rw [if_neg h1, if_neg h1]
end
section
variable {α β γ : Type} [DecidableEq α] [DatumOrd α] [Dx α] [DecidableEq β] [DatumOrd β] [Dx β] [DecidableEq γ] [DatumOrd γ] [Dx γ] 
abbrev gPr (p : α × β) : D := .tup [Dx.g p.1, Dx.g p.2]
abbrev gT3 (p : T3 α β γ) : D := .tup [Dx.g p.a, Dx.g p.b, Dx.g p.c]
abbrev gLs (xs : List α) : D := .lst (xs.map Dx.g)
abbrev gTp (t : Tup α) : D := .tup (t.items.map Dx.g)
instance : Dx (α × β) where
  g := gPr
  py p := by
    show (D.pys [Dx.g p.1, Dx.g p.2]).map PyData.tuple = _
    simp only [D.pys, Dx.py]; rfl
  lay p := by
    show PyData.canLay0 (.tuple [Datum.toD p.1, Datum.toD p.2]) = true
    simp [PyData.canLay0, PyData.canLayAll0, Dx.lay]
instance : Dx (T3 α β γ) where
  g := gT3
  py p := by
    show (D.pys [Dx.g p.a, Dx.g p.b, Dx.g p.c]).map PyData.tuple = _
    simp only [D.pys, Dx.py]; rfl
  lay p := by
    show PyData.canLay0 (.tuple [Datum.toD p.a, Datum.toD p.b, Datum.toD p.c]) = true
    simp [PyData.canLay0, PyData.canLayAll0, Dx.lay]
instance : Dx (List α) where
  g := gLs
  py xs := by
    show (D.pys (xs.map Dx.g)).map PyData.list = _
    rw [pys_g]; rfl
  lay xs := by
    show PyData.canLay0 (.list (xs.map Datum.toD)) = true
    rw [PyData.canLay0, lay_g]
instance : Dx (Tup α) where
  g := gTp
  py t := by
    show (D.pys (t.items.map Dx.g)).map PyData.tuple = _
    rw [pys_g]; rfl
  lay t := by
    show PyData.canLay0 (.tuple (t.items.map Datum.toD)) = true
    rw [PyData.canLay0, lay_g]
instance : Ds (α × β) := ⟨true, fun _ p => ⟨_, _, rfl⟩, fun h => by cases h⟩
instance : Ds (T3 α β γ) := ⟨true, fun _ p => ⟨_, _, rfl⟩, fun h => by cases h⟩
instance : Ds (List α) := ⟨false, (fun h => by cases h), fun _ _ => rfl⟩
end
/-! the same, told twice, of data -/
class Dw (α : Type) [DecidableEq α] [DatumOrd α] [Dx α] where
  ok : α → Prop
  lv : Nat
  dt : ∀ (a : α) (n : Nat), ok a → lv ≤ n → Dt n (Dx.g a)
instance : Dw Int := ⟨Bd, 0, fun _ _ h _ => .i h⟩
instance : Dw Bool := ⟨fun _ => True, 0, fun _ _ _ _ => .bl⟩
section
variable {α β γ : Type} [DecidableEq α] [DatumOrd α] [Dx α] [DecidableEq β] [DatumOrd β] [Dx β] [DecidableEq γ] [DatumOrd γ] [Dx γ] [Dw α] [Dw β] [Dw γ]
theorem Dt.cast {m n : Nat} {d : D} (e : m = n) (h : Dt m d) : Dt n d := e ▸ h
instance : Dw (α × β) := ⟨fun p => Dw.ok p.1 ∧ Dw.ok p.2, max (Dw.lv α) (Dw.lv β) + 1, fun p n h hn => by
  refine Dt.cast (m := n - 1 + 1) (by omega) (.tup (fun x hx => ?_) (by simp))
  rcases List.mem_cons.mp hx with rfl | hx
  · exact Dw.dt _ _ h.1 (by omega)
  · cases List.mem_singleton.mp hx; exact Dw.dt _ _ h.2 (by omega)⟩
instance : Dw (T3 α β γ) := ⟨fun p => Dw.ok p.a ∧ Dw.ok p.b ∧ Dw.ok p.c, max (Dw.lv α) (max (Dw.lv β) (Dw.lv γ)) + 1, fun p n h hn => by
  refine Dt.cast (m := n - 1 + 1) (by omega) (.tup (fun x hx => ?_) (by simp))
  rcases List.mem_cons.mp hx with rfl | hx
  · exact Dw.dt _ _ h.1 (by omega)
  · rcases List.mem_cons.mp hx with rfl | hx
    · exact Dw.dt _ _ h.2.1 (by omega)
    · cases List.mem_singleton.mp hx; exact Dw.dt _ _ h.2.2 (by omega)⟩
instance : Dw (List α) := ⟨fun xs => xs.length ≤ 10 ^ 15 ∧ ∀ x ∈ xs, Dw.ok x, Dw.lv α + 1, fun xs n h hn => by
  refine Dt.cast (m := n - 1 + 1) (by omega) (.lst (fun x hx => ?_) (by rw [List.length_map]; exact h.1))
  obtain ⟨y, hy, rfl⟩ := List.mem_map.mp hx
  exact Dw.dt _ _ (h.2 y hy) (by omega)⟩
instance : Dw (Tup α) := ⟨fun xs => xs.items.length ≤ 10 ^ 15 ∧ ∀ x ∈ xs.items, Dw.ok x, Dw.lv α + 1, fun xs n h hn => by
  refine Dt.cast (m := n - 1 + 1) (by omega) (.tup (fun x hx => ?_) (by rw [List.length_map]; exact h.1))
  obtain ⟨y, hy, rfl⟩ := List.mem_map.mp hx
  exact Dw.dt _ _ (h.2 y hy) (by omega)⟩
theorem same_d {a : α} (h : Dw.ok a) (hl : Dw.lv α ≤ 9 := by decide) : pF F_law_same [Dx.g a, Dx.g a] = some (.v (.bl true)) := same_ok (Dw.dt a 9 h hl)
theorem frzs_g (xs : List α) : B.frzs (xs.map fun x => B.v (Dx.g x)) = xs.map Dx.g := frzs_map _ _
end
theorem dAdd_ll {xs ys : List D} (h : xs.length + ys.length ≤ sizeLine) : dAdd (.lst xs) (.lst ys) = some (.lst (xs ++ ys)) := if_pos h
theorem dPow_2 {i : Int} (h : -(10 ^ 18) ≤ i ∧ i ≤ 10 ^ 18) : dPow (.int i) (.int 2) = some (.int (i * i)) := by
  show (if (0 : Int) ≤ 2 ∧ (2 : Int) ≤ 1000000 ∧ i.natAbs < 2 ^ 64 then _ else _) = _
  rw [if_pos ⟨by decide, by decide, by omega⟩]
  congr 2
  show i ^ 2 = _
  rw [Int.pow_succ, Int.pow_succ, Int.pow_zero, Int.one_mul]
end Ev

namespace Ev
open PySem L2

/-! ## a comprehension over a list of one's own, which stays one's own -/
def WkF (K : PySem.W.Frag) (J : It) (G : Gh) (H : Hp) (ds : List D) : Prop := ∀ (G2 : Gh) (H2 : Hp), Fr false G H G2 H2 → Same G2.R H2 → J.stop ds.length H2 ∧
  ∀ i d, ds[i]? = some d → J.go i H2 ∧ ∀ x H', J.yld i H2 x H' → ∃ R'', Ext G2.R H2 R'' H' ∧ Rep K R'' G2.I x d
def tIc (K : PySem.W.Frag) (f : EvA) : TI := fun σ H Rr => ∃ (G : Gh) (s : Sta), Rel K G s σ H ∧ W K (f s) G σ H (fun ds G' _ H' => ∀ J, WkF K J G' H' ds → Rr J H')
abbrev SIc (X : Cx) (tg e : Expr) (f : EvA) : Prop := PI X tg e (tIc X.K f)
def flatB : List B → Option (List D)
  | [] => some []
  | .v d :: r => (flatB r).map (d :: ·)
  | .o _ :: _ => none
/-- the items of a list of one's own, looked at alone -/
def iW (i : Nat) : EvA := fun s => match s.env[i]? with
  | some (some (.o xs)) => (flatB xs).map fun ds => (ds, s)
  | some (some (.v d)) => (items d).map fun ds => (ds, s)
  | _ => none
theorem flatB_reps {K : PySem.W.Frag} {R : Hp} {L : List Addr} {H : Hp} : ∀ {xs : List B} {ds : List D} {vs : List V} {fp : List Addr}, flatB xs = some ds → RepBs K R L H vs xs fp → Reps K R L vs ds
  | [], ds, vs, fp, e, h => by cases e; cases h; exact .nil
  | .v d :: xs, ds, vs, fp, e, h => by
    obtain ⟨r, e1, e2⟩ := Option.map_eq_some_iff.mp e
    cases e2
    cases h with
    | cons h1 h2 => cases h1 with | v h1 => exact .cons h1 (flatB_reps e1 h2)
  | .o _ :: xs, ds, vs, fp, e, h => by cases e
section
variable {X : Cx} {elt tg iter : Expr} {ifs : List Expr} {scope : Scope} {own : List (Str × Nat)} {pos spos : Pos} {fi : EvA} {h : EvG} {c : EvT} {e : EvE}
theorem wkF_of {K : PySem.W.Frag} {J : It} {G : Gh} {H : Hp} {ds : List D} (h : Wk K J G.R G.I ds) : WkF K J G H ds := fun G2 H2 f s => h G2.R G2.I H2 f.r f.l s
theorem rd_lcW {K : PySem.W.Frag} {vs : List Nat} (σ : St) (H : Hp) (Q : VK) (q : tB K (bLc vs fi h c e) σ H Q) : tLc (tIc K fi) (tGw K vs h) (tT K c) (tE K false e) vs σ H Q := by
  obtain ⟨G, s, rel, b, s9, e0, q⟩ := q
  obtain ⟨⟨ds, s1⟩, ea, eb⟩ := Option.bind_eq_some_iff.mp e0
  have eb : (if ds.length ≤ sizeLine then (lcL vs h c e ds (wipeE s1 vs)).bind fun r => some (B.o (r.1.map .v), r.2) else none) = some (b, s9) := eb
  split at eb
  · rename_i hz
    obtain ⟨⟨out, s8⟩, ec, ed⟩ := Option.bind_eq_some_iff.mp eb
    cases ed
    refine ⟨G, s, rel, ds, s1, ea, fun G1 H1 rel1 fr1 J wk D hD => ?_⟩
    obtain ⟨r0, f0⟩ := rel1.lay (o := .lst []) hD
    have nD := rel1.fresh hD
    obtain ⟨O1, r1, hO1⟩ := r0.wipes vs
    -- the state at turn i: the items so far stand at D
    refine ⟨fun i m H' => ∃ G' s' done us, Rel K G' s' (L2.wipe σ vs) H' ∧ Fr false G1 H1 G' H' ∧ Same G1.R G'.R ∧ Pre G1.I G'.I ∧ H' D = some (.lst us) ∧ Reps K G'.R G'.I us done ∧ G'.R D = none ∧ D ∉ G'.O ++ G'.L ∧ m = ds.length - i ∧ i ≤ ds.length ∧ done.length ≤ i ∧
      (∃ more, lcL vs h c e (ds.drop i) s' = some (more, s8) ∧ out = done ++ more) ∧ (∀ j ∈ vs, s'.env[j]? = some none ∨ s'.env[j]? = none),
      ⟨_, ⟨G1.R, G1.L, O1, G1.J⟩, wipeE s1 vs, [], [], r1, ?_, Same.refl _, fun _ _ h => h, upd_same, .nil, rel1.sub.free hD, fun z => nD (by
        rcases List.mem_append.mp z with z | z
        · exact List.mem_append_left _ (hO1 _ z)
        · exact List.mem_append_right _ z), rfl, Nat.zero_le _, Nat.le_refl _, ⟨out, by simpa using ec, by simp⟩, fun j hj => wipeE_none vs s1 j hj⟩, ?_⟩
    · exact f0.own (g := []) (fun a ha => .inl (hO1 a ha)) fun _ h => by cases h
    · rintro i m H2 ⟨G2, s2, done, us, rel2, fr2, sR, pL, hDs, hr, nR, nO, em, hi, hd, ⟨more, e2, eo⟩, hw⟩
      obtain ⟨stop, go⟩ := wk G2 H2 fr2 rel2.sub
      by_cases hl : i < ds.length
      · refine .inr ?_
        rw [List.drop_eq_getElem_cons hl] at e2
        obtain ⟨hgo, yl⟩ := go i ds[i] (List.getElem?_eq_getElem hl)
        refine ⟨hgo, fun H' => ∃ G' s' done us, Rel K G' s' (L2.wipe σ vs) H' ∧ Fr false G1 H1 G' H' ∧ Same G1.R G'.R ∧ Pre G1.I G'.I ∧ H' D = some (.lst us) ∧ Reps K G'.R G'.I us done ∧ G'.R D = none ∧ D ∉ G'.O ++ G'.L ∧ done.length ≤ i + 1 ∧
          (∃ more, lcL vs h c e (ds.drop (i + 1)) s' = some (more, s8) ∧ out = done ++ more) ∧ (∀ j ∈ vs, s'.env[j]? = some none ∨ s'.env[j]? = none),
          fun H' ⟨G', s', done, us, a1, a2, a3, a4, a5, a6, a7, a8, a9, a10, a11⟩ => ⟨ds.length - (i + 1), by omega, G', s', done, us, a1, a2, a3, a4, a5, a6, a7, a8, rfl, hl, a9, a10, a11⟩, fun x H3 hy => ?_⟩
        obtain ⟨R3, x3, rx⟩ := yl x H3 hy
        obtain ⟨rel3, fr3⟩ := rel2.ext x3
        have hD3 : H3 D = some (.lst us) := x3.h _ _ hDs
        have nR3 : R3 D = none := by
          cases z : R3 D with
          | none => rfl
          | some u =>
            rcases x3.rn D (by rw [z]; simp) with w | w
            · exact absurd nR w
            · rw [hDs] at w; cases w
        obtain ⟨s4, ef, eg⟩ := Option.bind_eq_some_iff.mp e2
        refine ⟨⟨R3, G2.L, G2.O, G2.J⟩, s2, _, s4, rel3, rx, ef, fun σ4 G4 rel4 fr4 ⟨eR4, eL4⟩ hw4 => ?_⟩
        have hw4' : L2.wipe σ4 vs = L2.wipe σ vs := by rw [hw4, wipe_idem]
        refine ⟨hw4', ?_⟩
        obtain ⟨⟨k, s5⟩, eh, ei⟩ := Option.bind_eq_some_iff.mp eg
        refine ⟨G4, s4, rel4, k, s5, eh, fun G5 H5 rel5 fr5 => ?_⟩
        have nR4 : G4.R D = none := by rw [eR4]; exact nR3
        have nO4 : D ∉ G4.O ++ G4.L := fun z => by
          rcases List.mem_append.mp z with z | z
          · rcases fr4.o D z with z | z
            · exact nO (List.mem_append_left _ z)
            · rw [hD3] at z; cases z
          · rw [eL4] at z; exact nO (List.mem_append_right _ z)
        -- D behind a step that is none of its own
        have stepD : ∀ {Ga Gb : Gh} {Ha Hb : Hp}, Fr false Ga Ha Gb Hb → Ha D = some (.lst us) → Ga.R D = none → D ∉ Ga.O ++ Ga.L → Hb D = some (.lst us) ∧ Gb.R D = none ∧ D ∉ Gb.O ++ Gb.L := fun {Ga Gb Ha Hb} f z1 z2 z3 => by
          refine ⟨f.h D _ z1 (fun z => by cases z) fun z => z3 (List.mem_append_right _ z), ?_, fun z => ?_⟩
          · cases y : Gb.R D with
            | none => rfl
            | some u =>
              rcases f.rn D (by rw [y]; simp) with w | w | w
              · exact absurd z2 w
              · exact absurd (List.mem_append_left _ w) z3
              · rw [z1] at w; cases w
          · rcases List.mem_append.mp z with z | z
            · rcases f.o D z with w | w
              · exact z3 (List.mem_append_left _ w)
              · rw [z1] at w; cases w
            · rcases f.lo D z with w | w
              · exact z3 (List.mem_append_right _ w)
              · rw [z1] at w; cases w
        obtain ⟨hD5, nR5, nO5⟩ := stepD fr5 hD3 nR4 nO4
        -- the frames, as seen from the start: own slots alone were stored
        have fr4' : Fr false ⟨R3, G2.L, G2.O, G2.J⟩ H3 G4 H3 := ⟨fr4.r, fr4.rn, fr4.l, fr4.o, fr4.lo, fun a u z _ _ => z, fr4.d, fr4.j⟩
        have frA : Fr false G1 H1 G5 H5 := ((fr2.trans fr3).trans fr4').trans fr5
        have sRA : Same G1.R G5.R := ((sR.trans fr3.r).trans fr4.r).trans fr5.r
        have pLA : Pre G1.I G5.I := fun n p z => fr5.l n p (fr4.l n p (pL n p z))
        have hr5 : Reps K G5.R G5.I us done := Reps.mono (((x3.r).trans fr4.r).trans fr5.r) (fun n p z => fr5.l n p (fr4.l n p z)) _ _ hr
        cases k with
        | false =>
          simp only [Bool.false_eq_true, if_false] at ei ⊢
          obtain ⟨O6, r6, hO6⟩ := rel5.wipes vs
          rw [hw4'] at r6
          exact ⟨⟨G5.R, G5.L, O6, G5.J⟩, wipeE s5 vs, done, us, r6, frA.own (g := []) (fun a ha => .inl (hO6 a ha)) (fun _ z => by cases z), sRA, pLA, hD5, hr5, nR5, fun z => nO5 (by
            rcases List.mem_append.mp z with z | z
            · exact List.mem_append_left _ (hO6 _ z)
            · exact List.mem_append_right _ z), by omega, ⟨more, ei, eo⟩, fun j hj => wipeE_none vs s5 j hj⟩
        | true =>
          simp only [if_true] at ei ⊢
          obtain ⟨⟨d6, s6⟩, ej, ek⟩ := Option.bind_eq_some_iff.mp ei
          obtain ⟨⟨more', s7⟩, el, em2⟩ := Option.bind_eq_some_iff.mp ek
          cases em2
          refine ⟨G5, s5, rel5, d6, s6, ej, fun G6 H6 rel6 fr6 y ry => ?_⟩
          obtain ⟨hD6, nR6, nO6⟩ := stepD fr6 hD5 nR5 nO5
          have hus : us.length = done.length := hr5.length
          refine ⟨us, hD6, by omega, ?_⟩
          -- the new item appended
          have keep : Rel K G6 s6 σ4 (upd H6 D (.lst (us ++ [y]))) := by
            have lv := rel6.env.live
            refine ⟨fun a o z => ?_, RepE.mono (Same.refl _) (fun _ _ h => h) (fun a ha => ?_) (fun a ha => (lv a ha).1) rel6.env, rel6.nd, rel6.nr, rel6.len, rel6.il, rel6.pl, fun n cc z => ?_⟩
            · have : a ≠ D := fun w => by rw [w, nR6] at z; cases z
              rw [upd_ne this]; exact rel6.sub _ _ z
            · exact upd_ne fun w => nO6 (by rw [← w]; exact List.mem_append_left _ ha)
            · obtain ⟨a, z1, z2⟩ := rel6.sto n cc z
              exact ⟨a, z1, z2.mono (Same.refl _) (fun _ _ h => h) (upd_ne fun w => nO6 (by rw [← w]; exact List.mem_append_right _ (List.mem_of_getElem? z1)))⟩
          obtain ⟨O7, r7, hO7⟩ := keep.wipes vs
          rw [hw4'] at r7
          have frB : Fr false G1 H1 G6 H6 := frA.trans fr6
          have hDn : H1 D = none := hD
          refine ⟨⟨G6.R, G6.L, O7, G6.J⟩, wipeE s6 vs, done ++ [d6], us ++ [y], r7, ?_, sRA.trans fr6.r, fun n p z => fr6.l n p (pLA n p z), upd_same, ?_, nR6, fun z => nO6 (by
            rcases List.mem_append.mp z with z | z
            · exact List.mem_append_left _ (hO7 _ z)
            · exact List.mem_append_right _ z), by rw [List.length_append, List.length_singleton]; omega, ⟨more', el, by rw [eo, List.append_assoc]; rfl⟩, fun j hj => wipeE_none vs s6 j hj⟩
          · refine ⟨frB.r, frB.rn, frB.l, fun a ha => frB.o a (hO7 a ha), frB.lo, fun a u z w1 w2 => ?_, fun a z => ?_, frB.j⟩
            · have : a ≠ D := fun w => by rw [w, hDn] at z; cases z
              rw [upd_ne this]; exact frB.h a u z w1 w2
            · by_cases w : a = D
              · rw [w, upd_same]; simp
              · rw [upd_ne w]; exact frB.d a z
          · exact (Reps.mono fr6.r fr6.l _ _ hr5).append (.cons ry .nil)
      · have ei : i = ds.length := by omega
        subst ei
        rw [List.drop_length] at e2
        cases e2
        rw [List.append_nil] at eo
        subst eo
        refine .inl ⟨stop, ?_⟩
        have relE : Rel K G2 _ σ H2 := ⟨rel2.sub, rel2.env.unwipe hw, rel2.nd, rel2.nr, rel2.len, rel2.il, rel2.pl, rel2.sto⟩
        refine q G2 H2 relE (fr1.trans fr2) (.ref D) [D] (RepB.o (fp := []) hDs nR (RepBs.of_reps hr)) ?_ fun a ha => ?_
        · rw [List.singleton_append, List.nodup_cons]; exact ⟨nO, rel2.nd⟩
        · cases List.mem_singleton.mp ha
          exact fr1.back hD
  · cases eb
theorem b_lcW (hc : X.calm = true) (hN : X.N.Nodup) (hi : SIc X tg iter fi) (ok : BlkOk X.N X.env.scope scope own)
    (hg : ∀ (s : Shared) (H : Hp) (C : Addr) (cl : List (Str × Addr)) (fp : List Addr), SGw (X.blk s H scope (compEnvC scope cl C X.env) fp) (own.map (·.2)) tg h) (ht : ∀ (s : Shared) (H : Hp) (C : Addr) (cl : List (Str × Addr)) (fp : List Addr), STs (X.blk s H scope (compEnvC scope cl C X.env) fp) ifs c)
    (he : ∀ (s : Shared) (H : Hp) (C : Addr) (cl : List (Str × Addr)) (fp : List Addr), SE (X.blk s H scope (compEnvC scope cl C X.env) fp) elt e) (hs : ∀ x, foldedSetIterable iter X.env x = pure x := by intro _; rfl) :
    SB X (.ListComp elt [⟨tg, iter, ifs, 0⟩] scope pos) (bLc (own.map (·.2)) fi h c e) := pe_imp (pe_lc hc hN hi ok hg ht he hs) fun σ H Q q => rd_lcW σ H Q q
/-- name = [..] on one line -/
theorem ss_setLcW {i : Nat} {y : Str} {py : Pos} (hc : X.calm = true) (hN : X.N.Nodup) (hy : X.N[i]? = some y) (hyl : X.env.scope.names.lookup y = some .local)
    (hsw : swapsWith (.ListComp elt [⟨tg, iter, ifs, 0⟩] scope pos) (some (.Name y py)) spos.line X.env = pure true) (hi : SIc X tg iter fi) (ok : BlkOk X.N X.env.scope scope own)
    (hg : ∀ (s : Shared) (H : Hp) (C : Addr) (cl : List (Str × Addr)) (fp : List Addr), SGw (X.blk s H scope (compEnvC scope cl C X.env) fp) (own.map (·.2)) tg h) (ht : ∀ (s : Shared) (H : Hp) (C : Addr) (cl : List (Str × Addr)) (fp : List Addr), STs (X.blk s H scope (compEnvC scope cl C X.env) fp) ifs c)
    (he : ∀ (s : Shared) (H : Hp) (C : Addr) (cl : List (Str × Addr)) (fp : List Addr), SE (X.blk s H scope (compEnvC scope cl C X.env) fp) elt e) (hs : ∀ x, foldedSetIterable iter X.env x = pure x := by intro _; rfl) :
    SS X (.Assign [.Name y py] (.ListComp elt [⟨tg, iter, ifs, 0⟩] scope pos) spos) (sSetB i (bLc (own.map (·.2)) fi h c e)) :=
  ps_imp (ps_setLc hc hN hy hyl hsw hi ok hg ht he hs) fun D σ H ⟨G, s, rel, d, s1, e1, q⟩ => by
    obtain ⟨⟨d0, s0⟩, ea, eb⟩ := Option.bind_eq_some_iff.mp e1
    cases eb
    refine rd_lcW σ H _ ⟨G, s, rel, d0, s0, ea, fun G1 H1 rel1 fr1 v fp rv hn hg => ?_⟩
    obtain ⟨G', q'⟩ := set_end (i := i) (Q := fun o G' _ σ' H' => outOk X.K D G H o G' σ' H') rel1 rv hn fr1.weak hg ⟨_, _, rfl, q⟩
    exact q'
/-- .. kept as a value -/
theorem ss_setLcVW {i : Nat} {y : Str} {py : Pos} (hc : X.calm = true) (hN : X.N.Nodup) (hy : X.N[i]? = some y) (hyl : X.env.scope.names.lookup y = some .local)
    (hsw : swapsWith (.ListComp elt [⟨tg, iter, ifs, 0⟩] scope pos) (some (.Name y py)) spos.line X.env = pure true) (hi : SIc X tg iter fi) (ok : BlkOk X.N X.env.scope scope own)
    (hg : ∀ (s : Shared) (H : Hp) (C : Addr) (cl : List (Str × Addr)) (fp : List Addr), SGw (X.blk s H scope (compEnvC scope cl C X.env) fp) (own.map (·.2)) tg h) (ht : ∀ (s : Shared) (H : Hp) (C : Addr) (cl : List (Str × Addr)) (fp : List Addr), STs (X.blk s H scope (compEnvC scope cl C X.env) fp) ifs c)
    (he : ∀ (s : Shared) (H : Hp) (C : Addr) (cl : List (Str × Addr)) (fp : List Addr), SE (X.blk s H scope (compEnvC scope cl C X.env) fp) elt e) (hs : ∀ x, foldedSetIterable iter X.env x = pure x := by intro _; rfl) :
    SS X (.Assign [.Name y py] (.ListComp elt [⟨tg, iter, ifs, 0⟩] scope pos) spos) (sSet i (eFz (bLc (own.map (·.2)) fi h c e))) :=
  ps_imp (ps_setLc hc hN hy hyl hsw hi ok hg ht he hs) fun D σ H ⟨G, s, rel, d, s1, e1, q⟩ => by
    obtain ⟨⟨d0, s0⟩, ea, eb⟩ := Option.bind_eq_some_iff.mp e1
    cases eb
    obtain ⟨⟨b, s2⟩, ec, ed⟩ := Option.bind_eq_some_iff.mp ea
    cases ed
    refine rd_lcW σ H _ ⟨G, s, rel, b, _, ec, fun G1 H1 rel1 fr1 v fp hb hn hg => ?_⟩
    obtain ⟨r2, hv, sm⟩ := rel1.frzOut hb hn
    obtain ⟨G', q'⟩ := set_end (i := i) (Q := fun o G' _ σ' H' => outOk X.K D G H o G' σ' H') r2 (.v hv) (by rw [List.nil_append]; exact r2.nd) (fr1.frzOut sm hg).weak (fun _ h => by cases h) ⟨_, _, rfl, q⟩
    exact q'

theorem wkF_list {K : PySem.W.Frag} {G : Gh} {H : Hp} {a : Addr} {vs : List V} {xs : List D} (h : H a = some (.lst vs)) (hl : a ∉ G.L) (r : Reps K G.R G.I vs xs) : WkF K (Itl K a) G H xs := fun G2 H2 f s2 => by
  have hq : SqL K H2 a vs := .inl (.inl (f.h a _ h (fun z => by cases z) hl))
  refine ⟨⟨vs, hq, by rw [r.length]; exact Nat.le_refl _⟩, fun i d hd => ?_⟩
  obtain ⟨v, e, rv⟩ := r.get hd
  refine ⟨⟨vs, v, hq, e⟩, fun x H' ⟨e1, e2⟩ => ?_⟩
  have := e2 vs hq
  rw [e] at this
  cases this
  subst e1
  exact ⟨G2.R, Ext.refl s2, Rep.mono f.r f.l _ _ rv⟩
theorem i_look (i : Nat) {x : Str} {p : Pos} (hN : X.N[i]? = some x := by rfl) (hv : Vis X.env.scope x := by first | exact Or.inl rfl | exact Or.inr (Or.inl rfl) | exact Or.inr (Or.inr rfl)) (hd : (x == ("__debug__" : Str)) = false := by decide)
    (hcd : (x == ("__classdict__" : Str)) = false := by decide) : SIc X tg (.Name x p) (iW i) :=
  pi_imp (pi_or (pi_list (pe_var hN hv hd hcd)) (pi_or (pi_tup (pe_var hN hv hd hcd)) (pi_str (pe_var hN hv hd hcd)))) fun σ H Rr ⟨G, s, rel, ds, s', e, q⟩ => by
    unfold iW at e
    split at e
    · rename_i xs hx
      obtain ⟨ds', e1, e2⟩ := Option.map_eq_some_iff.mp e
      cases e2
      obtain ⟨v, f1, f2, f3, ev, e2, hb, k⟩ := rel.env.focus hx
      cases hb with
      | o h1 h2 h3 =>
        rename_i a vs fp
        refine .inl ⟨_, ev, _, rfl, ⟨vs, .inl (.inl h1)⟩, q G H rel (Fr.refl _ _ _) _ (wkF_list h1 (fun hl => ?_) (flatB_reps e1 h3))⟩
        exact nodup_ne rel.nd (by rw [e2]; simp) hl
    · rename_i d hx
      obtain ⟨ds', e1, e2⟩ := Option.map_eq_some_iff.mp e
      cases e2
      obtain ⟨v, f1, f2, f3, ev, e2, hb, k⟩ := rel.env.focus hx
      cases hb with
      | v hb =>
        cases d with
        | lst ys => cases e1; cases hb with | lst h r => exact .inl ⟨_, ev, _, rfl, ⟨_, rd_seq h rel.sub⟩, q G H rel (Fr.refl _ _ _) _ (wkF_of (wk_list h r))⟩
        | scr ns => cases e1; cases hb with | scr h => exact .inl ⟨_, ev, _, rfl, ⟨_, rel.sub.seq h⟩, q G H rel (Fr.refl _ _ _) _ (wkF_of (wk_scr h))⟩
        | tup ys => cases e1; cases hb with | tup h r => exact .inr (.inl ⟨_, ev, _, rfl, ⟨_, sqT_mono rel.sub h⟩, q G H rel (Fr.refl _ _ _) _ (wkF_of (wk_tup h r))⟩)
        | str x => cases e1; cases hb with | str => exact .inr (.inr ⟨_, ev, _, rfl, q G H rel (Fr.refl _ _ _) _ (wkF_of wk_str)⟩)
        | _ => cases e1
    · cases e
end
section
variable {s : Sta} {d : D} {i : Nat}
def iWk : Option (Option B) → Sta → Option (List D × Sta)
  | some (some (.o xs)), s => (flatB xs).map fun ds => (ds, s)
  | some (some (.v d)), s => (items d).map fun ds => (ds, s)
  | _, _ => none
theorem iW_e : iW i s = iWk s.env[i]? s := by
  unfold iW iWk
  rcases s.env[i]? with _ | _ | _ | _ <;> rfl
theorem flatB_map : ∀ (xs : List D), flatB (xs.map B.v) = some xs
  | [] => rfl
  | x :: xs => by rw [List.map_cons, flatB, flatB_map xs]; rfl
theorem flatB_g {α : Type} (g : α → D) (xs : List α) : flatB (xs.map fun x => B.v (g x)) = some (xs.map g) := by
  have := flatB_map (xs.map g)
  rw [List.map_map] at this
  exact this
theorem iWk_g {α : Type} {g : α → D} {xs : List α} : iWk (some (some (.o (xs.map fun x => B.v (g x))))) s = some (xs.map g, s) := by
  show (flatB _).map _ = _
  rw [flatB_g]; rfl
theorem iWk_l {xs : List D} : iWk (some (some (.v (.lst xs)))) s = some (xs, s) := rfl
theorem iWk_t {xs : List D} : iWk (some (some (.v (.tup xs)))) s = some (xs, s) := rfl
end
end Ev

namespace Ev
open PySem L2

/-! ## further changes of lists of one's own -/
section
variable {X : Cx} {e o b : Expr} {f : EvP} {g : EvE} {gb : EvB} {pos apos cpos : Pos} {i : Nat}
theorem m_popAt (ho : SP X i o f) (he : SE X e g) (hbase : attributeBase o "pop" X.env (eval o X.env) = eval o X.env := by rfl)
    (hfew : ((backTo cpos (starEach [e] X.env)).all (fun x => !x.1) && (backToKw cpos (keywordEach [] X.env)).all (fun x => x.1.isSome) && decide ([e].length + ([] : List Keyword).length + (if ([] : List Keyword).isEmpty then 0 else 1) < 30)) = true := by rfl)
    (hline : (apos.endLine == cpos.line) = true := by rfl) (hs : starEach [e] X.env = (false, eval e X.env) :: starEach [] X.env := by rfl) (hplain : (backTo cpos (starEach [] X.env)).any (·.1) = false := by rfl) :
    SM X (.Call (.Attribute o "pop" apos) [e] [] cpos) (mPopAt i f g) :=
  pe_imp (pe_bm PySem.F.plainAttrs_list PySem.F.slot_list_pop PySem.F.type_list_pop mt_popAt ho (a_cons he a_nil hs) hbase hfew hline hs hplain) fun σ H Q ⟨G, s, d9, s9, rel, e0, q⟩ => by
    obtain ⟨⟨p, s1⟩, ea, eb⟩ := Option.bind_eq_some_iff.mp e0
    obtain ⟨xs1, ec, ed⟩ := Option.bind_eq_some_iff.mp eb
    obtain ⟨⟨d, s2⟩, ee, ef⟩ := Option.bind_eq_some_iff.mp ed
    obtain ⟨xs2, eg, eh⟩ := Option.bind_eq_some_iff.mp ef
    cases d with
    | int k =>
      have eh : (if k.natAbs < 2 ^ 62 then (seqIndex? k xs2.length).bind fun j => match xs2[j]? with
        | some (.v d) => some (d, mutS i p (xs2.eraseIdx j) s2)
        | _ => none
        else none) = some (d9, s9) := eh
      split at eh
      · rename_i hz
        obtain ⟨j, ej, ek⟩ := Option.bind_eq_some_iff.mp eh
        split at ek
        · rename_i d hd
          cases ek
          refine ⟨G, s, rel, p, s1, ea, fun G1 H1 rel1 fr1 v0 a e1 hp hO ⟨us, hus⟩ => ⟨.inl ⟨rfl, us, SqL.of hus⟩, G1, s1, rel1, [.int k], s2, ?_, fun G2 H2 rel2 fr2 vs rv => ?_⟩⟩
          · show ((g s1).bind fun p => (aNil p.2).bind fun q => some (p.1 :: q.1, q.2)) = _
            rw [ee]; rfl
          · cases rv with
            | @cons v _ _ _ rv rn =>
              cases rn
              cases rv
              obtain ⟨ws, fp0, z1, z2, z3, z4, z5, z6, z7⟩ := rel1.mutAt ec e1 hp fr2 rel2 eg
              have hlen := RepBs.length z3
              obtain ⟨v, f1, f2, f3, q1, q2, q3, _⟩ := RepBs.focus z3 hd
              cases q3 with
              | v q3 =>
                obtain ⟨fp', hr, hc⟩ := RepBs.erase j (z3.at_upd (o := .lst (ws.eraseIdx j)) z5)
                obtain ⟨O', r', hO'⟩ := z7 _ _ _ [] hr (fun x => by have := hc x; simp; omega) (by rw [List.nil_append]; exact rel2.nd)
                exact ⟨a, ws, k, j, v, rfl, rfl, z1, by omega, by omega, by rw [hlen]; exact ej, q1, q _ _ r' ((fr1.trans fr2).weak.mut z4 hO' fun _ h => by cases h) _ q3⟩
        · cases ek
      · cases eh
    | _ => cases eh
/-- .. a thing that is told by a change put behind -/
def mAppM (i : Nat) (fe : EvE) : EvE := fun s => (own? i [] s).bind fun _ => (fe s).bind fun q => (own? i [] q.2).bind fun xs => if xs.length < sizeLine then some (.non, mutS i [] (xs ++ [.v q.1]) q.2) else none
theorem pN_inv {s s1 : Sta} {p : List Nat} (h : pN i s = some (p, s1)) : p = [] ∧ s1 = s ∧ ∃ xs, own? i [] s = some xs := by
  obtain ⟨xs, ea, eb⟩ := Option.bind_eq_some_iff.mp h
  cases eb
  exact ⟨rfl, rfl, xs, ea⟩
theorem m_appM (ho : SP X i o (pN i)) (he : SM X e g) (hbase : attributeBase o "append" X.env (eval o X.env) = eval o X.env := by rfl)
    (hfew : ((backTo cpos (starEach [e] X.env)).all (fun x => !x.1) && (backToKw cpos (keywordEach [] X.env)).all (fun x => x.1.isSome) && decide ([e].length + ([] : List Keyword).length + (if ([] : List Keyword).isEmpty then 0 else 1) < 30)) = true := by rfl)
    (hline : (apos.endLine == cpos.line) = true := by rfl) (hs : starEach [e] X.env = (false, eval e X.env) :: starEach [] X.env := by rfl) (hplain : (backTo cpos (starEach [] X.env)).any (·.1) = false := by rfl) :
    SM X (.Call (.Attribute o "append" apos) [e] [] cpos) (mAppM i g) :=
  pe_imp (pe_bm PySem.F.plainAttrs_list PySem.F.slot_list_append PySem.F.type_list_append mt_append ho (pa_cons he pa_nil hs) hbase hfew hline hs hplain) fun σ H Q ⟨G, s, d9, s9, rel, e0, q⟩ => by
    obtain ⟨xs1, ec, ed⟩ := Option.bind_eq_some_iff.mp e0
    obtain ⟨⟨d, s2⟩, ee, ef⟩ := Option.bind_eq_some_iff.mp ed
    obtain ⟨xs2, eg, eh⟩ := Option.bind_eq_some_iff.mp ef
    have ea : pN i s = some ([], s) := by unfold pN; rw [ec]; rfl
    split at eh
    · rename_i hz
      cases eh
      refine ⟨G, s, rel, [], s, ea, fun G1 H1 rel1 fr1 v0 a e1 hp hO ⟨us, hus⟩ => ⟨.inl ⟨rfl, us, SqL.of hus⟩, G1, s, d, s2, rel1, ee, fun G2 H2 rel2 fr2 v rv => ?_⟩⟩
      have hp2 : PathV H2 [] v0 (.ref a) := hp
      obtain ⟨ws, fp0, z1, z2, z3, z4, z5, z6, z7⟩ := rel2.mutAt eg e1 hp2 (Fr.refl _ _ _) rel2 eg
      have hr : RepBs X.K G2.R G2.I (upd H2 a (.lst (ws ++ [v]))) (ws ++ [v]) (xs2 ++ [.v d]) (fp0 ++ ([] ++ [])) := (z3.at_upd z5).append (.cons (.v rv) .nil)
      obtain ⟨O', r', hO'⟩ := z7 _ _ _ [] hr (fun x => by simp) (by rw [List.nil_append]; exact rel2.nd)
      have hw : ws.length < sizeLine := by rw [RepBs.length z3]; exact hz
      exact ⟨a, ws, _, rfl, rfl, z1, hw, q _ _ r' ((fr1.weak.trans fr2).mut z4 hO' fun _ h => by cases h) _ .non⟩
    · cases eh
end
section
variable {s : Sta} {d : D} {i k : Nat} {fp : EvP} {f : EvE}
def popAtK (i : Nat) (p : List Nat) (xs : List B) (s : Sta) : D → Option (D × Sta)
  | .int k => if k.natAbs < 2 ^ 62 then (seqIndex? k xs.length).bind fun j => match xs[j]? with
    | some (.v d) => some (d, mutS i p (xs.eraseIdx j) s)
    | _ => none
    else none
  | _ => none
theorem mPopAt_e : mPopAt i fp f s = @bnd _ _ (fp s) ⟨fun p => @bnd _ _ (own? i p.1 p.2) ⟨fun _ => @bnd _ _ (f p.2) ⟨fun q => @bnd _ _ (own? i p.1 q.2) ⟨fun xs => popAtK i p.1 xs q.2 q.1⟩⟩⟩⟩ := by
  unfold mPopAt bnd
  cases fp s with
  | none => rfl
  | some p =>
    show (own? i p.1 p.2).bind _ = (own? i p.1 p.2).bind _
    cases own? i p.1 p.2 with
    | none => rfl
    | some ys =>
      show (f p.2).bind _ = (f p.2).bind _
      cases f p.2 with
      | none => rfl
      | some q =>
        show (own? i p.1 q.2).bind _ = (own? i p.1 q.2).bind _
        cases own? i p.1 q.2 with
        | none => rfl
        | some xs => obtain ⟨d, s⟩ := q; cases d <;> rfl
theorem mAppM_e : mAppM i f s = @bnd _ _ (own? i [] s) ⟨fun _ => @bnd _ _ (f s) ⟨fun q => @bnd _ _ (own? i [] q.2) ⟨fun xs => if xs.length < sizeLine then some (.non, mutS i [] (xs ++ [.v q.1]) q.2) else none⟩⟩⟩ := rfl
theorem er_map {α β : Type} {g : α → β} : ∀ (xs : List α) (k : Nat), (xs.map g).eraseIdx k = (xs.eraseIdx k).map g
  | [], _ => rfl
  | _ :: _, 0 => rfl
  | x :: xs, k + 1 => by rw [List.map_cons, List.eraseIdx_cons_succ, List.eraseIdx_cons_succ, List.map_cons, er_map xs k]
theorem popAtK_g {α : Type} {g : α → D} {p : List Nat} {xs : List α} {j : Int} (h : 0 ≤ j ∧ j < xs.length) (h2 : j < 10 ^ 15) : popAtK i p (xs.map fun x => B.v (g x)) s (.int j) = some (g (xs[j.toNat]'(by omega)), mutS i p ((xs.eraseIdx j.toNat).map fun x => B.v (g x)) s) := by
  have e1 : seqIndex? j (xs.map fun x => B.v (g x)).length = some j.toNat := by
    unfold seqIndex?
    rw [List.length_map]
    have h1 : ¬ j < 0 := by omega
    simp [h1, h.1, h.2]
  have e2 : (xs.map fun x => B.v (g x))[j.toNat]? = some (.v (g (xs[j.toNat]'(by omega)))) := by
    rw [List.getElem?_map, List.getElem?_eq_getElem (by omega)]; rfl
  show (if j.natAbs < 2 ^ 62 then _ else _) = _
  rw [if_pos (by omega), e1]
  show (match (xs.map fun x => B.v (g x))[j.toNat]? with
    | some (.v d) => some (d, mutS i p ((xs.map fun x => B.v (g x)).eraseIdx j.toNat) s)
    | _ => none) = _
  rw [e2, er_map]
end
/-! ### a row in any order -/
theorem er_perm {α : Type} : ∀ (xs : List α) (k : Nat) (h : k < xs.length), (xs[k] :: xs.eraseIdx k).Perm xs
  | x :: xs, 0, _ => List.Perm.refl _
  | x :: xs, k + 1, h => by
    rw [List.getElem_cons_succ, List.eraseIdx_cons_succ]
    exact (List.Perm.swap _ _ _).trans ((er_perm xs k (by simpa using h)).cons x)
def l1_law_mixed : EvS := (sExp (mAppM 3 (mPopAt 2 (pN 2) (e2 dMod (eL bInt (aCons (eFz (bCall (F_law_draw) (aCons (eV 0) (aCons (eC (.int 1000)) aNil)))) aNil)) (eP (eL bLen (aCons (eW 2) aNil)))))))
def b_law_mixed : EvS := (sSeq (sSetB 2 (bL bList (aCons (eV 1) aNil))) (sSeq (sSetB 3 (bLst aNil)) (sSeq (sFor (iA dRange1 (aCons (eL bLen (aCons (eV 1) aNil)) aNil)) (gN 4) l1_law_mixed) (sRet (eV 3)))))
def F_law_mixed : Fn := fnF 2 5 (b_law_mixed)
theorem q_law_mixed {pu : Bool} {S : Sto} {d0 d1 : D} : F_law_mixed pu [d0, d1] S = @bnd _ _ (b_law_mixed ⟨[some (.v d0), some (.v d1), none, none, none], S, pu⟩) ⟨finK⟩ := fnF_q rfl
theorem plain_i {i : Int} : (D.int i).plain = true := rfl
theorem mixed_loop {α : Type} {g : α → D} {ds : List Int} {x1 : Option B} : ∀ (ts : List D) (ls fs : List α) (p : Nat) (x4 : Option B), ls.length = ts.length → p + ts.length ≤ 10 ^ 12 → fs.length + ts.length < 10 ^ 6 →
    ∃ (fs' : List α) (y4 : Option B), forL (gN 4) l1_law_mixed ts ⟨[some (.v (.obj 0)), x1, some (.o (ls.map fun x => B.v (g x))), some (.o (fs.map fun x => B.v (g x))), x4], bx ds p, false⟩ = some (.nx, ⟨[some (.v (.obj 0)), x1, some (.o []), some (.o (fs'.map fun x => B.v (g x))), y4], bx ds (p + ts.length), false⟩) ∧ fs'.Perm (fs ++ ls)
  | [], ls, fs, p, x4, hl, _, _ => by
    have : ls = [] := List.length_eq_zero_iff.mp hl
    subst this
    exact ⟨fs, x4, rfl, by rw [List.append_nil]⟩
  | t :: ts, ls, fs, p, x4, hl, hp, hf => by
    rw [List.length_cons] at hl hp hf
    have h0 : (0 : Int) < (ls.length : Int) := by omega
    have h1 := Int.emod_nonneg (rv ds p 1000) (show (ls.length : Int) ≠ 0 by omega)
    have h2 := Int.emod_lt_of_pos (rv ds p 1000) h0
    obtain ⟨k, hk⟩ : ∃ k, k = rv ds p 1000 % (ls.length : Int) := ⟨_, rfl⟩
    rw [← hk] at h1 h2
    have hkl : k.toNat < ls.length := by omega
    obtain ⟨fs', y4, ih, hp2⟩ := mixed_loop (g := g) (ds := ds) (x1 := x1) ts (ls.eraseIdx k.toNat) (fs ++ [ls[k.toNat]]) (p + 1) (some (.v t)) (by rw [List.length_eraseIdx, if_pos hkl]; omega) (by omega) (by rw [List.length_append, List.length_singleton]; omega)
    refine ⟨fs', y4, ?_, ?_⟩
    · rw [show p + (t :: ts).length = p + 1 + ts.length by rw [List.length_cons]; omega]
      have c5 : fs.length < sizeLine := lt_line (by omega)
      have pk := popAtK_g (i := 2) (p := []) (g := g) (xs := ls) (s := ⟨[some (.v (.obj 0)), x1, some (.o (ls.map fun x => B.v (g x))), some (.o (fs.map fun x => B.v (g x))), some (.v t)], bx ds (p + 1), false⟩) ⟨h1, h2⟩ (by omega)
      have fz : B.frzs (ls.map fun x => B.v (g x)) = ls.map g := frzs_map _ _
      have sn : (fs.map fun x => B.v (g x)) ++ [B.v (g ls[k.toNat])] = (fs ++ [ls[k.toNat]]).map fun x => B.v (g x) := by rw [List.map_append]; rfl
      rw [forL_cons]
      simp -implicitDefEqProofs (maxSteps := 1000000) (disch := omega) only [↓bnd_some, bnd_some, eV_q, eVk_v, eVk_o, eW_q, eWk_b, frz_v, frz_o, frzs_nil, frzs_cons, ↓eC_q, ↓e1_q, ↓e2_q, ↓e3_q, e3k_b, ↓eT_q, ↓eTb_q, ↓eTbk_b, eTbk_b, ↓wAnd_q, ↓wOr_q, ↓wNot_q, ↓eAnd_q, ↓eOr_q, ↓eNot_q, ↓eIf_q, ↓eP_q, ↓aNil_q, ↓aCons_q, ↓eL_q, ↓eFz_q, ↓bLst_q, ↓bL_q, ↓b2_q, ↓bCall_q, ↓bPure_q, ↓pV_q, ↓sSeq_q, ↓seqK_nx, seqK_nx, ↓seqK_rt, seqK_rt, ↓seqK_bk, seqK_bk, ↓seqK_ct, seqK_ct, ↓sIf_q, ↓sNil_q, ↓sBk_q, ↓sCt_q, ↓sRet_q, ↓sRetB_q, ↓sRetN_q, ↓sRetV_q, rvK_b, ↓sExp_q, ↓sSet_q, ↓sSetB_q, put_q, ↓sAug_q, augK_v, ↓finK_rt, finK_rt, ↓finK_nx, finK_nx, ↓gN_q, ↓gsNil_q, ↓gsCons_q, ↓gT_q, ↓sAsg_q, ↓iV_q, ↓iA_q, items_lst, items_tup, ↓sFor_q, forL_nil, ↓forK_nx, forK_nx, ↓forK_ct, forK_ct, ↓forK_bk, forK_bk, ↓forK_rt, forK_rt, ↓whK_nx, whK_nx, ↓whK_ct, whK_ct, ↓whK_bk, whK_bk, ↓whK_rt, whK_rt, ↓bLc_q, ↓tYes_q, wipeE_nil, wipeE_cons, ↓pN_q, own_q, ownK_o, mutS_q, mutK_o, ↓mApp_q, ↓mAppB_q, ↓mPop_q, popK_v, ↓sSetIx_q, setK_i, ↓eObj_q, ↓eIxS_q, ↓sSetO_q, dAdd_i, dSub_i, dNeg_i, dLt_i, dLe_i, dGt_i, dGe_i, dEq_i, dNe_i, dTru_b, dTru_i, dTru_l, dTru_t, bAbs_i, bInt_i, bLen_l, bLen_t, bLen_s, dIx_l, dIx_t, bMaxD_2, bMinD_2, ↓dTup_q, ↓eCut_q, ↓oNone_q, ↓oSome_q, ↓oSk_i, oSk_i, List.getElem?_cons_zero, List.getElem?_cons_succ, List.set_cons_zero, List.set_cons_succ, if_true, if_false, Bool.false_eq_true, decide_eq_true_eq, decide_eq_false_iff_not, Bool.not_true, Bool.not_false, List.length_cons, List.length_nil, List.map_cons, List.map_nil, dMul_i, dFdiv_i, dMod_i, List.nil_append, Nat.zero_add, Nat.reduceAdd, Nat.reduceLeDiff, Nat.reduceLT, Nat.reduceEqDiff, le_refl_line, and_self, true_and, and_true, bnd_none, Bool.not_eq_true, eq_self, reduceCtorEq, decide_true, decide_false, B.frzs_v, Nat.add_assoc, draw_ok, ix0, ix1, Int.cast_ofNat_Int, Int.natCast_zero, Int.natCast_one, l1_law_mixed, mAppM_e, mPopAt_e, fz, List.length_map, h0, plain_i, ← hk, pk, c5, sn]
      rw [Nat.add_assoc] at ih
      exact ih
    · refine hp2.trans ?_
      rw [List.append_assoc]
      refine List.Perm.append_left fs ?_
      rw [List.singleton_append]
      exact er_perm ls k.toNat hkl
/-- the same things in some order -/
theorem mixed_ok {α : Type} {g : α → D} {ds : List Int} {p : Nat} {xs : List α} (hl : xs.length < 10 ^ 5) (hp : p ≤ 10 ^ 10) : ∃ ys : List α, F_law_mixed false [.obj 0, .lst (xs.map g)] (bx ds p) = some (.v (.lst (ys.map g)), bx ds (p + xs.length)) ∧ ys.Perm xs := by
  obtain ⟨ys, y4, e, h⟩ := mixed_loop (g := g) (ds := ds) (x1 := some (.v (.lst (xs.map g)))) ((seg 0 xs.length).map D.int) xs [] p none (by rw [List.length_map, seg_len]; omega) (by rw [List.length_map, seg_len]; omega) (by rw [List.length_map, seg_len]; simp; omega)
  rw [List.nil_append] at h
  rw [List.length_map, seg_len, show ((xs.length : Int) - 0).toNat = xs.length by omega] at e
  refine ⟨ys, ?_, h⟩
  have mm : (xs.map g).map B.v = xs.map fun x => B.v (g x) := by rw [List.map_map]; rfl
  have fz : B.frzs (ys.map fun x => B.v (g x)) = ys.map g := frzs_map _ _
  rw [List.map_nil] at e
  rw [q_law_mixed, b_law_mixed]
  simp -implicitDefEqProofs (maxSteps := 1000000) (disch := omega) only [↓bnd_some, bnd_some, eV_q, eVk_v, eVk_o, eW_q, eWk_b, frz_v, frz_o, frzs_nil, frzs_cons, ↓eC_q, ↓e1_q, ↓e2_q, ↓e3_q, e3k_b, ↓eT_q, ↓eTb_q, ↓eTbk_b, eTbk_b, ↓wAnd_q, ↓wOr_q, ↓wNot_q, ↓eAnd_q, ↓eOr_q, ↓eNot_q, ↓eIf_q, ↓eP_q, ↓aNil_q, ↓aCons_q, ↓eL_q, ↓eFz_q, ↓bLst_q, ↓bL_q, ↓b2_q, ↓bCall_q, ↓bPure_q, ↓pV_q, ↓sSeq_q, ↓seqK_nx, seqK_nx, ↓seqK_rt, seqK_rt, ↓seqK_bk, seqK_bk, ↓seqK_ct, seqK_ct, ↓sIf_q, ↓sNil_q, ↓sBk_q, ↓sCt_q, ↓sRet_q, ↓sRetB_q, ↓sRetN_q, ↓sRetV_q, rvK_b, ↓sExp_q, ↓sSet_q, ↓sSetB_q, put_q, ↓sAug_q, augK_v, ↓finK_rt, finK_rt, ↓finK_nx, finK_nx, ↓gN_q, ↓gsNil_q, ↓gsCons_q, ↓gT_q, ↓sAsg_q, ↓iV_q, ↓iA_q, items_lst, items_tup, ↓sFor_q, forL_nil, ↓forK_nx, forK_nx, ↓forK_ct, forK_ct, ↓forK_bk, forK_bk, ↓forK_rt, forK_rt, ↓whK_nx, whK_nx, ↓whK_ct, whK_ct, ↓whK_bk, whK_bk, ↓whK_rt, whK_rt, ↓bLc_q, ↓tYes_q, wipeE_nil, wipeE_cons, ↓pN_q, own_q, ownK_o, mutS_q, mutK_o, ↓mApp_q, ↓mAppB_q, ↓mPop_q, popK_v, ↓sSetIx_q, setK_i, ↓eObj_q, ↓eIxS_q, ↓sSetO_q, dAdd_i, dSub_i, dNeg_i, dLt_i, dLe_i, dGt_i, dGe_i, dEq_i, dNe_i, dTru_b, dTru_i, dTru_l, dTru_t, bAbs_i, bInt_i, bLen_l, bLen_t, bLen_s, dIx_l, dIx_t, bMaxD_2, bMinD_2, ↓dTup_q, ↓eCut_q, ↓oNone_q, ↓oSome_q, ↓oSk_i, oSk_i, List.getElem?_cons_zero, List.getElem?_cons_succ, List.set_cons_zero, List.set_cons_succ, if_true, if_false, Bool.false_eq_true, decide_eq_true_eq, decide_eq_false_iff_not, Bool.not_true, Bool.not_false, List.length_cons, List.length_nil, List.map_cons, List.map_nil, dMul_i, dFdiv_i, dMod_i, List.nil_append, Nat.zero_add, Nat.reduceAdd, Nat.reduceLeDiff, Nat.reduceLT, Nat.reduceEqDiff, le_refl_line, and_self, true_and, and_true, bnd_none, Bool.not_eq_true, eq_self, reduceCtorEq, decide_true, decide_false, B.frzs_v, Nat.add_assoc, draw_ok, ix0, ix1, Int.cast_ofNat_Int, Int.natCast_zero, Int.natCast_one, bList_l, mm, List.length_map, rng1', e, fz]
theorem dEnum_g {α : Type} {g : α → D} {xs : List α} : dEnum [.lst (xs.map g)] = some ((xs.zipIdx 0).map fun x => D.tup [.int (x.2 : Int), g x.1]) := by
  show some (pairUp _ _) = _
  congr 1
  unfold pairUp
  refine List.ext_getElem (by simp) fun k h1 h2 => ?_
  simp
end Ev

namespace Ev
open PySem L2
/-- a row of which some are drawn -/
theorem lcL_drawF {α : Type} {own : List Nat} {h : EvG} {c : EvT} {e : EvE} {env : List (Option B)} {ds : List Int} {g : α → D} (v : α → D) (k N : Nat) : ∀ (xs : List α) (p : Nat), p + k * xs.length ≤ N →
    (∀ x ∈ xs, ∀ p, p ≤ N → ∃ (b : Bool) (q : Nat), lcS own h c e (g x) ⟨env, bx ds p, false⟩ = some (if b = true then some (v x) else none, ⟨env, bx ds q, false⟩) ∧ q ≤ p + k) →
    ∃ (ys : List α) (q : Nat), lcL own h c e (xs.map g) ⟨env, bx ds p, false⟩ = some (ys.map v, ⟨env, bx ds q, false⟩) ∧ ys.Sublist xs ∧ q ≤ p + k * xs.length
  | [], p, _, _ => ⟨[], p, rfl, List.Sublist.refl _, by simp⟩
  | x :: xs, p, hp, H => by
    rw [List.length_cons, Nat.mul_succ] at hp
    obtain ⟨b, q1, e1, hq⟩ := H x (List.mem_cons_self ..) p (by omega)
    obtain ⟨ys, q, e2, hs, hq2⟩ := lcL_drawF v k N xs q1 (by omega) fun y hy => H y (List.mem_cons_of_mem _ hy)
    unfold lcS at e1
    obtain ⟨s1, f1, f2⟩ := bnd_inv e1
    obtain ⟨⟨t, s3⟩, f3, f4⟩ := bnd_inv f2
    rw [List.map_cons, lcL, f1]
    show ∃ ys q, ((c s1).bind _) = _ ∧ _
    rw [f3]
    cases t with
    | true =>
      obtain ⟨⟨d, s4⟩, f5, f6⟩ := bnd_inv (show @bnd _ _ (e s3) ⟨fun q => some (some q.1, wipeE q.2 own)⟩ = _ from f4)
      have f7 := Option.some.inj f6
      injection f7 with f8 f9
      cases b with
      | false => cases f8
      | true =>
        rw [if_pos rfl] at f8
        injection f8 with f8
        refine ⟨x :: ys, q, ?_, hs.cons_cons x, by rw [List.length_cons, Nat.mul_succ]; omega⟩
        show ((e s3).bind _) = _
        rw [f5]
        show ((lcL own h c e (xs.map g) (wipeE s4 own)).bind _) = _
        rw [show wipeE s4 own = _ from f9, e2]
        show some (d :: _, _) = _
        rw [show d = v x from f8]; rfl
    | false =>
      have f7 := Option.some.inj f4
      injection f7 with f8 f9
      cases b with
      | true => cases f8
      | false =>
        refine ⟨ys, q, ?_, hs.cons x, by rw [List.length_cons, Nat.mul_succ]; omega⟩
        show lcL own h c e (xs.map g) (wipeE s3 own) = _
        rw [show wipeE s3 own = _ from f9, e2]
/-! ### an item read of a list of one's own, which stays one's own -/
def eIxP (i : Nat) (f : EvP) (g : EvE) : EvE := fun s => (f s).bind fun p => (own? i p.1 p.2).bind fun _ => (g p.2).bind fun q => (own? i p.1 q.2).bind fun xs => match q.1 with
  | .int k => (ixN xs.length k).bind fun j => match xs[j]? with
    | some (.v d) => some (d, q.2)
    | _ => none
  | _ => none
section
variable {X : Cx} {e b : Expr} {f : EvP} {g : EvE} {pos : Pos} {i : Nat}
theorem s_ixP (ha : SP X i e f) (hb : SE X b g) (hs : PlainIx b := by exact fun _ _ => rfl) : SE X (.Subscript e b pos) (eIxP i f g) :=
  pe_imp (pe_ix ix_list ha hb hs) fun σ H Q ⟨G, s, rel, d9, s9, e0, q⟩ => by
    obtain ⟨⟨p, s1⟩, ea, eb⟩ := Option.bind_eq_some_iff.mp e0
    obtain ⟨xs1, ec, ed⟩ := Option.bind_eq_some_iff.mp eb
    obtain ⟨⟨d, s2⟩, ee, ef⟩ := Option.bind_eq_some_iff.mp ed
    obtain ⟨xs2, eg, eh⟩ := Option.bind_eq_some_iff.mp ef
    cases d with
    | int k =>
      obtain ⟨j, ei, ej⟩ := Option.bind_eq_some_iff.mp (show (ixN xs2.length k).bind (fun j => match xs2[j]? with
        | some (.v d) => some (d, s2)
        | _ => none) = some (d9, s9) from eh)
      split at ej
      · rename_i d hd
        cases ej
        refine ⟨G, s, rel, p, s1, ea, fun G1 H1 rel1 fr1 v0 a e1 hp hO ⟨us, hus⟩ => ?_⟩
        refine ⟨G1, s1, rel1, _, _, ee, fun G2 H2 rel2 fr2 v rv => ?_⟩
        cases rv
        obtain ⟨b2, hb2, hg2⟩ := own_inv eg
        obtain ⟨v0', a', vs, fp0, z1, z2, z3, z4, z5, z6, z7, z8, _⟩ := rel2.mut hb2 hg2
        rw [e1] at z1; cases z1
        have keep : ∀ c u, H1 c = some u → c ∉ G1.L → H2 c = some u := fun c u h1 h2 => fr2.h c u h1 (fun z => by cases z) h2
        obtain ⟨b1, hb1, hg1⟩ := own_inv ec
        obtain ⟨w0, a1, us1, fp1, y1, y2, y3, y4, y5, y6, y7, y8, _⟩ := rel1.mut hb1 hg1
        rw [e1] at y1; cases y1
        have pa1 : PathV H1 p v0 (.ref a1) := y2 H1 fun _ _ _ => rfl
        have ea1 : V.ref a = V.ref a1 := hp.inj pa1
        cases ea1
        have oL : ∀ c ∈ G1.O, c ∉ G1.L := fun c h1 h2 => nodup_ne rel1.nd h1 h2
        have pa2 : PathV H2 p v0 (.ref a) := y2 H2 fun c h1 _ => by
          obtain ⟨_, ws, hw⟩ := rel1.env.live c h1
          rw [hw]; exact keep c _ hw (oL c h1)
        have pa3 : PathV H2 p v0 (.ref a') := z2 H2 fun _ _ _ => rfl
        have ea2 : V.ref a = V.ref a' := pa2.inj pa3
        cases ea2
        obtain ⟨u, f1, f2, f3, q1, q2, q3, q4⟩ := RepBs.focus z5 hd
        cases q3 with
        | v q3 =>
          have hlen := RepBs.length z5
          refine ⟨a, vs, k, u, rfl, rfl, SqL.of z3, ?_, q G2 H2 rel2 (fr1.trans fr2) u q3⟩
          unfold atI
          rw [hlen, ei]
          exact q1
      · cases ej
    | _ => cases eh
def eIxN (i : Nat) (g : EvE) : EvE := fun s => match s.env[i]? with
  | some (some (.v _)) => e2 dIx (eV i) g s
  | some (some (.o _)) => eIxP i (pN i) g s
  | _ => none
theorem s_ixN {e : Expr} (h1 : SE X e (e2 dIx (eV i) g)) (h2 : SE X e (eIxP i (pN i) g)) : SE X e (eIxN i g) := ⟨fun pins s σ H Q I ⟨G, s, rel, d, s', e, q⟩ => by
  unfold eIxN at e
  split at e
  · exact h1.run pins _ σ H Q I ⟨G, s, rel, d, s', e, q⟩
  · exact h2.run pins _ σ H Q I ⟨G, s, rel, d, s', e, q⟩
  · cases e⟩
end
section
variable {s : Sta} {d : D} {i : Nat} {fp : EvP} {g : EvE} {xs : List B}
def ixNk : Option (Option B) → Nat → EvE → Sta → Option (D × Sta)
  | some (some (.v _)), i, g, s => e2 dIx (eV i) g s
  | some (some (.o _)), i, g, s => eIxP i (pN i) g s
  | _, _, _, _ => none
theorem eIxN_e : eIxN i g s = ixNk s.env[i]? i g s := by
  unfold eIxN ixNk
  rcases s.env[i]? with _ | _ | _ | _ <;> rfl
theorem ixNk_v : ixNk (some (some (.v d))) i g s = e2 dIx (eV i) g s := rfl
theorem ixNk_o : ixNk (some (some (.o xs))) i g s = eIxP i (pN i) g s := rfl
def ixPk (xs : List B) (s : Sta) : D → Option (D × Sta)
  | .int k => (ixN xs.length k).bind fun j => match xs[j]? with
    | some (.v d) => some (d, s)
    | _ => none
  | _ => none
theorem eIxP_e : eIxP i fp g s = @bnd _ _ (fp s) ⟨fun p => @bnd _ _ (own? i p.1 p.2) ⟨fun _ => @bnd _ _ (g p.2) ⟨fun q => @bnd _ _ (own? i p.1 q.2) ⟨fun xs => ixPk xs q.2 q.1⟩⟩⟩⟩ := by
  unfold eIxP bnd
  cases fp s with
  | none => rfl
  | some p =>
    show (own? i p.1 p.2).bind _ = (own? i p.1 p.2).bind _
    cases own? i p.1 p.2 with
    | none => rfl
    | some ys =>
      show (g p.2).bind _ = (g p.2).bind _
      cases g p.2 with
      | none => rfl
      | some q =>
        show (own? i p.1 q.2).bind _ = (own? i p.1 q.2).bind _
        cases own? i p.1 q.2 with
        | none => rfl
        | some xs => obtain ⟨d, s⟩ := q; cases d <;> rfl
theorem ixPk_g {α : Type} {g : α → D} {xs : List α} {k : Int} {x : α} (h : atI xs k = some x) : ixPk (xs.map fun x => B.v (g x)) s (.int k) = some (g x, s) := by
  obtain ⟨j, e1, e2⟩ := Option.bind_eq_some_iff.mp h
  show (ixN (xs.map fun x => B.v (g x)).length k).bind _ = _
  rw [List.length_map, e1]
  show (match (xs.map fun x => B.v (g x))[j]? with
    | some (.v d) => some (d, s)
    | _ => none) = _
  rw [List.getElem?_map, e2]; rfl
end
end Ev

namespace Ev
open PySem L2

/-! ## where a thing stands in a list, and how often -/
def dIndex : D → D → Option D
  | .lst xs, d => match D.pys xs, d.py with
    | some ps, some p => if SeqAt.shaped (.list ps) = true ∧ SeqAt.shaped p = true then (ps.findIdx? fun z => PyData.eqv z p).map fun j => .int (j : Nat) else none
    | _, _ => none
  | _, _ => none
def dCount : D → D → Option D
  | .lst xs, .int k => (asInts xs).map fun ns => .int (ns.count k : Nat)
  | _, _ => none
section
variable {X : Cx} {a b : Expr} {f g : EvE} {pos apos cpos : Pos}
theorem s_index (hu : X.A.units + 65 < cLine) (ha : SE X a f) (hb : SE X b g) (hbase : attributeBase a "index" X.env (eval a X.env) = eval a X.env := by rfl)
    (hfew : ((backTo cpos (starEach [b] X.env)).all (fun x => !x.1) && (backToKw cpos (keywordEach [] X.env)).all (fun x => x.1.isSome) && decide ([b].length + ([] : List Keyword).length + (if ([] : List Keyword).isEmpty then 0 else 1) < 30)) = true := by rfl)
    (hline : (apos.endLine == cpos.line) = true := by rfl) (hs : starEach [b] X.env = (false, eval b X.env) :: starEach [] X.env := by rfl) (hplain : (backTo cpos (starEach [] X.env)).any (·.1) = false := by rfl) :
    SE X (.Call (.Attribute a "index" apos) [b] [] cpos) (e2 dIndex f g) :=
  pe_imp (pe_bm PySem.F.plainAttrs_list PySem.F.slot_list_index PySem.F.type_list_index (mt_indexD hu) ha (a_cons hb a_nil hs) hbase hfew hline hs hplain) fun σ H Q ⟨G, s, rel, d, s2, e, q⟩ => by
    obtain ⟨⟨dx, s1⟩, ea, eb⟩ := Option.bind_eq_some_iff.mp e
    obtain ⟨⟨dy, s2'⟩, ec, ed⟩ := Option.bind_eq_some_iff.mp eb
    obtain ⟨z, ee, ef⟩ := Option.map_eq_some_iff.mp ed
    cases ef
    refine ⟨G, s, rel, dx, s1, ea, fun G1 H1 rel1 fr1 v rv => ?_⟩
    cases dx with
    | lst xs =>
      cases rv with
      | lst h r =>
        refine ⟨.inl ⟨rfl, _, rd_seq h rel1.sub⟩, G1, s1, rel1, [dy], s2', ?_, fun G2 H2 rel2 fr2 vs rvs => ?_⟩
        · show ((g s1).bind fun p => (aNil p.2).bind fun q => some (p.1 :: q.1, q.2)) = _
          rw [ec]; rfl
        · cases rvs with
          | @cons u _ _ _ ru rn =>
            cases rn
            cases q1 : D.pys xs with
            | none => simp only [dIndex, q1] at ee; cases ee
            | some ps =>
              cases q2 : dy.py with
              | none => simp only [dIndex, q1, q2] at ee; cases ee
              | some p =>
                have ee : (if SeqAt.shaped (.list ps) = true ∧ SeqAt.shaped p = true then (ps.findIdx? fun z => PyData.eqv z p).map (fun j : Nat => D.int (j : Nat)) else none) = some d := by simpa only [dIndex, q1, q2] using ee
                split at ee
                · rename_i hsh
                  obtain ⟨j, ej, rfl⟩ := Option.map_eq_some_iff.mp ee
                  obtain ⟨hj, h1, h2⟩ := List.findIdx?_eq_some_iff_getElem.mp ej
                  refine ⟨_, u, p, ps, j, ps[j], rfl, rfl, .lst (rd_seq (rd_mono fr2.r h) rel2.sub) (Reps.dp rel2.sub _ _ _ (Reps.mono fr2.r fr2.l _ _ r) q1), Rep.dp rel2.sub _ _ _ ru q2, hsh.1, hsh.2, List.getElem?_eq_getElem hj, h1, fun m z' hm hz' => ?_, q G2 H2 rel2 (fr1.trans fr2) _ (.int _)⟩
                  have hml : m < ps.length := by omega
                  rw [List.getElem?_eq_getElem hml] at hz'
                  cases hz'
                  have := h2 m hm
                  simpa using this
                · cases ee
    | _ => cases ee
theorem s_count (ha : SE X a f) (hb : SE X b g) (hbase : attributeBase a "count" X.env (eval a X.env) = eval a X.env := by rfl)
    (hfew : ((backTo cpos (starEach [b] X.env)).all (fun x => !x.1) && (backToKw cpos (keywordEach [] X.env)).all (fun x => x.1.isSome) && decide ([b].length + ([] : List Keyword).length + (if ([] : List Keyword).isEmpty then 0 else 1) < 30)) = true := by rfl)
    (hline : (apos.endLine == cpos.line) = true := by rfl) (hs : starEach [b] X.env = (false, eval b X.env) :: starEach [] X.env := by rfl) (hplain : (backTo cpos (starEach [] X.env)).any (·.1) = false := by rfl) :
    SE X (.Call (.Attribute a "count" apos) [b] [] cpos) (e2 dCount f g) :=
  pe_imp (pe_bm PySem.F.plainAttrs_list PySem.F.slot_list_count PySem.F.type_list_count mt_lcount ha (a_cons hb a_nil hs) hbase hfew hline hs hplain) fun σ H Q ⟨G, s, rel, d, s2, e, q⟩ => by
    obtain ⟨⟨dx, s1⟩, ea, eb⟩ := Option.bind_eq_some_iff.mp e
    obtain ⟨⟨dy, s2'⟩, ec, ed⟩ := Option.bind_eq_some_iff.mp eb
    obtain ⟨z, ee, ef⟩ := Option.map_eq_some_iff.mp ed
    cases ef
    refine ⟨G, s, rel, dx, s1, ea, fun G1 H1 rel1 fr1 v rv => ?_⟩
    cases dx with
    | lst xs =>
      cases rv with
      | lst h r =>
        refine ⟨.inl ⟨rfl, _, rd_seq h rel1.sub⟩, G1, s1, rel1, [dy], s2', ?_, fun G2 H2 rel2 fr2 vs rvs => ?_⟩
        · show ((g s1).bind fun p => (aNil p.2).bind fun q => some (p.1 :: q.1, q.2)) = _
          rw [ec]; rfl
        · cases rvs with
          | @cons u _ _ _ ru rn =>
            cases rn
            cases dy with
            | int k =>
              cases ru
              obtain ⟨ns, en, rfl⟩ := Option.map_eq_some_iff.mp ee
              have hxs := asInts_inv en
              subst hxs
              have := Reps.of_ints r
              subst this
              exact ⟨_, ns, k, rfl, rfl, rd_seq (rd_mono fr2.r h) rel2.sub, q G2 H2 rel2 (fr1.trans fr2) _ (.int _)⟩
            | _ => cases ee
    | _ => cases ee
end
theorem findIdx_map {α β : Type} (g : α → β) (q : β → Bool) : ∀ (xs : List α), (xs.map g).findIdx? q = xs.findIdx? fun x => q (g x)
  | [] => rfl
  | x :: xs => by rw [List.map_cons, List.findIdx?_cons, List.findIdx?_cons, findIdx_map g q xs]
theorem dIndex_d {α : Type} [DecidableEq α] [PySem.W.DatumOrd α] [Dx α] {xs : List α} {a : α} {j : Nat} (h : xs.findIdx? (fun x => decide (x = a)) = some j) (hd : PySem.W.Datum.depth α ≤ 30 := by decide) : dIndex (.lst (xs.map Dx.g)) (Dx.g a) = some (.int (j : Nat)) := by
  show (match D.pys (xs.map Dx.g), (Dx.g a).py with
    | some ps, some p => if SeqAt.shaped (.list ps) = true ∧ SeqAt.shaped p = true then (ps.findIdx? fun z => PyData.eqv z p).map fun j => D.int (j : Nat) else none
    | _, _ => none) = _
  rw [pys_g, Dx.py]
  show (if SeqAt.shaped (.list (xs.map PySem.W.Datum.toD)) = true ∧ SeqAt.shaped (PySem.W.Datum.toD a) = true then _ else _) = _
  rw [if_pos ⟨shapedL_g hd xs, shaped_g hd a⟩, findIdx_map]
  simp only [PySem.W.Datum.eqv, h]; rfl
theorem dIndex_i {xs : List Int} {a : Int} {j : Nat} (h : xs.findIdx? (fun x => decide (x = a)) = some j) : dIndex (.lst (xs.map .int)) (.int a) = some (.int (j : Nat)) := dIndex_d (α := Int) h
end Ev

/-! texts that are alike; texts as values -/
namespace Ev
open PySem L2
section
variable {x y : Str} {i : Int} {k : Nat}
theorem char_ok (c : Char) : c.toNat < 0x110000 := by
  rcases c.valid with h | h
  · have : c.toNat < 0xd800 := h
    omega
  · exact h.2
theorem reprChar_ok {q c : Nat} (hc : c < 0x110000) : ∀ x ∈ PySem.Builtin.Str.reprChar q c, x < 0x110000 := by
  have hh : ∀ wd, ∀ x ∈ (List.replicate (wd - ((Nat.toDigits 16 c).map Char.toNat).length) 48 ++ (Nat.toDigits 16 c).map Char.toNat), x < 0x110000 := fun wd x hx => by
    rcases List.mem_append.mp hx with h | h
    · rw [(List.mem_replicate.mp h).2]; decide
    · obtain ⟨y, _, rfl⟩ := List.mem_map.mp h
      exact char_ok y
  unfold PySem.Builtin.Str.reprChar
  intro x hx
  simp only at hx
  split at hx
  · simp only [List.mem_cons, List.not_mem_nil, or_false] at hx; omega
  · split at hx
    · simp only [List.mem_cons, List.not_mem_nil, or_false] at hx; omega
    · split at hx
      · simp only [List.mem_cons, List.not_mem_nil, or_false] at hx; omega
      · split at hx
        · simp only [List.mem_cons, List.not_mem_nil, or_false] at hx; omega
        · split at hx
          · simp only [List.mem_cons, List.not_mem_nil, or_false] at hx; omega
          · split at hx
            · rcases List.mem_append.mp hx with h | h
              · simp only [List.mem_cons, List.not_mem_nil, or_false] at h; omega
              · exact hh 2 x h
            · split at hx
              · rcases List.mem_append.mp hx with h | h
                · simp only [List.mem_cons, List.not_mem_nil, or_false] at h; omega
                · exact hh 4 x h
              · rcases List.mem_append.mp hx with h | h
                · simp only [List.mem_cons, List.not_mem_nil, or_false] at h; omega
                · exact hh 8 x h
theorem fold_ok {q : Nat} : ∀ (l : List Nat) (acc : Array Nat), (∀ c ∈ l, c < 0x110000) → (∀ c ∈ acc.toList, c < 0x110000) → ∀ c ∈ (l.foldl (fun out c => out ++ (PySem.Builtin.Str.reprChar q c).toArray) acc).toList, c < 0x110000
  | [], acc, _, h => h
  | c :: r, acc, hl, h => by
    rw [List.foldl_cons]
    refine fold_ok r _ (fun d hd => hl d (List.mem_cons_of_mem _ hd)) fun d hd => ?_
    rw [Array.toList_append] at hd
    rcases List.mem_append.mp hd with hd | hd
    · exact h d hd
    · exact reprChar_ok (hl c (List.mem_cons_self ..)) d hd
theorem strOk_iff {x : Str} : PyData.strOk x = true ↔ ∀ c ∈ x.cps.toList, c < 0x110000 := by
  unfold PyData.strOk
  rw [← Array.all_toList, List.all_eq_true]
  simp only [decide_eq_true_eq]
theorem repr_ok {x : Str} (h : PyData.strOk x = true) : PyData.strOk (PySem.reprText x) = true := by
  rw [strOk_iff] at h ⊢
  have hq : PySem.reprQuote x < 0x110000 := by unfold PySem.reprQuote; split <;> decide
  unfold PySem.reprText
  intro c hc
  rw [Array.toList_push, ← Array.foldl_toList] at hc
  rcases List.mem_append.mp hc with hc | hc
  · exact fold_ok _ _ h (fun d hd => by cases List.mem_singleton.mp hd; exact hq) c hc
  · cases List.mem_singleton.mp hc; exact hq
theorem same_text {x : Str} (h : PyData.strOk x = true) (hl : x.length ≤ 1000) : pF F_law_same [.str x, .str x] = some (.v (.bl true)) := by
  refine same_ok (.str ?_ (repr_ok h))
  have := PySem.StrLaws.reprText_len x (fun c hc => Nat.lt_trans (strOk_iff.mp h c hc) (by decide))
  exact le_line (by omega)
theorem eqv_s : PyData.eqv (.str x) (.str y) = (x == y) := by rfl
theorem shaped_s (hx : PyData.strOk x = true) : SeqAt.shaped (.str x) = true := by simp [SeqAt.shaped, PyData.canLay0, PyData.depth, hx]
theorem dEq_str (hx : PyData.strOk x = true) (hy : PyData.strOk y = true) : dEq (.str x) (.str y) = some (.bl (decide (x = y))) := by
  unfold dEq
  rw [dEq_of (p := .str x) (q := .str y) rfl rfl (shaped_s hx) (shaped_s hy), eqv_s]
  show some (D.bl _) = _
  congr 2
theorem dNe_str (hx : PyData.strOk x = true) (hy : PyData.strOk y = true) : dNe (.str x) (.str y) = some (.bl (!decide (x = y))) := by
  unfold dNe
  rw [dEq_of (p := .str x) (q := .str y) rfl rfl (shaped_s hx) (shaped_s hy), eqv_s]
  show some (D.bl _) = _
  congr 3
theorem dAdd_str (h : x.length + y.length ≤ sizeLine) : dAdd (.str x) (.str y) = some (.str (x ++ y)) := if_pos h
theorem dIAdd_str (h : x.length + y.length ≤ sizeLine) : dIAdd (.str x) (.str y) = some (.str (x ++ y)) := if_pos h
theorem dIx_str (h : x.length ≤ sizeLine) : dIx (.str x) (.int i) = (atI x.cps.toList i).map fun c => .str ⟨#[c]⟩ := if_pos h
theorem bLen_str (h : x.length ≤ sizeLine) : bLen [.str x] = some (.int x.length) := if_pos h
theorem items_str : items (.str x) = some (signs x) := rfl
theorem dCut_str {lo hi : Option Int} (h : x.length ≤ sizeLine) : dCut (.str x) lo hi = some (.str (cutS x lo hi)) := if_pos h
end
end Ev

/-! range with a step, list(range(..)) -/
namespace Ev
open PySem PySem.Spec PyProof.Rows L2
def rgSz (i j c : Int) : Nat := (Builtin.Range.rangeSize i j c).toNat
def dRange3 : List D → Option (List D)
  | [.int i, .int j, .int c] => if c ≠ 0 ∧ c.natAbs < 1073741824 ∧ Builtin.Range.small i j c = true ∧ Builtin.Range.rangeSize i j c = (rgSz i j c : Int) then some ((List.range (rgSz i j c)).map fun k : Nat => .int (i + k * c)) else none
  | _ => none
theorem dRange3_inv : ∀ {ds xs : List D}, dRange3 ds = some xs → ∃ i j c, ds = [.int i, .int j, .int c] ∧ RgC i j c (rgSz i j c) ∧ xs = (List.range (rgSz i j c)).map fun k : Nat => .int (i + k * c)
  | [.int i, .int j, .int c], xs, e => by
    have e : (if c ≠ 0 ∧ c.natAbs < 1073741824 ∧ Builtin.Range.small i j c = true ∧ Builtin.Range.rangeSize i j c = (rgSz i j c : Int) then some ((List.range (rgSz i j c)).map fun k : Nat => D.int (i + k * c)) else none) = some xs := e
    split at e
    · rename_i h
      cases e
      exact ⟨i, j, c, rfl, ⟨h.1, h.2.1, h.2.2.1, h.2.2.2⟩, rfl⟩
    · cases e
section
variable {X : Cx} {tg : Expr} {fa : EvA} {p pos : Pos}
theorem wk_rangeC {K : PySem.W.Frag} {R : Hp} {L : List Addr} {lo c : Int} {n : Nat} : Wk K (Itc lo c n) R L ((List.range n).map fun k : Nat => .int (lo + k * c)) := fun R' L' H s1 l1 s2 => by
  refine ⟨by show n ≤ _; simp, fun i d hd => ?_⟩
  rw [List.getElem?_map] at hd
  obtain ⟨c, e1, e2⟩ := Option.map_eq_some_iff.mp hd
  have e1' := List.getElem?_eq_some_iff.mp e1
  simp only [List.length_range, List.getElem_range] at e1'
  obtain ⟨h1, rfl⟩ := e1'
  refine ⟨h1, fun y H' ⟨e3, e4⟩ => ?_⟩
  subst e3 e4 e2
  exact ⟨R', Ext.refl s2, .int _⟩
theorem i_rng3 (hg : Gl X "range") (hm : X.mg "range" = none) {a b c : Expr} (ha : SA X [a, b, c] fa)
    (hs : starEach [a, b, c] X.env = (false, eval a X.env) :: starEach [b, c] X.env := by rfl) (hpl : (backTo pos (starEach [b, c] X.env)).any (·.1) = false := by rfl) : SI X tg (.Call (.Name "range" p) [a, b, c] [] pos) (iA dRange3 fa) :=
  pi_imp (pi_range3 hg hm ha hs hpl) fun σ H Rr ⟨G, s, rel, ds, s', e, q⟩ => by
    obtain ⟨⟨d, s1⟩, ea, eb⟩ := Option.bind_eq_some_iff.mp e
    obtain ⟨xs, ec, ed⟩ := Option.bind_eq_some_iff.mp eb
    cases ed
    refine ⟨G, s, rel, _, _, ea, fun G1 H1 rel1 fr1 vs rv => ?_⟩
    obtain ⟨i, j, c, rfl, hj, rfl⟩ := dRange3_inv ec
    cases rv with
    | cons r1 r2 =>
      cases r2 with
      | cons r2 r3 =>
        cases r3 with
        | cons r3 r4 =>
          cases r4; cases r1; cases r2; cases r3
          exact ⟨i, j, c, _, rfl, hj, q G1 H1 rel1 fr1 _ wk_rangeC⟩
end
/-! list(range(..)) -/
def rgL (i j : Int) : Option (List D) := if -(2 ^ 62) ≤ i ∧ i < 2 ^ 62 ∧ -(2 ^ 62) ≤ j ∧ j < 2 ^ 62 ∧ (j - i).toNat ≤ 2 ^ 24 then some ((List.range (j - i).toNat).map fun k : Nat => .int (i + k)) else none
def rgL1 : D → Option (List D)
  | .int j => rgL 0 j
  | _ => none
def rgL2 : D → D → Option (List D)
  | .int i, .int j => rgL i j
  | _, _ => none
def bRg1 (f : EvE) : EvB := fun s => (f s).bind fun p => (rgL1 p.1).bind fun xs => some (.o (xs.map .v), p.2)
section
variable {X : Cx} {a b : Expr} {f g : EvE} {p p2 pos pos2 : Pos}
theorem reps_rg {K : PySem.W.Frag} {R : Hp} {L : List Addr} {i : Int} : ∀ (l : List Nat), Reps K R L (l.map fun k : Nat => V.int (i + k)) (l.map fun k : Nat => .int (i + k))
  | [] => .nil
  | k :: l => .cons (.int _) (reps_rg l)
theorem b_rg1 (hc : X.calm = true) (hg : Gl X "list") (hm : X.mg "list" = none) (hg2 : Gl X "range") (hm2 : X.mg "range" = none) (ha : SE X a f)
    (na : starEach [a] X.env = (false, eval a X.env) :: starEach [] X.env := by rfl) (nb : starEach [Expr.Call (.Name "range" p2) [a] [] pos2] X.env = (false, eval (Expr.Call (.Name "range" p2) [a] [] pos2) X.env) :: starEach [] X.env := by rfl) :
    SB X (.Call (.Name "list" p) [.Call (.Name "range" p2) [a] [] pos2] [] pos) (bRg1 f) :=
  pe_imp (pe_listRg hc hg hm (prg_1 hg2 hm2 ha na) nb) fun σ H Q ⟨G, s, rel, d, s9, e, q⟩ => by
    obtain ⟨⟨dx, s1⟩, ea, eb⟩ := Option.bind_eq_some_iff.mp e
    refine ⟨G, s, rel, dx, s1, ea, fun G1 H1 rel1 fr1 v rv => ?_⟩
    have w : W X.K ((rgL1 dx).bind fun xs => some (B.o (xs.map .v), s1)) G1 σ H1 (fun b G' _ H' => ∀ v fp, RepB X.K G'.R G'.I H' v b fp → (fp ++ (G'.O ++ G'.L)).Nodup → (∀ a ∈ fp, H a = none) → Q v H') :=
      ⟨_, _, eb, fun G2 H2 r2 f2 => q G2 H2 r2 (fr1.trans f2)⟩
    obtain ⟨xs, e1, q1⟩ := w.optB rel1 (fun a h => fr1.back h)
    cases dx with
    | int j =>
      cases rv
      have e1 : rgL 0 j = some xs := e1
      unfold rgL at e1
      split at e1
      · rename_i hb
        cases e1
        exact ⟨j, rfl, hb, fun q hq => q1 q _ G1.R H1 (Ext.refl rel1.sub) hq (reps_rg _)⟩
      · cases e1
    | _ => cases e1
def bRg2 (f g : EvE) : EvB := b2 rgL2 f g
theorem b_rg2 (hc : X.calm = true) (hg : Gl X "list") (hm : X.mg "list" = none) (hg2 : Gl X "range") (hm2 : X.mg "range" = none) (ha : SE X a f) (hb : SE X b g)
    (na : starEach [a, b] X.env = (false, eval a X.env) :: starEach [b] X.env := by rfl) (nb : starEach [b] X.env = (false, eval b X.env) :: starEach [] X.env := by rfl) (hp : (backTo pos2 (starEach [b] X.env)).any (·.1) = false := by rfl)
    (nc : starEach [Expr.Call (.Name "range" p2) [a, b] [] pos2] X.env = (false, eval (Expr.Call (.Name "range" p2) [a, b] [] pos2) X.env) :: starEach [] X.env := by rfl) :
    SB X (.Call (.Name "list" p) [.Call (.Name "range" p2) [a, b] [] pos2] [] pos) (bRg2 f g) :=
  pe_imp (pe_listRg hc hg hm (prg_2 hg2 hm2 ha hb na nb hp) nc) fun σ H Q ⟨G, s, rel, d, s9, e, q⟩ => by
    obtain ⟨⟨dx, s1⟩, ea, eb⟩ := Option.bind_eq_some_iff.mp e
    obtain ⟨⟨dy, s2⟩, ec, ed⟩ := Option.bind_eq_some_iff.mp eb
    refine ⟨G, s, rel, dx, s1, ea, fun G1 H1 rel1 fr1 v rv => ⟨G1, s1, rel1, dy, s2, ec, fun G2 H2 rel2 fr2 u ru => ?_⟩⟩
    have w : W X.K ((rgL2 dx dy).bind fun xs => some (B.o (xs.map .v), s2)) G2 σ H2 (fun b G' _ H' => ∀ v fp, RepB X.K G'.R G'.I H' v b fp → (fp ++ (G'.O ++ G'.L)).Nodup → (∀ a ∈ fp, H a = none) → Q v H') :=
      ⟨_, _, ed, fun G3 H3 r3 f3 => q G3 H3 r3 ((fr1.trans fr2).trans f3)⟩
    obtain ⟨xs, e1, q1⟩ := w.optB rel2 (fun a h => (fr1.trans fr2).back h)
    cases dx with
    | int i =>
      cases dy with
      | int j =>
        cases rv; cases ru
        have e1 : rgL i j = some xs := e1
        unfold rgL at e1
        split at e1
        · rename_i hb
          cases e1
          exact ⟨i, j, rfl, rfl, hb, fun q hq => q1 q _ G2.R H2 (Ext.refl rel2.sub) hq (reps_rg _)⟩
        · cases e1
      | _ => cases e1
    | _ => cases e1
end
section
variable {s : Sta} {f g : EvE} {i j c : Int}
theorem bRg1_q : bRg1 f s = @bnd _ _ (f s) ⟨fun p => @bnd _ _ (rgL1 p.1) ⟨fun xs => some (.o (xs.map .v), p.2)⟩⟩ := rfl
theorem bRg2_q : bRg2 f g s = @bnd _ _ (f s) ⟨fun p => @bnd _ _ (g p.2) ⟨fun q => @bnd _ _ (rgL2 p.1 q.1) ⟨fun xs => some (.o (xs.map .v), q.2)⟩⟩⟩ := rfl
theorem rgL2_i (h : (-(10 ^ 7) ≤ i ∧ i ≤ 10 ^ 7) ∧ -(10 ^ 7) ≤ j ∧ j ≤ 10 ^ 7 ∧ j - i ≤ 10 ^ 7) : rgL2 (.int i) (.int j) = some ((seg i j).map .int) := by
  show rgL i j = _
  unfold rgL seg
  rw [if_pos ⟨by omega, by omega, by omega, by omega, by omega⟩, List.map_map]; rfl
theorem rgL1_i (h : -(10 ^ 7) ≤ j ∧ j ≤ 10 ^ 7) : rgL1 (.int j) = some ((seg 0 j).map .int) := rgL2_i (i := 0) (by omega)
/-- from i by c below j -/
def segC (i j c : Int) : List Int := (List.range (if i < j then ((j - i - 1) / c).toNat + 1 else 0)).map fun k : Nat => i + k * c
/-- from i downwards above j -/
def segD (i j : Int) : List Int := (List.range (i - j).toNat).map fun k : Nat => i - k
theorem segC_nil (h : j ≤ i) : segC i j c = [] := by unfold segC; rw [if_neg (by omega)]; rfl
theorem segC_cons (hc : 0 < c) (h : i < j) : segC i j c = i :: segC (i + c) j c := by
  unfold segC
  rw [if_pos h, List.range_succ_eq_map, List.map_cons, List.map_map]
  have e : ((j - i - 1) / c).toNat = if i + c < j then ((j - (i + c) - 1) / c).toNat + 1 else 0 := by
    by_cases z : i + c < j
    · rw [if_pos z]
      have e2 : (j - i - 1) / c = (j - (i + c) - 1) / c + 1 := by
        rw [show j - i - 1 = (j - (i + c) - 1) + c by omega]
        exact Int.add_ediv_of_dvd_right (Int.dvd_refl c) |>.trans (by rw [Int.ediv_self (by omega)])
      have := Int.ediv_nonneg (a := j - (i + c) - 1) (b := c) (by omega) (by omega)
      omega
    · rw [if_neg z, Int.ediv_eq_zero_of_lt (by omega) (by omega)]; rfl
  rw [← e]
  congr 1
  · simp
  · refine List.map_congr_left fun x _ => ?_
    show i + ((x + 1 : Nat) : Int) * c = i + c + x * c
    rw [Int.natCast_add, Int.add_mul]; omega
theorem mem_segC (hc : 0 < c) {x : Int} : x ∈ segC i j c ↔ i ≤ x ∧ x < j ∧ (x - i) % c = 0 := by
  have key : ∀ n : Nat, ∀ i, (j - i).toNat ≤ n → (x ∈ segC i j c ↔ i ≤ x ∧ x < j ∧ (x - i) % c = 0) := by
    intro n
    induction n with
    | zero => intro i h; rw [segC_nil (by omega)]; simp only [List.not_mem_nil, false_iff]; omega
    | succ n ih =>
      intro i h
      rcases Int.lt_or_le i j with z | z
      · rw [segC_cons hc z, List.mem_cons, ih (i + c) (by omega)]
        have e : (x - (i + c)) % c = (x - i) % c := by rw [show x - (i + c) = x - i - c by omega, Int.sub_emod_right]
        rw [e]
        constructor
        · rintro (rfl | h1)
          · refine ⟨Int.le_refl _, z, ?_⟩; rw [Int.sub_self]; rfl
          · omega
        · rintro ⟨h1, h2, h3⟩
          by_cases y : x = i
          · exact .inl y
          · refine .inr ⟨?_, h2, h3⟩
            have := Int.le_of_dvd (by omega) (Int.dvd_of_emod_eq_zero h3)
            omega
      · rw [segC_nil z]; simp only [List.not_mem_nil, false_iff]; omega
  exact key _ i (Nat.le_refl _)
theorem segD_nil (h : i ≤ j) : segD i j = [] := by unfold segD; rw [show (i - j).toNat = 0 by omega]; rfl
theorem segD_cons (h : j < i) : segD i j = i :: segD (i - 1) j := by
  unfold segD
  rw [show (i - j).toNat = (i - 1 - j).toNat + 1 by omega, List.range_succ_eq_map, List.map_cons, List.map_map]
  congr 1
  · simp
  · refine List.map_congr_left fun x _ => ?_
    show i - ((x + 1 : Nat) : Int) = i - 1 - x
    omega
theorem rngC' (h : (-(10 ^ 15) ≤ i ∧ i ≤ 10 ^ 15) ∧ (-(10 ^ 15) ≤ j ∧ j ≤ 10 ^ 15) ∧ 0 < c ∧ c ≤ 10 ^ 9) : dRange3 [.int i, .int j, .int c] = some ((segC i j c).map .int) := by
  have e0 : Builtin.Range.rangeSize i j c = ((if i < j then ((j - i - 1) / c).toNat + 1 else 0 : Nat) : Int) := by
    unfold Builtin.Range.rangeSize
    rw [if_pos (by omega)]
    by_cases z : i < j
    · rw [if_pos z, if_pos z]
      have := Int.ediv_nonneg (a := j - i - 1) (b := c) (by omega) (by omega)
      omega
    · rw [if_neg z, if_neg z]; rfl
  have es : rgSz i j c = if i < j then ((j - i - 1) / c).toNat + 1 else 0 := by unfold rgSz; rw [e0, Int.toNat_natCast]
  have sm : Builtin.Range.small i j c = true := by
    have nb : (if i < j then ((j - i - 1) / c).toNat + 1 else 0 : Nat) ≤ 3 * 10 ^ 15 := by
      split
      · have := div_bd (x := j - i - 1) (m := c) (N := 2 * 10 ^ 15) (by omega) (by omega)
        omega
      · omega
    obtain ⟨N, hN⟩ : ∃ N : Nat, N = if i < j then ((j - i - 1) / c).toNat + 1 else 0 := ⟨_, rfl⟩
    rw [← hN] at e0 nb
    unfold Builtin.Range.small
    rw [e0, if_pos (by omega)]
    simp only [Builtin.Range.rangeFitsLong, Bool.and_eq_true, Bool.or_eq_true, decide_eq_true_eq, beq_iff_eq]
    refine ⟨⟨⟨⟨by omega, by omega⟩, by omega⟩, by omega⟩, .inr (by omega)⟩
  show (if c ≠ 0 ∧ c.natAbs < 1073741824 ∧ Builtin.Range.small i j c = true ∧ Builtin.Range.rangeSize i j c = (rgSz i j c : Int) then some ((List.range (rgSz i j c)).map fun k : Nat => D.int (i + k * c)) else none) = _
  rw [if_pos ⟨by omega, by omega, sm, by rw [es]; exact e0⟩, es]
  unfold segC
  rw [List.map_map]; rfl
theorem rngD' (h : (-(10 ^ 15) ≤ i ∧ i ≤ 10 ^ 15) ∧ (-(10 ^ 15) ≤ j ∧ j ≤ 10 ^ 15)) : dRange3 [.int i, .int j, .int (-1)] = some ((segD i j).map .int) := by
  have e0 : Builtin.Range.rangeSize i j (-1) = ((i - j).toNat : Int) := PySem.W.rangeSize_downNat i j
  have es : rgSz i j (-1) = (i - j).toNat := by unfold rgSz; rw [e0, Int.toNat_natCast]
  show (if (-1 : Int) ≠ 0 ∧ (-1 : Int).natAbs < 1073741824 ∧ Builtin.Range.small i j (-1) = true ∧ Builtin.Range.rangeSize i j (-1) = (rgSz i j (-1) : Int) then some ((List.range (rgSz i j (-1))).map fun k : Nat => D.int (i + k * -1)) else none) = _
  rw [if_pos ⟨by decide, by decide, PySem.W.small_down (by omega) (by omega) (by omega) (by omega), by rw [es]; exact e0⟩, es]
  unfold segD
  rw [List.map_map]
  congr 1
  refine List.map_congr_left fun x _ => ?_
  show D.int (i + x * -1) = D.int (i - x)
  congr 1; omega
end
end Ev

/-! the least one -/
namespace Ev
open PySem L2
open PySem.W (Datum DatumOrd Tup minOf maxOf)
/-- the order of a kind of data is total -/
class Lin (α : Type) [DecidableEq α] [DatumOrd α] : Prop where
  irr : ∀ a : α, DatumOrd.lt a a = false
  tr : ∀ a b c : α, DatumOrd.lt a b = true → DatumOrd.lt b c = true → DatumOrd.lt a c = true
  tri : ∀ a b : α, DatumOrd.lt a b = false → DatumOrd.lt b a = false → a = b
instance : Lin Int where
  irr a := decide_eq_false (by omega)
  tr a b c h1 h2 := by
    have h1 : a < b := of_decide_eq_true h1
    have h2 : b < c := of_decide_eq_true h2
    exact decide_eq_true (by omega)
  tri a b h1 h2 := by
    have h1 : ¬ a < b := of_decide_eq_false h1
    have h2 : ¬ b < a := of_decide_eq_false h2
    omega
section
variable {α β : Type} [DecidableEq α] [DatumOrd α] [DecidableEq β] [DatumOrd β]
theorem lt_pair {p q : α × β} : DatumOrd.lt p q = if p.1 = q.1 then DatumOrd.lt p.2 q.2 else DatumOrd.lt p.1 q.1 := rfl
instance [Lin α] [Lin β] : Lin (α × β) where
  irr a := by rw [lt_pair, if_pos rfl]; exact Lin.irr _
  tr a b c h1 h2 := by
    rw [lt_pair] at h1 h2 ⊢
    by_cases e1 : a.1 = b.1
    · rw [if_pos e1] at h1
      by_cases e2 : b.1 = c.1
      · rw [if_pos e2] at h2
        rw [if_pos (e1.trans e2)]; exact Lin.tr _ _ _ h1 h2
      · rw [if_neg e2] at h2
        rw [if_neg (by rw [e1]; exact e2), e1]; exact h2
    · rw [if_neg e1] at h1
      by_cases e2 : b.1 = c.1
      · rw [if_neg (by rw [← e2]; exact e1), ← e2]; exact h1
      · rw [if_neg e2] at h2
        have h3 := Lin.tr _ _ _ h1 h2
        rw [if_neg]
        · exact h3
        · intro e; rw [e, Lin.irr] at h3; cases h3
  tri a b h1 h2 := by
    rw [lt_pair] at h1 h2
    by_cases e1 : a.1 = b.1
    · rw [if_pos e1] at h1
      rw [if_pos e1.symm] at h2
      exact Prod.ext e1 (Lin.tri _ _ h1 h2)
    · rw [if_neg e1] at h1
      rw [if_neg (fun h => e1 h.symm)] at h2
      exact absurd (Lin.tri _ _ h1 h2) e1
def T3.pp {γ : Type} (t : T3 α β γ) : α × (β × γ) := (t.a, t.b, t.c)
instance {γ : Type} [DecidableEq γ] [DatumOrd γ] [Lin α] [Lin β] [Lin γ] : Lin (T3 α β γ) where
  irr a := (Lin.irr (T3.pp a) : _)
  tr a b c h1 h2 := (Lin.tr (T3.pp a) (T3.pp b) (T3.pp c) h1 h2 : _)
  tri a b h1 h2 := by
    have := Lin.tri (T3.pp a) (T3.pp b) h1 h2
    cases a; cases b
    obtain ⟨e1, e2⟩ := Prod.mk.inj this
    obtain ⟨e2, e3⟩ := Prod.mk.inj e2
    cases e1; cases e2; cases e3; rfl
theorem min_spec [Lin α] : ∀ (xs : List α) (x : α), minOf x xs ∈ x :: xs ∧ ∀ y ∈ x :: xs, DatumOrd.lt y (minOf x xs) = false
  | [], x => ⟨List.mem_singleton_self _, fun y hy => by cases List.mem_singleton.mp hy; exact Lin.irr _⟩
  | z :: xs, x => by
    have e : minOf x (z :: xs) = minOf (if DatumOrd.lt z x = true then z else x) xs := rfl
    rw [e]
    by_cases c : DatumOrd.lt z x = true
    · rw [if_pos c]
      obtain ⟨h1, h2⟩ := min_spec xs z
      refine ⟨List.mem_cons_of_mem _ h1, fun y hy => ?_⟩
      rcases List.mem_cons.mp hy with rfl | hy
      · rcases q : DatumOrd.lt y (minOf z xs)
        · rfl
        · have h3 := h2 z (List.mem_cons_self ..)
          rw [Lin.tr _ _ _ c q] at h3; cases h3
      · exact h2 y hy
    · rw [if_neg c]
      have c := Bool.eq_false_iff.mpr c
      obtain ⟨h1, h2⟩ := min_spec xs x
      refine ⟨?_, fun y hy => ?_⟩
      · rcases List.mem_cons.mp h1 with h | h
        · rw [h]; exact List.mem_cons_self ..
        · exact List.mem_cons_of_mem _ (List.mem_cons_of_mem _ h)
      · rcases List.mem_cons.mp hy with rfl | hy
        · exact h2 y (List.mem_cons_self ..)
        · rcases List.mem_cons.mp hy with rfl | hy
          · rcases q : DatumOrd.lt y (minOf x xs)
            · rfl
            · have h3 := h2 x (List.mem_cons_self ..)
              by_cases e : minOf x xs = x
              · rw [e, c] at q; cases q
              · rcases g : DatumOrd.lt (minOf x xs) x
                · exact absurd (Lin.tri _ _ g h3) e
                · rw [Lin.tr _ _ _ q g] at c; cases c
          · exact h2 y (List.mem_cons_of_mem _ hy)
/-- just one is the least -/
theorem min_is [Lin α] {x m : α} {xs : List α} (hm : m ∈ x :: xs) (hl : ∀ y ∈ x :: xs, DatumOrd.lt y m = false) : minOf x xs = m := by
  obtain ⟨h1, h2⟩ := min_spec xs x
  exact Lin.tri _ _ (hl _ h1) (h2 m hm)
end
end Ev

/-! comprehensions of two fors -/
namespace Ev
open PySem L2
def lcL2 (own : List Nat) (h : EvG) (c : EvT) (own1 : List Nat) (fi1 : EvA) (h1 : EvG) (c1 : EvT) (e : EvE) : List D → Sta → Option (List D × Sta)
  | [], s => some ([], s)
  | d :: ds, s => (h d s).bind fun s1 => (c s1).bind fun p => if p.1 = true then (fi1 p.2).bind fun q => (lcL own1 h1 c1 e q.1 (wipeE q.2 own1)).bind fun a => (lcL2 own h c own1 fi1 h1 c1 e ds (wipeE a.2 own)).bind fun r => some (a.1 ++ r.1, r.2) else lcL2 own h c own1 fi1 h1 c1 e ds (wipeE p.2 own)
def bLc2 (own : List Nat) (fi : EvA) (h : EvG) (c : EvT) (own1 : List Nat) (fi1 : EvA) (h1 : EvG) (c1 : EvT) (e : EvE) : EvB := fun s => (fi s).bind fun p => (lcL2 own h c own1 fi1 h1 c1 e p.1 (wipeE p.2 own)).bind fun r => if r.1.length ≤ sizeLine then some (.o (r.1.map .v), r.2) else none
/-- a list that is being made at A, base G1 -/
structure Bl (K : PySem.W.Frag) (G1 G : Gh) (H : Hp) (A : Addr) (G' : Gh) (s : Sta) (σ : St) (H' : Hp) (done : List D) (us : List V) : Prop where
  rel : Rel K G' s σ H'
  fr : Fr false G H G' H'
  sR : Same G1.R G'.R
  pL : Pre G1.I G'.I
  hA : H' A = some (.lst us)
  hr : Reps K G'.R G'.I us done
  nR : G'.R A = none
  nO : A ∉ G'.O ++ G'.L
section
variable {K : PySem.W.Frag} {G1 G G2 G3 : Gh} {H H2 H3 : Hp} {A : Addr} {s s3 : Sta} {σ σ3 : St} {done : List D} {us : List V}
theorem Bl.base (b : Bl K G1 G H A G2 s σ H2 done us) : Bl K G2 G H A G2 s σ H2 done us := ⟨b.rel, b.fr, Same.refl _, fun _ _ h => h, b.hA, b.hr, b.nR, b.nO⟩
theorem Bl.under (b : Bl K G3 G H A G2 s σ H2 done us) (sR : Same G1.R G3.R) (pL : Pre G1.I G3.I) : Bl K G1 G H A G2 s σ H2 done us := ⟨b.rel, b.fr, sR.trans b.sR, fun n p z => b.pL n p (pL n p z), b.hA, b.hr, b.nR, b.nO⟩
theorem Bl.sig (b : Bl K G1 G H A G2 s σ H2 done us) (r : RepE K G2.R G2.I H2 σ3 s.env G2.O) : Bl K G1 G H A G2 s σ3 H2 done us := ⟨⟨b.rel.sub, r, b.rel.nd, b.rel.nr, b.rel.len, b.rel.il, b.rel.pl, b.rel.sto⟩, b.fr, b.sR, b.pL, b.hA, b.hr, b.nR, b.nO⟩
/-- a step that is none of the list's own -/
theorem Bl.step (b : Bl K G1 G H A G2 s σ H2 done us) (r : Rel K G3 s3 σ3 H3) (f : Fr false G2 H2 G3 H3) : Bl K G1 G H A G3 s3 σ3 H3 done us where
  rel := r
  fr := b.fr.trans f
  sR := b.sR.trans f.r
  pL := fun n p z => f.l n p (b.pL n p z)
  hA := f.h A _ b.hA (fun z => by cases z) fun z => b.nO (List.mem_append_right _ z)
  hr := Reps.mono f.r f.l _ _ b.hr
  nR := by
    cases y : G3.R A with
    | none => rfl
    | some u =>
      rcases f.rn A (by rw [y]; simp) with w | w | w
      · exact absurd b.nR w
      · exact absurd (List.mem_append_left _ w) b.nO
      · rw [b.hA] at w; cases w
  nO := fun z => by
    rcases List.mem_append.mp z with z | z
    · rcases f.o A z with w | w
      · exact b.nO (List.mem_append_left _ w)
      · rw [b.hA] at w; cases w
    · rcases f.lo A z with w | w
      · exact b.nO (List.mem_append_right _ w)
      · rw [b.hA] at w; cases w
/-- own slots alone were stored -/
theorem Bl.asg (b : Bl K G1 G H A G2 s σ H2 done us) (r : Rel K G3 s3 σ3 H2) (f : Fr true G2 H2 G3 H2) : Bl K G1 G H A G3 s3 σ3 H2 done us :=
  b.step r ⟨f.r, f.rn, f.l, f.o, f.lo, fun a u z _ _ => z, f.d, f.j⟩
theorem Bl.wipes (b : Bl K G1 G H A G2 s σ H2 done us) (vs : List Nat) : ∃ G3, Bl K G1 G H A G3 (wipeE s vs) (L2.wipe σ vs) H2 done us ∧ G3.R = G2.R ∧ G3.I = G2.I := by
  obtain ⟨O6, r6, hO6⟩ := b.rel.wipes vs
  refine ⟨⟨G2.R, G2.L, O6, G2.J⟩, ⟨r6, b.fr.own (g := []) (fun a ha => .inl (hO6 a ha)) (fun _ z => by cases z), b.sR, b.pL, b.hA, b.hr, b.nR, fun z => b.nO ?_⟩, rfl, rfl⟩
  rcases List.mem_append.mp z with z | z
  · exact List.mem_append_left _ (hO6 _ z)
  · exact List.mem_append_right _ z
theorem Bl.app (b : Bl K G1 G H A G2 s σ H2 done us) (hn : H A = none) {y : V} {d : D} (ry : Rep K G2.R G2.I y d) : Bl K G1 G H A G2 s σ (upd H2 A (.lst (us ++ [y]))) (done ++ [d]) (us ++ [y]) := by
  have lv := b.rel.env.live
  refine ⟨⟨fun a o z => ?_, RepE.mono (Same.refl _) (fun _ _ h => h) (fun a ha => ?_) (fun a ha => (lv a ha).1) b.rel.env, b.rel.nd, b.rel.nr, b.rel.len, b.rel.il, b.rel.pl, fun n cc z => ?_⟩, ⟨b.fr.r, b.fr.rn, b.fr.l, b.fr.o, b.fr.lo, fun a u z w1 w2 => ?_, fun a z => ?_, b.fr.j⟩, b.sR, b.pL, upd_same, b.hr.append (.cons ry .nil), b.nR, b.nO⟩
  · have : a ≠ A := fun w => by rw [w, b.nR] at z; cases z
    rw [upd_ne this]; exact b.rel.sub _ _ z
  · exact upd_ne fun w => b.nO (by rw [← w]; exact List.mem_append_left _ ha)
  · obtain ⟨a, z1, z2⟩ := b.rel.sto n cc z
    exact ⟨a, z1, z2.mono (Same.refl _) (fun _ _ h => h) (upd_ne fun w => b.nO (by rw [← w]; exact List.mem_append_right _ (List.mem_of_getElem? z1)))⟩
  · have : a ≠ A := fun w => by rw [w, hn] at z; cases z
    rw [upd_ne this]; exact b.fr.h a u z w1 w2
  · by_cases w : a = A
    · rw [w, upd_same]; simp
    · rw [upd_ne w]; exact b.fr.d a z
end
section
variable {fi fi1 : EvA} {h h1 : EvG} {c c1 : EvT} {e : EvE}
theorem rd_lc2 {K : PySem.W.Frag} {vs vs1 : List Nat} (σ : St) (H : Hp) (Q : VK) (q : tB K (bLc2 vs fi h c vs1 fi1 h1 c1 e) σ H Q) : tLc2 (tI K fi) (tGw K vs h) (tT K c) (tI K fi1) (tGw K vs1 h1) (tT K c1) (tE K false e) vs vs1 σ H Q := by
  obtain ⟨G, s, rel, b, s9, e0, q⟩ := q
  obtain ⟨⟨ds, s1⟩, ea, eb⟩ := Option.bind_eq_some_iff.mp e0
  obtain ⟨⟨out, s8⟩, ec, ed⟩ := Option.bind_eq_some_iff.mp eb
  dsimp only at ed
  split at ed
  · rename_i hz
    cases ed
    refine ⟨G, s, rel, ds, s1, ea, fun G1 H1 rel1 fr1 J wk A hA => ?_⟩
    obtain ⟨r0, f0⟩ := rel1.lay (o := .lst []) hA
    have nA := rel1.fresh hA
    have hAn : H A = none := fr1.back hA
    have b0 : Bl K G1 G H A G1 s1 σ (upd H1 A (.lst [])) [] [] := ⟨r0, fr1.trans f0, Same.refl _, fun _ _ h => h, upd_same, .nil, rel1.sub.free hA, nA⟩
    obtain ⟨G0, b1, _, _⟩ := b0.wipes vs
    refine ⟨fun i m H' => ∃ G' s' done us, Bl K G1 G H A G' s' (L2.wipe σ vs) H' done us ∧ m = ds.length - i ∧ i ≤ ds.length ∧
      (∃ more, lcL2 vs h c vs1 fi1 h1 c1 e (ds.drop i) s' = some (more, s9) ∧ out = done ++ more) ∧ (∀ j ∈ vs, s'.env[j]? = some none ∨ s'.env[j]? = none),
      ⟨_, G0, wipeE s1 vs, [], [], b1, rfl, Nat.zero_le _, ⟨out, by simpa using ec, by simp⟩, fun j hj => wipeE_none vs s1 j hj⟩, ?_⟩
    rintro i m H2 ⟨G2, s2, done, us, b2, em, hi, ⟨more, e2, eo⟩, hw⟩
    obtain ⟨stop, go⟩ := wk G2.R G2.I H2 b2.sR b2.pL b2.rel.sub
    by_cases hl : i < ds.length
    · refine .inr ?_
      rw [List.drop_eq_getElem_cons hl] at e2
      obtain ⟨hgo, yl⟩ := go i ds[i] (List.getElem?_eq_getElem hl)
      refine ⟨hgo, fun H' => ∃ G' s' done us, Bl K G1 G H A G' s' (L2.wipe σ vs) H' done us ∧
          (∃ more, lcL2 vs h c vs1 fi1 h1 c1 e (ds.drop (i + 1)) s' = some (more, s9) ∧ out = done ++ more) ∧ (∀ j ∈ vs, s'.env[j]? = some none ∨ s'.env[j]? = none),
          fun H' ⟨G', s', done, us, a1, a2, a3⟩ => ⟨ds.length - (i + 1), by omega, G', s', done, us, a1, rfl, hl, a2, a3⟩, fun x H3 hy => ?_⟩
      obtain ⟨R3, x3, rx⟩ := yl x H3 hy
      obtain ⟨rel3, fr3⟩ := b2.rel.ext x3
      have b3 := b2.step rel3 fr3
      obtain ⟨s4, ef, eg⟩ := Option.bind_eq_some_iff.mp e2
      refine ⟨⟨R3, G2.L, G2.O, G2.J⟩, s2, _, s4, rel3, rx, ef, fun σ4 G4 rel4 fr4 ⟨eR4, eL4⟩ hw4 => ?_⟩
      have b4 := b3.asg rel4 fr4
      have hw4' : L2.wipe σ4 vs = L2.wipe σ vs := by rw [hw4, wipe_idem]
      refine ⟨hw4', ?_⟩
      obtain ⟨⟨k, s5⟩, eh, ei⟩ := Option.bind_eq_some_iff.mp eg
      refine ⟨G4, s4, rel4, k, s5, eh, fun G5 H5 rel5 fr5 => ?_⟩
      have b5 := b4.step rel5 fr5
      cases k with
      | false =>
        simp only [Bool.false_eq_true, if_false] at ei ⊢
        obtain ⟨G6, b6, _, _⟩ := b5.wipes vs
        rw [hw4'] at b6
        exact ⟨G6, wipeE s5 vs, done, us, b6, ⟨more, ei, eo⟩, fun j hj => wipeE_none vs s5 j hj⟩
      | true =>
        simp only [if_true] at ei ⊢
        obtain ⟨⟨ds1, s6⟩, ej, ek⟩ := Option.bind_eq_some_iff.mp ei
        obtain ⟨⟨mid, s7⟩, el, em2⟩ := Option.bind_eq_some_iff.mp ek
        obtain ⟨⟨rest, s0⟩, en, eq⟩ := Option.bind_eq_some_iff.mp em2
        cases eq
        refine ⟨G5, s5, rel5, ds1, s6, ej, fun G6 H6 rel6 fr6 J1 wk1 => ?_⟩
        have b6 := b5.step rel6 fr6
        obtain ⟨G7, b7, eR7, eI7⟩ := b6.base.wipes vs1
        refine ⟨fun j k H' => ∃ G' s' done us, Bl K G6 G H A G' s' (L2.wipe σ4 vs1) H' done us ∧ k = ds1.length - j ∧ j ≤ ds1.length ∧
          (∃ more, lcL vs1 h1 c1 e (ds1.drop j) s' = some (more, s7) ∧ out = done ++ (more ++ rest)) ∧ (∀ j ∈ vs1, s'.env[j]? = some none ∨ s'.env[j]? = none),
          ⟨_, G7, wipeE s6 vs1, done, us, b7, rfl, Nat.zero_le _, ⟨mid, by simpa using el, eo⟩, fun j hj => wipeE_none vs1 s6 j hj⟩, ?_⟩
        rintro j k H8 ⟨G8, s8', done', us', b8, ek8, hj8, ⟨more8, e8, eo8⟩, hw8⟩
        obtain ⟨stop1, go1⟩ := wk1 G8.R G8.I H8 b8.sR b8.pL b8.rel.sub
        by_cases hl1 : j < ds1.length
        · refine .inr ?_
          rw [List.drop_eq_getElem_cons hl1] at e8
          obtain ⟨hgo1, yl1⟩ := go1 j ds1[j] (List.getElem?_eq_getElem hl1)
          refine ⟨hgo1, fun H' => ∃ G' s' done us, Bl K G6 G H A G' s' (L2.wipe σ4 vs1) H' done us ∧
              (∃ more, lcL vs1 h1 c1 e (ds1.drop (j + 1)) s' = some (more, s7) ∧ out = done ++ (more ++ rest)) ∧ (∀ j ∈ vs1, s'.env[j]? = some none ∨ s'.env[j]? = none),
              fun H' ⟨G', s', done, us, a1, a2, a3⟩ => ⟨ds1.length - (j + 1), by omega, G', s', done, us, a1, rfl, hl1, a2, a3⟩, fun x1 H9 hy1 => ?_⟩
          obtain ⟨R9, x9, rx9⟩ := yl1 x1 H9 hy1
          obtain ⟨rel9, fr9⟩ := b8.rel.ext x9
          have b9 := b8.step rel9 fr9
          obtain ⟨sa, efa, ega⟩ := Option.bind_eq_some_iff.mp e8
          refine ⟨⟨R9, G8.L, G8.O, G8.J⟩, s8', _, sa, rel9, rx9, efa, fun σa Ga rela fra ⟨eRa, eLa⟩ hwa => ?_⟩
          have ba := b9.asg rela fra
          have hwa' : L2.wipe σa vs1 = L2.wipe σ4 vs1 := by rw [hwa, wipe_idem]
          refine ⟨hwa', ?_⟩
          obtain ⟨⟨kb, sb⟩, eha, eia⟩ := Option.bind_eq_some_iff.mp ega
          refine ⟨Ga, sa, rela, kb, sb, eha, fun Gb Hb relb frb => ?_⟩
          have bb := ba.step relb frb
          cases kb with
          | false =>
            simp only [Bool.false_eq_true, if_false] at eia ⊢
            obtain ⟨Gc, bc, _, _⟩ := bb.wipes vs1
            rw [hwa'] at bc
            exact ⟨Gc, wipeE sb vs1, done', us', bc, ⟨more8, eia, eo8⟩, fun j hj => wipeE_none vs1 sb j hj⟩
          | true =>
            simp only [if_true] at eia ⊢
            obtain ⟨⟨dc, sc⟩, eja, eka⟩ := Option.bind_eq_some_iff.mp eia
            obtain ⟨⟨more', sd⟩, ela, ema⟩ := Option.bind_eq_some_iff.mp eka
            cases ema
            refine ⟨Gb, sb, relb, dc, sc, eja, fun Gc Hc relc frc y ry => ?_⟩
            have bc := bb.step relc frc
            have hus : us'.length = done'.length := bc.hr.length
            refine ⟨us', bc.hA, ?_, ?_⟩
            · rw [eo8] at hz
              simp only [List.length_append, List.length_cons] at hz
              omega
            · obtain ⟨Gd, bd, _, _⟩ := (bc.app hAn ry).wipes vs1
              rw [hwa'] at bd
              exact ⟨Gd, wipeE sc vs1, done' ++ [dc], us' ++ [y], bd, ⟨more', ela, by rw [eo8, List.append_assoc]; rfl⟩, fun j hj => wipeE_none vs1 sc j hj⟩
        · have ei8 : j = ds1.length := by omega
          subst ei8
          rw [List.drop_length] at e8
          cases e8
          refine .inl ⟨stop1, ?_⟩
          have bu : Bl K G6 G H A G8 s7 σ4 H8 done' us' := b8.sig (b8.rel.env.unwipe hw8)
          obtain ⟨Gc, bc, _, _⟩ := bu.wipes vs
          rw [hw4'] at bc
          exact ⟨Gc, wipeE s7 vs, done', us', bc.under b6.sR b6.pL, ⟨rest, en, by rw [eo8]; rfl⟩, fun j hj => wipeE_none vs s7 j hj⟩
    · have ei : i = ds.length := by omega
      subst ei
      rw [List.drop_length] at e2
      cases e2
      rw [List.append_nil] at eo
      subst eo
      refine .inl ⟨stop, ?_⟩
      have bu := b2.sig (b2.rel.env.unwipe hw)
      refine q G2 H2 bu.rel bu.fr (.ref A) [A] (RepB.o (fp := []) bu.hA bu.nR (RepBs.of_reps bu.hr)) ?_ fun a ha => ?_
      · rw [List.singleton_append, List.nodup_cons]; exact ⟨bu.nO, bu.rel.nd⟩
      · cases List.mem_singleton.mp ha
        exact hAn
  · cases ed
end
section
variable {X : Cx} {elt tg iter tg1 iter1 : Expr} {ifs ifs1 : List Expr} {scope : Scope} {own : List (Str × Nat)} {vs1 : List Nat} {pos spos : Pos} {fi fi1 : EvA} {h h1 : EvG} {c c1 : EvT} {e : EvE}
theorem b_lc2 (hc : X.calm = true) (hN : X.N.Nodup) (hi : SI X tg iter fi) (ok : BlkOk X.N X.env.scope scope own) (hv : ∀ i ∈ vs1, i ∈ own.map (·.2))
    (hg : ∀ (s : Shared) (H : Hp) (C : Addr) (cl : List (Str × Addr)) (fp : List Addr), SGw (X.blk s H scope (compEnvC scope cl C X.env) fp) (own.map (·.2)) tg h) (ht : ∀ (s : Shared) (H : Hp) (C : Addr) (cl : List (Str × Addr)) (fp : List Addr), STs (X.blk s H scope (compEnvC scope cl C X.env) fp) ifs c)
    (hi1 : ∀ (s : Shared) (H : Hp) (C : Addr) (cl : List (Str × Addr)) (fp : List Addr), SI (X.blk s H scope (compEnvC scope cl C X.env) fp) tg1 iter1 fi1)
    (hg1 : ∀ (s : Shared) (H : Hp) (C : Addr) (cl : List (Str × Addr)) (fp : List Addr), SGw (X.blk s H scope (compEnvC scope cl C X.env) fp) vs1 tg1 h1) (ht1 : ∀ (s : Shared) (H : Hp) (C : Addr) (cl : List (Str × Addr)) (fp : List Addr), STs (X.blk s H scope (compEnvC scope cl C X.env) fp) ifs1 c1)
    (he : ∀ (s : Shared) (H : Hp) (C : Addr) (cl : List (Str × Addr)) (fp : List Addr), SE (X.blk s H scope (compEnvC scope cl C X.env) fp) elt e) (hs : ∀ x, foldedSetIterable iter X.env x = pure x := by intro _; rfl) (hs1 : ∀ env x, foldedSetIterable iter1 env x = pure x := by intro _ _; rfl) :
    SB X (.ListComp elt [⟨tg, iter, ifs, 0⟩, ⟨tg1, iter1, ifs1, 0⟩] scope pos) (bLc2 (own.map (·.2)) fi h c vs1 fi1 h1 c1 e) := pe_imp (pe_lc2 hc hN hi ok hv hg ht hi1 hg1 ht1 he hs hs1) fun σ H Q q => rd_lc2 σ H Q q
theorem ss_setLc2 {i : Nat} {y : Str} {py : Pos} (hc : X.calm = true) (hN : X.N.Nodup) (hy : X.N[i]? = some y) (hyl : X.env.scope.names.lookup y = some .local)
    (hsw : swapsWith (.ListComp elt [⟨tg, iter, ifs, 0⟩, ⟨tg1, iter1, ifs1, 0⟩] scope pos) (some (.Name y py)) spos.line X.env = pure true) (hi : SI X tg iter fi) (ok : BlkOk X.N X.env.scope scope own) (hv : ∀ i ∈ vs1, i ∈ own.map (·.2))
    (hg : ∀ (s : Shared) (H : Hp) (C : Addr) (cl : List (Str × Addr)) (fp : List Addr), SGw (X.blk s H scope (compEnvC scope cl C X.env) fp) (own.map (·.2)) tg h) (ht : ∀ (s : Shared) (H : Hp) (C : Addr) (cl : List (Str × Addr)) (fp : List Addr), STs (X.blk s H scope (compEnvC scope cl C X.env) fp) ifs c)
    (hi1 : ∀ (s : Shared) (H : Hp) (C : Addr) (cl : List (Str × Addr)) (fp : List Addr), SI (X.blk s H scope (compEnvC scope cl C X.env) fp) tg1 iter1 fi1)
    (hg1 : ∀ (s : Shared) (H : Hp) (C : Addr) (cl : List (Str × Addr)) (fp : List Addr), SGw (X.blk s H scope (compEnvC scope cl C X.env) fp) vs1 tg1 h1) (ht1 : ∀ (s : Shared) (H : Hp) (C : Addr) (cl : List (Str × Addr)) (fp : List Addr), STs (X.blk s H scope (compEnvC scope cl C X.env) fp) ifs1 c1)
    (he : ∀ (s : Shared) (H : Hp) (C : Addr) (cl : List (Str × Addr)) (fp : List Addr), SE (X.blk s H scope (compEnvC scope cl C X.env) fp) elt e) (hs : ∀ x, foldedSetIterable iter X.env x = pure x := by intro _; rfl) (hs1 : ∀ env x, foldedSetIterable iter1 env x = pure x := by intro _ _; rfl) :
    SS X (.Assign [.Name y py] (.ListComp elt [⟨tg, iter, ifs, 0⟩, ⟨tg1, iter1, ifs1, 0⟩] scope pos) spos) (sSetB i (bLc2 (own.map (·.2)) fi h c vs1 fi1 h1 c1 e)) :=
  ps_imp (ps_setLc2 hc hN hy hyl hsw hi ok hv hg ht hi1 hg1 ht1 he hs hs1) fun D σ H ⟨G, s, rel, d, s1, e1, q⟩ => by
    obtain ⟨⟨d0, s0⟩, ea, eb⟩ := Option.bind_eq_some_iff.mp e1
    cases eb
    refine rd_lc2 σ H _ ⟨G, s, rel, d0, s0, ea, fun G1 H1 rel1 fr1 v fp rv hn hg => ?_⟩
    obtain ⟨G', q'⟩ := set_end (i := i) (Q := fun o G' _ σ' H' => outOk X.K D G H o G' σ' H') rel1 rv hn fr1.weak hg ⟨_, _, rfl, q⟩
    exact q'
theorem ss_setLcV2 {i : Nat} {y : Str} {py : Pos} (hc : X.calm = true) (hN : X.N.Nodup) (hy : X.N[i]? = some y) (hyl : X.env.scope.names.lookup y = some .local)
    (hsw : swapsWith (.ListComp elt [⟨tg, iter, ifs, 0⟩, ⟨tg1, iter1, ifs1, 0⟩] scope pos) (some (.Name y py)) spos.line X.env = pure true) (hi : SI X tg iter fi) (ok : BlkOk X.N X.env.scope scope own) (hv : ∀ i ∈ vs1, i ∈ own.map (·.2))
    (hg : ∀ (s : Shared) (H : Hp) (C : Addr) (cl : List (Str × Addr)) (fp : List Addr), SGw (X.blk s H scope (compEnvC scope cl C X.env) fp) (own.map (·.2)) tg h) (ht : ∀ (s : Shared) (H : Hp) (C : Addr) (cl : List (Str × Addr)) (fp : List Addr), STs (X.blk s H scope (compEnvC scope cl C X.env) fp) ifs c)
    (hi1 : ∀ (s : Shared) (H : Hp) (C : Addr) (cl : List (Str × Addr)) (fp : List Addr), SI (X.blk s H scope (compEnvC scope cl C X.env) fp) tg1 iter1 fi1)
    (hg1 : ∀ (s : Shared) (H : Hp) (C : Addr) (cl : List (Str × Addr)) (fp : List Addr), SGw (X.blk s H scope (compEnvC scope cl C X.env) fp) vs1 tg1 h1) (ht1 : ∀ (s : Shared) (H : Hp) (C : Addr) (cl : List (Str × Addr)) (fp : List Addr), STs (X.blk s H scope (compEnvC scope cl C X.env) fp) ifs1 c1)
    (he : ∀ (s : Shared) (H : Hp) (C : Addr) (cl : List (Str × Addr)) (fp : List Addr), SE (X.blk s H scope (compEnvC scope cl C X.env) fp) elt e) (hs : ∀ x, foldedSetIterable iter X.env x = pure x := by intro _; rfl) (hs1 : ∀ env x, foldedSetIterable iter1 env x = pure x := by intro _ _; rfl) :
    SS X (.Assign [.Name y py] (.ListComp elt [⟨tg, iter, ifs, 0⟩, ⟨tg1, iter1, ifs1, 0⟩] scope pos) spos) (sSet i (eFz (bLc2 (own.map (·.2)) fi h c vs1 fi1 h1 c1 e))) :=
  ps_imp (ps_setLc2 hc hN hy hyl hsw hi ok hv hg ht hi1 hg1 ht1 he hs hs1) fun D σ H ⟨G, s, rel, d, s1, e1, q⟩ => by
    obtain ⟨⟨d0, s0⟩, ea, eb⟩ := Option.bind_eq_some_iff.mp e1
    cases eb
    obtain ⟨⟨b, s2⟩, ec, ed⟩ := Option.bind_eq_some_iff.mp ea
    cases ed
    refine rd_lc2 σ H _ ⟨G, s, rel, b, _, ec, fun G1 H1 rel1 fr1 v fp hb hn hg => ?_⟩
    obtain ⟨r2, hv, sm⟩ := rel1.frzOut hb hn
    obtain ⟨G', q'⟩ := set_end (i := i) (Q := fun o G' _ σ' H' => outOk X.K D G H o G' σ' H') r2 (.v hv) (by rw [List.nil_append]; exact r2.nd) (fr1.frzOut sm hg).weak (fun _ h => by cases h) ⟨_, _, rfl, q⟩
    exact q'
end
section
variable {own own1 : List Nat} {fi fi1 : EvA} {h h1 : EvG} {c c1 : EvT} {e : EvE} {s : Sta}
theorem bLc2_q : bLc2 own fi h c own1 fi1 h1 c1 e s = @bnd _ _ (fi s) ⟨fun p => @bnd _ _ (lcL2 own h c own1 fi1 h1 c1 e p.1 (wipeE p.2 own)) ⟨fun r => if r.1.length ≤ sizeLine then some (.o (r.1.map .v), r.2) else none⟩⟩ := rfl
/-- one turn of the outer for -/
def lcS2 (own : List Nat) (h : EvG) (c : EvT) (own1 : List Nat) (fi1 : EvA) (h1 : EvG) (c1 : EvT) (e : EvE) (d : D) (s : Sta) : Option (List D × Sta) :=
  @bnd _ _ (h d s) ⟨fun s1 => @bnd _ _ (c s1) ⟨fun p => if p.1 = true then @bnd _ _ (fi1 p.2) ⟨fun q => @bnd _ _ (lcL own1 h1 c1 e q.1 (wipeE q.2 own1)) ⟨fun a => some (a.1, wipeE a.2 own)⟩⟩ else some ([], wipeE p.2 own)⟩⟩
theorem lcL2_cons {d : D} {ds : List D} : lcL2 own h c own1 fi1 h1 c1 e (d :: ds) s = @bnd _ _ (lcS2 own h c own1 fi1 h1 c1 e d s) ⟨fun a => @bnd _ _ (lcL2 own h c own1 fi1 h1 c1 e ds a.2) ⟨fun r => some (a.1 ++ r.1, r.2)⟩⟩ := by
  show (h d s).bind _ = ((h d s).bind fun s1 => (c s1).bind fun p => if p.1 = true then (fi1 p.2).bind fun q => (lcL own1 h1 c1 e q.1 (wipeE q.2 own1)).bind fun a => some (a.1, wipeE a.2 own) else some ([], wipeE p.2 own)).bind fun a => (lcL2 own h c own1 fi1 h1 c1 e ds a.2).bind fun r => some (a.1 ++ r.1, r.2)
  rw [Option.bind_assoc]
  congr 1; funext s1
  rw [Option.bind_assoc]
  congr 1; funext p
  by_cases k : p.1 = true
  · rw [if_pos k, if_pos k, Option.bind_assoc]
    congr 1; funext q
    rw [Option.bind_assoc]
    congr 1
  · rw [if_neg k, if_neg k, Option.bind_some]
    cases lcL2 own h c own1 fi1 h1 c1 e ds (wipeE p.2 own) <;> rfl
theorem lcL2_all {α : Type} {g : α → D} (v : α → List D) : ∀ (xs : List α), (∀ x ∈ xs, lcS2 own h c own1 fi1 h1 c1 e (g x) s = some (v x, s)) → lcL2 own h c own1 fi1 h1 c1 e (xs.map g) s = some (xs.flatMap v, s)
  | [], _ => rfl
  | x :: xs, H => by
    rw [List.map_cons, lcL2_cons, H x (List.mem_cons_self ..), List.flatMap_cons]
    show ((lcL2 own h c own1 fi1 h1 c1 e (xs.map g) s).bind fun r => some (v x ++ r.1, r.2)) = _
    rw [lcL2_all v xs fun y hy => H y (List.mem_cons_of_mem _ hy)]; rfl
end
end Ev

/-! comprehensions whose items are lists of one's own -/
namespace Ev
open PySem L2
def lcB (own : List Nat) (h : EvG) (c : EvT) (e : EvB) : List D → Sta → Option (List B × Sta)
  | [], s => some ([], s)
  | d :: ds, s => (h d s).bind fun s1 => (c s1).bind fun p => if p.1 = true then (e p.2).bind fun q => (lcB own h c e ds (wipeE q.2 own)).bind fun r => some (q.1 :: r.1, r.2) else lcB own h c e ds (wipeE p.2 own)
def bLcB (own : List Nat) (fi : EvA) (h : EvG) (c : EvT) (e : EvB) : EvB := fun s => (fi s).bind fun p => if p.1.length ≤ sizeLine then (lcB own h c e p.1 (wipeE p.2 own)).bind fun r => some (.o r.1, r.2) else none
/-- a list that is being made at A, its items with cells fp of their own -/
structure BlB (K : PySem.W.Frag) (G1 G : Gh) (H : Hp) (A : Addr) (G' : Gh) (s : Sta) (σ : St) (H' : Hp) (done : List B) (us : List V) (fp : List Addr) : Prop where
  rel : Rel K G' s σ H'
  fr : Fr false G H G' H'
  sR : Same G1.R G'.R
  pL : Pre G1.I G'.I
  hA : H' A = some (.lst us)
  hr : RepBs K G'.R G'.I H' us done fp
  nR : G'.R A = none
  nd : (A :: fp).Nodup
  ds : ∀ a ∈ A :: fp, a ∉ G'.O ++ G'.L
  nw : ∀ a ∈ A :: fp, H a = none
section
variable {K : PySem.W.Frag} {G1 G G2 G3 : Gh} {H H2 H3 : Hp} {A : Addr} {s s3 : Sta} {σ σ3 : St} {done : List B} {us : List V} {fp : List Addr}
theorem BlB.lv (b : BlB K G1 G H A G2 s σ H2 done us fp) : ∀ a ∈ A :: fp, G2.R a = none ∧ ∃ u, H2 a = some u := fun a ha => by
  rcases List.mem_cons.mp ha with rfl | ha
  · exact ⟨b.nR, _, b.hA⟩
  · obtain ⟨h1, vs, h2⟩ := RepBs.live _ _ _ b.hr a ha
    exact ⟨h1, _, h2⟩
theorem BlB.sig (b : BlB K G1 G H A G2 s σ H2 done us fp) (r : RepE K G2.R G2.I H2 σ3 s.env G2.O) : BlB K G1 G H A G2 s σ3 H2 done us fp := ⟨⟨b.rel.sub, r, b.rel.nd, b.rel.nr, b.rel.len, b.rel.il, b.rel.pl, b.rel.sto⟩, b.fr, b.sR, b.pL, b.hA, b.hr, b.nR, b.nd, b.ds, b.nw⟩
theorem BlB.step (b : BlB K G1 G H A G2 s σ H2 done us fp) (r : Rel K G3 s3 σ3 H3) (f : Fr false G2 H2 G3 H3) : BlB K G1 G H A G3 s3 σ3 H3 done us fp := by
  have keep : ∀ a ∈ A :: fp, H3 a = H2 a := fun a ha => by
    obtain ⟨_, u, e⟩ := b.lv a ha
    rw [e]
    exact f.h a _ e (fun z => by cases z) fun z => b.ds a ha (List.mem_append_right _ z)
  have nR3 : ∀ a ∈ A :: fp, G3.R a = none := fun a ha => by
    obtain ⟨n, u, e⟩ := b.lv a ha
    cases y : G3.R a with
    | none => rfl
    | some u =>
      rcases f.rn a (by rw [y]; simp) with w | w | w
      · exact absurd n w
      · exact absurd (List.mem_append_left _ w) (b.ds a ha)
      · rw [e] at w; cases w
  refine ⟨r, b.fr.trans f, b.sR.trans f.r, fun n p z => f.l n p (b.pL n p z), ?_, ?_, nR3 A (List.mem_cons_self ..), b.nd, fun a ha z => ?_, b.nw⟩
  · rw [keep A (List.mem_cons_self ..)]; exact b.hA
  · exact RepBs.mono f.r f.l _ _ _ (fun a ha => keep a (List.mem_cons_of_mem _ ha)) (fun a ha => nR3 a (List.mem_cons_of_mem _ ha)) b.hr
  · obtain ⟨n, u, e⟩ := b.lv a ha
    rcases List.mem_append.mp z with z | z
    · rcases f.o a z with w | w
      · exact b.ds a ha (List.mem_append_left _ w)
      · rw [e] at w; cases w
    · rcases f.lo a z with w | w
      · exact b.ds a ha (List.mem_append_right _ w)
      · rw [e] at w; cases w
theorem BlB.asg (b : BlB K G1 G H A G2 s σ H2 done us fp) (r : Rel K G3 s3 σ3 H2) (f : Fr true G2 H2 G3 H2) : BlB K G1 G H A G3 s3 σ3 H2 done us fp :=
  b.step r ⟨f.r, f.rn, f.l, f.o, f.lo, fun a u z _ _ => z, f.d, f.j⟩
theorem BlB.wipes (b : BlB K G1 G H A G2 s σ H2 done us fp) (vs : List Nat) : ∃ G3, BlB K G1 G H A G3 (wipeE s vs) (L2.wipe σ vs) H2 done us fp := by
  obtain ⟨O6, r6, hO6⟩ := b.rel.wipes vs
  refine ⟨⟨G2.R, G2.L, O6, G2.J⟩, r6, b.fr.own (g := []) (fun a ha => .inl (hO6 a ha)) (fun _ z => by cases z), b.sR, b.pL, b.hA, b.hr, b.nR, b.nd, fun a ha z => b.ds a ha ?_, b.nw⟩
  rcases List.mem_append.mp z with z | z
  · exact List.mem_append_left _ (hO6 _ z)
  · exact List.mem_append_right _ z
theorem BlB.app (b : BlB K G1 G H A G2 s σ H2 done us fp) {y : V} {x : B} {g : List Addr} (ry : RepB K G2.R G2.I H2 y x g) (hg : (g ++ (G2.O ++ G2.L)).Nodup) (hn : ∀ a ∈ g, a ∉ A :: fp) (hw : ∀ a ∈ g, H a = none) : BlB K G1 G H A G2 s σ (upd H2 A (.lst (us ++ [y]))) (done ++ [x]) (us ++ [y]) (fp ++ g) := by
  have lv := b.rel.env.live
  have nO : A ∉ G2.O ++ G2.L := b.ds A (List.mem_cons_self ..)
  have hAn : H A = none := b.nw A (List.mem_cons_self ..)
  have nAf : A ∉ fp := (List.nodup_cons.mp b.nd).1
  have nAg : A ∉ g := fun z => hn A z (List.mem_cons_self ..)
  have gn := RepB.live _ _ _ ry
  obtain ⟨g1, g2, g3⟩ := List.nodup_append.mp hg
  refine ⟨⟨fun a o z => ?_, RepE.mono (Same.refl _) (fun _ _ h => h) (fun a ha => ?_) (fun a ha => (lv a ha).1) b.rel.env, b.rel.nd, b.rel.nr, b.rel.len, b.rel.il, b.rel.pl, fun n cc z => ?_⟩, ⟨b.fr.r, b.fr.rn, b.fr.l, b.fr.o, b.fr.lo, fun a u z w1 w2 => ?_, fun a z => ?_, b.fr.j⟩, b.sR, b.pL, upd_same, ?_, b.nR, ?_, fun a ha => ?_, fun a ha => ?_⟩
  · have : a ≠ A := fun w => by rw [w, b.nR] at z; cases z
    rw [upd_ne this]; exact b.rel.sub _ _ z
  · exact upd_ne fun w => nO (by rw [← w]; exact List.mem_append_left _ ha)
  · obtain ⟨a, z1, z2⟩ := b.rel.sto n cc z
    exact ⟨a, z1, z2.mono (Same.refl _) (fun _ _ h => h) (upd_ne fun w => nO (by rw [← w]; exact List.mem_append_right _ (List.mem_of_getElem? z1)))⟩
  · have : a ≠ A := fun w => by rw [w, hAn] at z; cases z
    rw [upd_ne this]; exact b.fr.h a u z w1 w2
  · by_cases w : a = A
    · rw [w, upd_same]; simp
    · rw [upd_ne w]; exact b.fr.d a z
  · have r1 := RepBs.mono (K := K) (H' := upd H2 A (.lst (us ++ [y]))) (Same.refl G2.R) (fun _ _ h => h) _ _ _ (fun a ha => upd_ne fun w => nAf (by rw [← w]; exact ha)) (fun a ha => (b.lv a (List.mem_cons_of_mem _ ha)).1) b.hr
    have r2 := RepB.mono (K := K) (H' := upd H2 A (.lst (us ++ [y]))) (Same.refl G2.R) (fun _ _ h => h) _ _ _ (fun a ha => upd_ne fun w => nAg (by rw [← w]; exact ha)) (fun a ha => (gn a ha).1) ry
    have := r1.append (.cons r2 .nil)
    rw [List.append_nil] at this
    exact this
  · rw [← List.cons_append, List.nodup_append]
    exact ⟨b.nd, g1, fun a ha c hc e => hn c hc (e ▸ ha)⟩
  · rw [← List.cons_append] at ha
    rcases List.mem_append.mp ha with z | z
    · exact b.ds a z
    · exact fun w => g3 a z a w rfl
  · rw [← List.cons_append] at ha
    rcases List.mem_append.mp ha with z | z
    · exact b.nw a z
    · exact hw a z
end
section
variable {fi : EvA} {h : EvG} {c : EvT} {e : EvB}
theorem rd_lcB {K : PySem.W.Frag} {vs : List Nat} (σ : St) (H : Hp) (Q : VK) (q : tB K (bLcB vs fi h c e) σ H Q) : tLc (tI K fi) (tGw K vs h) (tT K c) (tB K e) vs σ H Q := by
  obtain ⟨G, s, rel, b, s9, e0, q⟩ := q
  obtain ⟨⟨ds, s1⟩, ea, eb⟩ := Option.bind_eq_some_iff.mp e0
  dsimp only at eb
  split at eb
  · rename_i hz
    obtain ⟨⟨out, s8⟩, ec, ed⟩ := Option.bind_eq_some_iff.mp eb
    cases ed
    refine ⟨G, s, rel, ds, s1, ea, fun G1 H1 rel1 fr1 J wk A hA => ?_⟩
    obtain ⟨r0, f0⟩ := rel1.lay (o := .lst []) hA
    have nA := rel1.fresh hA
    have hAn : H A = none := fr1.back hA
    have b0 : BlB K G1 G H A G1 s1 σ (upd H1 A (.lst [])) [] [] [] := ⟨r0, fr1.trans f0, Same.refl _, fun _ _ h => h, upd_same, .nil, rel1.sub.free hA, List.nodup_cons.mpr ⟨List.not_mem_nil, List.nodup_nil⟩, fun a ha => by cases List.mem_singleton.mp ha; exact nA, fun a ha => by cases List.mem_singleton.mp ha; exact hAn⟩
    obtain ⟨G0, b1⟩ := b0.wipes vs
    refine ⟨fun i m H' => ∃ G' s' done us fp, BlB K G1 G H A G' s' (L2.wipe σ vs) H' done us fp ∧ m = ds.length - i ∧ i ≤ ds.length ∧ done.length ≤ i ∧
      (∃ more, lcB vs h c e (ds.drop i) s' = some (more, s8) ∧ out = done ++ more) ∧ (∀ j ∈ vs, s'.env[j]? = some none ∨ s'.env[j]? = none),
      ⟨_, G0, wipeE s1 vs, [], [], [], b1, rfl, Nat.zero_le _, Nat.le_refl _, ⟨out, by simpa using ec, by simp⟩, fun j hj => wipeE_none vs s1 j hj⟩, ?_⟩
    rintro i m H2 ⟨G2, s2, done, us, fp, b2, em, hi, hd, ⟨more, e2, eo⟩, hw⟩
    obtain ⟨stop, go⟩ := wk G2.R G2.I H2 b2.sR b2.pL b2.rel.sub
    by_cases hl : i < ds.length
    · refine .inr ?_
      rw [List.drop_eq_getElem_cons hl] at e2
      obtain ⟨hgo, yl⟩ := go i ds[i] (List.getElem?_eq_getElem hl)
      refine ⟨hgo, fun H' => ∃ G' s' done us fp, BlB K G1 G H A G' s' (L2.wipe σ vs) H' done us fp ∧ done.length ≤ i + 1 ∧
          (∃ more, lcB vs h c e (ds.drop (i + 1)) s' = some (more, s8) ∧ out = done ++ more) ∧ (∀ j ∈ vs, s'.env[j]? = some none ∨ s'.env[j]? = none),
          fun H' ⟨G', s', done, us, fp, a1, a4, a2, a3⟩ => ⟨ds.length - (i + 1), by omega, G', s', done, us, fp, a1, rfl, hl, a4, a2, a3⟩, fun x H3 hy => ?_⟩
      obtain ⟨R3, x3, rx⟩ := yl x H3 hy
      obtain ⟨rel3, fr3⟩ := b2.rel.ext x3
      have b3 := b2.step rel3 fr3
      obtain ⟨s4, ef, eg⟩ := Option.bind_eq_some_iff.mp e2
      refine ⟨⟨R3, G2.L, G2.O, G2.J⟩, s2, _, s4, rel3, rx, ef, fun σ4 G4 rel4 fr4 ⟨eR4, eL4⟩ hw4 => ?_⟩
      have b4 := b3.asg rel4 fr4
      have hw4' : L2.wipe σ4 vs = L2.wipe σ vs := by rw [hw4, wipe_idem]
      refine ⟨hw4', ?_⟩
      obtain ⟨⟨k, s5⟩, eh, ei⟩ := Option.bind_eq_some_iff.mp eg
      refine ⟨G4, s4, rel4, k, s5, eh, fun G5 H5 rel5 fr5 => ?_⟩
      have b5 := b4.step rel5 fr5
      cases k with
      | false =>
        simp only [Bool.false_eq_true, if_false] at ei ⊢
        obtain ⟨G6, b6⟩ := b5.wipes vs
        rw [hw4'] at b6
        exact ⟨G6, wipeE s5 vs, done, us, fp, b6, by omega, ⟨more, ei, eo⟩, fun j hj => wipeE_none vs s5 j hj⟩
      | true =>
        simp only [if_true] at ei ⊢
        obtain ⟨⟨d6, s6⟩, ej, ek⟩ := Option.bind_eq_some_iff.mp ei
        obtain ⟨⟨more', s7⟩, el, em2⟩ := Option.bind_eq_some_iff.mp ek
        cases em2
        refine ⟨G5, s5, rel5, d6, s6, ej, fun G6 H6 rel6 fr6 y g ry hg hn => ?_⟩
        have b6 := b5.step rel6 fr6
        have hus : us.length = done.length := b6.hr.length
        refine ⟨us, b6.hA, by omega, ?_⟩
        have b7 := b6.app ry hg (fun a ha z => by
          obtain ⟨_, u, eu⟩ := b5.lv a z
          rw [hn a ha] at eu; cases eu) (fun a ha => b5.fr.back (hn a ha))
        obtain ⟨G8, b8⟩ := b7.wipes vs
        rw [hw4'] at b8
        exact ⟨G8, wipeE s6 vs, done ++ [d6], us ++ [y], fp ++ g, b8, by rw [List.length_append, List.length_singleton]; omega, ⟨more', el, by rw [eo, List.append_assoc]; rfl⟩, fun j hj => wipeE_none vs s6 j hj⟩
    · have ei : i = ds.length := by omega
      subst ei
      rw [List.drop_length] at e2
      cases e2
      rw [List.append_nil] at eo
      subst eo
      refine .inl ⟨stop, ?_⟩
      have bu := b2.sig (b2.rel.env.unwipe hw)
      refine q G2 H2 bu.rel bu.fr (.ref A) (A :: fp) (RepB.o bu.hA bu.nR bu.hr) ?_ bu.nw
      rw [List.nodup_append]
      exact ⟨bu.nd, bu.rel.nd, fun a ha c hc e => bu.ds a ha (e ▸ hc)⟩
  · cases eb
end
section
variable {X : Cx} {elt tg iter : Expr} {ifs : List Expr} {scope : Scope} {own : List (Str × Nat)} {pos spos : Pos} {fi : EvA} {h : EvG} {c : EvT} {e : EvB}
theorem ss_setLcB {i : Nat} {y : Str} {py : Pos} (hc : X.calm = true) (hN : X.N.Nodup) (hy : X.N[i]? = some y) (hyl : X.env.scope.names.lookup y = some .local)
    (hsw : swapsWith (.ListComp elt [⟨tg, iter, ifs, 0⟩] scope pos) (some (.Name y py)) spos.line X.env = pure true) (hi : SI X tg iter fi) (ok : BlkOk X.N X.env.scope scope own)
    (hg : ∀ (s : Shared) (H : Hp) (C : Addr) (cl : List (Str × Addr)) (fp : List Addr), SGw (X.blk s H scope (compEnvC scope cl C X.env) fp) (own.map (·.2)) tg h) (ht : ∀ (s : Shared) (H : Hp) (C : Addr) (cl : List (Str × Addr)) (fp : List Addr), STs (X.blk s H scope (compEnvC scope cl C X.env) fp) ifs c)
    (he : ∀ (s : Shared) (H : Hp) (C : Addr) (cl : List (Str × Addr)) (fp : List Addr), SB (X.blk s H scope (compEnvC scope cl C X.env) fp) elt e) (hs : ∀ x, foldedSetIterable iter X.env x = pure x := by intro _; rfl) :
    SS X (.Assign [.Name y py] (.ListComp elt [⟨tg, iter, ifs, 0⟩] scope pos) spos) (sSetB i (bLcB (own.map (·.2)) fi h c e)) :=
  ps_imp (ps_setLc hc hN hy hyl hsw hi ok hg ht he hs) fun D σ H ⟨G, s, rel, d, s1, e1, q⟩ => by
    obtain ⟨⟨d0, s0⟩, ea, eb⟩ := Option.bind_eq_some_iff.mp e1
    cases eb
    refine rd_lcB σ H _ ⟨G, s, rel, d0, s0, ea, fun G1 H1 rel1 fr1 v fp rv hn hg => ?_⟩
    obtain ⟨G', q'⟩ := set_end (i := i) (Q := fun o G' _ σ' H' => outOk X.K D G H o G' σ' H') rel1 rv hn fr1.weak hg ⟨_, _, rfl, q⟩
    exact q'
theorem b_lcB (hc : X.calm = true) (hN : X.N.Nodup) (hi : SI X tg iter fi) (ok : BlkOk X.N X.env.scope scope own)
    (hg : ∀ (s : Shared) (H : Hp) (C : Addr) (cl : List (Str × Addr)) (fp : List Addr), SGw (X.blk s H scope (compEnvC scope cl C X.env) fp) (own.map (·.2)) tg h) (ht : ∀ (s : Shared) (H : Hp) (C : Addr) (cl : List (Str × Addr)) (fp : List Addr), STs (X.blk s H scope (compEnvC scope cl C X.env) fp) ifs c)
    (he : ∀ (s : Shared) (H : Hp) (C : Addr) (cl : List (Str × Addr)) (fp : List Addr), SB (X.blk s H scope (compEnvC scope cl C X.env) fp) elt e) (hs : ∀ x, foldedSetIterable iter X.env x = pure x := by intro _; rfl) :
    SB X (.ListComp elt [⟨tg, iter, ifs, 0⟩] scope pos) (bLcB (own.map (·.2)) fi h c e) := pe_imp (pe_lc hc hN hi ok hg ht he hs) fun σ H Q q => rd_lcB σ H Q q
end
section
variable {own : List Nat} {fi : EvA} {h : EvG} {c : EvT} {e : EvB} {s : Sta}
theorem bLcB_q : bLcB own fi h c e s = @bnd _ _ (fi s) ⟨fun p => if p.1.length ≤ sizeLine then @bnd _ _ (lcB own h c e p.1 (wipeE p.2 own)) ⟨fun r => some (.o r.1, r.2)⟩ else none⟩ := rfl
/-- one turn, without tests -/
def lcSB (own : List Nat) (h : EvG) (e : EvB) (d : D) (s : Sta) : Option (B × Sta) := @bnd _ _ (h d s) ⟨fun s1 => @bnd _ _ (e s1) ⟨fun q => some (q.1, wipeE q.2 own)⟩⟩
theorem lcB_all {α : Type} {g : α → D} (v : α → B) : ∀ (xs : List α), (∀ x ∈ xs, lcSB own h e (g x) s = some (v x, s)) → lcB own h tYes' e (xs.map g) s = some (xs.map v, s)
  | [], _ => rfl
  | x :: xs, H => by
    have h1 := H x (List.mem_cons_self ..)
    have ih := lcB_all v xs fun y hy => H y (List.mem_cons_of_mem _ hy)
    obtain ⟨s1, f1, f2⟩ := Option.bind_eq_some_iff.mp (show (h (g x) s).bind _ = _ from h1)
    obtain ⟨⟨q, s2⟩, f3, f4⟩ := Option.bind_eq_some_iff.mp (show (e s1).bind _ = _ from f2)
    cases f4
    rw [List.map_cons, lcB, f1]
    show ((e s1).bind fun q => (lcB own h tYes' e (xs.map g) (wipeE q.2 own)).bind fun r => some (q.1 :: r.1, r.2)) = _
    rw [f3, Option.bind_some, ih]
    rfl
end
end Ev

/-! sums over tuples too -/
namespace Ev
open PySem L2
open PyProof.Rows (IntsAre)
def bSumU : List D → Option D
  | [.tup xs] => (asInts xs).map fun ns => .int ns.sum
  | ds => bSum ds
section
variable {X : Cx}
theorem cr_sumT (hc : X.calm = true) : CallR X (.builtin "sum") (fun vs H Q => ∃ (a : Addr) (ns : List Int), vs = [V.ref a] ∧ SqT X.K H a (ns.map V.int) ∧ Q (.int ns.sum) H) := by
  intro pins s σ H vs us Q I r h
  obtain ⟨a, ns, rfl, hs, q⟩ := h
  obtain ⟨its, rv, hl, _⟩ := I.tuple hs
  rw [Vals.ref1 r]
  have hi := rv.ints
  obtain ⟨xs, e⟩ := hi.allInts.items
  have hn : numsOf (intItems xs).toList = ns := by rw [← e]; exact hi.numsOf
  rw [nums_intItems] at hn
  rw [e] at hl
  refine PySem.W.ktm_sumG (I.ok.hd hc) hl fun h' tk t' hk => ?_
  rw [preSum_eq, List.take_of_length_le (by simp), hn]
  exact ⟨.int _, H, I.kept hk, ⟨_, rfl⟩, q⟩
theorem c_sumU (hc : X.calm = true) : CallR X (.builtin "sum") (GL X.K bSumU) := by
  intro pins s σ H vs us Q I r ⟨R, L, ds, d, sub, hr, e, q⟩
  by_cases c : ∃ xs, ds = [.tup xs]
  · obtain ⟨xs, rfl⟩ := c
    obtain ⟨ns, e1, rfl⟩ := Option.map_eq_some_iff.mp (show (asInts xs).map _ = _ from e)
    obtain rfl := asInts_inv e1
    obtain ⟨v, rfl, hv⟩ := reps1 hr
    cases hv with
    | tup h t =>
      obtain rfl := Reps.of_ints t
      exact cr_sumT hc pins s σ H _ us Q I r ⟨_, ns, rfl, sqT_mono sub h, q.now sub (.int _)⟩
  · have e' : bSum ds = some d := by
      rw [← e]
      unfold bSumU
      split
      · exact absurd ⟨_, rfl⟩ c
      · rfl
    exact c_sum hc pins s σ H vs us Q I r ⟨R, L, ds, d, sub, hr, e', q⟩
end
theorem sumU_l (ps : List Int) : bSumU [.lst (ps.map D.int)] = some (.int ps.sum) := sum_ints ps
theorem sumU_t (ps : List Int) : bSumU [.tup (ps.map D.int)] = some (.int ps.sum) := by
  show (asInts (ps.map D.int)).map _ = _
  rw [asInts_map]; rfl
end Ev

/-! extend by a fresh list -/
namespace Ev
open PySem L2
def extK (i : Nat) (p : List Nat) (xs : List B) : B × Sta → Option (D × Sta)
  | (.o ys, s) => if xs.length + ys.length ≤ sizeLine then some (.non, mutS i p (xs ++ ys) s) else none
  | _ => none
def mExt (i : Nat) (fp : EvP) (fe : EvB) : EvE := fun s => (fp s).bind fun p => (own? i p.1 p.2).bind fun _ => (fe p.2).bind fun q => (own? i p.1 q.2).bind fun xs => extK i p.1 xs q
section
variable {X : Cx} {e o b : Expr} {f : EvP} {gb : EvB} {pos apos cpos : Pos} {i : Nat}
theorem m_ext (ho : SP X i o f) (he : SB X e gb) (hbase : attributeBase o "extend" X.env (eval o X.env) = eval o X.env := by rfl)
    (hfew : ((backTo cpos (starEach [e] X.env)).all (fun x => !x.1) && (backToKw cpos (keywordEach [] X.env)).all (fun x => x.1.isSome) && decide ([e].length + ([] : List Keyword).length + (if ([] : List Keyword).isEmpty then 0 else 1) < 30)) = true := by rfl)
    (hline : (apos.endLine == cpos.line) = true := by rfl) (hs : starEach [e] X.env = (false, eval e X.env) :: starEach [] X.env := by rfl) (hplain : (backTo cpos (starEach [] X.env)).any (·.1) = false := by rfl) :
    SM X (.Call (.Attribute o "extend" apos) [e] [] cpos) (mExt i f gb) :=
  pe_imp (pe_bm PySem.F.plainAttrs_list PySem.F.slot_list_extend PySem.F.type_list_extend mt_extend ho (pa_cons he pa_nil hs) hbase hfew hline hs hplain) fun σ H Q ⟨G, s, d9, s9, rel, e0, q⟩ => by
    obtain ⟨⟨p, s1⟩, ea, eb⟩ := Option.bind_eq_some_iff.mp e0
    obtain ⟨xs1, ec, ed⟩ := Option.bind_eq_some_iff.mp eb
    obtain ⟨⟨d, s2⟩, ee, ef⟩ := Option.bind_eq_some_iff.mp ed
    obtain ⟨xs2, eg, eh⟩ := Option.bind_eq_some_iff.mp ef
    cases d with
    | v d => cases eh
    | o ys =>
      have eh : (if xs2.length + ys.length ≤ sizeLine then some (D.non, mutS i p (xs2 ++ ys) s2) else none) = some (d9, s9) := eh
      split at eh
      · rename_i hz
        cases eh
        refine ⟨G, s, rel, p, s1, ea, fun G1 H1 rel1 fr1 v0 a e1 hp hO ⟨us, hus⟩ => ⟨.inl ⟨rfl, us, SqL.of hus⟩, G1, s1, rel1, .o ys, s2, ee, fun G2 H2 rel2 fr2 v fe rv hn hf => ?_⟩⟩
        obtain ⟨ws, fp0, z1, z2, z3, z4, z5, z6, z7⟩ := rel1.mutAt ec e1 hp fr2 rel2 eg
        have afe : a ∉ fe := fun h => by
          have := hf a h
          rw [hus] at this; cases this
        cases rv with
        | @o c zs _ fz hc nc hz2 =>
          have hv : RepBs X.K G2.R G2.I (upd H2 a (.lst (ws ++ zs))) zs ys fz := hz2.at_upd fun h => afe (List.mem_cons_of_mem _ h)
          have hr : RepBs X.K G2.R G2.I (upd H2 a (.lst (ws ++ zs))) (ws ++ zs) (xs2 ++ ys) (fp0 ++ fz) := (z3.at_upd z5).append hv
          obtain ⟨O', r', hO'⟩ := z7 _ _ _ fz hr (fun x => by simp only [List.count_append]; omega) (List.nodup_cons.mp hn).2
          have hw : ws.length + zs.length ≤ sizeLine := by rw [RepBs.length z3, RepBs.length hz2]; exact hz
          exact ⟨a, c, ws, zs, rfl, rfl, z1, hc, hw, q _ _ r' ((fr1.trans fr2).weak.mut z4 hO' fun c hc => fr1.back (hf c (List.mem_cons_of_mem _ hc))) _ .non⟩
      · cases eh
end
section
variable {i : Nat} {fp : EvP} {fb : EvB} {s : Sta}
theorem mExt_q : mExt i fp fb s = @bnd _ _ (fp s) ⟨fun p => @bnd _ _ (own? i p.1 p.2) ⟨fun _ => @bnd _ _ (fb p.2) ⟨fun q => @bnd _ _ (own? i p.1 q.2) ⟨fun xs => extK i p.1 xs q⟩⟩⟩⟩ := rfl
theorem extK_o {p : List Nat} {xs ys : List B} : extK i p xs (.o ys, s) = if xs.length + ys.length ≤ sizeLine then some (.non, mutS i p (xs ++ ys) s) else none := rfl
end
end Ev

/-! slices of lists with a step -/
namespace Ev
open PySem L2 PySem.Spec PyProof.Rows
def pickI {α : Type} (xs : List α) (is : List Nat) : List α := is.filterMap (xs[·]?)
def idxS (lo hi st : Option Int) (n : Nat) : List Nat := sliceRange (sliceBounds lo hi st n).1 (sliceBounds lo hi st n).2.1 (sliceBounds lo hi st n).2.2
def tSl3 (K : PySem.W.Frag) (te : TE) (tl th ts : TO) : TE := fun σ H Q => te σ H fun x H1 => tl σ H1 fun l H2 => th σ H2 fun u H3 => ts σ H3 fun k H4 => ∃ a xs, x = .ref a ∧ SqL K H4 a xs ∧ k ≠ some 0 ∧ (pickI xs (idxS l u k xs.length)).length ≤ sizeLine ∧ ∀ p, H4 p = none → Q (.ref p) (upd H4 p (.lst (pickI xs (idxS l u k xs.length))))
theorem vals_pick {xs : List V} {us : List Value} (r : Vals xs us) : ∀ is : List Nat, Vals (pickI xs is) (pickI us is)
  | [] => .nil
  | i :: is => by
    have ih := vals_pick r is
    unfold pickI at ih ⊢
    rw [List.filterMap_cons, List.filterMap_cons]
    cases e : xs[i]? with
    | none => rw [Vals.none_of r e]; exact ih
    | some x =>
      obtain ⟨u, h1, h2⟩ := Vals.get r e
      rw [h1]; exact .cons h2 ih
section
variable {X : Cx}
theorem pe_slice3 {e st : Expr} {te : TE} {lo hi : Option Expr} {tl th ts : TO} {pos p2 : Pos} (he : PE X e te) (hl : PO X lo tl) (hu : PO X hi th) (hst : PO X (some st) ts) : PE X (.Subscript e (.Slice lo hi (some st) p2) pos) (tSl3 X.K te tl th ts) := by
  refine ⟨fun pins s σ H Q I h => ?_⟩
  refine Subscript_ (thn (he.run pins s σ H _ I h) fun v s1 ⟨x, H1, I1, r1, q1⟩ => ?_)
  refine wpAny_Slice (thn (hl.run pins s1 σ H1 _ I1 q1) fun vl s2 ⟨l, H2, I2, pl, q2⟩ => thn (hu.run pins s2 σ H2 _ I2 q2) fun vu s3 ⟨u, H3, I3, pu, q3⟩ => thn (hst.run pins s3 σ H3 _ I3 q3) fun vs s4 ⟨k, H4, I4, ps, a, xs, ex, hx, h0, hlen, q⟩ => ?_)
  subst ex
  cases r1
  have I5 : Inv X pins σ H4 { s4 with heap := s4.heap.push { cls := .type "slice", data := .fields #[vl, vu, vs] } } := I4.kept (t' := s4.toks) fun b ob q => Heap.get?_push_of_some _ q
  obtain ⟨its, r, ht, hz⟩ := I5.list hx
  have hlen2 := r.length
  show wpAny (model X.prog X.w) X.A (subscriptTail e (.Slice lo hi (some st) p2) (.ref a) (.ref s4.heap.objs.size)) (EP X pins σ Q) X.xe { s4 with heap := s4.heap.push { cls := .type "slice", data := .fields #[vl, vu, vs] } }
  refine tail_any (ops := [.ref a, .ref s4.heap.objs.size]) ht.isList.typeIs (slot_list_getitem.lookup) ?_ (by with_unfolding_all rfl)
  refine wpAny_getItem_list_slice ht.isList (Heap.IsSliceOf.new _ vl vu vs) pl pu ps h0 ?_ (by rw [List.size_toArray]; omega)
  have ep : slicePick its.toArray l u k = (pickI its (idxS l u k xs.length)).toArray := by
    unfold slicePick pickI idxS
    rw [List.size_toArray, ← hlen2]
    simp only [List.getElem?_toArray]
  rw [ep]
  refine ⟨.ref _, _, I5.laid (t' := s4.toks) (o := .lst (pickI xs (idxS l u k xs.length))) (fun b ob q => Heap.get?_push_of_some _ q) (Nat.le_refl _) ?_, rfl, q _ (I5.hok.fresh (Nat.le_refl _))⟩
  exact ⟨hlen, _, 0, vals_pick r _, Heap.get?_push_size _ rfl⟩
end
/-! by values -/
def dPick (d : D) (lo hi st : Option Int) : Option D := match d with
  | .lst xs => if st ≠ some 0 ∧ (pickI xs (idxS lo hi st xs.length)).length ≤ sizeLine then some (.lst (pickI xs (idxS lo hi st xs.length))) else none
  | _ => none
def eCut3 (f : EvE) (lo hi st : EvO) : EvE := fun s => (f s).bind fun p => (lo p.2).bind fun q => (hi q.2).bind fun r => (st r.2).bind fun t => (dPick p.1 q.1 r.1 t.1).map fun d => (d, t.2)
theorem reps_pick {K : PySem.W.Frag} {R : Hp} {L : List Addr} {vs : List V} {xs : List D} (r : Reps K R L vs xs) : ∀ is : List Nat, Reps K R L (pickI vs is) (pickI xs is)
  | [] => .nil
  | i :: is => by
    have ih := reps_pick r is
    unfold pickI at ih ⊢
    rw [List.filterMap_cons, List.filterMap_cons]
    cases e : xs[i]? with
    | none =>
      have : vs[i]? = none := by
        have := List.getElem?_eq_none_iff.mp e
        exact List.getElem?_eq_none_iff.mpr (by rw [r.length]; exact this)
      rw [this]; exact ih
    | some x =>
      obtain ⟨v, h1, h2⟩ := r.get e
      rw [h1]; exact .cons h2 ih
section
variable {X : Cx} {m : Bool} {e st : Expr} {f : EvE} {lo hi : Option Expr} {fl fh fs : EvO} {pos p2 : Pos}
theorem s_cut3 (he : SX X m e f) (hl : SO X lo fl) (hh : SO X hi fh) (hs : SO X (some st) fs) : SX X m (.Subscript e (.Slice lo hi (some st) p2) pos) (eCut3 f fl fh fs) :=
  pe_imp (pe_slice3 he hl hh hs) fun σ H Q ⟨G, s, rel, w⟩ =>
    ⟨G, s, rel, (W.bind (k := fun d s => (fl s).bind fun q => (fh q.2).bind fun r => (fs r.2).bind fun t => (dPick d q.1 r.1 t.1).map fun d => (d, t.2)) w).imp fun d G1 s1 H1 rel1 _ w1 v rv =>
      ⟨G1, s1, rel1, (W.bind (k := fun l s => (fh s).bind fun r => (fs r.2).bind fun t => (dPick d l r.1 t.1).map fun d => (d, t.2)) w1).imp fun l G2 s2 H2 rel2 fr2 w2 =>
        ⟨G2, s2, rel2, (W.bind (k := fun h s => (fs s).bind fun t => (dPick d l h t.1).map fun d => (d, t.2)) w2).imp fun h G3 s3 H3 rel3 fr3 w3 =>
          ⟨G3, s3, rel3, (W.bind (k := fun k s => (dPick d l h k).map fun d => (d, s)) w3).imp fun k G4 s4 H4 rel4 fr4 w4 => by
            obtain ⟨d', e, q⟩ := w4.optE rel4
            have rv' := Rep.mono (((md_mono m fr2).trans (md_mono m fr3)).trans (md_mono m fr4)) (fun n p z => fr4.l n p (fr3.l n p (fr2.l n p z))) _ _ rv
            cases d with
            | lst xs =>
              simp only [dPick] at e
              split at e
              · rename_i hc
                cases e
                cases rv' with
                | @lst a zs _ h r =>
                  have hl := r.length
                  refine ⟨a, zs, rfl, .inl (rd_mono (md_sub m rel4) h), hc.1, ?_, fun p hp => q.newL (md_sub m rel4) ?_ hp⟩
                  · rw [hl, (reps_pick r _).length]; exact hc.2
                  · rw [hl]; exact reps_pick r _
              · cases e
            | _ => cases e⟩⟩⟩⟩
end
end Ev

/-! list(range(..)) of three -/
namespace Ev
open PySem PySem.Spec PyProof.Rows L2
def rgVC (i k : Int) (n : Nat) : List V := (List.range n).map fun x => V.int (i + (x : Nat) * k)
def tLR3 (ta : TA) : TE := fun σ H Q => ta σ H fun vs H1 => ∃ (i j k : Int) (n : Nat), vs = [.int i, .int j, .int k] ∧ RgC i j k n ∧ n ≤ 2 ^ 24 ∧ ∀ q, H1 q = none → Q (.ref q) (upd H1 q (.lst (rgVC i k n)))
section
variable {X : Cx} {a b c : Expr} {p p2 pos pos2 : Pos}
theorem pe_listRg3 {ta : TA} (hc : X.calm = true) (hg : Gl X "list") (hm : X.mg "list" = none) (hg2 : Gl X "range") (hm2 : X.mg "range" = none) (ha : PA X [a, b, c] ta)
    (hs : starEach [a, b, c] X.env = (false, eval a X.env) :: starEach [b, c] X.env := by rfl) (hpl : (backTo pos2 (starEach [b, c] X.env)).any (·.1) = false := by rfl)
    (na : starEach [Expr.Call (.Name "range" p2) [a, b, c] [] pos2] X.env = (false, eval (Expr.Call (.Name "range" p2) [a, b, c] [] pos2) X.env) :: starEach [] X.env := by rfl) :
    PE X (.Call (.Name "list" p) [.Call (.Name "range" p2) [a, b, c] [] pos2] [] pos) (tLR3 ta) := by
  refine ⟨fun pins s σ H Q I h => ?_⟩
  refine Call_ (ld_blt I hg hm boot_list (PyProof.Rows.callWith_type1 (args_cons ?_ na) na))
  refine Call_ (ld_blt I hg2 hm2 boot_range (PyProof.Rows.callWith_type1 (thn (ha.run pos2 pins s σ H _ I h) fun us s1 ⟨vs, H1, I1, r1, q1⟩ => ?_) hs hpl))
  obtain ⟨i, j, k, n, e, ⟨c0, c1, c2, c3⟩, c4, q⟩ := q1
  subst e
  cases r1 with
  | cons r rr =>
    cases rr with
    | cons r' rr =>
      cases rr with
      | cons r'' rr =>
        cases rr
        obtain ⟨t, rfl⟩ := r
        obtain ⟨t', rfl⟩ := r'
        obtain ⟨t'', rfl⟩ := r''
        refine call_range_3 c0 ?_ (.inl (PyProof.noPylong_small c1))
        refine args_nil ?_
        have I2 : Inv X pins σ H1 { s1 with heap := s1.heap.push { cls := .type "range", data := .fields #[.int i t, .int j t', .int k t''] } } := I1.kept (t' := s1.toks) fun b o e => Heap.get?_push_of_some _ e
        refine call_list_range (n := n) (I2.ok.hd hc) (IsRange.new _ _ _ _ _ _ _) c2 c3 c4 fun h' tk acc c' hk e' hi => ?_
        refine ⟨.ref _, upd H1 _ (.lst (rgVC i k n)), I2.laid hk (Nat.le_refl _) (show ObjOk X.prog X.w _ _ _ (.lst (rgVC i k n)) from ⟨?_, acc.toList, c', ?_, ?_⟩), rfl, q _ (I2.hok.fresh (Nat.le_refl _))⟩
        · unfold rgVC; rw [List.length_map, List.length_range, sizeLine_eq]; omega
        · have e : acc.toList.length = n := by rw [Array.length_toList]; exact hi.1
          unfold rgVC
          rw [← e]
          refine vals_of_get acc.toList _ fun x u hx => ?_
          obtain ⟨t, rfl⟩ := hi.2 x u (by rw [← hx, Array.getElem?_toList])
          exact ⟨t, rfl⟩
        · rw [Array.toArray_toList]; exact e'
def bRg3 (f : EvA) : EvB := fun s => (f s).bind fun p => ((dRange3 p.1).bind fun xs => if xs.length ≤ 2 ^ 24 then some xs else none).bind fun xs => some (.o (xs.map .v), p.2)
theorem reps_rgC {K : PySem.W.Frag} {R : Hp} {L : List Addr} {i c : Int} : ∀ (l : List Nat), Reps K R L (l.map fun k : Nat => V.int (i + k * c)) (l.map fun k : Nat => .int (i + k * c))
  | [] => .nil
  | k :: l => .cons (.int _) (reps_rgC l)
theorem b_rg3 {fa : EvA} (hc : X.calm = true) (hg : Gl X "list") (hm : X.mg "list" = none) (hg2 : Gl X "range") (hm2 : X.mg "range" = none) (ha : SA X [a, b, c] fa)
    (hs : starEach [a, b, c] X.env = (false, eval a X.env) :: starEach [b, c] X.env := by rfl) (hpl : (backTo pos2 (starEach [b, c] X.env)).any (·.1) = false := by rfl)
    (na : starEach [Expr.Call (.Name "range" p2) [a, b, c] [] pos2] X.env = (false, eval (Expr.Call (.Name "range" p2) [a, b, c] [] pos2) X.env) :: starEach [] X.env := by rfl) :
    SB X (.Call (.Name "list" p) [.Call (.Name "range" p2) [a, b, c] [] pos2] [] pos) (bRg3 fa) :=
  pe_imp (pe_listRg3 hc hg hm hg2 hm2 ha hs hpl na) fun σ H Q ⟨G, s, rel, d, s9, e, q⟩ => by
    obtain ⟨⟨ds, s1⟩, ea, eb⟩ := Option.bind_eq_some_iff.mp e
    refine ⟨G, s, rel, ds, s1, ea, fun G1 H1 rel1 fr1 vs rv => ?_⟩
    have w : W X.K (((dRange3 ds).bind fun xs => if xs.length ≤ 2 ^ 24 then some xs else none).bind fun xs => some (B.o (xs.map .v), s1)) G1 σ H1 (fun b G' _ H' => ∀ v fp, RepB X.K G'.R G'.I H' v b fp → (fp ++ (G'.O ++ G'.L)).Nodup → (∀ a ∈ fp, H a = none) → Q v H') :=
      ⟨_, _, eb, fun G2 H2 r2 f2 => q G2 H2 r2 (fr1.trans f2)⟩
    obtain ⟨xs, e1, q1⟩ := w.optB rel1 (fun a h => fr1.back h)
    obtain ⟨ys, e2, e3⟩ := Option.bind_eq_some_iff.mp e1
    split at e3
    · rename_i hz
      cases e3
      obtain ⟨i, j, c, rfl, hj, rfl⟩ := dRange3_inv e2
      rw [List.length_map, List.length_range] at hz
      cases rv with
      | cons r1 r2 =>
        cases r2 with
        | cons r2 r3 =>
          cases r3 with
          | cons r3 r4 =>
            cases r4; cases r1; cases r2; cases r3
            exact ⟨i, j, c, _, rfl, hj, hz, fun q hq => q1 q _ G1.R H1 (Ext.refl rel1.sub) hq (reps_rgC _)⟩
    · cases e3
end
section
variable {s : Sta} {f : EvE} {fa : EvA} {lo hi st : EvO}
theorem bRg3_q : bRg3 fa s = @bnd _ _ (fa s) ⟨fun p => @bnd _ _ (@bnd _ _ (dRange3 p.1) ⟨fun xs => if xs.length ≤ 2 ^ 24 then some xs else none⟩) ⟨fun xs => some (.o (xs.map .v), p.2)⟩⟩ := rfl
theorem eCut3_q : eCut3 f lo hi st s = @bnd _ _ (f s) ⟨fun p => @bnd _ _ (lo p.2) ⟨fun q => @bnd _ _ (hi q.2) ⟨fun r => @bnd _ _ (st r.2) ⟨fun t => @bnd _ _ (dPick p.1 q.1 r.1 t.1) ⟨fun d => some (d, t.2)⟩⟩⟩⟩⟩ := by
  show (f s).bind _ = (f s).bind _
  congr 1; funext p
  show (lo p.2).bind _ = (lo p.2).bind _
  congr 1; funext q
  show (hi q.2).bind _ = (hi q.2).bind _
  congr 1; funext r
  show (st r.2).bind _ = (st r.2).bind _
  congr 1; funext t
  show (dPick p.1 q.1 r.1 t.1).map _ = (dPick p.1 q.1 r.1 t.1).bind _
  cases dPick p.1 q.1 r.1 t.1 <;> rfl
theorem fm_map {α β : Type} {f : α → Option β} {g : α → β} : ∀ l : List α, (∀ k ∈ l, f k = some (g k)) → l.filterMap f = l.map g
  | [], _ => rfl
  | k :: l, h => by rw [List.filterMap_cons, h k (List.mem_cons_self ..), List.map_cons, fm_map l fun q hq => h q (List.mem_cons_of_mem _ hq)]
/-- every step-th item from i on -/
theorem pick_seg {α : Type} [Inhabited α] {xs : List α} {i c : Int} (hi : 0 ≤ i) (hc : 0 < c) : pickI xs (idxS (some i) none (some c) xs.length) = (segC i xs.length c).map fun k => xs.getD k.toNat default := by
  have hb : sliceBounds (some i) none (some c) xs.length = (min i (xs.length : Int), (xs.length : Int), c) := by
    simp only [sliceBounds, Option.getD_some]
    rw [if_neg (show ¬ i < 0 by omega), if_pos hc, if_pos hc]
    congr 1
    omega
  unfold idxS
  rw [hb]
  dsimp only
  unfold sliceRange pickI
  simp only [show c > 0 from hc, if_true]
  rcases Int.lt_or_le i xs.length with h | h
  · rw [show min i (xs.length : Int) = i by omega, if_pos h]
    have e : (((xs.length : Int) - i + c - 1) / c).toNat = (((xs.length : Int) - i - 1) / c).toNat + 1 := by
      rw [show (xs.length : Int) - i + c - 1 = ((xs.length : Int) - i - 1) + c by omega, Int.add_ediv_of_dvd_right (Int.dvd_refl c), Int.ediv_self (by omega)]
      have := Int.ediv_nonneg (a := (xs.length : Int) - i - 1) (b := c) (by omega) (by omega)
      omega
    rw [e]
    unfold segC
    rw [if_pos h, List.map_map, List.filterMap_map]
    refine fm_map _ fun k hk => ?_
    have hk := List.mem_range.mp hk
    have m1 : (k : Int) ≤ ((xs.length : Int) - i - 1) / c := by
      have := Int.ediv_nonneg (a := (xs.length : Int) - i - 1) (b := c) (by omega) (by omega)
      omega
    have m2 := Int.mul_le_mul_of_nonneg_left m1 (show 0 ≤ c by omega)
    have m3 := Int.mul_ediv_self_le (x := (xs.length : Int) - i - 1) (k := c) (by omega)
    have m4 : 0 ≤ c * (k : Int) := Int.mul_nonneg (by omega) (by omega)
    have hlt : (i + c * (k : Int)).toNat < xs.length := by omega
    show xs[(i + c * (k : Int)).toNat]? = some (xs.getD (i + (k : Int) * c).toNat default)
    rw [Int.mul_comm (k : Int) c, List.getElem?_eq_getElem hlt, List.getD_eq_getElem?_getD, List.getElem?_eq_getElem hlt]; rfl
  · rw [show min i (xs.length : Int) = xs.length by omega, if_neg (by omega), segC_nil h]; rfl
end
end Ev

/-! tuples of whole numbers compared -/
namespace Ev
open PySem L2
def dLtU : D → D → Option D
  | .tup xs, .tup ys => (asInts xs).bind fun a => (asInts ys).bind fun b => some (.bl (HT.lexLt a b))
  | d, e => dLt d e
section
variable {X : Cx}
theorem o_ltU (hu : X.A.units < cLine) : OpR X (compareOp .Lt) (G2 X.K dLtU) := by
  intro pins s σ H x y v u Q I rx ry ⟨R, L, dx, dy, d, sub, hx, hy, e, q⟩
  by_cases c : ∃ xs ys, dx = .tup xs ∧ dy = .tup ys
  · obtain ⟨xs, ys, rfl, rfl⟩ := c
    obtain ⟨ns, e1, e2⟩ := Option.bind_eq_some_iff.mp (show (asInts xs).bind _ = _ from e)
    obtain ⟨ms, e3, e4⟩ := Option.bind_eq_some_iff.mp e2
    cases e4
    obtain rfl := asInts_inv e1
    obtain rfl := asInts_inv e3
    cases hx with
    | tup h t =>
      cases hy with
      | tup h' t' =>
        obtain rfl := Reps.of_ints t
        obtain rfl := Reps.of_ints t'
        exact op_ltT hu pins s σ H _ _ v u Q I rx ry ⟨_, _, ns, ms, rfl, rfl, sqT_mono sub h, sqT_mono sub h', q.now sub (.bl _)⟩
  · have e' : dLt dx dy = some d := by
      rw [← e]
      unfold dLtU
      split
      · exact absurd ⟨_, _, rfl, rfl⟩ c
      · rfl
    exact o_lt pins s σ H x y v u Q I rx ry ⟨R, L, dx, dy, d, sub, hx, hy, e', q⟩
end
theorem ltU_3 {a b c d e f : Int} : dLtU (.tup [.int a, .int b, .int c]) (.tup [.int d, .int e, .int f]) = some (.bl (if a = d then (if b = e then decide (c < f) else decide (b < e)) else decide (a < d))) := by
  show some (D.bl (HT.lexLt [a, b, c] [d, e, f])) = _
  rw [HT.lexLt_cons, HT.lexLt_cons, HT.lexLt_cons, HT.lexLt_nil_nil]
  by_cases h : c = f
  · rw [if_pos h, decide_eq_false (show ¬ c < f by omega)]
  · rw [if_neg h]
end Ev

/-! slices with a step, as lists of one's own -/
namespace Ev
open PySem L2 PySem.Spec PyProof.Rows
def lPick (d : D) (lo hi st : Option Int) : Option (List D) := match d with
  | .lst xs => if st ≠ some 0 ∧ (pickI xs (idxS lo hi st xs.length)).length ≤ sizeLine then some (pickI xs (idxS lo hi st xs.length)) else none
  | _ => none
def bCut3 (f : EvE) (lo hi st : EvO) : EvB := fun s => (f s).bind fun p => (lo p.2).bind fun q => (hi q.2).bind fun r => (st r.2).bind fun t => (lPick p.1 q.1 r.1 t.1).bind fun xs => some (.o (xs.map .v), t.2)
section
variable {X : Cx} {e st : Expr} {f : EvE} {lo hi : Option Expr} {fl fh fs : EvO} {pos p2 : Pos}
theorem b_cut3 (he : SE X e f) (hl : SO X lo fl) (hh : SO X hi fh) (hs : SO X (some st) fs) : SB X (.Subscript e (.Slice lo hi (some st) p2) pos) (bCut3 f fl fh fs) :=
  pe_imp (pe_slice3 he hl hh hs) fun σ H Q ⟨G, s, rel, b, s9, e0, q⟩ => by
    obtain ⟨⟨d, s1⟩, ea, eb⟩ := Option.bind_eq_some_iff.mp e0
    obtain ⟨⟨l, s2⟩, ec, ed⟩ := Option.bind_eq_some_iff.mp eb
    obtain ⟨⟨h, s3⟩, ee, ef⟩ := Option.bind_eq_some_iff.mp ed
    obtain ⟨⟨k, s4⟩, eg, eh⟩ := Option.bind_eq_some_iff.mp ef
    refine ⟨G, s, rel, _, s1, ea, fun G1 H1 rel1 fr1 v rv => ⟨G1, s1, rel1, l, s2, ec, fun G2 H2 rel2 fr2 => ⟨G2, s2, rel2, h, s3, ee, fun G3 H3 rel3 fr3 => ⟨G3, s3, rel3, k, s4, eg, fun G4 H4 rel4 fr4 => ?_⟩⟩⟩⟩
    have fr := ((fr1.trans fr2).trans fr3).trans fr4
    have w : W X.K ((lPick d l h k).bind fun ys => some (B.o (ys.map .v), s4)) G4 σ H4 (fun b G' _ H' => ∀ v fp, RepB X.K G'.R G'.I H' v b fp → (fp ++ (G'.O ++ G'.L)).Nodup → (∀ a ∈ fp, H a = none) → Q v H') :=
      ⟨_, _, eh, fun G5 H5 r5 f5 => q G5 H5 r5 (fr.trans f5)⟩
    obtain ⟨ys, e1, q1⟩ := w.optB rel4 (fun a h => fr.back h)
    cases d with
    | lst xs =>
      simp only [lPick] at e1
      split at e1
      · rename_i hc
        cases e1
        have rv' := Rep.mono ((fr2.r.trans fr3.r).trans fr4.r) (fun n p z => fr4.l n p (fr3.l n p (fr2.l n p z))) _ _ rv
        cases rv' with
        | @lst a zs _ hh r =>
          have hl := r.length
          refine ⟨a, zs, rfl, .inl (rd_mono rel4.sub hh), hc.1, ?_, fun p hp => q1 p _ G4.R H4 (Ext.refl rel4.sub) hp ?_⟩
          · rw [hl, (reps_pick r _).length]; exact hc.2
          · rw [hl]; exact reps_pick r _
      · cases e1
    | _ => cases e1
end
section
variable {s : Sta} {f : EvE} {lo hi st : EvO}
theorem bCut3_q : bCut3 f lo hi st s = @bnd _ _ (f s) ⟨fun p => @bnd _ _ (lo p.2) ⟨fun q => @bnd _ _ (hi q.2) ⟨fun r => @bnd _ _ (st r.2) ⟨fun t => @bnd _ _ (lPick p.1 q.1 r.1 t.1) ⟨fun xs => some (.o (xs.map .v), t.2)⟩⟩⟩⟩⟩ := rfl
end
end Ev

namespace K40
open PySem L2 Ev
def top (i : Nat) : Stmt := PySem.Challenge.pw_starlands_k40_whole_periods_of_light_cur.main.body.getD i (.Pass ⟨0, 0, 0, 0⟩)
structure Txt (K : PySem.W.Frag) (mg : Str → Option Value) : Prop where
  d_fraction : ∃ fd, FunD K "fraction" "fraction" (defArgs (top 2)) (defBody (top 2)) (defScope (top 2)) [] [] (He.ga K "fraction") fd
  m_fraction : mg "fraction" = some (.ref (He.ga K "fraction"))
  d_is_less : ∃ fd, FunD K "is_less" "is_less" (defArgs (top 3)) (defBody (top 3)) (defScope (top 3)) [] [] (He.ga K "is_less") fd
  m_is_less : mg "is_less" = some (.ref (He.ga K "is_less"))
  d_repeats : ∃ fd, FunD K "repeats" "repeats" (defArgs (top 5)) (defBody (top 5)) (defScope (top 5)) [] [] (He.ga K "repeats") fd
  m_repeats : mg "repeats" = some (.ref (He.ga K "repeats"))
  d_periods : ∃ fd, FunD K "periods" "periods" (defArgs (top 6)) (defBody (top 6)) (defScope (top 6)) [] [] (He.ga K "periods") fd
  m_periods : mg "periods" = some (.ref (He.ga K "periods"))
  d_least_errors : ∃ fd, FunD K "least_errors" "least_errors" (defArgs (top 7)) (defBody (top 7)) (defScope (top 7)) [] [] (He.ga K "least_errors") fd
  m_least_errors : mg "least_errors" = some (.ref (He.ga K "least_errors"))
  d_best_period : ∃ fd, FunD K "best_period" "best_period" (defArgs (top 8)) (defBody (top 8)) (defScope (top 8)) [] [] (He.ga K "best_period") fd
  m_best_period : mg "best_period" = some (.ref (He.ga K "best_period"))
  d_folded : ∃ fd, FunD K "folded" "folded" (defArgs (top 9)) (defBody (top 9)) (defScope (top 9)) [] [] (He.ga K "folded") fd
  m_folded : mg "folded" = some (.ref (He.ga K "folded"))
  d_law_cell : ∃ fd, FunD K "_law_cell" "_law_cell" (defArgs (top 11)) (defBody (top 11)) (defScope (top 11)) [] [] (He.ga K "_law_cell") fd
  m_law_cell : mg "_law_cell" = some (.ref (He.ga K "_law_cell"))
  d_law_digits : ∃ fd, FunD K "_law_digits" "_law_digits" (defArgs (top 12)) (defBody (top 12)) (defScope (top 12)) [] [] (He.ga K "_law_digits") fd
  m_law_digits : mg "_law_digits" = some (.ref (He.ga K "_law_digits"))
  d_law_draw : ∃ fd, FunD K "_law_draw" "_law_draw" (defArgs (top 13)) (defBody (top 13)) (defScope (top 13)) [] [] (He.ga K "_law_draw") fd
  m_law_draw : mg "_law_draw" = some (.ref (He.ga K "_law_draw"))
  d_law_pick : ∃ fd, FunD K "_law_pick" "_law_pick" (defArgs (top 14)) (defBody (top 14)) (defScope (top 14)) [] [] (He.ga K "_law_pick") fd
  m_law_pick : mg "_law_pick" = some (.ref (He.ga K "_law_pick"))
  d_law_same : ∃ fd, FunD K "_law_same" "_law_same" (defArgs (top 15)) (defBody (top 15)) (defScope (top 15)) [] [] (He.ga K "_law_same") fd
  m_law_same : mg "_law_same" = some (.ref (He.ga K "_law_same"))
  d_law_gcd : ∃ fd, FunD K "_law_gcd" "_law_gcd" (defArgs (top 16)) (defBody (top 16)) (defScope (top 16)) [] [] (He.ga K "_law_gcd") fd
  m_law_gcd : mg "_law_gcd" = some (.ref (He.ga K "_law_gcd"))
  d_law_low : ∃ fd, FunD K "_law_low" "_law_low" (defArgs (top 17)) (defBody (top 17)) (defScope (top 17)) [] [] (He.ga K "_law_low") fd
  m_law_low : mg "_law_low" = some (.ref (He.ga K "_law_low"))
  d_law_curve : ∃ fd, FunD K "_law_curve" "_law_curve" (defArgs (top 18)) (defBody (top 18)) (defScope (top 18)) [] [] (He.ga K "_law_curve") fd
  m_law_curve : mg "_law_curve" = some (.ref (He.ga K "_law_curve"))
  d_law_repeats : ∃ fd, FunD K "_law_repeats" "_law_repeats" (defArgs (top 19)) (defBody (top 19)) (defScope (top 19)) [] [] (He.ga K "_law_repeats") fd
  m_law_repeats : mg "_law_repeats" = some (.ref (He.ga K "_law_repeats"))
  d_law_folded : ∃ fd, FunD K "_law_folded" "_law_folded" (defArgs (top 20)) (defBody (top 20)) (defScope (top 20)) [] [] (He.ga K "_law_folded") fd
  m_law_folded : mg "_law_folded" = some (.ref (He.ga K "_law_folded"))
  d_law_errors : ∃ fd, FunD K "_law_errors" "_law_errors" (defArgs (top 21)) (defBody (top 21)) (defScope (top 21)) [] [] (He.ga K "_law_errors") fd
  m_law_errors : mg "_law_errors" = some (.ref (He.ga K "_law_errors"))
  d_law_best : ∃ fd, FunD K "_law_best" "_law_best" (defArgs (top 22)) (defBody (top 22)) (defScope (top 22)) [] [] (He.ga K "_law_best") fd
  m_law_best : mg "_law_best" = some (.ref (He.ga K "_law_best"))
  d_law : ∃ fd, FunD K "law" "law" (defArgs (top 23)) (defBody (top 23)) (defScope (top 23)) [] [] (He.ga K "law") fd
  m_law : mg "law" = some (.ref (He.ga K "law"))
  n_abs : mg "abs" = none
  n_all : mg "all" = none
  n_bool : mg "bool" = none
  n_int : mg "int" = none
  n_isinstance : mg "isinstance" = none
  n_len : mg "len" = none
  n_list : mg "list" = none
  n_min : mg "min" = none
  n_range : mg "range" = none
  n_repr : mg "repr" = none
  n_str : mg "str" = none
  n_sum : mg "sum" = none
  n_tuple : mg "tuple" = none
  n_zip : mg "zip" = none
  gcd : mg "gcd" = some (.builtin "math.gcd")
theorem sc_fraction : FnScope ["top", "bottom", "share"] ["top", "bottom"] (defScope (top 2)) := ⟨rfl, rfl, rfl, by decide +kernel, rfl, by decide +kernel, by decide +kernel⟩
theorem ok_fraction {P : Program} {W : World} {K : PySem.W.Frag} {mg : Str → Option Value} {base : Heap} (T : Txt K mg) : Ok P W K mg base "fraction" 2 1 true (F_fraction) := by
  obtain ⟨fd, D0⟩ := T.d_fraction
  have sc := sc_fraction
  refine Ok.mk' true T.m_fraction D0 sc (D0.bindsN fun _ _ _ _ _ _ us hl => match us, hl with | [_, _], _ => rfl) fun cdv A outer s H hr => ?_
  exact (ss_cons (ss_set (i := 2) sc.nd rfl (Or.inl rfl) (s_bfun c_gcd rfl T.gcd (a_cons (s_var 0) (a_cons (s_var 1) a_nil)))) (ss_cons (ss_if (t_cmp (m := true) o_lt (s_look 1) s_int (nomark _)) (ss_one (ss_set (i := 2) sc.nd rfl (Or.inl rfl) (s_un o_neg (s_var 2)))) ss_nil) (ss_one (ss_ret (s_tup (a_cons (s_bin o_fdiv (s_var 0) (s_var 2)) (a_cons (s_bin o_fdiv (s_var 1) (s_var 2)) a_nil)))))))
theorem sc_is_less : FnScope ["one", "other"] ["one", "other"] (defScope (top 3)) := ⟨rfl, rfl, rfl, by decide +kernel, rfl, by decide +kernel, by decide +kernel⟩
theorem ok_is_less {P : Program} {W : World} {K : PySem.W.Frag} {mg : Str → Option Value} {base : Heap} (T : Txt K mg) : Ok P W K mg base "is_less" 2 1 true (F_is_less) := by
  obtain ⟨fd, D0⟩ := T.d_is_less
  have sc := sc_is_less
  refine Ok.mk' true T.m_is_less D0 sc (D0.bindsN fun _ _ _ _ _ _ us hl => match us, hl with | [_, _], _ => rfl) fun cdv A outer s H hr => ?_
  exact (ss_one (ss_ret (s_cmp o_lt (s_bin o_mul (s_ix (s_var 0) s_int) (s_ix (s_var 1) s_int)) (s_bin o_mul (s_ix (s_var 1) s_int) (s_ix (s_var 0) s_int)) (nomark _))))
def b_repeats : EvS := (sRet (eL bAll (aCons (eFz (bLc [2, 3] (iA dZip (aCons (eV 0) (aCons (eCut (eV 0) (oSome (eV 1)) oNone) aNil))) (gT 2 (gsCons (gN 2) (gsCons (gN 3) gsNil))) tYes' (e2 dEq (eV 2) (eV 3)))) aNil)))
def F_repeats : Fn := fnF 2 4 (b_repeats)
theorem q_repeats {pu : Bool} {S : Sto} {d0 d1 : D} : F_repeats pu [d0, d1] S = @bnd _ _ (b_repeats ⟨[some (.v d0), some (.v d1), none, none], S, pu⟩) ⟨finK⟩ := fnF_q rfl
theorem sc_repeats : FnScope ["curve", "period", "one", "other"] ["curve", "period"] (defScope (top 5)) := ⟨rfl, rfl, rfl, by decide +kernel, rfl, by decide +kernel, by decide +kernel⟩
theorem ok_repeats {P : Program} {W : World} {K : PySem.W.Frag} {mg : Str → Option Value} {base : Heap} (T : Txt K mg) : Ok P W K mg base "repeats" 2 1 true (F_repeats) := by
  obtain ⟨fd, D0⟩ := T.d_repeats
  have sc := sc_repeats
  refine Ok.mk' true T.m_repeats D0 sc (D0.bindsN fun _ _ _ _ _ _ us hl => match us, hl with | [_, _], _ => rfl) fun cdv A outer s H hr => ?_
  exact (ss_one (ss_ret (s_blt (c_all rfl) rfl T.n_all bt_all (a_cons (s_frz (b_lc (own := [("one", 2), ("other", 3)]) rfl sc.nd (i_zip (by rfl) T.n_zip (a_cons (s_var 0) (a_cons (s_cut (s_var 0) (o_some (m := false) (s_var 1)) o_none) a_nil))) (blkOk_by (own := [("one", 2), ("other", 3)]) (N := ["curve", "period", "one", "other"]) (sc := defScope (top 5)) (by decide +kernel)) (fun _ _ _ _ _ => (gw_tup rfl (gsw_cons (gw_name 2 (by decide) sc.nd rfl (by first | exact Or.inl rfl | exact Or.inr rfl)) (gsw_cons (gw_name 3 (by decide) sc.nd rfl (by first | exact Or.inl rfl | exact Or.inr rfl)) gsw_nil)))) (fun _ _ _ _ _ => ts_nil) (fun _ _ _ _ _ => (s_cmp (o_eq hr.units) (s_var 2) (s_var 3) (nomark _))))) a_nil))))
def c1_periods : EvT := (eT (eL (pV (F_repeats)) (aCons (eW 0) (aCons (eW 1) aNil))))
def b_periods : EvS := (sRetB (bLc [1] (iA dRange2 (aCons (eC (.int 1)) (aCons (eL bLen (aCons (eV 0) aNil)) aNil))) (gN 1) c1_periods (eV 1)))
def F_periods : Fn := fnF 1 2 (b_periods)
theorem q_periods {pu : Bool} {S : Sto} {d0 : D} : F_periods pu [d0] S = @bnd _ _ (b_periods ⟨[some (.v d0), none], S, pu⟩) ⟨finK⟩ := fnF_q rfl
theorem sc_periods : FnScope ["curve", "period"] ["curve"] (defScope (top 6)) := ⟨rfl, rfl, rfl, by decide +kernel, rfl, by decide +kernel, by decide +kernel⟩
theorem ok_periods {P : Program} {W : World} {K : PySem.W.Frag} {mg : Str → Option Value} {base : Heap} (T : Txt K mg) : Ok P W K mg base "periods" 1 2 true (F_periods) := by
  obtain ⟨fd, D0⟩ := T.d_periods
  have sc := sc_periods
  refine Ok.mk' true T.m_periods D0 sc (D0.bindsN fun _ _ _ _ _ _ us hl => match us, hl with | [_], _ => rfl) fun cdv A outer s H hr => ?_
  exact (ss_one (ss_retB (b_lc (own := [("period", 1)]) rfl sc.nd (i_rng2 (by rfl) T.n_range (a_cons s_int (a_cons (s_blt c_len rfl T.n_len bt_len (a_cons (s_var 0) a_nil)) a_nil))) (blkOk_by (own := [("period", 1)]) (N := ["curve", "period"]) (sc := defScope (top 6)) (by decide +kernel)) (fun _ _ _ _ _ => (gw_name 1 (by decide) sc.nd rfl (by first | exact Or.inl rfl | exact Or.inr rfl))) (fun _ _ _ _ _ => (ts_one (t_val (m := true) (s_okP (ok_repeats T) (hr.mono (by decide)) rfl (a_cons (s_look 0) (a_cons (s_look 1) a_nil)) (aCons_len (aCons_len aNil_len)))))) (fun _ _ _ _ _ => (s_var 1)))))
def l1_least_errors : EvS := (sSeq (sSet 4 (eCut3 (eV 0) (oSome (eV 3)) oNone (oSome (eV 1)))) (sSeq (sSet 5 (eL bSum (aCons (eV 4) aNil))) (sSeq (sSet 6 (eL (pV (F_fraction)) (aCons (e2 dSub (e2 dMul (eL bSum (aCons (eFz (bLc [7] (iV (eV 4)) (gN 7) tYes' (e2 dMul (eV 7) (eV 7)))) aNil)) (eL bLen (aCons (eV 4) aNil))) (e2 dMul (eV 5) (eV 5))) (aCons (eL bLen (aCons (eV 4) aNil)) aNil)))) (sSet 2 (eL (pV (F_fraction)) (aCons (e2 dAdd (e2 dMul (e2 dIx (eV 2) (eC (.int 0))) (e2 dIx (eV 6) (eC (.int 1)))) (e2 dMul (e2 dIx (eV 6) (eC (.int 0))) (e2 dIx (eV 2) (eC (.int 1))))) (aCons (e2 dMul (e2 dIx (eV 2) (eC (.int 1))) (e2 dIx (eV 6) (eC (.int 1)))) aNil)))))))
def b_least_errors : EvS := (sSeq (sSet 2 (eL dTup (aCons (eC (.int 0)) (aCons (eC (.int 1)) aNil)))) (sSeq (sFor (iA dRange1 (aCons (eL bMinD (aCons (eV 1) (aCons (eL bLen (aCons (eV 0) aNil)) aNil))) aNil)) (gN 3) l1_least_errors) (sRet (eV 2))))
def F_least_errors : Fn := fnF 2 8 (b_least_errors)
theorem q_least_errors {pu : Bool} {S : Sto} {d0 d1 : D} : F_least_errors pu [d0, d1] S = @bnd _ _ (b_least_errors ⟨[some (.v d0), some (.v d1), none, none, none, none, none, none], S, pu⟩) ⟨finK⟩ := fnF_q rfl
theorem sc_least_errors : FnScope ["curve", "period", "found", "phase", "row", "total", "part", "count"] ["curve", "period"] (defScope (top 7)) := ⟨rfl, rfl, rfl, by decide +kernel, rfl, by decide +kernel, by decide +kernel⟩
theorem ok_least_errors {P : Program} {W : World} {K : PySem.W.Frag} {mg : Str → Option Value} {base : Heap} (T : Txt K mg) : Ok P W K mg base "least_errors" 2 2 true (F_least_errors) := by
  obtain ⟨fd, D0⟩ := T.d_least_errors
  have sc := sc_least_errors
  refine Ok.mk' true T.m_least_errors D0 sc (D0.bindsN fun _ _ _ _ _ _ us hl => match us, hl with | [_, _], _ => rfl) fun cdv A outer s H hr => ?_
  exact (ss_cons (ss_set (i := 2) sc.nd rfl (Or.inl rfl) (s_tup (a_cons s_int (a_cons s_int a_nil)))) (ss_cons (ss_for (i_rng1 (by rfl) T.n_range (a_cons (s_blt (c_minD rfl hr.units) rfl T.n_min bt_min (a_cons (s_var 1) (a_cons (s_blt c_len rfl T.n_len bt_len (a_cons (s_var 0) a_nil)) a_nil))) a_nil)) (g_name 3 sc.nd rfl (Or.inl rfl)) (ss_cons (ss_set (i := 4) sc.nd rfl (Or.inl rfl) (s_cut3 (s_var 0) (o_some (m := false) (s_var 3)) o_none (o_some (m := false) (s_var 1)))) (ss_cons (ss_set (i := 5) sc.nd rfl (Or.inl rfl) (s_blt (c_sum rfl) rfl T.n_sum bt_sum (a_cons (s_var 4) a_nil))) (ss_cons (ss_set (i := 6) sc.nd rfl (Or.inl rfl) (s_okP (ok_fraction T) (hr.mono (by decide)) rfl (a_cons (s_bin o_sub (s_bin o_mul (s_blt (c_sum rfl) rfl T.n_sum bt_sum (a_cons (s_frz (b_lc (own := [("count", 7)]) rfl sc.nd (i_any (s_var 4)) (blkOk_by (own := [("count", 7)]) (N := ["curve", "period", "found", "phase", "row", "total", "part", "count"]) (sc := defScope (top 7)) (by decide +kernel)) (fun _ _ _ _ _ => (gw_name 7 (by decide) sc.nd rfl (by first | exact Or.inl rfl | exact Or.inr rfl))) (fun _ _ _ _ _ => ts_nil) (fun _ _ _ _ _ => (s_bin o_mul (s_var 7) (s_var 7))))) a_nil)) (s_blt c_len rfl T.n_len bt_len (a_cons (s_var 4) a_nil))) (s_bin o_mul (s_var 5) (s_var 5))) (a_cons (s_blt c_len rfl T.n_len bt_len (a_cons (s_var 4) a_nil)) a_nil)) (aCons_len (aCons_len aNil_len)))) (ss_one (ss_set (i := 2) sc.nd rfl (Or.inl rfl) (s_okP (ok_fraction T) (hr.mono (by decide)) rfl (a_cons (s_bin o_add (s_bin o_mul (s_ix (s_var 2) s_int) (s_ix (s_var 6) s_int)) (s_bin o_mul (s_ix (s_var 6) s_int) (s_ix (s_var 2) s_int))) (a_cons (s_bin o_mul (s_ix (s_var 2) s_int) (s_ix (s_var 6) s_int)) a_nil)) (aCons_len (aCons_len aNil_len))))))))) (ss_one (ss_ret (s_var 2)))))
def l1_best_period : EvS := (sSeq (sSet 5 (eL (pV (F_least_errors)) (aCons (eV 0) (aCons (eV 4) aNil)))) (sSeq (sSet 6 (eL (pV (F_fraction)) (aCons (e2 dIx (eV 5) (eC (.int 0))) (aCons (e2 dMul (e2 dIx (eV 5) (eC (.int 1))) (e2 dSub (eL bLen (aCons (eV 0) aNil)) (eV 4))) aNil)))) (sIf (wOr (eTb (e2 dIs (eW 3) (eC .non))) (eT (eL (pV (F_is_less)) (aCons (eW 6) (aCons (e2 dIx (eW 3) (eC (.int 0))) aNil))))) (sSet 3 (eL dTup (aCons (eV 6) (aCons (eV 4) aNil)))) sNil)))
def b_best_period : EvS := (sSeq (sSet 3 (eC .non)) (sSeq (sFor (iA dRange2 (aCons (eV 1) (aCons (e2 dAdd (eV 2) (eC (.int 1))) aNil))) (gN 4) l1_best_period) (sRet (e2 dIx (eV 3) (eC (.int 1))))))
def F_best_period : Fn := fnF 3 7 (b_best_period)
theorem q_best_period {pu : Bool} {S : Sto} {d0 d1 d2 : D} : F_best_period pu [d0, d1, d2] S = @bnd _ _ (b_best_period ⟨[some (.v d0), some (.v d1), some (.v d2), none, none, none, none], S, pu⟩) ⟨finK⟩ := fnF_q rfl
theorem sc_best_period : FnScope ["curve", "low", "high", "best", "period", "errors", "share"] ["curve", "low", "high"] (defScope (top 8)) := ⟨rfl, rfl, rfl, by decide +kernel, rfl, by decide +kernel, by decide +kernel⟩
theorem ok_best_period {P : Program} {W : World} {K : PySem.W.Frag} {mg : Str → Option Value} {base : Heap} (T : Txt K mg) : Ok P W K mg base "best_period" 3 3 true (F_best_period) := by
  obtain ⟨fd, D0⟩ := T.d_best_period
  have sc := sc_best_period
  refine Ok.mk' true T.m_best_period D0 sc (D0.bindsN fun _ _ _ _ _ _ us hl => match us, hl with | [_, _, _], _ => rfl) fun cdv A outer s H hr => ?_
  exact (ss_cons (ss_set (i := 3) sc.nd rfl (Or.inl rfl) s_non) (ss_cons (ss_for (i_rng2 (by rfl) T.n_range (a_cons (s_var 1) (a_cons (s_bin o_add (s_var 2) s_int) a_nil))) (g_name 4 sc.nd rfl (Or.inl rfl)) (ss_cons (ss_set (i := 5) sc.nd rfl (Or.inl rfl) (s_okP (ok_least_errors T) (hr.mono (by decide)) rfl (a_cons (s_var 0) (a_cons (s_var 4) a_nil)) (aCons_len (aCons_len aNil_len)))) (ss_cons (ss_set (i := 6) sc.nd rfl (Or.inl rfl) (s_okP (ok_fraction T) (hr.mono (by decide)) rfl (a_cons (s_ix (s_var 5) s_int) (a_cons (s_bin o_mul (s_ix (s_var 5) s_int) (s_bin o_sub (s_blt c_len rfl T.n_len bt_len (a_cons (s_var 0) a_nil)) (s_var 4))) a_nil)) (aCons_len (aCons_len aNil_len)))) (ss_one (ss_if (PW.pt (w_or (t_cmp (m := true) o_is (s_look 3) s_non (nomark _)) (w_or1 (t_val (m := true) (s_okP (ok_is_less T) (hr.mono (by decide)) rfl (a_cons (s_look 6) (a_cons (s_ix (s_look 3) s_int) a_nil)) (aCons_len (aCons_len aNil_len))))))) (ss_one (ss_set (i := 3) sc.nd rfl (Or.inl rfl) (s_tup (a_cons (s_var 6) (a_cons (s_var 4) a_nil))))) ss_nil))))) (ss_one (ss_ret (s_ix (s_var 3) s_int)))))
def e1_folded : EvB := (bCut3 (eV 0) (oSome (eV 2)) oNone (oSome (eV 1)))
def b_folded : EvS := (sRetB (bLcB [2] (iA dRange1 (aCons (eV 1) aNil)) (gN 2) tYes' e1_folded))
def F_folded : Fn := fnF 2 3 (b_folded)
theorem q_folded {pu : Bool} {S : Sto} {d0 d1 : D} : F_folded pu [d0, d1] S = @bnd _ _ (b_folded ⟨[some (.v d0), some (.v d1), none], S, pu⟩) ⟨finK⟩ := fnF_q rfl
theorem sc_folded : FnScope ["curve", "period", "phase"] ["curve", "period"] (defScope (top 9)) := ⟨rfl, rfl, rfl, by decide +kernel, rfl, by decide +kernel, by decide +kernel⟩
theorem ok_folded {P : Program} {W : World} {K : PySem.W.Frag} {mg : Str → Option Value} {base : Heap} (T : Txt K mg) : Ok P W K mg base "folded" 2 1 true (F_folded) := by
  obtain ⟨fd, D0⟩ := T.d_folded
  have sc := sc_folded
  refine Ok.mk' true T.m_folded D0 sc (D0.bindsN fun _ _ _ _ _ _ us hl => match us, hl with | [_, _], _ => rfl) fun cdv A outer s H hr => ?_
  exact (ss_one (ss_retB (b_lcB (own := [("phase", 2)]) rfl sc.nd (i_rng1 (by rfl) T.n_range (a_cons (s_var 1) a_nil)) (blkOk_by (own := [("phase", 2)]) (N := ["curve", "period", "phase"]) (sc := defScope (top 9)) (by decide +kernel)) (fun _ _ _ _ _ => (gw_name 2 (by decide) sc.nd rfl (by first | exact Or.inl rfl | exact Or.inr rfl))) (fun _ _ _ _ _ => ts_nil) (fun _ _ _ _ _ => (b_cut3 (s_var 0) (o_some (m := false) (s_var 2)) o_none (o_some (m := false) (s_var 1)))))))
theorem sc_law_cell : FnScope ["script", "k"] ["script", "k"] (defScope (top 11)) := ⟨rfl, rfl, rfl, by decide +kernel, rfl, by decide +kernel, by decide +kernel⟩
theorem ok_law_cell {P : Program} {W : World} {K : PySem.W.Frag} {mg : Str → Option Value} {base : Heap} (T : Txt K mg) : Ok P W K mg base "_law_cell" 2 1 true (F_law_cell) := by
  obtain ⟨fd, D0⟩ := T.d_law_cell
  have sc := sc_law_cell
  refine Ok.mk' true T.m_law_cell D0 sc (D0.bindsN fun _ _ _ _ _ _ us hl => match us, hl with | [_, _], _ => rfl) fun cdv A outer s H hr => ?_
  exact (ss_cons (ss_if (t_cmp (m := true) o_lt (s_look 1) (s_blt c_len rfl T.n_len bt_len (a_cons (s_look 0) a_nil)) (nomark _)) (ss_one (ss_ret (s_ix (s_var 0) (s_var 1)))) ss_nil) (ss_one (ss_ret s_int)))
theorem sc_law_digits : FnScope ["script", "first", "last", "digits", "k", "cell", "turn", "seed"] ["script", "first", "last"] (defScope (top 12)) := ⟨rfl, rfl, rfl, by decide +kernel, rfl, by decide +kernel, by decide +kernel⟩
theorem ok_law_digits {P : Program} {W : World} {K : PySem.W.Frag} {mg : Str → Option Value} {base : Heap} (T : Txt K mg) : Ok P W K mg base "_law_digits" 3 2 true (F_law_digits) := by
  obtain ⟨fd, D0⟩ := T.d_law_digits
  have sc := sc_law_digits
  refine Ok.mk' true T.m_law_digits D0 sc (D0.bindsN fun _ _ _ _ _ _ us hl => match us, hl with | [_, _, _], _ => rfl) fun cdv A outer s H hr => ?_
  exact (ss_cons (ss_setB (i := 3) sc.nd rfl (Or.inl rfl) (b_lst a_nil)) (ss_cons (ss_for (i_rng2 (by rfl) T.n_range (a_cons (s_var 1) (a_cons (s_var 2) a_nil))) (g_name 4 sc.nd rfl (Or.inl rfl)) (ss_cons (ss_set (i := 5) sc.nd rfl (Or.inl rfl) (s_okP (ok_law_cell T) (hr.mono (by decide)) rfl (a_cons (s_var 0) (a_cons (s_var 4) a_nil)) (aCons_len (aCons_len aNil_len)))) (ss_cons (ss_if (t_cmp (m := true) o_lt (s_look 5) s_int (nomark _)) (ss_one (ss_set (i := 5) sc.nd rfl (Or.inl rfl) (s_bin o_sub s_int (s_bin o_mul s_int (s_var 5))))) ss_nil) (ss_one (ss_if (t_cmp (m := true) o_ge (s_look 5) (s_bin o_pow s_int s_int) (nomark _)) (ss_one (ss_for (i_rng1 (by rfl) T.n_range (a_cons s_int a_nil)) (g_name 6 sc.nd rfl (Or.inl rfl)) (ss_one (ss_if (t_cmp (m := true) o_gt (s_look 5) s_int (nomark _)) (ss_cons (ss_expM (m_app p_name (s_bin o_mod (s_bty c_int rfl T.n_int bt_int (a_cons (s_var 5) a_nil)) s_int))) (ss_one (ss_set (i := 5) sc.nd rfl (Or.inl rfl) (s_bin o_fdiv (s_var 5) s_int)))) ss_nil)))) (ss_cons (ss_set (i := 7) sc.nd rfl (Or.inl rfl) (s_bin o_mod (s_bty c_int rfl T.n_int bt_int (a_cons (s_bin o_add (s_bin o_add (s_bin o_mul (s_var 5) s_int) (s_bin o_mul (s_var 4) s_int)) s_int) a_nil)) s_int)) (ss_one (ss_for (i_rng1 (by rfl) T.n_range (a_cons s_int a_nil)) (g_name 6 sc.nd rfl (Or.inl rfl)) (ss_cons (ss_set (i := 7) sc.nd rfl (Or.inl rfl) (s_bin o_mod (s_bty c_int rfl T.n_int bt_int (a_cons (s_bin o_add (s_bin o_add (s_bin o_mul (s_var 7) s_int) (s_bin o_mul s_int (s_var 6))) s_int) a_nil)) s_int)) (ss_one (ss_expM (m_app p_name (s_bin o_mod (s_bty c_int rfl T.n_int bt_int (a_cons (s_bin o_fdiv (s_var 7) s_int) a_nil)) s_int))))))))))))) (ss_one (ss_ret (s_var 3)))))
theorem sc_law_draw : FnScope ["box", "many"] ["box", "many"] (defScope (top 13)) := ⟨rfl, rfl, rfl, by decide +kernel, rfl, by decide +kernel, by decide +kernel⟩
theorem ok_law_draw {P : Program} {W : World} {K : PySem.W.Frag} {mg : Str → Option Value} {base : Heap} (T : Txt K mg) : Ok P W K mg base "_law_draw" 2 1 false (F_law_draw) := by
  obtain ⟨fd, D0⟩ := T.d_law_draw
  have sc := sc_law_draw
  refine Ok.mk' false T.m_law_draw D0 sc (D0.bindsN fun _ _ _ _ _ _ us hl => match us, hl with | [_, _], _ => rfl) fun cdv A outer s H hr => ?_
  exact (ss_cons (ss_setO (s_var 0) s_int (s_bin o_add (s_ixS (s_var 0) s_int) s_int)) (ss_cons (ss_if (t_cmp (m := true) o_gt (s_low (s_ixS (s_var 0) s_int)) (s_blt c_len rfl T.n_len bt_len (a_cons (s_low (s_ixS (s_var 0) s_int)) a_nil)) (nomark _)) (ss_one (ss_ret (s_bin o_mod (s_bty c_int rfl T.n_int bt_int (a_cons (s_bin o_add (s_bin o_mul (s_ixS (s_var 0) s_int) s_int) s_int) a_nil)) (s_var 1)))) ss_nil) (ss_one (ss_ret (s_bin o_mod (s_bty c_int rfl T.n_int bt_int (a_cons (s_ix (s_ixS (s_var 0) s_int) (s_bin o_sub (s_ixS (s_var 0) s_int) s_int)) a_nil)) (s_var 1))))))
theorem sc_law_pick : FnScope ["box", "row"] ["box", "row"] (defScope (top 14)) := ⟨rfl, rfl, rfl, by decide +kernel, rfl, by decide +kernel, by decide +kernel⟩
theorem ok_law_pick {P : Program} {W : World} {K : PySem.W.Frag} {mg : Str → Option Value} {base : Heap} (T : Txt K mg) : Ok P W K mg base "_law_pick" 2 2 false (F_law_pick) := by
  obtain ⟨fd, D0⟩ := T.d_law_pick
  have sc := sc_law_pick
  refine Ok.mk' false T.m_law_pick D0 sc (D0.bindsN fun _ _ _ _ _ _ us hl => match us, hl with | [_, _], _ => rfl) fun cdv A outer s H hr => ?_
  exact (ss_one (ss_ret (s_ix (s_var 1) (s_bin o_mod (s_bty c_int rfl T.n_int bt_int (a_cons (s_frz (b_ok (ok_law_draw T) (hr.mono (by decide)) rfl (a_cons (s_var 0) (a_cons s_int a_nil)) (aCons_len (aCons_len aNil_len)))) a_nil)) (s_blt c_len rfl T.n_len bt_len (a_cons (s_var 1) a_nil))))))
theorem sc_law_same : FnScope ["told", "due", "k"] ["told", "due"] (defScope (top 15)) := ⟨rfl, rfl, rfl, by decide +kernel, rfl, by decide +kernel, by decide +kernel⟩
theorem okr_law_same {P : Program} {W : World} {K : PySem.W.Frag} {mg : Str → Option Value} {base : Heap} (T : Txt K mg) : ∀ n, Ok P W K mg base "_law_same" 2 (0 + n) true (R_law_same n) := by
  intro n
  obtain ⟨fd, D0⟩ := T.d_law_same
  have sc := sc_law_same
  induction n with
  | zero => exact ⟨_, fd, ["told", "due"], rfl, T.m_law_same, D0.kp, (D0.bindsN fun _ _ _ _ _ _ us hl => match us, hl with | [_, _], _ => rfl), spU_none _ _ _ _ _⟩
  | succ n ih =>
    refine Ok.mk' true T.m_law_same D0 sc (D0.bindsN fun _ _ _ _ _ _ us hl => match us, hl with | [_, _], _ => rfl) fun cdv A outer s H hr => ?_
    exact (ss_cons (ss_if (t_cmp (m := true) o_is (s_look 1) s_non (nomark _)) (ss_one (ss_ret (s_cmp o_is (s_var 0) s_non (nomark _)))) ss_nil) (ss_cons (ss_if (t_cmp (m := true) o_is (s_look 1) s_bl (nomark _)) (ss_one (ss_ret (s_cmp o_is (s_var 0) s_bl (nomark _)))) ss_nil) (ss_cons (ss_if (t_cmp (m := true) o_is (s_look 1) s_bl (nomark _)) (ss_one (ss_ret (s_cmp o_is (s_var 0) s_bl (nomark _)))) ss_nil) (ss_cons (ss_if (t_val (m := true) (s_isi rfl T.n_isinstance bt_isinstance rfl T.n_str bt_str (s_look 1))) (ss_one (ss_ret (s_and (s_isi rfl T.n_isinstance bt_isinstance rfl T.n_str bt_str (s_var 0)) (s_one (s_cmp (o_eq hr.units) (s_blt c_repr rfl T.n_repr bt_repr (a_cons (s_var 0) a_nil)) (s_blt c_repr rfl T.n_repr bt_repr (a_cons (s_var 1) a_nil)) (nomark _)))))) ss_nil) (ss_cons (ss_if (t_val (m := true) (s_isi rfl T.n_isinstance bt_isinstance rfl T.n_int bt_int (s_look 1))) (ss_one (ss_ret (s_and (s_isi rfl T.n_isinstance bt_isinstance rfl T.n_int bt_int (s_var 0)) (s_and (s_not (s_isi rfl T.n_isinstance bt_isinstance rfl T.n_bool bt_bool (s_var 0))) (s_one (s_cmp (o_eq hr.units) (s_blt c_repr rfl T.n_repr bt_repr (a_cons (s_var 0) a_nil)) (s_blt c_repr rfl T.n_repr bt_repr (a_cons (s_var 1) a_nil)) (nomark _))))))) ss_nil) (ss_cons (ss_if (PW.pt (w_or (PW.pt (w_and (t_val (m := true) (s_isi rfl T.n_isinstance bt_isinstance rfl T.n_tuple bt_tuple (s_look 1))) (w_and1 (t_not (t_val (m := true) (s_isi rfl T.n_isinstance bt_isinstance rfl T.n_tuple bt_tuple (s_look 0))))))) (w_or1 (PW.pt (w_and (t_val (m := true) (s_isi rfl T.n_isinstance bt_isinstance rfl T.n_list bt_list (s_look 1))) (w_and1 (t_not (t_val (m := true) (s_isi rfl T.n_isinstance bt_isinstance rfl T.n_list bt_list (s_look 0)))))))))) (ss_one (ss_ret s_bl)) ss_nil) (ss_cons (ss_if (t_cmp (m := true) (o_ne hr.units) (s_blt c_len rfl T.n_len bt_len (a_cons (s_look 0) a_nil)) (s_blt c_len rfl T.n_len bt_len (a_cons (s_look 1) a_nil)) (nomark _)) (ss_one (ss_ret s_bl)) ss_nil) (ss_cons (ss_for (i_rng1 (by rfl) T.n_range (a_cons (s_blt c_len rfl T.n_len bt_len (a_cons (s_var 1) a_nil)) a_nil)) (g_name 2 sc.nd rfl (Or.inl rfl)) (ss_one (ss_if (t_not (t_val (m := true) (s_okP ih hr rfl (a_cons (s_ix (s_look 0) (s_look 2)) (a_cons (s_ix (s_look 1) (s_look 2)) a_nil)) (aCons_len (aCons_len aNil_len))))) (ss_one (ss_ret s_bl)) ss_nil))) (ss_one (ss_ret s_bl))))))))))
theorem ok_law_same {P : Program} {W : World} {K : PySem.W.Frag} {mg : Str → Option Value} {base : Heap} (T : Txt K mg) : Ok P W K mg base "_law_same" 2 10 true (F_law_same) := by exact okr_law_same T 10
theorem sc_law_gcd : FnScope ["one", "other", "turn"] ["one", "other"] (defScope (top 16)) := ⟨rfl, rfl, rfl, by decide +kernel, rfl, by decide +kernel, by decide +kernel⟩
theorem ok_law_gcd {P : Program} {W : World} {K : PySem.W.Frag} {mg : Str → Option Value} {base : Heap} (T : Txt K mg) : Ok P W K mg base "_law_gcd" 2 1 true (F_law_gcd) := by
  obtain ⟨fd, D0⟩ := T.d_law_gcd
  have sc := sc_law_gcd
  refine Ok.mk' true T.m_law_gcd D0 sc (D0.bindsN fun _ _ _ _ _ _ us hl => match us, hl with | [_, _], _ => rfl) fun cdv A outer s H hr => ?_
  exact (ss_cons (ss_for (i_rng1 (by rfl) T.n_range (a_cons s_int a_nil)) (g_name 2 sc.nd rfl (Or.inl rfl)) (ss_cons (ss_if (t_cmp (m := true) (o_eq hr.units) (s_look 1) s_int (nomark _)) (ss_one (ss_ret (s_var 0))) ss_nil) (ss_one (ss_par (i := 0) (j := 1) rfl sc.nd rfl rfl (by decide) rfl rfl (a_cons (s_var 1) (a_cons (s_bin o_mod (s_bty c_int rfl T.n_int bt_int (a_cons (s_var 0) a_nil)) (s_var 1)) a_nil)) (by rfl))))) (ss_one (ss_ret (s_var 0))))
def b_law_low : EvS := (sSeq (sSet 2 (eL (pV (F_law_gcd)) (aCons (eL bAbs (aCons (eV 0) aNil)) (aCons (eL bAbs (aCons (eV 1) aNil)) aNil)))) (sSeq (sIf (eTb (e2 dLt (eW 1) (eC (.int 0)))) (sSet 2 (e1 dNeg (eV 2))) sNil) (sRet (eL dTup (aCons (e2 dFdiv (eV 0) (eV 2)) (aCons (e2 dFdiv (eV 1) (eV 2)) aNil))))))
def F_law_low : Fn := fnF 2 3 (b_law_low)
theorem q_law_low {pu : Bool} {S : Sto} {d0 d1 : D} : F_law_low pu [d0, d1] S = @bnd _ _ (b_law_low ⟨[some (.v d0), some (.v d1), none], S, pu⟩) ⟨finK⟩ := fnF_q rfl
theorem sc_law_low : FnScope ["top", "bottom", "size"] ["top", "bottom"] (defScope (top 17)) := ⟨rfl, rfl, rfl, by decide +kernel, rfl, by decide +kernel, by decide +kernel⟩
theorem ok_law_low {P : Program} {W : World} {K : PySem.W.Frag} {mg : Str → Option Value} {base : Heap} (T : Txt K mg) : Ok P W K mg base "_law_low" 2 2 true (F_law_low) := by
  obtain ⟨fd, D0⟩ := T.d_law_low
  have sc := sc_law_low
  refine Ok.mk' true T.m_law_low D0 sc (D0.bindsN fun _ _ _ _ _ _ us hl => match us, hl with | [_, _], _ => rfl) fun cdv A outer s H hr => ?_
  exact (ss_cons (ss_set (i := 2) sc.nd rfl (Or.inl rfl) (s_okP (ok_law_gcd T) (hr.mono (by decide)) rfl (a_cons (s_blt c_abs rfl T.n_abs bt_abs (a_cons (s_var 0) a_nil)) (a_cons (s_blt c_abs rfl T.n_abs bt_abs (a_cons (s_var 1) a_nil)) a_nil)) (aCons_len (aCons_len aNil_len)))) (ss_cons (ss_if (t_cmp (m := true) o_lt (s_look 1) s_int (nomark _)) (ss_one (ss_set (i := 2) sc.nd rfl (Or.inl rfl) (s_un o_neg (s_var 2)))) ss_nil) (ss_one (ss_ret (s_tup (a_cons (s_bin o_fdiv (s_var 0) (s_var 2)) (a_cons (s_bin o_fdiv (s_var 1) (s_var 2)) a_nil)))))))
def e1_law_curve : EvE := (eFz (bCall (F_law_draw) (aCons (eV 0) (aCons (eV 2) aNil))))
def l1_law_curve : EvS := (sSeq (sSet 8 (e2 dIx (eV 4) (e2 dMod (eL bInt (aCons (eV 7) aNil)) (eV 3)))) (sSeq (sIf (wOr (eTb (e2 dEq (eW 5) (eC (.int 0)))) (wAnd (eTb (e2 dEq (eW 5) (eC (.int 1)))) (eTb (e2 dEq (eFz (bCall (F_law_draw) (aCons (eV 0) (aCons (eC (.int 6)) aNil)))) (eC (.int 0)))))) (sSet 8 (eFz (bCall (F_law_draw) (aCons (eV 0) (aCons (eV 2) aNil))))) sNil) (sExp (mApp 6 (pN 6) (eV 8)))))
def b_law_curve : EvS := (sSeq (sSet 2 (eFz (bCall (F_law_pick) (aCons (eV 0) (aCons (eFz (bLst (aCons (eC (.int 2)) (aCons (eC (.int 4)) (aCons (eC (.int 10)) (aCons (eC (.int 1000)) aNil)))))) aNil))))) (sSeq (sSet 3 (e2 dAdd (eC (.int 1)) (eFz (bCall (F_law_draw) (aCons (eV 0) (aCons (eC (.int 7)) aNil)))))) (sSeq (sSet 4 (eFz (bLc [7] (iA dRange1 (aCons (eV 3) aNil)) (gN 7) tYes' e1_law_curve))) (sSeq (sSet 5 (eFz (bCall (F_law_draw) (aCons (eV 0) (aCons (eC (.int 4)) aNil))))) (sSeq (sSetB 6 (bLst aNil)) (sSeq (sFor (iA dRange1 (aCons (eV 1) aNil)) (gN 7) l1_law_curve) (sRet (eV 6))))))))
def F_law_curve : Fn := fnF 2 9 (b_law_curve)
theorem q_law_curve {pu : Bool} {S : Sto} {d0 d1 : D} : F_law_curve pu [d0, d1] S = @bnd _ _ (b_law_curve ⟨[some (.v d0), some (.v d1), none, none, none, none, none, none, none], S, pu⟩) ⟨finK⟩ := fnF_q rfl
theorem sc_law_curve : FnScope ["box", "many", "wide", "period", "base", "kind", "found", "k", "light"] ["box", "many"] (defScope (top 18)) := ⟨rfl, rfl, rfl, by decide +kernel, rfl, by decide +kernel, by decide +kernel⟩
theorem ok_law_curve {P : Program} {W : World} {K : PySem.W.Frag} {mg : Str → Option Value} {base : Heap} (T : Txt K mg) : Ok P W K mg base "_law_curve" 2 3 false (F_law_curve) := by
  obtain ⟨fd, D0⟩ := T.d_law_curve
  have sc := sc_law_curve
  refine Ok.mk' false T.m_law_curve D0 sc (D0.bindsN fun _ _ _ _ _ _ us hl => match us, hl with | [_, _], _ => rfl) fun cdv A outer s H hr => ?_
  exact (ss_cons (ss_set (i := 2) sc.nd rfl (Or.inr rfl) (s_frz (b_ok (ok_law_pick T) (hr.mono (by decide)) rfl (a_cons (s_var 0) (a_cons (s_lst (a_cons s_int (a_cons s_int (a_cons s_int (a_cons s_int a_nil))))) a_nil)) (aCons_len (aCons_len aNil_len))))) (ss_cons (ss_set (i := 3) sc.nd rfl (Or.inl rfl) (s_bin o_add s_int (s_frz (b_ok (ok_law_draw T) (hr.mono (by decide)) rfl (a_cons (s_var 0) (a_cons s_int a_nil)) (aCons_len (aCons_len aNil_len)))))) (ss_cons (ss_setLcV (i := 4) (own := [("k", 7)]) rfl sc.nd rfl rfl (sw_true rfl rfl rfl (by decide +kernel)) (i_rng1 (by rfl) T.n_range (a_cons (s_var 3) a_nil)) (blkOk_by (own := [("k", 7)]) (N := ["box", "many", "wide", "period", "base", "kind", "found", "k", "light"]) (sc := defScope (top 18)) (by decide +kernel)) (fun _ _ _ _ _ => (gw_name 7 (by decide) sc.nd rfl (by first | exact Or.inl rfl | exact Or.inr rfl))) (fun _ _ _ _ _ => ts_nil) (fun _ _ _ _ _ => (s_frz (b_ok (ok_law_draw T) (hr.mono (by decide)) rfl (a_cons (s_var 0) (a_cons (s_var 2) a_nil)) (aCons_len (aCons_len aNil_len)))))) (ss_cons (ss_set (i := 5) sc.nd rfl (Or.inl rfl) (s_frz (b_ok (ok_law_draw T) (hr.mono (by decide)) rfl (a_cons (s_var 0) (a_cons s_int a_nil)) (aCons_len (aCons_len aNil_len))))) (ss_cons (ss_setB (i := 6) sc.nd rfl (Or.inl rfl) (b_lst a_nil)) (ss_cons (ss_for (i_rng1 (by rfl) T.n_range (a_cons (s_var 1) a_nil)) (g_name 7 sc.nd rfl (Or.inl rfl)) (ss_cons (ss_set (i := 8) sc.nd rfl (Or.inl rfl) (s_ix (s_var 4) (s_bin o_mod (s_bty c_int rfl T.n_int bt_int (a_cons (s_var 7) a_nil)) (s_var 3)))) (ss_cons (ss_if (PW.pt (w_or (t_cmp (m := true) (o_eq hr.units) (s_look 5) s_int (nomark _)) (w_or1 (PW.pt (w_and (t_cmp (m := true) (o_eq hr.units) (s_look 5) s_int (nomark _)) (w_and1 (t_cmp (m := true) (o_eq hr.units) (s_low (s_frz (b_ok (ok_law_draw T) (hr.mono (by decide)) rfl (a_cons (s_var 0) (a_cons s_int a_nil)) (aCons_len (aCons_len aNil_len))))) s_int (nomark _)))))))) (ss_one (ss_set (i := 8) sc.nd rfl (Or.inl rfl) (s_frz (b_ok (ok_law_draw T) (hr.mono (by decide)) rfl (a_cons (s_var 0) (a_cons (s_var 2) a_nil)) (aCons_len (aCons_len aNil_len)))))) ss_nil) (ss_one (ss_expM (m_app p_name (s_var 8))))))) (ss_one (ss_ret (s_var 6)))))))))
def c1_law_repeats : EvT := (eTb (e2 dNe (e2 dIx (eW 0) (eW 2)) (e2 dIx (eW 0) (e2 dSub (eW 2) (eW 1)))))
def b_law_repeats : EvS := (sRet (e2 dEq (eFz (bLc [2] (iA dRange2 (aCons (eV 1) (aCons (eL bLen (aCons (eV 0) aNil)) aNil))) (gN 2) c1_law_repeats (eV 2))) (eFz (bLst aNil))))
def F_law_repeats : Fn := fnF 2 3 (b_law_repeats)
theorem q_law_repeats {pu : Bool} {S : Sto} {d0 d1 : D} : F_law_repeats pu [d0, d1] S = @bnd _ _ (b_law_repeats ⟨[some (.v d0), some (.v d1), none], S, pu⟩) ⟨finK⟩ := fnF_q rfl
theorem sc_law_repeats : FnScope ["curve", "period", "k"] ["curve", "period"] (defScope (top 19)) := ⟨rfl, rfl, rfl, by decide +kernel, rfl, by decide +kernel, by decide +kernel⟩
theorem ok_law_repeats {P : Program} {W : World} {K : PySem.W.Frag} {mg : Str → Option Value} {base : Heap} (T : Txt K mg) : Ok P W K mg base "_law_repeats" 2 1 true (F_law_repeats) := by
  obtain ⟨fd, D0⟩ := T.d_law_repeats
  have sc := sc_law_repeats
  refine Ok.mk' true T.m_law_repeats D0 sc (D0.bindsN fun _ _ _ _ _ _ us hl => match us, hl with | [_, _], _ => rfl) fun cdv A outer s H hr => ?_
  exact (ss_one (ss_ret (s_cmp (o_eq hr.units) (s_frz (b_lc (own := [("k", 2)]) rfl sc.nd (i_rng2 (by rfl) T.n_range (a_cons (s_var 1) (a_cons (s_blt c_len rfl T.n_len bt_len (a_cons (s_var 0) a_nil)) a_nil))) (blkOk_by (own := [("k", 2)]) (N := ["curve", "period", "k"]) (sc := defScope (top 19)) (by decide +kernel)) (fun _ _ _ _ _ => (gw_name 2 (by decide) sc.nd rfl (by first | exact Or.inl rfl | exact Or.inr rfl))) (fun _ _ _ _ _ => (ts_one (t_cmp (m := true) (o_ne hr.units) (s_ix (s_look 0) (s_look 2)) (s_ix (s_look 0) (s_bin o_sub (s_look 2) (s_look 1))) (nomark _)))) (fun _ _ _ _ _ => (s_var 2)))) (s_lst a_nil) (nomark _))))
def l1_law_folded : EvS := (sExp (mApp 2 (pIx 2 (pN 2) (e2 dMod (eL bInt (aCons (eV 3) aNil)) (eV 1))) (e2 dIx (eV 0) (eV 3))))
def b_law_folded : EvS := (sSeq (sSetB 2 (bLcB [4] (iA dRange1 (aCons (eV 1) aNil)) (gN 4) tYes' (bLst aNil))) (sSeq (sFor (iA dRange1 (aCons (eL bLen (aCons (eV 0) aNil)) aNil)) (gN 3) l1_law_folded) (sRet (eV 2))))
def F_law_folded : Fn := fnF 2 5 (b_law_folded)
theorem q_law_folded {pu : Bool} {S : Sto} {d0 d1 : D} : F_law_folded pu [d0, d1] S = @bnd _ _ (b_law_folded ⟨[some (.v d0), some (.v d1), none, none, none], S, pu⟩) ⟨finK⟩ := fnF_q rfl
theorem sc_law_folded : FnScope ["curve", "period", "found", "k", "phase"] ["curve", "period"] (defScope (top 20)) := ⟨rfl, rfl, rfl, by decide +kernel, rfl, by decide +kernel, by decide +kernel⟩
theorem ok_law_folded {P : Program} {W : World} {K : PySem.W.Frag} {mg : Str → Option Value} {base : Heap} (T : Txt K mg) : Ok P W K mg base "_law_folded" 2 1 true (F_law_folded) := by
  obtain ⟨fd, D0⟩ := T.d_law_folded
  have sc := sc_law_folded
  refine Ok.mk' true T.m_law_folded D0 sc (D0.bindsN fun _ _ _ _ _ _ us hl => match us, hl with | [_, _], _ => rfl) fun cdv A outer s H hr => ?_
  exact (ss_cons (ss_setLcB (i := 2) (own := [("phase", 4)]) rfl sc.nd rfl rfl (sw_true rfl rfl rfl (by decide +kernel)) (i_rng1 (by rfl) T.n_range (a_cons (s_var 1) a_nil)) (blkOk_by (own := [("phase", 4)]) (N := ["curve", "period", "found", "k", "phase"]) (sc := defScope (top 20)) (by decide +kernel)) (fun _ _ _ _ _ => (gw_name 4 (by decide) sc.nd rfl (by first | exact Or.inl rfl | exact Or.inr rfl))) (fun _ _ _ _ _ => ts_nil) (fun _ _ _ _ _ => (b_lst a_nil))) (ss_cons (ss_for (i_rng1 (by rfl) T.n_range (a_cons (s_blt c_len rfl T.n_len bt_len (a_cons (s_var 0) a_nil)) a_nil)) (g_name 3 sc.nd rfl (Or.inl rfl)) (ss_one (ss_expM (m_app (p_ix p_name (s_bin o_mod (s_bty c_int rfl T.n_int bt_int (a_cons (s_var 3) a_nil)) (s_var 1))) (s_ix (s_var 0) (s_var 3)))))) (ss_one (ss_ret (s_var 2)))))
def l1_law_errors : EvS := (sSet 5 (e2 dAdd (eV 5) (e2 dMul (e2 dSub (e2 dIx (eV 4) (eV 6)) (e2 dIx (eV 4) (eV 7))) (e2 dSub (e2 dIx (eV 4) (eV 6)) (e2 dIx (eV 4) (eV 7))))))
def l2_law_errors : EvS := (sFor (iA dRange1 (aCons (eV 6) aNil)) (gN 7) l1_law_errors)
def l3_law_errors : EvS := (sIf (eTb (e2 dGt (eL bLen (aCons (eW 4) aNil)) (eC (.int 1)))) (sSeq (sSet 5 (eC (.int 0))) (sSeq (sFor (iA dRange1 (aCons (eL bLen (aCons (eV 4) aNil)) aNil)) (gN 6) l2_law_errors) (sPar 2 3 (aCons (e2 dAdd (e2 dMul (eV 2) (eL bLen (aCons (eV 4) aNil))) (e2 dMul (eV 5) (eV 3))) (aCons (e2 dMul (eV 3) (eL bLen (aCons (eV 4) aNil))) aNil))))) sNil)
def b_law_errors : EvS := (sSeq (sAsg (gT 2 (gsCons (gN 2) (gsCons (gN 3) gsNil))) (eL dTup (aCons (eC (.int 0)) (aCons (eC (.int 1)) aNil)))) (sSeq (sFor (iV (eL (pV (F_law_folded)) (aCons (eV 0) (aCons (eV 1) aNil)))) (gN 4) l3_law_errors) (sRet (eL dTup (aCons (eV 2) (aCons (eV 3) aNil))))))
def F_law_errors : Fn := fnF 2 8 (b_law_errors)
theorem q_law_errors {pu : Bool} {S : Sto} {d0 d1 : D} : F_law_errors pu [d0, d1] S = @bnd _ _ (b_law_errors ⟨[some (.v d0), some (.v d1), none, none, none, none, none, none], S, pu⟩) ⟨finK⟩ := fnF_q rfl
theorem sc_law_errors : FnScope ["curve", "period", "top", "bottom", "row", "pairs", "k", "far"] ["curve", "period"] (defScope (top 21)) := ⟨rfl, rfl, rfl, by decide +kernel, rfl, by decide +kernel, by decide +kernel⟩
theorem ok_law_errors {P : Program} {W : World} {K : PySem.W.Frag} {mg : Str → Option Value} {base : Heap} (T : Txt K mg) : Ok P W K mg base "_law_errors" 2 2 true (F_law_errors) := by
  obtain ⟨fd, D0⟩ := T.d_law_errors
  have sc := sc_law_errors
  refine Ok.mk' true T.m_law_errors D0 sc (D0.bindsN fun _ _ _ _ _ _ us hl => match us, hl with | [_, _], _ => rfl) fun cdv A outer s H hr => ?_
  exact (ss_cons (ss_asg (s_tup (a_cons s_int (a_cons s_int a_nil))) (g_tup rfl (gs_cons (g_name 2 sc.nd rfl (Or.inl rfl)) (gs_cons (g_name 3 sc.nd rfl (Or.inl rfl)) gs_nil)))) (ss_cons (ss_for (i_any (s_okP (ok_law_folded T) (hr.mono (by decide)) rfl (a_cons (s_var 0) (a_cons (s_var 1) a_nil)) (aCons_len (aCons_len aNil_len)))) (g_name 4 sc.nd rfl (Or.inl rfl)) (ss_one (ss_if (t_cmp (m := true) o_gt (s_blt c_len rfl T.n_len bt_len (a_cons (s_look 4) a_nil)) s_int (nomark _)) (ss_cons (ss_set (i := 5) sc.nd rfl (Or.inl rfl) s_int) (ss_cons (ss_for (i_rng1 (by rfl) T.n_range (a_cons (s_blt c_len rfl T.n_len bt_len (a_cons (s_var 4) a_nil)) a_nil)) (g_name 6 sc.nd rfl (Or.inl rfl)) (ss_one (ss_for (i_rng1 (by rfl) T.n_range (a_cons (s_var 6) a_nil)) (g_name 7 sc.nd rfl (Or.inl rfl)) (ss_one (ss_set (i := 5) sc.nd rfl (Or.inl rfl) (s_bin o_add (s_var 5) (s_bin o_mul (s_bin o_sub (s_ix (s_var 4) (s_var 6)) (s_ix (s_var 4) (s_var 7))) (s_bin o_sub (s_ix (s_var 4) (s_var 6)) (s_ix (s_var 4) (s_var 7)))))))))) (ss_one (ss_par (i := 2) (j := 3) rfl sc.nd rfl rfl (by decide) rfl rfl (a_cons (s_bin o_add (s_bin o_mul (s_var 2) (s_blt c_len rfl T.n_len bt_len (a_cons (s_var 4) a_nil))) (s_bin o_mul (s_var 5) (s_var 3))) (a_cons (s_bin o_mul (s_var 3) (s_blt c_len rfl T.n_len bt_len (a_cons (s_var 4) a_nil))) a_nil)) (by rfl))))) ss_nil))) (ss_one (ss_ret (s_tup (a_cons (s_var 2) (a_cons (s_var 3) a_nil)))))))
def l1_law_best : EvS := (sSeq (sPar 6 7 (aCons (e2 dIx (eV 0) (eV 5)) (aCons (e2 dIx (eV 0) (eV 4)) aNil))) (sIf (eTb (e2 dLt (e2 dMul (e2 dMul (e2 dIx (eW 6) (eC (.int 0))) (e2 dIx (eW 7) (eC (.int 1)))) (e2 dSub (eW 3) (eW 4))) (e2 dMul (e2 dMul (e2 dIx (eW 7) (eC (.int 0))) (e2 dIx (eW 6) (eC (.int 1)))) (e2 dSub (eW 3) (eW 5))))) (sSet 4 (eV 5)) sNil))
def b_law_best : EvS := (sSeq (sSet 4 (eV 1)) (sSeq (sFor (iA dRange2 (aCons (eV 1) (aCons (e2 dAdd (eV 2) (eC (.int 1))) aNil))) (gN 5) l1_law_best) (sRet (eV 4))))
def F_law_best : Fn := fnF 4 8 (b_law_best)
theorem q_law_best {pu : Bool} {S : Sto} {d0 d1 d2 d3 : D} : F_law_best pu [d0, d1, d2, d3] S = @bnd _ _ (b_law_best ⟨[some (.v d0), some (.v d1), some (.v d2), some (.v d3), none, none, none, none], S, pu⟩) ⟨finK⟩ := fnF_q rfl
theorem sc_law_best : FnScope ["rows", "low", "high", "many", "best", "period", "one", "other"] ["rows", "low", "high", "many"] (defScope (top 22)) := ⟨rfl, rfl, rfl, by decide +kernel, rfl, by decide +kernel, by decide +kernel⟩
theorem ok_law_best {P : Program} {W : World} {K : PySem.W.Frag} {mg : Str → Option Value} {base : Heap} (T : Txt K mg) : Ok P W K mg base "_law_best" 4 1 true (F_law_best) := by
  obtain ⟨fd, D0⟩ := T.d_law_best
  have sc := sc_law_best
  refine Ok.mk' true T.m_law_best D0 sc (D0.bindsN fun _ _ _ _ _ _ us hl => match us, hl with | [_, _, _, _], _ => rfl) fun cdv A outer s H hr => ?_
  exact (ss_cons (ss_set (i := 4) sc.nd rfl (Or.inl rfl) (s_var 1)) (ss_cons (ss_for (i_rng2 (by rfl) T.n_range (a_cons (s_var 1) (a_cons (s_bin o_add (s_var 2) s_int) a_nil))) (g_name 5 sc.nd rfl (Or.inl rfl)) (ss_cons (ss_par (i := 6) (j := 7) rfl sc.nd rfl rfl (by decide) rfl rfl (a_cons (s_ix (s_var 0) (s_var 5)) (a_cons (s_ix (s_var 0) (s_var 4)) a_nil)) (by rfl)) (ss_one (ss_if (t_cmp (m := true) o_lt (s_bin o_mul (s_bin o_mul (s_ix (s_look 6) s_int) (s_ix (s_look 7) s_int)) (s_bin o_sub (s_look 3) (s_look 4))) (s_bin o_mul (s_bin o_mul (s_ix (s_look 7) s_int) (s_ix (s_look 6) s_int)) (s_bin o_sub (s_look 3) (s_look 5))) (nomark _)) (ss_one (ss_set (i := 4) sc.nd rfl (Or.inl rfl) (s_var 5))) ss_nil)))) (ss_one (ss_ret (s_var 4)))))
def c1_law : EvT := (eT (eL (pV (F_law_repeats)) (aCons (eW 4) (aCons (eW 9) aNil))))
def l1_law : EvS := (sSeq (sIf (wNot (eT (eL (pV (F_law_same)) (aCons (eL (pV (F_repeats)) (aCons (eW 5) (aCons (eW 9) aNil))) (aCons (eL (pV (F_law_repeats)) (aCons (eW 4) (aCons (eW 9) aNil))) aNil))))) (sRet (eC (.bl false))) sNil) (sExp (mApp 8 (pN 8) (eL (pV (F_law_errors)) (aCons (eV 4) (aCons (eV 9) aNil))))))
def l2_law : EvS := (sSeq (sSet 9 (e2 dAdd (eC (.int 1)) (eFz (bCall (F_law_draw) (aCons (eV 1) (aCons (e2 dAdd (eV 3) (eC (.int 2))) aNil)))))) (sSeq (sIf (wNot (eT (eL (pV (F_law_same)) (aCons (eL (pV (F_least_errors)) (aCons (eW 5) (aCons (eW 9) aNil))) (aCons (eL (pV (F_law_low)) (aCons (e2 dIx (e2 dIx (eW 8) (eW 9)) (eC (.int 0))) (aCons (e2 dIx (e2 dIx (eW 8) (eW 9)) (eC (.int 1))) aNil))) aNil))))) (sRet (eC (.bl false))) sNil) (sSeq (sSetB 7 (bPure (F_folded) (aCons (eV 5) (aCons (eV 9) aNil)))) (sSeq (sIf (wOr (wNot (eT (eL (pV (F_law_same)) (aCons (eW 7) (aCons (eL (pV (F_law_folded)) (aCons (eW 4) (aCons (eW 9) aNil))) aNil))))) (eTb (e2 dNe (eW 5) (eW 4)))) (sRet (eC (.bl false))) sNil) (sSeq (sExp (mApp 7 (pIx 7 (pN 7) (eC (.int 0))) (eC (.int 0)))) (sSeq (sExp (mAppB 7 (pN 7) (bLst aNil))) (sIf (wOr (wNot (eT (eL (pV (F_law_same)) (aCons (eL (pV (F_folded)) (aCons (eW 5) (aCons (eW 9) aNil))) (aCons (eL (pV (F_law_folded)) (aCons (eW 4) (aCons (eW 9) aNil))) aNil))))) (eTb (e2 dNe (eW 5) (eW 4)))) (sRet (eC (.bl false))) sNil)))))))
def l3_law : EvS := (sIf (wOr (wNot (eT (eL (pV (F_law_same)) (aCons (eL (pV (F_best_period)) (aCons (eW 5) (aCons (eW 13) (aCons (eW 14) aNil)))) (aCons (eL (pV (F_law_best)) (aCons (eW 8) (aCons (eW 13) (aCons (eW 14) (aCons (eW 3) aNil))))) aNil))))) (eTb (e2 dNe (eW 5) (eW 4)))) (sRet (eC (.bl false))) sNil)
def l4_law : EvS := (sSeq (sSet 3 (eFz (bCall (F_law_pick) (aCons (eV 1) (aCons (eFz (bLst (aCons (eC (.int 14)) (aCons (eC (.int 13)) (aCons (eC (.int 12)) (aCons (eC (.int 10)) (aCons (eC (.int 8)) (aCons (eC (.int 6)) (aCons (eC (.int 5)) (aCons (eC (.int 3)) (aCons (eC (.int 2)) (aCons (eC (.int 1)) aNil)))))))))))) aNil))))) (sSeq (sSet 4 (eFz (bCall (F_law_curve) (aCons (eV 1) (aCons (eV 3) aNil))))) (sSeq (sSet 5 (eFz (bL bList (aCons (eV 4) aNil)))) (sSeq (sSet 6 (eFz (bLc [9] (iA dRange2 (aCons (eC (.int 1)) (aCons (eV 3) aNil))) (gN 9) c1_law (eV 9)))) (sSeq (sSetB 7 (bPure (F_periods) (aCons (eV 5) aNil))) (sSeq (sIf (wOr (wNot (eT (eL (pV (F_law_same)) (aCons (eW 7) (aCons (eW 6) aNil))))) (eTb (e2 dNe (eW 5) (eW 4)))) (sRet (eC (.bl false))) sNil) (sSeq (sExp (mApp 7 (pN 7) (eC (.int 0)))) (sSeq (sIf (wAnd (eTb (e2 dEq (eW 2) (eC (.int 0)))) (wNot (eT (eL (pV (F_law_same)) (aCons (eL (pV (F_periods)) (aCons (eW 5) aNil)) (aCons (eW 6) aNil)))))) (sRet (eC (.bl false))) sNil) (sSeq (sSetB 8 (bLst (aCons (eL dTup (aCons (eC (.int 0)) (aCons (eC (.int 1)) aNil))) aNil))) (sSeq (sFor (iA dRange2 (aCons (eC (.int 1)) (aCons (e2 dAdd (eV 3) (eC (.int 3))) aNil))) (gN 9) l1_law) (sSeq (sFor (iA dRange1 (aCons (eC (.int 4)) aNil)) (gN 10) l2_law) (sIf (eTb (e2 dGt (eW 3) (eC (.int 1)))) (sSeq (sSet 11 (e2 dAdd (eC (.int 1)) (eFz (bCall (F_law_draw) (aCons (eV 1) (aCons (e2 dSub (eV 3) (eC (.int 1))) aNil)))))) (sSeq (sSet 12 (e2 dAdd (eV 11) (eFz (bCall (F_law_draw) (aCons (eV 1) (aCons (e2 dSub (eV 3) (eV 11)) aNil)))))) (sFor (iV (eL dTup (aCons (eL dTup (aCons (eV 11) (aCons (eV 12) aNil))) (aCons (eL dTup (aCons (eC (.int 1)) (aCons (e2 dSub (eV 3) (eC (.int 1))) aNil))) aNil)))) (gT 2 (gsCons (gN 13) (gsCons (gN 14) gsNil))) l3_law))) sNil))))))))))))
def b_law : EvS := (sSeq (sSet 1 (eObj (aCons (eL (pV (F_law_digits)) (aCons (eV 0) (aCons (eC (.int 0)) (aCons (eC (.int 20)) aNil)))) (aCons (eC (.int 0)) aNil)))) (sSeq (sFor (iA dRange1 (aCons (eC (.int 2)) aNil)) (gN 2) l4_law) (sSeq (sIf (wOr (wNot (eT (eL (pV (F_law_same)) (aCons (eL (pV (F_least_errors)) (aCons (eFz (bLst (aCons (eC (.int 1)) (aCons (eC (.int 5)) (aCons (eC (.int 2)) (aCons (eC (.int 5)) (aCons (eC (.int 6)) aNil))))))) (aCons (eC (.int 2)) aNil))) (aCons (eL dTup (aCons (eC (.int 14)) (aCons (eC (.int 1)) aNil))) aNil))))) (wNot (eT (eL (pV (F_law_same)) (aCons (eL (pV (F_periods)) (aCons (eFz (bLst (aCons (eC (.int 3)) (aCons (eC (.int 1)) (aCons (eC (.int 3)) (aCons (eC (.int 1)) (aCons (eC (.int 3)) aNil))))))) aNil)) (aCons (eFz (bLst (aCons (eC (.int 2)) (aCons (eC (.int 4)) aNil)))) aNil)))))) (sRet (eC (.bl false))) sNil) (sRet (eAnd (eL (pV (F_law_same)) (aCons (eL (pV (F_best_period)) (aCons (eFz (bLst (aCons (eC (.int 1)) (aCons (eC (.int 2)) (aCons (eC (.int 1)) (aCons (eC (.int 2)) (aCons (eC (.int 1)) (aCons (eC (.int 2)) aNil)))))))) (aCons (eC (.int 1)) (aCons (eC (.int 5)) aNil)))) (aCons (eC (.int 2)) aNil))) (eL (pV (F_law_same)) (aCons (eL (pV (F_folded)) (aCons (eFz (bLst (aCons (eC (.int 4)) (aCons (eC (.int 5)) (aCons (eC (.int 6)) aNil))))) (aCons (eC (.int 2)) aNil))) (aCons (eFz (bLst (aCons (eFz (bLst (aCons (eC (.int 4)) (aCons (eC (.int 6)) aNil)))) (aCons (eFz (bLst (aCons (eC (.int 5)) aNil))) aNil)))) aNil))))))))
def F_law : Fn := fnF 1 15 (b_law)
theorem q_law {pu : Bool} {S : Sto} {d0 : D} : F_law pu [d0] S = @bnd _ _ (b_law ⟨[some (.v d0), none, none, none, none, none, none, none, none, none, none, none, none, none, none], S, pu⟩) ⟨finK⟩ := fnF_q rfl
theorem sc_law : FnScope ["script", "box", "turn", "many", "curve", "handed", "due", "told", "rows", "period", "step", "low", "high", "one", "other"] ["script"] (defScope (top 23)) := ⟨rfl, rfl, rfl, by decide +kernel, rfl, by decide +kernel, by decide +kernel⟩
theorem okf_law {P : Program} {W : World} {K : PySem.W.Frag} {mg : Str → Option Value} {base : Heap} (T : Txt K mg) {fd : FuncData} (D0 : FunD K "law" "law" (defArgs (top 23)) (defBody (top 23)) (defScope (top 23)) [] [] (He.ga K "law") fd) : FnOk P W K mg base CX0 11 (He.ga K "law") fd ["script"] (spF K 1 (F_law)) := by
  have sc := sc_law
  refine fn_ok D0 sc fun cdv A outer s H hr => ?_
  exact (ss_cons (ss_set (i := 1) sc.nd rfl (Or.inl rfl) (s_obj (a_cons (s_okP (ok_law_digits T) (hr.mono (by decide)) rfl (a_cons (s_var 0) (a_cons s_int (a_cons s_int a_nil))) (aCons_len (aCons_len (aCons_len aNil_len)))) (a_cons s_int a_nil)))) (ss_cons (ss_for (i_rng1 (by rfl) T.n_range (a_cons s_int a_nil)) (g_name 2 sc.nd rfl (Or.inl rfl)) (ss_cons (ss_set (i := 3) sc.nd rfl (Or.inl rfl) (s_frz (b_ok (ok_law_pick T) (hr.mono (by decide)) rfl (a_cons (s_var 1) (a_cons (s_lst (a_cons s_int (a_cons s_int (a_cons s_int (a_cons s_int (a_cons s_int (a_cons s_int (a_cons s_int (a_cons s_int (a_cons s_int (a_cons s_int a_nil))))))))))) a_nil)) (aCons_len (aCons_len aNil_len))))) (ss_cons (ss_set (i := 4) sc.nd rfl (Or.inr rfl) (s_frz (b_ok (ok_law_curve T) (hr.mono (by decide)) rfl (a_cons (s_var 1) (a_cons (s_var 3) a_nil)) (aCons_len (aCons_len aNil_len))))) (ss_cons (ss_set (i := 5) sc.nd rfl (Or.inl rfl) (s_frz (b_bty c_list rfl T.n_list bt_list (a_cons (s_var 4) a_nil)))) (ss_cons (ss_setLcV (i := 6) (own := [("period", 9)]) rfl sc.nd rfl rfl (sw_true rfl rfl rfl (by decide +kernel)) (i_rng2 (by rfl) T.n_range (a_cons s_int (a_cons (s_var 3) a_nil))) (blkOk_by (own := [("period", 9)]) (N := ["script", "box", "turn", "many", "curve", "handed", "due", "told", "rows", "period", "step", "low", "high", "one", "other"]) (sc := defScope (top 23)) (by decide +kernel)) (fun _ _ _ _ _ => (gw_name 9 (by decide) sc.nd rfl (by first | exact Or.inl rfl | exact Or.inr rfl))) (fun _ _ _ _ _ => (ts_one (t_val (m := true) (s_okP (ok_law_repeats T) (hr.mono (by decide)) rfl (a_cons (s_look 4) (a_cons (s_look 9) a_nil)) (aCons_len (aCons_len aNil_len)))))) (fun _ _ _ _ _ => (s_var 9))) (ss_cons (ss_setB (i := 7) sc.nd rfl (Or.inl rfl) (b_okP (ok_periods T) (hr.mono (by decide)) rfl (a_cons (s_var 5) a_nil) (aCons_len aNil_len))) (ss_cons (ss_if (PW.pt (w_or (t_not (t_val (m := true) (s_okP (ok_law_same T) (hr.mono (by decide)) rfl (a_cons (s_look 7) (a_cons (s_look 6) a_nil)) (aCons_len (aCons_len aNil_len))))) (w_or1 (t_cmp (m := true) (o_ne hr.units) (s_look 5) (s_look 4) (nomark _))))) (ss_one (ss_ret s_bl)) ss_nil) (ss_cons (ss_expM (m_app p_name s_int)) (ss_cons (ss_if (PW.pt (w_and (t_cmp (m := true) (o_eq hr.units) (s_look 2) s_int (nomark _)) (w_and1 (t_not (t_val (m := true) (s_okP (ok_law_same T) (hr.mono (by decide)) rfl (a_cons (s_okP (ok_periods T) (hr.mono (by decide)) rfl (a_cons (s_look 5) a_nil) (aCons_len aNil_len)) (a_cons (s_look 6) a_nil)) (aCons_len (aCons_len aNil_len)))))))) (ss_one (ss_ret s_bl)) ss_nil) (ss_cons (ss_setB (i := 8) sc.nd rfl (Or.inl rfl) (b_lst (a_cons (s_tup (a_cons s_int (a_cons s_int a_nil))) a_nil))) (ss_cons (ss_for (i_rng2 (by rfl) T.n_range (a_cons s_int (a_cons (s_bin o_add (s_var 3) s_int) a_nil))) (g_name 9 sc.nd rfl (Or.inl rfl)) (ss_cons (ss_if (t_not (t_val (m := true) (s_okP (ok_law_same T) (hr.mono (by decide)) rfl (a_cons (s_okP (ok_repeats T) (hr.mono (by decide)) rfl (a_cons (s_look 5) (a_cons (s_look 9) a_nil)) (aCons_len (aCons_len aNil_len))) (a_cons (s_okP (ok_law_repeats T) (hr.mono (by decide)) rfl (a_cons (s_look 4) (a_cons (s_look 9) a_nil)) (aCons_len (aCons_len aNil_len))) a_nil)) (aCons_len (aCons_len aNil_len))))) (ss_one (ss_ret s_bl)) ss_nil) (ss_one (ss_expM (m_app p_name (s_okP (ok_law_errors T) (hr.mono (by decide)) rfl (a_cons (s_var 4) (a_cons (s_var 9) a_nil)) (aCons_len (aCons_len aNil_len)))))))) (ss_cons (ss_for (i_rng1 (by rfl) T.n_range (a_cons s_int a_nil)) (g_name 10 sc.nd rfl (Or.inl rfl)) (ss_cons (ss_set (i := 9) sc.nd rfl (Or.inl rfl) (s_bin o_add s_int (s_frz (b_ok (ok_law_draw T) (hr.mono (by decide)) rfl (a_cons (s_var 1) (a_cons (s_bin o_add (s_var 3) s_int) a_nil)) (aCons_len (aCons_len aNil_len)))))) (ss_cons (ss_if (t_not (t_val (m := true) (s_okP (ok_law_same T) (hr.mono (by decide)) rfl (a_cons (s_okP (ok_least_errors T) (hr.mono (by decide)) rfl (a_cons (s_look 5) (a_cons (s_look 9) a_nil)) (aCons_len (aCons_len aNil_len))) (a_cons (s_okP (ok_law_low T) (hr.mono (by decide)) rfl (a_cons (s_ix (s_ix (s_look 8) (s_look 9)) s_int) (a_cons (s_ix (s_ix (s_look 8) (s_look 9)) s_int) a_nil)) (aCons_len (aCons_len aNil_len))) a_nil)) (aCons_len (aCons_len aNil_len))))) (ss_one (ss_ret s_bl)) ss_nil) (ss_cons (ss_setB (i := 7) sc.nd rfl (Or.inl rfl) (b_okP (ok_folded T) (hr.mono (by decide)) rfl (a_cons (s_var 5) (a_cons (s_var 9) a_nil)) (aCons_len (aCons_len aNil_len)))) (ss_cons (ss_if (PW.pt (w_or (t_not (t_val (m := true) (s_okP (ok_law_same T) (hr.mono (by decide)) rfl (a_cons (s_look 7) (a_cons (s_okP (ok_law_folded T) (hr.mono (by decide)) rfl (a_cons (s_look 4) (a_cons (s_look 9) a_nil)) (aCons_len (aCons_len aNil_len))) a_nil)) (aCons_len (aCons_len aNil_len))))) (w_or1 (t_cmp (m := true) (o_ne hr.units) (s_look 5) (s_look 4) (nomark _))))) (ss_one (ss_ret s_bl)) ss_nil) (ss_cons (ss_expM (m_app (p_ix p_name s_int) s_int)) (ss_cons (ss_expM (m_appB p_name (b_lst a_nil))) (ss_one (ss_if (PW.pt (w_or (t_not (t_val (m := true) (s_okP (ok_law_same T) (hr.mono (by decide)) rfl (a_cons (s_okP (ok_folded T) (hr.mono (by decide)) rfl (a_cons (s_look 5) (a_cons (s_look 9) a_nil)) (aCons_len (aCons_len aNil_len))) (a_cons (s_okP (ok_law_folded T) (hr.mono (by decide)) rfl (a_cons (s_look 4) (a_cons (s_look 9) a_nil)) (aCons_len (aCons_len aNil_len))) a_nil)) (aCons_len (aCons_len aNil_len))))) (w_or1 (t_cmp (m := true) (o_ne hr.units) (s_look 5) (s_look 4) (nomark _))))) (ss_one (ss_ret s_bl)) ss_nil))))))))) (ss_one (ss_if (t_cmp (m := true) o_gt (s_look 3) s_int (nomark _)) (ss_cons (ss_set (i := 11) sc.nd rfl (Or.inl rfl) (s_bin o_add s_int (s_frz (b_ok (ok_law_draw T) (hr.mono (by decide)) rfl (a_cons (s_var 1) (a_cons (s_bin o_sub (s_var 3) s_int) a_nil)) (aCons_len (aCons_len aNil_len)))))) (ss_cons (ss_set (i := 12) sc.nd rfl (Or.inl rfl) (s_bin o_add (s_var 11) (s_frz (b_ok (ok_law_draw T) (hr.mono (by decide)) rfl (a_cons (s_var 1) (a_cons (s_bin o_sub (s_var 3) (s_var 11)) a_nil)) (aCons_len (aCons_len aNil_len)))))) (ss_one (ss_for (i_any (s_tup (a_cons (s_tup (a_cons (s_var 11) (a_cons (s_var 12) a_nil))) (a_cons (s_tup (a_cons s_int (a_cons (s_bin o_sub (s_var 3) s_int) a_nil))) a_nil)))) (g_tup rfl (gs_cons (g_name 13 sc.nd rfl (Or.inl rfl)) (gs_cons (g_name 14 sc.nd rfl (Or.inl rfl)) gs_nil))) (ss_one (ss_if (PW.pt (w_or (t_not (t_val (m := true) (s_okP (ok_law_same T) (hr.mono (by decide)) rfl (a_cons (s_okP (ok_best_period T) (hr.mono (by decide)) rfl (a_cons (s_look 5) (a_cons (s_look 13) (a_cons (s_look 14) a_nil))) (aCons_len (aCons_len (aCons_len aNil_len)))) (a_cons (s_okP (ok_law_best T) (hr.mono (by decide)) rfl (a_cons (s_look 8) (a_cons (s_look 13) (a_cons (s_look 14) (a_cons (s_look 3) a_nil)))) (aCons_len (aCons_len (aCons_len (aCons_len aNil_len))))) a_nil)) (aCons_len (aCons_len aNil_len))))) (w_or1 (t_cmp (m := true) (o_ne hr.units) (s_look 5) (s_look 4) (nomark _))))) (ss_one (ss_ret s_bl)) ss_nil)))))) ss_nil)))))))))))))) (ss_cons (ss_if (PW.pt (w_or (t_not (t_val (m := true) (s_okP (ok_law_same T) (hr.mono (by decide)) rfl (a_cons (s_okP (ok_least_errors T) (hr.mono (by decide)) rfl (a_cons (s_low (s_lst (a_cons s_int (a_cons s_int (a_cons s_int (a_cons s_int (a_cons s_int a_nil))))))) (a_cons s_int a_nil)) (aCons_len (aCons_len aNil_len))) (a_cons (s_tup (a_cons s_int (a_cons s_int a_nil))) a_nil)) (aCons_len (aCons_len aNil_len))))) (w_or1 (t_not (t_val (m := true) (s_okP (ok_law_same T) (hr.mono (by decide)) rfl (a_cons (s_okP (ok_periods T) (hr.mono (by decide)) rfl (a_cons (s_low (s_lst (a_cons s_int (a_cons s_int (a_cons s_int (a_cons s_int (a_cons s_int a_nil))))))) a_nil) (aCons_len aNil_len)) (a_cons (s_low (s_lst (a_cons s_int (a_cons s_int a_nil)))) a_nil)) (aCons_len (aCons_len aNil_len)))))))) (ss_one (ss_ret s_bl)) ss_nil) (ss_one (ss_ret (s_and (s_okP (ok_law_same T) (hr.mono (by decide)) rfl (a_cons (s_okP (ok_best_period T) (hr.mono (by decide)) rfl (a_cons (s_lst (a_cons s_int (a_cons s_int (a_cons s_int (a_cons s_int (a_cons s_int (a_cons s_int a_nil))))))) (a_cons s_int (a_cons s_int a_nil))) (aCons_len (aCons_len (aCons_len aNil_len)))) (a_cons s_int a_nil)) (aCons_len (aCons_len aNil_len))) (s_one (s_okP (ok_law_same T) (hr.mono (by decide)) rfl (a_cons (s_okP (ok_folded T) (hr.mono (by decide)) rfl (a_cons (s_lst (a_cons s_int (a_cons s_int (a_cons s_int a_nil)))) (a_cons s_int a_nil)) (aCons_len (aCons_len aNil_len))) (a_cons (s_lst (a_cons (s_lst (a_cons s_int (a_cons s_int a_nil))) (a_cons (s_lst (a_cons s_int a_nil)) a_nil))) a_nil)) (aCons_len (aCons_len aNil_len))))))))))

end K40

namespace K40
open PySem L2 Ev
theorem zl (n : Nat) (h : n ≤ 1000) : n ≤ sizeLine := le_line (by omega)
theorem pl {i : Int} : (D.int i).plain = true := rfl
section
variable {xs ys us : List Int} {a b c d n w p f st la i : Int} {ds : List Int} {k P : Nat}
def cg (p f x : Int) : Bool := decide ((x - f) % p = 0)
def nx (p f x : Int) : Int := x + (f - x) % p
theorem nx_spec (hp : 0 < p) (x : Int) : x ≤ nx p f x ∧ nx p f x < x + p ∧ cg p f (nx p f x) = true ∧ ∀ y, x ≤ y → y < nx p f x → cg p f y = false := by
  have n0 := Int.emod_nonneg (f - x) (show p ≠ 0 by omega)
  have n1 := Int.emod_lt_of_pos (f - x) hp
  have e := Int.emod_add_mul_ediv (f - x) p
  have c : (nx p f x - f) % p = 0 := by
    unfold nx
    rw [show x + (f - x) % p - f = p * (-((f - x) / p)) by rw [Int.mul_neg]; omega]
    exact Int.mul_emod_right _ _
  refine ⟨by unfold nx; omega, by unfold nx; omega, decide_eq_true c, fun y h1 h2 => decide_eq_false fun q => ?_⟩
  have d : p ∣ nx p f x - y := by
    have := Int.dvd_sub (Int.dvd_of_emod_eq_zero c) (Int.dvd_of_emod_eq_zero q)
    rw [show nx p f x - f - (y - f) = nx p f x - y by omega] at this
    exact this
  have := Int.le_of_dvd (by omega) d
  unfold nx at this h2
  omega
theorem cg_shift {x : Int} : cg p f (x + p) = cg p f x := by
  unfold cg
  rw [show x + p - f = x - f + p by omega, Int.add_emod_right]
theorem seg_c (hp : 0 < p) : ∀ (k : Nat) (st : Int), la ≤ st + k → segC (nx p f st) la p = (seg st la).filter (cg p f)
  | 0, st, h => by
    have := (nx_spec (p := p) (f := f) hp st).1
    rw [seg_nil (by omega), segC_nil (by omega)]; rfl
  | k + 1, st, h => by
    rcases Int.lt_or_le st la with c | c
    · have ih := seg_c hp k (st + 1) (by omega)
      obtain ⟨s1, s2, s3, s4⟩ := nx_spec (p := p) (f := f) hp st
      obtain ⟨t1, t2, t3, t4⟩ := nx_spec (p := p) (f := f) hp (st + 1)
      rw [seg_cons c, List.filter_cons, ← ih]
      rcases q : cg p f st
      · rw [if_neg (by decide)]
        have n1 : nx p f st ≠ st := fun z => by rw [z, q] at s3; cases s3
        have : nx p f st = nx p f (st + 1) := by
          rcases Int.lt_trichotomy (nx p f st) (nx p f (st + 1)) with z | z | z
          · rw [t4 (nx p f st) (by omega) z] at s3; cases s3
          · exact z
          · rw [s4 (nx p f (st + 1)) (by omega) z] at t3; cases t3
        rw [this]
      · rw [if_pos rfl]
        have e0 : nx p f st = st := by
          rcases Int.lt_or_eq_of_le s1 with z | z
          · rw [s4 st (Int.le_refl _) z] at q; cases q
          · exact z.symm
        have e1 : nx p f (st + 1) = st + p := by
          have cs : cg p f (st + p) = true := by rw [cg_shift]; exact q
          rcases Int.lt_trichotomy (nx p f (st + 1)) (st + p) with z | z | z
          · have c2 : cg p f (nx p f (st + 1) - p) = true := by
              have := cg_shift (p := p) (f := f) (x := nx p f (st + 1) - p)
              rw [Int.sub_add_cancel] at this
              rw [← this]; exact t3
            have d : p ∣ nx p f (st + 1) - st := by
              have := Int.dvd_sub (Int.dvd_of_emod_eq_zero (of_decide_eq_true t3)) (Int.dvd_of_emod_eq_zero (of_decide_eq_true q))
              rw [show nx p f (st + 1) - f - (st - f) = nx p f (st + 1) - st by omega] at this
              exact this
            have := Int.le_of_dvd (by omega) d
            omega
          · exact z
          · rw [t4 (st + p) (by omega) z] at cs; cases cs
        rw [e0, segC_cons hp c, e1]
    · have := (nx_spec (p := p) (f := f) hp st).1
      rw [seg_nil (by omega), segC_nil (by omega)]; rfl
theorem set_range {β : Type} (g : Nat → β) (N k : Nat) (b : β) : ((List.range N).map g).set k b = (List.range N).map fun i => if i = k then b else g i := by
  refine List.ext_getElem? fun i => ?_
  rw [List.getElem?_set, List.getElem?_map, List.getElem?_map]
  by_cases c : k = i
  · subst c
    rw [if_pos rfl, List.length_map, List.length_range]
    by_cases d : k < N
    · rw [if_pos d, List.getElem?_range d, Option.map_some, if_pos rfl]
    · rw [if_neg d, List.getElem?_eq_none (by simp; omega)]; rfl
  · rw [if_neg c]
    by_cases d : i < N
    · rw [List.getElem?_range d, Option.map_some, Option.map_some, if_neg (fun e => c e.symm)]
    · rw [List.getElem?_eq_none (by simp; omega)]; rfl
theorem seg_r {N : Nat} : seg 0 (N : Int) = (List.range N).map fun i : Nat => (i : Int) := by
  unfold seg
  rw [show ((N : Int) - 0).toNat = N by omega]
  exact List.map_congr_left fun i _ => by omega
/-! every p-th -/
def pk (xs : List Int) (i p : Int) : List Int := (segC i xs.length p).map fun k => xs.getD k.toNat 0
theorem pick_map {α β : Type} (g : α → β) (xs : List α) : ∀ is : List Nat, pickI (xs.map g) is = (pickI xs is).map g
  | [] => rfl
  | i :: is => by
    have ih := pick_map g xs is
    unfold pickI at ih ⊢
    rw [List.filterMap_cons, List.filterMap_cons, List.getElem?_map]
    rcases xs[i]? with _ | x
    · exact ih
    · show g x :: _ = _; rw [ih]; rfl
theorem slice_ok (hi : 0 ≤ i) (hp : 0 < p) (hl : xs.length ≤ 100) : dPick (.lst (xs.map D.int)) (some i) none (some p) = some (.lst ((pk xs i p).map D.int)) := by
  have e : pickI (xs.map D.int) (idxS (some i) none (some p) (xs.map D.int).length) = (pk xs i p).map D.int := by
    rw [List.length_map, pick_map, pick_seg hi hp]; rfl
  have ln : (pk xs i p).length ≤ 101 := by
    unfold pk segC
    rw [List.length_map, List.length_map, List.length_range]
    split
    · have := div_bd (x := (xs.length : Int) - i - 1) (m := p) (N := 100) (by omega) (by omega)
      omega
    · omega
  show (if some p ≠ some 0 ∧ _ then _ else _) = _
  rw [e, if_pos]
  exact ⟨by simp; omega, by rw [List.length_map]; exact zl _ (by omega)⟩
theorem pk_len (hi : 0 ≤ i) (hp : 0 < p) : (pk xs i p).length ≤ xs.length := by
  unfold pk
  rw [List.length_map]
  have key : ∀ n : Nat, ∀ i : Int, 0 ≤ i → (xs.length : Int) ≤ i + n → (segC i xs.length p).length ≤ n := by
    intro n
    induction n with
    | zero => intro i _ h; rw [segC_nil (by omega)]; exact Nat.le_refl _
    | succ n ih =>
      intro i h0 h
      rcases Int.lt_or_le i xs.length with z | z
      · rw [segC_cons hp z, List.length_cons]
        have := ih (i + p) (by omega) (by omega)
        omega
      · rw [segC_nil z]; exact Nat.zero_le _
  exact key xs.length i hi (by omega)
theorem pk_pos (hp : 0 < p) (h : i < xs.length) : 1 ≤ (pk xs i p).length := by
  unfold pk
  rw [List.length_map, segC_cons hp h, List.length_cons]; omega
abbrev oI (xs : List Int) : List B := xs.map fun i => B.v (.int i)
theorem mapI {xs : List Int} : (xs.map D.int).map B.v = oI xs := by rw [List.map_map]; rfl
theorem snocI {a : Int} : oI us ++ [B.v (.int a)] = oI (us ++ [a]) := by simp
theorem get_at {k : Int} (h : 0 ≤ k ∧ k < xs.length) : atI (xs.map D.int) k = some (.int (xs.getD k.toNat 0)) := by
  rw [atI_nn h.1, List.getElem?_map, List.getD_eq_getElem?_getD, List.getElem?_eq_getElem (by omega)]; rfl
theorem pick_lc {own : List Nat} {j : Nat} {e : EvE} {s : Sta} (hi : 0 ≤ i) (hp : 0 < p) (H : ∀ k : Int, 0 ≤ k → k < xs.length → lcS own (gN j) tYes' e (.int k) s = some (some (.int (xs.getD k.toNat 0)), s)) : lcL own (gN j) tYes' e ((segC i xs.length p).map D.int) s = some ((pk xs i p).map D.int, s) := by
  unfold pk
  rw [List.map_map]
  refine lcL_all (g := D.int) (fun k => D.int (xs.getD k.toNat 0)) _ fun k hk => ?_
  have := (mem_segC hp).mp hk
  exact H k (by omega) (by omega)
theorem seg_ln (hi : 0 ≤ i) (hp : 0 < p) : (segC i xs.length p).length ≤ xs.length := by
  have := pk_len (xs := xs) hi hp
  unfold pk at this
  rw [List.length_map] at this; exact this
theorem frzs_gen {α : Type} (v : α → B) (g : α → D) (h : ∀ x, (v x).frz = g x) : ∀ xs : List α, B.frzs (xs.map v) = xs.map g
  | [] => rfl
  | x :: xs => by rw [List.map_cons, List.map_cons, ← frzs_gen v g h xs, ← h x]; rfl
/-- the rule of paths -/
def pIxK (i : Nat) (p : List Nat) (xs : List B) : D × Sta → Option (List Nat × Sta)
  | (.int k, s) => @bnd _ _ (ixN xs.length k) ⟨fun j => @bnd _ _ (own? i (p ++ [j]) s) ⟨fun _ => some (p ++ [j], s)⟩⟩
  | _ => none
theorem pIx_q {i : Nat} {f : EvP} {g : EvE} {s : Sta} : pIx i f g s = @bnd _ _ (f s) ⟨fun p => @bnd _ _ (own? i p.1 p.2) ⟨fun _ => @bnd _ _ (g p.2) ⟨fun q => @bnd _ _ (own? i p.1 q.2) ⟨fun xs => pIxK i p.1 xs q⟩⟩⟩⟩ := by
  show (f s).bind _ = (f s).bind _
  congr 1; funext p
  show (own? i p.1 p.2).bind _ = (own? i p.1 p.2).bind _
  congr 1; funext _
  show (g p.2).bind _ = (g p.2).bind _
  congr 1; funext q
  show (own? i p.1 q.2).bind _ = (own? i p.1 q.2).bind _
  congr 1; funext xs
  obtain ⟨d, s'⟩ := q
  cases d <;> rfl
theorem pIxK_i {i : Nat} {p : List Nat} {xs : List B} {k : Int} {s : Sta} : pIxK i p xs (.int k, s) = @bnd _ _ (ixN xs.length k) ⟨fun j => @bnd _ _ (own? i (p ++ [j]) s) ⟨fun _ => some (p ++ [j], s)⟩⟩ := rfl
theorem put_1 {xs ys : List B} {c : B} {j : Nat} (h : xs[j]? = some c) : B.put (.o ys) [j] (.o xs) = .o (xs.set j (.o ys)) := by
  show (match xs[j]? with | some b => B.o (xs.set j (B.put (.o ys) [] b)) | none => .o xs) = _
  rw [h]; rfl
theorem ixN_k {N k : Nat} (h : k < N) : ixN N (k : Int) = some k := by rw [ixN_nn (by omega), Int.toNat_natCast]
theorem seg_snoc {j : Nat} : seg 0 ((j + 1 : Nat) : Int) = seg 0 (j : Int) ++ [(j : Int)] := by
  rw [seg_r, seg_r, List.range_succ, List.map_append]; rfl
theorem cg_mod {j r : Nat} (hr : r < P) : cg P r (j : Int) = decide (r = j % P) := by
  unfold cg
  refine decide_eq_decide.mpr ⟨fun h => ?_, fun h => ?_⟩
  · have := Int.emod_eq_emod_iff_emod_sub_eq_zero.mpr h
    rw [Int.emod_eq_of_lt (a := (r : Int)) (by omega) (by omega)] at this
    omega
  · refine Int.emod_eq_emod_iff_emod_sub_eq_zero.mp ?_
    rw [Int.emod_eq_of_lt (a := (r : Int)) (by omega) (by omega)]
    omega
/-! does it repeat -/
def repM (xs : List Int) (P : Nat) : Bool := (xs.zip (xs.drop P)).all fun q => decide (q.1 = q.2)
theorem zip_ints {xs ys : List Int} : dZip [.lst (xs.map .int), .lst (ys.map .int)] = some ((xs.zip ys).map Ev.pr) := by
  show some (pairUp _ _) = _
  rw [pairUp, List.zip_map, List.map_map]; rfl
theorem repeats_ok (hl : xs.length ≤ 100) : pF F_repeats [.lst (xs.map .int), .int P] = some (.v (.bl (repM xs P))) := by
  have lc : lcL [2, 3] (gT 2 (gsCons (gN 2) (gsCons (gN 3) gsNil))) tYes' (e2 dEq (eV 2) (eV 3)) ((xs.zip (xs.drop P)).map Ev.pr) ⟨[some (.v (.lst (xs.map .int))), some (.v (.int P)), none, none], [], true⟩ = some (((xs.zip (xs.drop P)).map fun q => decide (q.1 = q.2)).map D.bl, ⟨[some (.v (.lst (xs.map .int))), some (.v (.int P)), none, none], [], true⟩) := by
    rw [List.map_map]
    refine lcL_all (g := Ev.pr) (fun q => D.bl (decide (q.1 = q.2))) _ fun q _ => ?_
    obtain ⟨u, v⟩ := q
    show lcS _ _ _ _ (D.tup [.int u, .int v]) _ = some (some (D.bl (decide (u = v))), _)
    simp -implicitDefEqProofs (maxSteps := 1000000) (disch := omega) only [↓bnd_some, bnd_some, eV_q, eVk_v, eVk_o, eW_q, eWk_b, frz_v, frz_o, frzs_nil, frzs_cons, ↓eC_q, ↓e1_q, ↓e2_q, ↓e3_q, e3k_b, ↓eT_q, ↓eTb_q, ↓eTbk_b, eTbk_b, ↓wAnd_q, ↓wOr_q, ↓wNot_q, ↓eAnd_q, ↓eOr_q, ↓eNot_q, ↓eIf_q, ↓eP_q, ↓aNil_q, ↓aCons_q, ↓eL_q, ↓eFz_q, ↓bLst_q, ↓bL_q, ↓b2_q, ↓bCall_q, ↓bPure_q, ↓pV_q, ↓sSeq_q, ↓seqK_nx, seqK_nx, ↓seqK_rt, seqK_rt, ↓seqK_bk, seqK_bk, ↓seqK_ct, seqK_ct, ↓sIf_q, ↓sNil_q, ↓sBk_q, ↓sCt_q, ↓sRet_q, ↓sRetB_q, ↓sRetN_q, ↓sRetV_q, rvK_b, ↓sExp_q, ↓sSet_q, ↓sSetB_q, put_q, ↓sAug_q, augK_v, ↓finK_rt, finK_rt, ↓finK_nx, finK_nx, ↓gN_q, ↓gsNil_q, ↓gsCons_q, ↓gT_q, ↓sAsg_q, ↓iV_q, ↓iA_q, items_lst, items_tup, ↓sFor_q, forL_nil, ↓forK_nx, forK_nx, ↓forK_ct, forK_ct, ↓forK_bk, forK_bk, ↓forK_rt, forK_rt, ↓whK_nx, whK_nx, ↓whK_ct, whK_ct, ↓whK_bk, whK_bk, ↓whK_rt, whK_rt, ↓bLc_q, ↓tYes_q, wipeE_nil, wipeE_cons, ↓pN_q, own_q, ownK_o, mutS_q, mutK_o, ↓mApp_q, ↓mAppB_q, ↓mPop_q, popK_v, ↓sSetIx_q, setK_i, ↓eObj_q, ↓eIxS_q, ↓sSetO_q, dAdd_i, dSub_i, dNeg_i, dLt_i, dLe_i, dGt_i, dGe_i, dEq_i, dNe_i, dTru_b, dTru_i, dTru_l, dTru_t, bAbs_i, bInt_i, bLen_l, bLen_t, bLen_s, dIx_l, dIx_t, bMaxD_2, bMinD_2, ↓dTup_q, ↓eCut_q, ↓oNone_q, ↓oSome_q, ↓oSk_i, oSk_i, List.getElem?_cons_zero, List.getElem?_cons_succ, List.set_cons_zero, List.set_cons_succ, if_true, if_false, Bool.false_eq_true, decide_eq_true_eq, decide_eq_false_iff_not, Bool.not_true, Bool.not_false, List.length_cons, List.length_nil, List.map_cons, List.map_nil, dMul_i, dFdiv_i, dMod_i, List.nil_append, Nat.zero_add, Nat.reduceAdd, Nat.reduceLeDiff, Nat.reduceLT, Nat.reduceEqDiff, le_refl_line, and_self, true_and, and_true, bnd_none, Bool.not_eq_true, eq_self, reduceCtorEq, decide_true, decide_false, B.frzs_v, Nat.add_assoc, draw_ok, ix0, ix1, Int.cast_ofNat_Int, Int.natCast_zero, Int.natCast_one, ↓bLc2_q, ↓bLcB_q, ↓mExt_q, extK_o, ↓bRg3_q, ↓eCut3_q, ↓bCut3_q, lcS, dEq_i]
  have z : (xs.zip (xs.drop P)).length ≤ sizeLine := zl _ (by rw [List.length_zip]; omega)
  have al : ((xs.zip (xs.drop P)).map fun q => decide (q.1 = q.2)).all id = repM xs P := by unfold repM; rw [List.all_map]; rfl
  have cf : dCut (.lst (xs.map D.int)) (some (P : Int)) none = some (.lst ((xs.drop P).map D.int)) := by rw [cut_from, List.map_drop]
  rw [pF_q, q_repeats, b_repeats]
  simp -implicitDefEqProofs (maxSteps := 1000000) (disch := omega) only [↓bnd_some, bnd_some, eV_q, eVk_v, eVk_o, eW_q, eWk_b, frz_v, frz_o, frzs_nil, frzs_cons, ↓eC_q, ↓e1_q, ↓e2_q, ↓e3_q, e3k_b, ↓eT_q, ↓eTb_q, ↓eTbk_b, eTbk_b, ↓wAnd_q, ↓wOr_q, ↓wNot_q, ↓eAnd_q, ↓eOr_q, ↓eNot_q, ↓eIf_q, ↓eP_q, ↓aNil_q, ↓aCons_q, ↓eL_q, ↓eFz_q, ↓bLst_q, ↓bL_q, ↓b2_q, ↓bCall_q, ↓bPure_q, ↓pV_q, ↓sSeq_q, ↓seqK_nx, seqK_nx, ↓seqK_rt, seqK_rt, ↓seqK_bk, seqK_bk, ↓seqK_ct, seqK_ct, ↓sIf_q, ↓sNil_q, ↓sBk_q, ↓sCt_q, ↓sRet_q, ↓sRetB_q, ↓sRetN_q, ↓sRetV_q, rvK_b, ↓sExp_q, ↓sSet_q, ↓sSetB_q, put_q, ↓sAug_q, augK_v, ↓finK_rt, finK_rt, ↓finK_nx, finK_nx, ↓gN_q, ↓gsNil_q, ↓gsCons_q, ↓gT_q, ↓sAsg_q, ↓iV_q, ↓iA_q, items_lst, items_tup, ↓sFor_q, forL_nil, ↓forK_nx, forK_nx, ↓forK_ct, forK_ct, ↓forK_bk, forK_bk, ↓forK_rt, forK_rt, ↓whK_nx, whK_nx, ↓whK_ct, whK_ct, ↓whK_bk, whK_bk, ↓whK_rt, whK_rt, ↓bLc_q, ↓tYes_q, wipeE_nil, wipeE_cons, ↓pN_q, own_q, ownK_o, mutS_q, mutK_o, ↓mApp_q, ↓mAppB_q, ↓mPop_q, popK_v, ↓sSetIx_q, setK_i, ↓eObj_q, ↓eIxS_q, ↓sSetO_q, dAdd_i, dSub_i, dNeg_i, dLt_i, dLe_i, dGt_i, dGe_i, dEq_i, dNe_i, dTru_b, dTru_i, dTru_l, dTru_t, bAbs_i, bInt_i, bLen_l, bLen_t, bLen_s, dIx_l, dIx_t, bMaxD_2, bMinD_2, ↓dTup_q, ↓eCut_q, ↓oNone_q, ↓oSome_q, ↓oSk_i, oSk_i, List.getElem?_cons_zero, List.getElem?_cons_succ, List.set_cons_zero, List.set_cons_succ, if_true, if_false, Bool.false_eq_true, decide_eq_true_eq, decide_eq_false_iff_not, Bool.not_true, Bool.not_false, List.length_cons, List.length_nil, List.map_cons, List.map_nil, dMul_i, dFdiv_i, dMod_i, List.nil_append, Nat.zero_add, Nat.reduceAdd, Nat.reduceLeDiff, Nat.reduceLT, Nat.reduceEqDiff, le_refl_line, and_self, true_and, and_true, bnd_none, Bool.not_eq_true, eq_self, reduceCtorEq, decide_true, decide_false, B.frzs_v, Nat.add_assoc, draw_ok, ix0, ix1, Int.cast_ofNat_Int, Int.natCast_zero, Int.natCast_one, ↓bLc2_q, ↓bLcB_q, ↓mExt_q, extK_o, ↓bRg3_q, ↓eCut3_q, ↓bCut3_q, cf, zip_ints, List.length_map, z, lc, B.frzs_v, all_bools, al]
def perM (xs : List Int) : List Int := (seg 1 xs.length).filter fun p => repM xs p.toNat
theorem periods_ok (hl : xs.length ≤ 100) : pF F_periods [.lst (xs.map .int)] = some (.o (oI (perM xs))) := by
  have lc : lcL [1] (gN 1) c1_periods (eV 1) ((seg 1 (xs.length : Int)).map D.int) ⟨[some (.v (.lst (xs.map .int))), none], [], true⟩ = some ((perM xs).map D.int, ⟨[some (.v (.lst (xs.map .int))), none], [], true⟩) := by
    refine lcL_map (g := D.int) (fun p => repM xs p.toNat) D.int _ fun p hp => ?_
    have hp := mem_seg.mp hp
    obtain ⟨Q, rfl⟩ : ∃ Q : Nat, p = Q := ⟨p.toNat, by omega⟩
    have e := repeats_ok (xs := xs) (P := Q) hl
    rw [Int.toNat_natCast]
    constructor
    · intro h
      rw [h] at e
      simp -implicitDefEqProofs (maxSteps := 1000000) (disch := omega) only [↓bnd_some, bnd_some, eV_q, eVk_v, eVk_o, eW_q, eWk_b, frz_v, frz_o, frzs_nil, frzs_cons, ↓eC_q, ↓e1_q, ↓e2_q, ↓e3_q, e3k_b, ↓eT_q, ↓eTb_q, ↓eTbk_b, eTbk_b, ↓wAnd_q, ↓wOr_q, ↓wNot_q, ↓eAnd_q, ↓eOr_q, ↓eNot_q, ↓eIf_q, ↓eP_q, ↓aNil_q, ↓aCons_q, ↓eL_q, ↓eFz_q, ↓bLst_q, ↓bL_q, ↓b2_q, ↓bCall_q, ↓bPure_q, ↓pV_q, ↓sSeq_q, ↓seqK_nx, seqK_nx, ↓seqK_rt, seqK_rt, ↓seqK_bk, seqK_bk, ↓seqK_ct, seqK_ct, ↓sIf_q, ↓sNil_q, ↓sBk_q, ↓sCt_q, ↓sRet_q, ↓sRetB_q, ↓sRetN_q, ↓sRetV_q, rvK_b, ↓sExp_q, ↓sSet_q, ↓sSetB_q, put_q, ↓sAug_q, augK_v, ↓finK_rt, finK_rt, ↓finK_nx, finK_nx, ↓gN_q, ↓gsNil_q, ↓gsCons_q, ↓gT_q, ↓sAsg_q, ↓iV_q, ↓iA_q, items_lst, items_tup, ↓sFor_q, forL_nil, ↓forK_nx, forK_nx, ↓forK_ct, forK_ct, ↓forK_bk, forK_bk, ↓forK_rt, forK_rt, ↓whK_nx, whK_nx, ↓whK_ct, whK_ct, ↓whK_bk, whK_bk, ↓whK_rt, whK_rt, ↓bLc_q, ↓tYes_q, wipeE_nil, wipeE_cons, ↓pN_q, own_q, ownK_o, mutS_q, mutK_o, ↓mApp_q, ↓mAppB_q, ↓mPop_q, popK_v, ↓sSetIx_q, setK_i, ↓eObj_q, ↓eIxS_q, ↓sSetO_q, dAdd_i, dSub_i, dNeg_i, dLt_i, dLe_i, dGt_i, dGe_i, dEq_i, dNe_i, dTru_b, dTru_i, dTru_l, dTru_t, bAbs_i, bInt_i, bLen_l, bLen_t, bLen_s, dIx_l, dIx_t, bMaxD_2, bMinD_2, ↓dTup_q, ↓eCut_q, ↓oNone_q, ↓oSome_q, ↓oSk_i, oSk_i, List.getElem?_cons_zero, List.getElem?_cons_succ, List.set_cons_zero, List.set_cons_succ, if_true, if_false, Bool.false_eq_true, decide_eq_true_eq, decide_eq_false_iff_not, Bool.not_true, Bool.not_false, List.length_cons, List.length_nil, List.map_cons, List.map_nil, dMul_i, dFdiv_i, dMod_i, List.nil_append, Nat.zero_add, Nat.reduceAdd, Nat.reduceLeDiff, Nat.reduceLT, Nat.reduceEqDiff, le_refl_line, and_self, true_and, and_true, bnd_none, Bool.not_eq_true, eq_self, reduceCtorEq, decide_true, decide_false, B.frzs_v, Nat.add_assoc, draw_ok, ix0, ix1, Int.cast_ofNat_Int, Int.natCast_zero, Int.natCast_one, ↓bLc2_q, ↓bLcB_q, ↓mExt_q, extK_o, ↓bRg3_q, ↓eCut3_q, ↓bCut3_q, lcS, c1_periods, e]
    · intro h
      rw [h] at e
      simp -implicitDefEqProofs (maxSteps := 1000000) (disch := omega) only [↓bnd_some, bnd_some, eV_q, eVk_v, eVk_o, eW_q, eWk_b, frz_v, frz_o, frzs_nil, frzs_cons, ↓eC_q, ↓e1_q, ↓e2_q, ↓e3_q, e3k_b, ↓eT_q, ↓eTb_q, ↓eTbk_b, eTbk_b, ↓wAnd_q, ↓wOr_q, ↓wNot_q, ↓eAnd_q, ↓eOr_q, ↓eNot_q, ↓eIf_q, ↓eP_q, ↓aNil_q, ↓aCons_q, ↓eL_q, ↓eFz_q, ↓bLst_q, ↓bL_q, ↓b2_q, ↓bCall_q, ↓bPure_q, ↓pV_q, ↓sSeq_q, ↓seqK_nx, seqK_nx, ↓seqK_rt, seqK_rt, ↓seqK_bk, seqK_bk, ↓seqK_ct, seqK_ct, ↓sIf_q, ↓sNil_q, ↓sBk_q, ↓sCt_q, ↓sRet_q, ↓sRetB_q, ↓sRetN_q, ↓sRetV_q, rvK_b, ↓sExp_q, ↓sSet_q, ↓sSetB_q, put_q, ↓sAug_q, augK_v, ↓finK_rt, finK_rt, ↓finK_nx, finK_nx, ↓gN_q, ↓gsNil_q, ↓gsCons_q, ↓gT_q, ↓sAsg_q, ↓iV_q, ↓iA_q, items_lst, items_tup, ↓sFor_q, forL_nil, ↓forK_nx, forK_nx, ↓forK_ct, forK_ct, ↓forK_bk, forK_bk, ↓forK_rt, forK_rt, ↓whK_nx, whK_nx, ↓whK_ct, whK_ct, ↓whK_bk, whK_bk, ↓whK_rt, whK_rt, ↓bLc_q, ↓tYes_q, wipeE_nil, wipeE_cons, ↓pN_q, own_q, ownK_o, mutS_q, mutK_o, ↓mApp_q, ↓mAppB_q, ↓mPop_q, popK_v, ↓sSetIx_q, setK_i, ↓eObj_q, ↓eIxS_q, ↓sSetO_q, dAdd_i, dSub_i, dNeg_i, dLt_i, dLe_i, dGt_i, dGe_i, dEq_i, dNe_i, dTru_b, dTru_i, dTru_l, dTru_t, bAbs_i, bInt_i, bLen_l, bLen_t, bLen_s, dIx_l, dIx_t, bMaxD_2, bMinD_2, ↓dTup_q, ↓eCut_q, ↓oNone_q, ↓oSome_q, ↓oSk_i, oSk_i, List.getElem?_cons_zero, List.getElem?_cons_succ, List.set_cons_zero, List.set_cons_succ, if_true, if_false, Bool.false_eq_true, decide_eq_true_eq, decide_eq_false_iff_not, Bool.not_true, Bool.not_false, List.length_cons, List.length_nil, List.map_cons, List.map_nil, dMul_i, dFdiv_i, dMod_i, List.nil_append, Nat.zero_add, Nat.reduceAdd, Nat.reduceLeDiff, Nat.reduceLT, Nat.reduceEqDiff, le_refl_line, and_self, true_and, and_true, bnd_none, Bool.not_eq_true, eq_self, reduceCtorEq, decide_true, decide_false, B.frzs_v, Nat.add_assoc, draw_ok, ix0, ix1, Int.cast_ofNat_Int, Int.natCast_zero, Int.natCast_one, ↓bLc2_q, ↓bLcB_q, ↓mExt_q, extK_o, ↓bRg3_q, ↓eCut3_q, ↓bCut3_q, lcS, c1_periods, e]
  have z : (seg 1 (xs.length : Int)).length ≤ sizeLine := zl _ (by rw [seg_len]; omega)
  have z0 : xs.length ≤ sizeLine := zl _ (by omega)
  rw [pF_q, q_periods, b_periods]
  simp -implicitDefEqProofs (maxSteps := 1000000) (disch := omega) only [↓bnd_some, bnd_some, eV_q, eVk_v, eVk_o, eW_q, eWk_b, frz_v, frz_o, frzs_nil, frzs_cons, ↓eC_q, ↓e1_q, ↓e2_q, ↓e3_q, e3k_b, ↓eT_q, ↓eTb_q, ↓eTbk_b, eTbk_b, ↓wAnd_q, ↓wOr_q, ↓wNot_q, ↓eAnd_q, ↓eOr_q, ↓eNot_q, ↓eIf_q, ↓eP_q, ↓aNil_q, ↓aCons_q, ↓eL_q, ↓eFz_q, ↓bLst_q, ↓bL_q, ↓b2_q, ↓bCall_q, ↓bPure_q, ↓pV_q, ↓sSeq_q, ↓seqK_nx, seqK_nx, ↓seqK_rt, seqK_rt, ↓seqK_bk, seqK_bk, ↓seqK_ct, seqK_ct, ↓sIf_q, ↓sNil_q, ↓sBk_q, ↓sCt_q, ↓sRet_q, ↓sRetB_q, ↓sRetN_q, ↓sRetV_q, rvK_b, ↓sExp_q, ↓sSet_q, ↓sSetB_q, put_q, ↓sAug_q, augK_v, ↓finK_rt, finK_rt, ↓finK_nx, finK_nx, ↓gN_q, ↓gsNil_q, ↓gsCons_q, ↓gT_q, ↓sAsg_q, ↓iV_q, ↓iA_q, items_lst, items_tup, ↓sFor_q, forL_nil, ↓forK_nx, forK_nx, ↓forK_ct, forK_ct, ↓forK_bk, forK_bk, ↓forK_rt, forK_rt, ↓whK_nx, whK_nx, ↓whK_ct, whK_ct, ↓whK_bk, whK_bk, ↓whK_rt, whK_rt, ↓bLc_q, ↓tYes_q, wipeE_nil, wipeE_cons, ↓pN_q, own_q, ownK_o, mutS_q, mutK_o, ↓mApp_q, ↓mAppB_q, ↓mPop_q, popK_v, ↓sSetIx_q, setK_i, ↓eObj_q, ↓eIxS_q, ↓sSetO_q, dAdd_i, dSub_i, dNeg_i, dLt_i, dLe_i, dGt_i, dGe_i, dEq_i, dNe_i, dTru_b, dTru_i, dTru_l, dTru_t, bAbs_i, bInt_i, bLen_l, bLen_t, bLen_s, dIx_l, dIx_t, bMaxD_2, bMinD_2, ↓dTup_q, ↓eCut_q, ↓oNone_q, ↓oSome_q, ↓oSk_i, oSk_i, List.getElem?_cons_zero, List.getElem?_cons_succ, List.set_cons_zero, List.set_cons_succ, if_true, if_false, Bool.false_eq_true, decide_eq_true_eq, decide_eq_false_iff_not, Bool.not_true, Bool.not_false, List.length_cons, List.length_nil, List.map_cons, List.map_nil, dMul_i, dFdiv_i, dMod_i, List.nil_append, Nat.zero_add, Nat.reduceAdd, Nat.reduceLeDiff, Nat.reduceLT, Nat.reduceEqDiff, le_refl_line, and_self, true_and, and_true, bnd_none, Bool.not_eq_true, eq_self, reduceCtorEq, decide_true, decide_false, B.frzs_v, Nat.add_assoc, draw_ok, ix0, ix1, Int.cast_ofNat_Int, Int.natCast_zero, Int.natCast_one, ↓bLc2_q, ↓bLcB_q, ↓mExt_q, extK_o, ↓bRg3_q, ↓eCut3_q, ↓bCut3_q, List.length_map, z0, rng2', z, lc, mapI]
theorem rep_is (hP : 1 ≤ P) : repM xs P = decide ((seg P (xs.length : Int)).filter (fun k : Int => !decide (xs.getD k.toNat 0 = xs.getD (k - P).toNat 0)) = []) := by
  refine Bool.eq_iff_iff.mpr ⟨fun h => decide_eq_true (List.filter_eq_nil_iff.mpr fun k hk => ?_), fun h => ?_⟩
  · have hk := mem_seg.mp hk
    unfold repM at h
    have h := List.all_eq_true.mp h
    have hz : (k - P).toNat < (xs.zip (xs.drop P)).length := by rw [List.length_zip, List.length_drop]; omega
    have := h _ (List.getElem_mem hz)
    rw [List.getElem_zip, List.getElem_drop] at this
    have := of_decide_eq_true this
    simp only [List.getD_eq_getElem?_getD]
    rw [List.getElem?_eq_getElem (show k.toNat < xs.length by omega), List.getElem?_eq_getElem (show (k - P).toNat < xs.length by omega)]
    simp only [Option.getD_some]
    have e : xs[P + (k - P).toNat]'(by omega) = xs[k.toNat]'(by omega) := by congr 1; omega
    rw [e] at this
    rw [decide_eq_true this.symm]; decide
  · have h := List.filter_eq_nil_iff.mp (of_decide_eq_true h)
    unfold repM
    refine List.all_eq_true.mpr fun q hq => ?_
    obtain ⟨j, hj, rfl⟩ := List.mem_iff_getElem.mp hq
    rw [List.length_zip, List.length_drop] at hj
    rw [List.getElem_zip, List.getElem_drop]
    have := h ((P : Int) + j) (mem_seg.mpr (by omega))
    simp only [List.getD_eq_getElem?_getD] at this
    rw [List.getElem?_eq_getElem (show ((P : Int) + j).toNat < xs.length by omega), List.getElem?_eq_getElem (show ((P : Int) + j - P).toNat < xs.length by omega)] at this
    simp only [Option.getD_some] at this
    have e1 : xs[((P : Int) + j).toNat]'(by omega) = xs[P + j]'(by omega) := by congr 1
    have e2 : xs[((P : Int) + j - P).toNat]'(by omega) = xs[j]'(by omega) := by congr 1; omega
    rw [e1, e2] at this
    by_cases c : xs[P + j]'(by omega) = xs[j]'(by omega)
    · exact decide_eq_true c.symm
    · exact absurd (by rw [decide_eq_false c]; rfl) this
theorem law_repeats_ok (hl : xs.length ≤ 100) (hP : 1 ≤ P ∧ P ≤ 100) : pF F_law_repeats [.lst (xs.map .int), .int P] = some (.v (.bl (repM xs P))) := by
  obtain ⟨L, hL⟩ : ∃ L, L = (seg P (xs.length : Int)).filter (fun k : Int => !decide (xs.getD k.toNat 0 = xs.getD (k - P).toNat 0)) := ⟨_, rfl⟩
  have lc : lcL [2] (gN 2) c1_law_repeats (eV 2) ((seg P (xs.length : Int)).map D.int) ⟨[some (.v (.lst (xs.map .int))), some (.v (.int P)), none], [], true⟩ = some (L.map D.int, ⟨[some (.v (.lst (xs.map .int))), some (.v (.int P)), none], [], true⟩) := by
    rw [hL]
    refine lcL_map (g := D.int) _ D.int _ fun k hk => ?_
    have hk := mem_seg.mp hk
    have g1 := get_at (xs := xs) (k := k) (by omega)
    have g2 := get_at (xs := xs) (k := k - P) (by omega)
    by_cases c : xs.getD k.toNat 0 = xs.getD (k - P).toNat 0
    · refine ⟨fun h => (by rw [decide_eq_true c] at h; cases h), fun _ => ?_⟩
      have c' : decide (xs.getD k.toNat 0 = xs.getD (k - P).toNat 0) = true := decide_eq_true c
      obtain ⟨u, hu⟩ : ∃ u, u = xs.getD k.toNat 0 := ⟨_, rfl⟩
      rw [← c] at g2
      rw [← hu] at g1 g2
      simp -implicitDefEqProofs (maxSteps := 1000000) (disch := omega) only [↓bnd_some, bnd_some, eV_q, eVk_v, eVk_o, eW_q, eWk_b, frz_v, frz_o, frzs_nil, frzs_cons, ↓eC_q, ↓e1_q, ↓e2_q, ↓e3_q, e3k_b, ↓eT_q, ↓eTb_q, ↓eTbk_b, eTbk_b, ↓wAnd_q, ↓wOr_q, ↓wNot_q, ↓eAnd_q, ↓eOr_q, ↓eNot_q, ↓eIf_q, ↓eP_q, ↓aNil_q, ↓aCons_q, ↓eL_q, ↓eFz_q, ↓bLst_q, ↓bL_q, ↓b2_q, ↓bCall_q, ↓bPure_q, ↓pV_q, ↓sSeq_q, ↓seqK_nx, seqK_nx, ↓seqK_rt, seqK_rt, ↓seqK_bk, seqK_bk, ↓seqK_ct, seqK_ct, ↓sIf_q, ↓sNil_q, ↓sBk_q, ↓sCt_q, ↓sRet_q, ↓sRetB_q, ↓sRetN_q, ↓sRetV_q, rvK_b, ↓sExp_q, ↓sSet_q, ↓sSetB_q, put_q, ↓sAug_q, augK_v, ↓finK_rt, finK_rt, ↓finK_nx, finK_nx, ↓gN_q, ↓gsNil_q, ↓gsCons_q, ↓gT_q, ↓sAsg_q, ↓iV_q, ↓iA_q, items_lst, items_tup, ↓sFor_q, forL_nil, ↓forK_nx, forK_nx, ↓forK_ct, forK_ct, ↓forK_bk, forK_bk, ↓forK_rt, forK_rt, ↓whK_nx, whK_nx, ↓whK_ct, whK_ct, ↓whK_bk, whK_bk, ↓whK_rt, whK_rt, ↓bLc_q, ↓tYes_q, wipeE_nil, wipeE_cons, ↓pN_q, own_q, ownK_o, mutS_q, mutK_o, ↓mApp_q, ↓mAppB_q, ↓mPop_q, popK_v, ↓sSetIx_q, setK_i, ↓eObj_q, ↓eIxS_q, ↓sSetO_q, dAdd_i, dSub_i, dNeg_i, dLt_i, dLe_i, dGt_i, dGe_i, dEq_i, dNe_i, dTru_b, dTru_i, dTru_l, dTru_t, bAbs_i, bInt_i, bLen_l, bLen_t, bLen_s, dIx_l, dIx_t, bMaxD_2, bMinD_2, ↓dTup_q, ↓eCut_q, ↓oNone_q, ↓oSome_q, ↓oSk_i, oSk_i, List.getElem?_cons_zero, List.getElem?_cons_succ, List.set_cons_zero, List.set_cons_succ, if_true, if_false, Bool.false_eq_true, decide_eq_true_eq, decide_eq_false_iff_not, Bool.not_true, Bool.not_false, List.length_cons, List.length_nil, List.map_cons, List.map_nil, dMul_i, dFdiv_i, dMod_i, List.nil_append, Nat.zero_add, Nat.reduceAdd, Nat.reduceLeDiff, Nat.reduceLT, Nat.reduceEqDiff, le_refl_line, and_self, true_and, and_true, bnd_none, Bool.not_eq_true, eq_self, reduceCtorEq, decide_true, decide_false, B.frzs_v, Nat.add_assoc, draw_ok, ix0, ix1, Int.cast_ofNat_Int, Int.natCast_zero, Int.natCast_one, ↓bLc2_q, ↓bLcB_q, ↓mExt_q, extK_o, ↓bRg3_q, ↓eCut3_q, ↓bCut3_q, lcS, c1_law_repeats, g1, g2, dNe_i]
    · refine ⟨fun _ => ?_, fun h => (by rw [decide_eq_false c] at h; cases h)⟩
      obtain ⟨u, hu⟩ : ∃ u, u = xs.getD k.toNat 0 := ⟨_, rfl⟩
      obtain ⟨v, hv⟩ : ∃ v, v = xs.getD (k - P).toNat 0 := ⟨_, rfl⟩
      rw [← hu] at g1 c
      rw [← hv] at g2 c
      simp -implicitDefEqProofs (maxSteps := 1000000) (disch := omega) only [↓bnd_some, bnd_some, eV_q, eVk_v, eVk_o, eW_q, eWk_b, frz_v, frz_o, frzs_nil, frzs_cons, ↓eC_q, ↓e1_q, ↓e2_q, ↓e3_q, e3k_b, ↓eT_q, ↓eTb_q, ↓eTbk_b, eTbk_b, ↓wAnd_q, ↓wOr_q, ↓wNot_q, ↓eAnd_q, ↓eOr_q, ↓eNot_q, ↓eIf_q, ↓eP_q, ↓aNil_q, ↓aCons_q, ↓eL_q, ↓eFz_q, ↓bLst_q, ↓bL_q, ↓b2_q, ↓bCall_q, ↓bPure_q, ↓pV_q, ↓sSeq_q, ↓seqK_nx, seqK_nx, ↓seqK_rt, seqK_rt, ↓seqK_bk, seqK_bk, ↓seqK_ct, seqK_ct, ↓sIf_q, ↓sNil_q, ↓sBk_q, ↓sCt_q, ↓sRet_q, ↓sRetB_q, ↓sRetN_q, ↓sRetV_q, rvK_b, ↓sExp_q, ↓sSet_q, ↓sSetB_q, put_q, ↓sAug_q, augK_v, ↓finK_rt, finK_rt, ↓finK_nx, finK_nx, ↓gN_q, ↓gsNil_q, ↓gsCons_q, ↓gT_q, ↓sAsg_q, ↓iV_q, ↓iA_q, items_lst, items_tup, ↓sFor_q, forL_nil, ↓forK_nx, forK_nx, ↓forK_ct, forK_ct, ↓forK_bk, forK_bk, ↓forK_rt, forK_rt, ↓whK_nx, whK_nx, ↓whK_ct, whK_ct, ↓whK_bk, whK_bk, ↓whK_rt, whK_rt, ↓bLc_q, ↓tYes_q, wipeE_nil, wipeE_cons, ↓pN_q, own_q, ownK_o, mutS_q, mutK_o, ↓mApp_q, ↓mAppB_q, ↓mPop_q, popK_v, ↓sSetIx_q, setK_i, ↓eObj_q, ↓eIxS_q, ↓sSetO_q, dAdd_i, dSub_i, dNeg_i, dLt_i, dLe_i, dGt_i, dGe_i, dEq_i, dNe_i, dTru_b, dTru_i, dTru_l, dTru_t, bAbs_i, bInt_i, bLen_l, bLen_t, bLen_s, dIx_l, dIx_t, bMaxD_2, bMinD_2, ↓dTup_q, ↓eCut_q, ↓oNone_q, ↓oSome_q, ↓oSk_i, oSk_i, List.getElem?_cons_zero, List.getElem?_cons_succ, List.set_cons_zero, List.set_cons_succ, if_true, if_false, Bool.false_eq_true, decide_eq_true_eq, decide_eq_false_iff_not, Bool.not_true, Bool.not_false, List.length_cons, List.length_nil, List.map_cons, List.map_nil, dMul_i, dFdiv_i, dMod_i, List.nil_append, Nat.zero_add, Nat.reduceAdd, Nat.reduceLeDiff, Nat.reduceLT, Nat.reduceEqDiff, le_refl_line, and_self, true_and, and_true, bnd_none, Bool.not_eq_true, eq_self, reduceCtorEq, decide_true, decide_false, B.frzs_v, Nat.add_assoc, draw_ok, ix0, ix1, Int.cast_ofNat_Int, Int.natCast_zero, Int.natCast_one, ↓bLc2_q, ↓bLcB_q, ↓mExt_q, extK_o, ↓bRg3_q, ↓eCut3_q, ↓bCut3_q, lcS, c1_law_repeats, g1, g2, dNe_i, c]
  have z : (seg P (xs.length : Int)).length ≤ sizeLine := zl _ (by rw [seg_len]; omega)
  have z0 : xs.length ≤ sizeLine := zl _ (by omega)
  have zL : L.length ≤ sizeLine := zl _ (by rw [hL]; have := List.length_filter_le (fun k : Int => !decide (xs.getD k.toNat 0 = xs.getD (k - P).toNat 0)) (seg P (xs.length : Int)); rw [seg_len] at this; omega)
  have q : dEq (.lst (L.map D.int)) (.lst []) = some (.bl (decide (L = []))) := dEq_ints (ys := [])
  rw [rep_is hP.1, ← hL, pF_q, q_law_repeats, b_law_repeats]
  simp -implicitDefEqProofs (maxSteps := 1000000) (disch := omega) only [↓bnd_some, bnd_some, eV_q, eVk_v, eVk_o, eW_q, eWk_b, frz_v, frz_o, frzs_nil, frzs_cons, ↓eC_q, ↓e1_q, ↓e2_q, ↓e3_q, e3k_b, ↓eT_q, ↓eTb_q, ↓eTbk_b, eTbk_b, ↓wAnd_q, ↓wOr_q, ↓wNot_q, ↓eAnd_q, ↓eOr_q, ↓eNot_q, ↓eIf_q, ↓eP_q, ↓aNil_q, ↓aCons_q, ↓eL_q, ↓eFz_q, ↓bLst_q, ↓bL_q, ↓b2_q, ↓bCall_q, ↓bPure_q, ↓pV_q, ↓sSeq_q, ↓seqK_nx, seqK_nx, ↓seqK_rt, seqK_rt, ↓seqK_bk, seqK_bk, ↓seqK_ct, seqK_ct, ↓sIf_q, ↓sNil_q, ↓sBk_q, ↓sCt_q, ↓sRet_q, ↓sRetB_q, ↓sRetN_q, ↓sRetV_q, rvK_b, ↓sExp_q, ↓sSet_q, ↓sSetB_q, put_q, ↓sAug_q, augK_v, ↓finK_rt, finK_rt, ↓finK_nx, finK_nx, ↓gN_q, ↓gsNil_q, ↓gsCons_q, ↓gT_q, ↓sAsg_q, ↓iV_q, ↓iA_q, items_lst, items_tup, ↓sFor_q, forL_nil, ↓forK_nx, forK_nx, ↓forK_ct, forK_ct, ↓forK_bk, forK_bk, ↓forK_rt, forK_rt, ↓whK_nx, whK_nx, ↓whK_ct, whK_ct, ↓whK_bk, whK_bk, ↓whK_rt, whK_rt, ↓bLc_q, ↓tYes_q, wipeE_nil, wipeE_cons, ↓pN_q, own_q, ownK_o, mutS_q, mutK_o, ↓mApp_q, ↓mAppB_q, ↓mPop_q, popK_v, ↓sSetIx_q, setK_i, ↓eObj_q, ↓eIxS_q, ↓sSetO_q, dAdd_i, dSub_i, dNeg_i, dLt_i, dLe_i, dGt_i, dGe_i, dEq_i, dNe_i, dTru_b, dTru_i, dTru_l, dTru_t, bAbs_i, bInt_i, bLen_l, bLen_t, bLen_s, dIx_l, dIx_t, bMaxD_2, bMinD_2, ↓dTup_q, ↓eCut_q, ↓oNone_q, ↓oSome_q, ↓oSk_i, oSk_i, List.getElem?_cons_zero, List.getElem?_cons_succ, List.set_cons_zero, List.set_cons_succ, if_true, if_false, Bool.false_eq_true, decide_eq_true_eq, decide_eq_false_iff_not, Bool.not_true, Bool.not_false, List.length_cons, List.length_nil, List.map_cons, List.map_nil, dMul_i, dFdiv_i, dMod_i, List.nil_append, Nat.zero_add, Nat.reduceAdd, Nat.reduceLeDiff, Nat.reduceLT, Nat.reduceEqDiff, le_refl_line, and_self, true_and, and_true, bnd_none, Bool.not_eq_true, eq_self, reduceCtorEq, decide_true, decide_false, B.frzs_v, Nat.add_assoc, draw_ok, ix0, ix1, Int.cast_ofNat_Int, Int.natCast_zero, Int.natCast_one, ↓bLc2_q, ↓bLcB_q, ↓mExt_q, extK_o, ↓bRg3_q, ↓eCut3_q, ↓bCut3_q, List.length_map, z0, rng2', z, lc, B.frzs_v, q]
/-! folded -/
abbrev rwsM (xs : List Int) (P : Nat) : List (List Int) := (List.range P).map fun r => pk xs (r : Nat) P
abbrev oN (L : List (List Int)) : List B := L.map fun r => B.o (oI r)
abbrev vN (L : List (List Int)) : List D := L.map fun r => D.lst (r.map D.int)
theorem frzN (L : List (List Int)) : B.frzs (oN L) = vN L := frzs_gen _ _ (fun r => by show D.lst (B.frzs (oI r)) = _; rw [show B.frzs (oI r) = r.map D.int from frzs_ints]) L
theorem lslice_ok (hi : 0 ≤ i) (hp : 0 < p) (hl : xs.length ≤ 100) : lPick (.lst (xs.map D.int)) (some i) none (some p) = some ((pk xs i p).map D.int) := by
  have h := slice_ok (xs := xs) hi hp hl
  simp only [dPick] at h
  simp only [lPick]
  split at h
  · rename_i c
    rw [if_pos c]
    exact congrArg some (D.lst.inj (Option.some.inj h))
  · cases h
theorem folded_ok (hl : xs.length ≤ 100) (hp : 1 ≤ P ∧ P ≤ 100) : pF F_folded [.lst (xs.map .int), .int P] = some (.o (oN (rwsM xs P))) := by
  have lb : lcB [2] (gN 2) tYes' e1_folded ((seg 0 (P : Int)).map D.int) ⟨[some (.v (.lst (xs.map .int))), some (.v (.int P)), none], [], true⟩ = some (oN (rwsM xs P), ⟨[some (.v (.lst (xs.map .int))), some (.v (.int P)), none], [], true⟩) := by
    rw [seg_r, List.map_map]
    unfold oN rwsM
    rw [List.map_map]
    refine lcB_all (g := D.int ∘ fun i : Nat => (i : Int)) (fun r => B.o (oI (pk xs (r : Nat) P))) _ fun r hr => ?_
    have sl := lslice_ok (xs := xs) (i := (r : Nat)) (p := P) (by omega) (by omega) hl
    show lcSB _ _ _ (D.int (r : Int)) _ = some (B.o (oI (pk xs (r : Nat) P)), _)
    unfold lcSB
    simp -implicitDefEqProofs (maxSteps := 1000000) (disch := omega) only [↓bnd_some, bnd_some, eV_q, eVk_v, eVk_o, eW_q, eWk_b, frz_v, frz_o, frzs_nil, frzs_cons, ↓eC_q, ↓e1_q, ↓e2_q, ↓e3_q, e3k_b, ↓eT_q, ↓eTb_q, ↓eTbk_b, eTbk_b, ↓wAnd_q, ↓wOr_q, ↓wNot_q, ↓eAnd_q, ↓eOr_q, ↓eNot_q, ↓eIf_q, ↓eP_q, ↓aNil_q, ↓aCons_q, ↓eL_q, ↓eFz_q, ↓bLst_q, ↓bL_q, ↓b2_q, ↓bCall_q, ↓bPure_q, ↓pV_q, ↓sSeq_q, ↓seqK_nx, seqK_nx, ↓seqK_rt, seqK_rt, ↓seqK_bk, seqK_bk, ↓seqK_ct, seqK_ct, ↓sIf_q, ↓sNil_q, ↓sBk_q, ↓sCt_q, ↓sRet_q, ↓sRetB_q, ↓sRetN_q, ↓sRetV_q, rvK_b, ↓sExp_q, ↓sSet_q, ↓sSetB_q, put_q, ↓sAug_q, augK_v, ↓finK_rt, finK_rt, ↓finK_nx, finK_nx, ↓gN_q, ↓gsNil_q, ↓gsCons_q, ↓gT_q, ↓sAsg_q, ↓iV_q, ↓iA_q, items_lst, items_tup, ↓sFor_q, forL_nil, ↓forK_nx, forK_nx, ↓forK_ct, forK_ct, ↓forK_bk, forK_bk, ↓forK_rt, forK_rt, ↓whK_nx, whK_nx, ↓whK_ct, whK_ct, ↓whK_bk, whK_bk, ↓whK_rt, whK_rt, ↓bLc_q, ↓tYes_q, wipeE_nil, wipeE_cons, ↓pN_q, own_q, ownK_o, mutS_q, mutK_o, ↓mApp_q, ↓mAppB_q, ↓mPop_q, popK_v, ↓sSetIx_q, setK_i, ↓eObj_q, ↓eIxS_q, ↓sSetO_q, dAdd_i, dSub_i, dNeg_i, dLt_i, dLe_i, dGt_i, dGe_i, dEq_i, dNe_i, dTru_b, dTru_i, dTru_l, dTru_t, bAbs_i, bInt_i, bLen_l, bLen_t, bLen_s, dIx_l, dIx_t, bMaxD_2, bMinD_2, ↓dTup_q, ↓eCut_q, ↓oNone_q, ↓oSome_q, ↓oSk_i, oSk_i, List.getElem?_cons_zero, List.getElem?_cons_succ, List.set_cons_zero, List.set_cons_succ, if_true, if_false, Bool.false_eq_true, decide_eq_true_eq, decide_eq_false_iff_not, Bool.not_true, Bool.not_false, List.length_cons, List.length_nil, List.map_cons, List.map_nil, dMul_i, dFdiv_i, dMod_i, List.nil_append, Nat.zero_add, Nat.reduceAdd, Nat.reduceLeDiff, Nat.reduceLT, Nat.reduceEqDiff, le_refl_line, and_self, true_and, and_true, bnd_none, Bool.not_eq_true, eq_self, reduceCtorEq, decide_true, decide_false, B.frzs_v, Nat.add_assoc, draw_ok, ix0, ix1, Int.cast_ofNat_Int, Int.natCast_zero, Int.natCast_one, ↓bLc2_q, ↓bLcB_q, ↓mExt_q, extK_o, ↓bRg3_q, ↓eCut3_q, ↓bCut3_q, e1_folded, sl, mapI]
  have z : (seg 0 (P : Int)).length ≤ sizeLine := zl _ (by rw [seg_len]; omega)
  rw [pF_q, q_folded, b_folded]
  simp -implicitDefEqProofs (maxSteps := 1000000) (disch := omega) only [↓bnd_some, bnd_some, eV_q, eVk_v, eVk_o, eW_q, eWk_b, frz_v, frz_o, frzs_nil, frzs_cons, ↓eC_q, ↓e1_q, ↓e2_q, ↓e3_q, e3k_b, ↓eT_q, ↓eTb_q, ↓eTbk_b, eTbk_b, ↓wAnd_q, ↓wOr_q, ↓wNot_q, ↓eAnd_q, ↓eOr_q, ↓eNot_q, ↓eIf_q, ↓eP_q, ↓aNil_q, ↓aCons_q, ↓eL_q, ↓eFz_q, ↓bLst_q, ↓bL_q, ↓b2_q, ↓bCall_q, ↓bPure_q, ↓pV_q, ↓sSeq_q, ↓seqK_nx, seqK_nx, ↓seqK_rt, seqK_rt, ↓seqK_bk, seqK_bk, ↓seqK_ct, seqK_ct, ↓sIf_q, ↓sNil_q, ↓sBk_q, ↓sCt_q, ↓sRet_q, ↓sRetB_q, ↓sRetN_q, ↓sRetV_q, rvK_b, ↓sExp_q, ↓sSet_q, ↓sSetB_q, put_q, ↓sAug_q, augK_v, ↓finK_rt, finK_rt, ↓finK_nx, finK_nx, ↓gN_q, ↓gsNil_q, ↓gsCons_q, ↓gT_q, ↓sAsg_q, ↓iV_q, ↓iA_q, items_lst, items_tup, ↓sFor_q, forL_nil, ↓forK_nx, forK_nx, ↓forK_ct, forK_ct, ↓forK_bk, forK_bk, ↓forK_rt, forK_rt, ↓whK_nx, whK_nx, ↓whK_ct, whK_ct, ↓whK_bk, whK_bk, ↓whK_rt, whK_rt, ↓bLc_q, ↓tYes_q, wipeE_nil, wipeE_cons, ↓pN_q, own_q, ownK_o, mutS_q, mutK_o, ↓mApp_q, ↓mAppB_q, ↓mPop_q, popK_v, ↓sSetIx_q, setK_i, ↓eObj_q, ↓eIxS_q, ↓sSetO_q, dAdd_i, dSub_i, dNeg_i, dLt_i, dLe_i, dGt_i, dGe_i, dEq_i, dNe_i, dTru_b, dTru_i, dTru_l, dTru_t, bAbs_i, bInt_i, bLen_l, bLen_t, bLen_s, dIx_l, dIx_t, bMaxD_2, bMinD_2, ↓dTup_q, ↓eCut_q, ↓oNone_q, ↓oSome_q, ↓oSk_i, oSk_i, List.getElem?_cons_zero, List.getElem?_cons_succ, List.set_cons_zero, List.set_cons_succ, if_true, if_false, Bool.false_eq_true, decide_eq_true_eq, decide_eq_false_iff_not, Bool.not_true, Bool.not_false, List.length_cons, List.length_nil, List.map_cons, List.map_nil, dMul_i, dFdiv_i, dMod_i, List.nil_append, Nat.zero_add, Nat.reduceAdd, Nat.reduceLeDiff, Nat.reduceLT, Nat.reduceEqDiff, le_refl_line, and_self, true_and, and_true, bnd_none, Bool.not_eq_true, eq_self, reduceCtorEq, decide_true, decide_false, B.frzs_v, Nat.add_assoc, draw_ok, ix0, ix1, Int.cast_ofNat_Int, Int.natCast_zero, Int.natCast_one, ↓bLc2_q, ↓bLcB_q, ↓mExt_q, extK_o, ↓bRg3_q, ↓eCut3_q, ↓bCut3_q, rng1', List.length_map, z, lb]
/-! the law's own -/
def acL (xs : List Int) (P j r : Nat) : List Int := ((seg 0 (j : Int)).filter (cg P r)).map fun k => xs.getD k.toNat 0
theorem ac_next {j r : Nat} (hr : r < P) : acL xs P (j + 1) r = if r = j % P then acL xs P j r ++ [xs.getD j 0] else acL xs P j r := by
  unfold acL
  rw [seg_snoc, List.filter_append, List.map_append, List.filter_cons, cg_mod hr]
  by_cases c : r = j % P
  · rw [decide_eq_true c, if_pos rfl, if_pos c]; simp
  · rw [decide_eq_false c, if_neg (by decide), if_neg c]; simp
theorem ac_end {r : Nat} (hr : r < P) : acL xs P xs.length r = pk xs (r : Nat) P := by
  unfold acL pk
  have e := seg_c (p := (P : Int)) (f := (r : Int)) (la := xs.length) (by omega) xs.length 0 (by omega)
  have nx0 : nx (P : Int) (r : Int) 0 = r := by
    unfold nx
    rw [Int.sub_zero, Int.emod_eq_of_lt (by omega) (by omega)]; omega
  rw [nx0] at e
  rw [e]
theorem ac_len {j r : Nat} : (acL xs P j r).length ≤ j := by
  unfold acL
  rw [List.length_map]
  refine Nat.le_trans (List.length_filter_le ..) ?_
  rw [seg_len]; omega
theorem lf_loop (hl : xs.length ≤ 100) (hp : 1 ≤ P) : ∀ (m j : Nat) (x3 : Option B), j + m = xs.length → ∃ y3, forL (gN 3) l1_law_folded ((seg j xs.length).map D.int) ⟨[some (.v (.lst (xs.map .int))), some (.v (.int P)), some (.o (oN ((List.range P).map (acL xs P j)))), x3, none], [], true⟩ = some (.nx, ⟨[some (.v (.lst (xs.map .int))), some (.v (.int P)), some (.o (oN ((List.range P).map (acL xs P xs.length)))), y3, none], [], true⟩)
  | 0, j, x3, h => ⟨x3, by rw [seg_nil (by omega), show j = xs.length by omega]; rfl⟩
  | m + 1, j, x3, h => by
    have hj : j < xs.length := by omega
    obtain ⟨y3, ih⟩ := lf_loop hl hp m (j + 1) (some (.v (.int (j : Int)))) (by omega)
    refine ⟨y3, ?_⟩
    have hm : j % P < P := Nat.mod_lt _ (by omega)
    obtain ⟨T, hT⟩ : ∃ T, T = oN ((List.range P).map (acL xs P j)) := ⟨_, rfl⟩
    have lT : T.length = P := by rw [hT]; simp
    have g0 : T[j % P]? = some (.o (oI (acL xs P j (j % P)))) := by
      rw [hT, List.getElem?_map, List.getElem?_map, List.getElem?_range hm]; rfl
    have o0 := ownK_1 g0
    have p0 := fun ys => put_1 (ys := ys) g0
    have a2 := get_at (xs := xs) (k := (j : Int)) (by omega)
    rw [Int.toNat_natCast] at a2
    have k1 : ixN P ((j : Int) % (P : Int)) = some (j % P) := by rw [← Int.natCast_emod, ixN_k hm]
    have ln : (acL xs P j (j % P)).length < sizeLine := lt_line (by have := ac_len (xs := xs) (P := P) (j := j) (r := j % P); omega)
    have en : T.set (j % P) (.o (oI (acL xs P j (j % P)) ++ [B.v (.int (xs.getD j 0))])) = oN ((List.range P).map (acL xs P (j + 1))) := by
      rw [hT, snocI]
      unfold oN
      rw [List.map_map, List.map_map, set_range]
      refine List.map_congr_left fun r hr => ?_
      have hr := List.mem_range.mp hr
      show _ = B.o (oI (acL xs P (j + 1) r))
      rw [ac_next hr]
      by_cases c : r = j % P
      · rw [if_pos c, if_pos c, c]
      · rw [if_neg c, if_neg c]; rfl
    rw [← en] at ih
    obtain ⟨A, hA⟩ : ∃ A, A = oI (acL xs P j (j % P)) := ⟨_, rfl⟩
    have lA : A.length < sizeLine := by rw [hA, List.length_map]; exact ln
    rw [← hA] at o0 ih
    rw [seg_cons (by omega), List.map_cons, forL_cons, ← hT]
    simp -implicitDefEqProofs (maxSteps := 1000000) (disch := omega) only [↓bnd_some, bnd_some, eV_q, eVk_v, eVk_o, eW_q, eWk_b, frz_v, frz_o, frzs_nil, frzs_cons, ↓eC_q, ↓e1_q, ↓e2_q, ↓e3_q, e3k_b, ↓eT_q, ↓eTb_q, ↓eTbk_b, eTbk_b, ↓wAnd_q, ↓wOr_q, ↓wNot_q, ↓eAnd_q, ↓eOr_q, ↓eNot_q, ↓eIf_q, ↓eP_q, ↓aNil_q, ↓aCons_q, ↓eL_q, ↓eFz_q, ↓bLst_q, ↓bL_q, ↓b2_q, ↓bCall_q, ↓bPure_q, ↓pV_q, ↓sSeq_q, ↓seqK_nx, seqK_nx, ↓seqK_rt, seqK_rt, ↓seqK_bk, seqK_bk, ↓seqK_ct, seqK_ct, ↓sIf_q, ↓sNil_q, ↓sBk_q, ↓sCt_q, ↓sRet_q, ↓sRetB_q, ↓sRetN_q, ↓sRetV_q, rvK_b, ↓sExp_q, ↓sSet_q, ↓sSetB_q, put_q, ↓sAug_q, augK_v, ↓finK_rt, finK_rt, ↓finK_nx, finK_nx, ↓gN_q, ↓gsNil_q, ↓gsCons_q, ↓gT_q, ↓sAsg_q, ↓iV_q, ↓iA_q, items_lst, items_tup, ↓sFor_q, forL_nil, ↓forK_nx, forK_nx, ↓forK_ct, forK_ct, ↓forK_bk, forK_bk, ↓forK_rt, forK_rt, ↓whK_nx, whK_nx, ↓whK_ct, whK_ct, ↓whK_bk, whK_bk, ↓whK_rt, whK_rt, ↓bLc_q, ↓tYes_q, wipeE_nil, wipeE_cons, ↓pN_q, own_q, ownK_o, mutS_q, mutK_o, ↓mApp_q, ↓mAppB_q, ↓mPop_q, popK_v, ↓sSetIx_q, setK_i, ↓eObj_q, ↓eIxS_q, ↓sSetO_q, dAdd_i, dSub_i, dNeg_i, dLt_i, dLe_i, dGt_i, dGe_i, dEq_i, dNe_i, dTru_b, dTru_i, dTru_l, dTru_t, bAbs_i, bInt_i, bLen_l, bLen_t, bLen_s, dIx_l, dIx_t, bMaxD_2, bMinD_2, ↓dTup_q, ↓eCut_q, ↓oNone_q, ↓oSome_q, ↓oSk_i, oSk_i, List.getElem?_cons_zero, List.getElem?_cons_succ, List.set_cons_zero, List.set_cons_succ, if_true, if_false, Bool.false_eq_true, decide_eq_true_eq, decide_eq_false_iff_not, Bool.not_true, Bool.not_false, List.length_cons, List.length_nil, List.map_cons, List.map_nil, dMul_i, dFdiv_i, dMod_i, List.nil_append, Nat.zero_add, Nat.reduceAdd, Nat.reduceLeDiff, Nat.reduceLT, Nat.reduceEqDiff, le_refl_line, and_self, true_and, and_true, bnd_none, Bool.not_eq_true, eq_self, reduceCtorEq, decide_true, decide_false, B.frzs_v, Nat.add_assoc, draw_ok, ix0, ix1, Int.cast_ofNat_Int, Int.natCast_zero, Int.natCast_one, ↓bLc2_q, ↓bLcB_q, ↓mExt_q, extK_o, ↓bRg3_q, ↓eCut3_q, ↓bCut3_q, l1_law_folded, pIx_q, pIxK_i, lT, k1, o0, a2, lA, mutK_b, p0]
    exact ih
theorem law_folded_ok (hl : xs.length ≤ 100) (hp : 1 ≤ P ∧ P ≤ 100) : pF F_law_folded [.lst (xs.map .int), .int P] = some (.v (.lst (vN (rwsM xs P)))) := by
  have lb : lcB [4] (gN 4) tYes' (bLst aNil) ((seg 0 (P : Int)).map D.int) ⟨[some (.v (.lst (xs.map .int))), some (.v (.int P)), none, none, none], [], true⟩ = some (oN ((List.range P).map (acL xs P 0)), ⟨[some (.v (.lst (xs.map .int))), some (.v (.int P)), none, none, none], [], true⟩) := by
    rw [seg_r, List.map_map]
    unfold oN
    rw [List.map_map]
    refine lcB_all (g := D.int ∘ fun i : Nat => (i : Int)) (fun r => B.o (oI (acL xs P 0 r))) _ fun r hr => ?_
    show lcSB _ _ _ (D.int (r : Int)) _ = some (B.o [], _)
    unfold lcSB
    simp -implicitDefEqProofs (maxSteps := 1000000) (disch := omega) only [↓bnd_some, bnd_some, eV_q, eVk_v, eVk_o, eW_q, eWk_b, frz_v, frz_o, frzs_nil, frzs_cons, ↓eC_q, ↓e1_q, ↓e2_q, ↓e3_q, e3k_b, ↓eT_q, ↓eTb_q, ↓eTbk_b, eTbk_b, ↓wAnd_q, ↓wOr_q, ↓wNot_q, ↓eAnd_q, ↓eOr_q, ↓eNot_q, ↓eIf_q, ↓eP_q, ↓aNil_q, ↓aCons_q, ↓eL_q, ↓eFz_q, ↓bLst_q, ↓bL_q, ↓b2_q, ↓bCall_q, ↓bPure_q, ↓pV_q, ↓sSeq_q, ↓seqK_nx, seqK_nx, ↓seqK_rt, seqK_rt, ↓seqK_bk, seqK_bk, ↓seqK_ct, seqK_ct, ↓sIf_q, ↓sNil_q, ↓sBk_q, ↓sCt_q, ↓sRet_q, ↓sRetB_q, ↓sRetN_q, ↓sRetV_q, rvK_b, ↓sExp_q, ↓sSet_q, ↓sSetB_q, put_q, ↓sAug_q, augK_v, ↓finK_rt, finK_rt, ↓finK_nx, finK_nx, ↓gN_q, ↓gsNil_q, ↓gsCons_q, ↓gT_q, ↓sAsg_q, ↓iV_q, ↓iA_q, items_lst, items_tup, ↓sFor_q, forL_nil, ↓forK_nx, forK_nx, ↓forK_ct, forK_ct, ↓forK_bk, forK_bk, ↓forK_rt, forK_rt, ↓whK_nx, whK_nx, ↓whK_ct, whK_ct, ↓whK_bk, whK_bk, ↓whK_rt, whK_rt, ↓bLc_q, ↓tYes_q, wipeE_nil, wipeE_cons, ↓pN_q, own_q, ownK_o, mutS_q, mutK_o, ↓mApp_q, ↓mAppB_q, ↓mPop_q, popK_v, ↓sSetIx_q, setK_i, ↓eObj_q, ↓eIxS_q, ↓sSetO_q, dAdd_i, dSub_i, dNeg_i, dLt_i, dLe_i, dGt_i, dGe_i, dEq_i, dNe_i, dTru_b, dTru_i, dTru_l, dTru_t, bAbs_i, bInt_i, bLen_l, bLen_t, bLen_s, dIx_l, dIx_t, bMaxD_2, bMinD_2, ↓dTup_q, ↓eCut_q, ↓oNone_q, ↓oSome_q, ↓oSk_i, oSk_i, List.getElem?_cons_zero, List.getElem?_cons_succ, List.set_cons_zero, List.set_cons_succ, if_true, if_false, Bool.false_eq_true, decide_eq_true_eq, decide_eq_false_iff_not, Bool.not_true, Bool.not_false, List.length_cons, List.length_nil, List.map_cons, List.map_nil, dMul_i, dFdiv_i, dMod_i, List.nil_append, Nat.zero_add, Nat.reduceAdd, Nat.reduceLeDiff, Nat.reduceLT, Nat.reduceEqDiff, le_refl_line, and_self, true_and, and_true, bnd_none, Bool.not_eq_true, eq_self, reduceCtorEq, decide_true, decide_false, B.frzs_v, Nat.add_assoc, draw_ok, ix0, ix1, Int.cast_ofNat_Int, Int.natCast_zero, Int.natCast_one, ↓bLc2_q, ↓bLcB_q, ↓mExt_q, extK_o, ↓bRg3_q, ↓eCut3_q, ↓bCut3_q, ]
  obtain ⟨y3, e⟩ := lf_loop (xs := xs) (P := P) hl hp.1 xs.length 0 none (by omega)
  have ee : (List.range P).map (acL xs P xs.length) = rwsM xs P := List.map_congr_left fun r hr => ac_end (List.mem_range.mp hr)
  rw [ee] at e
  have e : forL (gN 3) l1_law_folded ((seg 0 xs.length).map D.int) ⟨[some (.v (.lst (xs.map .int))), some (.v (.int P)), some (.o (oN ((List.range P).map (acL xs P 0)))), none, none], [], true⟩ = _ := e
  have z : (seg 0 (P : Int)).length ≤ sizeLine := zl _ (by rw [seg_len]; omega)
  have z0 : xs.length ≤ sizeLine := zl _ (by omega)
  have fz := frzN (rwsM xs P)
  obtain ⟨T, hT⟩ : ∃ T, T = oN (rwsM xs P) := ⟨_, rfl⟩
  rw [← hT] at e fz
  rw [pF_q, q_law_folded, b_law_folded]
  simp -implicitDefEqProofs (maxSteps := 1000000) (disch := omega) only [↓bnd_some, bnd_some, eV_q, eVk_v, eVk_o, eW_q, eWk_b, frz_v, frz_o, frzs_nil, frzs_cons, ↓eC_q, ↓e1_q, ↓e2_q, ↓e3_q, e3k_b, ↓eT_q, ↓eTb_q, ↓eTbk_b, eTbk_b, ↓wAnd_q, ↓wOr_q, ↓wNot_q, ↓eAnd_q, ↓eOr_q, ↓eNot_q, ↓eIf_q, ↓eP_q, ↓aNil_q, ↓aCons_q, ↓eL_q, ↓eFz_q, ↓bLst_q, ↓bL_q, ↓b2_q, ↓bCall_q, ↓bPure_q, ↓pV_q, ↓sSeq_q, ↓seqK_nx, seqK_nx, ↓seqK_rt, seqK_rt, ↓seqK_bk, seqK_bk, ↓seqK_ct, seqK_ct, ↓sIf_q, ↓sNil_q, ↓sBk_q, ↓sCt_q, ↓sRet_q, ↓sRetB_q, ↓sRetN_q, ↓sRetV_q, rvK_b, ↓sExp_q, ↓sSet_q, ↓sSetB_q, put_q, ↓sAug_q, augK_v, ↓finK_rt, finK_rt, ↓finK_nx, finK_nx, ↓gN_q, ↓gsNil_q, ↓gsCons_q, ↓gT_q, ↓sAsg_q, ↓iV_q, ↓iA_q, items_lst, items_tup, ↓sFor_q, forL_nil, ↓forK_nx, forK_nx, ↓forK_ct, forK_ct, ↓forK_bk, forK_bk, ↓forK_rt, forK_rt, ↓whK_nx, whK_nx, ↓whK_ct, whK_ct, ↓whK_bk, whK_bk, ↓whK_rt, whK_rt, ↓bLc_q, ↓tYes_q, wipeE_nil, wipeE_cons, ↓pN_q, own_q, ownK_o, mutS_q, mutK_o, ↓mApp_q, ↓mAppB_q, ↓mPop_q, popK_v, ↓sSetIx_q, setK_i, ↓eObj_q, ↓eIxS_q, ↓sSetO_q, dAdd_i, dSub_i, dNeg_i, dLt_i, dLe_i, dGt_i, dGe_i, dEq_i, dNe_i, dTru_b, dTru_i, dTru_l, dTru_t, bAbs_i, bInt_i, bLen_l, bLen_t, bLen_s, dIx_l, dIx_t, bMaxD_2, bMinD_2, ↓dTup_q, ↓eCut_q, ↓oNone_q, ↓oSome_q, ↓oSk_i, oSk_i, List.getElem?_cons_zero, List.getElem?_cons_succ, List.set_cons_zero, List.set_cons_succ, if_true, if_false, Bool.false_eq_true, decide_eq_true_eq, decide_eq_false_iff_not, Bool.not_true, Bool.not_false, List.length_cons, List.length_nil, List.map_cons, List.map_nil, dMul_i, dFdiv_i, dMod_i, List.nil_append, Nat.zero_add, Nat.reduceAdd, Nat.reduceLeDiff, Nat.reduceLT, Nat.reduceEqDiff, le_refl_line, and_self, true_and, and_true, bnd_none, Bool.not_eq_true, eq_self, reduceCtorEq, decide_true, decide_false, B.frzs_v, Nat.add_assoc, draw_ok, ix0, ix1, Int.cast_ofNat_Int, Int.natCast_zero, Int.natCast_one, ↓bLc2_q, ↓bLcB_q, ↓mExt_q, extK_o, ↓bRg3_q, ↓eCut3_q, ↓bCut3_q, rng1', List.length_map, z, lb, z0, e, fz]
end
end K40

namespace K40
open PySem L2 Ev
section
variable {xs ys us : List Int} {a b c d n w p i : Int} {ds : List Int} {k P : Nat}
theorem mul_bd {a b A B : Int} (h1 : -A ≤ a ∧ a ≤ A) (h2 : -B ≤ b ∧ b ≤ B) : -(A * B) ≤ a * b ∧ a * b ≤ A * B := by
  have h := Nat.mul_le_mul (show a.natAbs ≤ A.toNat by omega) (show b.natAbs ≤ B.toNat by omega)
  rw [← Int.natAbs_mul] at h
  have e : ((A.toNat * B.toNat : Nat) : Int) = A * B := by rw [Int.natCast_mul, Int.toNat_of_nonneg (by omega), Int.toNat_of_nonneg (by omega)]
  omega
theorem sum_bd {C : Int} : ∀ (ys : List Int), (∀ y ∈ ys, -C ≤ y ∧ y ≤ C) → -(C * ys.length) ≤ ys.sum ∧ ys.sum ≤ C * ys.length
  | [], _ => by simp
  | y :: ys, h => by
    have h1 := h y (List.mem_cons_self ..)
    have h2 := sum_bd ys (fun z hz => h z (List.mem_cons_of_mem _ hz))
    rw [List.sum_cons, List.length_cons, Int.natCast_add, Int.natCast_one, Int.mul_add, Int.mul_one]
    omega
/-- the lights of a curve -/
structure Lt (xs : List Int) : Prop where
  hx : ∀ x ∈ xs, 0 ≤ x ∧ x ≤ 1000
  hl : 1 ≤ xs.length ∧ xs.length ≤ 14
/-- a row of it -/
structure Rw (xs : List Int) : Prop where
  hx : ∀ x ∈ xs, 0 ≤ x ∧ x ≤ 1000
  hl : xs.length ≤ 14
theorem Lt.row (h : Lt xs) (hi : 0 ≤ i) (hp : 0 < p) : Rw (pk xs i p) := by
  have hl := h.hl
  refine ⟨fun x hx => ?_, by have := pk_len (xs := xs) hi hp; omega⟩
  obtain ⟨k, _, rfl⟩ := List.mem_map.mp hx
  rw [List.getD_eq_getElem?_getD]
  rcases e : xs[k.toNat]? with _ | x
  · exact ⟨by decide, by decide⟩
  · exact h.hx x (List.mem_of_getElem? e)
def sqM (xs : List Int) : Int := (xs.map fun x => x * x).sum
def eM (xs : List Int) : Int := sqM xs * xs.length - xs.sum * xs.sum
theorem Rw.bd (h : Rw xs) : (-14000 ≤ xs.sum ∧ xs.sum ≤ 14000) ∧ (-14000000 ≤ sqM xs ∧ sqM xs ≤ 14000000) ∧ (-(10 ^ 9) ≤ eM xs ∧ eM xs ≤ 10 ^ 9) := by
  have hl := h.hl
  have h1 := sum_bd (C := 1000) xs (fun x hx => by have := h.hx x hx; omega)
  have h2 := sum_bd (C := 1000000) (xs.map fun x => x * x) (fun x hx => by
    obtain ⟨y, hy, rfl⟩ := List.mem_map.mp hx
    have := h.hx y hy
    have := mul_bd (a := y) (b := y) (A := 1000) (B := 1000) (by omega) (by omega)
    omega)
  rw [List.length_map] at h2
  have h2 : -(1000000 * (xs.length : Int)) ≤ sqM xs ∧ sqM xs ≤ 1000000 * (xs.length : Int) := h2
  have s1 : -14000 ≤ xs.sum ∧ xs.sum ≤ 14000 := by omega
  have s2 : -14000000 ≤ sqM xs ∧ sqM xs ≤ 14000000 := by omega
  have m1 := mul_bd (b := (xs.length : Int)) (B := 14) s2 (by omega)
  have m2 := mul_bd s1 s1
  refine ⟨s1, s2, ?_⟩
  unfold eM
  omega
theorem eM_one {ys : List Int} (h : ys.length = 1) : eM ys = 0 := by
  obtain ⟨y, rfl⟩ := List.length_eq_one_iff.mp h
  unfold eM sqM; simp
/-- row by row -/
def acc (a : Int × Int) (ys : List Int) : Int × Int := (a.1 * ys.length + eM ys * a.2, a.2 * ys.length)
def errJ (xs : List Int) (P j : Nat) : Int × Int := (List.range j).foldl (fun a r => acc a (pk xs (r : Nat) P)) (0, 1)
def errM (xs : List Int) (P : Nat) : Int × Int := errJ xs P (min P xs.length)
theorem err_next {j : Nat} : errJ xs P (j + 1) = acc (errJ xs P j) (pk xs (j : Nat) P) := by
  unfold errJ
  rw [List.range_succ, List.foldl_append]; rfl
theorem row_len (h : Lt xs) (hP : 1 ≤ P) (r : Nat) : (pk xs (r : Nat) P).length ≤ 1 + 13 / P := by
  have hl := h.hl
  unfold pk segC
  rw [List.length_map, List.length_map, List.length_range]
  split
  · have q : ((xs.length : Int) - r - 1) / (P : Int) ≤ 13 / (P : Int) := Int.ediv_le_ediv (by omega) (by omega)
    have e : (13 : Int) / (P : Int) = ((13 / P : Nat) : Int) := by rw [Int.natCast_ediv]; rfl
    obtain ⟨N, hN⟩ : ∃ N, N = 13 / P := ⟨_, rfl⟩
    rw [← hN] at e ⊢
    rw [e] at q
    have n0 : 0 ≤ ((xs.length : Int) - r - 1) / (P : Int) := Int.ediv_nonneg (by omega) (by omega)
    omega
  · exact Nat.zero_le _
theorem err_bd (h : Lt xs) (hP : 1 ≤ P) : ∀ j, j ≤ min P xs.length → (1 ≤ (errJ xs P j).2 ∧ (errJ xs P j).2 ≤ (((1 + 13 / P) ^ j : Nat) : Int)) ∧ -((j : Int) * 10 ^ 9 * (((1 + 13 / P) ^ j : Nat) : Int)) ≤ (errJ xs P j).1 ∧ (errJ xs P j).1 ≤ (j : Int) * 10 ^ 9 * (((1 + 13 / P) ^ j : Nat) : Int)
  | 0, _ => by
    show (1 ≤ (1 : Int) ∧ (1 : Int) ≤ (((1 + 13 / P) ^ 0 : Nat) : Int)) ∧ -(((0 : Nat) : Int) * 10 ^ 9 * _) ≤ (0 : Int) ∧ (0 : Int) ≤ ((0 : Nat) : Int) * 10 ^ 9 * _
    rw [Nat.pow_zero]
    simp
  | j + 1, hj => by
    obtain ⟨⟨h1, h2⟩, h3, h4⟩ := err_bd h hP j (by omega)
    have l1 := row_len h hP j
    have l0 := pk_pos (xs := xs) (i := (j : Nat)) (p := P) (by omega) (by omega)
    have eb := (h.row (i := (j : Nat)) (p := P) (by omega) (by omega)).bd.2.2
    rw [err_next]
    unfold acc
    dsimp only
    obtain ⟨T, hT⟩ : ∃ T, T = (errJ xs P j).1 := ⟨_, rfl⟩
    obtain ⟨B, hB⟩ : ∃ B, B = (errJ xs P j).2 := ⟨_, rfl⟩
    obtain ⟨l, hl⟩ : ∃ l : Nat, l = (pk xs (j : Nat) P).length := ⟨_, rfl⟩
    obtain ⟨e, he⟩ : ∃ e, e = eM (pk xs (j : Nat) P) := ⟨_, rfl⟩
    obtain ⟨M, hM⟩ : ∃ M : Nat, M = 1 + 13 / P := ⟨_, rfl⟩
    obtain ⟨W, hW⟩ : ∃ W : Nat, W = M ^ j := ⟨_, rfl⟩
    rw [← hT] at h3 h4
    rw [← hB] at h1 h2
    rw [← hM] at l1 h2 h3 h4
    rw [← hW] at h2 h3 h4
    rw [← hl] at l1 l0
    rw [← he] at eb
    rw [← hT, ← hB, ← hl, ← he, ← hM, Nat.pow_succ, ← hW]
    have m1 := mul_bd (a := T) (b := (l : Int)) (A := (j : Int) * 10 ^ 9 * W) (B := M) ⟨h3, h4⟩ (by omega)
    have m2 := mul_bd (a := e) (b := B) eb (show -(W : Int) ≤ B ∧ B ≤ W by omega)
    have m3 := mul_bd (a := B) (b := (l : Int)) (A := W) (B := M) (by omega) (by omega)
    have p1 : 0 < B * (l : Int) := Int.mul_pos (by omega) (by omega)
    have wm : (W : Int) ≤ (W : Int) * M := by
      have := Int.mul_le_mul_of_nonneg_left (show (1 : Int) ≤ M by omega) (show (0 : Int) ≤ W by omega)
      rw [Int.mul_one] at this; exact this
    have e1 : (j : Int) * 10 ^ 9 * W * M = (j : Int) * 10 ^ 9 * (W * M) := Int.mul_assoc ..
    have e2 : ((j + 1 : Nat) : Int) * 10 ^ 9 * ((W * M : Nat) : Int) = (j : Int) * 10 ^ 9 * (W * M) + 10 ^ 9 * (W * M) := by
      rw [Int.natCast_mul, Int.natCast_add, Int.natCast_one]; grind
    rw [e2, Int.natCast_mul]
    rw [e1] at m1
    omega
theorem pow_fin : ∀ P : Fin 100, (1 + 13 / (P.val + 1)) ^ (min (P.val + 1) 14) ≤ 8192 := by decide +kernel
theorem err_le (h : Lt xs) (hP : 1 ≤ P ∧ P ≤ 100) {j : Nat} (hj : j ≤ min P xs.length) : (1 ≤ (errJ xs P j).2 ∧ (errJ xs P j).2 ≤ 8192) ∧ -(10 ^ 15) ≤ (errJ xs P j).1 ∧ (errJ xs P j).1 ≤ 10 ^ 15 := by
  have hl := h.hl
  obtain ⟨⟨h1, h2⟩, h3⟩ := err_bd h hP.1 j hj
  have pw := pow_fin ⟨P - 1, by omega⟩
  dsimp only at pw
  rw [show P - 1 + 1 = P by omega] at pw
  have pl : (1 + 13 / P) ^ j ≤ (1 + 13 / P) ^ (min P 14) := Nat.pow_le_pow_right (Nat.add_pos_left Nat.one_pos _) (by omega)
  obtain ⟨W, hW⟩ : ∃ W : Nat, W = (1 + 13 / P) ^ j := ⟨_, rfl⟩
  rw [← hW] at h2 h3 pl
  have pw := Nat.le_trans pl pw
  have m := mul_bd (a := (j : Int) * 10 ^ 9) (b := (W : Int)) (A := 14 * 10 ^ 9) (B := 8192) (by omega) (by omega)
  refine ⟨by omega, by omega, by omega⟩
theorem sq_lc {s : Sta} {own : List Nat} (h : Rw ys) (H : ∀ x : Int, -(10 ^ 30) ≤ x ∧ x ≤ 10 ^ 30 → lcS own (gN 7) tYes' (e2 dMul (eV 7) (eV 7)) (.int x) s = some (some (.int (x * x)), s)) : lcL own (gN 7) tYes' (e2 dMul (eV 7) (eV 7)) (ys.map D.int) s = some ((ys.map fun x => x * x).map D.int, s) := by
  rw [List.map_map]
  refine lcL_all (g := D.int) (fun x => D.int (x * x)) _ fun x hx => ?_
  have := h.hx x hx
  exact H x (by omega)
theorem ls_step (h : Lt xs) {r : Nat} (hr : r < xs.length) (hP : 1 ≤ P ∧ P ≤ 100) {T B' : Int} (hB : 1 ≤ B' ∧ B' ≤ 8192) (hT : -(10 ^ 15) ≤ T ∧ T ≤ 10 ^ 15) {x4 x5 x6 : Option B} : ∃ y4 y5 y6, l1_least_errors ⟨[some (.v (.lst (xs.map .int))), some (.v (.int P)), some (.v (lowD T B')), some (.v (.int (r : Nat))), x4, x5, x6, none], [], true⟩ = some (.nx, ⟨[some (.v (.lst (xs.map .int))), some (.v (.int P)), some (.v (lowD (acc (T, B') (pk xs (r : Nat) P)).1 (acc (T, B') (pk xs (r : Nat) P)).2)), some (.v (.int (r : Nat))), y4, y5, y6, none], [], true⟩) := by
  have hl := h.hl
  have sl := slice_ok (xs := xs) (i := (r : Nat)) (p := P) (by omega) (by omega) (by omega)
  have rw0 := h.row (i := (r : Nat)) (p := P) (by omega) (by omega)
  have l0 := pk_pos (xs := xs) (i := (r : Nat)) (p := P) (by omega) (by omega)
  obtain ⟨ys, hys⟩ : ∃ ys, ys = pk xs (r : Nat) P := ⟨_, rfl⟩
  rw [← hys] at sl rw0 l0
  rw [← hys]
  have bd := rw0.bd
  have l1 := rw0.hl
  have z1 : ys.length ≤ sizeLine := zl _ (by omega)
  have lc := fun (s : Sta) (H : ∀ x : Int, -(10 ^ 30) ≤ x ∧ x ≤ 10 ^ 30 → lcS [7] (gN 7) tYes' (e2 dMul (eV 7) (eV 7)) (.int x) s = some (some (.int (x * x)), s)) => sq_lc (s := s) (own := [7]) rw0 H
  have fe := fraction_ok (t := eM ys) (b := ys.length) (by omega) (by unfold Bd; omega)
  have e1 : eM ys = (ys.map fun x => x * x).sum * ys.length - ys.sum * ys.sum := rfl
  have b2 : -14000000 ≤ (ys.map fun x => x * x).sum ∧ (ys.map fun x => x * x).sum ≤ 14000000 := bd.2.1
  obtain ⟨a1, a2, _, a4, a5⟩ := low_spec (t := T) (b := B') (by omega)
  obtain ⟨c1, c2, _, c4, c5⟩ := low_spec (t := eM ys) (b := ys.length) (by omega)
  have key : lowD (acc (T, B') ys).1 (acc (T, B') ys).2 = lowD (lowT T B' * lowB (eM ys) ys.length + lowT (eM ys) ys.length * lowB T B') (lowB T B' * lowB (eM ys) ys.length) := by
    unfold acc
    dsimp only
    obtain ⟨f0, hf0⟩ : ∃ f0, f0 = lowT T B' := ⟨_, rfl⟩
    obtain ⟨f1, hf1⟩ : ∃ f1, f1 = lowB T B' := ⟨_, rfl⟩
    obtain ⟨p0, hp0⟩ : ∃ p0, p0 = lowT (eM ys) ys.length := ⟨_, rfl⟩
    obtain ⟨p1, hp1⟩ : ∃ p1, p1 = lowB (eM ys) ys.length := ⟨_, rfl⟩
    rw [← hf1] at a1
    rw [← hf0, ← hf1] at a2
    rw [← hp1] at c1
    rw [← hp0, ← hp1] at c2
    rw [← hf0, ← hf1, ← hp0, ← hp1]
    have q1 : 0 < f1 * p1 := Int.mul_pos a1 c1
    have q2 : 0 < B' * (ys.length : Int) := Int.mul_pos (by omega) (by omega)
    have kk : (T * ys.length + eM ys * B') * (f1 * p1) = (f0 * p1 + p0 * f1) * (B' * ys.length) := by grind
    obtain ⟨g1, g2⟩ := low_congr (t := T * ys.length + eM ys * B') (b := B' * ys.length) (t' := f0 * p1 + p0 * f1) (b' := f1 * p1) (by omega) (by omega) kk
    unfold lowD
    rw [g1, g2]
  rw [key]
  obtain ⟨f0, hf0⟩ : ∃ f0, f0 = lowT T B' := ⟨_, rfl⟩
  obtain ⟨f1, hf1⟩ : ∃ f1, f1 = lowB T B' := ⟨_, rfl⟩
  obtain ⟨p0, hp0⟩ : ∃ p0, p0 = lowT (eM ys) ys.length := ⟨_, rfl⟩
  obtain ⟨p1, hp1⟩ : ∃ p1, p1 = lowB (eM ys) ys.length := ⟨_, rfl⟩
  unfold lowD at fe
  rw [← hf1] at a1 a4
  rw [← hf0] at a5
  rw [← hp1] at c1 c4
  rw [← hp0] at c5
  rw [← hp0, ← hp1, e1] at fe
  rw [← hf0, ← hf1, ← hp0, ← hp1]
  have q1 : 0 < f1 * p1 := Int.mul_pos a1 c1
  have q2 := mul_bd (a := f1) (b := p1) (A := 8192) (B := 14) (by omega) (by omega)
  have f2 := fraction_ok (t := f0 * p1 + p0 * f1) (b := f1 * p1) (by omega) (by unfold Bd; omega)
  have eT : lowD T B' = .tup [.int f0, .int f1] := by rw [hf0, hf1]
  rw [eT]
  refine ⟨some (.v (.lst (ys.map .int))), some (.v (.int ys.sum)), some (.v (.tup [.int p0, .int p1])), ?_⟩
  have lc2 := lc ⟨[some (.v (.lst (xs.map .int))), some (.v (.int P)), some (.v (.tup [.int f0, .int f1])), some (.v (.int (r : Nat))), some (.v (.lst (ys.map .int))), some (.v (.int ys.sum)), x6, none], [], true⟩ (fun x hx => by simp -implicitDefEqProofs (maxSteps := 1000000) (disch := omega) only [↓bnd_some, bnd_some, eV_q, eVk_v, eVk_o, eW_q, eWk_b, frz_v, frz_o, frzs_nil, frzs_cons, ↓eC_q, ↓e1_q, ↓e2_q, ↓e3_q, e3k_b, ↓eT_q, ↓eTb_q, ↓eTbk_b, eTbk_b, ↓wAnd_q, ↓wOr_q, ↓wNot_q, ↓eAnd_q, ↓eOr_q, ↓eNot_q, ↓eIf_q, ↓eP_q, ↓aNil_q, ↓aCons_q, ↓eL_q, ↓eFz_q, ↓bLst_q, ↓bL_q, ↓b2_q, ↓bCall_q, ↓bPure_q, ↓pV_q, ↓sSeq_q, ↓seqK_nx, seqK_nx, ↓seqK_rt, seqK_rt, ↓seqK_bk, seqK_bk, ↓seqK_ct, seqK_ct, ↓sIf_q, ↓sNil_q, ↓sBk_q, ↓sCt_q, ↓sRet_q, ↓sRetB_q, ↓sRetN_q, ↓sRetV_q, rvK_b, ↓sExp_q, ↓sSet_q, ↓sSetB_q, put_q, ↓sAug_q, augK_v, ↓finK_rt, finK_rt, ↓finK_nx, finK_nx, ↓gN_q, ↓gsNil_q, ↓gsCons_q, ↓gT_q, ↓sAsg_q, ↓iV_q, ↓iA_q, items_lst, items_tup, ↓sFor_q, forL_nil, ↓forK_nx, forK_nx, ↓forK_ct, forK_ct, ↓forK_bk, forK_bk, ↓forK_rt, forK_rt, ↓whK_nx, whK_nx, ↓whK_ct, whK_ct, ↓whK_bk, whK_bk, ↓whK_rt, whK_rt, ↓bLc_q, ↓tYes_q, wipeE_nil, wipeE_cons, ↓pN_q, own_q, ownK_o, mutS_q, mutK_o, ↓mApp_q, ↓mAppB_q, ↓mPop_q, popK_v, ↓sSetIx_q, setK_i, ↓eObj_q, ↓eIxS_q, ↓sSetO_q, dAdd_i, dSub_i, dNeg_i, dLt_i, dLe_i, dGt_i, dGe_i, dEq_i, dNe_i, dTru_b, dTru_i, dTru_l, dTru_t, bAbs_i, bInt_i, bLen_l, bLen_t, bLen_s, dIx_l, dIx_t, bMaxD_2, bMinD_2, ↓dTup_q, ↓eCut_q, ↓oNone_q, ↓oSome_q, ↓oSk_i, oSk_i, List.getElem?_cons_zero, List.getElem?_cons_succ, List.set_cons_zero, List.set_cons_succ, if_true, if_false, Bool.false_eq_true, decide_eq_true_eq, decide_eq_false_iff_not, Bool.not_true, Bool.not_false, List.length_cons, List.length_nil, List.map_cons, List.map_nil, dMul_i, dFdiv_i, dMod_i, List.nil_append, Nat.zero_add, Nat.reduceAdd, Nat.reduceLeDiff, Nat.reduceLT, Nat.reduceEqDiff, le_refl_line, and_self, true_and, and_true, bnd_none, Bool.not_eq_true, eq_self, reduceCtorEq, decide_true, decide_false, B.frzs_v, Nat.add_assoc, draw_ok, ix0, ix1, Int.cast_ofNat_Int, Int.natCast_zero, Int.natCast_one, ↓bLc2_q, ↓bLcB_q, ↓mExt_q, extK_o, ↓bRg3_q, ↓eCut3_q, ↓bCut3_q, lcS])
  simp -implicitDefEqProofs (maxSteps := 1000000) (disch := omega) only [↓bnd_some, bnd_some, eV_q, eVk_v, eVk_o, eW_q, eWk_b, frz_v, frz_o, frzs_nil, frzs_cons, ↓eC_q, ↓e1_q, ↓e2_q, ↓e3_q, e3k_b, ↓eT_q, ↓eTb_q, ↓eTbk_b, eTbk_b, ↓wAnd_q, ↓wOr_q, ↓wNot_q, ↓eAnd_q, ↓eOr_q, ↓eNot_q, ↓eIf_q, ↓eP_q, ↓aNil_q, ↓aCons_q, ↓eL_q, ↓eFz_q, ↓bLst_q, ↓bL_q, ↓b2_q, ↓bCall_q, ↓bPure_q, ↓pV_q, ↓sSeq_q, ↓seqK_nx, seqK_nx, ↓seqK_rt, seqK_rt, ↓seqK_bk, seqK_bk, ↓seqK_ct, seqK_ct, ↓sIf_q, ↓sNil_q, ↓sBk_q, ↓sCt_q, ↓sRet_q, ↓sRetB_q, ↓sRetN_q, ↓sRetV_q, rvK_b, ↓sExp_q, ↓sSet_q, ↓sSetB_q, put_q, ↓sAug_q, augK_v, ↓finK_rt, finK_rt, ↓finK_nx, finK_nx, ↓gN_q, ↓gsNil_q, ↓gsCons_q, ↓gT_q, ↓sAsg_q, ↓iV_q, ↓iA_q, items_lst, items_tup, ↓sFor_q, forL_nil, ↓forK_nx, forK_nx, ↓forK_ct, forK_ct, ↓forK_bk, forK_bk, ↓forK_rt, forK_rt, ↓whK_nx, whK_nx, ↓whK_ct, whK_ct, ↓whK_bk, whK_bk, ↓whK_rt, whK_rt, ↓bLc_q, ↓tYes_q, wipeE_nil, wipeE_cons, ↓pN_q, own_q, ownK_o, mutS_q, mutK_o, ↓mApp_q, ↓mAppB_q, ↓mPop_q, popK_v, ↓sSetIx_q, setK_i, ↓eObj_q, ↓eIxS_q, ↓sSetO_q, dAdd_i, dSub_i, dNeg_i, dLt_i, dLe_i, dGt_i, dGe_i, dEq_i, dNe_i, dTru_b, dTru_i, dTru_l, dTru_t, bAbs_i, bInt_i, bLen_l, bLen_t, bLen_s, dIx_l, dIx_t, bMaxD_2, bMinD_2, ↓dTup_q, ↓eCut_q, ↓oNone_q, ↓oSome_q, ↓oSk_i, oSk_i, List.getElem?_cons_zero, List.getElem?_cons_succ, List.set_cons_zero, List.set_cons_succ, if_true, if_false, Bool.false_eq_true, decide_eq_true_eq, decide_eq_false_iff_not, Bool.not_true, Bool.not_false, List.length_cons, List.length_nil, List.map_cons, List.map_nil, dMul_i, dFdiv_i, dMod_i, List.nil_append, Nat.zero_add, Nat.reduceAdd, Nat.reduceLeDiff, Nat.reduceLT, Nat.reduceEqDiff, le_refl_line, and_self, true_and, and_true, bnd_none, Bool.not_eq_true, eq_self, reduceCtorEq, decide_true, decide_false, B.frzs_v, Nat.add_assoc, draw_ok, ix0, ix1, Int.cast_ofNat_Int, Int.natCast_zero, Int.natCast_one, ↓bLc2_q, ↓bLcB_q, ↓mExt_q, extK_o, ↓bRg3_q, ↓eCut3_q, ↓bCut3_q, l1_least_errors, sl, sum_ints, List.length_map, z1, lc2, B.frzs_v, fe, f2]
theorem ls_loop (h : Lt xs) (hP : 1 ≤ P ∧ P ≤ 100) : ∀ (m j : Nat) (x3 x4 x5 x6 : Option B), j + m = min P xs.length → ∃ (y3 y4 y5 y6 : Option B), forL (gN 3) l1_least_errors ((seg j (min P xs.length : Nat)).map D.int) ⟨[some (.v (.lst (xs.map .int))), some (.v (.int P)), some (.v (lowD (errJ xs P j).1 (errJ xs P j).2)), x3, x4, x5, x6, none], [], true⟩ = some (.nx, ⟨[some (.v (.lst (xs.map .int))), some (.v (.int P)), some (.v (lowD (errM xs P).1 (errM xs P).2)), y3, y4, y5, y6, none], [], true⟩)
  | 0, j, x3, x4, x5, x6, hj => ⟨x3, x4, x5, x6, by rw [seg_nil (by omega)]; unfold errM; rw [show j = min P xs.length by omega]; rfl⟩
  | m + 1, j, x3, x4, x5, x6, hj => by
    obtain ⟨hB, hT⟩ := err_le h hP (j := j) (by omega)
    obtain ⟨z4, z5, z6, e⟩ := ls_step h (r := j) (by omega) hP hB hT (x4 := x4) (x5 := x5) (x6 := x6)
    obtain ⟨y3, y4, y5, y6, ih⟩ := ls_loop h hP m (j + 1) (some (.v (.int (j : Nat)))) z4 z5 z6 (by omega)
    rw [err_next] at ih
    have pa : ((errJ xs P j).1, (errJ xs P j).2) = errJ xs P j := rfl
    rw [pa] at e
    refine ⟨y3, y4, y5, y6, ?_⟩
    rw [seg_cons (by omega), List.map_cons, forL_cons]
    obtain ⟨L, hL⟩ : ∃ L, L = lowD (errJ xs P j).1 (errJ xs P j).2 := ⟨_, rfl⟩
    rw [← hL] at e ⊢
    simp -implicitDefEqProofs (maxSteps := 1000000) (disch := omega) only [↓bnd_some, bnd_some, eV_q, eVk_v, eVk_o, eW_q, eWk_b, frz_v, frz_o, frzs_nil, frzs_cons, ↓eC_q, ↓e1_q, ↓e2_q, ↓e3_q, e3k_b, ↓eT_q, ↓eTb_q, ↓eTbk_b, eTbk_b, ↓wAnd_q, ↓wOr_q, ↓wNot_q, ↓eAnd_q, ↓eOr_q, ↓eNot_q, ↓eIf_q, ↓eP_q, ↓aNil_q, ↓aCons_q, ↓eL_q, ↓eFz_q, ↓bLst_q, ↓bL_q, ↓b2_q, ↓bCall_q, ↓bPure_q, ↓pV_q, ↓sSeq_q, ↓seqK_nx, seqK_nx, ↓seqK_rt, seqK_rt, ↓seqK_bk, seqK_bk, ↓seqK_ct, seqK_ct, ↓sIf_q, ↓sNil_q, ↓sBk_q, ↓sCt_q, ↓sRet_q, ↓sRetB_q, ↓sRetN_q, ↓sRetV_q, rvK_b, ↓sExp_q, ↓sSet_q, ↓sSetB_q, put_q, ↓sAug_q, augK_v, ↓finK_rt, finK_rt, ↓finK_nx, finK_nx, ↓gN_q, ↓gsNil_q, ↓gsCons_q, ↓gT_q, ↓sAsg_q, ↓iV_q, ↓iA_q, items_lst, items_tup, ↓sFor_q, forL_nil, ↓forK_nx, forK_nx, ↓forK_ct, forK_ct, ↓forK_bk, forK_bk, ↓forK_rt, forK_rt, ↓whK_nx, whK_nx, ↓whK_ct, whK_ct, ↓whK_bk, whK_bk, ↓whK_rt, whK_rt, ↓bLc_q, ↓tYes_q, wipeE_nil, wipeE_cons, ↓pN_q, own_q, ownK_o, mutS_q, mutK_o, ↓mApp_q, ↓mAppB_q, ↓mPop_q, popK_v, ↓sSetIx_q, setK_i, ↓eObj_q, ↓eIxS_q, ↓sSetO_q, dAdd_i, dSub_i, dNeg_i, dLt_i, dLe_i, dGt_i, dGe_i, dEq_i, dNe_i, dTru_b, dTru_i, dTru_l, dTru_t, bAbs_i, bInt_i, bLen_l, bLen_t, bLen_s, dIx_l, dIx_t, bMaxD_2, bMinD_2, ↓dTup_q, ↓eCut_q, ↓oNone_q, ↓oSome_q, ↓oSk_i, oSk_i, List.getElem?_cons_zero, List.getElem?_cons_succ, List.set_cons_zero, List.set_cons_succ, if_true, if_false, Bool.false_eq_true, decide_eq_true_eq, decide_eq_false_iff_not, Bool.not_true, Bool.not_false, List.length_cons, List.length_nil, List.map_cons, List.map_nil, dMul_i, dFdiv_i, dMod_i, List.nil_append, Nat.zero_add, Nat.reduceAdd, Nat.reduceLeDiff, Nat.reduceLT, Nat.reduceEqDiff, le_refl_line, and_self, true_and, and_true, bnd_none, Bool.not_eq_true, eq_self, reduceCtorEq, decide_true, decide_false, B.frzs_v, Nat.add_assoc, draw_ok, ix0, ix1, Int.cast_ofNat_Int, Int.natCast_zero, Int.natCast_one, ↓bLc2_q, ↓bLcB_q, ↓mExt_q, extK_o, ↓bRg3_q, ↓eCut3_q, ↓bCut3_q, e]
    exact ih
theorem least_ok (h : Lt xs) (hP : 1 ≤ P ∧ P ≤ 100) : pF F_least_errors [.lst (xs.map .int), .int P] = some (.v (lowD (errM xs P).1 (errM xs P).2)) := by
  have hl := h.hl
  obtain ⟨y3, y4, y5, y6, e⟩ := ls_loop h hP (min P xs.length) 0 none none none none (by omega)
  have s0 : lowD (errJ xs P 0).1 (errJ xs P 0).2 = .tup [.int 0, .int 1] := by
    show fq (lowT 0 1) (lowB 0 1) = _
    rw [show lowT 0 1 = 0 by decide +kernel, show lowB 0 1 = 1 by decide +kernel]
  rw [s0] at e
  have e : forL (gN 3) l1_least_errors ((seg 0 ((min P xs.length : Nat) : Int)).map D.int) _ = _ := e
  have mm : ((min P xs.length : Nat) : Int) = min (P : Int) xs.length := by omega
  rw [mm] at e
  have z0 : xs.length ≤ sizeLine := zl _ (by omega)
  rw [pF_q, q_least_errors, b_least_errors]
  simp -implicitDefEqProofs (maxSteps := 1000000) (disch := omega) only [↓bnd_some, bnd_some, eV_q, eVk_v, eVk_o, eW_q, eWk_b, frz_v, frz_o, frzs_nil, frzs_cons, ↓eC_q, ↓e1_q, ↓e2_q, ↓e3_q, e3k_b, ↓eT_q, ↓eTb_q, ↓eTbk_b, eTbk_b, ↓wAnd_q, ↓wOr_q, ↓wNot_q, ↓eAnd_q, ↓eOr_q, ↓eNot_q, ↓eIf_q, ↓eP_q, ↓aNil_q, ↓aCons_q, ↓eL_q, ↓eFz_q, ↓bLst_q, ↓bL_q, ↓b2_q, ↓bCall_q, ↓bPure_q, ↓pV_q, ↓sSeq_q, ↓seqK_nx, seqK_nx, ↓seqK_rt, seqK_rt, ↓seqK_bk, seqK_bk, ↓seqK_ct, seqK_ct, ↓sIf_q, ↓sNil_q, ↓sBk_q, ↓sCt_q, ↓sRet_q, ↓sRetB_q, ↓sRetN_q, ↓sRetV_q, rvK_b, ↓sExp_q, ↓sSet_q, ↓sSetB_q, put_q, ↓sAug_q, augK_v, ↓finK_rt, finK_rt, ↓finK_nx, finK_nx, ↓gN_q, ↓gsNil_q, ↓gsCons_q, ↓gT_q, ↓sAsg_q, ↓iV_q, ↓iA_q, items_lst, items_tup, ↓sFor_q, forL_nil, ↓forK_nx, forK_nx, ↓forK_ct, forK_ct, ↓forK_bk, forK_bk, ↓forK_rt, forK_rt, ↓whK_nx, whK_nx, ↓whK_ct, whK_ct, ↓whK_bk, whK_bk, ↓whK_rt, whK_rt, ↓bLc_q, ↓tYes_q, wipeE_nil, wipeE_cons, ↓pN_q, own_q, ownK_o, mutS_q, mutK_o, ↓mApp_q, ↓mAppB_q, ↓mPop_q, popK_v, ↓sSetIx_q, setK_i, ↓eObj_q, ↓eIxS_q, ↓sSetO_q, dAdd_i, dSub_i, dNeg_i, dLt_i, dLe_i, dGt_i, dGe_i, dEq_i, dNe_i, dTru_b, dTru_i, dTru_l, dTru_t, bAbs_i, bInt_i, bLen_l, bLen_t, bLen_s, dIx_l, dIx_t, bMaxD_2, bMinD_2, ↓dTup_q, ↓eCut_q, ↓oNone_q, ↓oSome_q, ↓oSk_i, oSk_i, List.getElem?_cons_zero, List.getElem?_cons_succ, List.set_cons_zero, List.set_cons_succ, if_true, if_false, Bool.false_eq_true, decide_eq_true_eq, decide_eq_false_iff_not, Bool.not_true, Bool.not_false, List.length_cons, List.length_nil, List.map_cons, List.map_nil, dMul_i, dFdiv_i, dMod_i, List.nil_append, Nat.zero_add, Nat.reduceAdd, Nat.reduceLeDiff, Nat.reduceLT, Nat.reduceEqDiff, le_refl_line, and_self, true_and, and_true, bnd_none, Bool.not_eq_true, eq_self, reduceCtorEq, decide_true, decide_false, B.frzs_v, Nat.add_assoc, draw_ok, ix0, ix1, Int.cast_ofNat_Int, Int.natCast_zero, Int.natCast_one, ↓bLc2_q, ↓bLcB_q, ↓mExt_q, extK_o, ↓bRg3_q, ↓eCut3_q, ↓bCut3_q, dTup_q, two_line, List.length_map, z0, bMinD_2, rng1', e]
end
end K40

namespace K40
open PySem L2 Ev
section
variable {xs ys us : List Int} {a b c d n w p i : Int} {ds : List Int} {k P : Nat}
theorem atI_g {j : Nat} (h : j < ys.length) : atI (ys.map D.int) (j : Int) = some (.int ys[j]) := by
  rw [atI_nn (by omega), Int.toNat_natCast, List.getElem?_map, List.getElem?_eq_getElem h]; rfl
theorem take_sum {j : Nat} (h : j < ys.length) : (ys.take (j + 1)).sum = (ys.take j).sum + ys[j] := by
  rw [List.take_succ_eq_append_getElem h, List.sum_append]; simp
theorem take_sq {j : Nat} (h : j < ys.length) : sqM (ys.take (j + 1)) = sqM (ys.take j) + ys[j] * ys[j] := by
  unfold sqM
  rw [List.take_succ_eq_append_getElem h, List.map_append, List.sum_append]; simp
def fM (xs : List Int) (r : Int) (j : Nat) : Int := j * (r * r) - 2 * (r * (xs.take j).sum) + sqM (xs.take j)
theorem f_step {r : Int} {j : Nat} (h : j < ys.length) : fM ys r (j + 1) = fM ys r j + (r - ys[j]) * (r - ys[j]) := by
  unfold fM
  rw [take_sum h, take_sq h, Int.natCast_add, Int.natCast_one]
  grind
theorem f_zero {r : Int} : fM ys r 0 = 0 := by unfold fM sqM; simp
theorem pa_in (hx : Rw ys) {k : Nat} (hk : k < ys.length) {x0 x1 x2 x3 : Option B} : ∀ (m j : Nat) (A : Int) (x7 : Option B), j + m = k →
    ∃ y7, forL (gN 7) l1_law_errors ((seg j k).map D.int) ⟨[x0, x1, x2, x3, some (.v (.lst (ys.map .int))), some (.v (.int A)), some (.v (.int (k : Int))), x7], [], true⟩ = some (.nx, ⟨[x0, x1, x2, x3, some (.v (.lst (ys.map .int))), some (.v (.int (A + (fM ys ys[k] k - fM ys ys[k] j)))), some (.v (.int (k : Int))), y7], [], true⟩)
  | 0, j, A, x7, h => by
    refine ⟨x7, ?_⟩
    rw [seg_nil (by omega), show j = k by omega, Int.sub_self, Int.add_zero]; rfl
  | m + 1, j, A, x7, h => by
    obtain ⟨y7, ih⟩ := pa_in hx hk (x0 := x0) (x1 := x1) (x2 := x2) (x3 := x3) m (j + 1) (A + (ys[k] - ys[j]) * (ys[k] - ys[j])) (some (.v (.int (j : Int)))) (by omega)
    refine ⟨y7, ?_⟩
    rw [f_step (by omega), show ∀ u v w t : Int, u + v + (w - (t + v)) = u + (w - t) by intros; omega] at ih
    rw [seg_cons (by omega), List.map_cons, forL_cons]
    have i1 : atI (ys.map D.int) (k : Int) = some (.int ys[k]) := atI_g hk
    have b1 := hx.hx ys[k] (List.getElem_mem _)
    have b2 := hx.hx ys[j] (List.getElem_mem _)
    have i2 : atI (ys.map D.int) (j : Int) = some (.int ys[j]) := atI_g (by omega)
    simp -implicitDefEqProofs (maxSteps := 1000000) (disch := omega) only [↓bnd_some, bnd_some, eV_q, eVk_v, eVk_o, eW_q, eWk_b, frz_v, frz_o, frzs_nil, frzs_cons, ↓eC_q, ↓e1_q, ↓e2_q, ↓e3_q, e3k_b, ↓eT_q, ↓eTb_q, ↓eTbk_b, eTbk_b, ↓wAnd_q, ↓wOr_q, ↓wNot_q, ↓eAnd_q, ↓eOr_q, ↓eNot_q, ↓eIf_q, ↓eP_q, ↓aNil_q, ↓aCons_q, ↓eL_q, ↓eFz_q, ↓bLst_q, ↓bL_q, ↓b2_q, ↓bCall_q, ↓bPure_q, ↓pV_q, ↓sSeq_q, ↓seqK_nx, seqK_nx, ↓seqK_rt, seqK_rt, ↓seqK_bk, seqK_bk, ↓seqK_ct, seqK_ct, ↓sIf_q, ↓sNil_q, ↓sBk_q, ↓sCt_q, ↓sRet_q, ↓sRetB_q, ↓sRetN_q, ↓sRetV_q, rvK_b, ↓sExp_q, ↓sSet_q, ↓sSetB_q, put_q, ↓sAug_q, augK_v, ↓finK_rt, finK_rt, ↓finK_nx, finK_nx, ↓gN_q, ↓gsNil_q, ↓gsCons_q, ↓gT_q, ↓sAsg_q, ↓iV_q, ↓iA_q, items_lst, items_tup, ↓sFor_q, forL_nil, ↓forK_nx, forK_nx, ↓forK_ct, forK_ct, ↓forK_bk, forK_bk, ↓forK_rt, forK_rt, ↓whK_nx, whK_nx, ↓whK_ct, whK_ct, ↓whK_bk, whK_bk, ↓whK_rt, whK_rt, ↓bLc_q, ↓tYes_q, wipeE_nil, wipeE_cons, ↓pN_q, own_q, ownK_o, mutS_q, mutK_o, ↓mApp_q, ↓mAppB_q, ↓mPop_q, popK_v, ↓sSetIx_q, setK_i, ↓eObj_q, ↓eIxS_q, ↓sSetO_q, dAdd_i, dSub_i, dNeg_i, dLt_i, dLe_i, dGt_i, dGe_i, dEq_i, dNe_i, dTru_b, dTru_i, dTru_l, dTru_t, bAbs_i, bInt_i, bLen_l, bLen_t, bLen_s, dIx_l, dIx_t, bMaxD_2, bMinD_2, ↓dTup_q, ↓eCut_q, ↓oNone_q, ↓oSome_q, ↓oSk_i, oSk_i, List.getElem?_cons_zero, List.getElem?_cons_succ, List.set_cons_zero, List.set_cons_succ, if_true, if_false, Bool.false_eq_true, decide_eq_true_eq, decide_eq_false_iff_not, Bool.not_true, Bool.not_false, List.length_cons, List.length_nil, List.map_cons, List.map_nil, dMul_i, dFdiv_i, dMod_i, List.nil_append, Nat.zero_add, Nat.reduceAdd, Nat.reduceLeDiff, Nat.reduceLT, Nat.reduceEqDiff, le_refl_line, and_self, true_and, and_true, bnd_none, Bool.not_eq_true, eq_self, reduceCtorEq, decide_true, decide_false, B.frzs_v, Nat.add_assoc, draw_ok, ix0, ix1, Int.cast_ofNat_Int, Int.natCast_zero, Int.natCast_one, ↓bLc2_q, ↓bLcB_q, ↓mExt_q, extK_o, ↓bRg3_q, ↓eCut3_q, ↓bCut3_q, l1_law_errors, i1, i2]
    exact ih
theorem pa_out (hx : Rw ys) {x0 x1 x2 x3 : Option B} : ∀ (m k : Nat) (x6 x7 : Option B), k + m = ys.length →
    ∃ y6 y7, forL (gN 6) l2_law_errors ((seg k ys.length).map D.int) ⟨[x0, x1, x2, x3, some (.v (.lst (ys.map .int))), some (.v (.int (eM (ys.take k)))), x6, x7], [], true⟩ = some (.nx, ⟨[x0, x1, x2, x3, some (.v (.lst (ys.map .int))), some (.v (.int (eM ys))), y6, y7], [], true⟩)
  | 0, k, x6, x7, h => by
    refine ⟨x6, x7, ?_⟩
    rw [seg_nil (by omega), List.take_of_length_le (by omega)]; rfl
  | m + 1, k, x6, x7, h => by
    have hk : k < ys.length := by omega
    have hl := hx.hl
    obtain ⟨z7, e⟩ := pa_in hx hk (x0 := x0) (x1 := x1) (x2 := x2) (x3 := x3) k 0 (eM (ys.take k)) x7 (by omega)
    rw [f_zero, Int.sub_zero] at e
    have ek : eM (ys.take k) + fM ys ys[k] k = eM (ys.take (k + 1)) := by
      have l1 : (ys.take k).length = k := by rw [List.length_take]; omega
      have l2 : (ys.take (k + 1)).length = k + 1 := by rw [List.length_take]; omega
      unfold eM fM
      rw [take_sum hk, take_sq hk, l1, l2, Int.natCast_add, Int.natCast_one]
      grind
    rw [ek] at e
    obtain ⟨y6, y7, ih⟩ := pa_out hx (x0 := x0) (x1 := x1) (x2 := x2) (x3 := x3) m (k + 1) (some (.v (.int (k : Int)))) z7 (by omega)
    refine ⟨y6, y7, ?_⟩
    rw [seg_cons (by omega), List.map_cons, forL_cons]
    have e : forL (gN 7) l1_law_errors ((seg 0 k).map D.int) ⟨[x0, x1, x2, x3, some (.v (.lst (ys.map .int))), some (.v (.int (eM (ys.take k)))), some (.v (.int (k : Int))), x7], [], true⟩ = _ := e
    simp -implicitDefEqProofs (maxSteps := 1000000) (disch := omega) only [↓bnd_some, bnd_some, eV_q, eVk_v, eVk_o, eW_q, eWk_b, frz_v, frz_o, frzs_nil, frzs_cons, ↓eC_q, ↓e1_q, ↓e2_q, ↓e3_q, e3k_b, ↓eT_q, ↓eTb_q, ↓eTbk_b, eTbk_b, ↓wAnd_q, ↓wOr_q, ↓wNot_q, ↓eAnd_q, ↓eOr_q, ↓eNot_q, ↓eIf_q, ↓eP_q, ↓aNil_q, ↓aCons_q, ↓eL_q, ↓eFz_q, ↓bLst_q, ↓bL_q, ↓b2_q, ↓bCall_q, ↓bPure_q, ↓pV_q, ↓sSeq_q, ↓seqK_nx, seqK_nx, ↓seqK_rt, seqK_rt, ↓seqK_bk, seqK_bk, ↓seqK_ct, seqK_ct, ↓sIf_q, ↓sNil_q, ↓sBk_q, ↓sCt_q, ↓sRet_q, ↓sRetB_q, ↓sRetN_q, ↓sRetV_q, rvK_b, ↓sExp_q, ↓sSet_q, ↓sSetB_q, put_q, ↓sAug_q, augK_v, ↓finK_rt, finK_rt, ↓finK_nx, finK_nx, ↓gN_q, ↓gsNil_q, ↓gsCons_q, ↓gT_q, ↓sAsg_q, ↓iV_q, ↓iA_q, items_lst, items_tup, ↓sFor_q, forL_nil, ↓forK_nx, forK_nx, ↓forK_ct, forK_ct, ↓forK_bk, forK_bk, ↓forK_rt, forK_rt, ↓whK_nx, whK_nx, ↓whK_ct, whK_ct, ↓whK_bk, whK_bk, ↓whK_rt, whK_rt, ↓bLc_q, ↓tYes_q, wipeE_nil, wipeE_cons, ↓pN_q, own_q, ownK_o, mutS_q, mutK_o, ↓mApp_q, ↓mAppB_q, ↓mPop_q, popK_v, ↓sSetIx_q, setK_i, ↓eObj_q, ↓eIxS_q, ↓sSetO_q, dAdd_i, dSub_i, dNeg_i, dLt_i, dLe_i, dGt_i, dGe_i, dEq_i, dNe_i, dTru_b, dTru_i, dTru_l, dTru_t, bAbs_i, bInt_i, bLen_l, bLen_t, bLen_s, dIx_l, dIx_t, bMaxD_2, bMinD_2, ↓dTup_q, ↓eCut_q, ↓oNone_q, ↓oSome_q, ↓oSk_i, oSk_i, List.getElem?_cons_zero, List.getElem?_cons_succ, List.set_cons_zero, List.set_cons_succ, if_true, if_false, Bool.false_eq_true, decide_eq_true_eq, decide_eq_false_iff_not, Bool.not_true, Bool.not_false, List.length_cons, List.length_nil, List.map_cons, List.map_nil, dMul_i, dFdiv_i, dMod_i, List.nil_append, Nat.zero_add, Nat.reduceAdd, Nat.reduceLeDiff, Nat.reduceLT, Nat.reduceEqDiff, le_refl_line, and_self, true_and, and_true, bnd_none, Bool.not_eq_true, eq_self, reduceCtorEq, decide_true, decide_false, B.frzs_v, Nat.add_assoc, draw_ok, ix0, ix1, Int.cast_ofNat_Int, Int.natCast_zero, Int.natCast_one, ↓bLc2_q, ↓bLcB_q, ↓mExt_q, extK_o, ↓bRg3_q, ↓eCut3_q, ↓bCut3_q, l2_law_errors, rng1', e]
    exact ih
/-- a row, as the law takes it in -/
def accL (a : Int × Int) (ys : List Int) : Int × Int := if 1 < ys.length then acc a ys else a
theorem le_step (hx : Rw ys) {T B' : Int} (hB : 1 ≤ B' ∧ B' ≤ 8192) (hT : -(10 ^ 15) ≤ T ∧ T ≤ 10 ^ 15) {x0 x1 x5 x6 x7 : Option B} : ∃ (y5 y6 y7 : Option B), l3_law_errors ⟨[x0, x1, some (.v (.int T)), some (.v (.int B')), some (.v (.lst (ys.map .int))), x5, x6, x7], [], true⟩ = some (.nx, ⟨[x0, x1, some (.v (.int (accL (T, B') ys).1)), some (.v (.int (accL (T, B') ys).2)), some (.v (.lst (ys.map .int))), y5, y6, y7], [], true⟩) := by
  have hl := hx.hl
  have bd := hx.bd.2.2
  have z : ys.length ≤ sizeLine := zl _ (by omega)
  unfold accL
  by_cases c : 1 < ys.length
  · obtain ⟨y6, y7, e⟩ := pa_out hx (x0 := x0) (x1 := x1) (x2 := some (.v (.int T))) (x3 := some (.v (.int B'))) ys.length 0 x6 x7 (by omega)
    have e0 : eM (ys.take 0) = 0 := rfl
    rw [e0] at e
    have e : forL (gN 6) l2_law_errors ((seg 0 ys.length).map D.int) _ = _ := e
    refine ⟨some (.v (.int (eM ys))), y6, y7, ?_⟩
    rw [if_pos c]
    have c' : (1 : Int) < (ys.length : Int) := by omega
    unfold acc
    dsimp only
    simp -implicitDefEqProofs (maxSteps := 1000000) (disch := omega) only [↓bnd_some, bnd_some, eV_q, eVk_v, eVk_o, eW_q, eWk_b, frz_v, frz_o, frzs_nil, frzs_cons, ↓eC_q, ↓e1_q, ↓e2_q, ↓e3_q, e3k_b, ↓eT_q, ↓eTb_q, ↓eTbk_b, eTbk_b, ↓wAnd_q, ↓wOr_q, ↓wNot_q, ↓eAnd_q, ↓eOr_q, ↓eNot_q, ↓eIf_q, ↓eP_q, ↓aNil_q, ↓aCons_q, ↓eL_q, ↓eFz_q, ↓bLst_q, ↓bL_q, ↓b2_q, ↓bCall_q, ↓bPure_q, ↓pV_q, ↓sSeq_q, ↓seqK_nx, seqK_nx, ↓seqK_rt, seqK_rt, ↓seqK_bk, seqK_bk, ↓seqK_ct, seqK_ct, ↓sIf_q, ↓sNil_q, ↓sBk_q, ↓sCt_q, ↓sRet_q, ↓sRetB_q, ↓sRetN_q, ↓sRetV_q, rvK_b, ↓sExp_q, ↓sSet_q, ↓sSetB_q, put_q, ↓sAug_q, augK_v, ↓finK_rt, finK_rt, ↓finK_nx, finK_nx, ↓gN_q, ↓gsNil_q, ↓gsCons_q, ↓gT_q, ↓sAsg_q, ↓iV_q, ↓iA_q, items_lst, items_tup, ↓sFor_q, forL_nil, ↓forK_nx, forK_nx, ↓forK_ct, forK_ct, ↓forK_bk, forK_bk, ↓forK_rt, forK_rt, ↓whK_nx, whK_nx, ↓whK_ct, whK_ct, ↓whK_bk, whK_bk, ↓whK_rt, whK_rt, ↓bLc_q, ↓tYes_q, wipeE_nil, wipeE_cons, ↓pN_q, own_q, ownK_o, mutS_q, mutK_o, ↓mApp_q, ↓mAppB_q, ↓mPop_q, popK_v, ↓sSetIx_q, setK_i, ↓eObj_q, ↓eIxS_q, ↓sSetO_q, dAdd_i, dSub_i, dNeg_i, dLt_i, dLe_i, dGt_i, dGe_i, dEq_i, dNe_i, dTru_b, dTru_i, dTru_l, dTru_t, bAbs_i, bInt_i, bLen_l, bLen_t, bLen_s, dIx_l, dIx_t, bMaxD_2, bMinD_2, ↓dTup_q, ↓eCut_q, ↓oNone_q, ↓oSome_q, ↓oSk_i, oSk_i, List.getElem?_cons_zero, List.getElem?_cons_succ, List.set_cons_zero, List.set_cons_succ, if_true, if_false, Bool.false_eq_true, decide_eq_true_eq, decide_eq_false_iff_not, Bool.not_true, Bool.not_false, List.length_cons, List.length_nil, List.map_cons, List.map_nil, dMul_i, dFdiv_i, dMod_i, List.nil_append, Nat.zero_add, Nat.reduceAdd, Nat.reduceLeDiff, Nat.reduceLT, Nat.reduceEqDiff, le_refl_line, and_self, true_and, and_true, bnd_none, Bool.not_eq_true, eq_self, reduceCtorEq, decide_true, decide_false, B.frzs_v, Nat.add_assoc, draw_ok, ix0, ix1, Int.cast_ofNat_Int, Int.natCast_zero, Int.natCast_one, ↓bLc2_q, ↓bLcB_q, ↓mExt_q, extK_o, ↓bRg3_q, ↓eCut3_q, ↓bCut3_q, l3_law_errors, List.length_map, z, eq_true c', rng1', e, sPar_e, parK_e]
  · refine ⟨x5, x6, x7, ?_⟩
    rw [if_neg c]
    have c' : ¬ (1 : Int) < (ys.length : Int) := by omega
    simp -implicitDefEqProofs (maxSteps := 1000000) (disch := omega) only [↓bnd_some, bnd_some, eV_q, eVk_v, eVk_o, eW_q, eWk_b, frz_v, frz_o, frzs_nil, frzs_cons, ↓eC_q, ↓e1_q, ↓e2_q, ↓e3_q, e3k_b, ↓eT_q, ↓eTb_q, ↓eTbk_b, eTbk_b, ↓wAnd_q, ↓wOr_q, ↓wNot_q, ↓eAnd_q, ↓eOr_q, ↓eNot_q, ↓eIf_q, ↓eP_q, ↓aNil_q, ↓aCons_q, ↓eL_q, ↓eFz_q, ↓bLst_q, ↓bL_q, ↓b2_q, ↓bCall_q, ↓bPure_q, ↓pV_q, ↓sSeq_q, ↓seqK_nx, seqK_nx, ↓seqK_rt, seqK_rt, ↓seqK_bk, seqK_bk, ↓seqK_ct, seqK_ct, ↓sIf_q, ↓sNil_q, ↓sBk_q, ↓sCt_q, ↓sRet_q, ↓sRetB_q, ↓sRetN_q, ↓sRetV_q, rvK_b, ↓sExp_q, ↓sSet_q, ↓sSetB_q, put_q, ↓sAug_q, augK_v, ↓finK_rt, finK_rt, ↓finK_nx, finK_nx, ↓gN_q, ↓gsNil_q, ↓gsCons_q, ↓gT_q, ↓sAsg_q, ↓iV_q, ↓iA_q, items_lst, items_tup, ↓sFor_q, forL_nil, ↓forK_nx, forK_nx, ↓forK_ct, forK_ct, ↓forK_bk, forK_bk, ↓forK_rt, forK_rt, ↓whK_nx, whK_nx, ↓whK_ct, whK_ct, ↓whK_bk, whK_bk, ↓whK_rt, whK_rt, ↓bLc_q, ↓tYes_q, wipeE_nil, wipeE_cons, ↓pN_q, own_q, ownK_o, mutS_q, mutK_o, ↓mApp_q, ↓mAppB_q, ↓mPop_q, popK_v, ↓sSetIx_q, setK_i, ↓eObj_q, ↓eIxS_q, ↓sSetO_q, dAdd_i, dSub_i, dNeg_i, dLt_i, dLe_i, dGt_i, dGe_i, dEq_i, dNe_i, dTru_b, dTru_i, dTru_l, dTru_t, bAbs_i, bInt_i, bLen_l, bLen_t, bLen_s, dIx_l, dIx_t, bMaxD_2, bMinD_2, ↓dTup_q, ↓eCut_q, ↓oNone_q, ↓oSome_q, ↓oSk_i, oSk_i, List.getElem?_cons_zero, List.getElem?_cons_succ, List.set_cons_zero, List.set_cons_succ, if_true, if_false, Bool.false_eq_true, decide_eq_true_eq, decide_eq_false_iff_not, Bool.not_true, Bool.not_false, List.length_cons, List.length_nil, List.map_cons, List.map_nil, dMul_i, dFdiv_i, dMod_i, List.nil_append, Nat.zero_add, Nat.reduceAdd, Nat.reduceLeDiff, Nat.reduceLT, Nat.reduceEqDiff, le_refl_line, and_self, true_and, and_true, bnd_none, Bool.not_eq_true, eq_self, reduceCtorEq, decide_true, decide_false, B.frzs_v, Nat.add_assoc, draw_ok, ix0, ix1, Int.cast_ofNat_Int, Int.natCast_zero, Int.natCast_one, ↓bLc2_q, ↓bLcB_q, ↓mExt_q, extK_o, ↓bRg3_q, ↓eCut3_q, ↓bCut3_q, l3_law_errors, List.length_map, z, c']
theorem acc_same (h : Lt xs) (hP : 1 ≤ P) (r : Nat) : accL (errJ xs P (min r xs.length)) (pk xs (r : Nat) P) = errJ xs P (min (r + 1) xs.length) := by
  unfold accL
  rcases Nat.lt_or_ge r xs.length with q | q
  · rw [show min r xs.length = r by omega, show min (r + 1) xs.length = r + 1 by omega, err_next]
    split
    · rfl
    · rename_i c
      have l0 := pk_pos (xs := xs) (i := (r : Nat)) (p := P) (by omega) (by omega)
      have l1 : (pk xs (r : Nat) P).length = 1 := by omega
      unfold acc
      rw [eM_one l1, l1]
      simp
  · have : pk xs (r : Nat) P = [] := by unfold pk; rw [segC_nil (by omega)]; rfl
    rw [this, if_neg (by simp), show min r xs.length = xs.length by omega, show min (r + 1) xs.length = xs.length by omega]
theorem le_loop (h : Lt xs) (hP : 1 ≤ P ∧ P ≤ 100) {x0 x1 : Option B} : ∀ (k r : Nat) (x4 x5 x6 x7 : Option B), r + k ≤ P → ∃ (y4 y5 y6 y7 : Option B), forL (gN 4) l3_law_errors (vN ((List.range' r k).map fun r => pk xs (r : Nat) P)) ⟨[x0, x1, some (.v (.int (errJ xs P (min r xs.length)).1)), some (.v (.int (errJ xs P (min r xs.length)).2)), x4, x5, x6, x7], [], true⟩ = some (.nx, ⟨[x0, x1, some (.v (.int (errJ xs P (min (r + k) xs.length)).1)), some (.v (.int (errJ xs P (min (r + k) xs.length)).2)), y4, y5, y6, y7], [], true⟩)
  | 0, r, x4, x5, x6, x7, _ => ⟨x4, x5, x6, x7, rfl⟩
  | k + 1, r, x4, x5, x6, x7, hk => by
    have hl := h.hl
    obtain ⟨hB, hT⟩ := err_le h hP (j := min r xs.length) (by omega)
    obtain ⟨z5, z6, z7, e⟩ := le_step (h.row (i := (r : Nat)) (p := P) (by omega) (by omega)) hB hT (x0 := x0) (x1 := x1) (x5 := x5) (x6 := x6) (x7 := x7)
    have pa : ((errJ xs P (min r xs.length)).1, (errJ xs P (min r xs.length)).2) = errJ xs P (min r xs.length) := rfl
    rw [pa, acc_same h hP.1] at e
    obtain ⟨y4, y5, y6, y7, ih⟩ := le_loop h hP (x0 := x0) (x1 := x1) k (r + 1) (some (.v (.lst ((pk xs (r : Nat) P).map .int)))) z5 z6 z7 (by omega)
    rw [show r + 1 + k = r + (k + 1) by omega] at ih
    refine ⟨y4, y5, y6, y7, ?_⟩
    unfold vN at ih ⊢
    rw [List.range'_succ, List.map_cons, List.map_cons, forL_cons]
    simp -implicitDefEqProofs (maxSteps := 1000000) (disch := omega) only [↓bnd_some, bnd_some, eV_q, eVk_v, eVk_o, eW_q, eWk_b, frz_v, frz_o, frzs_nil, frzs_cons, ↓eC_q, ↓e1_q, ↓e2_q, ↓e3_q, e3k_b, ↓eT_q, ↓eTb_q, ↓eTbk_b, eTbk_b, ↓wAnd_q, ↓wOr_q, ↓wNot_q, ↓eAnd_q, ↓eOr_q, ↓eNot_q, ↓eIf_q, ↓eP_q, ↓aNil_q, ↓aCons_q, ↓eL_q, ↓eFz_q, ↓bLst_q, ↓bL_q, ↓b2_q, ↓bCall_q, ↓bPure_q, ↓pV_q, ↓sSeq_q, ↓seqK_nx, seqK_nx, ↓seqK_rt, seqK_rt, ↓seqK_bk, seqK_bk, ↓seqK_ct, seqK_ct, ↓sIf_q, ↓sNil_q, ↓sBk_q, ↓sCt_q, ↓sRet_q, ↓sRetB_q, ↓sRetN_q, ↓sRetV_q, rvK_b, ↓sExp_q, ↓sSet_q, ↓sSetB_q, put_q, ↓sAug_q, augK_v, ↓finK_rt, finK_rt, ↓finK_nx, finK_nx, ↓gN_q, ↓gsNil_q, ↓gsCons_q, ↓gT_q, ↓sAsg_q, ↓iV_q, ↓iA_q, items_lst, items_tup, ↓sFor_q, forL_nil, ↓forK_nx, forK_nx, ↓forK_ct, forK_ct, ↓forK_bk, forK_bk, ↓forK_rt, forK_rt, ↓whK_nx, whK_nx, ↓whK_ct, whK_ct, ↓whK_bk, whK_bk, ↓whK_rt, whK_rt, ↓bLc_q, ↓tYes_q, wipeE_nil, wipeE_cons, ↓pN_q, own_q, ownK_o, mutS_q, mutK_o, ↓mApp_q, ↓mAppB_q, ↓mPop_q, popK_v, ↓sSetIx_q, setK_i, ↓eObj_q, ↓eIxS_q, ↓sSetO_q, dAdd_i, dSub_i, dNeg_i, dLt_i, dLe_i, dGt_i, dGe_i, dEq_i, dNe_i, dTru_b, dTru_i, dTru_l, dTru_t, bAbs_i, bInt_i, bLen_l, bLen_t, bLen_s, dIx_l, dIx_t, bMaxD_2, bMinD_2, ↓dTup_q, ↓eCut_q, ↓oNone_q, ↓oSome_q, ↓oSk_i, oSk_i, List.getElem?_cons_zero, List.getElem?_cons_succ, List.set_cons_zero, List.set_cons_succ, if_true, if_false, Bool.false_eq_true, decide_eq_true_eq, decide_eq_false_iff_not, Bool.not_true, Bool.not_false, List.length_cons, List.length_nil, List.map_cons, List.map_nil, dMul_i, dFdiv_i, dMod_i, List.nil_append, Nat.zero_add, Nat.reduceAdd, Nat.reduceLeDiff, Nat.reduceLT, Nat.reduceEqDiff, le_refl_line, and_self, true_and, and_true, bnd_none, Bool.not_eq_true, eq_self, reduceCtorEq, decide_true, decide_false, B.frzs_v, Nat.add_assoc, draw_ok, ix0, ix1, Int.cast_ofNat_Int, Int.natCast_zero, Int.natCast_one, ↓bLc2_q, ↓bLcB_q, ↓mExt_q, extK_o, ↓bRg3_q, ↓eCut3_q, ↓bCut3_q, e]
    exact ih
theorem law_errors_ok (h : Lt xs) (hP : 1 ≤ P ∧ P ≤ 100) : pF F_law_errors [.lst (xs.map .int), .int P] = some (.v (.tup [.int (errM xs P).1, .int (errM xs P).2])) := by
  have hl := h.hl
  have e1 := law_folded_ok (xs := xs) (P := P) (by omega) hP
  obtain ⟨y4, y5, y6, y7, e⟩ := le_loop h hP (x0 := some (.v (.lst (xs.map .int)))) (x1 := some (.v (.int P))) P 0 none none none none (by omega)
  have rr : ((List.range' 0 P).map fun r => pk xs (r : Nat) P) = rwsM xs P := by unfold rwsM; rw [List.range_eq_range']
  rw [rr, show min 0 xs.length = 0 by omega, show min (0 + P) xs.length = min P xs.length by omega] at e
  have e : forL (gN 4) l3_law_errors (vN (rwsM xs P)) ⟨[some (.v (.lst (xs.map .int))), some (.v (.int P)), some (.v (.int 0)), some (.v (.int 1)), none, none, none, none], [], true⟩ = some (.nx, ⟨[some (.v (.lst (xs.map .int))), some (.v (.int P)), some (.v (.int (errM xs P).1)), some (.v (.int (errM xs P).2)), y4, y5, y6, y7], [], true⟩) := e
  obtain ⟨V, hV⟩ : ∃ V, V = vN (rwsM xs P) := ⟨_, rfl⟩
  rw [← hV] at e1 e
  rw [pF_q, q_law_errors, b_law_errors]
  simp -implicitDefEqProofs (maxSteps := 1000000) (disch := omega) only [↓bnd_some, bnd_some, eV_q, eVk_v, eVk_o, eW_q, eWk_b, frz_v, frz_o, frzs_nil, frzs_cons, ↓eC_q, ↓e1_q, ↓e2_q, ↓e3_q, e3k_b, ↓eT_q, ↓eTb_q, ↓eTbk_b, eTbk_b, ↓wAnd_q, ↓wOr_q, ↓wNot_q, ↓eAnd_q, ↓eOr_q, ↓eNot_q, ↓eIf_q, ↓eP_q, ↓aNil_q, ↓aCons_q, ↓eL_q, ↓eFz_q, ↓bLst_q, ↓bL_q, ↓b2_q, ↓bCall_q, ↓bPure_q, ↓pV_q, ↓sSeq_q, ↓seqK_nx, seqK_nx, ↓seqK_rt, seqK_rt, ↓seqK_bk, seqK_bk, ↓seqK_ct, seqK_ct, ↓sIf_q, ↓sNil_q, ↓sBk_q, ↓sCt_q, ↓sRet_q, ↓sRetB_q, ↓sRetN_q, ↓sRetV_q, rvK_b, ↓sExp_q, ↓sSet_q, ↓sSetB_q, put_q, ↓sAug_q, augK_v, ↓finK_rt, finK_rt, ↓finK_nx, finK_nx, ↓gN_q, ↓gsNil_q, ↓gsCons_q, ↓gT_q, ↓sAsg_q, ↓iV_q, ↓iA_q, items_lst, items_tup, ↓sFor_q, forL_nil, ↓forK_nx, forK_nx, ↓forK_ct, forK_ct, ↓forK_bk, forK_bk, ↓forK_rt, forK_rt, ↓whK_nx, whK_nx, ↓whK_ct, whK_ct, ↓whK_bk, whK_bk, ↓whK_rt, whK_rt, ↓bLc_q, ↓tYes_q, wipeE_nil, wipeE_cons, ↓pN_q, own_q, ownK_o, mutS_q, mutK_o, ↓mApp_q, ↓mAppB_q, ↓mPop_q, popK_v, ↓sSetIx_q, setK_i, ↓eObj_q, ↓eIxS_q, ↓sSetO_q, dAdd_i, dSub_i, dNeg_i, dLt_i, dLe_i, dGt_i, dGe_i, dEq_i, dNe_i, dTru_b, dTru_i, dTru_l, dTru_t, bAbs_i, bInt_i, bLen_l, bLen_t, bLen_s, dIx_l, dIx_t, bMaxD_2, bMinD_2, ↓dTup_q, ↓eCut_q, ↓oNone_q, ↓oSome_q, ↓oSk_i, oSk_i, List.getElem?_cons_zero, List.getElem?_cons_succ, List.set_cons_zero, List.set_cons_succ, if_true, if_false, Bool.false_eq_true, decide_eq_true_eq, decide_eq_false_iff_not, Bool.not_true, Bool.not_false, List.length_cons, List.length_nil, List.map_cons, List.map_nil, dMul_i, dFdiv_i, dMod_i, List.nil_append, Nat.zero_add, Nat.reduceAdd, Nat.reduceLeDiff, Nat.reduceLT, Nat.reduceEqDiff, le_refl_line, and_self, true_and, and_true, bnd_none, Bool.not_eq_true, eq_self, reduceCtorEq, decide_true, decide_false, B.frzs_v, Nat.add_assoc, draw_ok, ix0, ix1, Int.cast_ofNat_Int, Int.natCast_zero, Int.natCast_one, ↓bLc2_q, ↓bLcB_q, ↓mExt_q, extK_o, ↓bRg3_q, ↓eCut3_q, ↓bCut3_q, dTup_q, two_line, e1, e]
/-! the best period -/
theorem low_lt {t t' : Int} (hb : 0 < b) (hd : 0 < d) : (lowT t b * lowB t' d < lowT t' d * lowB t b) ↔ t * d < t' * b := by
  obtain ⟨a1, a2, _⟩ := low_spec (t := t) (show b ≠ 0 by omega)
  obtain ⟨c1, c2, _⟩ := low_spec (t := t') (show d ≠ 0 by omega)
  obtain ⟨p, hp⟩ : ∃ p, p = lowT t b := ⟨_, rfl⟩
  obtain ⟨q, hq⟩ : ∃ q, q = lowB t b := ⟨_, rfl⟩
  obtain ⟨r, hr⟩ : ∃ r, r = lowT t' d := ⟨_, rfl⟩
  obtain ⟨s, hs⟩ : ∃ s, s = lowB t' d := ⟨_, rfl⟩
  rw [← hp, ← hq] at a2
  rw [← hr, ← hs] at c2
  rw [← hp, ← hq, ← hr, ← hs]
  rw [← hq] at a1
  rw [← hs] at c1
  have e1 : (p * s) * (b * d) = (t * d) * (q * s) := by grind
  have e2 : (r * q) * (b * d) = (t' * b) * (q * s) := by grind
  have p1 : 0 < b * d := Int.mul_pos hb hd
  have p2 : 0 < q * s := Int.mul_pos a1 c1
  constructor
  · intro h
    have := Int.mul_lt_mul_of_pos_right h p1
    rw [e1, e2] at this
    exact Int.lt_of_mul_lt_mul_right this (by omega)
  · intro h
    have := Int.mul_lt_mul_of_pos_right h p2
    rw [← e1, ← e2] at this
    exact Int.lt_of_mul_lt_mul_right this (by omega)
def tS (xs : List Int) (P : Nat) : Int := (errM xs P).1
def bS (xs : List Int) (P : Nat) : Int := (errM xs P).2 * ((xs.length : Int) - P)
def stB (xs : List Int) (o : Option Nat) (P : Nat) : Option Nat := match o with
  | none => some P
  | some b => if tS xs P * bS xs b < tS xs b * bS xs P then some P else some b
def okP (xs : List Int) (P : Nat) : Prop := 1 ≤ P ∧ P < xs.length
theorem bS_pos (h : Lt xs) (hP : okP xs P) : (0 < bS xs P ∧ bS xs P ≤ 8192 * 14) ∧ -(10 ^ 15) ≤ tS xs P ∧ tS xs P ≤ 10 ^ 15 := by
  have hl := h.hl
  obtain ⟨p1, p2⟩ := hP
  obtain ⟨hB, hT⟩ := err_le h (P := P) (by omega) (j := min P xs.length) (by omega)
  have e : errJ xs P (min P xs.length) = errM xs P := rfl
  rw [e] at hB hT
  unfold bS tS
  have q1 : 0 < (errM xs P).2 * ((xs.length : Int) - P) := Int.mul_pos (by omega) (by omega)
  have q2 := mul_bd (a := (errM xs P).2) (b := (xs.length : Int) - P) (A := 8192) (B := 14) (by omega) (by omega)
  exact ⟨⟨q1, by omega⟩, hT⟩
theorem less_ok (h : Lt xs) {j : Nat} (hk : okP xs P) (hj : okP xs j) : pF F_is_less [lowD (tS xs P) (bS xs P), lowD (tS xs j) (bS xs j)] = some (.v (.bl (decide (tS xs P * bS xs j < tS xs j * bS xs P)))) := by
  obtain ⟨⟨p1, q1⟩, t1⟩ := bS_pos h hk
  obtain ⟨⟨p2, q2⟩, t2⟩ := bS_pos h hj
  obtain ⟨a1, _, _, a4, a5⟩ := low_spec (t := tS xs P) (b := bS xs P) (by omega)
  obtain ⟨c1, _, _, c4, c5⟩ := low_spec (t := tS xs j) (b := bS xs j) (by omega)
  rw [is_less_ok (by unfold Bd; omega) (by unfold Bd; omega) (by unfold Bd; omega) (by unfold Bd; omega)]
  rw [decide_eq_decide.mpr (low_lt p1 p2)]
theorem share_ok (h : Lt xs) (hk : okP xs P) : ∃ e0 e1 : Int, (Bd e0 ∧ Bd e1) ∧ lowD (errM xs P).1 (errM xs P).2 = .tup [.int e0, .int e1] ∧ pF F_fraction [.int e0, .int (e1 * ((xs.length : Int) - P))] = some (.v (lowD (tS xs P) (bS xs P))) := by
  have hl := h.hl
  obtain ⟨p1, p2⟩ := hk
  obtain ⟨hB, hT⟩ := err_le h (P := P) (by omega) (j := min P xs.length) (by omega)
  have e : errJ xs P (min P xs.length) = errM xs P := rfl
  rw [e] at hB hT
  obtain ⟨a1, a2, _, a4, a5⟩ := low_spec (t := (errM xs P).1) (b := (errM xs P).2) (by omega)
  refine ⟨_, _, ⟨by unfold Bd; omega, by unfold Bd; omega⟩, rfl, ?_⟩
  unfold tS bS
  obtain ⟨f0, hf0⟩ : ∃ f0, f0 = lowT (errM xs P).1 (errM xs P).2 := ⟨_, rfl⟩
  obtain ⟨f1, hf1⟩ : ∃ f1, f1 = lowB (errM xs P).1 (errM xs P).2 := ⟨_, rfl⟩
  rw [← hf1] at a1 a4
  rw [← hf0, ← hf1] at a2
  rw [← hf0, ← hf1]
  obtain ⟨T, hT'⟩ : ∃ T, T = (errM xs P).1 := ⟨_, rfl⟩
  obtain ⟨B, hB'⟩ : ∃ B, B = (errM xs P).2 := ⟨_, rfl⟩
  obtain ⟨m, hm⟩ : ∃ m, m = (xs.length : Int) - P := ⟨_, rfl⟩
  rw [← hT', ← hB'] at a2
  rw [← hB'] at hB a4
  rw [← hT', ← hB', ← hm]
  have q1 : 0 < f1 * m := Int.mul_pos a1 (by omega)
  have q2 := mul_bd (a := f1) (b := m) (A := 8192) (B := 14) (by omega) (by omega)
  have q3 : 0 < B * m := Int.mul_pos (by omega) (by omega)
  rw [fraction_ok (by omega) (by unfold Bd; omega)]
  have kk : f0 * (B * m) = T * (f1 * m) := by grind
  obtain ⟨g1, g2⟩ := low_congr (t := f0) (b := f1 * m) (t' := T) (b' := B * m) (by omega) (by omega) kk
  unfold lowD
  rw [g1, g2]
def oS (xs : List Int) : Option Nat → D
  | none => .non
  | some b => .tup [lowD (tS xs b) (bS xs b), .int (b : Int)]
theorem bp_loop (h : Lt xs) {hi : Int} {x1 x2 : Option B} : ∀ (m r : Nat) (o : Option Nat) (x4 x5 x6 : Option B), 1 ≤ r → r + m ≤ xs.length → hi = (r : Int) + m → (∀ b, o = some b → okP xs b) → ∃ (o' : Option Nat) (y4 y5 y6 : Option B), o' = (List.range' r m).foldl (stB xs) o ∧ forL (gN 4) l1_best_period ((seg r hi).map D.int) ⟨[some (.v (.lst (xs.map .int))), x1, x2, some (.v (oS xs o)), x4, x5, x6], [], true⟩ = some (.nx, ⟨[some (.v (.lst (xs.map .int))), x1, x2, some (.v (oS xs o')), y4, y5, y6], [], true⟩)
  | 0, r, o, x4, x5, x6, _, _, hh, _ => ⟨o, x4, x5, x6, rfl, by rw [seg_nil (by omega)]; rfl⟩
  | m + 1, r, o, x4, x5, x6, h1, h2, hh, ho => by
    have hl := h.hl
    have hr : okP xs r := ⟨h1, by omega⟩
    have e1 := least_ok h (P := r) (by omega)
    obtain ⟨f0, f1, ⟨b0, b1⟩, ee, e2⟩ := share_ok h hr
    rw [ee] at e1
    obtain ⟨o', y4, y5, y6, g1, ih⟩ := bp_loop h (hi := hi) (x1 := x1) (x2 := x2) m (r + 1) (stB xs o r) (some (.v (.int (r : Int)))) (some (.v (.tup [.int f0, .int f1]))) (some (.v (lowD (tS xs r) (bS xs r)))) (by omega) (by omega) (by omega) (fun b hb => by
      rcases o with _ | b0
      · cases hb; exact hr
      · unfold stB at hb
        dsimp only at hb
        split at hb
        · cases hb; exact hr
        · cases hb; exact ho _ rfl)
    refine ⟨o', y4, y5, y6, by rw [g1, List.range'_succ, List.foldl_cons], ?_⟩
    have z0 : xs.length ≤ sizeLine := zl _ (by omega)
    rw [seg_cons (by omega), List.map_cons, forL_cons]
    rcases o with _ | b
    · have o1 : oS xs none = .non := rfl
      have o2 : oS xs (stB xs none r) = .tup [lowD (tS xs r) (bS xs r), .int (r : Int)] := rfl
      rw [o2] at ih
      simp -implicitDefEqProofs (maxSteps := 1000000) (disch := omega) only [↓bnd_some, bnd_some, eV_q, eVk_v, eVk_o, eW_q, eWk_b, frz_v, frz_o, frzs_nil, frzs_cons, ↓eC_q, ↓e1_q, ↓e2_q, ↓e3_q, e3k_b, ↓eT_q, ↓eTb_q, ↓eTbk_b, eTbk_b, ↓wAnd_q, ↓wOr_q, ↓wNot_q, ↓eAnd_q, ↓eOr_q, ↓eNot_q, ↓eIf_q, ↓eP_q, ↓aNil_q, ↓aCons_q, ↓eL_q, ↓eFz_q, ↓bLst_q, ↓bL_q, ↓b2_q, ↓bCall_q, ↓bPure_q, ↓pV_q, ↓sSeq_q, ↓seqK_nx, seqK_nx, ↓seqK_rt, seqK_rt, ↓seqK_bk, seqK_bk, ↓seqK_ct, seqK_ct, ↓sIf_q, ↓sNil_q, ↓sBk_q, ↓sCt_q, ↓sRet_q, ↓sRetB_q, ↓sRetN_q, ↓sRetV_q, rvK_b, ↓sExp_q, ↓sSet_q, ↓sSetB_q, put_q, ↓sAug_q, augK_v, ↓finK_rt, finK_rt, ↓finK_nx, finK_nx, ↓gN_q, ↓gsNil_q, ↓gsCons_q, ↓gT_q, ↓sAsg_q, ↓iV_q, ↓iA_q, items_lst, items_tup, ↓sFor_q, forL_nil, ↓forK_nx, forK_nx, ↓forK_ct, forK_ct, ↓forK_bk, forK_bk, ↓forK_rt, forK_rt, ↓whK_nx, whK_nx, ↓whK_ct, whK_ct, ↓whK_bk, whK_bk, ↓whK_rt, whK_rt, ↓bLc_q, ↓tYes_q, wipeE_nil, wipeE_cons, ↓pN_q, own_q, ownK_o, mutS_q, mutK_o, ↓mApp_q, ↓mAppB_q, ↓mPop_q, popK_v, ↓sSetIx_q, setK_i, ↓eObj_q, ↓eIxS_q, ↓sSetO_q, dAdd_i, dSub_i, dNeg_i, dLt_i, dLe_i, dGt_i, dGe_i, dEq_i, dNe_i, dTru_b, dTru_i, dTru_l, dTru_t, bAbs_i, bInt_i, bLen_l, bLen_t, bLen_s, dIx_l, dIx_t, bMaxD_2, bMinD_2, ↓dTup_q, ↓eCut_q, ↓oNone_q, ↓oSome_q, ↓oSk_i, oSk_i, List.getElem?_cons_zero, List.getElem?_cons_succ, List.set_cons_zero, List.set_cons_succ, if_true, if_false, Bool.false_eq_true, decide_eq_true_eq, decide_eq_false_iff_not, Bool.not_true, Bool.not_false, List.length_cons, List.length_nil, List.map_cons, List.map_nil, dMul_i, dFdiv_i, dMod_i, List.nil_append, Nat.zero_add, Nat.reduceAdd, Nat.reduceLeDiff, Nat.reduceLT, Nat.reduceEqDiff, le_refl_line, and_self, true_and, and_true, bnd_none, Bool.not_eq_true, eq_self, reduceCtorEq, decide_true, decide_false, B.frzs_v, Nat.add_assoc, draw_ok, ix0, ix1, Int.cast_ofNat_Int, Int.natCast_zero, Int.natCast_one, ↓bLc2_q, ↓bLcB_q, ↓mExt_q, extK_o, ↓bRg3_q, ↓eCut3_q, ↓bCut3_q, l1_best_period, e1, List.length_map, z0, e2, o1, is_n, dTup_q, two_line]
      exact ih
    · have hb' := ho b rfl
      have o1 : oS xs (some b) = .tup [lowD (tS xs b) (bS xs b), .int (b : Int)] := rfl
      have i1 : dIs (.tup [lowD (tS xs b) (bS xs b), .int (b : Int)]) .non = some (.bl false) := rfl
      have lt := less_ok h hr hb'
      by_cases c : tS xs r * bS xs b < tS xs b * bS xs r
      · have st : stB xs (some b) r = some r := if_pos c
        rw [st] at ih
        have o2 : oS xs (some r) = .tup [lowD (tS xs r) (bS xs r), .int (r : Int)] := rfl
        rw [o2] at ih
        rw [decide_eq_true c] at lt
        simp -implicitDefEqProofs (maxSteps := 1000000) (disch := omega) only [↓bnd_some, bnd_some, eV_q, eVk_v, eVk_o, eW_q, eWk_b, frz_v, frz_o, frzs_nil, frzs_cons, ↓eC_q, ↓e1_q, ↓e2_q, ↓e3_q, e3k_b, ↓eT_q, ↓eTb_q, ↓eTbk_b, eTbk_b, ↓wAnd_q, ↓wOr_q, ↓wNot_q, ↓eAnd_q, ↓eOr_q, ↓eNot_q, ↓eIf_q, ↓eP_q, ↓aNil_q, ↓aCons_q, ↓eL_q, ↓eFz_q, ↓bLst_q, ↓bL_q, ↓b2_q, ↓bCall_q, ↓bPure_q, ↓pV_q, ↓sSeq_q, ↓seqK_nx, seqK_nx, ↓seqK_rt, seqK_rt, ↓seqK_bk, seqK_bk, ↓seqK_ct, seqK_ct, ↓sIf_q, ↓sNil_q, ↓sBk_q, ↓sCt_q, ↓sRet_q, ↓sRetB_q, ↓sRetN_q, ↓sRetV_q, rvK_b, ↓sExp_q, ↓sSet_q, ↓sSetB_q, put_q, ↓sAug_q, augK_v, ↓finK_rt, finK_rt, ↓finK_nx, finK_nx, ↓gN_q, ↓gsNil_q, ↓gsCons_q, ↓gT_q, ↓sAsg_q, ↓iV_q, ↓iA_q, items_lst, items_tup, ↓sFor_q, forL_nil, ↓forK_nx, forK_nx, ↓forK_ct, forK_ct, ↓forK_bk, forK_bk, ↓forK_rt, forK_rt, ↓whK_nx, whK_nx, ↓whK_ct, whK_ct, ↓whK_bk, whK_bk, ↓whK_rt, whK_rt, ↓bLc_q, ↓tYes_q, wipeE_nil, wipeE_cons, ↓pN_q, own_q, ownK_o, mutS_q, mutK_o, ↓mApp_q, ↓mAppB_q, ↓mPop_q, popK_v, ↓sSetIx_q, setK_i, ↓eObj_q, ↓eIxS_q, ↓sSetO_q, dAdd_i, dSub_i, dNeg_i, dLt_i, dLe_i, dGt_i, dGe_i, dEq_i, dNe_i, dTru_b, dTru_i, dTru_l, dTru_t, bAbs_i, bInt_i, bLen_l, bLen_t, bLen_s, dIx_l, dIx_t, bMaxD_2, bMinD_2, ↓dTup_q, ↓eCut_q, ↓oNone_q, ↓oSome_q, ↓oSk_i, oSk_i, List.getElem?_cons_zero, List.getElem?_cons_succ, List.set_cons_zero, List.set_cons_succ, if_true, if_false, Bool.false_eq_true, decide_eq_true_eq, decide_eq_false_iff_not, Bool.not_true, Bool.not_false, List.length_cons, List.length_nil, List.map_cons, List.map_nil, dMul_i, dFdiv_i, dMod_i, List.nil_append, Nat.zero_add, Nat.reduceAdd, Nat.reduceLeDiff, Nat.reduceLT, Nat.reduceEqDiff, le_refl_line, and_self, true_and, and_true, bnd_none, Bool.not_eq_true, eq_self, reduceCtorEq, decide_true, decide_false, B.frzs_v, Nat.add_assoc, draw_ok, ix0, ix1, Int.cast_ofNat_Int, Int.natCast_zero, Int.natCast_one, ↓bLc2_q, ↓bLcB_q, ↓mExt_q, extK_o, ↓bRg3_q, ↓eCut3_q, ↓bCut3_q, l1_best_period, e1, List.length_map, z0, e2, o1, i1, lt, dTup_q, two_line]
        exact ih
      · have st : stB xs (some b) r = some b := if_neg c
        rw [st, o1] at ih
        rw [decide_eq_false c] at lt
        simp -implicitDefEqProofs (maxSteps := 1000000) (disch := omega) only [↓bnd_some, bnd_some, eV_q, eVk_v, eVk_o, eW_q, eWk_b, frz_v, frz_o, frzs_nil, frzs_cons, ↓eC_q, ↓e1_q, ↓e2_q, ↓e3_q, e3k_b, ↓eT_q, ↓eTb_q, ↓eTbk_b, eTbk_b, ↓wAnd_q, ↓wOr_q, ↓wNot_q, ↓eAnd_q, ↓eOr_q, ↓eNot_q, ↓eIf_q, ↓eP_q, ↓aNil_q, ↓aCons_q, ↓eL_q, ↓eFz_q, ↓bLst_q, ↓bL_q, ↓b2_q, ↓bCall_q, ↓bPure_q, ↓pV_q, ↓sSeq_q, ↓seqK_nx, seqK_nx, ↓seqK_rt, seqK_rt, ↓seqK_bk, seqK_bk, ↓seqK_ct, seqK_ct, ↓sIf_q, ↓sNil_q, ↓sBk_q, ↓sCt_q, ↓sRet_q, ↓sRetB_q, ↓sRetN_q, ↓sRetV_q, rvK_b, ↓sExp_q, ↓sSet_q, ↓sSetB_q, put_q, ↓sAug_q, augK_v, ↓finK_rt, finK_rt, ↓finK_nx, finK_nx, ↓gN_q, ↓gsNil_q, ↓gsCons_q, ↓gT_q, ↓sAsg_q, ↓iV_q, ↓iA_q, items_lst, items_tup, ↓sFor_q, forL_nil, ↓forK_nx, forK_nx, ↓forK_ct, forK_ct, ↓forK_bk, forK_bk, ↓forK_rt, forK_rt, ↓whK_nx, whK_nx, ↓whK_ct, whK_ct, ↓whK_bk, whK_bk, ↓whK_rt, whK_rt, ↓bLc_q, ↓tYes_q, wipeE_nil, wipeE_cons, ↓pN_q, own_q, ownK_o, mutS_q, mutK_o, ↓mApp_q, ↓mAppB_q, ↓mPop_q, popK_v, ↓sSetIx_q, setK_i, ↓eObj_q, ↓eIxS_q, ↓sSetO_q, dAdd_i, dSub_i, dNeg_i, dLt_i, dLe_i, dGt_i, dGe_i, dEq_i, dNe_i, dTru_b, dTru_i, dTru_l, dTru_t, bAbs_i, bInt_i, bLen_l, bLen_t, bLen_s, dIx_l, dIx_t, bMaxD_2, bMinD_2, ↓dTup_q, ↓eCut_q, ↓oNone_q, ↓oSome_q, ↓oSk_i, oSk_i, List.getElem?_cons_zero, List.getElem?_cons_succ, List.set_cons_zero, List.set_cons_succ, if_true, if_false, Bool.false_eq_true, decide_eq_true_eq, decide_eq_false_iff_not, Bool.not_true, Bool.not_false, List.length_cons, List.length_nil, List.map_cons, List.map_nil, dMul_i, dFdiv_i, dMod_i, List.nil_append, Nat.zero_add, Nat.reduceAdd, Nat.reduceLeDiff, Nat.reduceLT, Nat.reduceEqDiff, le_refl_line, and_self, true_and, and_true, bnd_none, Bool.not_eq_true, eq_self, reduceCtorEq, decide_true, decide_false, B.frzs_v, Nat.add_assoc, draw_ok, ix0, ix1, Int.cast_ofNat_Int, Int.natCast_zero, Int.natCast_one, ↓bLc2_q, ↓bLcB_q, ↓mExt_q, extK_o, ↓bRg3_q, ↓eCut3_q, ↓bCut3_q, l1_best_period, e1, List.length_map, z0, e2, o1, i1, lt]
        exact ih
theorem fold_some : ∀ (rs : List Nat) (b : Nat), ∃ c, rs.foldl (stB xs) (some b) = some c ∧ (c = b ∨ c ∈ rs)
  | [], b => ⟨b, rfl, .inl rfl⟩
  | r :: rs, b => by
    rw [List.foldl_cons]
    show ∃ c, rs.foldl (stB xs) (if tS xs r * bS xs b < tS xs b * bS xs r then some r else some b) = _ ∧ _
    split
    · obtain ⟨c, e, h⟩ := fold_some rs r
      exact ⟨c, e, .inr (by rcases h with h | h; rw [h]; exact List.mem_cons_self ..; exact List.mem_cons_of_mem _ h)⟩
    · obtain ⟨c, e, h⟩ := fold_some rs b
      exact ⟨c, e, by rcases h with h | h; exact .inl h; exact .inr (List.mem_cons_of_mem _ h)⟩
theorem best_ok (h : Lt xs) {lo hi : Nat} (hb : 1 ≤ lo ∧ lo ≤ hi ∧ hi < xs.length) : ∃ B : Nat, B ≤ 20 ∧ (List.range' lo (hi + 1 - lo)).foldl (stB xs) none = some B ∧ pF F_best_period [.lst (xs.map .int), .int lo, .int hi] = some (.v (.int B)) := by
  have hl := h.hl
  obtain ⟨o', y4, y5, y6, g1, e⟩ := bp_loop h (x1 := some (.v (.int lo))) (x2 := some (.v (.int hi))) (hi := (hi : Int) + 1) (hi + 1 - lo) lo none none none none (by omega) (by omega) (by omega) (fun b h => by cases h)
  have rr : List.range' lo (hi + 1 - lo) = lo :: List.range' (lo + 1) (hi - lo) := by rw [show hi + 1 - lo = (hi - lo) + 1 by omega, List.range'_succ]
  obtain ⟨c, ec, hc⟩ := fold_some (xs := xs) (List.range' (lo + 1) (hi - lo)) lo
  have eo : (List.range' lo (hi + 1 - lo)).foldl (stB xs) none = some c := by rw [rr, List.foldl_cons]; exact ec
  refine ⟨c, by
    rcases hc with hc | hc
    · omega
    · have := List.mem_range'_1.mp hc; omega, eo, ?_⟩
  rw [eo] at g1
  rw [g1] at e
  have o1 : oS xs (some c) = .tup [lowD (tS xs c) (bS xs c), .int (c : Int)] := rfl
  rw [o1] at e
  have e : forL (gN 4) l1_best_period ((seg lo ((hi : Int) + 1)).map D.int) ⟨[some (.v (.lst (xs.map .int))), some (.v (.int lo)), some (.v (.int hi)), some (.v .non), none, none, none], [], true⟩ = _ := e
  rw [pF_q, q_best_period, b_best_period]
  simp -implicitDefEqProofs (maxSteps := 1000000) (disch := omega) only [↓bnd_some, bnd_some, eV_q, eVk_v, eVk_o, eW_q, eWk_b, frz_v, frz_o, frzs_nil, frzs_cons, ↓eC_q, ↓e1_q, ↓e2_q, ↓e3_q, e3k_b, ↓eT_q, ↓eTb_q, ↓eTbk_b, eTbk_b, ↓wAnd_q, ↓wOr_q, ↓wNot_q, ↓eAnd_q, ↓eOr_q, ↓eNot_q, ↓eIf_q, ↓eP_q, ↓aNil_q, ↓aCons_q, ↓eL_q, ↓eFz_q, ↓bLst_q, ↓bL_q, ↓b2_q, ↓bCall_q, ↓bPure_q, ↓pV_q, ↓sSeq_q, ↓seqK_nx, seqK_nx, ↓seqK_rt, seqK_rt, ↓seqK_bk, seqK_bk, ↓seqK_ct, seqK_ct, ↓sIf_q, ↓sNil_q, ↓sBk_q, ↓sCt_q, ↓sRet_q, ↓sRetB_q, ↓sRetN_q, ↓sRetV_q, rvK_b, ↓sExp_q, ↓sSet_q, ↓sSetB_q, put_q, ↓sAug_q, augK_v, ↓finK_rt, finK_rt, ↓finK_nx, finK_nx, ↓gN_q, ↓gsNil_q, ↓gsCons_q, ↓gT_q, ↓sAsg_q, ↓iV_q, ↓iA_q, items_lst, items_tup, ↓sFor_q, forL_nil, ↓forK_nx, forK_nx, ↓forK_ct, forK_ct, ↓forK_bk, forK_bk, ↓forK_rt, forK_rt, ↓whK_nx, whK_nx, ↓whK_ct, whK_ct, ↓whK_bk, whK_bk, ↓whK_rt, whK_rt, ↓bLc_q, ↓tYes_q, wipeE_nil, wipeE_cons, ↓pN_q, own_q, ownK_o, mutS_q, mutK_o, ↓mApp_q, ↓mAppB_q, ↓mPop_q, popK_v, ↓sSetIx_q, setK_i, ↓eObj_q, ↓eIxS_q, ↓sSetO_q, dAdd_i, dSub_i, dNeg_i, dLt_i, dLe_i, dGt_i, dGe_i, dEq_i, dNe_i, dTru_b, dTru_i, dTru_l, dTru_t, bAbs_i, bInt_i, bLen_l, bLen_t, bLen_s, dIx_l, dIx_t, bMaxD_2, bMinD_2, ↓dTup_q, ↓eCut_q, ↓oNone_q, ↓oSome_q, ↓oSk_i, oSk_i, List.getElem?_cons_zero, List.getElem?_cons_succ, List.set_cons_zero, List.set_cons_succ, if_true, if_false, Bool.false_eq_true, decide_eq_true_eq, decide_eq_false_iff_not, Bool.not_true, Bool.not_false, List.length_cons, List.length_nil, List.map_cons, List.map_nil, dMul_i, dFdiv_i, dMod_i, List.nil_append, Nat.zero_add, Nat.reduceAdd, Nat.reduceLeDiff, Nat.reduceLT, Nat.reduceEqDiff, le_refl_line, and_self, true_and, and_true, bnd_none, Bool.not_eq_true, eq_self, reduceCtorEq, decide_true, decide_false, B.frzs_v, Nat.add_assoc, draw_ok, ix0, ix1, Int.cast_ofNat_Int, Int.natCast_zero, Int.natCast_one, ↓bLc2_q, ↓bLcB_q, ↓mExt_q, extK_o, ↓bRg3_q, ↓eCut3_q, ↓bCut3_q, rng2', e]
/-- the rows of the law -/
abbrev rowsD (xs : List Int) (N : Nat) : List D := ((List.range N).map (errM xs)).map Ev.pr
theorem rows_at {N j : Nat} (h : j < N) : atI (rowsD xs N) (j : Int) = some (.tup [.int (errM xs j).1, .int (errM xs j).2]) := by
  unfold rowsD
  rw [atI_nn (by omega), Int.toNat_natCast, List.getElem?_map, List.getElem?_map, List.getElem?_range h]; rfl
theorem lb_loop (h : Lt xs) {hi : Int} {N : Nat} (hN : xs.length ≤ N) {x1 x2 : Option B} : ∀ (m r b : Nat) (x5 x6 x7 : Option B), 1 ≤ r → r + m ≤ xs.length → hi = (r : Int) + m → okP xs b → ∃ (c : Nat) (y5 y6 y7 : Option B), some c = (List.range' r m).foldl (stB xs) (some b) ∧ forL (gN 5) l1_law_best ((seg r hi).map D.int) ⟨[some (.v (.lst (rowsD xs N))), x1, x2, some (.v (.int xs.length)), some (.v (.int (b : Int))), x5, x6, x7], [], true⟩ = some (.nx, ⟨[some (.v (.lst (rowsD xs N))), x1, x2, some (.v (.int xs.length)), some (.v (.int (c : Int))), y5, y6, y7], [], true⟩)
  | 0, r, b, x5, x6, x7, _, _, hh, _ => ⟨b, x5, x6, x7, rfl, by rw [seg_nil (by omega)]; rfl⟩
  | m + 1, r, b, x5, x6, x7, h1, h2, hh, ho => by
    have hl := h.hl
    have hr : okP xs r := ⟨h1, by omega⟩
    obtain ⟨⟨u1, u2⟩, u3⟩ := bS_pos h hr
    obtain ⟨⟨v1, v2⟩, v3⟩ := bS_pos h ho
    have ho1 := ho.1
    have ho2 := ho.2
    obtain ⟨hB1, _⟩ := err_le h (P := r) (by omega) (j := min r xs.length) (by omega)
    obtain ⟨hB2, _⟩ := err_le h (P := b) (by omega) (j := min b xs.length) (by omega)
    have ra := rows_at (xs := xs) (N := N) (j := r) (by omega)
    have rb := rows_at (xs := xs) (N := N) (j := b) (by omega)
    have ms1 : tS xs r * bS xs b = (errM xs r).1 * (errM xs b).2 * ((xs.length : Int) - b) := by unfold tS bS; rw [Int.mul_assoc]
    have ms2 : tS xs b * bS xs r = (errM xs b).1 * (errM xs r).2 * ((xs.length : Int) - r) := by unfold tS bS; rw [Int.mul_assoc]
    have hB1 : 1 ≤ (errM xs r).2 ∧ (errM xs r).2 ≤ 8192 := hB1
    have hB2 : 1 ≤ (errM xs b).2 ∧ (errM xs b).2 ≤ 8192 := hB2
    have u3 : -(10 ^ 15) ≤ (errM xs r).1 ∧ (errM xs r).1 ≤ 10 ^ 15 := u3
    have v3 : -(10 ^ 15) ≤ (errM xs b).1 ∧ (errM xs b).1 ≤ 10 ^ 15 := v3
    have st : stB xs (some b) r = if tS xs r * bS xs b < tS xs b * bS xs r then some r else some b := rfl
    obtain ⟨R, hR⟩ : ∃ R, R = rowsD xs N := ⟨_, rfl⟩
    rw [← hR] at ra rb ⊢
    obtain ⟨r0, hr0⟩ : ∃ r0, r0 = (errM xs r).1 := ⟨_, rfl⟩
    obtain ⟨r1, hr1⟩ : ∃ r1, r1 = (errM xs r).2 := ⟨_, rfl⟩
    obtain ⟨b0, hb0⟩ : ∃ b0, b0 = (errM xs b).1 := ⟨_, rfl⟩
    obtain ⟨b1, hb1⟩ : ∃ b1, b1 = (errM xs b).2 := ⟨_, rfl⟩
    rw [← hr0, ← hr1] at ra
    rw [← hb0, ← hb1] at rb
    rw [← hr0, ← hb1] at ms1
    rw [← hb0, ← hr1] at ms2
    rw [← hr0] at u3
    rw [← hr1] at hB1
    rw [← hb0] at v3
    rw [← hb1] at hB2
    have d1 := mul_bd (a := r0) (b := b1) (A := 10 ^ 15) (B := 8192) u3 (by omega)
    have d2 := mul_bd (a := b0) (b := r1) (A := 10 ^ 15) (B := 8192) v3 (by omega)
    rw [ms1, ms2] at st
    rw [seg_cons (by omega), List.map_cons, forL_cons, List.range'_succ, List.foldl_cons, st]
    by_cases c : r0 * b1 * ((xs.length : Int) - b) < b0 * r1 * ((xs.length : Int) - r)
    · obtain ⟨o', y5, y6, y7, g1, ih⟩ := lb_loop h (hi := hi) hN (x1 := x1) (x2 := x2) m (r + 1) r (some (.v (.int (r : Int)))) (some (.v (.tup [.int r0, .int r1]))) (some (.v (.tup [.int b0, .int b1]))) (by omega) (by omega) (by omega) hr
      refine ⟨o', y5, y6, y7, by rw [if_pos c]; exact g1, ?_⟩
      rw [← hR] at ih
      simp -implicitDefEqProofs (maxSteps := 1000000) (disch := omega) only [↓bnd_some, bnd_some, eV_q, eVk_v, eVk_o, eW_q, eWk_b, frz_v, frz_o, frzs_nil, frzs_cons, ↓eC_q, ↓e1_q, ↓e2_q, ↓e3_q, e3k_b, ↓eT_q, ↓eTb_q, ↓eTbk_b, eTbk_b, ↓wAnd_q, ↓wOr_q, ↓wNot_q, ↓eAnd_q, ↓eOr_q, ↓eNot_q, ↓eIf_q, ↓eP_q, ↓aNil_q, ↓aCons_q, ↓eL_q, ↓eFz_q, ↓bLst_q, ↓bL_q, ↓b2_q, ↓bCall_q, ↓bPure_q, ↓pV_q, ↓sSeq_q, ↓seqK_nx, seqK_nx, ↓seqK_rt, seqK_rt, ↓seqK_bk, seqK_bk, ↓seqK_ct, seqK_ct, ↓sIf_q, ↓sNil_q, ↓sBk_q, ↓sCt_q, ↓sRet_q, ↓sRetB_q, ↓sRetN_q, ↓sRetV_q, rvK_b, ↓sExp_q, ↓sSet_q, ↓sSetB_q, put_q, ↓sAug_q, augK_v, ↓finK_rt, finK_rt, ↓finK_nx, finK_nx, ↓gN_q, ↓gsNil_q, ↓gsCons_q, ↓gT_q, ↓sAsg_q, ↓iV_q, ↓iA_q, items_lst, items_tup, ↓sFor_q, forL_nil, ↓forK_nx, forK_nx, ↓forK_ct, forK_ct, ↓forK_bk, forK_bk, ↓forK_rt, forK_rt, ↓whK_nx, whK_nx, ↓whK_ct, whK_ct, ↓whK_bk, whK_bk, ↓whK_rt, whK_rt, ↓bLc_q, ↓tYes_q, wipeE_nil, wipeE_cons, ↓pN_q, own_q, ownK_o, mutS_q, mutK_o, ↓mApp_q, ↓mAppB_q, ↓mPop_q, popK_v, ↓sSetIx_q, setK_i, ↓eObj_q, ↓eIxS_q, ↓sSetO_q, dAdd_i, dSub_i, dNeg_i, dLt_i, dLe_i, dGt_i, dGe_i, dEq_i, dNe_i, dTru_b, dTru_i, dTru_l, dTru_t, bAbs_i, bInt_i, bLen_l, bLen_t, bLen_s, dIx_l, dIx_t, bMaxD_2, bMinD_2, ↓dTup_q, ↓eCut_q, ↓oNone_q, ↓oSome_q, ↓oSk_i, oSk_i, List.getElem?_cons_zero, List.getElem?_cons_succ, List.set_cons_zero, List.set_cons_succ, if_true, if_false, Bool.false_eq_true, decide_eq_true_eq, decide_eq_false_iff_not, Bool.not_true, Bool.not_false, List.length_cons, List.length_nil, List.map_cons, List.map_nil, dMul_i, dFdiv_i, dMod_i, List.nil_append, Nat.zero_add, Nat.reduceAdd, Nat.reduceLeDiff, Nat.reduceLT, Nat.reduceEqDiff, le_refl_line, and_self, true_and, and_true, bnd_none, Bool.not_eq_true, eq_self, reduceCtorEq, decide_true, decide_false, B.frzs_v, Nat.add_assoc, draw_ok, ix0, ix1, Int.cast_ofNat_Int, Int.natCast_zero, Int.natCast_one, ↓bLc2_q, ↓bLcB_q, ↓mExt_q, extK_o, ↓bRg3_q, ↓eCut3_q, ↓bCut3_q, l1_law_best, ra, rb, sPar_e, parK_e, eq_true c]
      exact ih
    · obtain ⟨o', y5, y6, y7, g1, ih⟩ := lb_loop h (hi := hi) hN (x1 := x1) (x2 := x2) m (r + 1) b (some (.v (.int (r : Int)))) (some (.v (.tup [.int r0, .int r1]))) (some (.v (.tup [.int b0, .int b1]))) (by omega) (by omega) (by omega) ho
      refine ⟨o', y5, y6, y7, by rw [if_neg c]; exact g1, ?_⟩
      rw [← hR] at ih
      simp -implicitDefEqProofs (maxSteps := 1000000) (disch := omega) only [↓bnd_some, bnd_some, eV_q, eVk_v, eVk_o, eW_q, eWk_b, frz_v, frz_o, frzs_nil, frzs_cons, ↓eC_q, ↓e1_q, ↓e2_q, ↓e3_q, e3k_b, ↓eT_q, ↓eTb_q, ↓eTbk_b, eTbk_b, ↓wAnd_q, ↓wOr_q, ↓wNot_q, ↓eAnd_q, ↓eOr_q, ↓eNot_q, ↓eIf_q, ↓eP_q, ↓aNil_q, ↓aCons_q, ↓eL_q, ↓eFz_q, ↓bLst_q, ↓bL_q, ↓b2_q, ↓bCall_q, ↓bPure_q, ↓pV_q, ↓sSeq_q, ↓seqK_nx, seqK_nx, ↓seqK_rt, seqK_rt, ↓seqK_bk, seqK_bk, ↓seqK_ct, seqK_ct, ↓sIf_q, ↓sNil_q, ↓sBk_q, ↓sCt_q, ↓sRet_q, ↓sRetB_q, ↓sRetN_q, ↓sRetV_q, rvK_b, ↓sExp_q, ↓sSet_q, ↓sSetB_q, put_q, ↓sAug_q, augK_v, ↓finK_rt, finK_rt, ↓finK_nx, finK_nx, ↓gN_q, ↓gsNil_q, ↓gsCons_q, ↓gT_q, ↓sAsg_q, ↓iV_q, ↓iA_q, items_lst, items_tup, ↓sFor_q, forL_nil, ↓forK_nx, forK_nx, ↓forK_ct, forK_ct, ↓forK_bk, forK_bk, ↓forK_rt, forK_rt, ↓whK_nx, whK_nx, ↓whK_ct, whK_ct, ↓whK_bk, whK_bk, ↓whK_rt, whK_rt, ↓bLc_q, ↓tYes_q, wipeE_nil, wipeE_cons, ↓pN_q, own_q, ownK_o, mutS_q, mutK_o, ↓mApp_q, ↓mAppB_q, ↓mPop_q, popK_v, ↓sSetIx_q, setK_i, ↓eObj_q, ↓eIxS_q, ↓sSetO_q, dAdd_i, dSub_i, dNeg_i, dLt_i, dLe_i, dGt_i, dGe_i, dEq_i, dNe_i, dTru_b, dTru_i, dTru_l, dTru_t, bAbs_i, bInt_i, bLen_l, bLen_t, bLen_s, dIx_l, dIx_t, bMaxD_2, bMinD_2, ↓dTup_q, ↓eCut_q, ↓oNone_q, ↓oSome_q, ↓oSk_i, oSk_i, List.getElem?_cons_zero, List.getElem?_cons_succ, List.set_cons_zero, List.set_cons_succ, if_true, if_false, Bool.false_eq_true, decide_eq_true_eq, decide_eq_false_iff_not, Bool.not_true, Bool.not_false, List.length_cons, List.length_nil, List.map_cons, List.map_nil, dMul_i, dFdiv_i, dMod_i, List.nil_append, Nat.zero_add, Nat.reduceAdd, Nat.reduceLeDiff, Nat.reduceLT, Nat.reduceEqDiff, le_refl_line, and_self, true_and, and_true, bnd_none, Bool.not_eq_true, eq_self, reduceCtorEq, decide_true, decide_false, B.frzs_v, Nat.add_assoc, draw_ok, ix0, ix1, Int.cast_ofNat_Int, Int.natCast_zero, Int.natCast_one, ↓bLc2_q, ↓bLcB_q, ↓mExt_q, extK_o, ↓bRg3_q, ↓eCut3_q, ↓bCut3_q, l1_law_best, ra, rb, sPar_e, parK_e, c]
      exact ih
theorem law_best_ok (h : Lt xs) {lo hi N : Nat} (hN : xs.length ≤ N) (hb : 1 ≤ lo ∧ lo ≤ hi ∧ hi < xs.length) {B' : Nat} (hB : (List.range' lo (hi + 1 - lo)).foldl (stB xs) none = some B') : pF F_law_best [.lst (rowsD xs N), .int lo, .int hi, .int xs.length] = some (.v (.int B')) := by
  have hl := h.hl
  obtain ⟨c, y5, y6, y7, g1, e⟩ := lb_loop h hN (x1 := some (.v (.int lo))) (x2 := some (.v (.int hi))) (hi := (hi : Int) + 1) (hi + 1 - lo) lo lo none none none (by omega) (by omega) (by omega) ⟨by omega, by omega⟩
  have rr : List.range' lo (hi + 1 - lo) = lo :: List.range' (lo + 1) (hi - lo) := by rw [show hi + 1 - lo = (hi - lo) + 1 by omega, List.range'_succ]
  have irr : stB xs (some lo) lo = some lo := if_neg (Int.lt_irrefl _)
  have : c = B' := by
    rw [rr, List.foldl_cons] at hB g1
    rw [irr] at g1
    have hB : (List.range' (lo + 1) (hi - lo)).foldl (stB xs) (some lo) = some B' := hB
    rw [hB] at g1
    exact Option.some.inj g1
  subst this
  have e : forL (gN 5) l1_law_best ((seg lo ((hi : Int) + 1)).map D.int) _ = _ := e
  obtain ⟨R, hR⟩ : ∃ R, R = rowsD xs N := ⟨_, rfl⟩
  rw [← hR] at e ⊢
  rw [pF_q, q_law_best, b_law_best]
  simp -implicitDefEqProofs (maxSteps := 1000000) (disch := omega) only [↓bnd_some, bnd_some, eV_q, eVk_v, eVk_o, eW_q, eWk_b, frz_v, frz_o, frzs_nil, frzs_cons, ↓eC_q, ↓e1_q, ↓e2_q, ↓e3_q, e3k_b, ↓eT_q, ↓eTb_q, ↓eTbk_b, eTbk_b, ↓wAnd_q, ↓wOr_q, ↓wNot_q, ↓eAnd_q, ↓eOr_q, ↓eNot_q, ↓eIf_q, ↓eP_q, ↓aNil_q, ↓aCons_q, ↓eL_q, ↓eFz_q, ↓bLst_q, ↓bL_q, ↓b2_q, ↓bCall_q, ↓bPure_q, ↓pV_q, ↓sSeq_q, ↓seqK_nx, seqK_nx, ↓seqK_rt, seqK_rt, ↓seqK_bk, seqK_bk, ↓seqK_ct, seqK_ct, ↓sIf_q, ↓sNil_q, ↓sBk_q, ↓sCt_q, ↓sRet_q, ↓sRetB_q, ↓sRetN_q, ↓sRetV_q, rvK_b, ↓sExp_q, ↓sSet_q, ↓sSetB_q, put_q, ↓sAug_q, augK_v, ↓finK_rt, finK_rt, ↓finK_nx, finK_nx, ↓gN_q, ↓gsNil_q, ↓gsCons_q, ↓gT_q, ↓sAsg_q, ↓iV_q, ↓iA_q, items_lst, items_tup, ↓sFor_q, forL_nil, ↓forK_nx, forK_nx, ↓forK_ct, forK_ct, ↓forK_bk, forK_bk, ↓forK_rt, forK_rt, ↓whK_nx, whK_nx, ↓whK_ct, whK_ct, ↓whK_bk, whK_bk, ↓whK_rt, whK_rt, ↓bLc_q, ↓tYes_q, wipeE_nil, wipeE_cons, ↓pN_q, own_q, ownK_o, mutS_q, mutK_o, ↓mApp_q, ↓mAppB_q, ↓mPop_q, popK_v, ↓sSetIx_q, setK_i, ↓eObj_q, ↓eIxS_q, ↓sSetO_q, dAdd_i, dSub_i, dNeg_i, dLt_i, dLe_i, dGt_i, dGe_i, dEq_i, dNe_i, dTru_b, dTru_i, dTru_l, dTru_t, bAbs_i, bInt_i, bLen_l, bLen_t, bLen_s, dIx_l, dIx_t, bMaxD_2, bMinD_2, ↓dTup_q, ↓eCut_q, ↓oNone_q, ↓oSome_q, ↓oSk_i, oSk_i, List.getElem?_cons_zero, List.getElem?_cons_succ, List.set_cons_zero, List.set_cons_succ, if_true, if_false, Bool.false_eq_true, decide_eq_true_eq, decide_eq_false_iff_not, Bool.not_true, Bool.not_false, List.length_cons, List.length_nil, List.map_cons, List.map_nil, dMul_i, dFdiv_i, dMod_i, List.nil_append, Nat.zero_add, Nat.reduceAdd, Nat.reduceLeDiff, Nat.reduceLT, Nat.reduceEqDiff, le_refl_line, and_self, true_and, and_true, bnd_none, Bool.not_eq_true, eq_self, reduceCtorEq, decide_true, decide_false, B.frzs_v, Nat.add_assoc, draw_ok, ix0, ix1, Int.cast_ofNat_Int, Int.natCast_zero, Int.natCast_one, ↓bLc2_q, ↓bLcB_q, ↓mExt_q, extK_o, ↓bRg3_q, ↓eCut3_q, ↓bCut3_q, rng2', e]
end
end K40

namespace K40
open PySem L2 Ev
section
variable {xs ys us : List Int} {a b c d n w p i pe wd : Int} {ds : List Int} {k P : Nat} {S : Sto}
theorem cv_loop {wd pe ki : Int} {base : List Int} (hw : 1 ≤ wd ∧ wd ≤ 1000) (hp : pe = base.length ∧ 1 ≤ pe ∧ pe ≤ 10) (hb : ∀ x ∈ base, 0 ≤ x ∧ x ≤ 1000) {x1 : Option B} : ∀ (ts : List Int) (k : Nat) (fs : List Int) (x7 x8 : Option B), (∀ t ∈ ts, 0 ≤ t ∧ t ≤ 1000) → k + 2 * ts.length ≤ 10 ^ 8 → fs.length + ts.length ≤ 500 → (∀ x ∈ fs, 0 ≤ x ∧ x ≤ 1000) →
    ∃ (gs : List Int) (k' : Nat) (y7 y8 : Option B), forL (gN 7) l1_law_curve (ts.map D.int) ⟨[some (.v (.obj 0)), x1, some (.v (.int wd)), some (.v (.int pe)), some (.v (.lst (base.map .int))), some (.v (.int ki)), some (.o (fs.map fun i => B.v (.int i))), x7, x8], bx ds k, false⟩ = some (.nx, ⟨[some (.v (.obj 0)), x1, some (.v (.int wd)), some (.v (.int pe)), some (.v (.lst (base.map .int))), some (.v (.int ki)), some (.o (gs.map fun i => B.v (.int i))), y7, y8], bx ds k', false⟩) ∧ gs.length = fs.length + ts.length ∧ (∀ x ∈ gs, 0 ≤ x ∧ x ≤ 1000) ∧ k' ≤ k + 2 * ts.length
  | [], k, fs, x7, x8, _, _, _, h => ⟨fs, k, x7, x8, rfl, rfl, h, by simp⟩
  | t :: ts, k, fs, x7, x8, ht, hk, hl, h => by
    rw [List.length_cons] at hk hl ⊢
    have ht0 := ht t (List.mem_cons_self ..)
    have n0 := Int.emod_nonneg t (show pe ≠ 0 by omega)
    have n1 := Int.emod_lt_of_pos t (show 0 < pe by omega)
    have ia : atI (base.map D.int) (t % pe) = some (.int (base[(t % pe).toNat]'(by omega))) := atI_m n0 (by omega)
    obtain ⟨l, hl0⟩ : ∃ l, l = base[(t % pe).toNat]'(by omega) := ⟨_, rfl⟩
    have hlb : 0 ≤ l ∧ l ≤ 1000 := by rw [hl0]; exact hb _ (List.getElem_mem _)
    rw [← hl0] at ia
    have c5 : fs.length < sizeLine := lt_line (by omega)
    have next : ∀ z : Int, 0 ≤ z ∧ z ≤ 1000 → ∀ x ∈ fs ++ [z], 0 ≤ x ∧ x ≤ 1000 := fun z hz x hx => by
      rcases List.mem_append.mp hx with hx | hx
      · exact h x hx
      · cases List.mem_singleton.mp hx; exact hz
    rw [List.map_cons, forL_cons]
    by_cases c1 : ki = 0
    · obtain ⟨v, ev, hv⟩ := rv_ex (ds := ds) (p := k) (m := wd) (by omega)
      obtain ⟨gs, k', y7, y8, ih, g1, g2, g3⟩ := cv_loop hw hp hb (x1 := x1) ts (k + 1) (fs ++ [v]) (some (.v (.int t))) (some (.v (.int v))) (fun q hq => ht q (List.mem_cons_of_mem _ hq)) (by omega) (by rw [List.length_append, List.length_singleton]; omega) (next v (by omega))
      rw [List.length_append, List.length_singleton] at g1
      refine ⟨gs, k', y7, y8, ?_, by omega, g2, by omega⟩
      simp -implicitDefEqProofs (maxSteps := 1000000) (disch := omega) only [↓bnd_some, bnd_some, eV_q, eVk_v, eVk_o, eW_q, eWk_b, frz_v, frz_o, frzs_nil, frzs_cons, ↓eC_q, ↓e1_q, ↓e2_q, ↓e3_q, e3k_b, ↓eT_q, ↓eTb_q, ↓eTbk_b, eTbk_b, ↓wAnd_q, ↓wOr_q, ↓wNot_q, ↓eAnd_q, ↓eOr_q, ↓eNot_q, ↓eIf_q, ↓eP_q, ↓aNil_q, ↓aCons_q, ↓eL_q, ↓eFz_q, ↓bLst_q, ↓bL_q, ↓b2_q, ↓bCall_q, ↓bPure_q, ↓pV_q, ↓sSeq_q, ↓seqK_nx, seqK_nx, ↓seqK_rt, seqK_rt, ↓seqK_bk, seqK_bk, ↓seqK_ct, seqK_ct, ↓sIf_q, ↓sNil_q, ↓sBk_q, ↓sCt_q, ↓sRet_q, ↓sRetB_q, ↓sRetN_q, ↓sRetV_q, rvK_b, ↓sExp_q, ↓sSet_q, ↓sSetB_q, put_q, ↓sAug_q, augK_v, ↓finK_rt, finK_rt, ↓finK_nx, finK_nx, ↓gN_q, ↓gsNil_q, ↓gsCons_q, ↓gT_q, ↓sAsg_q, ↓iV_q, ↓iA_q, items_lst, items_tup, ↓sFor_q, forL_nil, ↓forK_nx, forK_nx, ↓forK_ct, forK_ct, ↓forK_bk, forK_bk, ↓forK_rt, forK_rt, ↓whK_nx, whK_nx, ↓whK_ct, whK_ct, ↓whK_bk, whK_bk, ↓whK_rt, whK_rt, ↓bLc_q, ↓tYes_q, wipeE_nil, wipeE_cons, ↓pN_q, own_q, ownK_o, mutS_q, mutK_o, ↓mApp_q, ↓mAppB_q, ↓mPop_q, popK_v, ↓sSetIx_q, setK_i, ↓eObj_q, ↓eIxS_q, ↓sSetO_q, dAdd_i, dSub_i, dNeg_i, dLt_i, dLe_i, dGt_i, dGe_i, dEq_i, dNe_i, dTru_b, dTru_i, dTru_l, dTru_t, bAbs_i, bInt_i, bLen_l, bLen_t, bLen_s, dIx_l, dIx_t, bMaxD_2, bMinD_2, ↓dTup_q, ↓eCut_q, ↓oNone_q, ↓oSome_q, ↓oSk_i, oSk_i, List.getElem?_cons_zero, List.getElem?_cons_succ, List.set_cons_zero, List.set_cons_succ, if_true, if_false, Bool.false_eq_true, decide_eq_true_eq, decide_eq_false_iff_not, Bool.not_true, Bool.not_false, List.length_cons, List.length_nil, List.map_cons, List.map_nil, dMul_i, dFdiv_i, dMod_i, List.nil_append, Nat.zero_add, Nat.reduceAdd, Nat.reduceLeDiff, Nat.reduceLT, Nat.reduceEqDiff, le_refl_line, and_self, true_and, and_true, bnd_none, Bool.not_eq_true, eq_self, reduceCtorEq, decide_true, decide_false, B.frzs_v, Nat.add_assoc, draw_ok, ix0, ix1, Int.cast_ofNat_Int, Int.natCast_zero, Int.natCast_one, ↓bLc2_q, ↓bLcB_q, ↓mExt_q, extK_o, ↓bRg3_q, ↓eCut3_q, ↓bCut3_q, l1_law_curve, ia, dEq_i, eq_true c1, ev, List.length_map, c5, snocI]
      exact ih
    · by_cases c2 : ki = 1
      · obtain ⟨u, eu, hu⟩ := rv_ex (ds := ds) (p := k) (m := 6) (by decide)
        by_cases c3 : u = 0
        · obtain ⟨v, ev, hv⟩ := rv_ex (ds := ds) (p := k + 1) (m := wd) (by omega)
          obtain ⟨gs, k', y7, y8, ih, g1, g2, g3⟩ := cv_loop hw hp hb (x1 := x1) ts (k + 2) (fs ++ [v]) (some (.v (.int t))) (some (.v (.int v))) (fun q hq => ht q (List.mem_cons_of_mem _ hq)) (by omega) (by rw [List.length_append, List.length_singleton]; omega) (next v (by omega))
          rw [List.length_append, List.length_singleton] at g1
          refine ⟨gs, k', y7, y8, ?_, by omega, g2, by omega⟩
          simp -implicitDefEqProofs (maxSteps := 1000000) (disch := omega) only [↓bnd_some, bnd_some, eV_q, eVk_v, eVk_o, eW_q, eWk_b, frz_v, frz_o, frzs_nil, frzs_cons, ↓eC_q, ↓e1_q, ↓e2_q, ↓e3_q, e3k_b, ↓eT_q, ↓eTb_q, ↓eTbk_b, eTbk_b, ↓wAnd_q, ↓wOr_q, ↓wNot_q, ↓eAnd_q, ↓eOr_q, ↓eNot_q, ↓eIf_q, ↓eP_q, ↓aNil_q, ↓aCons_q, ↓eL_q, ↓eFz_q, ↓bLst_q, ↓bL_q, ↓b2_q, ↓bCall_q, ↓bPure_q, ↓pV_q, ↓sSeq_q, ↓seqK_nx, seqK_nx, ↓seqK_rt, seqK_rt, ↓seqK_bk, seqK_bk, ↓seqK_ct, seqK_ct, ↓sIf_q, ↓sNil_q, ↓sBk_q, ↓sCt_q, ↓sRet_q, ↓sRetB_q, ↓sRetN_q, ↓sRetV_q, rvK_b, ↓sExp_q, ↓sSet_q, ↓sSetB_q, put_q, ↓sAug_q, augK_v, ↓finK_rt, finK_rt, ↓finK_nx, finK_nx, ↓gN_q, ↓gsNil_q, ↓gsCons_q, ↓gT_q, ↓sAsg_q, ↓iV_q, ↓iA_q, items_lst, items_tup, ↓sFor_q, forL_nil, ↓forK_nx, forK_nx, ↓forK_ct, forK_ct, ↓forK_bk, forK_bk, ↓forK_rt, forK_rt, ↓whK_nx, whK_nx, ↓whK_ct, whK_ct, ↓whK_bk, whK_bk, ↓whK_rt, whK_rt, ↓bLc_q, ↓tYes_q, wipeE_nil, wipeE_cons, ↓pN_q, own_q, ownK_o, mutS_q, mutK_o, ↓mApp_q, ↓mAppB_q, ↓mPop_q, popK_v, ↓sSetIx_q, setK_i, ↓eObj_q, ↓eIxS_q, ↓sSetO_q, dAdd_i, dSub_i, dNeg_i, dLt_i, dLe_i, dGt_i, dGe_i, dEq_i, dNe_i, dTru_b, dTru_i, dTru_l, dTru_t, bAbs_i, bInt_i, bLen_l, bLen_t, bLen_s, dIx_l, dIx_t, bMaxD_2, bMinD_2, ↓dTup_q, ↓eCut_q, ↓oNone_q, ↓oSome_q, ↓oSk_i, oSk_i, List.getElem?_cons_zero, List.getElem?_cons_succ, List.set_cons_zero, List.set_cons_succ, if_true, if_false, Bool.false_eq_true, decide_eq_true_eq, decide_eq_false_iff_not, Bool.not_true, Bool.not_false, List.length_cons, List.length_nil, List.map_cons, List.map_nil, dMul_i, dFdiv_i, dMod_i, List.nil_append, Nat.zero_add, Nat.reduceAdd, Nat.reduceLeDiff, Nat.reduceLT, Nat.reduceEqDiff, le_refl_line, and_self, true_and, and_true, bnd_none, Bool.not_eq_true, eq_self, reduceCtorEq, decide_true, decide_false, B.frzs_v, Nat.add_assoc, draw_ok, ix0, ix1, Int.cast_ofNat_Int, Int.natCast_zero, Int.natCast_one, ↓bLc2_q, ↓bLcB_q, ↓mExt_q, extK_o, ↓bRg3_q, ↓eCut3_q, ↓bCut3_q, l1_law_curve, ia, dEq_i, c1, eq_true c2, eu, eq_true c3, ev, List.length_map, c5, snocI]
          exact ih
        · obtain ⟨gs, k', y7, y8, ih, g1, g2, g3⟩ := cv_loop hw hp hb (x1 := x1) ts (k + 1) (fs ++ [l]) (some (.v (.int t))) (some (.v (.int l))) (fun q hq => ht q (List.mem_cons_of_mem _ hq)) (by omega) (by rw [List.length_append, List.length_singleton]; omega) (next l hlb)
          rw [List.length_append, List.length_singleton] at g1
          refine ⟨gs, k', y7, y8, ?_, by omega, g2, by omega⟩
          simp -implicitDefEqProofs (maxSteps := 1000000) (disch := omega) only [↓bnd_some, bnd_some, eV_q, eVk_v, eVk_o, eW_q, eWk_b, frz_v, frz_o, frzs_nil, frzs_cons, ↓eC_q, ↓e1_q, ↓e2_q, ↓e3_q, e3k_b, ↓eT_q, ↓eTb_q, ↓eTbk_b, eTbk_b, ↓wAnd_q, ↓wOr_q, ↓wNot_q, ↓eAnd_q, ↓eOr_q, ↓eNot_q, ↓eIf_q, ↓eP_q, ↓aNil_q, ↓aCons_q, ↓eL_q, ↓eFz_q, ↓bLst_q, ↓bL_q, ↓b2_q, ↓bCall_q, ↓bPure_q, ↓pV_q, ↓sSeq_q, ↓seqK_nx, seqK_nx, ↓seqK_rt, seqK_rt, ↓seqK_bk, seqK_bk, ↓seqK_ct, seqK_ct, ↓sIf_q, ↓sNil_q, ↓sBk_q, ↓sCt_q, ↓sRet_q, ↓sRetB_q, ↓sRetN_q, ↓sRetV_q, rvK_b, ↓sExp_q, ↓sSet_q, ↓sSetB_q, put_q, ↓sAug_q, augK_v, ↓finK_rt, finK_rt, ↓finK_nx, finK_nx, ↓gN_q, ↓gsNil_q, ↓gsCons_q, ↓gT_q, ↓sAsg_q, ↓iV_q, ↓iA_q, items_lst, items_tup, ↓sFor_q, forL_nil, ↓forK_nx, forK_nx, ↓forK_ct, forK_ct, ↓forK_bk, forK_bk, ↓forK_rt, forK_rt, ↓whK_nx, whK_nx, ↓whK_ct, whK_ct, ↓whK_bk, whK_bk, ↓whK_rt, whK_rt, ↓bLc_q, ↓tYes_q, wipeE_nil, wipeE_cons, ↓pN_q, own_q, ownK_o, mutS_q, mutK_o, ↓mApp_q, ↓mAppB_q, ↓mPop_q, popK_v, ↓sSetIx_q, setK_i, ↓eObj_q, ↓eIxS_q, ↓sSetO_q, dAdd_i, dSub_i, dNeg_i, dLt_i, dLe_i, dGt_i, dGe_i, dEq_i, dNe_i, dTru_b, dTru_i, dTru_l, dTru_t, bAbs_i, bInt_i, bLen_l, bLen_t, bLen_s, dIx_l, dIx_t, bMaxD_2, bMinD_2, ↓dTup_q, ↓eCut_q, ↓oNone_q, ↓oSome_q, ↓oSk_i, oSk_i, List.getElem?_cons_zero, List.getElem?_cons_succ, List.set_cons_zero, List.set_cons_succ, if_true, if_false, Bool.false_eq_true, decide_eq_true_eq, decide_eq_false_iff_not, Bool.not_true, Bool.not_false, List.length_cons, List.length_nil, List.map_cons, List.map_nil, dMul_i, dFdiv_i, dMod_i, List.nil_append, Nat.zero_add, Nat.reduceAdd, Nat.reduceLeDiff, Nat.reduceLT, Nat.reduceEqDiff, le_refl_line, and_self, true_and, and_true, bnd_none, Bool.not_eq_true, eq_self, reduceCtorEq, decide_true, decide_false, B.frzs_v, Nat.add_assoc, draw_ok, ix0, ix1, Int.cast_ofNat_Int, Int.natCast_zero, Int.natCast_one, ↓bLc2_q, ↓bLcB_q, ↓mExt_q, extK_o, ↓bRg3_q, ↓eCut3_q, ↓bCut3_q, l1_law_curve, ia, dEq_i, c1, eq_true c2, eu, c3, List.length_map, c5, snocI]
          exact ih
      · obtain ⟨gs, k', y7, y8, ih, g1, g2, g3⟩ := cv_loop hw hp hb (x1 := x1) ts k (fs ++ [l]) (some (.v (.int t))) (some (.v (.int l))) (fun q hq => ht q (List.mem_cons_of_mem _ hq)) (by omega) (by rw [List.length_append, List.length_singleton]; omega) (next l hlb)
        rw [List.length_append, List.length_singleton] at g1
        refine ⟨gs, k', y7, y8, ?_, by omega, g2, by omega⟩
        simp -implicitDefEqProofs (maxSteps := 1000000) (disch := omega) only [↓bnd_some, bnd_some, eV_q, eVk_v, eVk_o, eW_q, eWk_b, frz_v, frz_o, frzs_nil, frzs_cons, ↓eC_q, ↓e1_q, ↓e2_q, ↓e3_q, e3k_b, ↓eT_q, ↓eTb_q, ↓eTbk_b, eTbk_b, ↓wAnd_q, ↓wOr_q, ↓wNot_q, ↓eAnd_q, ↓eOr_q, ↓eNot_q, ↓eIf_q, ↓eP_q, ↓aNil_q, ↓aCons_q, ↓eL_q, ↓eFz_q, ↓bLst_q, ↓bL_q, ↓b2_q, ↓bCall_q, ↓bPure_q, ↓pV_q, ↓sSeq_q, ↓seqK_nx, seqK_nx, ↓seqK_rt, seqK_rt, ↓seqK_bk, seqK_bk, ↓seqK_ct, seqK_ct, ↓sIf_q, ↓sNil_q, ↓sBk_q, ↓sCt_q, ↓sRet_q, ↓sRetB_q, ↓sRetN_q, ↓sRetV_q, rvK_b, ↓sExp_q, ↓sSet_q, ↓sSetB_q, put_q, ↓sAug_q, augK_v, ↓finK_rt, finK_rt, ↓finK_nx, finK_nx, ↓gN_q, ↓gsNil_q, ↓gsCons_q, ↓gT_q, ↓sAsg_q, ↓iV_q, ↓iA_q, items_lst, items_tup, ↓sFor_q, forL_nil, ↓forK_nx, forK_nx, ↓forK_ct, forK_ct, ↓forK_bk, forK_bk, ↓forK_rt, forK_rt, ↓whK_nx, whK_nx, ↓whK_ct, whK_ct, ↓whK_bk, whK_bk, ↓whK_rt, whK_rt, ↓bLc_q, ↓tYes_q, wipeE_nil, wipeE_cons, ↓pN_q, own_q, ownK_o, mutS_q, mutK_o, ↓mApp_q, ↓mAppB_q, ↓mPop_q, popK_v, ↓sSetIx_q, setK_i, ↓eObj_q, ↓eIxS_q, ↓sSetO_q, dAdd_i, dSub_i, dNeg_i, dLt_i, dLe_i, dGt_i, dGe_i, dEq_i, dNe_i, dTru_b, dTru_i, dTru_l, dTru_t, bAbs_i, bInt_i, bLen_l, bLen_t, bLen_s, dIx_l, dIx_t, bMaxD_2, bMinD_2, ↓dTup_q, ↓eCut_q, ↓oNone_q, ↓oSome_q, ↓oSk_i, oSk_i, List.getElem?_cons_zero, List.getElem?_cons_succ, List.set_cons_zero, List.set_cons_succ, if_true, if_false, Bool.false_eq_true, decide_eq_true_eq, decide_eq_false_iff_not, Bool.not_true, Bool.not_false, List.length_cons, List.length_nil, List.map_cons, List.map_nil, dMul_i, dFdiv_i, dMod_i, List.nil_append, Nat.zero_add, Nat.reduceAdd, Nat.reduceLeDiff, Nat.reduceLT, Nat.reduceEqDiff, le_refl_line, and_self, true_and, and_true, bnd_none, Bool.not_eq_true, eq_self, reduceCtorEq, decide_true, decide_false, B.frzs_v, Nat.add_assoc, draw_ok, ix0, ix1, Int.cast_ofNat_Int, Int.natCast_zero, Int.natCast_one, ↓bLc2_q, ↓bLcB_q, ↓mExt_q, extK_o, ↓bRg3_q, ↓eCut3_q, ↓bCut3_q, l1_law_curve, ia, dEq_i, c1, c2, List.length_map, c5, snocI]
        exact ih
theorem curve_ok {many : Int} (hm : 0 ≤ many ∧ many ≤ 14) (hk : k ≤ 10 ^ 7) : ∃ (xs : List Int) (k' : Nat), F_law_curve false [.obj 0, .int many] (bx ds k) = some (.v (.lst (xs.map .int)), bx ds k') ∧ xs.length = many.toNat ∧ (∀ x ∈ xs, 0 ≤ x ∧ x ≤ 1000) ∧ k' ≤ k + 50 := by
  obtain ⟨wd, hwd, ewd⟩ := pick_i (ds := ds) (p := k) (xs := [2, 4, 10, 1000]) (by simp) (by simp) (by omega)
  simp only [List.map_cons, List.map_nil] at ewd
  simp only [List.mem_cons, List.not_mem_nil, or_false] at hwd
  obtain ⟨pe, epe, hpe⟩ := rv_ex (ds := ds) (p := k + 1) (m := 7) (by decide)
  obtain ⟨vs, q, e1, h1, h2, h3⟩ := lcL_draw (own := [7]) (h := gN 7) (c := tYes') (e := e1_law_curve) (env := [some (.v (.obj 0)), some (.v (.int many)), some (.v (.int wd)), some (.v (.int (1 + pe))), none, none, none, none, none]) (ds := ds) (g := D.int) (fun v => ∃ z, v = D.int z ∧ 0 ≤ z ∧ z ≤ 1000) 1 (10 ^ 8) (seg 0 (1 + pe)) (k + 2) (by rw [seg_len]; omega) (fun x hx p hp => by
    obtain ⟨v, ev, hv⟩ := rv_ex (ds := ds) (p := p) (m := wd) (by omega)
    refine ⟨.int v, p + 1, ?_, ⟨v, rfl, by omega, by omega⟩, by omega⟩
    simp -implicitDefEqProofs (maxSteps := 1000000) (disch := omega) only [↓bnd_some, bnd_some, eV_q, eVk_v, eVk_o, eW_q, eWk_b, frz_v, frz_o, frzs_nil, frzs_cons, ↓eC_q, ↓e1_q, ↓e2_q, ↓e3_q, e3k_b, ↓eT_q, ↓eTb_q, ↓eTbk_b, eTbk_b, ↓wAnd_q, ↓wOr_q, ↓wNot_q, ↓eAnd_q, ↓eOr_q, ↓eNot_q, ↓eIf_q, ↓eP_q, ↓aNil_q, ↓aCons_q, ↓eL_q, ↓eFz_q, ↓bLst_q, ↓bL_q, ↓b2_q, ↓bCall_q, ↓bPure_q, ↓pV_q, ↓sSeq_q, ↓seqK_nx, seqK_nx, ↓seqK_rt, seqK_rt, ↓seqK_bk, seqK_bk, ↓seqK_ct, seqK_ct, ↓sIf_q, ↓sNil_q, ↓sBk_q, ↓sCt_q, ↓sRet_q, ↓sRetB_q, ↓sRetN_q, ↓sRetV_q, rvK_b, ↓sExp_q, ↓sSet_q, ↓sSetB_q, put_q, ↓sAug_q, augK_v, ↓finK_rt, finK_rt, ↓finK_nx, finK_nx, ↓gN_q, ↓gsNil_q, ↓gsCons_q, ↓gT_q, ↓sAsg_q, ↓iV_q, ↓iA_q, items_lst, items_tup, ↓sFor_q, forL_nil, ↓forK_nx, forK_nx, ↓forK_ct, forK_ct, ↓forK_bk, forK_bk, ↓forK_rt, forK_rt, ↓whK_nx, whK_nx, ↓whK_ct, whK_ct, ↓whK_bk, whK_bk, ↓whK_rt, whK_rt, ↓bLc_q, ↓tYes_q, wipeE_nil, wipeE_cons, ↓pN_q, own_q, ownK_o, mutS_q, mutK_o, ↓mApp_q, ↓mAppB_q, ↓mPop_q, popK_v, ↓sSetIx_q, setK_i, ↓eObj_q, ↓eIxS_q, ↓sSetO_q, dAdd_i, dSub_i, dNeg_i, dLt_i, dLe_i, dGt_i, dGe_i, dEq_i, dNe_i, dTru_b, dTru_i, dTru_l, dTru_t, bAbs_i, bInt_i, bLen_l, bLen_t, bLen_s, dIx_l, dIx_t, bMaxD_2, bMinD_2, ↓dTup_q, ↓eCut_q, ↓oNone_q, ↓oSome_q, ↓oSk_i, oSk_i, List.getElem?_cons_zero, List.getElem?_cons_succ, List.set_cons_zero, List.set_cons_succ, if_true, if_false, Bool.false_eq_true, decide_eq_true_eq, decide_eq_false_iff_not, Bool.not_true, Bool.not_false, List.length_cons, List.length_nil, List.map_cons, List.map_nil, dMul_i, dFdiv_i, dMod_i, List.nil_append, Nat.zero_add, Nat.reduceAdd, Nat.reduceLeDiff, Nat.reduceLT, Nat.reduceEqDiff, le_refl_line, and_self, true_and, and_true, bnd_none, Bool.not_eq_true, eq_self, reduceCtorEq, decide_true, decide_false, B.frzs_v, Nat.add_assoc, draw_ok, ix0, ix1, Int.cast_ofNat_Int, Int.natCast_zero, Int.natCast_one, ↓bLc2_q, ↓bLcB_q, ↓mExt_q, extK_o, ↓bRg3_q, ↓eCut3_q, ↓bCut3_q, lcS, e1_law_curve, ev])
  obtain ⟨base, rfl, hb⟩ := map_of (g := D.int) (P := fun z => 0 ≤ z ∧ z ≤ 1000) vs h1
  rw [List.length_map, seg_len] at h2
  rw [seg_len] at h3
  obtain ⟨ki, eki, hki⟩ := rv_ex (ds := ds) (p := q) (m := 4) (by decide)
  obtain ⟨gs, k', y7, y8, e2, g1, g2, g3⟩ := cv_loop (ds := ds) (wd := wd) (pe := 1 + pe) (ki := ki) (base := base) (by omega) (by omega) hb (x1 := some (.v (.int many))) (seg 0 many) (q + 1) [] none none (fun t ht => by have := mem_seg.mp ht; omega) (by rw [seg_len]; omega) (by rw [seg_len, List.length_nil]; omega) (fun _ h => by cases h)
  rw [seg_len] at g1 g3
  rw [List.length_nil] at g1
  simp only [List.map_nil] at e2
  have z : (seg 0 (1 + pe)).length ≤ sizeLine := zl _ (by rw [seg_len]; omega)
  refine ⟨gs, k', ?_, by omega, g2, by omega⟩
  rw [q_law_curve, b_law_curve]
  simp -implicitDefEqProofs (maxSteps := 1000000) (disch := omega) only [↓bnd_some, bnd_some, eV_q, eVk_v, eVk_o, eW_q, eWk_b, frz_v, frz_o, frzs_nil, frzs_cons, ↓eC_q, ↓e1_q, ↓e2_q, ↓e3_q, e3k_b, ↓eT_q, ↓eTb_q, ↓eTbk_b, eTbk_b, ↓wAnd_q, ↓wOr_q, ↓wNot_q, ↓eAnd_q, ↓eOr_q, ↓eNot_q, ↓eIf_q, ↓eP_q, ↓aNil_q, ↓aCons_q, ↓eL_q, ↓eFz_q, ↓bLst_q, ↓bL_q, ↓b2_q, ↓bCall_q, ↓bPure_q, ↓pV_q, ↓sSeq_q, ↓seqK_nx, seqK_nx, ↓seqK_rt, seqK_rt, ↓seqK_bk, seqK_bk, ↓seqK_ct, seqK_ct, ↓sIf_q, ↓sNil_q, ↓sBk_q, ↓sCt_q, ↓sRet_q, ↓sRetB_q, ↓sRetN_q, ↓sRetV_q, rvK_b, ↓sExp_q, ↓sSet_q, ↓sSetB_q, put_q, ↓sAug_q, augK_v, ↓finK_rt, finK_rt, ↓finK_nx, finK_nx, ↓gN_q, ↓gsNil_q, ↓gsCons_q, ↓gT_q, ↓sAsg_q, ↓iV_q, ↓iA_q, items_lst, items_tup, ↓sFor_q, forL_nil, ↓forK_nx, forK_nx, ↓forK_ct, forK_ct, ↓forK_bk, forK_bk, ↓forK_rt, forK_rt, ↓whK_nx, whK_nx, ↓whK_ct, whK_ct, ↓whK_bk, whK_bk, ↓whK_rt, whK_rt, ↓bLc_q, ↓tYes_q, wipeE_nil, wipeE_cons, ↓pN_q, own_q, ownK_o, mutS_q, mutK_o, ↓mApp_q, ↓mAppB_q, ↓mPop_q, popK_v, ↓sSetIx_q, setK_i, ↓eObj_q, ↓eIxS_q, ↓sSetO_q, dAdd_i, dSub_i, dNeg_i, dLt_i, dLe_i, dGt_i, dGe_i, dEq_i, dNe_i, dTru_b, dTru_i, dTru_l, dTru_t, bAbs_i, bInt_i, bLen_l, bLen_t, bLen_s, dIx_l, dIx_t, bMaxD_2, bMinD_2, ↓dTup_q, ↓eCut_q, ↓oNone_q, ↓oSome_q, ↓oSk_i, oSk_i, List.getElem?_cons_zero, List.getElem?_cons_succ, List.set_cons_zero, List.set_cons_succ, if_true, if_false, Bool.false_eq_true, decide_eq_true_eq, decide_eq_false_iff_not, Bool.not_true, Bool.not_false, List.length_cons, List.length_nil, List.map_cons, List.map_nil, dMul_i, dFdiv_i, dMod_i, List.nil_append, Nat.zero_add, Nat.reduceAdd, Nat.reduceLeDiff, Nat.reduceLT, Nat.reduceEqDiff, le_refl_line, and_self, true_and, and_true, bnd_none, Bool.not_eq_true, eq_self, reduceCtorEq, decide_true, decide_false, B.frzs_v, Nat.add_assoc, draw_ok, ix0, ix1, Int.cast_ofNat_Int, Int.natCast_zero, Int.natCast_one, ↓bLc2_q, ↓bLcB_q, ↓mExt_q, extK_o, ↓bRg3_q, ↓eCut3_q, ↓bCut3_q, zl 4 (by decide), ewd, epe, rng1', List.length_map, z, e1, B.frzs_v, eki, e2, frzs_ints]

theorem law_low' {t b : Int} (hb : 0 < b ∧ b ≤ 10 ^ 30) : pF F_law_low [.int t, .int b] = some (.v (lowD t b)) := by
  rw [pF_q, q_law_low, b_law_low]
  have hg := gcdI_pos (a := t) (show b ≠ 0 by omega)
  have hl := gcdI_le (a := t) (show b ≠ 0 by omega)
  have c : ¬ b < 0 := by omega
  have ge := law_gcd_ok (a := (t.natAbs : Int)) (b := b) (by omega) (by omega)
  have gb : ((b.natAbs : Nat) : Int) = b := by omega
  unfold lowD lowT lowB
  simp -implicitDefEqProofs (maxSteps := 1000000) (disch := omega) only [↓bnd_some, bnd_some, eV_q, eVk_v, eVk_o, eW_q, eWk_b, frz_v, frz_o, frzs_nil, frzs_cons, ↓eC_q, ↓e1_q, ↓e2_q, ↓e3_q, e3k_b, ↓eT_q, ↓eTb_q, ↓eTbk_b, eTbk_b, ↓wAnd_q, ↓wOr_q, ↓wNot_q, ↓eAnd_q, ↓eOr_q, ↓eNot_q, ↓eIf_q, ↓eP_q, ↓aNil_q, ↓aCons_q, ↓eL_q, ↓eFz_q, ↓bLst_q, ↓bL_q, ↓b2_q, ↓bCall_q, ↓bPure_q, ↓pV_q, ↓sSeq_q, ↓seqK_nx, seqK_nx, ↓seqK_rt, seqK_rt, ↓seqK_bk, seqK_bk, ↓seqK_ct, seqK_ct, ↓sIf_q, ↓sNil_q, ↓sBk_q, ↓sCt_q, ↓sRet_q, ↓sRetB_q, ↓sRetN_q, ↓sRetV_q, rvK_b, ↓sExp_q, ↓sSet_q, ↓sSetB_q, put_q, ↓sAug_q, augK_v, ↓finK_rt, finK_rt, ↓finK_nx, finK_nx, ↓gN_q, ↓gsNil_q, ↓gsCons_q, ↓gT_q, ↓sAsg_q, ↓iV_q, ↓iA_q, items_lst, items_tup, ↓sFor_q, forL_nil, ↓forK_nx, forK_nx, ↓forK_ct, forK_ct, ↓forK_bk, forK_bk, ↓forK_rt, forK_rt, ↓whK_nx, whK_nx, ↓whK_ct, whK_ct, ↓whK_bk, whK_bk, ↓whK_rt, whK_rt, ↓bLc_q, ↓tYes_q, wipeE_nil, wipeE_cons, ↓pN_q, own_q, ownK_o, mutS_q, mutK_o, ↓mApp_q, ↓mAppB_q, ↓mPop_q, popK_v, ↓sSetIx_q, setK_i, ↓eObj_q, ↓eIxS_q, ↓sSetO_q, dAdd_i, dSub_i, dNeg_i, dLt_i, dLe_i, dGt_i, dGe_i, dEq_i, dNe_i, dTru_b, dTru_i, dTru_l, dTru_t, bAbs_i, bInt_i, bLen_l, bLen_t, bLen_s, dIx_l, dIx_t, bMaxD_2, bMinD_2, ↓dTup_q, ↓eCut_q, ↓oNone_q, ↓oSome_q, ↓oSk_i, oSk_i, List.getElem?_cons_zero, List.getElem?_cons_succ, List.set_cons_zero, List.set_cons_succ, if_true, if_false, Bool.false_eq_true, decide_eq_true_eq, decide_eq_false_iff_not, Bool.not_true, Bool.not_false, List.length_cons, List.length_nil, List.map_cons, List.map_nil, dMul_i, dFdiv_i, dMod_i, List.nil_append, Nat.zero_add, Nat.reduceAdd, Nat.reduceLeDiff, Nat.reduceLT, Nat.reduceEqDiff, le_refl_line, and_self, true_and, and_true, bnd_none, Bool.not_eq_true, eq_self, reduceCtorEq, decide_true, decide_false, B.frzs_v, Nat.add_assoc, draw_ok, ix0, ix1, Int.cast_ofNat_Int, Int.natCast_zero, Int.natCast_one, ↓bLc2_q, ↓bLcB_q, ↓mExt_q, extK_o, ↓bRg3_q, ↓eCut3_q, ↓bCut3_q, gb, ge, gcdI_abs, c, dTup_q, two_line]
/-! the law's steps -/
abbrev oR (L : List (Int × Int)) : List B := L.map fun p => B.v (Ev.pr p)
theorem frzR (L : List (Int × Int)) : B.frzs (oR L) = L.map Ev.pr := frzs_map _ _
theorem snocR {L : List (Int × Int)} {a b : Int} : oR L ++ [B.v (.tup [.int a, .int b])] = oR (L ++ [(a, b)]) := by simp [Ev.pr]
theorem err_0 : errM xs 0 = (0, 1) := by unfold errM; rw [Nat.zero_min]; rfl
theorem l1_step (h : Lt xs) (hP : 1 ≤ P ∧ P ≤ 100) {L : List (Int × Int)} (hL : L.length ≤ 100) {x0 x1 x2 x3 x6 x7 x10 x11 x12 x13 x14 : Option B} : l1_law ⟨[x0, x1, x2, x3, some (.v (.lst (xs.map .int))), some (.v (.lst (xs.map .int))), x6, x7, some (.o (oR L)), some (.v (.int P)), x10, x11, x12, x13, x14], S, false⟩ = some (.nx, ⟨[x0, x1, x2, x3, some (.v (.lst (xs.map .int))), some (.v (.lst (xs.map .int))), x6, x7, some (.o (oR (L ++ [errM xs P]))), some (.v (.int P)), x10, x11, x12, x13, x14], S, false⟩) := by
  have hl := h.hl
  have e1 := repeats_ok (xs := xs) (P := P) (by omega)
  have e2 := law_repeats_ok (xs := xs) (P := P) (by omega) (by omega)
  have e3 := same_bl (b := repM xs P)
  have e4 := law_errors_ok h hP
  have en : oR (L ++ [errM xs P]) = oR L ++ [B.v (.tup [.int (errM xs P).1, .int (errM xs P).2])] := snocR.symm
  rw [en]
  obtain ⟨O, hO⟩ : ∃ O, O = oR L := ⟨_, rfl⟩
  have lO : O.length < sizeLine := by rw [hO, List.length_map]; exact lt_line (by omega)
  rw [← hO]
  simp -implicitDefEqProofs (maxSteps := 1000000) (disch := omega) only [↓bnd_some, bnd_some, eV_q, eVk_v, eVk_o, eW_q, eWk_b, frz_v, frz_o, frzs_nil, frzs_cons, ↓eC_q, ↓e1_q, ↓e2_q, ↓e3_q, e3k_b, ↓eT_q, ↓eTb_q, ↓eTbk_b, eTbk_b, ↓wAnd_q, ↓wOr_q, ↓wNot_q, ↓eAnd_q, ↓eOr_q, ↓eNot_q, ↓eIf_q, ↓eP_q, ↓aNil_q, ↓aCons_q, ↓eL_q, ↓eFz_q, ↓bLst_q, ↓bL_q, ↓b2_q, ↓bCall_q, ↓bPure_q, ↓pV_q, ↓sSeq_q, ↓seqK_nx, seqK_nx, ↓seqK_rt, seqK_rt, ↓seqK_bk, seqK_bk, ↓seqK_ct, seqK_ct, ↓sIf_q, ↓sNil_q, ↓sBk_q, ↓sCt_q, ↓sRet_q, ↓sRetB_q, ↓sRetN_q, ↓sRetV_q, rvK_b, ↓sExp_q, ↓sSet_q, ↓sSetB_q, put_q, ↓sAug_q, augK_v, ↓finK_rt, finK_rt, ↓finK_nx, finK_nx, ↓gN_q, ↓gsNil_q, ↓gsCons_q, ↓gT_q, ↓sAsg_q, ↓iV_q, ↓iA_q, items_lst, items_tup, ↓sFor_q, forL_nil, ↓forK_nx, forK_nx, ↓forK_ct, forK_ct, ↓forK_bk, forK_bk, ↓forK_rt, forK_rt, ↓whK_nx, whK_nx, ↓whK_ct, whK_ct, ↓whK_bk, whK_bk, ↓whK_rt, whK_rt, ↓bLc_q, ↓tYes_q, wipeE_nil, wipeE_cons, ↓pN_q, own_q, ownK_o, mutS_q, mutK_o, ↓mApp_q, ↓mAppB_q, ↓mPop_q, popK_v, ↓sSetIx_q, setK_i, ↓eObj_q, ↓eIxS_q, ↓sSetO_q, dAdd_i, dSub_i, dNeg_i, dLt_i, dLe_i, dGt_i, dGe_i, dEq_i, dNe_i, dTru_b, dTru_i, dTru_l, dTru_t, bAbs_i, bInt_i, bLen_l, bLen_t, bLen_s, dIx_l, dIx_t, bMaxD_2, bMinD_2, ↓dTup_q, ↓eCut_q, ↓oNone_q, ↓oSome_q, ↓oSk_i, oSk_i, List.getElem?_cons_zero, List.getElem?_cons_succ, List.set_cons_zero, List.set_cons_succ, if_true, if_false, Bool.false_eq_true, decide_eq_true_eq, decide_eq_false_iff_not, Bool.not_true, Bool.not_false, List.length_cons, List.length_nil, List.map_cons, List.map_nil, dMul_i, dFdiv_i, dMod_i, List.nil_append, Nat.zero_add, Nat.reduceAdd, Nat.reduceLeDiff, Nat.reduceLT, Nat.reduceEqDiff, le_refl_line, and_self, true_and, and_true, bnd_none, Bool.not_eq_true, eq_self, reduceCtorEq, decide_true, decide_false, B.frzs_v, Nat.add_assoc, draw_ok, ix0, ix1, Int.cast_ofNat_Int, Int.natCast_zero, Int.natCast_one, ↓bLc2_q, ↓bLcB_q, ↓mExt_q, extK_o, ↓bRg3_q, ↓eCut3_q, ↓bCut3_q, l1_law, e1, e2, e3, e4, lO]
theorem l1_loop (h : Lt xs) {N : Nat} (hN : N ≤ 20) {x0 x1 x2 x3 x6 x7 x10 x11 x12 x13 x14 : Option B} : ∀ (m j : Nat) (x9 : Option B), 1 ≤ j → j + m = N → ∃ y9, forL (gN 9) l1_law ((seg j N).map D.int) ⟨[x0, x1, x2, x3, some (.v (.lst (xs.map .int))), some (.v (.lst (xs.map .int))), x6, x7, some (.o (oR ((List.range j).map (errM xs)))), x9, x10, x11, x12, x13, x14], S, false⟩ = some (.nx, ⟨[x0, x1, x2, x3, some (.v (.lst (xs.map .int))), some (.v (.lst (xs.map .int))), x6, x7, some (.o (oR ((List.range N).map (errM xs)))), y9, x10, x11, x12, x13, x14], S, false⟩)
  | 0, j, x9, _, hj => ⟨x9, by rw [seg_nil (by omega), show j = N by omega]; rfl⟩
  | m + 1, j, x9, h1, hj => by
    have e := l1_step (S := S) h (P := j) (by omega) (L := (List.range j).map (errM xs)) (by rw [List.length_map, List.length_range]; omega) (x0 := x0) (x1 := x1) (x2 := x2) (x3 := x3) (x6 := x6) (x7 := x7) (x10 := x10) (x11 := x11) (x12 := x12) (x13 := x13) (x14 := x14)
    have en : (List.range j).map (errM xs) ++ [errM xs j] = (List.range (j + 1)).map (errM xs) := by rw [List.range_succ, List.map_append]; rfl
    rw [en] at e
    obtain ⟨y9, ih⟩ := l1_loop h hN (x0 := x0) (x1 := x1) (x2 := x2) (x3 := x3) (x6 := x6) (x7 := x7) (x10 := x10) (x11 := x11) (x12 := x12) (x13 := x13) (x14 := x14) m (j + 1) (some (.v (.int (j : Nat)))) (by omega) (by omega)
    refine ⟨y9, ?_⟩
    rw [seg_cons (by omega), List.map_cons, forL_cons]
    obtain ⟨O, hO⟩ : ∃ O, O = oR ((List.range j).map (errM xs)) := ⟨_, rfl⟩
    rw [← hO] at e ⊢
    simp -implicitDefEqProofs (maxSteps := 1000000) (disch := omega) only [↓bnd_some, bnd_some, eV_q, eVk_v, eVk_o, eW_q, eWk_b, frz_v, frz_o, frzs_nil, frzs_cons, ↓eC_q, ↓e1_q, ↓e2_q, ↓e3_q, e3k_b, ↓eT_q, ↓eTb_q, ↓eTbk_b, eTbk_b, ↓wAnd_q, ↓wOr_q, ↓wNot_q, ↓eAnd_q, ↓eOr_q, ↓eNot_q, ↓eIf_q, ↓eP_q, ↓aNil_q, ↓aCons_q, ↓eL_q, ↓eFz_q, ↓bLst_q, ↓bL_q, ↓b2_q, ↓bCall_q, ↓bPure_q, ↓pV_q, ↓sSeq_q, ↓seqK_nx, seqK_nx, ↓seqK_rt, seqK_rt, ↓seqK_bk, seqK_bk, ↓seqK_ct, seqK_ct, ↓sIf_q, ↓sNil_q, ↓sBk_q, ↓sCt_q, ↓sRet_q, ↓sRetB_q, ↓sRetN_q, ↓sRetV_q, rvK_b, ↓sExp_q, ↓sSet_q, ↓sSetB_q, put_q, ↓sAug_q, augK_v, ↓finK_rt, finK_rt, ↓finK_nx, finK_nx, ↓gN_q, ↓gsNil_q, ↓gsCons_q, ↓gT_q, ↓sAsg_q, ↓iV_q, ↓iA_q, items_lst, items_tup, ↓sFor_q, forL_nil, ↓forK_nx, forK_nx, ↓forK_ct, forK_ct, ↓forK_bk, forK_bk, ↓forK_rt, forK_rt, ↓whK_nx, whK_nx, ↓whK_ct, whK_ct, ↓whK_bk, whK_bk, ↓whK_rt, whK_rt, ↓bLc_q, ↓tYes_q, wipeE_nil, wipeE_cons, ↓pN_q, own_q, ownK_o, mutS_q, mutK_o, ↓mApp_q, ↓mAppB_q, ↓mPop_q, popK_v, ↓sSetIx_q, setK_i, ↓eObj_q, ↓eIxS_q, ↓sSetO_q, dAdd_i, dSub_i, dNeg_i, dLt_i, dLe_i, dGt_i, dGe_i, dEq_i, dNe_i, dTru_b, dTru_i, dTru_l, dTru_t, bAbs_i, bInt_i, bLen_l, bLen_t, bLen_s, dIx_l, dIx_t, bMaxD_2, bMinD_2, ↓dTup_q, ↓eCut_q, ↓oNone_q, ↓oSome_q, ↓oSk_i, oSk_i, List.getElem?_cons_zero, List.getElem?_cons_succ, List.set_cons_zero, List.set_cons_succ, if_true, if_false, Bool.false_eq_true, decide_eq_true_eq, decide_eq_false_iff_not, Bool.not_true, Bool.not_false, List.length_cons, List.length_nil, List.map_cons, List.map_nil, dMul_i, dFdiv_i, dMod_i, List.nil_append, Nat.zero_add, Nat.reduceAdd, Nat.reduceLeDiff, Nat.reduceLT, Nat.reduceEqDiff, le_refl_line, and_self, true_and, and_true, bnd_none, Bool.not_eq_true, eq_self, reduceCtorEq, decide_true, decide_false, B.frzs_v, Nat.add_assoc, draw_ok, ix0, ix1, Int.cast_ofNat_Int, Int.natCast_zero, Int.natCast_one, ↓bLc2_q, ↓bLcB_q, ↓mExt_q, extK_o, ↓bRg3_q, ↓eCut3_q, ↓bCut3_q, e]
    exact ih
theorem vN_g {L : List (List Int)} : D.lst (vN L) = Dx.g L := by
  show D.lst (L.map fun r => D.lst (r.map D.int)) = D.lst (L.map Dx.g)
  rfl
theorem same_N (h : Lt xs) (hP : 1 ≤ P ∧ P ≤ 100) : pF F_law_same [.lst (vN (rwsM xs P)), .lst (vN (rwsM xs P))] = some (.v (.bl true)) := by
  rw [vN_g]
  refine same_d (a := rwsM xs P) ⟨by simp; omega, fun r hr => ?_⟩
  obtain ⟨i, hi, rfl⟩ := List.mem_map.mp hr
  have rw0 := h.row (i := (i : Nat)) (p := P) (by omega) (by omega)
  have := rw0.hl
  refine ⟨by omega, fun v hv => ?_⟩
  have := rw0.hx v hv
  show Bd _; unfold Bd; omega
theorem l2_step (h : Lt xs) (hk : k ≤ 10 ^ 8) {x0 x2 x6 x7 x9 x10 x11 x12 x13 x14 : Option B} : ∃ y7 y9, l2_law ⟨[x0, some (.v (.obj 0)), x2, some (.v (.int xs.length)), some (.v (.lst (xs.map .int))), some (.v (.lst (xs.map .int))), x6, x7, some (.o (oR ((List.range (xs.length + 3)).map (errM xs)))), x9, x10, x11, x12, x13, x14], bx ds k, false⟩ = some (.nx, ⟨[x0, some (.v (.obj 0)), x2, some (.v (.int xs.length)), some (.v (.lst (xs.map .int))), some (.v (.lst (xs.map .int))), x6, y7, some (.o (oR ((List.range (xs.length + 3)).map (errM xs)))), y9, x10, x11, x12, x13, x14], bx ds (k + 1), false⟩) := by
  have hl := h.hl
  obtain ⟨v, ev, hv⟩ := rv_ex (ds := ds) (p := k) (m := (xs.length : Int) + 2) (by omega)
  obtain ⟨P, hP⟩ : ∃ P : Nat, 1 + v = P := ⟨(1 + v).toNat, by omega⟩
  have e1 := least_ok h (P := P) (by omega)
  obtain ⟨hB, hT⟩ := err_le h (P := P) (by omega) (j := min P xs.length) (by omega)
  have hB : 1 ≤ (errM xs P).2 ∧ (errM xs P).2 ≤ 8192 := hB
  have hT : -(10 ^ 15) ≤ (errM xs P).1 ∧ (errM xs P).1 ≤ 10 ^ 15 := hT
  have e2 := law_low' (t := (errM xs P).1) (b := (errM xs P).2) (by omega)
  obtain ⟨a1, _, _, a4, a5⟩ := low_spec (t := (errM xs P).1) (b := (errM xs P).2) (by omega)
  have e3 : pF F_law_same [lowD (errM xs P).1 (errM xs P).2, lowD (errM xs P).1 (errM xs P).2] = some (.v (.bl true)) := same_fq (by unfold Bd; omega) (by unfold Bd; omega)
  have ra : atI (((List.range (xs.length + 3)).map (errM xs)).map Ev.pr) ((P : Nat) : Int) = some (.tup [.int (errM xs P).1, .int (errM xs P).2]) := rows_at (by omega)
  have fr := frzR ((List.range (xs.length + 3)).map (errM xs))
  have e4 := folded_ok (xs := xs) (P := P) (by omega) (by omega)
  have e5 := law_folded_ok (xs := xs) (P := P) (by omega) (by omega)
  have e6 := same_N h (P := P) (by omega)
  have fz := frzN (rwsM xs P)
  have k0 : ixN P 0 = some 0 := ixN_k (k := 0) (by omega)
  have g0 : (oN (rwsM xs P))[0]? = some (.o (oI (pk xs (0 : Nat) P))) := by
    rw [List.getElem?_map, List.getElem?_map, List.getElem?_range (by omega)]; rfl
  have l0 : (oI (pk xs (0 : Nat) P)).length < sizeLine := lt_line (by
    have := pk_len (xs := xs) (i := (0 : Nat)) (p := P) (by omega) (by omega)
    rw [List.length_map]; omega)
  have lT : (oN (rwsM xs P)).length = P := by simp
  obtain ⟨R0, hR0⟩ : ∃ R0, R0 = oI (pk xs (0 : Nat) P) := ⟨_, rfl⟩
  rw [← hR0] at g0 l0
  obtain ⟨V, hV⟩ : ∃ V, V = vN (rwsM xs P) := ⟨_, rfl⟩
  rw [← hV] at e5 e6 fz
  obtain ⟨T, hT2⟩ : ∃ T, T = oN (rwsM xs P) := ⟨_, rfl⟩
  rw [← hT2] at e4 fz g0 lT
  have o0 := ownK_1 g0
  have p0 := fun ys => put_1 (ys := ys) g0
  obtain ⟨F, hF⟩ : ∃ F, F = oR ((List.range (xs.length + 3)).map (errM xs)) := ⟨_, rfl⟩
  rw [← hF] at fr ⊢
  obtain ⟨W, hW⟩ : ∃ W, W = ((List.range (xs.length + 3)).map (errM xs)).map Ev.pr := ⟨_, rfl⟩
  rw [← hW] at fr ra
  obtain ⟨Q, hQ⟩ : ∃ Q, Q = lowD (errM xs P).1 (errM xs P).2 := ⟨_, rfl⟩
  rw [← hQ] at e1 e2 e3
  have ls : (T.set 0 (.o (R0 ++ [B.v (.int 0)]))).length < sizeLine := by rw [List.length_set, lT]; exact lt_line (by omega)
  obtain ⟨U, hU⟩ : ∃ U, U = T.set 0 (.o (R0 ++ [B.v (.int 0)])) := ⟨_, rfl⟩
  rw [← hU] at ls
  refine ⟨some (.o (U ++ [B.o []])), some (.v (.int P)), ?_⟩
  simp -implicitDefEqProofs (maxSteps := 1000000) (disch := omega) only [↓bnd_some, bnd_some, eV_q, eVk_v, eVk_o, eW_q, eWk_b, frz_v, frz_o, frzs_nil, frzs_cons, ↓eC_q, ↓e1_q, ↓e2_q, ↓e3_q, e3k_b, ↓eT_q, ↓eTb_q, ↓eTbk_b, eTbk_b, ↓wAnd_q, ↓wOr_q, ↓wNot_q, ↓eAnd_q, ↓eOr_q, ↓eNot_q, ↓eIf_q, ↓eP_q, ↓aNil_q, ↓aCons_q, ↓eL_q, ↓eFz_q, ↓bLst_q, ↓bL_q, ↓b2_q, ↓bCall_q, ↓bPure_q, ↓pV_q, ↓sSeq_q, ↓seqK_nx, seqK_nx, ↓seqK_rt, seqK_rt, ↓seqK_bk, seqK_bk, ↓seqK_ct, seqK_ct, ↓sIf_q, ↓sNil_q, ↓sBk_q, ↓sCt_q, ↓sRet_q, ↓sRetB_q, ↓sRetN_q, ↓sRetV_q, rvK_b, ↓sExp_q, ↓sSet_q, ↓sSetB_q, put_q, ↓sAug_q, augK_v, ↓finK_rt, finK_rt, ↓finK_nx, finK_nx, ↓gN_q, ↓gsNil_q, ↓gsCons_q, ↓gT_q, ↓sAsg_q, ↓iV_q, ↓iA_q, items_lst, items_tup, ↓sFor_q, forL_nil, ↓forK_nx, forK_nx, ↓forK_ct, forK_ct, ↓forK_bk, forK_bk, ↓forK_rt, forK_rt, ↓whK_nx, whK_nx, ↓whK_ct, whK_ct, ↓whK_bk, whK_bk, ↓whK_rt, whK_rt, ↓bLc_q, ↓tYes_q, wipeE_nil, wipeE_cons, ↓pN_q, own_q, ownK_o, mutS_q, mutK_o, ↓mApp_q, ↓mAppB_q, ↓mPop_q, popK_v, ↓sSetIx_q, setK_i, ↓eObj_q, ↓eIxS_q, ↓sSetO_q, dAdd_i, dSub_i, dNeg_i, dLt_i, dLe_i, dGt_i, dGe_i, dEq_i, dNe_i, dTru_b, dTru_i, dTru_l, dTru_t, bAbs_i, bInt_i, bLen_l, bLen_t, bLen_s, dIx_l, dIx_t, bMaxD_2, bMinD_2, ↓dTup_q, ↓eCut_q, ↓oNone_q, ↓oSome_q, ↓oSk_i, oSk_i, List.getElem?_cons_zero, List.getElem?_cons_succ, List.set_cons_zero, List.set_cons_succ, if_true, if_false, Bool.false_eq_true, decide_eq_true_eq, decide_eq_false_iff_not, Bool.not_true, Bool.not_false, List.length_cons, List.length_nil, List.map_cons, List.map_nil, dMul_i, dFdiv_i, dMod_i, List.nil_append, Nat.zero_add, Nat.reduceAdd, Nat.reduceLeDiff, Nat.reduceLT, Nat.reduceEqDiff, le_refl_line, and_self, true_and, and_true, bnd_none, Bool.not_eq_true, eq_self, reduceCtorEq, decide_true, decide_false, B.frzs_v, Nat.add_assoc, draw_ok, ix0, ix1, Int.cast_ofNat_Int, Int.natCast_zero, Int.natCast_one, ↓bLc2_q, ↓bLcB_q, ↓mExt_q, extK_o, ↓bRg3_q, ↓eCut3_q, ↓bCut3_q, l2_law, ev, hP, e1, fr, ra, e2, e3, e4, fz, e5, e6, dNe_ints, pIx_q, pIxK_i, lT, k0, o0, l0, mutK_b, p0, ← hU, ls]
  rfl
theorem l2_loop (h : Lt xs) {x0 x2 x6 x11 x12 x13 x14 : Option B} : ∀ (ts : List D) (k : Nat) (x7 x9 x10 : Option B), k + ts.length ≤ 10 ^ 7 → ∃ y7 y9 y10, forL (gN 10) l2_law ts ⟨[x0, some (.v (.obj 0)), x2, some (.v (.int xs.length)), some (.v (.lst (xs.map .int))), some (.v (.lst (xs.map .int))), x6, x7, some (.o (oR ((List.range (xs.length + 3)).map (errM xs)))), x9, x10, x11, x12, x13, x14], bx ds k, false⟩ = some (.nx, ⟨[x0, some (.v (.obj 0)), x2, some (.v (.int xs.length)), some (.v (.lst (xs.map .int))), some (.v (.lst (xs.map .int))), x6, y7, some (.o (oR ((List.range (xs.length + 3)).map (errM xs)))), y9, y10, x11, x12, x13, x14], bx ds (k + ts.length), false⟩)
  | [], k, x7, x9, x10, _ => ⟨x7, x9, x10, rfl⟩
  | t :: ts, k, x7, x9, x10, hk => by
    rw [List.length_cons] at hk
    obtain ⟨z7, z9, e⟩ := l2_step (ds := ds) h (k := k) (by omega) (x0 := x0) (x2 := x2) (x6 := x6) (x7 := x7) (x9 := x9) (x10 := some (.v t)) (x11 := x11) (x12 := x12) (x13 := x13) (x14 := x14)
    obtain ⟨y7, y9, y10, ih⟩ := l2_loop h (x0 := x0) (x2 := x2) (x6 := x6) (x11 := x11) (x12 := x12) (x13 := x13) (x14 := x14) ts (k + 1) z7 z9 (some (.v t)) (by omega)
    rw [show k + 1 + ts.length = k + (t :: ts).length by rw [List.length_cons]; omega] at ih
    refine ⟨y7, y9, y10, ?_⟩
    rw [forL_cons]
    obtain ⟨O, hO⟩ : ∃ O, O = oR ((List.range (xs.length + 3)).map (errM xs)) := ⟨_, rfl⟩
    rw [← hO] at e ih ⊢
    simp -implicitDefEqProofs (maxSteps := 1000000) (disch := omega) only [↓bnd_some, bnd_some, eV_q, eVk_v, eVk_o, eW_q, eWk_b, frz_v, frz_o, frzs_nil, frzs_cons, ↓eC_q, ↓e1_q, ↓e2_q, ↓e3_q, e3k_b, ↓eT_q, ↓eTb_q, ↓eTbk_b, eTbk_b, ↓wAnd_q, ↓wOr_q, ↓wNot_q, ↓eAnd_q, ↓eOr_q, ↓eNot_q, ↓eIf_q, ↓eP_q, ↓aNil_q, ↓aCons_q, ↓eL_q, ↓eFz_q, ↓bLst_q, ↓bL_q, ↓b2_q, ↓bCall_q, ↓bPure_q, ↓pV_q, ↓sSeq_q, ↓seqK_nx, seqK_nx, ↓seqK_rt, seqK_rt, ↓seqK_bk, seqK_bk, ↓seqK_ct, seqK_ct, ↓sIf_q, ↓sNil_q, ↓sBk_q, ↓sCt_q, ↓sRet_q, ↓sRetB_q, ↓sRetN_q, ↓sRetV_q, rvK_b, ↓sExp_q, ↓sSet_q, ↓sSetB_q, put_q, ↓sAug_q, augK_v, ↓finK_rt, finK_rt, ↓finK_nx, finK_nx, ↓gN_q, ↓gsNil_q, ↓gsCons_q, ↓gT_q, ↓sAsg_q, ↓iV_q, ↓iA_q, items_lst, items_tup, ↓sFor_q, forL_nil, ↓forK_nx, forK_nx, ↓forK_ct, forK_ct, ↓forK_bk, forK_bk, ↓forK_rt, forK_rt, ↓whK_nx, whK_nx, ↓whK_ct, whK_ct, ↓whK_bk, whK_bk, ↓whK_rt, whK_rt, ↓bLc_q, ↓tYes_q, wipeE_nil, wipeE_cons, ↓pN_q, own_q, ownK_o, mutS_q, mutK_o, ↓mApp_q, ↓mAppB_q, ↓mPop_q, popK_v, ↓sSetIx_q, setK_i, ↓eObj_q, ↓eIxS_q, ↓sSetO_q, dAdd_i, dSub_i, dNeg_i, dLt_i, dLe_i, dGt_i, dGe_i, dEq_i, dNe_i, dTru_b, dTru_i, dTru_l, dTru_t, bAbs_i, bInt_i, bLen_l, bLen_t, bLen_s, dIx_l, dIx_t, bMaxD_2, bMinD_2, ↓dTup_q, ↓eCut_q, ↓oNone_q, ↓oSome_q, ↓oSk_i, oSk_i, List.getElem?_cons_zero, List.getElem?_cons_succ, List.set_cons_zero, List.set_cons_succ, if_true, if_false, Bool.false_eq_true, decide_eq_true_eq, decide_eq_false_iff_not, Bool.not_true, Bool.not_false, List.length_cons, List.length_nil, List.map_cons, List.map_nil, dMul_i, dFdiv_i, dMod_i, List.nil_append, Nat.zero_add, Nat.reduceAdd, Nat.reduceLeDiff, Nat.reduceLT, Nat.reduceEqDiff, le_refl_line, and_self, true_and, and_true, bnd_none, Bool.not_eq_true, eq_self, reduceCtorEq, decide_true, decide_false, B.frzs_v, Nat.add_assoc, draw_ok, ix0, ix1, Int.cast_ofNat_Int, Int.natCast_zero, Int.natCast_one, ↓bLc2_q, ↓bLcB_q, ↓mExt_q, extK_o, ↓bRg3_q, ↓eCut3_q, ↓bCut3_q, e]
    exact ih
theorem l3_step (h : Lt xs) (hb : 1 ≤ a ∧ a ≤ b ∧ b < xs.length) {x0 x1 x2 x6 x7 x9 x10 x11 x12 : Option B} : l3_law ⟨[x0, x1, x2, some (.v (.int xs.length)), some (.v (.lst (xs.map .int))), some (.v (.lst (xs.map .int))), x6, x7, some (.o (oR ((List.range (xs.length + 3)).map (errM xs)))), x9, x10, x11, x12, some (.v (.int a)), some (.v (.int b))], S, false⟩ = some (.nx, ⟨[x0, x1, x2, some (.v (.int xs.length)), some (.v (.lst (xs.map .int))), some (.v (.lst (xs.map .int))), x6, x7, some (.o (oR ((List.range (xs.length + 3)).map (errM xs)))), x9, x10, x11, x12, some (.v (.int a)), some (.v (.int b))], S, false⟩) := by
  obtain ⟨A, rfl⟩ : ∃ A : Nat, a = A := ⟨a.toNat, by omega⟩
  obtain ⟨C, rfl⟩ : ∃ C : Nat, b = C := ⟨b.toNat, by omega⟩
  obtain ⟨B', hB, hf, e1⟩ := best_ok h (lo := A) (hi := C) (by omega)
  have e2 := law_best_ok h (N := xs.length + 3) (by omega) (lo := A) (hi := C) (by omega) hf
  have e3 : pF F_law_same [.int (B' : Nat), .int (B' : Nat)] = some (.v (.bl true)) := same_int (by omega)
  have fr : B.frzs (oR ((List.range (xs.length + 3)).map (errM xs))) = rowsD xs (xs.length + 3) := frzR _
  obtain ⟨F, hF⟩ : ∃ F, F = oR ((List.range (xs.length + 3)).map (errM xs)) := ⟨_, rfl⟩
  rw [← hF] at fr ⊢
  obtain ⟨W, hW⟩ : ∃ W, W = rowsD xs (xs.length + 3) := ⟨_, rfl⟩
  rw [← hW] at fr e2
  simp -implicitDefEqProofs (maxSteps := 1000000) (disch := omega) only [↓bnd_some, bnd_some, eV_q, eVk_v, eVk_o, eW_q, eWk_b, frz_v, frz_o, frzs_nil, frzs_cons, ↓eC_q, ↓e1_q, ↓e2_q, ↓e3_q, e3k_b, ↓eT_q, ↓eTb_q, ↓eTbk_b, eTbk_b, ↓wAnd_q, ↓wOr_q, ↓wNot_q, ↓eAnd_q, ↓eOr_q, ↓eNot_q, ↓eIf_q, ↓eP_q, ↓aNil_q, ↓aCons_q, ↓eL_q, ↓eFz_q, ↓bLst_q, ↓bL_q, ↓b2_q, ↓bCall_q, ↓bPure_q, ↓pV_q, ↓sSeq_q, ↓seqK_nx, seqK_nx, ↓seqK_rt, seqK_rt, ↓seqK_bk, seqK_bk, ↓seqK_ct, seqK_ct, ↓sIf_q, ↓sNil_q, ↓sBk_q, ↓sCt_q, ↓sRet_q, ↓sRetB_q, ↓sRetN_q, ↓sRetV_q, rvK_b, ↓sExp_q, ↓sSet_q, ↓sSetB_q, put_q, ↓sAug_q, augK_v, ↓finK_rt, finK_rt, ↓finK_nx, finK_nx, ↓gN_q, ↓gsNil_q, ↓gsCons_q, ↓gT_q, ↓sAsg_q, ↓iV_q, ↓iA_q, items_lst, items_tup, ↓sFor_q, forL_nil, ↓forK_nx, forK_nx, ↓forK_ct, forK_ct, ↓forK_bk, forK_bk, ↓forK_rt, forK_rt, ↓whK_nx, whK_nx, ↓whK_ct, whK_ct, ↓whK_bk, whK_bk, ↓whK_rt, whK_rt, ↓bLc_q, ↓tYes_q, wipeE_nil, wipeE_cons, ↓pN_q, own_q, ownK_o, mutS_q, mutK_o, ↓mApp_q, ↓mAppB_q, ↓mPop_q, popK_v, ↓sSetIx_q, setK_i, ↓eObj_q, ↓eIxS_q, ↓sSetO_q, dAdd_i, dSub_i, dNeg_i, dLt_i, dLe_i, dGt_i, dGe_i, dEq_i, dNe_i, dTru_b, dTru_i, dTru_l, dTru_t, bAbs_i, bInt_i, bLen_l, bLen_t, bLen_s, dIx_l, dIx_t, bMaxD_2, bMinD_2, ↓dTup_q, ↓eCut_q, ↓oNone_q, ↓oSome_q, ↓oSk_i, oSk_i, List.getElem?_cons_zero, List.getElem?_cons_succ, List.set_cons_zero, List.set_cons_succ, if_true, if_false, Bool.false_eq_true, decide_eq_true_eq, decide_eq_false_iff_not, Bool.not_true, Bool.not_false, List.length_cons, List.length_nil, List.map_cons, List.map_nil, dMul_i, dFdiv_i, dMod_i, List.nil_append, Nat.zero_add, Nat.reduceAdd, Nat.reduceLeDiff, Nat.reduceLT, Nat.reduceEqDiff, le_refl_line, and_self, true_and, and_true, bnd_none, Bool.not_eq_true, eq_self, reduceCtorEq, decide_true, decide_false, B.frzs_v, Nat.add_assoc, draw_ok, ix0, ix1, Int.cast_ofNat_Int, Int.natCast_zero, Int.natCast_one, ↓bLc2_q, ↓bLcB_q, ↓mExt_q, extK_o, ↓bRg3_q, ↓eCut3_q, ↓bCut3_q, l3_law, e1, fr, e2, e3, dNe_ints]
end
end K40

namespace K40
open PySem L2 Ev
section
variable {xs ys us : List Int} {a b c d n w p i pe wd : Int} {ds : List Int} {k P : Nat} {S : Sto}
theorem per_bd (h : Lt xs) : (perM xs).length ≤ 14 ∧ ∀ x ∈ perM xs, -(10 ^ 30) ≤ x ∧ x ≤ 10 ^ 30 := by
  have hl := h.hl
  unfold perM
  constructor
  · refine Nat.le_trans (List.length_filter_le ..) ?_
    rw [seg_len]; omega
  · intro x hx
    have := mem_seg.mp (List.mem_filter.mp hx).1
    omega
theorem l4_step {t : Int} (hk : k ≤ 10 ^ 5) {x0 x3 x4 x5 x6 x7 x8 x9 x10 x11 x12 x13 x14 : Option B} : ∃ (y3 y4 y5 y6 y7 y8 y9 y10 y11 y12 y13 y14 : Option B) (k' : Nat), l4_law ⟨[x0, some (.v (.obj 0)), some (.v (.int t)), x3, x4, x5, x6, x7, x8, x9, x10, x11, x12, x13, x14], bx ds k, false⟩ = some (.nx, ⟨[x0, some (.v (.obj 0)), some (.v (.int t)), y3, y4, y5, y6, y7, y8, y9, y10, y11, y12, y13, y14], bx ds k', false⟩) ∧ k' ≤ k + 200 := by
  obtain ⟨m0, hm0, em⟩ := pick_i (ds := ds) (p := k) (xs := [14, 13, 12, 10, 8, 6, 5, 3, 2, 1]) (by simp) (by simp) (by omega)
  simp only [List.map_cons, List.map_nil] at em
  simp only [List.mem_cons, List.not_mem_nil, or_false] at hm0
  obtain ⟨xs, k1, ec, h1, h2, h3⟩ := curve_ok (ds := ds) (k := k + 1) (many := m0) (by omega) (by omega)
  have hm : m0 = xs.length := by omega
  subst hm
  have h : Lt xs := ⟨h2, by omega⟩
  have hl := h.hl
  have z : xs.length ≤ sizeLine := zl _ (by omega)
  obtain ⟨pb1, pb2⟩ := per_bd h
  have lc : ∀ x8 x10 x11 x12 x13 x14, lcL [9] (gN 9) c1_law (eV 9) ((seg 1 (xs.length : Int)).map D.int) ⟨[x0, some (.v (.obj 0)), some (.v (.int t)), some (.v (.int xs.length)), some (.v (.lst (xs.map .int))), some (.v (.lst (xs.map .int))), x6, x7, x8, none, x10, x11, x12, x13, x14], bx ds k1, false⟩ = some ((perM xs).map D.int, ⟨[x0, some (.v (.obj 0)), some (.v (.int t)), some (.v (.int xs.length)), some (.v (.lst (xs.map .int))), some (.v (.lst (xs.map .int))), x6, x7, x8, none, x10, x11, x12, x13, x14], bx ds k1, false⟩) := fun x8 x10 x11 x12 x13 x14 => by
    refine lcL_map (g := D.int) (fun p => repM xs p.toNat) D.int _ fun p hp => ?_
    have hp := mem_seg.mp hp
    obtain ⟨Q, rfl⟩ : ∃ Q : Nat, p = Q := ⟨p.toNat, by omega⟩
    have e := law_repeats_ok (xs := xs) (P := Q) (by omega) (by omega)
    rw [Int.toNat_natCast]
    constructor
    · intro h
      rw [h] at e
      simp -implicitDefEqProofs (maxSteps := 1000000) (disch := omega) only [↓bnd_some, bnd_some, eV_q, eVk_v, eVk_o, eW_q, eWk_b, frz_v, frz_o, frzs_nil, frzs_cons, ↓eC_q, ↓e1_q, ↓e2_q, ↓e3_q, e3k_b, ↓eT_q, ↓eTb_q, ↓eTbk_b, eTbk_b, ↓wAnd_q, ↓wOr_q, ↓wNot_q, ↓eAnd_q, ↓eOr_q, ↓eNot_q, ↓eIf_q, ↓eP_q, ↓aNil_q, ↓aCons_q, ↓eL_q, ↓eFz_q, ↓bLst_q, ↓bL_q, ↓b2_q, ↓bCall_q, ↓bPure_q, ↓pV_q, ↓sSeq_q, ↓seqK_nx, seqK_nx, ↓seqK_rt, seqK_rt, ↓seqK_bk, seqK_bk, ↓seqK_ct, seqK_ct, ↓sIf_q, ↓sNil_q, ↓sBk_q, ↓sCt_q, ↓sRet_q, ↓sRetB_q, ↓sRetN_q, ↓sRetV_q, rvK_b, ↓sExp_q, ↓sSet_q, ↓sSetB_q, put_q, ↓sAug_q, augK_v, ↓finK_rt, finK_rt, ↓finK_nx, finK_nx, ↓gN_q, ↓gsNil_q, ↓gsCons_q, ↓gT_q, ↓sAsg_q, ↓iV_q, ↓iA_q, items_lst, items_tup, ↓sFor_q, forL_nil, ↓forK_nx, forK_nx, ↓forK_ct, forK_ct, ↓forK_bk, forK_bk, ↓forK_rt, forK_rt, ↓whK_nx, whK_nx, ↓whK_ct, whK_ct, ↓whK_bk, whK_bk, ↓whK_rt, whK_rt, ↓bLc_q, ↓tYes_q, wipeE_nil, wipeE_cons, ↓pN_q, own_q, ownK_o, mutS_q, mutK_o, ↓mApp_q, ↓mAppB_q, ↓mPop_q, popK_v, ↓sSetIx_q, setK_i, ↓eObj_q, ↓eIxS_q, ↓sSetO_q, dAdd_i, dSub_i, dNeg_i, dLt_i, dLe_i, dGt_i, dGe_i, dEq_i, dNe_i, dTru_b, dTru_i, dTru_l, dTru_t, bAbs_i, bInt_i, bLen_l, bLen_t, bLen_s, dIx_l, dIx_t, bMaxD_2, bMinD_2, ↓dTup_q, ↓eCut_q, ↓oNone_q, ↓oSome_q, ↓oSk_i, oSk_i, List.getElem?_cons_zero, List.getElem?_cons_succ, List.set_cons_zero, List.set_cons_succ, if_true, if_false, Bool.false_eq_true, decide_eq_true_eq, decide_eq_false_iff_not, Bool.not_true, Bool.not_false, List.length_cons, List.length_nil, List.map_cons, List.map_nil, dMul_i, dFdiv_i, dMod_i, List.nil_append, Nat.zero_add, Nat.reduceAdd, Nat.reduceLeDiff, Nat.reduceLT, Nat.reduceEqDiff, le_refl_line, and_self, true_and, and_true, bnd_none, Bool.not_eq_true, eq_self, reduceCtorEq, decide_true, decide_false, B.frzs_v, Nat.add_assoc, draw_ok, ix0, ix1, Int.cast_ofNat_Int, Int.natCast_zero, Int.natCast_one, ↓bLc2_q, ↓bLcB_q, ↓mExt_q, extK_o, ↓bRg3_q, ↓eCut3_q, ↓bCut3_q, lcS, c1_law, e]
    · intro h
      rw [h] at e
      simp -implicitDefEqProofs (maxSteps := 1000000) (disch := omega) only [↓bnd_some, bnd_some, eV_q, eVk_v, eVk_o, eW_q, eWk_b, frz_v, frz_o, frzs_nil, frzs_cons, ↓eC_q, ↓e1_q, ↓e2_q, ↓e3_q, e3k_b, ↓eT_q, ↓eTb_q, ↓eTbk_b, eTbk_b, ↓wAnd_q, ↓wOr_q, ↓wNot_q, ↓eAnd_q, ↓eOr_q, ↓eNot_q, ↓eIf_q, ↓eP_q, ↓aNil_q, ↓aCons_q, ↓eL_q, ↓eFz_q, ↓bLst_q, ↓bL_q, ↓b2_q, ↓bCall_q, ↓bPure_q, ↓pV_q, ↓sSeq_q, ↓seqK_nx, seqK_nx, ↓seqK_rt, seqK_rt, ↓seqK_bk, seqK_bk, ↓seqK_ct, seqK_ct, ↓sIf_q, ↓sNil_q, ↓sBk_q, ↓sCt_q, ↓sRet_q, ↓sRetB_q, ↓sRetN_q, ↓sRetV_q, rvK_b, ↓sExp_q, ↓sSet_q, ↓sSetB_q, put_q, ↓sAug_q, augK_v, ↓finK_rt, finK_rt, ↓finK_nx, finK_nx, ↓gN_q, ↓gsNil_q, ↓gsCons_q, ↓gT_q, ↓sAsg_q, ↓iV_q, ↓iA_q, items_lst, items_tup, ↓sFor_q, forL_nil, ↓forK_nx, forK_nx, ↓forK_ct, forK_ct, ↓forK_bk, forK_bk, ↓forK_rt, forK_rt, ↓whK_nx, whK_nx, ↓whK_ct, whK_ct, ↓whK_bk, whK_bk, ↓whK_rt, whK_rt, ↓bLc_q, ↓tYes_q, wipeE_nil, wipeE_cons, ↓pN_q, own_q, ownK_o, mutS_q, mutK_o, ↓mApp_q, ↓mAppB_q, ↓mPop_q, popK_v, ↓sSetIx_q, setK_i, ↓eObj_q, ↓eIxS_q, ↓sSetO_q, dAdd_i, dSub_i, dNeg_i, dLt_i, dLe_i, dGt_i, dGe_i, dEq_i, dNe_i, dTru_b, dTru_i, dTru_l, dTru_t, bAbs_i, bInt_i, bLen_l, bLen_t, bLen_s, dIx_l, dIx_t, bMaxD_2, bMinD_2, ↓dTup_q, ↓eCut_q, ↓oNone_q, ↓oSome_q, ↓oSk_i, oSk_i, List.getElem?_cons_zero, List.getElem?_cons_succ, List.set_cons_zero, List.set_cons_succ, if_true, if_false, Bool.false_eq_true, decide_eq_true_eq, decide_eq_false_iff_not, Bool.not_true, Bool.not_false, List.length_cons, List.length_nil, List.map_cons, List.map_nil, dMul_i, dFdiv_i, dMod_i, List.nil_append, Nat.zero_add, Nat.reduceAdd, Nat.reduceLeDiff, Nat.reduceLT, Nat.reduceEqDiff, le_refl_line, and_self, true_and, and_true, bnd_none, Bool.not_eq_true, eq_self, reduceCtorEq, decide_true, decide_false, B.frzs_v, Nat.add_assoc, draw_ok, ix0, ix1, Int.cast_ofNat_Int, Int.natCast_zero, Int.natCast_one, ↓bLc2_q, ↓bLcB_q, ↓mExt_q, extK_o, ↓bRg3_q, ↓eCut3_q, ↓bCut3_q, lcS, c1_law, e]
  have zs : (seg 1 (xs.length : Int)).length ≤ sizeLine := zl _ (by rw [seg_len]; omega)
  have e1 := periods_ok (xs := xs) (by omega)
  have e2 := same_ints (xs := perM xs) (by omega) pb2
  have fp : B.frzs (oI (perM xs)) = (perM xs).map D.int := frzs_ints
  obtain ⟨PM, hPM⟩ : ∃ PM, PM = perM xs := ⟨_, rfl⟩
  rw [← hPM] at lc e1 e2 fp pb1
  obtain ⟨O, hO⟩ : ∃ O, O = oI PM := ⟨_, rfl⟩
  have lO : O.length < sizeLine := by rw [hO, List.length_map]; exact lt_line (by omega)
  rw [← hO] at e1 fp
  obtain ⟨y9, el1⟩ := l1_loop (S := bx ds k1) h (N := xs.length + 3) (by omega) (x0 := x0) (x1 := some (.v (.obj 0))) (x2 := some (.v (.int t))) (x3 := some (.v (.int xs.length))) (x6 := some (.v (.lst (PM.map .int)))) (x7 := some (.o (O ++ [B.v (.int 0)]))) (x10 := x10) (x11 := x11) (x12 := x12) (x13 := x13) (x14 := x14) (xs.length + 2) 1 none (by omega) (by omega)
  have r1 : oR ((List.range 1).map (errM xs)) = [B.v (.tup [.int 0, .int 1])] := by
    show [B.v (Ev.pr (errM xs 0))] = _
    rw [err_0]; rfl
  rw [r1, show ((xs.length + 3 : Nat) : Int) = (xs.length : Int) + 3 by omega] at el1
  have el1 : forL (gN 9) l1_law ((seg 1 ((xs.length : Int) + 3)).map D.int) _ = _ := el1
  obtain ⟨z7, z9, z10, el2⟩ := l2_loop (ds := ds) h (x0 := x0) (x2 := some (.v (.int t))) (x6 := some (.v (.lst (PM.map .int)))) (x11 := x11) (x12 := x12) (x13 := x13) (x14 := x14) ((seg 0 4).map D.int) k1 (some (.o (O ++ [B.v (.int 0)]))) y9 x10 (by rw [List.length_map, seg_len, show ((4 : Int) - 0).toNat = 4 from rfl]; omega)
  rw [List.length_map, seg_len, show ((4 : Int) - 0).toNat = 4 from rfl] at el2
  obtain ⟨k2, hk2⟩ : ∃ k2, k2 = k1 + 4 := ⟨_, rfl⟩
  rw [← hk2] at el2
  have s3 := fun (S : Sto) (a b : Int) (hb : 1 ≤ a ∧ a ≤ b ∧ b < xs.length) x0 x1 x2 x6 x7 x9 x10 x11 x12 => l3_step (S := S) (a := a) (b := b) h hb (x0 := x0) (x1 := x1) (x2 := x2) (x6 := x6) (x7 := x7) (x9 := x9) (x10 := x10) (x11 := x11) (x12 := x12)
  by_cases c1 : (1 : Int) < xs.length
  · obtain ⟨lo, elo, hlo⟩ := rv_ex (ds := ds) (p := k2) (m := (xs.length : Int) - 1) (by omega)
    obtain ⟨hi, ehi, hhi⟩ := rv_ex (ds := ds) (p := k2 + 1) (m := (xs.length : Int) - (1 + lo)) (by omega)
    have t1 := fun S x0 x1 x2 x6 x7 x9 x10 x11 x12 => s3 S (1 + lo) (1 + lo + hi) (by omega) x0 x1 x2 x6 x7 x9 x10 x11 x12
    have t2 := fun S x0 x1 x2 x6 x7 x9 x10 x11 x12 => s3 S 1 ((xs.length : Int) - 1) (by omega) x0 x1 x2 x6 x7 x9 x10 x11 x12
    refine ⟨some (.v (.int xs.length)), some (.v (.lst (xs.map .int))), some (.v (.lst (xs.map .int))), some (.v (.lst (PM.map .int))), z7, some (.o (oR ((List.range (xs.length + 3)).map (errM xs)))), z9, z10, some (.v (.int (1 + lo))), some (.v (.int (1 + lo + hi))), some (.v (.int 1)), some (.v (.int ((xs.length : Int) - 1))), k2 + 2, ?_, by omega⟩
    obtain ⟨F, hF⟩ : ∃ F, F = oR ((List.range (xs.length + 3)).map (errM xs)) := ⟨_, rfl⟩
    rw [← hF] at el1 el2 t1 t2 ⊢
    by_cases c2 : t = 0
    · simp -implicitDefEqProofs (maxSteps := 1000000) (disch := omega) only [↓bnd_some, bnd_some, eV_q, eVk_v, eVk_o, eW_q, eWk_b, frz_v, frz_o, frzs_nil, frzs_cons, ↓eC_q, ↓e1_q, ↓e2_q, ↓e3_q, e3k_b, ↓eT_q, ↓eTb_q, ↓eTbk_b, eTbk_b, ↓wAnd_q, ↓wOr_q, ↓wNot_q, ↓eAnd_q, ↓eOr_q, ↓eNot_q, ↓eIf_q, ↓eP_q, ↓aNil_q, ↓aCons_q, ↓eL_q, ↓eFz_q, ↓bLst_q, ↓bL_q, ↓b2_q, ↓bCall_q, ↓bPure_q, ↓pV_q, ↓sSeq_q, ↓seqK_nx, seqK_nx, ↓seqK_rt, seqK_rt, ↓seqK_bk, seqK_bk, ↓seqK_ct, seqK_ct, ↓sIf_q, ↓sNil_q, ↓sBk_q, ↓sCt_q, ↓sRet_q, ↓sRetB_q, ↓sRetN_q, ↓sRetV_q, rvK_b, ↓sExp_q, ↓sSet_q, ↓sSetB_q, put_q, ↓sAug_q, augK_v, ↓finK_rt, finK_rt, ↓finK_nx, finK_nx, ↓gN_q, ↓gsNil_q, ↓gsCons_q, ↓gT_q, ↓sAsg_q, ↓iV_q, ↓iA_q, items_lst, items_tup, ↓sFor_q, forL_nil, ↓forK_nx, forK_nx, ↓forK_ct, forK_ct, ↓forK_bk, forK_bk, ↓forK_rt, forK_rt, ↓whK_nx, whK_nx, ↓whK_ct, whK_ct, ↓whK_bk, whK_bk, ↓whK_rt, whK_rt, ↓bLc_q, ↓tYes_q, wipeE_nil, wipeE_cons, ↓pN_q, own_q, ownK_o, mutS_q, mutK_o, ↓mApp_q, ↓mAppB_q, ↓mPop_q, popK_v, ↓sSetIx_q, setK_i, ↓eObj_q, ↓eIxS_q, ↓sSetO_q, dAdd_i, dSub_i, dNeg_i, dLt_i, dLe_i, dGt_i, dGe_i, dEq_i, dNe_i, dTru_b, dTru_i, dTru_l, dTru_t, bAbs_i, bInt_i, bLen_l, bLen_t, bLen_s, dIx_l, dIx_t, bMaxD_2, bMinD_2, ↓dTup_q, ↓eCut_q, ↓oNone_q, ↓oSome_q, ↓oSk_i, oSk_i, List.getElem?_cons_zero, List.getElem?_cons_succ, List.set_cons_zero, List.set_cons_succ, if_true, if_false, Bool.false_eq_true, decide_eq_true_eq, decide_eq_false_iff_not, Bool.not_true, Bool.not_false, List.length_cons, List.length_nil, List.map_cons, List.map_nil, dMul_i, dFdiv_i, dMod_i, List.nil_append, Nat.zero_add, Nat.reduceAdd, Nat.reduceLeDiff, Nat.reduceLT, Nat.reduceEqDiff, le_refl_line, and_self, true_and, and_true, bnd_none, Bool.not_eq_true, eq_self, reduceCtorEq, decide_true, decide_false, B.frzs_v, Nat.add_assoc, draw_ok, ix0, ix1, Int.cast_ofNat_Int, Int.natCast_zero, Int.natCast_one, ↓bLc2_q, ↓bLcB_q, ↓mExt_q, extK_o, ↓bRg3_q, ↓eCut3_q, ↓bCut3_q, l4_law, zl 1 (by decide), zl 10 (by decide), em, ec, bList_l, List.length_map, z, rng2', zs, lc, B.frzs_v, e1, fp, e2, dNe_ints, lO, dEq_i, eq_true c2, dTup_q, two_line, el1, rng1', el2, eq_true c1, elo, ehi, forL_cons, t1, t2]
    · simp -implicitDefEqProofs (maxSteps := 1000000) (disch := omega) only [↓bnd_some, bnd_some, eV_q, eVk_v, eVk_o, eW_q, eWk_b, frz_v, frz_o, frzs_nil, frzs_cons, ↓eC_q, ↓e1_q, ↓e2_q, ↓e3_q, e3k_b, ↓eT_q, ↓eTb_q, ↓eTbk_b, eTbk_b, ↓wAnd_q, ↓wOr_q, ↓wNot_q, ↓eAnd_q, ↓eOr_q, ↓eNot_q, ↓eIf_q, ↓eP_q, ↓aNil_q, ↓aCons_q, ↓eL_q, ↓eFz_q, ↓bLst_q, ↓bL_q, ↓b2_q, ↓bCall_q, ↓bPure_q, ↓pV_q, ↓sSeq_q, ↓seqK_nx, seqK_nx, ↓seqK_rt, seqK_rt, ↓seqK_bk, seqK_bk, ↓seqK_ct, seqK_ct, ↓sIf_q, ↓sNil_q, ↓sBk_q, ↓sCt_q, ↓sRet_q, ↓sRetB_q, ↓sRetN_q, ↓sRetV_q, rvK_b, ↓sExp_q, ↓sSet_q, ↓sSetB_q, put_q, ↓sAug_q, augK_v, ↓finK_rt, finK_rt, ↓finK_nx, finK_nx, ↓gN_q, ↓gsNil_q, ↓gsCons_q, ↓gT_q, ↓sAsg_q, ↓iV_q, ↓iA_q, items_lst, items_tup, ↓sFor_q, forL_nil, ↓forK_nx, forK_nx, ↓forK_ct, forK_ct, ↓forK_bk, forK_bk, ↓forK_rt, forK_rt, ↓whK_nx, whK_nx, ↓whK_ct, whK_ct, ↓whK_bk, whK_bk, ↓whK_rt, whK_rt, ↓bLc_q, ↓tYes_q, wipeE_nil, wipeE_cons, ↓pN_q, own_q, ownK_o, mutS_q, mutK_o, ↓mApp_q, ↓mAppB_q, ↓mPop_q, popK_v, ↓sSetIx_q, setK_i, ↓eObj_q, ↓eIxS_q, ↓sSetO_q, dAdd_i, dSub_i, dNeg_i, dLt_i, dLe_i, dGt_i, dGe_i, dEq_i, dNe_i, dTru_b, dTru_i, dTru_l, dTru_t, bAbs_i, bInt_i, bLen_l, bLen_t, bLen_s, dIx_l, dIx_t, bMaxD_2, bMinD_2, ↓dTup_q, ↓eCut_q, ↓oNone_q, ↓oSome_q, ↓oSk_i, oSk_i, List.getElem?_cons_zero, List.getElem?_cons_succ, List.set_cons_zero, List.set_cons_succ, if_true, if_false, Bool.false_eq_true, decide_eq_true_eq, decide_eq_false_iff_not, Bool.not_true, Bool.not_false, List.length_cons, List.length_nil, List.map_cons, List.map_nil, dMul_i, dFdiv_i, dMod_i, List.nil_append, Nat.zero_add, Nat.reduceAdd, Nat.reduceLeDiff, Nat.reduceLT, Nat.reduceEqDiff, le_refl_line, and_self, true_and, and_true, bnd_none, Bool.not_eq_true, eq_self, reduceCtorEq, decide_true, decide_false, B.frzs_v, Nat.add_assoc, draw_ok, ix0, ix1, Int.cast_ofNat_Int, Int.natCast_zero, Int.natCast_one, ↓bLc2_q, ↓bLcB_q, ↓mExt_q, extK_o, ↓bRg3_q, ↓eCut3_q, ↓bCut3_q, l4_law, zl 1 (by decide), zl 10 (by decide), em, ec, bList_l, List.length_map, z, rng2', zs, lc, B.frzs_v, e1, fp, e2, dNe_ints, lO, dEq_i, c2, dTup_q, two_line, el1, rng1', el2, eq_true c1, elo, ehi, forL_cons, t1, t2]
  · refine ⟨some (.v (.int xs.length)), some (.v (.lst (xs.map .int))), some (.v (.lst (xs.map .int))), some (.v (.lst (PM.map .int))), z7, some (.o (oR ((List.range (xs.length + 3)).map (errM xs)))), z9, z10, x11, x12, x13, x14, k2, ?_, by omega⟩
    obtain ⟨F, hF⟩ : ∃ F, F = oR ((List.range (xs.length + 3)).map (errM xs)) := ⟨_, rfl⟩
    rw [← hF] at el1 el2 ⊢
    by_cases c2 : t = 0
    · simp -implicitDefEqProofs (maxSteps := 1000000) (disch := omega) only [↓bnd_some, bnd_some, eV_q, eVk_v, eVk_o, eW_q, eWk_b, frz_v, frz_o, frzs_nil, frzs_cons, ↓eC_q, ↓e1_q, ↓e2_q, ↓e3_q, e3k_b, ↓eT_q, ↓eTb_q, ↓eTbk_b, eTbk_b, ↓wAnd_q, ↓wOr_q, ↓wNot_q, ↓eAnd_q, ↓eOr_q, ↓eNot_q, ↓eIf_q, ↓eP_q, ↓aNil_q, ↓aCons_q, ↓eL_q, ↓eFz_q, ↓bLst_q, ↓bL_q, ↓b2_q, ↓bCall_q, ↓bPure_q, ↓pV_q, ↓sSeq_q, ↓seqK_nx, seqK_nx, ↓seqK_rt, seqK_rt, ↓seqK_bk, seqK_bk, ↓seqK_ct, seqK_ct, ↓sIf_q, ↓sNil_q, ↓sBk_q, ↓sCt_q, ↓sRet_q, ↓sRetB_q, ↓sRetN_q, ↓sRetV_q, rvK_b, ↓sExp_q, ↓sSet_q, ↓sSetB_q, put_q, ↓sAug_q, augK_v, ↓finK_rt, finK_rt, ↓finK_nx, finK_nx, ↓gN_q, ↓gsNil_q, ↓gsCons_q, ↓gT_q, ↓sAsg_q, ↓iV_q, ↓iA_q, items_lst, items_tup, ↓sFor_q, forL_nil, ↓forK_nx, forK_nx, ↓forK_ct, forK_ct, ↓forK_bk, forK_bk, ↓forK_rt, forK_rt, ↓whK_nx, whK_nx, ↓whK_ct, whK_ct, ↓whK_bk, whK_bk, ↓whK_rt, whK_rt, ↓bLc_q, ↓tYes_q, wipeE_nil, wipeE_cons, ↓pN_q, own_q, ownK_o, mutS_q, mutK_o, ↓mApp_q, ↓mAppB_q, ↓mPop_q, popK_v, ↓sSetIx_q, setK_i, ↓eObj_q, ↓eIxS_q, ↓sSetO_q, dAdd_i, dSub_i, dNeg_i, dLt_i, dLe_i, dGt_i, dGe_i, dEq_i, dNe_i, dTru_b, dTru_i, dTru_l, dTru_t, bAbs_i, bInt_i, bLen_l, bLen_t, bLen_s, dIx_l, dIx_t, bMaxD_2, bMinD_2, ↓dTup_q, ↓eCut_q, ↓oNone_q, ↓oSome_q, ↓oSk_i, oSk_i, List.getElem?_cons_zero, List.getElem?_cons_succ, List.set_cons_zero, List.set_cons_succ, if_true, if_false, Bool.false_eq_true, decide_eq_true_eq, decide_eq_false_iff_not, Bool.not_true, Bool.not_false, List.length_cons, List.length_nil, List.map_cons, List.map_nil, dMul_i, dFdiv_i, dMod_i, List.nil_append, Nat.zero_add, Nat.reduceAdd, Nat.reduceLeDiff, Nat.reduceLT, Nat.reduceEqDiff, le_refl_line, and_self, true_and, and_true, bnd_none, Bool.not_eq_true, eq_self, reduceCtorEq, decide_true, decide_false, B.frzs_v, Nat.add_assoc, draw_ok, ix0, ix1, Int.cast_ofNat_Int, Int.natCast_zero, Int.natCast_one, ↓bLc2_q, ↓bLcB_q, ↓mExt_q, extK_o, ↓bRg3_q, ↓eCut3_q, ↓bCut3_q, l4_law, zl 1 (by decide), zl 10 (by decide), em, ec, bList_l, List.length_map, z, rng2', zs, lc, B.frzs_v, e1, fp, e2, dNe_ints, lO, dEq_i, eq_true c2, dTup_q, two_line, el1, rng1', el2, c1]
    · simp -implicitDefEqProofs (maxSteps := 1000000) (disch := omega) only [↓bnd_some, bnd_some, eV_q, eVk_v, eVk_o, eW_q, eWk_b, frz_v, frz_o, frzs_nil, frzs_cons, ↓eC_q, ↓e1_q, ↓e2_q, ↓e3_q, e3k_b, ↓eT_q, ↓eTb_q, ↓eTbk_b, eTbk_b, ↓wAnd_q, ↓wOr_q, ↓wNot_q, ↓eAnd_q, ↓eOr_q, ↓eNot_q, ↓eIf_q, ↓eP_q, ↓aNil_q, ↓aCons_q, ↓eL_q, ↓eFz_q, ↓bLst_q, ↓bL_q, ↓b2_q, ↓bCall_q, ↓bPure_q, ↓pV_q, ↓sSeq_q, ↓seqK_nx, seqK_nx, ↓seqK_rt, seqK_rt, ↓seqK_bk, seqK_bk, ↓seqK_ct, seqK_ct, ↓sIf_q, ↓sNil_q, ↓sBk_q, ↓sCt_q, ↓sRet_q, ↓sRetB_q, ↓sRetN_q, ↓sRetV_q, rvK_b, ↓sExp_q, ↓sSet_q, ↓sSetB_q, put_q, ↓sAug_q, augK_v, ↓finK_rt, finK_rt, ↓finK_nx, finK_nx, ↓gN_q, ↓gsNil_q, ↓gsCons_q, ↓gT_q, ↓sAsg_q, ↓iV_q, ↓iA_q, items_lst, items_tup, ↓sFor_q, forL_nil, ↓forK_nx, forK_nx, ↓forK_ct, forK_ct, ↓forK_bk, forK_bk, ↓forK_rt, forK_rt, ↓whK_nx, whK_nx, ↓whK_ct, whK_ct, ↓whK_bk, whK_bk, ↓whK_rt, whK_rt, ↓bLc_q, ↓tYes_q, wipeE_nil, wipeE_cons, ↓pN_q, own_q, ownK_o, mutS_q, mutK_o, ↓mApp_q, ↓mAppB_q, ↓mPop_q, popK_v, ↓sSetIx_q, setK_i, ↓eObj_q, ↓eIxS_q, ↓sSetO_q, dAdd_i, dSub_i, dNeg_i, dLt_i, dLe_i, dGt_i, dGe_i, dEq_i, dNe_i, dTru_b, dTru_i, dTru_l, dTru_t, bAbs_i, bInt_i, bLen_l, bLen_t, bLen_s, dIx_l, dIx_t, bMaxD_2, bMinD_2, ↓dTup_q, ↓eCut_q, ↓oNone_q, ↓oSome_q, ↓oSk_i, oSk_i, List.getElem?_cons_zero, List.getElem?_cons_succ, List.set_cons_zero, List.set_cons_succ, if_true, if_false, Bool.false_eq_true, decide_eq_true_eq, decide_eq_false_iff_not, Bool.not_true, Bool.not_false, List.length_cons, List.length_nil, List.map_cons, List.map_nil, dMul_i, dFdiv_i, dMod_i, List.nil_append, Nat.zero_add, Nat.reduceAdd, Nat.reduceLeDiff, Nat.reduceLT, Nat.reduceEqDiff, le_refl_line, and_self, true_and, and_true, bnd_none, Bool.not_eq_true, eq_self, reduceCtorEq, decide_true, decide_false, B.frzs_v, Nat.add_assoc, draw_ok, ix0, ix1, Int.cast_ofNat_Int, Int.natCast_zero, Int.natCast_one, ↓bLc2_q, ↓bLcB_q, ↓mExt_q, extK_o, ↓bRg3_q, ↓eCut3_q, ↓bCut3_q, l4_law, zl 1 (by decide), zl 10 (by decide), em, ec, bList_l, List.length_map, z, rng2', zs, lc, B.frzs_v, e1, fp, e2, dNe_ints, lO, dEq_i, c2, dTup_q, two_line, el1, rng1', el2, c1]
end
end K40

namespace K40
open PySem L2 Ev
theorem l4_loop {ds : List Int} {x0 : Option B} : ∀ (ts : List Int) (k : Nat) (x2 x3 x4 x5 x6 x7 x8 x9 x10 x11 x12 x13 x14 : Option B), k + 200 * ts.length ≤ 10 ^ 5 →
    ∃ s', forL (gN 2) l4_law (ts.map D.int) ⟨[x0, some (.v (.obj 0)), x2, x3, x4, x5, x6, x7, x8, x9, x10, x11, x12, x13, x14], bx ds k, false⟩ = some (.nx, s')
  | [], k, x2, x3, x4, x5, x6, x7, x8, x9, x10, x11, x12, x13, x14, _ => ⟨_, rfl⟩
  | t :: ts, k, x2, x3, x4, x5, x6, x7, x8, x9, x10, x11, x12, x13, x14, hk => by
    rw [List.length_cons] at hk
    obtain ⟨y3, y4, y5, y6, y7, y8, y9, y10, y11, y12, y13, y14, k1, e, h1⟩ := l4_step (ds := ds) (k := k) (t := t) (by omega) (x0 := x0) (x3 := x3) (x4 := x4) (x5 := x5) (x6 := x6) (x7 := x7) (x8 := x8) (x9 := x9) (x10 := x10) (x11 := x11) (x12 := x12) (x13 := x13) (x14 := x14)
    obtain ⟨s', ih⟩ := l4_loop (x0 := x0) ts k1 (some (.v (.int t))) y3 y4 y5 y6 y7 y8 y9 y10 y11 y12 y13 y14 (by omega)
    refine ⟨s', ?_⟩
    rw [List.map_cons, forL_cons]
    simp -implicitDefEqProofs (maxSteps := 1000000) (disch := omega) only [↓bnd_some, bnd_some, eV_q, eVk_v, eVk_o, eW_q, eWk_b, frz_v, frz_o, frzs_nil, frzs_cons, ↓eC_q, ↓e1_q, ↓e2_q, ↓e3_q, e3k_b, ↓eT_q, ↓eTb_q, ↓eTbk_b, eTbk_b, ↓wAnd_q, ↓wOr_q, ↓wNot_q, ↓eAnd_q, ↓eOr_q, ↓eNot_q, ↓eIf_q, ↓eP_q, ↓aNil_q, ↓aCons_q, ↓eL_q, ↓eFz_q, ↓bLst_q, ↓bL_q, ↓b2_q, ↓bCall_q, ↓bPure_q, ↓pV_q, ↓sSeq_q, ↓seqK_nx, seqK_nx, ↓seqK_rt, seqK_rt, ↓seqK_bk, seqK_bk, ↓seqK_ct, seqK_ct, ↓sIf_q, ↓sNil_q, ↓sBk_q, ↓sCt_q, ↓sRet_q, ↓sRetB_q, ↓sRetN_q, ↓sRetV_q, rvK_b, ↓sExp_q, ↓sSet_q, ↓sSetB_q, put_q, ↓sAug_q, augK_v, ↓finK_rt, finK_rt, ↓finK_nx, finK_nx, ↓gN_q, ↓gsNil_q, ↓gsCons_q, ↓gT_q, ↓sAsg_q, ↓iV_q, ↓iA_q, items_lst, items_tup, ↓sFor_q, forL_nil, ↓forK_nx, forK_nx, ↓forK_ct, forK_ct, ↓forK_bk, forK_bk, ↓forK_rt, forK_rt, ↓whK_nx, whK_nx, ↓whK_ct, whK_ct, ↓whK_bk, whK_bk, ↓whK_rt, whK_rt, ↓bLc_q, ↓tYes_q, wipeE_nil, wipeE_cons, ↓pN_q, own_q, ownK_o, mutS_q, mutK_o, ↓mApp_q, ↓mAppB_q, ↓mPop_q, popK_v, ↓sSetIx_q, setK_i, ↓eObj_q, ↓eIxS_q, ↓sSetO_q, dAdd_i, dSub_i, dNeg_i, dLt_i, dLe_i, dGt_i, dGe_i, dEq_i, dNe_i, dTru_b, dTru_i, dTru_l, dTru_t, bAbs_i, bInt_i, bLen_l, bLen_t, bLen_s, dIx_l, dIx_t, bMaxD_2, bMinD_2, ↓dTup_q, ↓eCut_q, ↓oNone_q, ↓oSome_q, ↓oSk_i, oSk_i, List.getElem?_cons_zero, List.getElem?_cons_succ, List.set_cons_zero, List.set_cons_succ, if_true, if_false, Bool.false_eq_true, decide_eq_true_eq, decide_eq_false_iff_not, Bool.not_true, Bool.not_false, List.length_cons, List.length_nil, List.map_cons, List.map_nil, dMul_i, dFdiv_i, dMod_i, List.nil_append, Nat.zero_add, Nat.reduceAdd, Nat.reduceLeDiff, Nat.reduceLT, Nat.reduceEqDiff, le_refl_line, and_self, true_and, and_true, bnd_none, Bool.not_eq_true, eq_self, reduceCtorEq, decide_true, decide_false, B.frzs_v, Nat.add_assoc, draw_ok, ix0, ix1, Int.cast_ofNat_Int, Int.natCast_zero, Int.natCast_one, ↓bLc2_q, ↓bLcB_q, ↓mExt_q, extK_o, ↓bRg3_q, ↓eCut3_q, ↓bCut3_q, e]
    exact ih
theorem law_ok {ns : List Int} (hl : ns.length ≤ 63) (hb : Bits ns) : ∃ S', F_law false [.scr ns] [] = some (.v (.bl true), S') := by
  obtain ⟨ds, ed, hd⟩ := digits_ok hb (a := 0) (b := 20) (by decide)
  have ed2 : pF F_law_digits [.scr ns, .int 0, .int 20] = some (.v (.lst (ds.map .int))) := ed
  have hbx : [Cel.lst [D.lst (ds.map D.int), D.int 0]] = bx ds 0 := rfl
  obtain ⟨⟨env, st, pu⟩, e1⟩ := l4_loop (ds := ds) (x0 := some (.v (.scr ns))) (seg 0 2) 0 none none none none none none none none none none none none none (by rw [seg_len]; decide)
  have h1 : Lt [1, 5, 2, 5, 6] := ⟨by decide, by decide⟩
  have h2 : Lt [1, 2, 1, 2, 1, 2] := ⟨by decide, by decide⟩
  have t1 : pF F_least_errors [.lst [.int 1, .int 5, .int 2, .int 5, .int 6], .int 2] = some (.v (.tup [.int 14, .int 1])) := by
    have := least_ok h1 (P := 2) (by decide)
    rw [show lowD (errM [1, 5, 2, 5, 6] 2).1 (errM [1, 5, 2, 5, 6] 2).2 = .tup [.int 14, .int 1] by
      show fq _ _ = fq _ _
      rw [show errM [1, 5, 2, 5, 6] 2 = (84, 6) by decide +kernel]
      rw [show lowT 84 6 = 14 by decide +kernel, show lowB 84 6 = 1 by decide +kernel]] at this
    exact this
  have t2 : pF F_periods [.lst [.int 3, .int 1, .int 3, .int 1, .int 3]] = some (.o [.v (.int 2), .v (.int 4)]) := by
    have := periods_ok (xs := [3, 1, 3, 1, 3]) (by decide)
    rw [show perM [3, 1, 3, 1, 3] = [2, 4] by decide +kernel] at this
    exact this
  have t3 : pF F_best_period [.lst [.int 1, .int 2, .int 1, .int 2, .int 1, .int 2], .int 1, .int 5] = some (.v (.int 2)) := by
    obtain ⟨B', _, hf, e⟩ := best_ok h2 (lo := 1) (hi := 5) (by decide)
    have q : (List.range' 1 (5 + 1 - 1)).foldl (stB [1, 2, 1, 2, 1, 2]) none = some 2 := by decide +kernel
    rw [q] at hf
    obtain rfl := Option.some.inj hf
    exact e
  have t4 : pF F_folded [.lst [.int 4, .int 5, .int 6], .int 2] = some (.o [.o [.v (.int 4), .v (.int 6)], .o [.v (.int 5)]]) := by
    have := folded_ok (xs := [4, 5, 6]) (P := 2) (by decide) (by decide)
    rw [show rwsM [4, 5, 6] 2 = [[4, 6], [5]] by decide +kernel] at this
    exact this
  have fz : B.frzs [.o [.v (.int 4), .v (.int 6)], .o [.v (.int 5)]] = [.lst [.int 4, .int 6], .lst [.int 5]] := rfl
  have fz2 : B.frzs [.v (.int 2), .v (.int 4)] = [.int 2, .int 4] := rfl
  have s1 : pF F_law_same [.tup [.int 14, .int 1], .tup [.int 14, .int 1]] = some (.v (.bl true)) := same_fq (by unfold Bd; omega) (by unfold Bd; omega)
  have s2 : pF F_law_same [.lst [.int 2, .int 4], .lst [.int 2, .int 4]] = some (.v (.bl true)) := same_ints (xs := [2, 4]) (by decide) (by decide)
  have s3 : pF F_law_same [.int 2, .int 2] = some (.v (.bl true)) := same_int (by omega)
  have s4 : pF F_law_same [.lst [.lst [.int 4, .int 6], .lst [.int 5]], .lst [.lst [.int 4, .int 6], .lst [.int 5]]] = some (.v (.bl true)) := same_d (a := ([[4, 6], [5]] : List (List Int))) ⟨by decide, fun r hr => by
    simp only [List.mem_cons, List.not_mem_nil, or_false] at hr
    refine ⟨by rcases hr with rfl | rfl <;> decide, fun v hv => ?_⟩
    show Bd v
    unfold Bd
    rcases hr with rfl | rfl <;> simp only [List.mem_cons, List.not_mem_nil, or_false] at hv <;> omega⟩
  rw [q_law, b_law]
  simp -implicitDefEqProofs (maxSteps := 1000000) (disch := omega) only [↓bnd_some, bnd_some, eV_q, eVk_v, eVk_o, eW_q, eWk_b, frz_v, frz_o, frzs_nil, frzs_cons, ↓eC_q, ↓e1_q, ↓e2_q, ↓e3_q, e3k_b, ↓eT_q, ↓eTb_q, ↓eTbk_b, eTbk_b, ↓wAnd_q, ↓wOr_q, ↓wNot_q, ↓eAnd_q, ↓eOr_q, ↓eNot_q, ↓eIf_q, ↓eP_q, ↓aNil_q, ↓aCons_q, ↓eL_q, ↓eFz_q, ↓bLst_q, ↓bL_q, ↓b2_q, ↓bCall_q, ↓bPure_q, ↓pV_q, ↓sSeq_q, ↓seqK_nx, seqK_nx, ↓seqK_rt, seqK_rt, ↓seqK_bk, seqK_bk, ↓seqK_ct, seqK_ct, ↓sIf_q, ↓sNil_q, ↓sBk_q, ↓sCt_q, ↓sRet_q, ↓sRetB_q, ↓sRetN_q, ↓sRetV_q, rvK_b, ↓sExp_q, ↓sSet_q, ↓sSetB_q, put_q, ↓sAug_q, augK_v, ↓finK_rt, finK_rt, ↓finK_nx, finK_nx, ↓gN_q, ↓gsNil_q, ↓gsCons_q, ↓gT_q, ↓sAsg_q, ↓iV_q, ↓iA_q, items_lst, items_tup, ↓sFor_q, forL_nil, ↓forK_nx, forK_nx, ↓forK_ct, forK_ct, ↓forK_bk, forK_bk, ↓forK_rt, forK_rt, ↓whK_nx, whK_nx, ↓whK_ct, whK_ct, ↓whK_bk, whK_bk, ↓whK_rt, whK_rt, ↓bLc_q, ↓tYes_q, wipeE_nil, wipeE_cons, ↓pN_q, own_q, ownK_o, mutS_q, mutK_o, ↓mApp_q, ↓mAppB_q, ↓mPop_q, popK_v, ↓sSetIx_q, setK_i, ↓eObj_q, ↓eIxS_q, ↓sSetO_q, dAdd_i, dSub_i, dNeg_i, dLt_i, dLe_i, dGt_i, dGe_i, dEq_i, dNe_i, dTru_b, dTru_i, dTru_l, dTru_t, bAbs_i, bInt_i, bLen_l, bLen_t, bLen_s, dIx_l, dIx_t, bMaxD_2, bMinD_2, ↓dTup_q, ↓eCut_q, ↓oNone_q, ↓oSome_q, ↓oSk_i, oSk_i, List.getElem?_cons_zero, List.getElem?_cons_succ, List.set_cons_zero, List.set_cons_succ, if_true, if_false, Bool.false_eq_true, decide_eq_true_eq, decide_eq_false_iff_not, Bool.not_true, Bool.not_false, List.length_cons, List.length_nil, List.map_cons, List.map_nil, dMul_i, dFdiv_i, dMod_i, List.nil_append, Nat.zero_add, Nat.reduceAdd, Nat.reduceLeDiff, Nat.reduceLT, Nat.reduceEqDiff, le_refl_line, and_self, true_and, and_true, bnd_none, Bool.not_eq_true, eq_self, reduceCtorEq, decide_true, decide_false, B.frzs_v, Nat.add_assoc, draw_ok, ix0, ix1, Int.cast_ofNat_Int, Int.natCast_zero, Int.natCast_one, ↓bLc2_q, ↓bLcB_q, ↓mExt_q, extK_o, ↓bRg3_q, ↓eCut3_q, ↓bCut3_q, ed2, hbx, rng1', e1, zl 5 (by decide), zl 6 (by decide), zl 3 (by decide), zl 2 (by decide), zl 1 (by decide), dTup_q, t1, t2, t3, t4, fz, fz2, s1, s2, s3, s4]
  exact ⟨_, rfl⟩
end K40

namespace K40
open PySem PySem.Spec PyProof.Rows L2 Ev
def mkD (n : Str) (s : Stmt) : He.DefD := ⟨(n, none), n, n, defArgs s, defBody s, defScope s, [], []⟩
def hfn : List He.DefD := ([mkD "fraction" (top 2), mkD "is_less" (top 3), mkD "repeats" (top 5), mkD "periods" (top 6), mkD "least_errors" (top 7), mkD "best_period" (top 8), mkD "folded" (top 9), mkD "_law_cell" (top 11), mkD "_law_digits" (top 12), mkD "_law_draw" (top 13), mkD "_law_pick" (top 14), mkD "_law_same" (top 15), mkD "_law_gcd" (top 16), mkD "_law_low" (top 17), mkD "_law_curve" (top 18), mkD "_law_repeats" (top 19), mkD "_law_folded" (top 20), mkD "_law_errors" (top 21), mkD "_law_best" (top 22), mkD "law" (top 23)] : List He.DefD)
def hfa : List He.Fa := ([.glo "fraction", .glo "is_less", .glo "repeats", .glo "periods", .glo "least_errors", .glo "best_period", .glo "folded", .glo "_law_cell", .glo "_law_digits", .glo "_law_draw", .glo "_law_pick", .glo "_law_same", .glo "_law_gcd", .glo "_law_low", .glo "_law_curve", .glo "_law_repeats", .glo "_law_folded", .glo "_law_errors", .glo "_law_best", .glo "law", .free "abs", .free "all", .free "bool", .free "int", .free "isinstance", .free "len", .free "list", .free "min", .free "range", .free "repr"] : List He.Fa) ++ ([.free "str", .free "sum", .free "tuple", .free "zip"] : List He.Fa)
abbrev hR : PySem.W.OpenRow := PySem.W.OpenLaw.row PySem.Challenge.rw_starlands_k40_whole_periods_of_light_cur
def hfb : List (Str × String) := [("gcd", "math.gcd")]
abbrev hk : PySem.W.Hook := hookB 4 hfa hfn hfb
def hob (s : PySem.W.SharedT) : He.AlD × Bool := obsB 4 hfa hfn hfb (HandSHeadRun.getT s)
theorem hob_eq (s : PySem.W.SharedT) : hob s = hk.obs s.abs := obsB_eq (HandSHeadRun.getT_eq s)
def loose : List Str := (["fraction", "is_less", "repeats", "periods", "least_errors", "best_period", "folded", "_law_cell", "_law_digits", "_law_draw", "_law_pick", "_law_same", "_law_gcd", "_law_low", "_law_curve", "_law_repeats", "_law_folded", "_law_errors", "_law_best"] : List Str)
theorem hrun (w : World) : HandSHeadRun.RunEqI hR (PySem.W.view hR.prog [0, 23]) hk hob 6000 loose w := by
  unfold HandSHeadRun.RunEqI
  kernel_rfl
theorem txt {K : PySem.W.Frag} {h : Heap} {mg : Str → Option Value} (X : K.In h) (G : h.Ns mainGlobals mg) (c : He.SaysD hfa hfn K) (c2 : biB hfb K = true) : Txt K mg where
  d_fraction := c.def_ 0 rfl
  m_fraction := He.glo_ok X G (c.fact 0 rfl)
  d_is_less := c.def_ 1 rfl
  m_is_less := He.glo_ok X G (c.fact 1 rfl)
  d_repeats := c.def_ 2 rfl
  m_repeats := He.glo_ok X G (c.fact 2 rfl)
  d_periods := c.def_ 3 rfl
  m_periods := He.glo_ok X G (c.fact 3 rfl)
  d_least_errors := c.def_ 4 rfl
  m_least_errors := He.glo_ok X G (c.fact 4 rfl)
  d_best_period := c.def_ 5 rfl
  m_best_period := He.glo_ok X G (c.fact 5 rfl)
  d_folded := c.def_ 6 rfl
  m_folded := He.glo_ok X G (c.fact 6 rfl)
  d_law_cell := c.def_ 7 rfl
  m_law_cell := He.glo_ok X G (c.fact 7 rfl)
  d_law_digits := c.def_ 8 rfl
  m_law_digits := He.glo_ok X G (c.fact 8 rfl)
  d_law_draw := c.def_ 9 rfl
  m_law_draw := He.glo_ok X G (c.fact 9 rfl)
  d_law_pick := c.def_ 10 rfl
  m_law_pick := He.glo_ok X G (c.fact 10 rfl)
  d_law_same := c.def_ 11 rfl
  m_law_same := He.glo_ok X G (c.fact 11 rfl)
  d_law_gcd := c.def_ 12 rfl
  m_law_gcd := He.glo_ok X G (c.fact 12 rfl)
  d_law_low := c.def_ 13 rfl
  m_law_low := He.glo_ok X G (c.fact 13 rfl)
  d_law_curve := c.def_ 14 rfl
  m_law_curve := He.glo_ok X G (c.fact 14 rfl)
  d_law_repeats := c.def_ 15 rfl
  m_law_repeats := He.glo_ok X G (c.fact 15 rfl)
  d_law_folded := c.def_ 16 rfl
  m_law_folded := He.glo_ok X G (c.fact 16 rfl)
  d_law_errors := c.def_ 17 rfl
  m_law_errors := He.glo_ok X G (c.fact 17 rfl)
  d_law_best := c.def_ 18 rfl
  m_law_best := He.glo_ok X G (c.fact 18 rfl)
  d_law := c.def_ 19 rfl
  m_law := He.glo_ok X G (c.fact 19 rfl)
  n_abs := He.free_ok X G (c.fact 20 rfl)
  n_all := He.free_ok X G (c.fact 21 rfl)
  n_bool := He.free_ok X G (c.fact 22 rfl)
  n_int := He.free_ok X G (c.fact 23 rfl)
  n_isinstance := He.free_ok X G (c.fact 24 rfl)
  n_len := He.free_ok X G (c.fact 25 rfl)
  n_list := He.free_ok X G (c.fact 26 rfl)
  n_min := He.free_ok X G (c.fact 27 rfl)
  n_range := He.free_ok X G (c.fact 28 rfl)
  n_repr := He.free_ok X G (c.fact 29 rfl)
  n_str := He.free_ok X G (c.fact 30 rfl)
  n_sum := He.free_ok X G (c.fact 31 rfl)
  n_tuple := He.free_ok X G (c.fact 32 rfl)
  n_zip := He.free_ok X G (c.fact 33 rfl)
  gcd := bi_ok X G c2 0 rfl
end K40
open PySem PySem.W PySem.Calls PyProof.Rows
theorem PySem.Challenge.cw_starlands_k40_whole_periods_of_light_cur_holds : PySem.Challenge.rw_starlands_k40_whole_periods_of_light_cur.Holds := by
  w_on; o_law
  refine HandSHeadRun.head_imp (r := OpenLaw.row PySem.Challenge.rw_starlands_k40_whole_periods_of_light_cur) (q := view (OpenLaw.row PySem.Challenge.rw_starlands_k40_whole_periods_of_light_cur).prog [0, 23]) (H := K40.hk) (ob := K40.hob) (M := 6000) (loose := K40.loose) (d := HandSHeadRun.topDef (OpenLaw.row PySem.Challenge.rw_starlands_k40_whole_periods_of_light_cur).prog 23) (kwd := []) K40.hob_eq
    K40.hrun (by kernel_rfl) (by kernel_rfl) (by kernel_rfl) (by rfl) (by first | assumption | decide +kernel) (by decide +kernel) ⟨rfl, rfl, rfl, rfl, rfl, by decide +kernel⟩ ?hw ?hc
  case hw => w_witness2
  case hc =>
    refine Ev.walk_ofEB (l := PySem.Challenge.rw_starlands_k40_whole_periods_of_light_cur) (n := 63) (k := 11) (x := "script") (CX := L2.CX0) rfl (by decide) (by kernel_rfl) ⟨rfl, by decide, by decide⟩ ?F (fun _ _ _ _ z => z)
    intro w mg fa h Y G hmg0
    obtain ⟨K, KX, c, c2⟩ := Y
    have T := K40.txt KX G c c2
    have hmg : mg ("law" : PySem.Str) = some (.ref fa) := by
      have e : (HandSHeadRun.topDef (OpenLaw.row PySem.Challenge.rw_starlands_k40_whole_periods_of_light_cur).prog 23).name = ("law" : PySem.Str) := by kernel_rfl
      rw [← e]
      exact hmg0
    obtain ⟨fd, F⟩ := T.d_law
    have e := hmg.symm.trans T.m_law
    cases e
    have b := L2.FunD.bindsA (ps := ["script"]) F fun _ _ _ _ _ _ us hl => match us, hl with | [_], _ => rfl
    exact ⟨K, fd, Ev.spF K 1 (K40.F_law), KX, fun s v => b s [v] rfl, fun H a ns hl hb _ hS => Ev.law_end hS (K40.law_ok hl hb), fun base _ _ => K40.okf_law T F⟩
