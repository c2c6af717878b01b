import PyProof.Rows.All
import Wide.All
import OpenK.AllK
import Wide.FinOn
import KE.KStateDown
import HandS.ForMost
import HandS.Wide
import HandS.Style
import HandS.Zip
import HandS.Conv
import HandS.TupAny
import HandS.Property
import HandS.IsInst
import HandS.Flow
import HandS.Defaults
import HandS.HeadHook1
import HandS.HeadHook2
import HandS.Head0
import HandS.Head1
import HandS.Head2
import HandS.HeadNt
import HandS.Head3
import HandS.HeadEnd
import HandS.Set
import HandS.SetFor
import HandS.Strs
import KE.SortData
import HandS.Star
import HandS.Flt
import HandS.ClsMeth
import HandS.Dict
import HandS.DictComp
import HandS.Iter
import HandS.Walk
import HandS.List
import KE.LtData
import KE.DatumOrd
import HandS.Text
import HandS.Codes
import PyProof.TupleOfStr
import PySem.Challenge.RW_deepcuts_k45_whole_great_rooms_between
set_option Elab.async false
set_option linter.all false
set_option maxRecDepth 100000
set_option maxHeartbeats 0
/-! P0: the pure layer's core: data D, how values stand for them (Rep), slots, environments, the judgements. -/
namespace PL
open PySem PySem.Spec PyProof.Rows L2

abbrev St := L2.St
inductive D where
  | non | bl (b : Bool) | int (i : Int) | str (x : Str) | tup (xs : List D) | lst (xs : List D)
  | lab (ns : List Str) (r : Bool) | stp (k : Str) (w : D) | pip (f : D) | btw (lo hi : D) (ns : List Str)
  | fls (xs : List Int)
/-- where the classes stand -/
structure CA where
  L : Addr
  S : Addr
  P : Addr
  B : Addr

def Ex (H H' : Hp) : Prop := ∀ a o, H a = some o → H' a = some o
theorem Ex.refl (H : Hp) : Ex H H := fun _ _ h => h
theorem Ex.trans {H H1 H2 : Hp} (a : Ex H H1) (b : Ex H1 H2) : Ex H H2 := fun x o h => b x o (a x o h)
theorem Ex.new {H : Hp} {p : Addr} {o : HO} (h : H p = none) : Ex H (upd H p o) := fun a u e => by
  rw [upd_ne (ne_of_none e h)]
  exact e
theorem Ex.none {H H' : Hp} {p : Addr} (e : Ex H H') (h : H' p = none) : H p = none := by
  cases q : H p with
  | none => rfl
  | some o =>
    rw [e p o q] at h
    cases h
theorem exL {K : PySem.W.Frag} {H H' : Hp} {a : Addr} {xs : List V} (e : Ex H H') (h : SqL K H a xs) : SqL K H' a xs := by
  rcases h with (h | ⟨o, h⟩) | h
  · exact .inl (.inl (e _ _ h))
  · exact .inl (.inr ⟨o, e _ _ h⟩)
  · exact .inr h
theorem exT {K : PySem.W.Frag} {H H' : Hp} {a : Addr} {xs : List V} (e : Ex H H') (h : SqT K H a xs) : SqT K H' a xs := by
  rcases h with (h | ⟨o, h⟩) | h
  · exact .inl (.inl (e _ _ h))
  · exact .inl (.inr ⟨o, e _ _ h⟩)
  · exact .inr h

/-- a text of signs there are -/
abbrev SOk (x : Str) : Prop := PyData.strOk x = true
mutual
inductive Rep (K : PySem.W.Frag) (T : CA) (B : Hp) : D → V → Prop
  | non : Rep K T B .non .non
  | bl (b : Bool) : Rep K T B (.bl b) (.bl b)
  | int (i : Int) : Rep K T B (.int i) (.int i)
  | str (x : Str) (ok : SOk x) : Rep K T B (.str x) (.str x)
  | tup {a : Addr} {vs : List V} {ds : List D} : SqT K B a vs → Reps K T B ds vs → Rep K T B (.tup ds) (.ref a)
  | lst {a : Addr} {vs : List V} {ds : List D} : B a = some (.lst vs) → Reps K T B ds vs → Rep K T B (.lst ds) (.ref a)
  | lab {a dx : Addr} {n : V} {ns : List Str} {r : Bool} : B a = some (.ins T.L dx [("own_names", n), ("own_rest", .bl r)]) → Rep K T B (.tup (ns.map D.str)) n → Rep K T B (.lab ns r) (.ref a)
  | stp {a dx : Addr} {u : V} {k : Str} {w : D} (ok : SOk k) : B a = some (.ins T.S dx [("own_kind", .str k), ("own_what", u)]) → Rep K T B w u → Rep K T B (.stp k w) (.ref a)
  | pip {a dx : Addr} {st u : V} {f : D} : B a = some (.ins T.P dx [("own_steps", st), ("own_form", u)]) → Rep K T B f u → Rep K T B (.pip f) (.ref a)
  | btw {a dx : Addr} {l h n : V} {lo hi : D} {ns : List Str} : B a = some (.ins T.B dx [("own_low", l), ("own_high", h), ("own_names", n)]) → Rep K T B lo l → Rep K T B hi h → Rep K T B (.tup (ns.map D.str)) n → Rep K T B (.btw lo hi ns) (.ref a)
  | fls {a : Addr} {xs : List Int} : SqL K B a (xs.map V.int) → Rep K T B (.fls xs) (.ref a)
inductive Reps (K : PySem.W.Frag) (T : CA) (B : Hp) : List D → List V → Prop
  | nil : Reps K T B [] []
  | cons {d : D} {ds : List D} {v : V} {vs : List V} : Rep K T B d v → Reps K T B ds vs → Reps K T B (d :: ds) (v :: vs)
end
section
variable {K : PySem.W.Frag} {T : CA} {B B' H H' : Hp}
mutual
theorem Rep.mono (e : Ex B B') : ∀ {d : D} {v : V}, Rep K T B d v → Rep K T B' d v
  | _, _, .non => .non
  | _, _, .bl b => .bl b
  | _, _, .int i => .int i
  | _, _, .str x ok => .str x ok
  | _, _, .tup h r => .tup (exT e h) (Reps.mono e r)
  | _, _, .lst h r => .lst (e _ _ h) (Reps.mono e r)
  | _, _, .lab h r => .lab (e _ _ h) (Rep.mono e r)
  | _, _, .stp ok h r => .stp ok (e _ _ h) (Rep.mono e r)
  | _, _, .pip h r => .pip (e _ _ h) (Rep.mono e r)
  | _, _, .btw h r1 r2 r3 => .btw (e _ _ h) (Rep.mono e r1) (Rep.mono e r2) (Rep.mono e r3)
  | _, _, .fls h => .fls (exL e h)
theorem Reps.mono (e : Ex B B') : ∀ {ds : List D} {vs : List V}, Reps K T B ds vs → Reps K T B' ds vs
  | _, _, .nil => .nil
  | _, _, .cons r q => .cons (Rep.mono e r) (Reps.mono e q)
end
theorem Reps.length : ∀ {ds : List D} {vs : List V}, Reps K T B ds vs → ds.length = vs.length
  | _, _, .nil => rfl
  | _, _, .cons _ q => congrArg Nat.succ (Reps.length q)
theorem Reps.get : ∀ {ds : List D} {vs : List V} {i : Nat} {v : V}, Reps K T B ds vs → vs[i]? = some v → ∃ d, ds[i]? = some d ∧ Rep K T B d v
  | _, _, _, _, .nil, e => by simp at e
  | _, _, 0, _, .cons r _, e => by
    simp at e
    subst e
    exact ⟨_, rfl, r⟩
  | _, _, i + 1, v, .cons _ q, e => by
    obtain ⟨d, h1, h2⟩ := Reps.get (i := i) (v := v) q (by simpa using e)
    exact ⟨d, by simpa using h1, h2⟩
theorem Reps.getD : ∀ {ds : List D} {vs : List V} {i : Nat} {d : D}, Reps K T B ds vs → ds[i]? = some d → ∃ v, vs[i]? = some v ∧ Rep K T B d v
  | _, _, _, _, .nil, e => by simp at e
  | _, _, 0, _, .cons r _, e => by
    simp at e
    subst e
    exact ⟨_, rfl, r⟩
  | _, _, i + 1, v, .cons _ q, e => by
    obtain ⟨d, h1, h2⟩ := Reps.getD (i := i) (d := v) q (by simpa using e)
    exact ⟨d, by simpa using h1, h2⟩
theorem Reps.append : ∀ {ds es : List D} {vs us : List V}, Reps K T B ds vs → Reps K T B es us → Reps K T B (ds ++ es) (vs ++ us)
  | _, _, _, _, .nil, q => q
  | _, _, _, _, .cons r s, q => .cons r (Reps.append s q)
theorem Reps.one {d : D} {v : V} (r : Rep K T B d v) : Reps K T B [d] [v] := .cons r .nil
theorem Reps.take : ∀ {ds : List D} {vs : List V} (n : Nat), Reps K T B ds vs → Reps K T B (ds.take n) (vs.take n)
  | _, _, 0, _ => .nil
  | _, _, n + 1, .nil => .nil
  | _, _, n + 1, .cons r q => .cons r (Reps.take n q)
theorem Reps.drop : ∀ {ds : List D} {vs : List V} (n : Nat), Reps K T B ds vs → Reps K T B (ds.drop n) (vs.drop n)
  | _, _, 0, r => r
  | _, _, n + 1, .nil => .nil
  | _, _, n + 1, .cons r q => Reps.drop n q
theorem Reps.reverse : ∀ {ds : List D} {vs : List V}, Reps K T B ds vs → Reps K T B ds.reverse vs.reverse
  | _, _, .nil => .nil
  | _, _, .cons r q => by
    rw [List.reverse_cons, List.reverse_cons]
    exact (Reps.reverse q).append (.one r)
theorem Reps.ints : ∀ {ns : List Int} {vs : List V}, Reps K T B (ns.map D.int) vs → vs = ns.map V.int
  | [], _, .nil => rfl
  | n :: ns, _, .cons r q => by
    cases r
    rw [Reps.ints q]
    rfl
theorem Reps.strs' : ∀ {ns : List Str} {vs : List V}, Reps K T B (ns.map D.str) vs → vs = ns.map V.str
  | [], _, .nil => rfl
  | n :: ns, _, .cons r q => by
    cases r
    rw [Reps.strs' q]
    rfl
theorem Reps.bls : ∀ {ns : List Bool} {vs : List V}, Reps K T B (ns.map D.bl) vs → vs = ns.map V.bl
  | [], _, .nil => rfl
  | n :: ns, _, .cons r q => by
    cases r
    rw [Reps.bls q]
    rfl
theorem reps_bls : ∀ ns : List Bool, Reps K T B (ns.map D.bl) (ns.map V.bl)
  | [] => .nil
  | n :: ns => .cons (.bl n) (reps_bls ns)
theorem reps_ints : ∀ ns : List Int, Reps K T B (ns.map D.int) (ns.map V.int)
  | [] => .nil
  | n :: ns => .cons (.int n) (reps_ints ns)
theorem reps_strs : ∀ ns : List Str, (∀ n ∈ ns, SOk n) → Reps K T B (ns.map D.str) (ns.map V.str)
  | [], _ => .nil
  | n :: ns, h => .cons (.str n (h n List.mem_cons_self)) (reps_strs ns fun m hm => h m (List.mem_cons_of_mem _ hm))
theorem Reps.oks : ∀ {ns : List Str} {vs : List V}, Reps K T B (ns.map D.str) vs → ∀ n ∈ ns, SOk n
  | [], _, .nil => fun n h => by cases h
  | n :: ns, _, .cons r q => fun m hm => by
    rcases List.mem_cons.mp hm with e | hm
    · subst e
      cases r
      assumption
    · exact Reps.oks q m hm

/-! ### growth: B the part that data lie in, H all that is tracked -/
structure Gr (B H B' H' : Hp) : Prop where
  b : Ex B B'
  h : Ex H H'
  s : Ex B' H'
  f : ∀ a o, H a = some o → B a = none → B' a = none
theorem Gr.refl (s : Ex B H) : Gr B H B H := ⟨Ex.refl B, Ex.refl H, s, fun _ _ _ h => h⟩
theorem Gr.trans {B1 H1 B2 H2 : Hp} (x : Gr B H B1 H1) (y : Gr B1 H1 B2 H2) : Gr B H B2 H2 :=
  ⟨x.b.trans y.b, x.h.trans y.h, y.s, fun a o e n => y.f a o (x.h a o e) (x.f a o e n)⟩
/-- a new object that data lie in -/
theorem Gr.new (s : Ex B H) {p : Addr} {o : HO} (n : H p = none) : Gr B H (upd B p o) (upd H p o) := by
  refine ⟨.new (s.none n), .new n, fun a u e => ?_, fun a u e m => ?_⟩
  · by_cases q : a = p
    · subst q
      rw [upd_same] at e ⊢
      exact e
    · rw [upd_ne q] at e ⊢
      exact s a u e
  · have q : a ≠ p := fun z => by
      rw [z, n] at e
      cases e
    rw [upd_ne q]
    exact m
/-- a new object of its owner's alone -/
theorem Gr.own (s : Ex B H) {p : Addr} {o : HO} (n : H p = none) : Gr B H B (upd H p o) :=
  ⟨Ex.refl B, .new n, fun a u e => by
    have q : a ≠ p := fun z => by
      rw [z] at e
      rw [s p u e] at n
      cases n
    rw [upd_ne q]
    exact s a u e, fun _ _ _ m => m⟩

/-! ### environments -/
/-- a box of draws: three ints, the last one counts up, n more at least -/
def UrnO (n : Nat) (o : HO) : Prop := ∃ a b c : Int, o = .lst [.int a, .int b, .int c] ∧ 0 ≤ c ∧ c + n ≤ 1000000000000000000
inductive Sl where
  | un
  | va (d : D)
  | ow (ds : List D)
  | dc (ks : List Str) (ds : List D)
  | rf (v : V)
  | ur (n : Nat)
/-- how a body was entered: what may be changed, the part of data, all -/
structure Ent where
  M : Addr → Prop
  O : HO → Prop
  B : Hp
  H : Hp
def SlotOk (K : PySem.W.Frag) (T : CA) (E : Ent) (B H : Hp) (x : Option (Option V)) : Sl → Prop
  | .un => True
  | .rf v => x = some (some v)
  | .ur n => ∃ l o F, x = some (some (.ref l)) ∧ (E.M l ∧ ∀ a, E.M a → a = l) ∧ (∀ o, UrnO F o → E.O o) ∧ H l = some o ∧ UrnO (F + n) o ∧ B l = none
  | .va d => ∃ v, x = some (some v) ∧ Rep K T B d v
  | .ow ds => ∃ l vs, x = some (some (.ref l)) ∧ H l = some (.lst vs) ∧ B l = none ∧ E.H l = none ∧ Reps K T B ds vs
  | .dc ks ds => ∃ l vs, x = some (some (.ref l)) ∧ H l = some (.dK ((ks.map Sum.inr).zip vs)) ∧ B l = none ∧ ks.length = vs.length ∧ (∀ k ∈ ks, SOk k) ∧ Reps K T B ds vs
/-- from the entry to here -/
structure Frm (E : Ent) (B H : Hp) : Prop where
  s : Ex B H
  b : Ex E.B B
  h : ∀ a o, E.H a = some o → ¬ E.M a → H a = some o
  f : ∀ a o, E.H a = some o → E.B a = none → B a = none
theorem Frm.gr {E : Ent} (x : Frm E B H) (g : Gr B H B' H') (em : ∀ a, E.M a → ∃ o, H a = some o ∧ E.O o ∧ B a = none) : Frm E B' H' :=
  ⟨g.s, x.b.trans g.b, fun a o e m => g.h a o (x.h a o e m), fun a o e n => by
    cases q : H a with
    | some u => exact g.f a u q (x.f a o e n)
    | none =>
      cases Classical.em (E.M a) with
      | inl m =>
        obtain ⟨u, hu, _⟩ := em a m
        rw [q] at hu
        cases hu
      | inr m =>
        rw [x.h a o e m] at q
        cases q⟩
structure EnvR (K : PySem.W.Frag) (T : CA) (E : Ent) (σ : St) (B H : Hp) (ρ : List Sl) : Prop where
  fr : Frm E B H
  em : ∀ a, E.M a → ∃ o, H a = some o ∧ E.O o ∧ B a = none
  e0 : ∀ a, E.M a → E.H a ≠ none
  len : σ.length = ρ.length
  at_ : ∀ (i : Nat) (s : Sl), ρ[i]? = some s → SlotOk K T E B H σ[i]? s
  ap : ∀ (i j : Nat) (ds es : List D) (l : Addr), i ≠ j → ρ[i]? = some (.ow ds) → ρ[j]? = some (.ow es) → σ[i]? = some (some (.ref l)) → σ[j]? ≠ some (some (.ref l))
section
variable {E : Ent} {σ : St} {ρ : List Sl} {i : Nat} {d : D} {v : V}
theorem SlotOk.gr {x : Option (Option V)} {s : Sl} (h : SlotOk K T E B H x s) (g : Gr B H B' H') : SlotOk K T E B' H' x s := by
  cases s with
  | un => exact True.intro
  | rf v => exact h
  | va d =>
    obtain ⟨v, e, r⟩ := h
    exact ⟨v, e, r.mono g.b⟩
  | ow ds =>
    obtain ⟨l, vs, e, h1, h2, h3, r⟩ := h
    exact ⟨l, vs, e, g.h _ _ h1, g.f _ _ h1 h2, h3, r.mono g.b⟩
  | dc ks ds =>
    obtain ⟨l, vs, e, h1, h2, h3, h4, r⟩ := h
    exact ⟨l, vs, e, g.h _ _ h1, g.f _ _ h1 h2, h3, h4, r.mono g.b⟩
  | ur n =>
    obtain ⟨l, o, F, e, h1, h2, h3, h4, h5⟩ := h
    exact ⟨l, o, F, e, h1, h2, g.h _ _ h3, h4, g.f _ _ h3 h5⟩
theorem EnvR.gr (x : EnvR K T E σ B H ρ) (g : Gr B H B' H') : EnvR K T E σ B' H' ρ :=
  ⟨x.fr.gr g x.em, fun a m => let ⟨o, h, q, n⟩ := x.em a m; ⟨o, g.h a o h, q, g.f a o h n⟩, x.e0, x.len, fun i s e => (x.at_ i s e).gr g, x.ap⟩
theorem EnvR.bh (x : EnvR K T E σ B H ρ) : Ex B H := x.fr.s
theorem EnvR.get (x : EnvR K T E σ B H ρ) (e : ρ[i]? = some (.va d)) : ∃ v, σ[i]? = some (some v) ∧ Rep K T B d v := x.at_ i _ e
theorem EnvR.set (x : EnvR K T E σ B H ρ) (r : Rep K T B d v) : EnvR K T E (σ.set i (some v)) B H (ρ.set i (.va d)) := by
  refine ⟨x.fr, x.em, x.e0, by rw [List.length_set, List.length_set]; exact x.len, fun j s e => ?_, fun j k ds es l hjk e1 e2 e3 => ?_⟩
  · by_cases q : i = j
    · subst q
      have hi : i < ρ.length := by
        by_cases z : i < ρ.length
        · exact z
        · rw [List.getElem?_eq_none (by rw [List.length_set]; omega)] at e
          cases e
      rw [List.getElem?_set_self hi] at e
      cases e
      exact ⟨v, List.getElem?_set_self (by rw [x.len]; exact hi), r⟩
    · rw [List.getElem?_set_ne q] at e ⊢
      exact x.at_ j s e
  · have ne : ∀ {m : Nat} {ws : List D}, (ρ.set i (.va d))[m]? = some (Sl.ow ws) → i ≠ m ∧ ρ[m]? = some (.ow ws) := fun {m ws} e => by
      by_cases q : i = m
      · subst q
        have hi : i < ρ.length := by
          by_cases z : i < ρ.length
          · exact z
          · rw [List.getElem?_eq_none (by rw [List.length_set]; omega)] at e
            cases e
        rw [List.getElem?_set_self hi] at e
        cases e
      · rw [List.getElem?_set_ne q] at e
        exact ⟨q, e⟩
    obtain ⟨n1, f1⟩ := ne e1
    obtain ⟨n2, f2⟩ := ne e2
    rw [List.getElem?_set_ne n1] at e3
    rw [List.getElem?_set_ne n2]
    exact x.ap j k ds es l hjk f1 f2 e3
/-- a list of its own at a slot -/
theorem EnvR.setOw {l : Addr} {vs : List V} {ds : List D} (x : EnvR K T E σ B H ρ) (h1 : H l = some (.lst vs)) (h2 : B l = none) (h3 : E.H l = none) (r : Reps K T B ds vs)
    (nw : ∀ (j : Nat) (es : List D), ρ[j]? = some (.ow es) → σ[j]? ≠ some (some (.ref l))) : EnvR K T E (σ.set i (some (.ref l))) B H (ρ.set i (.ow ds)) := by
  have inb : ∀ {m : Nat} {s : Sl} {t : Sl}, (ρ.set m s)[m]? = some t → m < ρ.length ∧ s = t := fun {m s t} e => by
    by_cases z : m < ρ.length
    · rw [List.getElem?_set_self z] at e
      exact ⟨z, Option.some.inj e⟩
    · rw [List.getElem?_eq_none (by rw [List.length_set]; omega)] at e
      cases e
  refine ⟨x.fr, x.em, x.e0, by rw [List.length_set, List.length_set]; exact x.len, fun j s e => ?_, fun j k ws es l' hjk e1 e2 e3 => ?_⟩
  · by_cases q : i = j
    · subst q
      obtain ⟨hi, rfl⟩ := inb e
      exact ⟨l, vs, List.getElem?_set_self (by rw [x.len]; exact hi), h1, h2, h3, r⟩
    · rw [List.getElem?_set_ne q] at e ⊢
      exact x.at_ j s e
  · by_cases q : i = j
    · subst q
      obtain ⟨hi, _⟩ := inb e1
      rw [List.getElem?_set_self (by rw [x.len]; exact hi)] at e3
      cases e3
      rw [List.getElem?_set_ne hjk] at e2 ⊢
      exact nw k es e2
    · rw [List.getElem?_set_ne q] at e1 e3
      by_cases q2 : i = k
      · subst q2
        obtain ⟨hi, _⟩ := inb e2
        rw [List.getElem?_set_self (by rw [x.len]; exact hi)]
        intro z
        cases z
        exact nw j ws e1 e3
      · rw [List.getElem?_set_ne q2] at e2 ⊢
        exact x.ap j k ws es l' hjk e1 e2 e3
/-- a slot's list changed -/
theorem EnvR.mut {l : Addr} {vs us : List V} {ds es : List D} (x : EnvR K T E σ B H ρ) (e : ρ[i]? = some (.ow ds)) (e2 : σ[i]? = some (some (.ref l))) (h1 : H l = some (.lst vs)) (r : Reps K T B es us) :
    EnvR K T E σ B (upd H l (.lst us)) (ρ.set i (.ow es)) := by
  obtain ⟨l', vs', q1, q2, q3, q4, q5⟩ := x.at_ i _ e
  have el : l' = l := by
    rw [e2] at q1
    cases q1
    rfl
  subst el
  have hi : i < ρ.length := (List.getElem?_eq_some_iff.mp e).1
  have nb : ∀ a o, B a = some o → a ≠ l' := fun a o ha z => by
    rw [z, q3] at ha
    cases ha
  refine ⟨⟨fun a o ha => by rw [upd_ne (nb a o ha)]; exact x.fr.s a o ha, x.fr.b, fun a o ha hm => ?_, x.fr.f⟩, fun a m => ?_, x.e0, by rw [List.length_set]; exact x.len, fun j s ej => ?_, fun j k ws zs m hjk f1 f2 f3 => ?_⟩
  · have ne : a ≠ l' := fun z => by
      subst z
      rw [q4] at ha
      cases ha
    rw [upd_ne ne]
    exact x.fr.h a o ha hm
  · have z : a ≠ l' := fun z => x.e0 a m (by rw [z]; exact q4)
    rw [upd_ne z]
    exact x.em a m
  · by_cases q : i = j
    · subst q
      rw [List.getElem?_set_self hi] at ej
      cases ej
      exact ⟨l', us, e2, upd_same, q3, q4, r⟩
    · rw [List.getElem?_set_ne q] at ej
      have z := x.at_ j s ej
      cases s with
      | un => exact True.intro
      | rf v => exact z
      | va d => exact z
      | ow ws =>
        obtain ⟨m, zs, z1, z2, z3, z4, z5⟩ := z
        have ne : m ≠ l' := fun y => by
          subst y
          exact x.ap i j ds ws m q e ej e2 z1
        exact ⟨m, zs, z1, by rw [upd_ne ne]; exact z2, z3, z4, z5⟩
      | dc ks ws =>
        obtain ⟨m, zs, z1, z2, z3, z4, z5⟩ := z
        have ne : m ≠ l' := fun y => by
          subst y
          rw [h1] at z2
          cases z2
        exact ⟨m, zs, z1, by rw [upd_ne ne]; exact z2, z3, z4, z5⟩
      | ur n =>
        obtain ⟨m, o, F, z1, z2, z3, z4, z5, z6⟩ := z
        have ne : m ≠ l' := fun y => x.e0 m z2.1 (by rw [y]; exact q4)
        exact ⟨m, o, F, z1, z2, z3, by rw [upd_ne ne]; exact z4, z5, z6⟩
  · have back : ∀ {y : Nat} {cs : List D}, (ρ.set i (.ow es))[y]? = some (Sl.ow cs) → ∃ bs, ρ[y]? = some (.ow bs) := fun {y cs} f => by
      by_cases q : i = y
      · subst q
        exact ⟨_, e⟩
      · rw [List.getElem?_set_ne q] at f
        exact ⟨_, f⟩
    obtain ⟨b1, g1⟩ := back f1
    obtain ⟨b2, g2⟩ := back f2
    exact x.ap j k b1 b2 m hjk g1 g2 f3
/-- a slot's own list becomes data -/
theorem EnvR.frz {ds : List D} (x : EnvR K T E σ B H ρ) (e : ρ[i]? = some (.ow ds)) : ∃ B', Ex B B' ∧ EnvR K T E σ B' H (ρ.set i (.va (.lst ds))) := by
  obtain ⟨l, vs, q1, q2, q3, q4, q5⟩ := x.at_ i _ e
  have hi : i < ρ.length := (List.getElem?_eq_some_iff.mp e).1
  have q4' : E.H l = none := q4
  have eb : Ex B (upd B l (.lst vs)) := .new q3
  refine ⟨upd B l (.lst vs), eb, ⟨⟨fun a o ha => ?_, x.fr.b.trans eb, x.fr.h, fun a o ha hn => ?_⟩, fun a m => ?_, x.e0, by rw [List.length_set]; exact x.len, fun j s ej => ?_, fun j k ws zs m hjk f1 f2 f3 => ?_⟩⟩
  · by_cases z : a = l
    · subst z
      rw [upd_same] at ha
      cases ha
      exact q2
    · rw [upd_ne z] at ha
      exact x.fr.s a o ha
  · have z : a ≠ l := fun z => by
      rw [z, q4'] at ha
      cases ha
    rw [upd_ne z]
    exact x.fr.f a o ha hn
  · have z : a ≠ l := fun z => x.e0 a m (by rw [z]; exact q4')
    rw [upd_ne z]
    exact x.em a m
  · by_cases q : i = j
    · subst q
      rw [List.getElem?_set_self hi] at ej
      cases ej
      exact ⟨.ref l, q1, .lst upd_same (q5.mono eb)⟩
    · rw [List.getElem?_set_ne q] at ej
      have z := x.at_ j s ej
      cases s with
      | un => exact True.intro
      | rf v => exact z
      | va d =>
        obtain ⟨v, z1, z2⟩ := z
        exact ⟨v, z1, z2.mono eb⟩
      | ow ws =>
        obtain ⟨m, zs, z1, z2, z3, z4, z5⟩ := z
        have ne : m ≠ l := fun y => by
          subst y
          exact x.ap i j ds ws m q e ej q1 z1
        exact ⟨m, zs, z1, z2, by rw [upd_ne ne]; exact z3, z4, z5.mono eb⟩
      | dc ks ws =>
        obtain ⟨m, zs, z1, z2, z3, z4, z5, z6⟩ := z
        have ne : m ≠ l := fun y => by
          subst y
          rw [q2] at z2
          cases z2
        exact ⟨m, zs, z1, z2, by rw [upd_ne ne]; exact z3, z4, z5, z6.mono eb⟩
      | ur n =>
        obtain ⟨m, o, F, z1, z2, z3, z4, z5, z6⟩ := z
        have ne : m ≠ l := fun y => x.e0 m z2.1 (by rw [y]; exact q4')
        exact ⟨m, o, F, z1, z2, z3, z4, z5, by rw [upd_ne ne]; exact z6⟩
  · have back : ∀ {y : Nat} {cs : List D}, (ρ.set i (.va (.lst ds)))[y]? = some (Sl.ow cs) → ρ[y]? = some (.ow cs) := fun {y cs} f => by
      by_cases q : i = y
      · subst q
        rw [List.getElem?_set_self hi] at f
        cases f
      · rw [List.getElem?_set_ne q] at f
        exact f
    exact x.ap j k ws zs m hjk (back f1) (back f2) f3
/-- a slot forgotten -/
theorem EnvR.drop (x : EnvR K T E σ B H ρ) (w : Option V) : EnvR K T E (σ.set i w) B H (ρ.set i .un) := by
  refine ⟨x.fr, x.em, x.e0, by rw [List.length_set, List.length_set]; exact x.len, fun j s e => ?_, fun j k ds es l hjk e1 e2 e3 => ?_⟩
  · by_cases q : i = j
    · subst q
      by_cases hi : i < ρ.length
      · rw [List.getElem?_set_self hi] at e
        cases e
        exact True.intro
      · rw [List.getElem?_eq_none (by rw [List.length_set]; omega)] at e
        cases e
    · rw [List.getElem?_set_ne q] at e ⊢
      exact x.at_ j s e
  · have ne : ∀ {m : Nat} {ws : List D}, (ρ.set i .un)[m]? = some (Sl.ow ws) → i ≠ m ∧ ρ[m]? = some (.ow ws) := fun {m ws} e => by
      by_cases q : i = m
      · subst q
        by_cases hi : i < ρ.length
        · rw [List.getElem?_set_self hi] at e
          cases e
        · rw [List.getElem?_eq_none (by rw [List.length_set]; omega)] at e
          cases e
      · rw [List.getElem?_set_ne q] at e
        exact ⟨q, e⟩
    obtain ⟨n1, f1⟩ := ne e1
    obtain ⟨n2, f2⟩ := ne e2
    rw [List.getElem?_set_ne n1] at e3
    rw [List.getElem?_set_ne n2]
    exact x.ap j k ds es l hjk f1 f2 e3
end
end

/-! ### the judgements -/
/-- what is enough for an expression, a test, arguments, a block, a target -/
def WE (X : Cx) (e : Expr) : TE := fun σ H Q => ∀ pins s, Inv X pins σ H s → wpAny (model X.prog X.w) X.A (eval e X.env) (EP X pins σ Q) X.xe s
def WT (X : Cx) (e : Expr) : TT := fun σ H Q => ∀ pins s, Inv X pins σ H s → wpAny (model X.prog X.w) X.A (isTrue e X.env (eval e X.env)) (TP X pins σ Q) X.xe s
def WW (X : Cx) (e : Expr) : TT := fun σ H Q => ∀ whole pins s, Inv X pins σ H s → wpAny (model X.prog X.w) X.A (isTrue e X.env whole) (TP X pins σ Q) X.xe s
def WA (X : Cx) (es : List Expr) : TA := fun σ H Q => ∀ (pos : Pos) pins s, Inv X pins σ H s → wpAny (model X.prog X.w) X.A (spliced (backTo pos (starEach es X.env))) (AP X pins σ Q) X.xe s
def WS (X : Cx) (st : List Stmt) : TS := fun D σ H => ∀ pins s, Inv X pins σ H s → wpAny (model X.prog X.w) X.A (execs st X.env) (SP X pins D) X.xe s
def WS1 (X : Cx) (st : Stmt) : TS := fun D σ H => ∀ pins s, Inv X pins σ H s → wpAny (model X.prog X.w) X.A (exec st X.env) (SP X pins D) X.xe s
theorem pe_we {X : Cx} {e : Expr} : PE X e (WE X e) := ⟨fun pins s _ _ _ I h => h pins s I⟩
theorem pt_wt {X : Cx} {e : Expr} : PT X e (WT X e) := ⟨fun pins s _ _ _ I h => h pins s I⟩
theorem pw_ww {X : Cx} {e : Expr} : PW X e (WW X e) := ⟨fun whole pins s _ _ _ I h => h whole pins s I⟩
theorem pa_wa {X : Cx} {es : List Expr} : PA X es (WA X es) := ⟨fun pos pins s _ _ _ I h => h pos pins s I⟩
theorem pss_ws {X : Cx} {st : List Stmt} : PSs X st (WS X st) := ⟨fun pins s _ _ _ I h => h pins s I⟩
theorem ps_ws1 {X : Cx} {st : Stmt} : PS X st (WS1 X st) := ⟨fun pins s _ _ _ I h => h pins s I⟩
section
variable {X : Cx} {e : Expr} {es : List Expr} {sts : List Stmt} {st : Stmt} {σ : St} {H : Hp}
theorem we {t : TE} {Q : VK} (h : PE X e t) (q : t σ H Q) : WE X e σ H Q := fun pins s I => h.run pins s σ H Q I q
theorem wt {t : TT} {Q : Bool → Hp → Prop} (h : PT X e t) (q : t σ H Q) : WT X e σ H Q := fun pins s I => h.run pins s σ H Q I q
theorem ww {t : TT} {Q : Bool → Hp → Prop} (h : PW X e t) (q : t σ H Q) : WW X e σ H Q := fun wh pins s I => h.run wh pins s σ H Q I q
theorem wa {t : TA} {Q : List V → Hp → Prop} (h : PA X es t) (q : t σ H Q) : WA X es σ H Q := fun pos pins s I => h.run pos pins s σ H Q I q
theorem ws {t : TS} {D : Ends} (h : PSs X sts t) (q : t D σ H) : WS X sts D σ H := fun pins s I => h.run pins s σ H D I q
theorem ws1 {t : TS} {D : Ends} (h : PS X st t) (q : t D σ H) : WS1 X st D σ H := fun pins s I => h.run pins s σ H D I q
end

section
variable (T : CA) (X : Cx)
/-- e gives d -/
def EvE (e : Expr) (ρ : List Sl) (d : D) : Prop := ∀ E σ B H, EnvR X.K T E σ B H ρ → ∀ Q : VK, (∀ v B' H', Gr B H B' H' → Rep X.K T B' d v → Q v H') → WE X e σ H Q
/-- e gives a new list of ds, which nobody else holds -/
def EvN (e : Expr) (ρ : List Sl) (ds : List D) : Prop := ∀ E σ B H, EnvR X.K T E σ B H ρ → ∀ Q : VK,
  (∀ l vs B' H', Gr B H B' H' → H l = none → B' l = none → H' l = some (.lst vs) → Reps X.K T B' ds vs → Q (.ref l) H') → WE X e σ H Q
def EvT (e : Expr) (ρ : List Sl) (b : Bool) : Prop := ∀ E σ B H, EnvR X.K T E σ B H ρ → ∀ Q : Bool → Hp → Prop, (∀ B' H', Gr B H B' H' → Q b H') → WT X e σ H Q
def EvW (e : Expr) (ρ : List Sl) (b : Bool) : Prop := ∀ E σ B H, EnvR X.K T E σ B H ρ → ∀ Q : Bool → Hp → Prop, (∀ B' H', Gr B H B' H' → Q b H') → WW X e σ H Q
def EvA (es : List Expr) (ρ : List Sl) (ds : List D) : Prop := ∀ E σ B H, EnvR X.K T E σ B H ρ → ∀ Q : List V → Hp → Prop, (∀ vs B' H', Gr B H B' H' → Reps X.K T B' ds vs → Q vs H') → WA X es σ H Q
end
/-- what a block is to reach -/
structure Post where
  nx : List Sl → Prop
  rt : D → Prop
  bk : List Sl → Prop := fun _ => False
  ct : List Sl → Prop := fun _ => False
def Em (E : Ent) (B H : Hp) : Prop := ∀ a, E.M a → ∃ o, H a = some o ∧ E.O o ∧ B a = none
structure Fits (K : PySem.W.Frag) (T : CA) (E : Ent) (Po : Post) (D : Ends) : Prop where
  nx : ∀ σ B H ρ, EnvR K T E σ B H ρ → Po.nx ρ → D.nx σ H
  rt : ∀ v B H d, Frm E B H → Em E B H → Rep K T B d v → Po.rt d → D.rt v H
  bk : ∀ σ B H ρ, EnvR K T E σ B H ρ → Po.bk ρ → D.bk σ H
  ct : ∀ σ B H ρ, EnvR K T E σ B H ρ → Po.ct ρ → D.ct σ H
/-- a block, a statement, from ρ -/
def WB (T : CA) (X : Cx) (sts : List Stmt) (ρ : List Sl) (Po : Post) : Prop := ∀ E σ B H D, EnvR X.K T E σ B H ρ → Fits X.K T E Po D → WS X sts D σ H
def W1 (T : CA) (X : Cx) (st : Stmt) (ρ : List Sl) (Po : Post) : Prop := ∀ E σ B H D, EnvR X.K T E σ B H ρ → Fits X.K T E Po D → WS1 X st D σ H
/-- d goes to the target, ρ becomes ρ'; the slots js alone are stored -/
def WG (X : Cx) (tg : Expr) : TG := fun v σ H Q => ∀ pins s u, Inv X pins σ H s → RelV v u → wpAny (model X.prog X.w) X.A (assign tg X.env u) (fun _ s' => ∃ σ' H', Inv X pins σ' H' s' ∧ Q σ' H') X.xe s
end PL
/-! P1: expressions -/
namespace PL
open PySem PySem.Spec PyProof.Rows L2
section
variable {T : CA} {X : Cx} {ρ : List Sl} {a b c e o : Expr} {es : List Expr} {d da db dc : D} {ds : List D} {i j : Int} {pos p1 p2 : Pos}

/-! ### leaves -/
theorem ev_int {k} : EvE T X (.Constant (.int i) k pos) ρ (.int i) := fun _ _ _ _ hρ _ q => we pe_int (q _ _ _ (.refl hρ.bh) (.int i))
theorem ev_bl {z k} : EvE T X (.Constant (.bool z) k pos) ρ (.bl z) := fun _ _ _ _ hρ _ q => we pe_bl (q _ _ _ (.refl hρ.bh) (.bl z))
theorem ev_non {k} : EvE T X (.Constant .none k pos) ρ .non := fun _ _ _ _ hρ _ q => we pe_non (q _ _ _ (.refl hρ.bh) .non)
theorem ev_str {x : Str} {k} (ok : SOk x := by decide +kernel) : EvE T X (.Constant (.str x) k pos) ρ (.str x) := fun _ _ _ _ hρ _ q => we pe_str (q _ _ _ (.refl hρ.bh) (.str x ok))
theorem ev_var (n : Nat) {x : Str} (hN : X.N[n]? = some x) (hv : Vis X.env.scope x) (h : ρ[n]? = some (.va d)) (hd : (x == ("__debug__" : Str)) = false := by decide) (hcd : (x == ("__classdict__" : Str)) = false := by decide) :
    EvE T X (.Name x pos) ρ d := fun _ _ _ _ hρ _ q => by
  obtain ⟨v, e1, r⟩ := hρ.get h
  exact we (pe_var hN hv hd hcd) ⟨v, e1, q _ _ _ (.refl hρ.bh) r⟩
/-- a constant of the module that is an int or a text -/
theorem ev_gint {x : Str} {t : Tok} (hg : Gl X x) (hm : X.mg x = some (.int i t)) (hd : (x == ("__debug__" : Str)) = false := by decide) : EvE T X (.Name x pos) ρ (.int i) := fun _ _ _ _ hρ _ q =>
  we (pe_glob (v := .int i) hg hm ⟨t, rfl⟩ hd) (q _ _ _ (.refl hρ.bh) (.int i))
theorem ev_gstr {x z : Str} {t : Tok} (hg : Gl X x) (hm : X.mg x = some (.str z t)) (ok : SOk z := by decide +kernel) (hd : (x == ("__debug__" : Str)) = false := by decide) : EvE T X (.Name x pos) ρ (.str z) := fun _ _ _ _ hρ _ q =>
  we (pe_glob (v := .str z) hg hm ⟨t, rfl⟩ hd) (q _ _ _ (.refl hρ.bh) (.str z ok))
/-- one that is an object: it stands for d at every heap -/
theorem ev_gref {x : Str} {u : Addr} (hg : Gl X x) (hm : X.mg x = some (.ref u)) (hr : ∀ B, Rep X.K T B d (.ref u)) (hd : (x == ("__debug__" : Str)) = false := by decide) : EvE T X (.Name x pos) ρ d := fun _ _ _ _ hρ _ q =>
  we (pe_glob (v := .ref u) hg hm rfl hd) (q _ _ _ (.refl hρ.bh) (hr _))

/-! ### argument lists, displays -/
theorem ea_nil : EvA T X [] ρ [] := fun _ _ _ _ hρ _ q => wa pa_nil (q _ _ _ (.refl hρ.bh) .nil)
theorem ea_cons (ha : EvE T X e ρ d) (hr : EvA T X es ρ ds) (hs : starEach (e :: es) X.env = (false, eval e X.env) :: starEach es X.env := by rfl) : EvA T X (e :: es) ρ (d :: ds) := fun _ _ _ _ hρ _ q =>
  wa (pa_cons pe_we pa_wa hs) (ha _ _ _ _ hρ _ fun _ _ _ g1 r1 => hr _ _ _ _ (hρ.gr g1) _ fun _ _ _ g2 r2 => q _ _ _ (g1.trans g2) (.cons (r1.mono g2.b) r2))
theorem ev_tup {k} (ha : EvA T X es ρ ds) (hl : ds.length ≤ 1000 := by exact Nat.le_of_ble_eq_true rfl) : EvE T X (.Tuple es k pos) ρ (.tup ds) := fun _ _ _ _ hρ _ q =>
  we (pe_tup pa_wa) (ha _ _ _ _ hρ _ fun vs B1 H1 g1 r1 => ⟨by rw [← r1.length, sizeLine_eq]; omega, fun p hp => q _ _ _ (g1.trans (.new g1.s hp)) (.tup (.of upd_same) (r1.mono (.new (g1.s.none hp))))⟩)
theorem en_lst (ha : EvA T X es ρ ds) (hl : ds.length ≤ 1000 := by exact Nat.le_of_ble_eq_true rfl) : EvN T X (.List es pos) ρ ds := fun _ _ _ _ hρ _ q =>
  we (pe_lst pa_wa) (ha _ _ _ _ hρ _ fun vs B1 H1 g1 r1 => ⟨by rw [← r1.length, sizeLine_eq]; omega, fun p hp => q _ _ _ _ (g1.trans (.own g1.s hp)) (g1.h.none hp) (g1.s.none hp) upd_same r1⟩)
/-- a new list as data -/
theorem EvN.toE (h : EvN T X e ρ ds) : EvE T X e ρ (.lst ds) := fun _ _ _ _ hρ _ q => h _ _ _ _ hρ _ fun l vs B1 H1 g1 hl hb h1 r1 => by
  refine q _ (upd B1 l (.lst vs)) H1 ⟨g1.b.trans (.new hb), g1.h, fun a u ea => ?_, fun a u ea nb => ?_⟩ (.lst upd_same (r1.mono (.new hb)))
  · by_cases z : a = l
    · subst z
      rw [upd_same] at ea
      cases ea
      exact h1
    · rw [upd_ne z] at ea
      exact g1.s a u ea
  · have z : a ≠ l := fun z => by
      rw [z, hl] at ea
      cases ea
    rw [upd_ne z]
    exact g1.f a u ea nb
theorem EvE.to {d' : D} (h : EvE T X e ρ d) (q : d = d') : EvE T X e ρ d' := q ▸ h
theorem EvN.to {ds' : List D} (h : EvN T X e ρ ds) (q : ds = ds') : EvN T X e ρ ds' := q ▸ h
theorem EvT.to {z z' : Bool} (h : EvT T X e ρ z) (q : z = z') : EvT T X e ρ z' := q ▸ h

/-! ### operators -/
theorem ev_op {op : Operator} {r : R2} (ho : OpR X (binaryOp op) r) (ha : EvE T X a ρ da) (hb : EvE T X b ρ db)
    (hr : ∀ B H x y Q, Ex B H → Rep X.K T B da x → Rep X.K T B db y → (∀ v B' H', Gr B H B' H' → Rep X.K T B' d v → Q v H') → r x y H Q) : EvE T X (.BinOp a op b pos) ρ d := fun _ _ _ _ hρ Q q =>
  we (pe_op ho pe_we pe_we) (ha _ _ _ _ hρ _ fun _ _ _ g1 r1 => hb _ _ _ _ (hρ.gr g1) _ fun _ _ _ g2 r2 => hr _ _ _ _ Q g2.s (r1.mono g2.b) r2 fun _ _ _ g3 r3 => q _ _ _ ((g1.trans g2).trans g3) r3)
theorem ev_cmp {op : CmpOp} {r : R2} (ho : OpR X (compareOp op) r) (ha : EvE T X a ρ da) (hb : EvE T X b ρ db) (hm : behindInMarks op b = false)
    (hr : ∀ B H x y Q, Ex B H → Rep X.K T B da x → Rep X.K T B db y → (∀ v B' H', Gr B H B' H' → Rep X.K T B' d v → Q v H') → r x y H Q) : EvE T X (.Compare a [op] [b] pos) ρ d := fun _ _ _ _ hρ Q q =>
  we (pe_cmpR ho pe_we pe_we hm) (ha _ _ _ _ hρ _ fun _ _ _ g1 r1 => hb _ _ _ _ (hρ.gr g1) _ fun _ _ _ g2 r2 => hr _ _ _ _ Q g2.s (r1.mono g2.b) r2 fun _ _ _ g3 r3 => q _ _ _ ((g1.trans g2).trans g3) r3)
theorem et_cmp {z : Bool} {op : CmpOp} {r : R2} (ho : OpR X (compareOp op) r) (ha : EvE T X a ρ da) (hb : EvE T X b ρ db) (hm : behindInMarks op b = false)
    (hr : ∀ B H x y Q, Ex B H → Rep X.K T B da x → Rep X.K T B db y → (∀ v B' H', Gr B H B' H' → Rep X.K T B' (.bl z) v → Q v H') → r x y H Q) : EvT T X (.Compare a [op] [b] pos) ρ z := fun _ _ _ _ hρ Q q =>
  wt (pt_cmpR ho pe_we pe_we hm) (ha _ _ _ _ hρ _ fun _ _ _ g1 r1 => hb _ _ _ _ (hρ.gr g1) _ fun _ _ _ g2 r2 => hr _ _ _ _ _ g2.s (r1.mono g2.b) r2 fun v _ _ g3 r3 => by
    cases r3
    exact ⟨z, rfl, q _ _ ((g1.trans g2).trans g3)⟩)
/-- what two ints give -/
theorem r_int {g : Int → Int → V} {x y : V} {B H : Hp} {Q : VK} {i j : Int} (s : Ex B H) (hx : Rep X.K T B (.int i) x) (hy : Rep X.K T B (.int j) y) (hd : Rep X.K T B d (g i j)) (q : ∀ v B' H', Gr B H B' H' → Rep X.K T B' d v → Q v H') : rI0 g x y H Q := by
  cases hx
  cases hy
  exact ⟨i, j, rfl, rfl, q _ _ _ (.refl s) hd⟩
theorem ev_add (ha : EvE T X a ρ (.int i)) (hb : EvE T X b ρ (.int j)) : EvE T X (.BinOp a .Add b pos) ρ (.int (i + j)) := ev_op op_add ha hb fun _ _ _ _ _ s hx hy q => r_int s hx hy (.int _) q
theorem ev_sub (ha : EvE T X a ρ (.int i)) (hb : EvE T X b ρ (.int j)) : EvE T X (.BinOp a .Sub b pos) ρ (.int (i - j)) := ev_op op_sub ha hb fun _ _ _ _ _ s hx hy q => r_int s hx hy (.int _) q
theorem ev_mulW (ha : EvE T X a ρ (.int i)) (hb : EvE T X b ρ (.int j)) (h : CMulW i j) : EvE T X (.BinOp a .Mult b pos) ρ (.int (i * j)) := ev_op op_mulW ha hb fun _ _ _ _ _ s hx hy q => by
  cases hx
  cases hy
  exact ⟨i, j, rfl, rfl, h, q _ _ _ (.refl s) (.int _)⟩
theorem ev_mul (ha : EvE T X a ρ (.int i)) (hb : EvE T X b ρ (.int j)) (h : CMul i j) : EvE T X (.BinOp a .Mult b pos) ρ (.int (i * j)) := ev_op op_mul ha hb fun _ _ _ _ _ s hx hy q => by
  cases hx
  cases hy
  exact ⟨i, j, rfl, rfl, h, q _ _ _ (.refl s) (.int _)⟩
theorem ev_fdiv (ha : EvE T X a ρ (.int i)) (hb : EvE T X b ρ (.int j)) (h : CDivW i j) : EvE T X (.BinOp a .FloorDiv b pos) ρ (.int (i / j)) := ev_op op_fdivW ha hb fun _ _ _ _ _ s hx hy q => by
  cases hx
  cases hy
  exact ⟨i, j, rfl, rfl, h, q _ _ _ (.refl s) (.int _)⟩
theorem ev_mod (ha : EvE T X a ρ (.int i)) (hb : EvE T X b ρ (.int j)) (h : 0 < j) : EvE T X (.BinOp a .Mod b pos) ρ (.int (i % j)) := ev_op op_mod ha hb fun _ _ _ _ _ s hx hy q => by
  cases hx
  cases hy
  exact ⟨i, j, rfl, rfl, h, q _ _ _ (.refl s) (.int _)⟩
theorem ev_pow (ha : EvE T X a ρ (.int i)) (hb : EvE T X b ρ (.int j)) (h : CPow i j) : EvE T X (.BinOp a .Pow b pos) ρ (.int (i ^ j.toNat)) := ev_op op_pow ha hb fun _ _ _ _ _ s hx hy q => by
  cases hx
  cases hy
  exact ⟨i, j, rfl, rfl, h, q _ _ _ (.refl s) (.int _)⟩
theorem op_powW : OpR X (binaryOp .Pow) (rI (fun i j => 0 ≤ j ∧ (Builtin.Int.intBits i : Int) * j ≤ 2 ^ 27) fun i j => .int (i ^ j.toNat)) := opI fun _ _ _ _ _ _ _ hc q => pow_int hc.1 hc.2 q
theorem ev_powW (ha : EvE T X a ρ (.int i)) (hb : EvE T X b ρ (.int j)) (h : 0 ≤ j ∧ (Builtin.Int.intBits i : Int) * j ≤ 2 ^ 27) : EvE T X (.BinOp a .Pow b pos) ρ (.int (i ^ j.toNat)) := ev_op op_powW ha hb fun _ _ _ _ _ s hx hy q => by
  cases hx
  cases hy
  exact ⟨i, j, rfl, rfl, h, q _ _ _ (.refl s) (.int _)⟩
theorem ev_neg (ha : EvE T X a ρ (.int i)) : EvE T X (.UnaryOp .USub a pos) ρ (.int (-i)) := fun _ _ _ _ hρ Q q => we (pe_un un_neg pe_we) (ha _ _ _ _ hρ _ fun _ _ _ g1 r1 => by
  cases r1
  exact ⟨i, rfl, q _ _ _ g1 (.int _)⟩)
theorem sok_app {x y : Str} (h1 : SOk x) (h2 : SOk y) : SOk (x ++ y) := by
  show (x.cps ++ y.cps).all _ = true
  rw [Array.all_append]
  exact Bool.and_eq_true_iff.mpr ⟨h1, h2⟩
/-- text + text -/
theorem ev_adds {x y : Str} (ha : EvE T X a ρ (.str x)) (hb : EvE T X b ρ (.str y)) (h : x.length + y.length ≤ 100000) : EvE T X (.BinOp a .Add b pos) ρ (.str (x ++ y)) := ev_op op_add_str ha hb fun _ _ _ _ _ s hx hy q => by
  cases hx with
  | str _ o1 =>
    cases hy with
    | str _ o2 => exact ⟨x, y, rfl, rfl, Nat.le_trans h (by decide), q _ _ _ (.refl s) (.str _ (sok_app o1 o2))⟩
/-- list + list: new -/
theorem en_cat {xs ys : List D} (ha : EvE T X a ρ (.lst xs)) (hb : EvE T X b ρ (.lst ys)) (h : xs.length + ys.length ≤ 100000) : EvN T X (.BinOp a .Add b pos) ρ (xs ++ ys) := fun _ _ _ _ hρ Q q =>
  we (pe_op op_cat pe_we pe_we) (ha _ _ _ _ hρ _ fun _ _ _ g1 r1 => hb _ _ _ _ (hρ.gr g1) _ fun _ B2 H2 g2 r2 => by
    have r1' := r1.mono g2.b
    cases r1' with
    | lst h1 q1 =>
      cases r2 with
      | lst h2 q2 =>
        refine ⟨_, _, _, _, rfl, rfl, g2.s _ _ h1, g2.s _ _ h2, ?_, fun p hp => ?_⟩
        · rw [← q1.length, ← q2.length]
          exact Nat.le_trans h (by decide)
        · have g := g1.trans g2
          exact q _ _ _ _ (g.trans (.own g2.s hp)) (g.h.none hp) (g2.s.none hp) upd_same (q1.append q2))
/-- tuple + tuple -/
theorem ev_catT {xs ys : List D} (ha : EvE T X a ρ (.tup xs)) (hb : EvE T X b ρ (.tup ys)) (h : xs.length + ys.length ≤ 100000) : EvE T X (.BinOp a .Add b pos) ρ (.tup (xs ++ ys)) := fun _ _ _ _ hρ Q q =>
  we (pe_op op_catA pe_we pe_we) (ha _ _ _ _ hρ _ fun _ _ _ g1 r1 => hb _ _ _ _ (hρ.gr g1) _ fun _ B2 H2 g2 r2 => by
    have r1' := r1.mono g2.b
    have g := g1.trans g2
    cases r1' with
    | @tup a1 vs1 _ h1 q1 =>
      cases r2 with
      | @tup a2 vs2 _ h2 q2 =>
        refine ⟨_, _, _, _, rfl, rfl, exT g2.s h1, exT g2.s h2, ?_, ?_⟩
        · rw [← q1.length, ← q2.length]
          exact Nat.le_trans h (by decide)
        · have hnew : ∀ p, H2 p = none → Q (.ref p) (upd H2 p (.tup (vs1 ++ vs2))) := fun p hp => q _ _ _ (g.trans (.new g2.s hp)) (.tup (.of upd_same) ((q1.append q2).mono (.new (g2.s.none hp))))
          refine ⟨fun e => ?_, fun _ e => ?_, fun _ _ => hnew⟩
          · subst e
            cases q1
            exact q _ _ _ g (.tup h2 q2)
          · subst e
            cases q2
            rw [List.append_nil] at q
            exact q _ _ _ g (.tup h1 q1))

/-! ### comparisons -/
theorem et_lt (ha : EvE T X a ρ (.int i)) (hb : EvE T X b ρ (.int j)) : EvT T X (.Compare a [.Lt] [b] pos) ρ (decide (i < j)) := et_cmp op_lt ha hb (nomark _) fun _ _ _ _ _ s hx hy q => r_int s hx hy (.bl _) q
theorem et_le (ha : EvE T X a ρ (.int i)) (hb : EvE T X b ρ (.int j)) : EvT T X (.Compare a [.LtE] [b] pos) ρ (decide (i ≤ j)) := et_cmp op_le ha hb (nomark _) fun _ _ _ _ _ s hx hy q => r_int s hx hy (.bl _) q
theorem et_gt (ha : EvE T X a ρ (.int i)) (hb : EvE T X b ρ (.int j)) : EvT T X (.Compare a [.Gt] [b] pos) ρ (decide (j < i)) := et_cmp op_gt ha hb (nomark _) fun _ _ _ _ _ s hx hy q => r_int s hx hy (.bl _) q
theorem et_ge (ha : EvE T X a ρ (.int i)) (hb : EvE T X b ρ (.int j)) : EvT T X (.Compare a [.GtE] [b] pos) ρ (decide (j ≤ i)) := et_cmp op_ge ha hb (nomark _) fun _ _ _ _ _ s hx hy q => r_int s hx hy (.bl _) q
theorem ev_lt (ha : EvE T X a ρ (.int i)) (hb : EvE T X b ρ (.int j)) : EvE T X (.Compare a [.Lt] [b] pos) ρ (.bl (decide (i < j))) := ev_cmp op_lt ha hb (nomark _) fun _ _ _ _ _ s hx hy q => r_int s hx hy (.bl _) q
theorem ev_le (ha : EvE T X a ρ (.int i)) (hb : EvE T X b ρ (.int j)) : EvE T X (.Compare a [.LtE] [b] pos) ρ (.bl (decide (i ≤ j))) := ev_cmp op_le ha hb (nomark _) fun _ _ _ _ _ s hx hy q => r_int s hx hy (.bl _) q
theorem ev_gt (ha : EvE T X a ρ (.int i)) (hb : EvE T X b ρ (.int j)) : EvE T X (.Compare a [.Gt] [b] pos) ρ (.bl (decide (j < i))) := ev_cmp op_gt ha hb (nomark _) fun _ _ _ _ _ s hx hy q => r_int s hx hy (.bl _) q
theorem ev_ge (ha : EvE T X a ρ (.int i)) (hb : EvE T X b ρ (.int j)) : EvE T X (.Compare a [.GtE] [b] pos) ρ (.bl (decide (j ≤ i))) := ev_cmp op_ge ha hb (nomark _) fun _ _ _ _ _ s hx hy q => r_int s hx hy (.bl _) q
/-- is None -/
def D.isNon : D → Bool
  | .non => true
  | _ => false
theorem isNon_v {B : Hp} {x : V} (h : Rep X.K T B d x) : decide (x = .non) = d.isNon := by
  cases h <;> rfl
theorem et_isN {k} (ha : EvE T X a ρ d) : EvT T X (.Compare a [.Is] [.Constant .none k p1] pos) ρ d.isNon := et_cmp op_isN ha ev_non (nomark _) fun _ _ _ _ _ s hx hy q => by
  cases hy
  rw [← isNon_v hx] at q
  exact ⟨rfl, q _ _ _ (.refl s) (.bl _)⟩
theorem et_notN {k} (ha : EvE T X a ρ d) : EvT T X (.Compare a [.IsNot] [.Constant .none k p1] pos) ρ (!d.isNon) := et_cmp op_notN ha ev_non (nomark _) fun _ _ _ _ _ s hx hy q => by
  cases hy
  rw [← isNon_v hx] at q
  exact ⟨rfl, q _ _ _ (.refl s) (.bl _)⟩
theorem ev_isN {k} (ha : EvE T X a ρ d) : EvE T X (.Compare a [.Is] [.Constant .none k p1] pos) ρ (.bl d.isNon) := ev_cmp op_isN ha ev_non (nomark _) fun _ _ _ _ _ s hx hy q => by
  cases hy
  rw [← isNon_v hx] at q
  exact ⟨rfl, q _ _ _ (.refl s) (.bl _)⟩
theorem ev_notN {k} (ha : EvE T X a ρ d) : EvE T X (.Compare a [.IsNot] [.Constant .none k p1] pos) ρ (.bl (!d.isNon)) := ev_cmp op_notN ha ev_non (nomark _) fun _ _ _ _ _ s hx hy q => by
  cases hy
  rw [← isNon_v hx] at q
  exact ⟨rfl, q _ _ _ (.refl s) (.bl _)⟩
end

/-! ### == of data -/
mutual
def D.py : D → PyData
  | .non => .none
  | .bl b => .bool b
  | .int i => .int i
  | .str x => .str x
  | .tup xs => .tuple (D.pys xs)
  | .lst xs => .list (D.pys xs)
  | _ => .none
def D.pys : List D → List PyData
  | [] => []
  | x :: xs => D.py x :: D.pys xs
end
mutual
/-- nothing but plain data -/
def D.pl : D → Bool
  | .tup xs => D.pls xs
  | .lst xs => D.pls xs
  | .lab _ _ => false
  | .stp _ _ => false
  | .pip _ => false
  | .btw _ _ _ => false
  | .fls _ => false
  | _ => true
def D.pls : List D → Bool
  | [] => true
  | x :: xs => D.pl x && D.pls xs
end
section
variable {K : PySem.W.Frag} {T : CA} {B H : Hp}
mutual
theorem Rep.dp (s : Ex B H) : ∀ {d : D} {v : V}, Rep K T B d v → (d.pl = true → Dp K H v d.py)
  | _, _, .non => fun _ => .non
  | _, _, .bl b => fun _ => .bl b
  | _, _, .int i => fun _ => .int i
  | _, _, .str x _ => fun _ => .str x
  | _, _, .tup h r => fun p => .tup (exT s h) (Reps.dp s r p)
  | _, _, .lst h r => fun p => .lst (.of (s _ _ h)) (Reps.dp s r p)
  | _, _, .lab _ _ => fun p => nomatch p
  | _, _, .stp _ _ _ => fun p => nomatch p
  | _, _, .pip _ _ => fun p => nomatch p
  | _, _, .btw _ _ _ _ => fun p => nomatch p
  | _, _, .fls _ => fun p => nomatch p
theorem Reps.dp (s : Ex B H) : ∀ {ds : List D} {vs : List V}, Reps K T B ds vs → (D.pls ds = true → DpAll K H vs (D.pys ds))
  | _, _, .nil => fun _ => .nil
  | _, _, .cons r q => fun p => .cons (Rep.dp s r (Bool.and_eq_true_iff.mp p).1) (Reps.dp s q (Bool.and_eq_true_iff.mp p).2)
end
end
theorem shaped_of {d : PyData} (h : d.canLay0 = true) (h2 : d.depth ≤ 64) : SeqAt.shaped d = true := Bool.and_eq_true_iff.mpr ⟨h, decide_eq_true h2⟩
section
variable {K : PySem.W.Frag} {T : CA} {B : Hp}
mutual
theorem Rep.lay : ∀ {d : D} {v : V}, Rep K T B d v → (d.pl = true → d.py.canLay0 = true)
  | _, _, .non => fun _ => rfl
  | _, _, .bl b => fun _ => rfl
  | _, _, .int i => fun _ => rfl
  | _, _, .str x ok => fun _ => ok
  | _, _, .tup h r => fun p => Reps.lay r p
  | _, _, .lst h r => fun p => Reps.lay r p
  | _, _, .lab _ _ => fun p => nomatch p
  | _, _, .stp _ _ _ => fun p => nomatch p
  | _, _, .pip _ _ => fun p => nomatch p
  | _, _, .btw _ _ _ _ => fun p => nomatch p
  | _, _, .fls _ => fun p => nomatch p
theorem Reps.lay : ∀ {ds : List D} {vs : List V}, Reps K T B ds vs → (D.pls ds = true → PyData.canLayAll0 (D.pys ds) = true)
  | _, _, .nil => fun _ => rfl
  | _, _, .cons r q => fun p => Bool.and_eq_true_iff.mpr ⟨Rep.lay r (Bool.and_eq_true_iff.mp p).1, Reps.lay q (Bool.and_eq_true_iff.mp p).2⟩
end
end
section
variable {T : CA} {X : Cx} {ρ : List Sl} {a b : Expr} {da db : D} {pos : Pos}
theorem r_eqD {x y : V} {B H : Hp} {Q : VK} (s : Ex B H) (hx : Rep X.K T B da x) (hy : Rep X.K T B db y) (p1 : da.pl = true) (p2 : db.pl = true) (s1 : da.py.depth ≤ 64) (s2 : db.py.depth ≤ 64)
    (q : ∀ v B' H', Gr B H B' H' → Rep X.K T B' (.bl (PyData.eqv da.py db.py)) v → Q v H') : rEqD X.K x y H Q := ⟨_, _, hx.dp s p1, hy.dp s p2, shaped_of (hx.lay p1) s1, shaped_of (hy.lay p2) s2, q _ _ _ (.refl s) (.bl _)⟩
theorem r_neD {x y : V} {B H : Hp} {Q : VK} (s : Ex B H) (hx : Rep X.K T B da x) (hy : Rep X.K T B db y) (p1 : da.pl = true) (p2 : db.pl = true) (s1 : da.py.depth ≤ 64) (s2 : db.py.depth ≤ 64)
    (q : ∀ v B' H', Gr B H B' H' → Rep X.K T B' (.bl (!PyData.eqv da.py db.py)) v → Q v H') : rNeD X.K x y H Q := ⟨_, _, hx.dp s p1, hy.dp s p2, shaped_of (hx.lay p1) s1, shaped_of (hy.lay p2) s2, q _ _ _ (.refl s) (.bl _)⟩
/-- whether two data are compared by ==: plain, not too deep -/
def Eqable (a b : D) : Prop := (a.pl = true ∧ b.pl = true) ∧ a.py.depth ≤ 64 ∧ b.py.depth ≤ 64
theorem et_eq (hu : X.A.units + 64 < cLine) (ha : EvE T X a ρ da) (hb : EvE T X b ρ db) (h : Eqable da db) : EvT T X (.Compare a [.Eq] [b] pos) ρ (PyData.eqv da.py db.py) := et_cmp (op_eqD hu) ha hb (nomark _) fun _ _ _ _ _ s hx hy q => r_eqD s hx hy h.1.1 h.1.2 h.2.1 h.2.2 q
theorem et_ne (hu : X.A.units + 64 < cLine) (ha : EvE T X a ρ da) (hb : EvE T X b ρ db) (h : Eqable da db) : EvT T X (.Compare a [.NotEq] [b] pos) ρ (!PyData.eqv da.py db.py) := et_cmp (op_neD hu) ha hb (nomark _) fun _ _ _ _ _ s hx hy q => r_neD s hx hy h.1.1 h.1.2 h.2.1 h.2.2 q
theorem ev_eq (hu : X.A.units + 64 < cLine) (ha : EvE T X a ρ da) (hb : EvE T X b ρ db) (h : Eqable da db) : EvE T X (.Compare a [.Eq] [b] pos) ρ (.bl (PyData.eqv da.py db.py)) := ev_cmp (op_eqD hu) ha hb (nomark _) fun _ _ _ _ _ s hx hy q => r_eqD s hx hy h.1.1 h.1.2 h.2.1 h.2.2 q
theorem ev_ne (hu : X.A.units + 64 < cLine) (ha : EvE T X a ρ da) (hb : EvE T X b ρ db) (h : Eqable da db) : EvE T X (.Compare a [.NotEq] [b] pos) ρ (.bl (!PyData.eqv da.py db.py)) := ev_cmp (op_neD hu) ha hb (nomark _) fun _ _ _ _ _ s hx hy q => r_neD s hx hy h.1.1 h.1.2 h.2.1 h.2.2 q
end
end PL
/-! P2: tests, places of a sequence, calls of built-ins, walks, comprehensions -/
namespace PL
open PySem PySem.Spec PyProof.Rows L2
section
variable {T : CA} {X : Cx} {ρ : List Sl} {a b c e o : Expr} {es rest : List Expr} {d da db dc : D} {ds : List D} {i j : Int} {pos p1 p2 p : Pos} {z z2 : Bool}

/-! ### tests -/
theorem et_val (h : EvE T X e ρ (.bl z)) (he : ∀ whole, isTrue e X.env whole = (do let v ← whole; standAt e.pos; holding [v] (truthy v)) := by intro _; rfl) : EvT T X e ρ z := fun _ _ _ _ hρ _ q =>
  wt (pt_val pe_we he) (h _ _ _ _ hρ _ fun _ _ _ g r => by
    cases r
    exact ⟨z, rfl, q _ _ g⟩)
theorem ew_and1 (h : EvT T X a ρ z) : EvW T X (.BoolOp .And [a] pos) ρ z := fun _ _ _ _ hρ _ q => ww (pw_and1 pt_wt) (h _ _ _ _ hρ _ q)
theorem ew_or1 (h : EvT T X a ρ z) : EvW T X (.BoolOp .Or [a] pos) ρ z := fun _ _ _ _ hρ _ q => ww (pw_or1 pt_wt) (h _ _ _ _ hρ _ q)
theorem ew_and (h : EvT T X a ρ z) (h2 : z = true → EvW T X (.BoolOp .And (b :: rest) pos) ρ z2) : EvW T X (.BoolOp .And (a :: b :: rest) pos) ρ (z && z2) := fun _ _ _ _ hρ Q q =>
  ww (pw_and pt_wt pw_ww) (h _ _ _ _ hρ _ fun _ _ g => by
    cases z with
    | true => exact iteT (h2 rfl _ _ _ _ (hρ.gr g) _ fun _ _ g2 => q _ _ (g.trans g2))
    | false => exact iteF (q _ _ g))
theorem ew_or (h : EvT T X a ρ z) (h2 : z = false → EvW T X (.BoolOp .Or (b :: rest) pos) ρ z2) : EvW T X (.BoolOp .Or (a :: b :: rest) pos) ρ (z || z2) := fun _ _ _ _ hρ Q q =>
  ww (pw_or pt_wt pw_ww) (h _ _ _ _ hρ _ fun _ _ g => by
    cases z with
    | false => exact iteF (h2 rfl _ _ _ _ (hρ.gr g) _ fun _ _ g2 => q _ _ (g.trans g2))
    | true => exact iteT (q _ _ g))
theorem EvW.t (h : EvW T X e ρ z) : EvT T X e ρ z := fun _ _ _ _ hρ _ q => wt (PW.pt pw_ww) (h _ _ _ _ hρ _ q)
theorem et_not (h : EvT T X a ρ z) : EvT T X (.UnaryOp .Not a pos) ρ (!z) := fun _ _ _ _ hρ _ q => wt (pt_not pt_wt) (h _ _ _ _ hρ _ fun _ _ g => q _ _ g)
/-- as values -/
theorem ev_one {op} (h : EvE T X a ρ d) : EvE T X (.BoolOp op [a] pos) ρ d := fun _ _ _ _ hρ _ q => we (pe_one pe_we) (h _ _ _ _ hρ _ q)
theorem ev_and (h : EvE T X a ρ (.bl z)) (h2 : z = true → EvE T X (.BoolOp .And (b :: rest) pos) ρ (.bl z2)) : EvE T X (.BoolOp .And (a :: b :: rest) pos) ρ (.bl (z && z2)) := fun _ _ _ _ hρ Q q =>
  we (pe_and pe_we pe_we) (h _ _ _ _ hρ _ fun _ _ _ g r => by
    cases r
    refine ⟨z, rfl, ?_⟩
    cases z with
    | true => exact iteT (h2 rfl _ _ _ _ (hρ.gr g) _ fun _ _ _ g2 r2 => q _ _ _ (g.trans g2) r2)
    | false => exact iteF (q _ _ _ g (.bl false)))
theorem ev_or (h : EvE T X a ρ (.bl z)) (h2 : z = false → EvE T X (.BoolOp .Or (b :: rest) pos) ρ (.bl z2)) : EvE T X (.BoolOp .Or (a :: b :: rest) pos) ρ (.bl (z || z2)) := fun _ _ _ _ hρ Q q =>
  we (pe_or pe_we pe_we) (h _ _ _ _ hρ _ fun _ _ _ g r => by
    cases r
    refine ⟨z, rfl, ?_⟩
    cases z with
    | false => exact iteF (h2 rfl _ _ _ _ (hρ.gr g) _ fun _ _ _ g2 r2 => q _ _ _ (g.trans g2) r2)
    | true => exact iteT (q _ _ _ g (.bl true)))
theorem ev_not (h : EvE T X a ρ (.bl z)) : EvE T X (.UnaryOp .Not a pos) ρ (.bl (!z)) := fun _ _ _ _ hρ Q q =>
  we (pe_not pe_we) (h _ _ _ _ hρ _ fun _ _ _ g r => by
    cases r
    exact ⟨z, rfl, q _ _ _ g (.bl (!z))⟩)
theorem ev_if (h : EvT T X c ρ z) (h1 : z = true → EvE T X a ρ d) (h2 : z = false → EvE T X b ρ d) : EvE T X (.IfExp c a b pos) ρ d := fun _ _ _ _ hρ Q q =>
  we (pe_ifExp pt_wt pe_we pe_we) (h _ _ _ _ hρ _ fun _ _ g => by
    cases z with
    | true => exact iteT (h1 rfl _ _ _ _ (hρ.gr g) _ fun _ _ _ g2 r2 => q _ _ _ (g.trans g2) r2)
    | false => exact iteF (h2 rfl _ _ _ _ (hρ.gr g) _ fun _ _ _ g2 r2 => q _ _ _ (g.trans g2) r2))
theorem ev_ite (h : EvT T X c ρ z) (h1 : z = true → EvE T X a ρ da) (h2 : z = false → EvE T X b ρ db) : EvE T X (.IfExp c a b pos) ρ (if z = true then da else db) := ev_if h
  (fun e => by rw [if_pos e]; exact h1 e) (fun e => by rw [if_neg (by rw [e]; exact Bool.false_ne_true)]; exact h2 e)
theorem ev_ifT (h : EvT T X c ρ true) (h1 : EvE T X a ρ d) : EvE T X (.IfExp c a b pos) ρ d := ev_if h (fun _ => h1) (fun e => by cases e)
theorem ev_ifF (h : EvT T X c ρ false) (h1 : EvE T X b ρ d) : EvE T X (.IfExp c a b pos) ρ d := ev_if h (fun e => by cases e) (fun _ => h1)
/-- a < b < c of ints -/
theorem r_int1 {g : Int → Int → Bool} {x y : V} {B H : Hp} {Q : VK} {i j : Int} (hx : Rep X.K T B (.int i) x) (hy : Rep X.K T B (.int j) y) (q : Q (.bl (g i j)) H) : rI0 (fun i j => .bl (g i j)) x y H Q := by
  cases hx
  cases hy
  exact ⟨i, j, rfl, rfl, q⟩
theorem et_chain {op op' : CmpOp} {g g' : Int → Int → Bool} {k : Int} (ho : OpR X (compareOp op) (rI0 fun i j => .bl (g i j))) (ho' : OpR X (compareOp op') (rI0 fun i j => .bl (g' i j)))
    (ha : EvE T X a ρ (.int i)) (hb : EvE T X b ρ (.int j)) (hc : EvE T X c ρ (.int k)) (hm : lastMarks [op, op'] [b, c] = false := by with_unfolding_all rfl) : EvT T X (.Compare a [op, op'] [b, c] pos) ρ (g i j && g' j k) := fun _ _ _ _ hρ Q q =>
  wt (pt_chain ho ho' pe_we pe_we pe_we hm) (ha _ _ _ _ hρ _ fun _ _ _ g1 r1 => hb _ _ _ _ (hρ.gr g1) _ fun _ _ _ g2 r2 => r_int1 (r1.mono g2.b) r2 ⟨_, rfl, by
    cases e : g i j with
    | true =>
      refine iteT (hc _ _ _ _ (hρ.gr (g1.trans g2)) _ fun _ _ _ g3 r3 => r_int1 (r2.mono g3.b) r3 ⟨_, rfl, ?_⟩)
      rw [e] at q
      exact q _ _ ((g1.trans g2).trans g3)
    | false =>
      refine iteF ⟨_, rfl, ?_⟩
      rw [e] at q
      exact q _ _ (g1.trans g2)⟩)
theorem op_lt' : OpR X (compareOp .Lt) (rI0 fun i j => .bl ((fun i j : Int => decide (i < j)) i j)) := op_lt
theorem op_le' : OpR X (compareOp .LtE) (rI0 fun i j => .bl ((fun i j : Int => decide (i ≤ j)) i j)) := op_le

/-! ### places -/
theorem Reps.atI {K : PySem.W.Frag} {B : Hp} {ds : List D} {vs : List V} (r : Reps K T B ds vs) (h : atI ds i = some d) : ∃ v, L2.atI vs i = some v ∧ Rep K T B d v := by
  unfold L2.atI at h ⊢
  rw [r.length] at h
  cases e : ixN vs.length i with
  | none =>
    rw [e] at h
    cases h
  | some k =>
    rw [e] at h
    exact r.getD h
theorem ev_ixT (ha : EvE T X a ρ (.tup ds)) (hb : EvE T X b ρ (.int i)) (h : atI ds i = some d) (hs : PlainIx b := by exact fun _ _ => rfl) : EvE T X (.Subscript a b pos) ρ d := fun _ _ _ _ hρ Q q =>
  we (pe_ix ix_tup pe_we pe_we hs) (ha _ _ _ _ hρ _ fun _ _ _ g1 r1 => hb _ _ _ _ (hρ.gr g1) _ fun _ _ _ g2 r2 => by
    cases r2
    cases r1 with
    | tup h1 q1 =>
      obtain ⟨v, e, r⟩ := (q1.mono g2.b).atI h
      exact ⟨_, _, _, v, rfl, rfl, exT g2.s (exT g2.b h1), e, q _ _ _ (g1.trans g2) r⟩)
theorem ev_ixL (ha : EvE T X a ρ (.lst ds)) (hb : EvE T X b ρ (.int i)) (h : atI ds i = some d) (hs : PlainIx b := by exact fun _ _ => rfl) : EvE T X (.Subscript a b pos) ρ d := fun _ _ _ _ hρ Q q =>
  we (pe_ix ix_list pe_we pe_we hs) (ha _ _ _ _ hρ _ fun _ _ _ g1 r1 => hb _ _ _ _ (hρ.gr g1) _ fun _ _ _ g2 r2 => by
    cases r2
    cases r1 with
    | lst h1 q1 =>
      obtain ⟨v, e, r⟩ := (q1.mono g2.b).atI h
      exact ⟨_, _, _, v, rfl, rfl, .of (g2.s _ _ (g2.b _ _ h1)), e, q _ _ _ (g1.trans g2) r⟩)
theorem sok_at {x : Str} {i : Int} {k : Nat} (ok : SOk x) (h : L2.atI x.cps.toList i = some k) : SOk ⟨#[k]⟩ := by
  have hm : k ∈ x.cps := by
    unfold L2.atI at h
    cases e : ixN x.cps.toList.length i with
    | none =>
      rw [e] at h
      cases h
    | some m =>
      rw [e] at h
      exact Array.mem_toList_iff.mp (List.mem_of_getElem? h)
  have h2 : decide (k < 0x110000) = true := Array.all_eq_true'.mp ok k hm
  show (#[k] : Array Nat).all _ = true
  simpa using h2
theorem ev_ixS {x : Str} {k : Nat} (ha : EvE T X a ρ (.str x)) (hb : EvE T X b ρ (.int i)) (hl : x.length ≤ 100000) (h : atI x.cps.toList i = some k) (hs : PlainIx b := by exact fun _ _ => rfl) : EvE T X (.Subscript a b pos) ρ (.str ⟨#[k]⟩) := fun _ _ _ _ hρ Q q =>
  we (pe_ix ix_str pe_we pe_we hs) (ha _ _ _ _ hρ _ fun _ _ _ g1 r1 => hb _ _ _ _ (hρ.gr g1) _ fun _ _ _ g2 r2 => by
    cases r2
    cases r1 with
    | str _ ok => exact ⟨_, _, _, rfl, rfl, Nat.le_trans hl (by decide), h, q _ _ _ (g1.trans g2) (.str _ (sok_at ok h))⟩)
/-- flat data, as values -/
def D.fv : D → Option V
  | .non => some .non
  | .bl b => some (.bl b)
  | .int i => some (.int i)
  | .str x => some (.str x)
  | _ => none
theorem Rep.fv {K : PySem.W.Frag} {B : Hp} {v w : V} (r : Rep K T B d v) (h : d.fv = some w) : v = w := by
  cases r <;> first | (cases h; rfl) | cases h
def D.fvs : List D → Option (List V)
  | [] => some []
  | d :: ds => match D.fv d, D.fvs ds with
    | some v, some vs => some (v :: vs)
    | _, _ => none
theorem Reps.fvs {K : PySem.W.Frag} {B : Hp} : ∀ {ds : List D} {vs ws : List V}, Reps K T B ds vs → D.fvs ds = some ws → vs = ws
  | _, _, _, .nil, h => by
    cases h
    rfl
  | _, _, ws, @Reps.cons _ _ _ d ds v vs r q, h => by
    have h' : (match D.fv d, D.fvs ds with
      | some v, some vs => some (v :: vs)
      | _, _ => none) = some ws := h
    cases e1 : D.fv d with
    | none =>
      rw [e1] at h'
      cases h'
    | some w =>
      cases e2 : D.fvs ds with
      | none =>
        rw [e1, e2] at h'
        cases h'
      | some us =>
        rw [e1, e2] at h'
        cases h'
        rw [r.fv e1, Reps.fvs q e2]
theorem fv_flat {v : V} (h : d.fv = some v) : flatV v = true := by
  cases d <;> first | (cases h; rfl) | cases h
theorem fvs_flat : ∀ {ds : List D} {vs : List V}, D.fvs ds = some vs → vs.all flatV = true
  | [], _, h => by
    cases h
    rfl
  | d :: ds, vs, h => by
    have h' : (match D.fv d, D.fvs ds with
      | some v, some vs => some (v :: vs)
      | _, _ => none) = some vs := h
    cases e1 : D.fv d with
    | none =>
      rw [e1] at h'
      cases h'
    | some w =>
      cases e2 : D.fvs ds with
      | none =>
        rw [e1, e2] at h'
        cases h'
      | some us =>
        rw [e1, e2] at h'
        cases h'
        rw [List.all_cons, fv_flat e1, fvs_flat e2]
        rfl
theorem fvs_strs : ∀ ns : List Str, D.fvs (ns.map D.str) = some (ns.map V.str)
  | [] => rfl
  | n :: ns => by
    show (match D.fv (.str n), D.fvs (ns.map D.str) with
      | some v, some vs => some (v :: vs)
      | _, _ => none) = _
    rw [fvs_strs ns]
    rfl
theorem r_in {x y : V} {B H : Hp} {Q : VK} {neg : Bool} {v : V} {vs : List V} (s : Ex B H) (hx : Rep X.K T B da x) (hy : Rep X.K T B db y) (h1 : da.fv = some v) (h2 : db = .lst ds ∨ db = .tup ds) (h3 : D.fvs ds = some vs)
    (q : ∀ w B' H', Gr B H B' H' → Rep X.K T B' (.bl (if neg then !inV v vs else inV v vs)) w → Q w H') : rIn X.K neg x y H Q := by
  have e := hx.fv h1
  subst e
  rcases h2 with h2 | h2
  · subst h2
    cases hy with
    | lst h r =>
      have e := r.fvs h3
      subst e
      exact ⟨_, _, rfl, .inl (.of (s _ _ h)), fv_flat h1, fvs_flat h3, q _ _ _ (.refl s) (.bl _)⟩
  · subst h2
    cases hy with
    | tup h r =>
      have e := r.fvs h3
      subst e
      exact ⟨_, _, rfl, .inr (exT s h), fv_flat h1, fvs_flat h3, q _ _ _ (.refl s) (.bl _)⟩
theorem et_in {v : V} {vs : List V} (ha : EvE T X a ρ da) (hb : EvE T X b ρ db) (h1 : da.fv = some v) (h2 : db = .lst ds ∨ db = .tup ds) (h3 : D.fvs ds = some vs) (hm : behindInMarks .In b = false := by rfl) : EvT T X (.Compare a [.In] [b] pos) ρ (inV v vs) :=
  et_cmp op_in_seq ha hb hm fun _ _ _ _ _ s hx hy q => r_in (neg := false) s hx hy h1 h2 h3 q
theorem et_notIn {v : V} {vs : List V} (ha : EvE T X a ρ da) (hb : EvE T X b ρ db) (h1 : da.fv = some v) (h2 : db = .lst ds ∨ db = .tup ds) (h3 : D.fvs ds = some vs) (hm : behindInMarks .NotIn b = false := by rfl) : EvT T X (.Compare a [.NotIn] [b] pos) ρ (!inV v vs) :=
  et_cmp op_notIn_seq ha hb hm fun _ _ _ _ _ s hx hy q => r_in (neg := true) s hx hy h1 h2 h3 q
theorem ev_in {v : V} {vs : List V} (ha : EvE T X a ρ da) (hb : EvE T X b ρ db) (h1 : da.fv = some v) (h2 : db = .lst ds ∨ db = .tup ds) (h3 : D.fvs ds = some vs) (hm : behindInMarks .In b = false := by rfl) : EvE T X (.Compare a [.In] [b] pos) ρ (.bl (inV v vs)) :=
  ev_cmp op_in_seq ha hb hm fun _ _ _ _ _ s hx hy q => r_in (neg := false) s hx hy h1 h2 h3 q
theorem inV_strs (x : Str) (ns : List Str) : inV (.str x) (ns.map V.str) = decide (x ∈ ns) := by
  unfold inV
  rw [List.any_map]
  induction ns with
  | nil => rfl
  | cons n ns ih =>
    rw [List.any_cons, ih, Bool.eq_iff_iff]
    simp only [Function.comp, eqV, Bool.or_eq_true, beq_iff_eq, decide_eq_true_eq, List.mem_cons]
    constructor
    · rintro (h | h)
      · exact .inl h.symm
      · exact .inr h
    · rintro (h | h)
      · exact .inl h.symm
      · exact .inr h

/-! ### calls of built-ins -/
theorem ev_callB {x : Str} {id : String} {r : List V → Hp → VK → Prop} (hc : CallR X (.builtin id) r) (hm : X.mg x = none) (hv : bootBuiltins x = some (.builtin id)) (ha : EvA T X (e :: es) ρ ds)
    (hr : ∀ B H vs Q, Ex B H → Reps X.K T B ds vs → (∀ v B' H', Gr B H B' H' → Rep X.K T B' d v → Q v H') → r vs H Q) (hg : Gl X x := by rfl) (hn : x ≠ "__name__" := by decide) (hdb : (x == ("__debug__" : Str)) = false := by decide)
    (he : starEach (e :: es) X.env = (false, eval e X.env) :: starEach es X.env := by rfl) (hpl : (backTo pos (starEach es X.env)).any (·.1) = false := by rfl) : EvE T X (.Call (.Name x p) (e :: es) [] pos) ρ d := fun _ _ _ _ hρ Q q =>
  we (pe_callB hc hg hm hv pa_wa hn hdb he hpl) (ha _ _ _ _ hρ _ fun _ _ _ g1 r1 => hr _ _ _ Q g1.s r1 fun _ _ _ g2 r2 => q _ _ _ (g1.trans g2) r2)
theorem ev_callTy {x : Str} {id : String} {r : List V → Hp → VK → Prop} (hc : CallR X (.type id) r) (hm : X.mg x = none) (hv : bootBuiltins x = some (.type id)) (ha : EvA T X (e :: es) ρ ds)
    (hr : ∀ B H vs Q, Ex B H → Reps X.K T B ds vs → (∀ v B' H', Gr B H B' H' → Rep X.K T B' d v → Q v H') → r vs H Q) (hg : Gl X x := by rfl) (hn : x ≠ "__name__" := by decide) (hdb : (x == ("__debug__" : Str)) = false := by decide)
    (he : starEach (e :: es) X.env = (false, eval e X.env) :: starEach es X.env := by rfl) (hpl : (backTo pos (starEach es X.env)).any (·.1) = false := by rfl) : EvE T X (.Call (.Name x p) (e :: es) [] pos) ρ d := fun _ _ _ _ hρ Q q =>
  we (pe_callTy hc hg hm hv pa_wa hn hdb he hpl) (ha _ _ _ _ hρ _ fun _ _ _ g1 r1 => hr _ _ _ Q g1.s r1 fun _ _ _ g2 r2 => q _ _ _ (g1.trans g2) r2)
theorem ev_len (hm : X.mg "len" = none) (ha : EvE T X a ρ da) (h : da = .lst ds ∨ da = .tup ds) (hg : Gl X "len" := by rfl) (he : starEach [a] X.env = (false, eval a X.env) :: starEach [] X.env := by rfl) : EvE T X (.Call (.Name "len" p) [a] [] pos) ρ (.int (ds.length : Int)) := by
  refine ev_callB call_len_seq hm PySem.boot_len (ea_cons ha ea_nil he) (fun B H vs Q s r q => ?_) hg (by decide) (by decide) he rfl
  cases r with
  | cons r1 r2 =>
    cases r2
    rcases h with h | h
    · subst h
      cases r1 with
      | lst h1 q1 =>
        rw [q1.length] at q
        exact ⟨_, _, rfl, .inl (.of (s _ _ h1)), q _ _ _ (.refl s) (.int _)⟩
    · subst h
      cases r1 with
      | tup h1 q1 =>
        rw [q1.length] at q
        exact ⟨_, _, rfl, .inr (exT s h1), q _ _ _ (.refl s) (.int _)⟩
theorem ev_lenS {x : Str} (hm : X.mg "len" = none) (ha : EvE T X a ρ (.str x)) (h : x.length ≤ 100000) (hg : Gl X "len" := by rfl) (he : starEach [a] X.env = (false, eval a X.env) :: starEach [] X.env := by rfl) : EvE T X (.Call (.Name "len" p) [a] [] pos) ρ (.int (x.length : Int)) := by
  refine ev_callB call_len_str hm PySem.boot_len (ea_cons ha ea_nil he) (fun B H vs Q s r q => ?_) hg (by decide) (by decide) he rfl
  cases r with
  | cons r1 r2 =>
    cases r2
    cases r1
    exact ⟨_, rfl, Nat.le_trans h (by decide), q _ _ _ (.refl s) (.int _)⟩
theorem ev_intB (hm : X.mg "int" = none) (ha : EvE T X a ρ (.bl z)) (hg : Gl X "int" := by rfl) (he : starEach [a] X.env = (false, eval a X.env) :: starEach [] X.env := by rfl) : EvE T X (.Call (.Name "int" p) [a] [] pos) ρ (.int (if z then 1 else 0)) := by
  refine ev_callTy call_int1 hm (by decide +kernel) (ea_cons ha ea_nil he) (fun B H vs Q s r q => ?_) hg (by decide) (by decide) he rfl
  cases r with
  | cons r1 r2 =>
    cases r2
    cases r1
    exact .inr ⟨_, rfl, q _ _ _ (.refl s) (.int _)⟩
theorem ev_intI (hm : X.mg "int" = none) (ha : EvE T X a ρ (.int i)) (hg : Gl X "int" := by rfl) (he : starEach [a] X.env = (false, eval a X.env) :: starEach [] X.env := by rfl) : EvE T X (.Call (.Name "int" p) [a] [] pos) ρ (.int i) := by
  refine ev_callTy call_int1 hm (by decide +kernel) (ea_cons ha ea_nil he) (fun B H vs Q s r q => ?_) hg (by decide) (by decide) he rfl
  cases r with
  | cons r1 r2 =>
    cases r2
    cases r1
    exact .inl ⟨_, rfl, q _ _ _ (.refl s) (.int _)⟩
theorem ev_abs (hm : X.mg "abs" = none) (ha : EvE T X a ρ (.int i)) (hg : Gl X "abs" := by rfl) (he : starEach [a] X.env = (false, eval a X.env) :: starEach [] X.env := by rfl) : EvE T X (.Call (.Name "abs" p) [a] [] pos) ρ (.int (if i < 0 then -i else i)) := by
  refine ev_callB call_abs hm (by decide +kernel) (ea_cons ha ea_nil he) (fun B H vs Q s r q => ?_) hg (by decide) (by decide) he rfl
  cases r with
  | cons r1 r2 =>
    cases r2
    cases r1
    exact ⟨_, rfl, q _ _ _ (.refl s) (.int _)⟩
theorem ev_max2 (hc : X.calm = true) (hm : X.mg "max" = none) (ha : EvE T X a ρ (.int i)) (hb : EvE T X b ρ (.int j)) (hg : Gl X "max" := by rfl) (he : starEach [a, b] X.env = (false, eval a X.env) :: starEach [b] X.env := by rfl) (he2 : starEach [b] X.env = (false, eval b X.env) :: starEach [] X.env := by rfl)
    (hpl : (backTo pos (starEach [b] X.env)).any (·.1) = false := by rfl) : EvE T X (.Call (.Name "max" p) [a, b] [] pos) ρ (.int (max i j)) := by
  refine ev_callB (call_max2 hc) hm (by decide +kernel) (ea_cons ha (ea_cons hb ea_nil he2) he) (fun B H vs Q s r q => ?_) hg (by decide) (by decide) he hpl
  cases r with
  | cons r1 r2 =>
    cases r2 with
    | cons r2 r3 =>
      cases r3
      cases r1
      cases r2
      refine ⟨i, j, rfl, q _ _ _ (.refl s) ?_⟩
      have e : max i j = if j > i then j else i := by
        rw [Int.max_def]
        split <;> split <;> omega
      rw [e]
      exact .int _
theorem ev_min2 (hc : X.calm = true) (hm : X.mg "min" = none) (ha : EvE T X a ρ (.int i)) (hb : EvE T X b ρ (.int j)) (hg : Gl X "min" := by rfl) (he : starEach [a, b] X.env = (false, eval a X.env) :: starEach [b] X.env := by rfl) (he2 : starEach [b] X.env = (false, eval b X.env) :: starEach [] X.env := by rfl)
    (hpl : (backTo pos (starEach [b] X.env)).any (·.1) = false := by rfl) : EvE T X (.Call (.Name "min" p) [a, b] [] pos) ρ (.int (min i j)) := by
  refine ev_callB (call_min2 hc) hm (by decide +kernel) (ea_cons ha (ea_cons hb ea_nil he2) he) (fun B H vs Q s r q => ?_) hg (by decide) (by decide) he hpl
  cases r with
  | cons r1 r2 =>
    cases r2 with
    | cons r2 r3 =>
      cases r3
      cases r1
      cases r2
      refine ⟨i, j, rfl, q _ _ _ (.refl s) ?_⟩
      have e : min i j = if j < i then j else i := by
        rw [Int.min_def]
        split <;> split <;> omega
      rw [e]
      exact .int _
theorem ev_sum {ns : List Int} (hc : X.calm = true) (hm : X.mg "sum" = none) (ha : EvE T X a ρ (.lst (ns.map D.int))) (hg : Gl X "sum" := by rfl) (he : starEach [a] X.env = (false, eval a X.env) :: starEach [] X.env := by rfl) : EvE T X (.Call (.Name "sum" p) [a] [] pos) ρ (.int ns.sum) := by
  refine ev_callB (cr_sum hc) hm (by decide +kernel) (ea_cons ha ea_nil he) (fun B H vs Q s r q => ?_) hg (by decide) (by decide) he rfl
  cases r with
  | cons r1 r2 =>
    cases r2
    cases r1 with
    | lst h1 q1 =>
      rw [q1.ints] at h1
      exact ⟨_, ns, rfl, .of (s _ _ h1), q _ _ _ (.refl s) (.int _)⟩
theorem ev_all {bs : List Bool} (hc : X.calm = true) (hm : X.mg "all" = none) (ha : EvE T X a ρ (.lst (bs.map D.bl))) (hg : Gl X "all" := by rfl) (he : starEach [a] X.env = (false, eval a X.env) :: starEach [] X.env := by rfl) : EvE T X (.Call (.Name "all" p) [a] [] pos) ρ (.bl (bs.all id)) := by
  refine ev_callB (cr_all hc) hm (by decide +kernel) (ea_cons ha ea_nil he) (fun B H vs Q s r q => ?_) hg (by decide) (by decide) he rfl
  cases r with
  | cons r1 r2 =>
    cases r2
    cases r1 with
    | lst h1 q1 =>
      rw [q1.bls] at h1
      exact ⟨_, bs, rfl, .of (s _ _ h1), q _ _ _ (.refl s) (.bl _)⟩
theorem ev_any {bs : List Bool} (hc : X.calm = true) (hm : X.mg "any" = none) (ha : EvE T X a ρ (.lst (bs.map D.bl))) (hg : Gl X "any" := by rfl) (he : starEach [a] X.env = (false, eval a X.env) :: starEach [] X.env := by rfl) : EvE T X (.Call (.Name "any" p) [a] [] pos) ρ (.bl (bs.any id)) := by
  refine ev_callB (cr_any hc) hm (by decide +kernel) (ea_cons ha ea_nil he) (fun B H vs Q s r q => ?_) hg (by decide) (by decide) he rfl
  cases r with
  | cons r1 r2 =>
    cases r2
    cases r1 with
    | lst h1 q1 =>
      rw [q1.bls] at h1
      exact ⟨_, bs, rfl, .of (s _ _ h1), q _ _ _ (.refl s) (.bl _)⟩
/-- tuple(list): new; tuple(tuple): itself -/
theorem ev_tupleL (hm : X.mg "tuple" = none) (ha : EvE T X a ρ da) (h : da = .lst ds ∨ da = .tup ds) (hg : Gl X "tuple" := by rfl) (he : starEach [a] X.env = (false, eval a X.env) :: starEach [] X.env := by rfl) : EvE T X (.Call (.Name "tuple" p) [a] [] pos) ρ (.tup ds) := by
  refine ev_callTy call_tuple_of hm (by decide +kernel) (ea_cons ha ea_nil he) (fun B H vs Q s r q => ?_) hg (by decide) (by decide) he rfl
  cases r with
  | cons r1 r2 =>
    cases r2
    rcases h with h | h
    · subst h
      cases r1 with
      | lst h1 q1 => exact ⟨_, _, rfl, .inl ⟨.of (s _ _ h1), fun l hl => q _ _ _ (.new s hl) (.tup (.of upd_same) (q1.mono (.new (s.none hl))))⟩⟩
    · subst h
      cases r1 with
      | tup h1 q1 => exact ⟨_, _, rfl, .inr ⟨exT s h1, q _ _ _ (.refl s) (.tup h1 q1)⟩⟩
/-- xs[::-1] -/
theorem en_rev {k p3} (ha : EvE T X a ρ (.lst ds)) : EvN T X (.Subscript a (.Slice none none (some (.UnaryOp .USub (.Constant (.int 1) k p1) p2)) p3) pos) ρ ds.reverse := fun _ _ _ _ hρ Q q =>
  we (pe_revL pe_we) (ha _ _ _ _ hρ _ fun _ _ _ g1 r1 => by
    cases r1 with
    | lst h1 q1 => exact ⟨_, _, rfl, .of (g1.s _ _ h1), fun p hp => q _ _ _ _ (g1.trans (.own g1.s hp)) (g1.h.none hp) (g1.s.none hp) upd_same q1.reverse⟩)
end
end PL
/-! P3: walks, targets, comprehensions, statements -/
namespace PL
open PySem PySem.Spec PyProof.Rows L2

/-! ### what is walked -/
def WI (X : Cx) (tg iter : Expr) : TI := fun σ H R => ∀ pins s, Inv X pins σ H s → wpAny (model X.prog X.w) X.A (eval iter X.env) (fun v s1 => wpAny (model X.prog X.w) X.A (pyIter v) (PIE X pins σ tg R) X.xe s1) X.xe s
theorem pi_wi {X : Cx} {tg iter : Expr} : PI X tg iter (WI X tg iter) := ⟨fun pins s _ _ _ I h => h pins s I⟩
theorem wi {X : Cx} {tg iter : Expr} {t : TI} {σ : St} {H : Hp} {R : It → Hp → Prop} (h : PI X tg iter t) (q : t σ H R) : WI X tg iter σ H R := fun pins s I => h.run pins s σ H R I q
/-- the iterator J gives ds, one behind another, whatever is added meanwhile -/
def ItOk (K : PySem.W.Frag) (T : CA) (J : It) (B : Hp) (ds : List D) : Prop := ∀ B2 H2, Ex B B2 → Ex B2 H2 →
  (∀ (i : Nat) (d : D), ds[i]? = some d → J.go i H2 ∧ ∀ x H', J.yld i H2 x H' → ∃ B3, Gr B2 H2 B3 H' ∧ Rep K T B3 d x) ∧ J.stop ds.length H2
def EvI (T : CA) (X : Cx) (tg iter : Expr) (ρ : List Sl) (ds : List D) : Prop := ∀ E σ B H, EnvR X.K T E σ B H ρ → ∀ R : It → Hp → Prop, (∀ J B' H', Gr B H B' H' → ItOk X.K T J B' ds → R J H') → WI X tg iter σ H R
section
variable {T : CA} {X : Cx} {ρ : List Sl} {a b c e o tg : Expr} {es rest : List Expr} {d da db dc : D} {ds : List D} {i j : Int} {pos p1 p2 p : Pos} {z z2 : Bool}
theorem itl_ok {K : PySem.W.Frag} {l : Addr} {vs : List V} {B : Hp} (h : B l = some (.lst vs)) (r : Reps K T B ds vs) : ItOk K T (Itl K l) B ds := fun B2 H2 e s => by
  have hs : ∀ xs, SqL K H2 l xs → xs = vs → True := fun _ _ _ => True.intro
  refine ⟨fun i d hd => ?_, ⟨vs, .of (s _ _ (e _ _ h)), by rw [r.length]; exact Nat.le_refl _⟩⟩
  obtain ⟨v, hv, rv⟩ := r.getD hd
  refine ⟨⟨vs, v, .of (s _ _ (e _ _ h)), hv⟩, fun x H' y => ?_⟩
  obtain ⟨e1, y⟩ := y
  subst e1
  have := y vs (.of (s _ _ (e _ _ h)))
  rw [hv] at this
  cases this
  exact ⟨B2, .refl s, rv.mono e⟩
theorem itt_ok {K : PySem.W.Frag} {l : Addr} {vs : List V} {B : Hp} (h : SqT K B l vs) (r : Reps K T B ds vs) : ItOk K T (Itt K l) B ds := fun B2 H2 e s => by
  refine ⟨fun i d hd => ?_, ⟨vs, exT s (exT e h), by rw [r.length]; exact Nat.le_refl _⟩⟩
  obtain ⟨v, hv, rv⟩ := r.getD hd
  refine ⟨⟨vs, v, exT s (exT e h), hv⟩, fun x H' y => ?_⟩
  obtain ⟨e1, y⟩ := y
  subst e1
  have := y vs (exT s (exT e h))
  rw [hv] at this
  cases this
  exact ⟨B2, .refl s, rv.mono e⟩
theorem ei_lst (ha : EvE T X e ρ (.lst ds)) : EvI T X tg e ρ ds := fun _ _ _ _ hρ R q => wi (pi_list pe_we) (ha _ _ _ _ hρ _ fun _ _ _ g r => by
  cases r with
  | lst h1 q1 => exact ⟨_, rfl, ⟨_, .of (g.s _ _ h1)⟩, q _ _ _ g (itl_ok h1 q1)⟩)
theorem ei_tup (ha : EvE T X e ρ (.tup ds)) : EvI T X tg e ρ ds := fun _ _ _ _ hρ R q => wi (pi_tup pe_we) (ha _ _ _ _ hρ _ fun _ _ _ g r => by
  cases r with
  | tup h1 q1 => exact ⟨_, rfl, ⟨_, exT g.s h1⟩, q _ _ _ g (itt_ok h1 q1)⟩)
/-- 0 .. n - 1 as data -/
def rngD (n : Nat) : List D := (List.range n).map fun k : Nat => D.int (k : Int)
theorem rngD_get {n i : Nat} : (rngD n)[i]? = if i < n then some (D.int (i : Int)) else none := by
  unfold rngD
  rw [List.getElem?_map]
  by_cases h : i < n
  · rw [List.getElem?_range h, if_pos h]
    rfl
  · rw [List.getElem?_eq_none (by rw [List.length_range]; omega), if_neg h]
    rfl
theorem ei_rng (hm : X.mg "range" = none) (ha : EvE T X a ρ (.int i)) (h0 : 0 ≤ i) (h1 : i ≤ 1000000) (hg : Gl X "range" := by rfl) (hs : starEach [a] X.env = [(false, eval a X.env)] := by rfl) : EvI T X tg (.Call (.Name "range" p) [a] [] pos) ρ (rngD i.toNat) := fun _ _ _ _ hρ R q =>
  wi (pi_range1 hg hm pa_wa hs) (ea_cons ha ea_nil (by rw [hs]; rfl) _ _ _ _ hρ _ fun _ _ _ g r => by
    cases r with
    | cons r1 r2 =>
      cases r2
      cases r1
      refine ⟨i, rfl, by omega, by omega, q _ _ _ g fun B2 H2 e s => ⟨fun k d hd => ?_, ?_⟩⟩
      · rw [rngD_get] at hd
        split at hd
        · rename_i hk
          cases hd
          refine ⟨hk, fun x H' y => ?_⟩
          obtain ⟨e1, e2⟩ := y
          subst e1 e2
          rw [Int.zero_add]
          exact ⟨B2, .refl s, .int _⟩
        · cases hd
      · show i.toNat ≤ (rngD i.toNat).length
        unfold rngD
        rw [List.length_map, List.length_range]
        exact Nat.le_refl _)
/-- pairs of two lists -/
def zipD : List D → List D → List D
  | x :: xs, y :: ys => .tup [x, y] :: zipD xs ys
  | _, _ => []
theorem zipD_get : ∀ {xs ys : List D} {i : Nat} {d : D}, (zipD xs ys)[i]? = some d → ∃ x y, xs[i]? = some x ∧ ys[i]? = some y ∧ d = .tup [x, y]
  | [], _, _, _, h => by simp [zipD] at h
  | _ :: _, [], _, _, h => by simp [zipD] at h
  | x :: xs, y :: ys, 0, d, h => by
    simp [zipD] at h
    exact ⟨x, y, rfl, rfl, h.symm⟩
  | x :: xs, y :: ys, i + 1, d, h => by
    have h' : (zipD xs ys)[i]? = some d := by simpa [zipD] using h
    obtain ⟨x', y', h1, h2, h3⟩ := zipD_get h'
    exact ⟨x', y', by simpa using h1, by simpa using h2, h3⟩
theorem zipD_len : ∀ (xs ys : List D), (zipD xs ys).length = min xs.length ys.length
  | [], _ => by simp [zipD]
  | _ :: _, [] => by simp [zipD]
  | x :: xs, y :: ys => by
    simp only [zipD, List.length_cons, zipD_len xs ys]
    omega
theorem ei_zip {xs ys : List D} {elts : List Expr} {kk : Nat} {tpos : Pos} (hm : X.mg "zip" = none) (ha : EvE T X a ρ (.lst xs)) (hb : EvE T X b ρ (.lst ys)) (hg : Gl X "zip" := by rfl)
    (hs : starEach [a, b] X.env = (false, eval a X.env) :: starEach [b] X.env := by rfl) (hs2 : starEach [b] X.env = (false, eval b X.env) :: starEach [] X.env := by rfl) (hpi : ∀ ta, X.mg "zip" = none → PA X [a, b] ta → PI X (.Tuple elts kk tpos) (.Call (.Name "zip" p) [a, b] [] pos) (iZip X.K ta) := by exact fun ta hm h => pi_zip rfl hm h) :
    EvI T X (.Tuple elts kk tpos) (.Call (.Name "zip" p) [a, b] [] pos) ρ (zipD xs ys) := fun _ _ _ _ hρ R q =>
  wi (hpi _ hm pa_wa) (ea_cons ha (ea_cons hb ea_nil hs2) hs _ _ _ _ hρ _ fun _ B1 H1 g r => by
    cases r with
    | cons r1 r2 =>
      cases r2 with
      | cons r2 r3 =>
        cases r3
        cases r1 with
        | lst h1 q1 =>
          cases r2 with
          | lst h2 q2 =>
            refine ⟨_, _, _, _, rfl, .of (g.s _ _ h1), .of (g.s _ _ h2), q _ _ _ g fun B2 H2 e s => ⟨fun k d hd => ?_, ?_⟩⟩
            · obtain ⟨x, y, hx, hy, rfl⟩ := zipD_get hd
              obtain ⟨v, hv, rv⟩ := q1.getD hx
              obtain ⟨w, hw, rw'⟩ := q2.getD hy
              refine ⟨⟨_, _, v, w, .of (s _ _ (e _ _ h1)), .of (s _ _ (e _ _ h2)), hv, hw⟩, fun z H' y => ?_⟩
              obtain ⟨t, v', w', rfl, hn, rfl, e1, e2⟩ := y
              have e1' := e1 _ (.of (s _ _ (e _ _ h1)))
              have e2' := e2 _ (.of (s _ _ (e _ _ h2)))
              rw [hv] at e1'
              rw [hw] at e2'
              cases e1'
              cases e2'
              exact ⟨_, .new s hn, .tup (.of upd_same) (.cons ((rv.mono e).mono (.new (s.none hn))) (.one ((rw'.mono e).mono (.new (s.none hn)))))⟩
            · refine ⟨_, _, .of (s _ _ (e _ _ h1)), .of (s _ _ (e _ _ h2)), ?_⟩
              rw [zipD_len, ← q1.length, ← q2.length]
              omega)
def enumD : Nat → List D → List D
  | _, [] => []
  | k, x :: xs => .tup [.int (k : Int), x] :: enumD (k + 1) xs
theorem enumD_get : ∀ {xs : List D} {k i : Nat} {d : D}, (enumD k xs)[i]? = some d → ∃ x, xs[i]? = some x ∧ d = .tup [.int ((k + i : Nat) : Int), x]
  | [], _, _, _, h => by simp [enumD] at h
  | x :: xs, k, 0, d, h => by
    simp [enumD] at h
    exact ⟨x, rfl, h.symm⟩
  | x :: xs, k, i + 1, d, h => by
    have h' : (enumD (k + 1) xs)[i]? = some d := by simpa [enumD] using h
    obtain ⟨x', h1, h3⟩ := enumD_get h'
    exact ⟨x', by simpa using h1, by rw [h3, show k + 1 + i = k + (i + 1) by omega]⟩
theorem enumD_len : ∀ (k : Nat) (xs : List D), (enumD k xs).length = xs.length
  | _, [] => rfl
  | k, x :: xs => by simp [enumD, enumD_len (k + 1) xs]
theorem ei_enum {xs : List D} {elts : List Expr} {kk : Nat} {tpos : Pos} (hm : X.mg "enumerate" = none) (ha : EvE T X a ρ (.lst xs)) (hg : Gl X "enumerate" := by rfl) (hs : starEach [a] X.env = [(false, eval a X.env)] := by rfl) :
    EvI T X (.Tuple elts kk tpos) (.Call (.Name "enumerate" p) [a] [] pos) ρ (enumD 0 xs) := fun _ _ _ _ hρ R q =>
  wi (pi_enum hg hm pa_wa hs) (ea_cons ha ea_nil (by rw [hs]; rfl) _ _ _ _ hρ _ fun _ B1 H1 g r => by
    cases r with
    | cons r1 r2 =>
      cases r2
      cases r1 with
      | lst h1 q1 =>
        refine ⟨_, _, rfl, .of (g.s _ _ h1), q _ _ _ g fun B2 H2 e s => ⟨fun k d hd => ?_, ?_⟩⟩
        · obtain ⟨x, hx, rfl⟩ := enumD_get hd
          obtain ⟨v, hv, rv⟩ := q1.getD hx
          refine ⟨⟨_, v, .of (s _ _ (e _ _ h1)), hv⟩, fun z H' y => ?_⟩
          obtain ⟨t, v', rfl, hn, rfl, e1⟩ := y
          have e1' := e1 _ (.of (s _ _ (e _ _ h1)))
          rw [hv] at e1'
          cases e1'
          rw [Nat.zero_add]
          exact ⟨_, .new s hn, .tup (.of upd_same) (.cons (.int _) (.one ((rv.mono e).mono (.new (s.none hn)))))⟩
        · refine ⟨_, .of (s _ _ (e _ _ h1)), ?_⟩
          rw [enumD_len, q1.length]
          exact Nat.le_refl _)

/-! ### slices of lists -/
def EvO (T : CA) (X : Cx) (e : Option Expr) (ρ : List Sl) (o : Option Int) : Prop := ∀ E σ B H, EnvR X.K T E σ B H ρ → ∀ Q : Option Int → Hp → Prop, (∀ B' H', Gr B H B' H' → Q o H') →
  ∀ pins s, Inv X pins σ H s → wpAny (model X.prog X.w) X.A (evalPart e X.env) (fun u s' => ∃ o H', Inv X pins σ H' s' ∧ IsPart u o ∧ Q o H') X.xe s
def WO (X : Cx) (e : Option Expr) : TO := fun σ H Q => ∀ pins s, Inv X pins σ H s → wpAny (model X.prog X.w) X.A (evalPart e X.env) (fun u s' => ∃ o H', Inv X pins σ H' s' ∧ IsPart u o ∧ Q o H') X.xe s
theorem po_wo {X : Cx} {e : Option Expr} : PO X e (WO X e) := ⟨fun pins s _ _ _ I h => h pins s I⟩
theorem eo_none : EvO T X none ρ none := fun _ _ _ _ hρ _ q pins s I => po_none.run pins s _ _ _ I (q _ _ (.refl hρ.bh))
theorem eo_some (ha : EvE T X a ρ (.int i)) : EvO T X (some a) ρ (some i) := fun _ σ _ _ hρ Q q pins s I => (po_some pe_we).run pins s _ _ _ I (ha _ _ _ _ hρ _ fun _ _ _ g r => by
  cases r
  exact ⟨i, rfl, q _ _ g⟩)
def cutD (xs : List D) (lo hi : Option Int) : List D := (xs.drop (HT.sIx xs.length 0 lo)).take (HT.sIx xs.length xs.length hi - HT.sIx xs.length 0 lo)
theorem en_slice {lo hi : Option Expr} {x y : Option Int} (ha : EvE T X a ρ (.lst ds)) (hl : EvO T X lo ρ x) (hh : EvO T X hi ρ y) : EvN T X (.Subscript a (.Slice lo hi none p2) pos) ρ (cutD ds x y) := fun _ _ _ _ hρ Q q =>
  we (pe_slice sl_list pe_we po_wo po_wo) (ha _ _ _ _ hρ _ fun _ _ _ g1 r1 => hl _ _ _ _ (hρ.gr g1) _ fun _ _ g2 => hh _ _ _ _ (hρ.gr (g1.trans g2)) _ fun _ _ g3 => by
    have g := (g1.trans g2).trans g3
    cases (r1.mono (g2.trans g3).b) with
    | lst h1 q1 =>
      refine ⟨_, _, rfl, .of (g3.s _ _ h1), fun p hp => q _ _ _ _ (g.trans (.own g3.s hp)) (g.h.none hp) (g3.s.none hp) upd_same ?_⟩
      unfold cutD cutV
      rw [q1.length]
      exact (q1.drop _).take _)

/-! ### targets -/
def EvG (T : CA) (X : Cx) (tg : Expr) (ρ : List Sl) (d : D) (ρ' : List Sl) (js : List Nat) : Prop := ∀ E σ B H v, EnvR X.K T E σ B H ρ → Rep X.K T B d v → ∀ Q : St → Hp → Prop,
  (∀ σ', EnvR X.K T E σ' B H ρ' → σ'.length = σ.length → (∀ i : Nat, i ∉ js → σ'[i]? = σ[i]?) → Q σ' H) → WG X tg v σ H Q
theorem pg_wg : PG X tg (WG X tg) := ⟨fun pins s _ _ _ u _ I r h => h pins s u I r⟩
theorem wg {t : TG} {v : V} {σ : St} {H : Hp} {Q : St → Hp → Prop} (h : PG X tg t) (q : t v σ H Q) : WG X tg v σ H Q := fun pins s u I r => h.run pins s σ H v u Q I r q
theorem eg_name (n : Nat) {x : Str} (hN : X.N.Nodup) (hi : X.N[n]? = some x) (hx : Loc X.env.scope x) (hf : X.fn x = true ∨ X.env.scope.names.lookup x = some .local := by first | exact .inl rfl | exact .inr rfl) :
    EvG T X (.Name x pos) ρ d (ρ.set n (.va d)) [n] := fun _ _ _ _ _ hρ r _ q =>
  wg (pg_name hN hi hx hf) (q _ (hρ.set r) (List.length_set ..) fun i hi => List.getElem?_set_ne (fun z => hi (by rw [z]; exact List.mem_cons_self)))
def WGs (X : Cx) (ts : List Expr) : TGs := fun vs σ H Q => ∀ pins s us, Inv X pins σ H s → Vals vs us → wpAny (model X.prog X.w) X.A (assignInOrder ((assignEach ts X.env).map (·.2)) us) (fun _ s' => ∃ σ' H', Inv X pins σ' H' s' ∧ Q σ' H') X.xe s
theorem pgs_wgs : PGs X es (WGs X es) := ⟨fun pins s _ _ _ us _ I r h => h pins s us I r⟩
theorem wgs {t : TGs} {vs : List V} {σ : St} {H : Hp} {Q : St → Hp → Prop} (h : PGs X es t) (q : t vs σ H Q) : WGs X es vs σ H Q := fun pins s us I r => h.run pins s σ H vs us Q I r q
def EvGs (T : CA) (X : Cx) (ts : List Expr) (ρ : List Sl) (ds : List D) (ρ' : List Sl) (js : List Nat) : Prop := ∀ E σ B H vs, EnvR X.K T E σ B H ρ → Reps X.K T B ds vs → ∀ Q : St → Hp → Prop,
  (∀ σ', EnvR X.K T E σ' B H ρ' → σ'.length = σ.length → (∀ i : Nat, i ∉ js → σ'[i]? = σ[i]?) → Q σ' H) → WGs X ts vs σ H Q
theorem egs_nil : EvGs T X [] ρ [] ρ [] := fun _ _ _ _ _ hρ r _ q => by
  cases r
  exact wgs pgs_nil ⟨rfl, q _ hρ rfl fun _ _ => rfl⟩
theorem egs_cons {ρ1 ρ2 : List Sl} {j1 j2 : List Nat} (h1 : EvG T X e ρ d ρ1 j1) (h2 : EvGs T X es ρ1 ds ρ2 j2) (hs : (assignEach (e :: es) X.env).map (·.2) = assign e X.env :: (assignEach es X.env).map (·.2) := by rfl) :
    EvGs T X (e :: es) ρ (d :: ds) ρ2 (j1 ++ j2) := fun _ _ _ _ _ hρ r _ q => by
  cases r with
  | cons r rr =>
    exact wgs (pgs_cons pg_wg pgs_wgs hs) ⟨_, _, rfl, h1 _ _ _ _ _ hρ r _ fun σ1 hρ1 l1 e1 => h2 _ _ _ _ _ hρ1 rr _ fun σ2 hρ2 l2 e2 => q _ hρ2 (l2.trans l1) fun i hi => by
      rw [e2 i fun z => hi (List.mem_append_right _ z), e1 i fun z => hi (List.mem_append_left _ z)]⟩
theorem eg_tup {k} {ρ' : List Sl} {js : List Nat} (hc : X.calm = true) (h : EvGs T X es ρ ds ρ' js) (hl : ds.length = es.length := by rfl) (hn : (assignEach es X.env).length = es.length := by rfl) (hst : (assignEach es X.env).findIdx? (·.1) = none := by rfl) :
    EvG T X (.Tuple es k pos) ρ (.tup ds) ρ' js := fun _ _ _ _ _ hρ r _ q => by
  cases r with
  | tup h1 q1 => exact wg (pg_tup hc pgs_wgs hn hst) ⟨_, _, rfl, exT hρ.bh h1, by rw [← q1.length]; exact hl, h _ _ _ _ _ hρ q1 _ q⟩

/-! ### blocks of a comprehension: its own slots forgotten -/
def wipeS (ρ : List Sl) : List Nat → List Sl
  | [] => ρ
  | v :: vs => (wipeS ρ vs).set v .un
theorem EnvR.wipe {K : PySem.W.Frag} {E : Ent} {σ : St} {B H : Hp} (h : EnvR K T E σ B H ρ) : ∀ vs : List Nat, EnvR K T E (L2.wipe σ vs) B H (wipeS ρ vs)
  | [] => h
  | v :: vs => (EnvR.wipe h vs).drop none
theorem wipe_out {σ : St} {i : Nat} : ∀ {vs : List Nat}, i ∉ vs → (L2.wipe σ vs)[i]? = σ[i]?
  | [], _ => rfl
  | v :: vs, h => by
    unfold L2.wipe
    rw [List.getElem?_set_ne (fun z => h (by rw [z]; exact List.mem_cons_self))]
    exact wipe_out fun z => h (List.mem_cons_of_mem _ z)
theorem wipe_in {σ : St} {i : Nat} : ∀ {vs : List Nat}, i ∈ vs → i < σ.length → (L2.wipe σ vs)[i]? = some none
  | v :: vs, h, hl => by
    unfold L2.wipe
    by_cases z : v = i
    · subst z
      exact List.getElem?_set_self (by rw [wipe_length]; exact hl)
    · rw [List.getElem?_set_ne z]
      rcases List.mem_cons.mp h with h | h
      · exact absurd h.symm z
      · exact wipe_in h hl
theorem wipe_same {σ σ2 : St} {vs js : List Nat} (hl : σ2.length = σ.length) (hj : ∀ j ∈ js, j ∈ vs) (h : ∀ i : Nat, i ∉ js → σ2[i]? = (L2.wipe σ vs)[i]?) : L2.wipe σ2 vs = L2.wipe σ vs := by
  refine List.ext_getElem? fun i => ?_
  by_cases hi : i ∈ vs
  · by_cases hb : i < σ.length
    · rw [wipe_in hi hb, wipe_in hi (by rw [hl]; exact hb)]
    · rw [List.getElem?_eq_none (by rw [wipe_length]; omega), List.getElem?_eq_none (by rw [wipe_length]; omega)]
  · rw [wipe_out hi, h i fun z => hi (hj i z)]

/-- the items that a comprehension keeps -/
def keepF {α : Type} (p : α → Bool) (f : α → D) (xs : List α) : List D := (xs.filter p).map f
theorem keepF_take {α : Type} {p : α → Bool} {f : α → D} {xs : List α} {i : Nat} {x : α} (h : xs[i]? = some x) : keepF p f (xs.take (i + 1)) = keepF p f (xs.take i) ++ (if p x = true then [f x] else []) := by
  unfold keepF
  rw [List.take_succ, h, Option.toList_some, List.filter_append, List.map_append]
  by_cases q : p x = true
  · rw [if_pos q, List.filter_cons, if_pos q]
    rfl
  · rw [if_neg q, List.filter_cons, if_neg q]
    rfl
theorem keepF_len {α : Type} (p : α → Bool) (f : α → D) (xs : List α) : (keepF p f xs).length ≤ xs.length := by
  unfold keepF
  rw [List.length_map]
  exact List.length_filter_le _ _
end

section
variable {T : CA} {X : Cx} {ρ ρ' : List Sl} {elt tg iter : Expr} {ifs : List Expr} {scope : Scope} {own : List (Str × Nat)} {pos spos : Pos}
/-- tests of a comprehension -/
def WTs (X : Cx) (ifs : List Expr) : TT := fun σ H Q => ∀ pins s, Inv X pins σ H s →
  wpAny (model X.prog X.w) X.A (forIn ifs true fun c r => if r = true then do let ok ← isTrue c X.env (eval c X.env); pure (ForInStep.yield ok) else pure (ForInStep.yield r)) (TP X pins σ Q) X.xe s
theorem pts_wts : PTs X ifs (WTs X ifs) := ⟨fun pins s _ _ _ I h => h pins s I⟩
theorem wts {t : TT} {σ : St} {H : Hp} {Q : Bool → Hp → Prop} (h : PTs X ifs t) (q : t σ H Q) : WTs X ifs σ H Q := fun pins s I => h.run pins s σ H Q I q
def EvTs (T : CA) (X : Cx) (ifs : List Expr) (ρ : List Sl) (b : Bool) : Prop := ∀ E σ B H, EnvR X.K T E σ B H ρ → ∀ Q : Bool → Hp → Prop, (∀ B' H', Gr B H B' H' → Q b H') → WTs X ifs σ H Q
theorem ets_nil : EvTs T X [] ρ true := fun _ _ _ _ hρ _ q => wts pts_nil (q _ _ (.refl hρ.bh))
theorem ets_one {c : Expr} {b : Bool} (h : EvT T X c ρ b) : EvTs T X [c] ρ b := fun _ _ _ _ hρ _ q => wts (pts_one pt_wt) (h _ _ _ _ hρ _ q)
abbrev BlkX (X : Cx) (scope : Scope) (s : Shared) (H : Hp) (C : Addr) (cl : List (Str × Addr)) (fp : List Addr) : Cx := X.blk s H scope (compEnvC scope cl C X.env) fp
def gB (X : Cx) (scope : Scope) (tg : Expr) : TG := fun v σ H Q => ∀ s H0 C cl fp, WG (BlkX X scope s H0 C cl fp) tg v σ H Q
def tB (X : Cx) (scope : Scope) (ifs : List Expr) : TT := fun σ H Q => ∀ s H0 C cl fp, WTs (BlkX X scope s H0 C cl fp) ifs σ H Q
def eB (X : Cx) (scope : Scope) (elt : Expr) : TE := fun σ H Q => ∀ s H0 C cl fp, WE (BlkX X scope s H0 C cl fp) elt σ H Q
/-- [elt for tg in iter if ..] over items told by xs : List α -/
structure LcOk {α : Type} (T : CA) (X : Cx) (ρ : List Sl) (elt tg : Expr) (ifs : List Expr) (scope : Scope) (vs : List Nat) (enc : α → D) (p : α → Bool) (f : α → D) (xs : List α) : Prop where
  turn : ∀ x ∈ xs, ∃ ρ1 js, (∀ j ∈ js, j ∈ vs) ∧ ∀ s H0 C cl fp, EvG T (BlkX X scope s H0 C cl fp) tg (wipeS ρ vs) (enc x) ρ1 js ∧ EvTs T (BlkX X scope s H0 C cl fp) ifs ρ1 (p x) ∧ (p x = true → EvE T (BlkX X scope s H0 C cl fp) elt ρ1 (f x))
theorem lc_readG {α : Type} {vs : List Nat} {enc : α → D} {p : α → Bool} {f : α → D} {xs : List α} {E : Ent} {σ : St} {B H : Hp} (hi : ∀ R : It → Hp → Prop, (∀ J B' H', Gr B H B' H' → ItOk X.K T J B' (xs.map enc) → R J H') → WI X tg iter σ H R) (h : LcOk T X ρ elt tg ifs scope vs enc p f xs) (hz : xs.length ≤ 100000)
    (hρ : EnvR X.K T E σ B H ρ) {Q : VK} (q : ∀ l us B' H', Gr B H B' H' → H l = none → B' l = none → H' l = some (.lst us) → Reps X.K T B' (keepF p f xs) us → Q (.ref l) H') :
    tLc (WI X tg iter) (gB X scope tg) (tB X scope ifs) (eB X scope elt) vs σ H Q := by
  refine hi _ fun J B1 H1 g1 hJ => ?_
  intro D hD
  refine ⟨fun i m H2 => m = xs.length - i ∧ i ≤ xs.length ∧ ∃ B2 us, Gr B1 (upd H1 D (.lst [])) B2 (upd H2 D (.lst [])) ∧ Ex B2 H2 ∧ B2 D = none ∧ H2 D = some (.lst us) ∧ Reps X.K T B2 (keepF p f (xs.take i)) us, ⟨xs.length, by omega, Nat.zero_le _, B1, [], ?_, ?_, g1.s.none hD, upd_same, .nil⟩, ?_⟩
  · rw [upd_upd]
    exact .refl (Gr.own g1.s hD).s
  · exact (Gr.own g1.s hD).s
  · rintro i m H2 ⟨rfl, hle, B2, us, g2, s2, hb2, h2, r2⟩
    have hex : Ex B1 B2 := g2.b
    obtain ⟨hgo, hstop⟩ := hJ B2 H2 hex s2
    have g02 : Ex H1 H2 := fun a u e => by
      have ne : a ≠ D := ne_of_none e hD
      have e' := g2.h a u (by rw [upd_ne ne]; exact e)
      rw [upd_ne ne] at e'
      exact e'
    have f02 : ∀ a u, H1 a = some u → B1 a = none → B2 a = none := fun a u e n => by
      have ne : a ≠ D := ne_of_none e hD
      exact g2.f a u (by rw [upd_ne ne]; exact e) n
    have gAll : Gr B H B2 H2 := g1.trans ⟨hex, g02, s2, f02⟩
    by_cases hlt : i < xs.length
    · have hx : xs[i]? = some xs[i] := List.getElem?_eq_getElem hlt
      obtain ⟨hg1, hyl⟩ := hgo i (enc xs[i]) (by rw [List.getElem?_map, hx]; rfl)
      obtain ⟨ρ1, js, hjs, hturn⟩ := h.turn xs[i] (List.getElem_mem hlt)
      refine .inr ⟨hg1, fun H3 => i + 1 ≤ xs.length ∧ ∃ B3 us', Gr B1 (upd H1 D (.lst [])) B3 (upd H3 D (.lst [])) ∧ Ex B3 H3 ∧ B3 D = none ∧ H3 D = some (.lst us') ∧ Reps X.K T B3 (keepF p f (xs.take (i + 1))) us', fun H' n => ⟨xs.length - (i + 1), by omega, rfl, n⟩, fun x H3 y => ?_⟩
      obtain ⟨B3, g3, r3⟩ := hyl x H3 y
      -- facts at H3
      have hρ3 : EnvR X.K T E (L2.wipe σ vs) B3 H3 (wipeS ρ vs) := ((hρ.gr gAll).wipe vs).gr g3
      have mk : ∀ {B4 H4 : Hp}, Gr B2 H2 B4 H4 → H4 D = some (.lst us) ∧ B4 D = none ∧ Gr B1 (upd H1 D (.lst [])) B4 (upd H4 D (.lst [])) := fun {B4 H4} g => by
        have hb4 : B4 D = none := g.f D _ h2 hb2
        refine ⟨g.h _ _ h2, hb4, ⟨hex.trans g.b, fun a u e => ?_, fun a u e => ?_, fun a u e n => ?_⟩⟩
        · by_cases z : a = D
          · rw [z, upd_same] at e ⊢
            exact e
          · rw [upd_ne z] at e ⊢
            exact g.h _ _ (g02 _ _ e)
        · have z : a ≠ D := fun z => by
            rw [z, hb4] at e
            cases e
          rw [upd_ne z]
          exact g.s _ _ e
        · by_cases z : a = D
          · rw [z]
            exact hb4
          · rw [upd_ne z] at e
            exact g.f a u (g02 a u e) (f02 a u e n)
      refine fun s H0 C cl fp => (hturn s H0 C cl fp).1 _ _ _ _ _ hρ3 r3 _ fun σ2 hρ4 hl4 hag => ⟨wipe_same (by rw [hl4, wipe_length]) hjs hag, fun s H0 C cl fp => (hturn s H0 C cl fp).2.1 _ _ _ _ hρ4 _ fun B5 H5 g5 => ?_⟩
      have g25 := g3.trans g5
      cases hp : p xs[i] with
      | false =>
        refine iteF ⟨hlt, B5, us, (mk g25).2.2, g25.s, (mk g25).2.1, (mk g25).1, ?_⟩
        rw [keepF_take hx, if_neg (by rw [hp]; exact Bool.false_ne_true), List.append_nil]
        exact r2.mono g25.b
      | true =>
        refine iteT fun s H0 C cl fp => (hturn s H0 C cl fp).2.2 hp _ _ _ _ (hρ4.gr g5) _ fun v B6 H6 g6 r6 => ?_
        have g26 := g25.trans g6
        obtain ⟨hD6, hb6, gg⟩ := mk g26
        refine ⟨us, hD6, ?_, hlt, B6, us ++ [v], ?_, fun a u e => ?_, hb6, upd_same, ?_⟩
        · have l1 := r2.length
          have l2 := keepF_len p f (xs.take i)
          rw [List.length_take] at l2
          rw [sizeLine_eq]
          omega
        · rw [upd_upd]
          exact gg
        · have z : a ≠ D := fun z => by
            rw [z, hb6] at e
            cases e
          rw [upd_ne z]
          exact g26.s _ _ e
        · rw [keepF_take hx, if_pos hp]
          exact (r2.mono g26.b).append (.one r6)
    · have e : i = xs.length := by omega
      subst e
      refine .inl ⟨by rw [List.length_map] at hstop; exact hstop, q D us B2 H2 gAll (g1.h.none hD) hb2 h2 ?_⟩
      rw [List.take_length] at r2
      exact r2

theorem lc_read {α : Type} {vs : List Nat} {enc : α → D} {p : α → Bool} {f : α → D} {xs : List α} (hi : EvI T X tg iter ρ (xs.map enc)) (h : LcOk T X ρ elt tg ifs scope vs enc p f xs) (hz : xs.length ≤ 100000)
    {E : Ent} {σ : St} {B H : Hp} (hρ : EnvR X.K T E σ B H ρ) {Q : VK} (q : ∀ l us B' H', Gr B H B' H' → H l = none → B' l = none → H' l = some (.lst us) → Reps X.K T B' (keepF p f xs) us → Q (.ref l) H') :
    tLc (WI X tg iter) (gB X scope tg) (tB X scope ifs) (eB X scope elt) vs σ H Q := lc_readG (fun R hR => hi _ _ _ _ hρ R hR) h hz hρ q
theorem en_lc {α : Type} {enc : α → D} {p : α → Bool} {f : α → D} {xs : List α} (hc : X.calm = true) (hN : X.N.Nodup) (own : List (Str × Nat)) (ok : BlkOk X.N X.env.scope scope own) (hi : EvI T X tg iter ρ (xs.map enc)) (h : LcOk T X ρ elt tg ifs scope (own.map (·.2)) enc p f xs) (hz : xs.length ≤ 100000)
    (hs : ∀ x, foldedSetIterable iter X.env x = pure x := by intro _; rfl) : EvN T X (.ListComp elt [⟨tg, iter, ifs, 0⟩] scope pos) ρ (keepF p f xs) := fun _ _ _ _ hρ _ q =>
  we (pe_lc (own := own) (g := gB X scope tg) (tt := tB X scope ifs) (te := eB X scope elt) hc hN pi_wi ok (fun s H0 C cl fp => ⟨fun pins s1 σ1 H1 v u Q I r h => h s H0 C cl fp pins s1 u I r⟩) (fun s H0 C cl fp => ⟨fun pins s1 σ1 H1 Q I h => h s H0 C cl fp pins s1 I⟩)
    (fun s H0 C cl fp => ⟨fun pins s1 σ1 H1 Q I h => h s H0 C cl fp pins s1 I⟩) hs) (lc_read hi h hz hρ q)

/-! ### blocks, statements -/
variable {sts rest : List Stmt} {st : Stmt} {Po : Post} {e a b c : Expr} {d : D} {ds : List D} {z : Bool}
theorem Fits.nxt {K : PySem.W.Frag} {E : Ent} {D : Ends} (F : Fits K T E Po D) {N : List Sl → Prop} {Nx : St → Hp → Prop} (h : ∀ σ B H ρ, EnvR K T E σ B H ρ → N ρ → Nx σ H) : Fits K T E { Po with nx := N } { D with nx := Nx } := ⟨h, F.rt, F.bk, F.ct⟩
theorem wb_nil (h : Po.nx ρ) : WB T X [] ρ Po := fun _ _ _ _ _ hρ F => ws pss_nil (F.nx _ _ _ _ hρ h)
theorem wb_cons (h : W1 T X st ρ { Po with nx := fun ρ' => WB T X rest ρ' Po }) : WB T X (st :: rest) ρ Po := fun E _ _ _ D hρ F =>
  ws (pss_cons ps_ws1 pss_ws) (h E _ _ _ { D with nx := WS X rest D } hρ (F.nxt fun _ _ _ _ hρ' n => n E _ _ _ D hρ' F))
theorem w_ret (h : EvE T X e ρ d) (q : Po.rt d) : W1 T X (.Return (some e) pos) ρ Po := fun E _ _ _ D hρ F =>
  ws1 (ps_ret pe_we) (h _ _ _ _ hρ _ fun _ _ _ g r => F.rt _ _ _ _ (hρ.gr g).fr (hρ.gr g).em r q)
theorem wb_ret (h : EvE T X e ρ d) (q : Po.rt d) : WB T X (.Return (some e) pos :: rest) ρ Po := wb_cons (w_ret h q)
theorem w_pass (h : Po.nx ρ) : W1 T X (.Pass pos) ρ Po := fun E _ _ _ D hρ F => ws1 ps_pass (F.nx _ _ _ _ hρ h)
theorem w_set (n : Nat) {x : Str} {pos' : Pos} (hN : X.N.Nodup) (hi : X.N[n]? = some x) (hx : Loc X.env.scope x) (h : EvE T X e ρ d) (q : Po.nx (ρ.set n (.va d))) (hs : swapsWith e (some (.Name x pos')) pos.line X.env = pure false := by rfl)
    (hf : X.fn x = true ∨ X.env.scope.names.lookup x = some .local := by first | exact .inl rfl | exact .inr rfl) : W1 T X (.Assign [.Name x pos'] e pos) ρ Po := fun E _ _ _ D hρ F =>
  ws1 (ps_set hN hi hx pe_we hs hf) (h _ _ _ _ hρ _ fun _ _ _ g r => F.nx _ _ _ _ ((hρ.gr g).set r) q)
/-- a new list becomes the name's own -/
theorem env_own {K : PySem.W.Frag} {E : Ent} {σ : St} {B H B' H' : Hp} {l : Addr} {us : List V} (n : Nat) (hρ : EnvR K T E σ B H ρ) (g : Gr B H B' H') (hl : H l = none) (hb : B' l = none) (h' : H' l = some (.lst us)) (r : Reps K T B' ds us) :
    EnvR K T E (σ.set n (some (.ref l))) B' H' (ρ.set n (.ow ds)) := by
  have hρ' := hρ.gr g
  refine hρ'.setOw h' hb ?_ r fun j es ej z => ?_
  · cases q : E.H l with
    | none => rfl
    | some o =>
      cases Classical.em (E.M l) with
      | inl m =>
        obtain ⟨u, hu, _⟩ := hρ.em l m
        rw [hl] at hu
        cases hu
      | inr m =>
        rw [hρ.fr.h l o q m] at hl
        cases hl
  · obtain ⟨l', vs, e1, e2, _⟩ := hρ.at_ j _ ej
    rw [z] at e1
    cases e1
    rw [hl] at e2
    cases e2
theorem w_setN (n : Nat) {x : Str} {pos' : Pos} (hN : X.N.Nodup) (hi : X.N[n]? = some x) (hx : Loc X.env.scope x) (h : EvN T X e ρ ds) (q : Po.nx (ρ.set n (.ow ds))) (hs : swapsWith e (some (.Name x pos')) pos.line X.env = pure false := by rfl)
    (hf : X.fn x = true ∨ X.env.scope.names.lookup x = some .local := by first | exact .inl rfl | exact .inr rfl) : W1 T X (.Assign [.Name x pos'] e pos) ρ Po := fun E _ _ _ D hρ F =>
  ws1 (ps_set hN hi hx pe_we hs hf) (h _ _ _ _ hρ _ fun _ _ _ _ g hl hb h' r => F.nx _ _ _ _ (env_own n hρ g hl hb h' r) q)
/-- y = [..] on its line, y a local: as its own, as data -/
theorem w_lcN {α : Type} {enc : α → D} {p : α → Bool} {f : α → D} {xs : List α} (n : Nat) {y : Str} {py : Pos} (hc : X.calm = true) (hN : X.N.Nodup) (own : List (Str × Nat)) (hy : X.N[n]? = some y) (hyl : X.env.scope.names.lookup y = some .local)
    (ok : BlkOk X.N X.env.scope scope own) (hi : EvI T X tg iter ρ (xs.map enc)) (h : LcOk T X ρ elt tg ifs scope (own.map (·.2)) enc p f xs) (hz : xs.length ≤ 100000) (q : Po.nx (ρ.set n (.ow (keepF p f xs))))
    (hsw : swapsWith (.ListComp elt [⟨tg, iter, ifs, 0⟩] scope pos) (some (.Name y py)) spos.line X.env = pure true) (hs : ∀ x, foldedSetIterable iter X.env x = pure x := by intro _; rfl) :
    W1 T X (.Assign [.Name y py] (.ListComp elt [⟨tg, iter, ifs, 0⟩] scope pos) spos) ρ Po := fun E _ _ _ D hρ F =>
  ws1 (ps_setLc (i := n) (own := own) (g := gB X scope tg) (tt := tB X scope ifs) (te := eB X scope elt) hc hN hy hyl hsw pi_wi ok (fun s H0 C cl fp => ⟨fun pins s1 σ1 H1 v u Q I r h => h s H0 C cl fp pins s1 u I r⟩) (fun s H0 C cl fp => ⟨fun pins s1 σ1 H1 Q I h => h s H0 C cl fp pins s1 I⟩)
    (fun s H0 C cl fp => ⟨fun pins s1 σ1 H1 Q I h => h s H0 C cl fp pins s1 I⟩) hs) (lc_read hi h hz hρ fun _ _ _ _ g hl hb h' r => F.nx _ _ _ _ (env_own n hρ g hl hb h' r) q)
theorem w_if (h : EvT T X c ρ z) (h1 : z = true → WB T X sts ρ Po) (h2 : z = false → WB T X rest ρ Po) : W1 T X (.If c sts rest pos) ρ Po := fun E _ _ _ D hρ F =>
  ws1 (ps_if pt_wt pss_ws pss_ws) (h _ _ _ _ hρ _ fun _ _ g => by
    cases z with
    | true => exact iteT (h1 rfl E _ _ _ D (hρ.gr g) F)
    | false => exact iteF (h2 rfl E _ _ _ D (hρ.gr g) F))
/-- target = e, any target -/
theorem w_asg {ρ' : List Sl} {js : List Nat} (h : EvE T X e ρ d) (hg : EvG T X tg ρ d ρ' js) (q : Po.nx ρ') (hs : swapsWithSole [tg] e pos.line X.env = pure false := by rfl) (hw : swappedStores [tg] e X.env = pure none := by rfl)
    (h1 : (assignEach [tg] X.env).map (·.2) = [assign tg X.env] := by rfl) : W1 T X (.Assign [tg] e pos) ρ Po := fun E _ _ _ D hρ F =>
  ws1 (ps_asg pe_we pg_wg hs hw h1) (h _ _ _ _ hρ _ fun _ _ _ g r => hg _ _ _ _ _ (hρ.gr g) r _ fun σ' hρ' _ _ => F.nx _ _ _ _ hρ' q)
/-- a, b = e1, e2 -/
theorem w_par (i j : Nat) {x y : Str} {d1 d2 : D} {px py pt : Pos} {kt k2 pt2} (hc : X.calm = true) (hN : X.N.Nodup) (hi : X.N[i]? = some x) (hj : X.N[j]? = some y) (hij : i ≠ j) (hx : X.env.scope.names.lookup x = some .local) (hy : X.env.scope.names.lookup y = some .local)
    (ha : EvA T X [a, b] ρ [d1, d2]) (q : Po.nx ((ρ.set i (.va d1)).set j (.va d2))) (hw : swappedStores [.Tuple [.Name x px, .Name y py] kt pt] (.Tuple [a, b] k2 pt2) X.env = pure (some [x, y]) := by rfl)
    (hs : swapsWithSole [.Tuple [.Name x px, .Name y py] kt pt] (.Tuple [a, b] k2 pt2) pos.line X.env = pure false := by rfl) : W1 T X (.Assign [.Tuple [.Name x px, .Name y py] kt pt] (.Tuple [a, b] k2 pt2) pos) ρ Po := fun E _ _ _ D hρ F =>
  ws1 (ps_par hc hN hi hj hij hx hy pa_wa hw hs) (ha _ _ _ _ hρ _ fun _ _ _ g r => by
    cases r with
    | cons r1 r2 =>
      cases r2 with
      | cons r2 r3 =>
        cases r3
        exact ⟨_, _, rfl, F.nx _ _ _ _ (((hρ.gr g).set r1).set r2) q⟩)
theorem w_par3 (i j l : Nat) {x y w : Str} {d1 d2 d3 : D} {px py pz pt : Pos} {kt k2 pt2} (hc : X.calm = true) (hN : X.N.Nodup) (hi : X.N[i]? = some x) (hj : X.N[j]? = some y) (hl : X.N[l]? = some w) (hij : i ≠ j) (hil : i ≠ l) (hjl : j ≠ l) (hx : X.env.scope.names.lookup x = some .local) (hy : X.env.scope.names.lookup y = some .local)
    (hz : X.env.scope.names.lookup w = some .local) (ha : EvA T X [a, b, c] ρ [d1, d2, d3]) (q : Po.nx (((ρ.set i (.va d1)).set j (.va d2)).set l (.va d3)))
    (hps : ∀ ta, PA X [a, b, c] ta → PS X (.Assign [.Tuple [.Name x px, .Name y py, .Name w pz] kt pt] (.Tuple [a, b, c] k2 pt2) pos) (tPar3 i j l ta)) : W1 T X (.Assign [.Tuple [.Name x px, .Name y py, .Name w pz] kt pt] (.Tuple [a, b, c] k2 pt2) pos) ρ Po := fun E _ _ _ D hρ F =>
  ws1 (hps _ pa_wa) (ha _ _ _ _ hρ _ fun _ _ _ g r => by
    cases r with
    | cons r1 r2 =>
      cases r2 with
      | cons r2 r3 =>
        cases r3 with
        | cons r3 r4 =>
          cases r4
          exact ⟨_, _, _, rfl, F.nx _ _ _ _ ((((hρ.gr g).set r1).set r2).set r3) q⟩)
/-- the part of data that is to stay, told anew -/
theorem Frm.rebase {E : Ent} {B H : Hp} (x : Frm E B H) : Frm ⟨E.M, E.O, B, E.H⟩ B H := ⟨x.s, Ex.refl _, x.h, fun _ _ _ n => n⟩
theorem Frm.back {E : Ent} {B0 H0 B H : Hp} (y : Frm E B0 H0) (x : Frm ⟨E.M, E.O, B0, E.H⟩ B H) : Frm E B H := ⟨x.s, y.b.trans x.b, x.h, fun a o e n => x.f a o e (y.f a o e n)⟩
theorem SlotOk.base {K : PySem.W.Frag} {M : Addr → Prop} {O : HO → Prop} {B0 B1 H0 B H : Hp} {x : Option (Option V)} {s : Sl} (h : SlotOk K T ⟨M, O, B0, H0⟩ B H x s) : SlotOk K T ⟨M, O, B1, H0⟩ B H x s := by
  cases s <;> exact h
theorem EnvR.rebase {K : PySem.W.Frag} {E : Ent} {σ : St} {B H : Hp} (x : EnvR K T E σ B H ρ) : EnvR K T ⟨E.M, E.O, B, E.H⟩ σ B H ρ := ⟨x.fr.rebase, x.em, x.e0, x.len, fun i s e => (x.at_ i s e).base, x.ap⟩
theorem EnvR.back {K : PySem.W.Frag} {E : Ent} {σ : St} {B0 H0 B H : Hp} (y : Frm E B0 H0) (x : EnvR K T ⟨E.M, E.O, B0, E.H⟩ σ B H ρ) : EnvR K T E σ B H ρ := ⟨y.back x.fr, x.em, x.e0, x.len, fun i s e => (x.at_ i s e).base, x.ap⟩
/-- for tg in iter, by a word over (turn, environment) -/
theorem w_for {body : List Stmt} (hp : PassesOwn (model X.prog X.w) X.A X.env X.xe) (hc : X.calm = true) (hi : EvI T X tg iter ρ ds) (Iv : Nat → List Sl → Prop) (h0 : Iv 0 ρ)
    (hs : ∀ (k : Nat) (d : D) (ρ1 : List Sl), ds[k]? = some d → Iv k ρ1 → ∃ ρ2 js, EvG T X tg ρ1 d ρ2 js ∧ WB T X body ρ2 { nx := Iv (k + 1), rt := Po.rt, bk := Po.nx, ct := Iv (k + 1) }) (hd : ∀ ρ1, Iv ds.length ρ1 → Po.nx ρ1)
    (hf : ∀ x, foldedSetIterable iter X.env x = pure x := by intro _; rfl) : W1 T X (.For tg iter body [] pos) ρ Po := fun E σ B H D hρ F =>
  ws1 (ps_for hp hc pi_wi pg_wg pss_ws hf) (hi _ _ _ _ hρ _ fun J B1 H1 g1 hJ => by
    have hρ1 := hρ.gr g1
    refine ⟨fun i m σ2 H2 => m = ds.length - i ∧ i ≤ ds.length ∧ ∃ B2 ρ2, EnvR X.K T ⟨E.M, E.O, B1, E.H⟩ σ2 B2 H2 ρ2 ∧ Iv i ρ2, ⟨ds.length, by omega, Nat.zero_le _, B1, ρ, hρ1.rebase, h0⟩, ?_⟩
    rintro i m σ2 H2 ⟨rfl, hle, B2, ρ2, hρ2, iv⟩
    obtain ⟨hgo, hstop⟩ := hJ B2 H2 hρ2.fr.b hρ2.bh
    by_cases hlt : i < ds.length
    · have hx : ds[i]? = some ds[i] := List.getElem?_eq_getElem hlt
      obtain ⟨hg1, hyl⟩ := hgo i ds[i] hx
      refine .inr ⟨hg1, fun σ3 H3 => i + 1 ≤ ds.length ∧ ∃ B3 ρ3, EnvR X.K T ⟨E.M, E.O, B1, E.H⟩ σ3 B3 H3 ρ3 ∧ Iv (i + 1) ρ3, fun σ3 H3 n => ⟨ds.length - (i + 1), by omega, rfl, n⟩, fun x H3 y => ?_⟩
      obtain ⟨B3, g3, r3⟩ := hyl x H3 y
      obtain ⟨ρ3, js, hg, hb⟩ := hs i ds[i] ρ2 hx iv
      refine hg _ _ _ _ _ (hρ2.gr g3) r3 _ fun σ4 hρ4 _ _ => ?_
      exact hb ⟨E.M, E.O, B1, E.H⟩ σ4 B3 H3 _ hρ4 ⟨fun σ5 B5 H5 ρ5 h5 n5 => ⟨hlt, B5, ρ5, h5, n5⟩, fun v B5 H5 d5 f5 m5 r5 q5 => F.rt _ _ _ _ (hρ1.fr.back f5) m5 r5 q5, fun σ5 B5 H5 ρ5 h5 n5 => F.nx _ _ _ _ (h5.back hρ1.fr) n5, fun σ5 B5 H5 ρ5 h5 n5 => ⟨hlt, B5, ρ5, h5, n5⟩⟩
    · have e : i = ds.length := by omega
      subst e
      exact .inl ⟨hstop, F.nx _ _ _ _ (hρ2.back hρ1.fr) (hd _ iv)⟩)
/-- while c: body, by a word and a measure -/
theorem w_while {body : List Stmt} (hp : PassesOwn (model X.prog X.w) X.A X.env X.xe) (Iv : Nat → List Sl → Prop) (m0 : Nat) (h0 : Iv m0 ρ)
    (hs : ∀ m ρ1, Iv m ρ1 → ∃ z, EvT T X c ρ1 z ∧ (z = true → WB T X body ρ1 { nx := fun ρ2 => ∃ m', m' < m ∧ Iv m' ρ2, rt := Po.rt, bk := Po.nx, ct := fun ρ2 => ∃ m', m' < m ∧ Iv m' ρ2 }) ∧ (z = false → Po.nx ρ1)) : W1 T X (.While c body [] pos) ρ Po := fun E σ B H D hρ F =>
  ws1 (ps_while hp pt_wt pss_ws) (by
    refine ⟨fun m σ2 H2 => ∃ B2 ρ2, EnvR X.K T E σ2 B2 H2 ρ2 ∧ Iv m ρ2, ⟨m0, B, ρ, hρ, h0⟩, ?_⟩
    rintro m σ2 H2 ⟨B2, ρ2, hρ2, iv⟩
    obtain ⟨z, hz, h1, h2⟩ := hs m ρ2 iv
    refine hz _ _ _ _ hρ2 _ fun B3 H3 g3 => ?_
    cases z with
    | true =>
      refine iteT ⟨fun σ4 H4 => ∃ m', m' < m ∧ ∃ B4 ρ4, EnvR X.K T E σ4 B4 H4 ρ4 ∧ Iv m' ρ4, fun _ _ n => n, ?_⟩
      exact h1 rfl E σ2 B3 H3 _ (hρ2.gr g3) ⟨fun σ5 B5 H5 ρ5 h5 ⟨m', l, n5⟩ => ⟨m', l, B5, ρ5, h5, n5⟩, F.rt, F.nx, fun σ5 B5 H5 ρ5 h5 ⟨m', l, n5⟩ => ⟨m', l, B5, ρ5, h5, n5⟩⟩
    | false => exact iteF (F.nx _ _ _ _ (hρ2.gr g3) (h2 rfl)))
/-- xs.append(e), xs its own -/
theorem w_append (n : Nat) {x : Str} {px apos cpos : Pos} (hN : X.N[n]? = some x) (hv : Vis X.env.scope x) (hρn : ρ[n]? = some (.ow ds)) (h : EvE T X e ρ d) (hz : ds.length < 100000) (q : Po.nx (ρ.set n (.ow (ds ++ [d]))))
    (hd : (x == ("__debug__" : Str)) = false := by decide) (hcd : (x == ("__classdict__" : Str)) = false := by decide)
    (hpe : ∀ to t, PE X (.Name x px) to → PA X [e] t → PE X (.Call (.Attribute (.Name x px) "append" apos) [e] [] cpos) (tBM X.K "list" rAppend to t) := by exact fun to t h1 h2 => pe_bm PySem.F.plainAttrs_list PySem.F.slot_list_append PySem.F.type_list_append mt_append h1 h2)
    (hs1 : starEach [e] X.env = (false, eval e X.env) :: starEach [] X.env := by rfl) (hs : swapsWith (.Call (.Attribute (.Name x px) "append" apos) [e] [] cpos) none pos.line X.env = pure false := by rfl) :
    W1 T X (.Expr (.Call (.Attribute (.Name x px) "append" apos) [e] [] cpos) pos) ρ Po := fun E σ B H D hρ F =>
  ws1 (ps_expr (hpe _ _ (pe_var hN hv hd hcd) pa_wa) hs) (by
    obtain ⟨l, us, e1, e2, e3, e4, e5⟩ := hρ.at_ n _ hρn
    refine ⟨.ref l, e1, .inl ⟨rfl, us, .of e2⟩, ?_⟩
    refine ea_cons h ea_nil hs1 _ _ _ _ hρ _ fun vs B1 H1 g r => ?_
    cases r with
    | cons r1 r2 =>
      cases r2
      have hρ1 := hρ.gr g
      have h1 : H1 l = some (.lst us) := g.h _ _ e2
      refine ⟨l, us, _, rfl, rfl, h1, ?_, F.nx _ _ _ _ (hρ1.mut hρn e1 h1 ((e5.mono g.b).append (.one r1))) q⟩
      rw [← e5.length, sizeLine_eq]
      omega)
/-- xs.extend([..]), xs its own -/
theorem w_extend (n : Nat) {x : Str} {px apos cpos : Pos} {es : List D} (hN : X.N[n]? = some x) (hv : Vis X.env.scope x) (hρn : ρ[n]? = some (.ow ds)) (h : EvE T X e ρ (.lst es)) (hz : ds.length + es.length < 100000) (q : Po.nx (ρ.set n (.ow (ds ++ es))))
    (hd : (x == ("__debug__" : Str)) = false := by decide) (hcd : (x == ("__classdict__" : Str)) = false := by decide)
    (hpe : ∀ to t, PE X (.Name x px) to → PA X [e] t → PE X (.Call (.Attribute (.Name x px) "extend" apos) [e] [] cpos) (tBM X.K "list" rExtend to t) := by exact fun to t h1 h2 => pe_bm PySem.F.plainAttrs_list PySem.F.slot_list_extend PySem.F.type_list_extend mt_extend h1 h2)
    (hs1 : starEach [e] X.env = (false, eval e X.env) :: starEach [] X.env := by rfl) (hs : swapsWith (.Call (.Attribute (.Name x px) "extend" apos) [e] [] cpos) none pos.line X.env = pure false := by rfl) :
    W1 T X (.Expr (.Call (.Attribute (.Name x px) "extend" apos) [e] [] cpos) pos) ρ Po := fun E σ B H D hρ F =>
  ws1 (ps_expr (hpe _ _ (pe_var hN hv hd hcd) pa_wa) hs) (by
    obtain ⟨l, us, e1, e2, e3, e4, e5⟩ := hρ.at_ n _ hρn
    refine ⟨.ref l, e1, .inl ⟨rfl, us, .of e2⟩, ?_⟩
    refine ea_cons h ea_nil hs1 _ _ _ _ hρ _ fun vs B1 H1 g r => ?_
    cases r with
    | cons r1 r2 =>
      cases r2
      cases r1 with
      | lst h1 q1 =>
        have hρ1 := hρ.gr g
        have h2 : H1 l = some (.lst us) := g.h _ _ e2
        refine ⟨l, _, us, _, rfl, rfl, h2, g.s _ _ h1, ?_, F.nx _ _ _ _ (hρ1.mut hρn e1 h2 ((e5.mono g.b).append q1)) q⟩
        rw [← e5.length, ← q1.length, sizeLine_eq]
        omega)
/-- a name's own list is data from here on -/
theorem wb_frz (n : Nat) (h : ρ[n]? = some (.ow ds)) (k : WB T X sts (ρ.set n (.va (.lst ds))) Po) : WB T X sts ρ Po := fun E σ B H D hρ F => by
  obtain ⟨B', _, h'⟩ := hρ.frz h
  exact k E σ B' H D h' F
theorem w_frz (n : Nat) (h : ρ[n]? = some (.ow ds)) (k : W1 T X st (ρ.set n (.va (.lst ds))) Po) : W1 T X st ρ Po := fun E σ B H D hρ F => by
  obtain ⟨B', _, h'⟩ := hρ.frz h
  exact k E σ B' H D h' F
/-- a weaker end -/
theorem W1.imp {Po' : Post} (h : W1 T X st ρ Po') (h1 : ∀ ρ, Po'.nx ρ → Po.nx ρ) (h2 : ∀ d, Po'.rt d → Po.rt d) (h3 : ∀ ρ, Po'.bk ρ → Po.bk ρ) (h4 : ∀ ρ, Po'.ct ρ → Po.ct ρ) : W1 T X st ρ Po := fun E σ B H D hρ F =>
  h E σ B H D hρ ⟨fun σ B H ρ x n => F.nx σ B H ρ x (h1 ρ n), fun v B H d x m r n => F.rt v B H d x m r (h2 d n), fun σ B H ρ x n => F.bk σ B H ρ x (h3 ρ n), fun σ B H ρ x n => F.ct σ B H ρ x (h4 ρ n)⟩
end
end PL
/-! P4: defs, methods, properties, classes -/
namespace PL
open PySem PySem.Spec PyProof.Rows L2

/-- a def's promise over data: of args x it gives res x, where pre x -/
def SpP {α : Type} (K : PySem.W.Frag) (T : CA) (args : α → List D) (pre : α → Prop) (res : α → D) : Sp := fun vs H Q _ => ∃ (x : α) (B : Hp), Ex B H ∧ Reps K T B (args x) vs ∧ pre x ∧ ∀ v B' H', Gr B H B' H' → Rep K T B' (res x) v → Q v H'
/-- what all that follows stands on -/
structure Cn where
  P : Program
  w : World
  K : PySem.W.Frag
  mg : Str → Option Value
  base : Heap
/-- the module's def x keeps sp -/
def Good (c : Cn) (x : Str) (k : Nat) (ps : List Str) (sp : Sp) : Prop := ∃ f fd, c.mg x = some (.ref f) ∧ PySem.W.keepIn c.K (.ref f) = true ∧ Binds c.K fd ps [] ∧ FnOk c.P c.w c.K c.mg c.base CX0 k f fd ps sp
/-- a method of the class at C; a property's getter -/
def GoodM (c : Cn) (C : Addr) (m : Str) (k : Nat) (ps : List Str) (sp : Sp) : Prop := ∃ f fd, Meth c.K C m f ∧ Binds c.K fd ps [] ∧ FnOk c.P c.w c.K c.mg c.base CX0 k f fd ps sp
def GoodP (c : Cn) (C : Addr) (m : Str) (k : Nat) (sp : Sp) : Prop := ∃ p f fd, PropOf c.K C m p f ∧ Binds c.K fd ["self"] [] ∧ FnOk c.P c.w c.K c.mg c.base CX0 k f fd ["self"] sp
def cnOf (X : Cx) : Cn := ⟨X.prog, X.w, X.K, X.mg, X.base⟩

section
variable {T : CA} {X : Cx} {ρ : List Sl} {a b e o : Expr} {es : List Expr} {d r : D} {ds : List D} {pos p apos : Pos} {α : Type} {args : α → List D} {pre : α → Prop} {res : α → D} {k : Nat} {ps : List Str} {x m : Str}
theorem ev_call {c : Cn} (G : Good c x k ps (SpP c.K T args pre res)) (y : α) (hc : cnOf X = c) (hr : Room k X.A) (ha : EvA T X (e :: es) ρ (args y)) (hp : pre y) (hg : Gl X x := by rfl) (hdb : (x == ("__debug__" : Str)) = false := by decide)
    (he : starEach (e :: es) X.env = (false, eval e X.env) :: starEach es X.env := by rfl) (hpl : (backTo pos (starEach es X.env)).any (·.1) = false := by rfl) : EvE T X (.Call (.Name x p) (e :: es) [] pos) ρ (res y) := fun _ _ _ _ hρ Q q => by
  subst hc
  obtain ⟨f, fd, hm, hk, hb, F⟩ := G
  refine we (pe_call (dvs := []) F hr hg hm hk hb .nil pass0 pa_wa hdb he hpl) (ha _ _ _ _ hρ _ fun vs B1 H1 g1 r1 => ?_)
  show SpP X.K T args pre res (vs ++ []) H1 Q E0
  rw [List.append_nil]
  exact ⟨y, B1, g1.s, r1, hp, fun v B2 H2 g2 r2 => q _ _ _ (g1.trans g2) r2⟩
theorem ev_call0 {c : Cn} (G : Good c x k ps (SpP c.K T args pre res)) (y : α) (hc : cnOf X = c) (hr : Room k X.A) (ha : args y = []) (hp : pre y) (hg : Gl X x := by rfl) (hdb : (x == ("__debug__" : Str)) = false := by decide) : EvE T X (.Call (.Name x p) [] [] pos) ρ (res y) := fun _ _ _ _ hρ Q q => by
  subst hc
  obtain ⟨f, fd, hm, hk, hb, F⟩ := G
  refine we (pe_call0 (dvs := []) F hr hg hm hk hb .nil pass0 hdb) ?_
  exact ⟨y, _, hρ.bh, by rw [ha]; exact .nil, hp, fun v B2 H2 g2 r2 => q _ _ _ g2 r2⟩
/-- what an object's datum says of its own names -/
inductive InsD (T : CA) : D → Addr → List Str → Prop
  | lab (ns r) : InsD T (.lab ns r) T.L ["own_names", "own_rest"]
  | stp (k w) : InsD T (.stp k w) T.S ["own_kind", "own_what"]
  | pip (f) : InsD T (.pip f) T.P ["own_steps", "own_form"]
  | btw (l h n) : InsD T (.btw l h n) T.B ["own_low", "own_high", "own_names"]
theorem look_none {m : Str} : ∀ {fs : List (Str × V)}, m ∉ fs.map (·.1) → fs.lookup m = none
  | [], _ => rfl
  | (f, v) :: fs, h => by
    have h1 : (m == f) = false := beq_eq_false_iff_ne.mpr fun z => h (by rw [z]; exact List.mem_cons_self)
    simp only [List.lookup, h1]
    exact look_none fun z => h (List.mem_cons_of_mem _ z)
theorem InsD.at_ {K : PySem.W.Frag} {B : Hp} {d : D} {C : Addr} {ns : List Str} {v : V} (i : InsD T d C ns) (r : Rep K T B d v) : ∃ a dx fs, v = .ref a ∧ B a = some (.ins C dx fs) ∧ fs.map (·.1) = ns := by
  cases i with
  | lab =>
    cases r with
    | lab h _ => exact ⟨_, _, _, rfl, h, rfl⟩
  | stp =>
    cases r with
    | stp _ h _ => exact ⟨_, _, _, rfl, h, rfl⟩
  | pip =>
    cases r with
    | pip h _ => exact ⟨_, _, _, rfl, h, rfl⟩
  | btw =>
    cases r with
    | btw h _ _ _ => exact ⟨_, _, _, rfl, h, rfl⟩
theorem ev_meth {c : Cn} {C : Addr} {ns : List Str} (G : GoodM c C m k ps (SpP c.K T args pre res)) (cl : Cls c.K C) (y : α) (hc : cnOf X = c) (hr : Room k X.A) (ho : EvE T X o ρ r) (hi : InsD T r C ns) (hn : m ∉ ns) (ha : EvA T X (e :: es) ρ ds) (hy : args y = r :: ds) (hp : pre y)
    (hpe : ∀ {f fd} (cl : Cls X.K C) (hm : Meth X.K C m f) (F : FnOk X.prog X.w X.K X.mg X.base CX0 k f fd ps (SpP X.K T args pre res)) (hb : Binds X.K fd ps []) (hr : Room k X.A), PE X (.Call (.Attribute o m apos) (e :: es) [] pos) (tMeth C m (SpP X.K T args pre res) [] E0 (WE X o) (WA X (e :: es))) := by exact fun cl hm F hb hr => pe_meth pe_we cl hm F hr hb .nil pass0 pa_wa) :
    EvE T X (.Call (.Attribute o m apos) (e :: es) [] pos) ρ (res y) := fun _ _ _ _ hρ Q q => by
  subst hc
  obtain ⟨f, fd, hm, hb, F⟩ := G
  refine we (hpe cl hm F hb hr) (ho _ _ _ _ hρ _ fun v B1 H1 g1 r1 => ?_)
  obtain ⟨a, dx, fs, rfl, h1, hf⟩ := hi.at_ r1
  refine ⟨a, dx, fs, rfl, g1.s _ _ h1, look_none (by rw [hf]; exact hn), ha _ _ _ _ (hρ.gr g1) _ fun vs B2 H2 g2 r2 => ?_⟩
  rw [List.append_nil]
  exact ⟨y, B2, g2.s, by rw [hy]; exact .cons (r1.mono g2.b) r2, hp, fun v B3 H3 g3 r3 => q _ _ _ ((g1.trans g2).trans g3) r3⟩
theorem ev_meth0 {c : Cn} {C : Addr} {ns : List Str} (G : GoodM c C m k ps (SpP c.K T args pre res)) (cl : Cls c.K C) (y : α) (hc : cnOf X = c) (hr : Room k X.A) (ho : EvE T X o ρ r) (hi : InsD T r C ns) (hn : m ∉ ns) (hy : args y = [r]) (hp : pre y)
    (hpe : ∀ {f fd} (cl : Cls X.K C) (hm : Meth X.K C m f) (F : FnOk X.prog X.w X.K X.mg X.base CX0 k f fd ps (SpP X.K T args pre res)) (hb : Binds X.K fd ps []) (hr : Room k X.A), PE X (.Call (.Attribute o m apos) [] [] pos) (tMeth C m (SpP X.K T args pre res) [] E0 (WE X o) tNil) := by exact fun cl hm F hb hr => pe_meth0 pe_we cl hm F hr hb .nil pass0) :
    EvE T X (.Call (.Attribute o m apos) [] [] pos) ρ (res y) := fun _ _ _ _ hρ Q q => by
  subst hc
  obtain ⟨f, fd, hm, hb, F⟩ := G
  refine we (hpe cl hm F hb hr) (ho _ _ _ _ hρ _ fun v B1 H1 g1 r1 => ?_)
  obtain ⟨a, dx, fs, rfl, h1, hf⟩ := hi.at_ r1
  refine ⟨a, dx, fs, rfl, g1.s _ _ h1, look_none (by rw [hf]; exact hn), ?_⟩
  exact ⟨y, B1, g1.s, by rw [hy]; exact .one r1, hp, fun v B3 H3 g3 r3 => q _ _ _ (g1.trans g3) r3⟩
theorem ev_prop {c : Cn} {C : Addr} {ns : List Str} (G : GoodP c C m k (SpP c.K T args pre res)) (cl : Cls c.K C) (y : α) (hc : cnOf X = c) (hr : Room (k + 1) X.A) (ho : EvE T X o ρ r) (hi : InsD T r C ns) (hy : args y = [r]) (hp : pre y)
    (hab : attributeBase o m X.env (eval o X.env) = eval o X.env := by rfl) : EvE T X (.Attribute o m pos) ρ (res y) := fun _ _ _ _ hρ Q q => by
  subst hc
  obtain ⟨p, f, fd, hm, hb, F⟩ := G
  refine we (pe_prop pe_we cl hm F hr hb .nil pass0 hab) (ho _ _ _ _ hρ _ fun v B1 H1 g1 r1 => ?_)
  obtain ⟨a, dx, fs, rfl, h1, hf⟩ := hi.at_ r1
  refine ⟨a, dx, fs, rfl, g1.s _ _ h1, ?_⟩
  exact ⟨y, B1, g1.s, by rw [hy]; exact .one r1, hp, fun v B3 H3 g3 r3 => q _ _ _ (g1.trans g3) r3⟩
/-- an object's own attribute -/
def D.fld (f : Str) : D → Option D
  | .lab ns r => if f = "own_names" then some (.tup (ns.map D.str)) else if f = "own_rest" then some (.bl r) else none
  | .stp k w => if f = "own_kind" then some (.str k) else if f = "own_what" then some w else none
  | .pip u => if f = "own_form" then some u else none
  | .btw l h ns => if f = "own_low" then some l else if f = "own_high" then some h else if f = "own_names" then some (.tup (ns.map D.str)) else none
  | _ => none
theorem lk1 {f g : Str} {v : V} {fs : List (Str × V)} (h : f = g) : ((g, v) :: fs).lookup f = some v := by
  have e : (f == g) = true := beq_iff_eq.mpr h
  simp only [List.lookup, e]
theorem lk2 {f g : Str} {v : V} {fs : List (Str × V)} (h : ¬ f = g) : ((g, v) :: fs).lookup f = fs.lookup f := by
  have e : (f == g) = false := beq_eq_false_iff_ne.mpr h
  simp only [List.lookup, e]
theorem fld_at {K : PySem.W.Frag} {B : Hp} {d d' : D} {C : Addr} {ns : List Str} {v : V} {f : Str} (i : InsD T d C ns) (r : Rep K T B d v) (h : d.fld f = some d') : ∃ a dx fs u, v = .ref a ∧ B a = some (.ins C dx fs) ∧ fs.lookup f = some u ∧ Rep K T B d' u := by
  cases i with
  | lab ns' r' =>
    cases r with
    | lab h1 h2 =>
      have h : (if f = "own_names" then some (D.tup (ns'.map D.str)) else if f = "own_rest" then some (.bl r') else none) = some d' := h
      by_cases e : f = "own_names"
      · rw [if_pos e] at h
        cases h
        exact ⟨_, _, _, _, rfl, h1, lk1 e, h2⟩
      · rw [if_neg e] at h
        by_cases e2 : f = "own_rest"
        · rw [if_pos e2] at h
          cases h
          exact ⟨_, _, _, _, rfl, h1, (lk2 e).trans (lk1 e2), .bl _⟩
        · rw [if_neg e2] at h
          cases h
  | stp k w =>
    cases r with
    | stp ok h1 h2 =>
      have h : (if f = "own_kind" then some (D.str k) else if f = "own_what" then some w else none) = some d' := h
      by_cases e : f = "own_kind"
      · rw [if_pos e] at h
        cases h
        exact ⟨_, _, _, _, rfl, h1, lk1 e, .str _ ok⟩
      · rw [if_neg e] at h
        by_cases e2 : f = "own_what"
        · rw [if_pos e2] at h
          cases h
          exact ⟨_, _, _, _, rfl, h1, (lk2 e).trans (lk1 e2), h2⟩
        · rw [if_neg e2] at h
          cases h
  | pip u =>
    cases r with
    | pip h1 h2 =>
      have h : (if f = "own_form" then some u else none) = some d' := h
      by_cases e : f = "own_form"
      · rw [if_pos e] at h
        cases h
        refine ⟨_, _, _, _, rfl, h1, (lk2 ?_).trans (lk1 e), h2⟩
        rw [e]
        decide +kernel
      · rw [if_neg e] at h
        cases h
  | btw l h' n =>
    cases r with
    | btw h1 h2 h3 h4 =>
      have h : (if f = "own_low" then some l else if f = "own_high" then some h' else if f = "own_names" then some (D.tup (n.map D.str)) else none) = some d' := h
      by_cases e : f = "own_low"
      · rw [if_pos e] at h
        cases h
        exact ⟨_, _, _, _, rfl, h1, lk1 e, h2⟩
      · rw [if_neg e] at h
        by_cases e2 : f = "own_high"
        · rw [if_pos e2] at h
          cases h
          exact ⟨_, _, _, _, rfl, h1, (lk2 e).trans (lk1 e2), h3⟩
        · rw [if_neg e2] at h
          by_cases e3 : f = "own_names"
          · rw [if_pos e3] at h
            cases h
            exact ⟨_, _, _, _, rfl, h1, (lk2 e).trans ((lk2 e2).trans (lk1 e3)), h4⟩
          · rw [if_neg e3] at h
            cases h
theorem ev_fld {C : Addr} {ns : List Str} (cl : Cls X.K C) (hno : NoAttr X.K C m) (ho : EvE T X o ρ r) (hi : InsD T r C ns) (hd : r.fld m = some d) (hab : attributeBase o m X.env (eval o X.env) = eval o X.env := by rfl) : EvE T X (.Attribute o m pos) ρ d := fun _ _ _ _ hρ Q q =>
  we (pe_fld pe_we hab) (ho _ _ _ _ hρ _ fun v B1 H1 g1 r1 => by
    obtain ⟨a, dx, fs, u, rfl, h1, h2, h3⟩ := fld_at hi r1 hd
    exact ⟨a, C, dx, fs, u, rfl, g1.s _ _ h1, cl, hno, h2, q _ _ _ g1 h3⟩)

/-! ### a def by its body -/
def rho0 (n : Nat) (ds : List D) : List Sl := ds.map Sl.va ++ List.replicate (n - ds.length) .un
theorem env_start {K : PySem.W.Frag} {B H : Hp} {N : List Str} {ds : List D} {vs : List V} (s : Ex B H) (r : Reps K T B ds vs) (hl : ds.length ≤ N.length) : EnvR K T ⟨fun _ => False, fun _ => True, B, H⟩ (L2.start N vs) B H (rho0 N.length ds) := by
  have e := r.length
  have no : ∀ (i : Nat) (es : List D), (rho0 N.length ds)[i]? = some (Sl.ow es) → False := fun i es h => by
    unfold rho0 at h
    rw [List.getElem?_append] at h
    split at h
    · rw [List.getElem?_map] at h
      cases q : ds[i]? with
      | none =>
        rw [q] at h
        cases h
      | some d =>
        rw [q] at h
        cases h
    · rw [List.getElem?_replicate] at h
      split at h <;> cases h
  refine ⟨⟨s, Ex.refl _, fun a o h _ => h, fun a o _ n => n⟩, fun a h => False.elim h, fun a h => False.elim h, ?_, fun i sl h => ?_, fun i j ds' es l _ h1 _ _ => (no i ds' h1).elim⟩
  · unfold L2.start rho0
    rw [List.length_append, List.length_append, List.length_map, List.length_map, List.length_replicate, List.length_replicate, e]
  · unfold rho0 at h
    rw [List.getElem?_append] at h
    split at h
    · rename_i hi
      rw [List.length_map] at hi
      rw [List.getElem?_map] at h
      cases q : ds[i]? with
      | none =>
        rw [q] at h
        cases h
      | some d =>
        rw [q] at h
        cases h
        obtain ⟨v, hv, rv⟩ := r.getD q
        refine ⟨v, ?_, rv⟩
        unfold L2.start
        rw [List.getElem?_append_left (by rw [List.length_map, ← e]; exact hi), List.getElem?_map, hv]
        rfl
    · rw [List.getElem?_replicate] at h
      split at h
      · cases h
        exact True.intro
      · cases h
end

section
variable {T : CA} {c : Cn} {x qual : Str} {params : Arguments} {body : List Stmt} {scope : Scope} {f : Addr} {fd : FuncData} {N ps : List Str} {k : Nat} {α : Type} {args : α → List D} {pre : α → Prop} {res : α → D}
abbrev bodyX (c : Cn) (N : List Str) (qual : Str) (scope : Scope) (f : Addr) (cdv : Value) (A : Around) (outer : List Env) (s : Shared) (H : Hp) (E : XK) : Cx := (cxOf CX0 c.P c.w c.K c.mg c.base N qual scope f cdv A outer s H E).nox
/-- the body, from the parameters' data, returns res -/
theorem fn_good (F : FunD c.K x qual params body scope [] [] f fd) (S : FnScope N ps scope) (hl : ∀ y, (args y).length = ps.length) (hps : ps.length ≤ N.length)
    (hb : ∀ (cdv : Value) (A : Around) (outer : List Env) (s : Shared) (H : Hp) (E : XK), Room k (bodyX c N qual scope f cdv A outer s H E).A → ∀ y, pre y →
      WB T (bodyX c N qual scope f cdv A outer s H E) body (rho0 N.length (args y)) { nx := fun _ => res y = .non, rt := fun d => d = res y }) :
    FnOk c.P c.w c.K c.mg c.base CX0 (k + 1) f fd ps (SpP c.K T args pre res) := by
  refine F.ok S (fun vs H Q E h => ?_) (fun cdv A outer s H vs Q E hr h => ?_)
  · obtain ⟨y, B, _, r, _⟩ := h
    rw [← r.length, hl]
  · obtain ⟨y, B, hs, r, hp, q⟩ := h
    refine ⟨WS (bodyX c N qual scope f cdv A outer s H E) body, PSs.nox pss_ws, ?_⟩
    have fr : ∀ {B' H' : Hp}, Frm ⟨fun _ => False, fun _ => True, B, H⟩ B' H' → Gr B H B' H' := fun {B' H'} fr => ⟨fr.b, fun a o h => fr.h a o h fun z => z, fr.s, fr.f⟩
    refine hb cdv A outer s H E hr y hp ⟨fun _ => False, fun _ => True, B, H⟩ _ _ _ _ (env_start hs r (by rw [hl]; exact hps)) ⟨fun σ B' H' ρ hρ e => q _ _ _ (fr hρ.fr) (by rw [e]; exact .non), fun v B' H' d hf _ r e => q _ _ _ (fr hf) (by rw [← e]; exact r), fun _ _ _ _ _ z => z.elim, fun _ _ _ _ _ z => z.elim⟩
theorem good_of (F : FunD c.K x qual params body scope [] [] f fd) (hm : c.mg x = some (.ref f)) (hb : Binds c.K fd ps []) {sp : Sp} (h : FnOk c.P c.w c.K c.mg c.base CX0 k f fd ps sp) : Good c x k ps sp := ⟨f, fd, hm, F.kp, hb, h⟩
end
end PL
/-! HD: the places of the text, what the head leaves -/
namespace PL
open PySem PySem.Spec PyProof.Rows L2
def top (i : Nat) : Stmt := PySem.Challenge.pw_deepcuts_k45_whole_great_rooms_between.main.body.getD i (.Pass ⟨0, 0, 0, 0⟩)
def ca (K : PySem.W.Frag) : CA := ⟨He.ga K "Labels", He.ga K "Step", He.ga K "Pipeline", He.ga K "Between"⟩
/-- a staticmethod of a class -/
structure SMet (K : PySem.W.Frag) (C : Addr) (m : Str) (p f : Addr) : Prop where
  rd : PySem.W.readsIn K C (.type "type") = true
  ga : PySem.W.specialIn K (.ref C) "__getattribute__" = some (some (.builtin "type.__getattribute__"))
  at_ : PySem.W.findCls K (.ref C) (.type "type") m = some (.get (.builtin "staticmethod.__get__") (.ref p) .none (.ref C))
  rc : ∃ rest, PySem.W.recIn K p "staticmethod" = some (.ref f :: rest)
def dNothing : D := .tup [.tup [], .tup [.bl false, .int 0]]
def dStart : D := .tup [.tup [], .tup [.bl true, .non]]
/-- what isinstance asks of an instance of Labels -/
structure LabOk (K : PySem.W.Frag) : Prop where
  ha : PySem.W.findIn K (.ref (He.ga K "Labels")) "__class__" = some (some (.builtin "object.__class__"))
  hn : PySem.W.specialIn K (.builtin "object.__class__") "__get__" = some (some (.builtin "getset_descriptor.__get__"))
  htk : PySem.W.takesIn K (.builtin "object.__class__") = some true
  hm : PySem.W.mroIn K (He.ga K "Labels") (.type "object") = some true
  no : PySem.W.kitAny K (.ref (He.ga K "Labels")) [.type "list", .type "tuple"] = some false
structure ConstOk (K : PySem.W.Frag) : Prop where
  start : ∀ T B, Rep K T B dStart (.ref (He.ga K "START"))
  nothing : ∀ T B, Rep K T B dNothing (.ref (He.ga K "NOTHING_rooms"))
  dL : ∀ T B, Rep K T B (.tup []) (.ref (He.dflAt ("Labels", some "__init__") 0 K))
  dP : ∀ T B, Rep K T B (.tup []) (.ref (He.dflAt ("Pipeline", some "__init__") 0 K))
/-- a def, a method, a property, a staticmethod of the text -/
def DefAt (c : Cn) (x : Str) (st : Stmt) : Prop := ∃ f fd, c.mg x = some (.ref f) ∧ FunD c.K x x (defArgs st) (defBody st) (defScope st) [] [] f fd
def MethAt (c : Cn) (C : Addr) (x q : Str) (st : Stmt) : Prop := ∃ f fd, Meth c.K C x f ∧ FunD c.K x q (defArgs st) (defBody st) (defScope st) [] [] f fd
def PropAt (c : Cn) (C : Addr) (x q : Str) (st : Stmt) : Prop := ∃ p f fd, PropOf c.K C x p f ∧ FunD c.K x q (defArgs st) (defBody st) (defScope st) [] [] f fd
def StatAt (c : Cn) (C : Addr) (x q : Str) (st : Stmt) : Prop := ∃ p f fd, SMet c.K C x p f ∧ FunD c.K x q (defArgs st) (defBody st) (defScope st) [] [] f fd
def InitAt (c : Cn) (C : Addr) (q : Str) (st : Stmt) (dvs : List V) : Prop := ∃ f fd, Mk c.K C f ∧ FunD c.K "__init__" q (defArgs st) (defBody st) (defScope st) dvs [] f fd
/-- all that the head leaves: the defs, the classes, the names -/
structure Hd (c : Cn) : Prop where
  d_tupled : DefAt c "tupled" (top 2)
  d_set_of : DefAt c "set_of" (top 3)
  d_number_in : DefAt c "number_in" (top 4)
  d_is_name : DefAt c "is_name" (top 17)
  d_names_in : DefAt c "names_in" (top 18)
  d_is_step : DefAt c "is_step" (top 33)
  d_what_in : DefAt c "what_in" (top 35)
  d_lesser : DefAt c "lesser" (top 40)
  d_is_most : DefAt c "is_most" (top 41)
  d_entry_in : DefAt c "entry_in" (top 42)
  d_final_in : DefAt c "final_in" (top 43)
  d_room_in : DefAt c "room_in" (top 44)
  d_form_with : DefAt c "form_with" (top 45)
  d_names_told : DefAt c "names_told" (top 46)
  d_height_in : DefAt c "height_in" (top 47)
  d_form_of_step : DefAt c "form_of_step" (top 50)
  d_entry_behind : DefAt c "entry_behind" (top 51)
  d_form_behind : DefAt c "form_behind" (top 52)
  d_rooms_gone : DefAt c "rooms_gone" (top 54)
  d_labels_gone : DefAt c "labels_gone" (top 55)
  d_plain_steps : DefAt c "plain_steps" (top 56)
  d_greater : DefAt c "greater" (top 58)
  d_side : DefAt c "side" (top 59)
  d_told_in : DefAt c "told_in" (top 60)
  d_form_of : DefAt c "form_of" (top 61)
  d_pairs_of : DefAt c "pairs_of" (top 62)
  d_is_within : DefAt c "is_within" (top 64)
  d_over_names : DefAt c "over_names" (top 67)
  d_choose : DefAt c "choose" (top 69)
  d_ways_of : DefAt c "ways_of" (top 70)
  d_ways_at : DefAt c "ways_at" (top 71)
  d_sum_of : DefAt c "sum_of" (top 72)
  d_sum_to : DefAt c "sum_to" (top 73)
  d_form_of_steps : DefAt c "form_of_steps" (top 77)
  d_pipeline_of : DefAt c "pipeline_of" (top 80)
  d_table_for : DefAt c "table_for" (top 82)
  d_many_between : DefAt c "many_between" (top 83)
  d_nth_between : DefAt c "nth_between" (top 84)
  d_rank_between : DefAt c "rank_between" (top 85)
  d__law_box : DefAt c "_law_box" (top 87)
  d__law_cells : DefAt c "_law_cells" (top 88)
  d__law_of : DefAt c "_law_of" (top 89)
  d__law_take : DefAt c "_law_take" (top 90)
  d__law_same : DefAt c "_law_same" (top 91)
  d__law_tags : DefAt c "_law_tags" (top 92)
  d__law_lot : DefAt c "_law_lot" (top 93)
  d__law_host : DefAt c "_law_host" (top 94)
  d__law_has : DefAt c "_law_has" (top 95)
  d__law_called : DefAt c "_law_called" (top 96)
  d__law_fate : DefAt c "_law_fate" (top 97)
  d__law_at_most : DefAt c "_law_at_most" (top 98)
  d__law_row : DefAt c "_law_row" (top 99)
  d__law_host_row : DefAt c "_law_host_row" (top 100)
  d__law_lies_in : DefAt c "_law_lies_in" (top 101)
  d__law_key : DefAt c "_law_key" (top 102)
  d__law_limit : DefAt c "_law_limit" (top 103)
  d__law_wide : DefAt c "_law_wide" (top 104)
  d__law_pair_right : DefAt c "_law_pair_right" (top 105)
  d__law_by_hand_right : DefAt c "_law_by_hand_right" (top 106)
  d__law_right : DefAt c "_law_right" (top 107)
  d_law : DefAt c "law" (top 108)
  g_Labels : c.mg "Labels" = some (.ref (He.ga c.K "Labels"))
  c_Labels : Cls c.K (He.ga c.K "Labels")
  n_Labels_own_names : NoAttr c.K (He.ga c.K "Labels") "own_names"
  n_Labels_own_rest : NoAttr c.K (He.ga c.K "Labels") "own_rest"
  i_Labels : InitAt c (He.ga c.K "Labels") "Labels.__init__" (inClass (top 19) 0) [.ref (He.dflAt ("Labels", some "__init__") 0 c.K), .bl false]
  p_Labels_names : PropAt c (He.ga c.K "Labels") "names" "Labels.names" (inClass (top 19) 2)
  p_Labels_rest : PropAt c (He.ga c.K "Labels") "rest" "Labels.rest" (inClass (top 19) 3)
  s_Labels_of : StatAt c (He.ga c.K "Labels") "of" "Labels.of" (inClass (top 19) 1)
  g_Step : c.mg "Step" = some (.ref (He.ga c.K "Step"))
  c_Step : Cls c.K (He.ga c.K "Step")
  n_Step_own_kind : NoAttr c.K (He.ga c.K "Step") "own_kind"
  n_Step_own_what : NoAttr c.K (He.ga c.K "Step") "own_what"
  i_Step : InitAt c (He.ga c.K "Step") "Step.__init__" (inClass (top 36) 0) []
  p_Step_kind : PropAt c (He.ga c.K "Step") "kind" "Step.kind" (inClass (top 36) 2)
  p_Step_what : PropAt c (He.ga c.K "Step") "what" "Step.what" (inClass (top 36) 3)
  s_Step_of : StatAt c (He.ga c.K "Step") "of" "Step.of" (inClass (top 36) 1)
  g_Pipeline : c.mg "Pipeline" = some (.ref (He.ga c.K "Pipeline"))
  c_Pipeline : Cls c.K (He.ga c.K "Pipeline")
  n_Pipeline_own_steps : NoAttr c.K (He.ga c.K "Pipeline") "own_steps"
  n_Pipeline_own_form : NoAttr c.K (He.ga c.K "Pipeline") "own_form"
  i_Pipeline : InitAt c (He.ga c.K "Pipeline") "Pipeline.__init__" (inClass (top 78) 0) [.ref (He.dflAt ("Pipeline", some "__init__") 0 c.K)]
  m_Pipeline_room : MethAt c (He.ga c.K "Pipeline") "room" "Pipeline.room" (inClass (top 78) 9)
  m_Pipeline_final : MethAt c (He.ga c.K "Pipeline") "final" "Pipeline.final" (inClass (top 78) 10)
  p_Pipeline_form : PropAt c (He.ga c.K "Pipeline") "form" "Pipeline.form" (inClass (top 78) 4)
  s_Pipeline_of : StatAt c (He.ga c.K "Pipeline") "of" "Pipeline.of" (inClass (top 78) 1)
  g_Between : c.mg "Between" = some (.ref (He.ga c.K "Between"))
  c_Between : Cls c.K (He.ga c.K "Between")
  n_Between_own_low : NoAttr c.K (He.ga c.K "Between") "own_low"
  n_Between_own_high : NoAttr c.K (He.ga c.K "Between") "own_high"
  n_Between_own_names : NoAttr c.K (He.ga c.K "Between") "own_names"
  i_Between : InitAt c (He.ga c.K "Between") "Between.__init__" (inClass (top 74) 0) []
  m_Between_lots : MethAt c (He.ga c.K "Between") "lots" "Between.lots" (inClass (top 74) 1)
  m_Between_rows_for : MethAt c (He.ga c.K "Between") "rows_for" "Between.rows_for" (inClass (top 74) 2)
  m_Between_first_for : MethAt c (He.ga c.K "Between") "first_for" "Between.first_for" (inClass (top 74) 3)
  m_Between_last_for : MethAt c (He.ga c.K "Between") "last_for" "Between.last_for" (inClass (top 74) 4)
  m_Between_is_endless : MethAt c (He.ga c.K "Between") "is_endless" "Between.is_endless" (inClass (top 74) 5)
  m_Between_many_for : MethAt c (He.ga c.K "Between") "many_for" "Between.many_for" (inClass (top 74) 6)
  m_Between_in_all : MethAt c (He.ga c.K "Between") "in_all" "Between.in_all" (inClass (top 74) 7)
  m_Between_room_for : MethAt c (He.ga c.K "Between") "room_for" "Between.room_for" (inClass (top 74) 8)
  m_Between_many_ahead : MethAt c (He.ga c.K "Between") "many_ahead" "Between.many_ahead" (inClass (top 74) 9)
  m_Between_made : MethAt c (He.ga c.K "Between") "made" "Between.made" (inClass (top 74) 10)
  m_Between_at : MethAt c (He.ga c.K "Between") "at" "Between.at" (inClass (top 74) 11)
  m_Between_rank_of : MethAt c (He.ga c.K "Between") "rank_of" "Between.rank_of" (inClass (top 74) 12)
  m_Between_has : MethAt c (He.ga c.K "Between") "has" "Between.has" (inClass (top 74) 13)
  f_len : c.mg "len" = none
  f_int : c.mg "int" = none
  f_abs : c.mg "abs" = none
  f_max : c.mg "max" = none
  f_min : c.mg "min" = none
  f_sum : c.mg "sum" = none
  f_all : c.mg "all" = none
  f_any : c.mg "any" = none
  f_tuple : c.mg "tuple" = none
  f_list : c.mg "list" = none
  f_sorted : c.mg "sorted" = none
  f_set : c.mg "set" = none
  f_range : c.mg "range" = none
  f_enumerate : c.mg "enumerate" = none
  f_zip : c.mg "zip" = none
  f_isinstance : c.mg "isinstance" = none
  f_bool : c.mg "bool" = none
  f_str : c.mg "str" = none
  k_LONGEST : ∃ t, c.mg "LONGEST" = some (.int 8 t)
  k_LETTERS : ∃ t, c.mg "LETTERS" = some (.str "abcdefghijklmnopqrstuvwxyz" t)
  k_NOTHING_labels : ∃ t, c.mg "NOTHING_labels" = some (.str "-" t)
  k_ALL : ∃ t, c.mg "ALL" = some (.str "*" t)
  k_BUT : ∃ t, c.mg "BUT" = some (.str "* - " t)
  k_DROP : ∃ t, c.mg "DROP" = some (.str "drop" t)
  k_UNWRAP : ∃ t, c.mg "UNWRAP" = some (.str "unwrap" t)
  k_CUT : ∃ t, c.mg "CUT" = some (.str "cut" t)
  k_RENAME : ∃ t, c.mg "RENAME" = some (.str "rename" t)
  k_BETWEEN : ∃ t, c.mg "BETWEEN" = some (.str "; " t)
  g_START : c.mg "START" = some (.ref (He.ga c.K "START"))
  g_NOTHING_rooms : c.mg "NOTHING_rooms" = some (.ref (He.ga c.K "NOTHING_rooms"))
  lab : LabOk c.K
  kst : ConstOk c.K
end PL
namespace H1
open PySem PySem.W PySem.Calls PyProof.Rows
abbrev R : OpenRow := OpenLaw.row PySem.Challenge.rw_deepcuts_k45_whole_great_rooms_between
abbrev qv : Program := view R.prog [108]
def nm0 : List PySem.Str := ["_wall", "__name__", "tupled", "set_of", "number_in", "NoPlace", "BadText", "BadStep", "NoNumber", "NotBetween", "LETTERS", "LONGEST", "NOTHING_labels", "ALL", "BUT", "is_name"]
def nm1 : List PySem.Str := ["names_in", "Labels", "nodes_of", "trees_of", "text_of", "rows_in", "Forest", "with_names", "DROP", "UNWRAP", "CUT", "RENAME", "PAIR", "is_step", "pairs_in", "what_in"]
def nm2 : List PySem.Str := ["Step", "START", "NOTHING_rooms", "lesser", "is_most", "entry_in", "final_in", "room_in", "form_with", "names_told", "height_in", "depth_in", "left_in", "form_of_step", "entry_behind", "form_behind"]
def nm3 : List PySem.Str := ["power_of", "rooms_gone", "labels_gone", "plain_steps", "greater", "side", "told_in", "form_of", "pairs_of", "made_of", "is_within", "greatest_within", "least_around", "over_names", "choose", "ways_of"]
def nm4 : List PySem.Str := ["ways_at", "sum_of", "sum_to", "Between", "BETWEEN", "form_of_steps", "Pipeline", "pipeline_of", "table_for", "many_between", "nth_between", "rank_between", "_law_box", "_law_cells", "_law_of", "_law_take"]
def nm5 : List PySem.Str := ["_law_same", "_law_tags", "_law_lot", "_law_host", "_law_has", "_law_called", "_law_fate", "_law_at_most", "_law_row", "_law_host_row", "_law_lies_in", "_law_key", "_law_limit", "_law_wide", "_law_pair_right", "_law_by_hand_right"]
def nm6 : List PySem.Str := ["_law_right"]
def names : List PySem.Str := nm0 ++ (nm1 ++ (nm2 ++ (nm3 ++ (nm4 ++ (nm5 ++ (nm6))))))
-- run moved
end H1
/-! H2: the defs' places, the head's facts -/
namespace PL
open PySem PySem.Spec PyProof.Rows L2

/-- a property's getter, a record's first -/
def rf (K : PySem.W.Frag) (p : Addr) (T : String) : Addr := match PySem.W.recIn K p T with
  | some (.ref f :: _) => f
  | _ => 0
def propB (K : PySem.W.Frag) (C : Addr) (m : Str) : Bool := He.eqO (PySem.W.findIn K (.ref C) m) (some (some (.ref (He.ma K C m)))) && (He.eqO (PySem.W.specialIn K (.ref (He.ma K C m)) "__get__") (some (some (.builtin "property.__get__"))) &&
  (decide (PySem.W.takesIn K (.ref (He.ma K C m)) = some true) && (match PySem.W.recIn K (He.ma K C m) "property" with
    | some (.ref _ :: _) => true
    | _ => false)))
theorem propB_ok {K : PySem.W.Frag} {C : Addr} {m : Str} (h : propB K C m = true) : PropOf K C m (He.ma K C m) (rf K (He.ma K C m) "property") := by
  obtain ⟨h1, h⟩ := He.ba h
  obtain ⟨h2, h⟩ := He.ba h
  obtain ⟨h3, h4⟩ := He.ba h
  refine ⟨He.eqO_ok h1, He.eqO_ok h2, of_decide_eq_true h3, ?_⟩
  unfold rf
  split at h4
  · rename_i f r e
    exact ⟨r, by rw [e]⟩
  · cases h4
def statB (K : PySem.W.Frag) (C : Addr) (m : Str) : Bool := PySem.W.readsIn K C (.type "type") && (He.eqO (PySem.W.specialIn K (.ref C) "__getattribute__") (some (some (.builtin "type.__getattribute__"))) && He5.wrapB K C "staticmethod" "staticmethod.__get__" m)
theorem statB_ok {K : PySem.W.Frag} {C : Addr} {m : Str} (h : statB K C m = true) : SMet K C m (He.ma K C m) (He5.wf K C "staticmethod" m) := by
  obtain ⟨h1, h⟩ := He.ba h
  obtain ⟨h2, h⟩ := He.ba h
  obtain ⟨h3, h4⟩ := He5.wrapB_ok h
  exact ⟨h1, He.eqO_ok h2, h3, h4⟩
/-- a tuple that stands in K, of flat values and tuples -/
def tupKB (K : PySem.W.Frag) (a : Addr) (vs : List He.Dv) : Bool := match K.lookup a with
  | some ⟨.type c, _, .seq its _, _⟩ => decide (c = "tuple") && (decide (its.size ≤ sizeLine) && He.relAll (vs.map (He.Dv.v K)) its.toList)
  | _ => false
theorem tupKB_ok {K : PySem.W.Frag} {a : Addr} {vs : List He.Dv} (h : tupKB K a vs = true) (H : Hp) : SqT K H a (vs.map (He.Dv.v K)) := by
  unfold tupKB at h
  cases q : K.lookup a with
  | none =>
    rw [q] at h
    cases h
  | some o =>
    obtain ⟨oc, od, dt, osl⟩ := o
    rw [q] at h
    cases oc with
    | type c =>
      cases dt with
      | seq its n =>
        obtain ⟨h1, h2⟩ := He.ba (show (decide (c = "tuple") && (decide (its.size ≤ sizeLine) && He.relAll (vs.map (He.Dv.v K)) its.toList)) = true from h)
        obtain ⟨h3, h4⟩ := He.ba h2
        exact .inr ⟨_, its, n, q, congrArg Value.type (of_decide_eq_true h1), rfl, of_decide_eq_true h3, He.relAll_ok h4⟩
      | _ => cases h
    | _ => cases dt <;> cases h
/-- the i-th item of the tuple at a, if it is an object -/
def itAt (i : Nat) (a : Addr) (K : PySem.W.Frag) : Addr := match K.lookup a with
  | some ⟨_, _, .seq its _, _⟩ => (match its.toList[i]? with
    | some (.ref b) => b
    | _ => 0)
  | _ => 0

/-- START and NOTHING of the rooms, the defaults' empty tuples -/
def constB (K : PySem.W.Frag) : Bool := tupKB K (He.ga K "START") [.adr (fun K => itAt 0 (He.ga K "START") K), .adr (fun K => itAt 1 (He.ga K "START") K)] && (tupKB K (itAt 0 (He.ga K "START") K) [] && (tupKB K (itAt 1 (He.ga K "START") K) [.bl true, .non] &&
  (tupKB K (He.ga K "NOTHING_rooms") [.adr (fun K => itAt 0 (He.ga K "NOTHING_rooms") K), .adr (fun K => itAt 1 (He.ga K "NOTHING_rooms") K)] && (tupKB K (itAt 0 (He.ga K "NOTHING_rooms") K) [] && (tupKB K (itAt 1 (He.ga K "NOTHING_rooms") K) [.bl false, .int 0] &&
  (tupKB K (He.dflAt ("Labels", some "__init__") 0 K) [] && tupKB K (He.dflAt ("Pipeline", some "__init__") 0 K) []))))))
def labB (K : PySem.W.Frag) : Bool := He.eqO (PySem.W.findIn K (.ref (He.ga K "Labels")) "__class__") (some (some (.builtin "object.__class__"))) && (He.eqO (PySem.W.specialIn K (.builtin "object.__class__") "__get__") (some (some (.builtin "getset_descriptor.__get__"))) &&
  (decide (PySem.W.takesIn K (.builtin "object.__class__") = some true) && (decide (PySem.W.mroIn K (He.ga K "Labels") (.type "object") = some true) && decide (PySem.W.kitAny K (.ref (He.ga K "Labels")) [.type "list", .type "tuple"] = some false))))
theorem labB_ok {K : PySem.W.Frag} (h : labB K = true) : LabOk K := by
  obtain ⟨h1, h⟩ := He.ba h
  obtain ⟨h2, h⟩ := He.ba h
  obtain ⟨h3, h⟩ := He.ba h
  obtain ⟨h4, h5⟩ := He.ba h
  exact ⟨He.eqO_ok h1, He.eqO_ok h2, of_decide_eq_true h3, of_decide_eq_true h4, of_decide_eq_true h5⟩
theorem constB_ok {K : PySem.W.Frag} (h : constB K = true) : ConstOk K := by
  obtain ⟨h1, h⟩ := He.ba h
  obtain ⟨h2, h⟩ := He.ba h
  obtain ⟨h3, h⟩ := He.ba h
  obtain ⟨h4, h⟩ := He.ba h
  obtain ⟨h5, h⟩ := He.ba h
  obtain ⟨h6, h⟩ := He.ba h
  obtain ⟨h7, h8⟩ := He.ba h
  exact ⟨fun T B => .tup (tupKB_ok h1 B) (.cons (.tup (tupKB_ok h2 B) .nil) (.one (.tup (tupKB_ok h3 B) (.cons (.bl true) (.one .non))))),
    fun T B => .tup (tupKB_ok h4 B) (.cons (.tup (tupKB_ok h5 B) .nil) (.one (.tup (tupKB_ok h6 B) (.cons (.bl false) (.one (.int 0)))))),
    fun T B => .tup (tupKB_ok h7 B) .nil, fun T B => .tup (tupKB_ok h8 B) .nil⟩

def fa0 : List He.Fa := [.glo "tupled", .glo "set_of", .glo "number_in", .glo "is_name", .glo "names_in", .glo "is_step", .glo "what_in", .glo "lesser", .glo "is_most", .glo "entry_in", .glo "final_in", .glo "room_in"]
def fa1 : List He.Fa := [.glo "form_with", .glo "names_told", .glo "height_in", .glo "form_of_step", .glo "entry_behind", .glo "form_behind", .glo "rooms_gone", .glo "labels_gone", .glo "plain_steps", .glo "greater", .glo "side", .glo "told_in"]
def fa2 : List He.Fa := [.glo "form_of", .glo "pairs_of", .glo "is_within", .glo "over_names", .glo "choose", .glo "ways_of", .glo "ways_at", .glo "sum_of", .glo "sum_to", .glo "form_of_steps", .glo "pipeline_of", .glo "table_for"]
def fa3 : List He.Fa := [.glo "many_between", .glo "nth_between", .glo "rank_between", .glo "_law_box", .glo "_law_cells", .glo "_law_of", .glo "_law_take", .glo "_law_same", .glo "_law_tags", .glo "_law_lot", .glo "_law_host", .glo "_law_has"]
def fa4 : List He.Fa := [.glo "_law_called", .glo "_law_fate", .glo "_law_at_most", .glo "_law_row", .glo "_law_host_row", .glo "_law_lies_in", .glo "_law_key", .glo "_law_limit", .glo "_law_wide", .glo "_law_pair_right", .glo "_law_by_hand_right", .glo "_law_right"]
def fa5 : List He.Fa := [.glo "law", .glo "Labels", .glo "Step", .glo "Pipeline", .glo "Between", .glo "START", .glo "NOTHING_rooms", .free "len", .free "int", .free "abs", .free "max", .free "min"]
def fa6 : List He.Fa := [.free "sum", .free "all", .free "any", .free "tuple", .free "list", .free "sorted", .free "set", .free "range", .free "enumerate", .free "zip", .free "isinstance", .free "bool"]
def fa7 : List He.Fa := [.free "str", .int "LONGEST" 8, .str "LETTERS" "abcdefghijklmnopqrstuvwxyz", .str "NOTHING_labels" "-", .str "ALL" "*", .str "BUT" "* - ", .str "DROP" "drop", .str "UNWRAP" "unwrap", .str "CUT" "cut", .str "RENAME" "rename", .str "BETWEEN" "; ", .cls "Labels"]
def fa8 : List He.Fa := [.mkr "Labels", .noat "Labels" "own_names", .noat "Labels" "own_rest", .cls "Step", .mkr "Step", .noat "Step" "own_kind", .noat "Step" "own_what", .cls "Pipeline", .mkr "Pipeline", .noat "Pipeline" "own_steps", .noat "Pipeline" "own_form", .meth "Pipeline" "room"]
def fa9 : List He.Fa := [.meth "Pipeline" "final", .cls "Between", .mkr "Between", .noat "Between" "own_low", .noat "Between" "own_high", .noat "Between" "own_names", .meth "Between" "lots", .meth "Between" "rows_for", .meth "Between" "first_for", .meth "Between" "last_for", .meth "Between" "is_endless", .meth "Between" "many_for"]
def fa10 : List He.Fa := [.meth "Between" "in_all", .meth "Between" "room_for", .meth "Between" "many_ahead", .meth "Between" "made", .meth "Between" "at", .meth "Between" "rank_of", .meth "Between" "has"]
def fa : List He.Fa := fa0 ++ (fa1 ++ (fa2 ++ (fa3 ++ (fa4 ++ (fa5 ++ (fa6 ++ (fa7 ++ (fa8 ++ (fa9 ++ (fa10))))))))))
def fn0 : List He5.DefA := [⟨fun K => He.ga K "tupled", "tupled", "tupled", defArgs (top 2), defBody (top 2), defScope (top 2), [], []⟩, ⟨fun K => He.ga K "set_of", "set_of", "set_of", defArgs (top 3), defBody (top 3), defScope (top 3), [], []⟩, ⟨fun K => He.ga K "number_in", "number_in", "number_in", defArgs (top 4), defBody (top 4), defScope (top 4), [], []⟩, ⟨fun K => He.ga K "is_name", "is_name", "is_name", defArgs (top 17), defBody (top 17), defScope (top 17), [], []⟩, ⟨fun K => He.ga K "names_in", "names_in", "names_in", defArgs (top 18), defBody (top 18), defScope (top 18), [], []⟩, ⟨fun K => He.ga K "is_step", "is_step", "is_step", defArgs (top 33), defBody (top 33), defScope (top 33), [], []⟩, ⟨fun K => He.ga K "what_in", "what_in", "what_in", defArgs (top 35), defBody (top 35), defScope (top 35), [], []⟩, ⟨fun K => He.ga K "lesser", "lesser", "lesser", defArgs (top 40), defBody (top 40), defScope (top 40), [], []⟩, ⟨fun K => He.ga K "is_most", "is_most", "is_most", defArgs (top 41), defBody (top 41), defScope (top 41), [], []⟩, ⟨fun K => He.ga K "entry_in", "entry_in", "entry_in", defArgs (top 42), defBody (top 42), defScope (top 42), [], []⟩, ⟨fun K => He.ga K "final_in", "final_in", "final_in", defArgs (top 43), defBody (top 43), defScope (top 43), [], []⟩, ⟨fun K => He.ga K "room_in", "room_in", "room_in", defArgs (top 44), defBody (top 44), defScope (top 44), [], []⟩]
def fn1 : List He5.DefA := [⟨fun K => He.ga K "form_with", "form_with", "form_with", defArgs (top 45), defBody (top 45), defScope (top 45), [], []⟩, ⟨fun K => He.ga K "names_told", "names_told", "names_told", defArgs (top 46), defBody (top 46), defScope (top 46), [], []⟩, ⟨fun K => He.ga K "height_in", "height_in", "height_in", defArgs (top 47), defBody (top 47), defScope (top 47), [], []⟩, ⟨fun K => He.ga K "form_of_step", "form_of_step", "form_of_step", defArgs (top 50), defBody (top 50), defScope (top 50), [], []⟩, ⟨fun K => He.ga K "entry_behind", "entry_behind", "entry_behind", defArgs (top 51), defBody (top 51), defScope (top 51), [], []⟩, ⟨fun K => He.ga K "form_behind", "form_behind", "form_behind", defArgs (top 52), defBody (top 52), defScope (top 52), [], []⟩, ⟨fun K => He.ga K "rooms_gone", "rooms_gone", "rooms_gone", defArgs (top 54), defBody (top 54), defScope (top 54), [], []⟩, ⟨fun K => He.ga K "labels_gone", "labels_gone", "labels_gone", defArgs (top 55), defBody (top 55), defScope (top 55), [], []⟩, ⟨fun K => He.ga K "plain_steps", "plain_steps", "plain_steps", defArgs (top 56), defBody (top 56), defScope (top 56), [], []⟩, ⟨fun K => He.ga K "greater", "greater", "greater", defArgs (top 58), defBody (top 58), defScope (top 58), [], []⟩, ⟨fun K => He.ga K "side", "side", "side", defArgs (top 59), defBody (top 59), defScope (top 59), [], []⟩, ⟨fun K => He.ga K "told_in", "told_in", "told_in", defArgs (top 60), defBody (top 60), defScope (top 60), [], []⟩]
def fn2 : List He5.DefA := [⟨fun K => He.ga K "form_of", "form_of", "form_of", defArgs (top 61), defBody (top 61), defScope (top 61), [], []⟩, ⟨fun K => He.ga K "pairs_of", "pairs_of", "pairs_of", defArgs (top 62), defBody (top 62), defScope (top 62), [], []⟩, ⟨fun K => He.ga K "is_within", "is_within", "is_within", defArgs (top 64), defBody (top 64), defScope (top 64), [], []⟩, ⟨fun K => He.ga K "over_names", "over_names", "over_names", defArgs (top 67), defBody (top 67), defScope (top 67), [], []⟩, ⟨fun K => He.ga K "choose", "choose", "choose", defArgs (top 69), defBody (top 69), defScope (top 69), [], []⟩, ⟨fun K => He.ga K "ways_of", "ways_of", "ways_of", defArgs (top 70), defBody (top 70), defScope (top 70), [], []⟩, ⟨fun K => He.ga K "ways_at", "ways_at", "ways_at", defArgs (top 71), defBody (top 71), defScope (top 71), [], []⟩, ⟨fun K => He.ga K "sum_of", "sum_of", "sum_of", defArgs (top 72), defBody (top 72), defScope (top 72), [], []⟩, ⟨fun K => He.ga K "sum_to", "sum_to", "sum_to", defArgs (top 73), defBody (top 73), defScope (top 73), [], []⟩, ⟨fun K => He.ga K "form_of_steps", "form_of_steps", "form_of_steps", defArgs (top 77), defBody (top 77), defScope (top 77), [], []⟩, ⟨fun K => He.ga K "pipeline_of", "pipeline_of", "pipeline_of", defArgs (top 80), defBody (top 80), defScope (top 80), [], []⟩, ⟨fun K => He.ga K "table_for", "table_for", "table_for", defArgs (top 82), defBody (top 82), defScope (top 82), [], []⟩]
def fn3 : List He5.DefA := [⟨fun K => He.ga K "many_between", "many_between", "many_between", defArgs (top 83), defBody (top 83), defScope (top 83), [], []⟩, ⟨fun K => He.ga K "nth_between", "nth_between", "nth_between", defArgs (top 84), defBody (top 84), defScope (top 84), [], []⟩, ⟨fun K => He.ga K "rank_between", "rank_between", "rank_between", defArgs (top 85), defBody (top 85), defScope (top 85), [], []⟩, ⟨fun K => He.ga K "_law_box", "_law_box", "_law_box", defArgs (top 87), defBody (top 87), defScope (top 87), [], []⟩, ⟨fun K => He.ga K "_law_cells", "_law_cells", "_law_cells", defArgs (top 88), defBody (top 88), defScope (top 88), [], []⟩, ⟨fun K => He.ga K "_law_of", "_law_of", "_law_of", defArgs (top 89), defBody (top 89), defScope (top 89), [], []⟩, ⟨fun K => He.ga K "_law_take", "_law_take", "_law_take", defArgs (top 90), defBody (top 90), defScope (top 90), [], []⟩, ⟨fun K => He.ga K "_law_same", "_law_same", "_law_same", defArgs (top 91), defBody (top 91), defScope (top 91), [], []⟩, ⟨fun K => He.ga K "_law_tags", "_law_tags", "_law_tags", defArgs (top 92), defBody (top 92), defScope (top 92), [], []⟩, ⟨fun K => He.ga K "_law_lot", "_law_lot", "_law_lot", defArgs (top 93), defBody (top 93), defScope (top 93), [], []⟩, ⟨fun K => He.ga K "_law_host", "_law_host", "_law_host", defArgs (top 94), defBody (top 94), defScope (top 94), [], []⟩, ⟨fun K => He.ga K "_law_has", "_law_has", "_law_has", defArgs (top 95), defBody (top 95), defScope (top 95), [], []⟩]
def fn4 : List He5.DefA := [⟨fun K => He.ga K "_law_called", "_law_called", "_law_called", defArgs (top 96), defBody (top 96), defScope (top 96), [], []⟩, ⟨fun K => He.ga K "_law_fate", "_law_fate", "_law_fate", defArgs (top 97), defBody (top 97), defScope (top 97), [], []⟩, ⟨fun K => He.ga K "_law_at_most", "_law_at_most", "_law_at_most", defArgs (top 98), defBody (top 98), defScope (top 98), [], []⟩, ⟨fun K => He.ga K "_law_row", "_law_row", "_law_row", defArgs (top 99), defBody (top 99), defScope (top 99), [], []⟩, ⟨fun K => He.ga K "_law_host_row", "_law_host_row", "_law_host_row", defArgs (top 100), defBody (top 100), defScope (top 100), [], []⟩, ⟨fun K => He.ga K "_law_lies_in", "_law_lies_in", "_law_lies_in", defArgs (top 101), defBody (top 101), defScope (top 101), [], []⟩, ⟨fun K => He.ga K "_law_key", "_law_key", "_law_key", defArgs (top 102), defBody (top 102), defScope (top 102), [], []⟩, ⟨fun K => He.ga K "_law_limit", "_law_limit", "_law_limit", defArgs (top 103), defBody (top 103), defScope (top 103), [], []⟩, ⟨fun K => He.ga K "_law_wide", "_law_wide", "_law_wide", defArgs (top 104), defBody (top 104), defScope (top 104), [], []⟩, ⟨fun K => He.ga K "_law_pair_right", "_law_pair_right", "_law_pair_right", defArgs (top 105), defBody (top 105), defScope (top 105), [], []⟩, ⟨fun K => He.ga K "_law_by_hand_right", "_law_by_hand_right", "_law_by_hand_right", defArgs (top 106), defBody (top 106), defScope (top 106), [], []⟩, ⟨fun K => He.ga K "_law_right", "_law_right", "_law_right", defArgs (top 107), defBody (top 107), defScope (top 107), [], []⟩]
def fn5 : List He5.DefA := [⟨fun K => He.ga K "law", "law", "law", defArgs (top 108), defBody (top 108), defScope (top 108), [], []⟩, ⟨fun K => He.ma K (He.ga K "Labels") "__init__", "__init__", "Labels.__init__", defArgs (inClass (top 19) 0), defBody (inClass (top 19) 0), defScope (inClass (top 19) 0), [.adr (He.dflAt ("Labels", some "__init__") 0), .bl false], []⟩, ⟨fun K => rf K (He.ma K (He.ga K "Labels") "names") "property", "names", "Labels.names", defArgs (inClass (top 19) 2), defBody (inClass (top 19) 2), defScope (inClass (top 19) 2), [], []⟩, ⟨fun K => rf K (He.ma K (He.ga K "Labels") "rest") "property", "rest", "Labels.rest", defArgs (inClass (top 19) 3), defBody (inClass (top 19) 3), defScope (inClass (top 19) 3), [], []⟩, ⟨fun K => He5.wf K (He.ga K "Labels") "staticmethod" "of", "of", "Labels.of", defArgs (inClass (top 19) 1), defBody (inClass (top 19) 1), defScope (inClass (top 19) 1), [], []⟩, ⟨fun K => He.ma K (He.ga K "Step") "__init__", "__init__", "Step.__init__", defArgs (inClass (top 36) 0), defBody (inClass (top 36) 0), defScope (inClass (top 36) 0), [], []⟩, ⟨fun K => rf K (He.ma K (He.ga K "Step") "kind") "property", "kind", "Step.kind", defArgs (inClass (top 36) 2), defBody (inClass (top 36) 2), defScope (inClass (top 36) 2), [], []⟩, ⟨fun K => rf K (He.ma K (He.ga K "Step") "what") "property", "what", "Step.what", defArgs (inClass (top 36) 3), defBody (inClass (top 36) 3), defScope (inClass (top 36) 3), [], []⟩, ⟨fun K => He5.wf K (He.ga K "Step") "staticmethod" "of", "of", "Step.of", defArgs (inClass (top 36) 1), defBody (inClass (top 36) 1), defScope (inClass (top 36) 1), [], []⟩, ⟨fun K => He.ma K (He.ga K "Pipeline") "__init__", "__init__", "Pipeline.__init__", defArgs (inClass (top 78) 0), defBody (inClass (top 78) 0), defScope (inClass (top 78) 0), [.adr (He.dflAt ("Pipeline", some "__init__") 0)], []⟩, ⟨fun K => He.ma K (He.ga K "Pipeline") "room", "room", "Pipeline.room", defArgs (inClass (top 78) 9), defBody (inClass (top 78) 9), defScope (inClass (top 78) 9), [], []⟩, ⟨fun K => He.ma K (He.ga K "Pipeline") "final", "final", "Pipeline.final", defArgs (inClass (top 78) 10), defBody (inClass (top 78) 10), defScope (inClass (top 78) 10), [], []⟩]
def fn6 : List He5.DefA := [⟨fun K => rf K (He.ma K (He.ga K "Pipeline") "form") "property", "form", "Pipeline.form", defArgs (inClass (top 78) 4), defBody (inClass (top 78) 4), defScope (inClass (top 78) 4), [], []⟩, ⟨fun K => He5.wf K (He.ga K "Pipeline") "staticmethod" "of", "of", "Pipeline.of", defArgs (inClass (top 78) 1), defBody (inClass (top 78) 1), defScope (inClass (top 78) 1), [], []⟩, ⟨fun K => He.ma K (He.ga K "Between") "__init__", "__init__", "Between.__init__", defArgs (inClass (top 74) 0), defBody (inClass (top 74) 0), defScope (inClass (top 74) 0), [], []⟩, ⟨fun K => He.ma K (He.ga K "Between") "lots", "lots", "Between.lots", defArgs (inClass (top 74) 1), defBody (inClass (top 74) 1), defScope (inClass (top 74) 1), [], []⟩, ⟨fun K => He.ma K (He.ga K "Between") "rows_for", "rows_for", "Between.rows_for", defArgs (inClass (top 74) 2), defBody (inClass (top 74) 2), defScope (inClass (top 74) 2), [], []⟩, ⟨fun K => He.ma K (He.ga K "Between") "first_for", "first_for", "Between.first_for", defArgs (inClass (top 74) 3), defBody (inClass (top 74) 3), defScope (inClass (top 74) 3), [], []⟩, ⟨fun K => He.ma K (He.ga K "Between") "last_for", "last_for", "Between.last_for", defArgs (inClass (top 74) 4), defBody (inClass (top 74) 4), defScope (inClass (top 74) 4), [], []⟩, ⟨fun K => He.ma K (He.ga K "Between") "is_endless", "is_endless", "Between.is_endless", defArgs (inClass (top 74) 5), defBody (inClass (top 74) 5), defScope (inClass (top 74) 5), [], []⟩, ⟨fun K => He.ma K (He.ga K "Between") "many_for", "many_for", "Between.many_for", defArgs (inClass (top 74) 6), defBody (inClass (top 74) 6), defScope (inClass (top 74) 6), [], []⟩, ⟨fun K => He.ma K (He.ga K "Between") "in_all", "in_all", "Between.in_all", defArgs (inClass (top 74) 7), defBody (inClass (top 74) 7), defScope (inClass (top 74) 7), [], []⟩, ⟨fun K => He.ma K (He.ga K "Between") "room_for", "room_for", "Between.room_for", defArgs (inClass (top 74) 8), defBody (inClass (top 74) 8), defScope (inClass (top 74) 8), [], []⟩, ⟨fun K => He.ma K (He.ga K "Between") "many_ahead", "many_ahead", "Between.many_ahead", defArgs (inClass (top 74) 9), defBody (inClass (top 74) 9), defScope (inClass (top 74) 9), [], []⟩]
def fn7 : List He5.DefA := [⟨fun K => He.ma K (He.ga K "Between") "made", "made", "Between.made", defArgs (inClass (top 74) 10), defBody (inClass (top 74) 10), defScope (inClass (top 74) 10), [], []⟩, ⟨fun K => He.ma K (He.ga K "Between") "at", "at", "Between.at", defArgs (inClass (top 74) 11), defBody (inClass (top 74) 11), defScope (inClass (top 74) 11), [], []⟩, ⟨fun K => He.ma K (He.ga K "Between") "rank_of", "rank_of", "Between.rank_of", defArgs (inClass (top 74) 12), defBody (inClass (top 74) 12), defScope (inClass (top 74) 12), [], []⟩, ⟨fun K => He.ma K (He.ga K "Between") "has", "has", "Between.has", defArgs (inClass (top 74) 13), defBody (inClass (top 74) 13), defScope (inClass (top 74) 13), [], []⟩]
def fn : List He5.DefA := fn0 ++ (fn1 ++ (fn2 ++ (fn3 ++ (fn4 ++ (fn5 ++ (fn6 ++ (fn7)))))))
def exM (K : PySem.W.Frag) : List Bool := [propB K (He.ga K "Labels") "names", propB K (He.ga K "Labels") "rest", statB K (He.ga K "Labels") "of", propB K (He.ga K "Step") "kind", propB K (He.ga K "Step") "what", statB K (He.ga K "Step") "of", propB K (He.ga K "Pipeline") "form", statB K (He.ga K "Pipeline") "of", labB K]
def ex (K : PySem.W.Frag) : Bool := constB K && (exM K).all id
/-! ### the Hook -/
abbrev AlM : Type := He.AlD × Bool
def obsM (K : PySem.W.Frag) : AlM := (He5.obsA fa fn K, ex K)
def valM : AlM := (He5.valA fn, true)
def SaysM (K : PySem.W.Frag) : Prop := obsM K = valM
/-- what the names reach: functions with their code and defaults, classes with what lies in them -/
def refFn (o : Obj) : List Addr := match o.data with
  | .func fd => He.refV fd.code ++ He.refV fd.defaults
  | .seq its _ => its.toList.flatMap He.refV
  | _ => []
def refTop (o : Obj) : List Addr := match o.data with
  | .func fd => He.refV fd.code
  | .cls cd => [cd.ns]
  | .seq its _ => its.toList.flatMap He.refV
  | _ => []
def refDict (o : Obj) : List Addr := match o.data with
  | .dict es _ => es.toList.flatMap fun e => He.refV e.val
  | _ => []
def refMem (o : Obj) : List Addr := match o.data with
  | .func fd => He.refV fd.code ++ He.refV fd.defaults
  | .fields vs => vs.toList.flatMap He.refV
  | _ => []
def nxt (r : Obj → List Addr) (g : Addr → Option Obj) (as : List Addr) : List Addr := as.flatMap fun a => match g a with
  | some o => r o
  | none => []
def asM (g : Addr → Option Obj) : List Addr :=
  let l1 := nxt refDict g [mainGlobals]
  let l2 := nxt refTop g l1
  let l3 := nxt refDict g l2
  let l4 := nxt refMem g l3
  [mainGlobals, cStatics] ++ (l1 ++ (l2 ++ (l3 ++ (l4 ++ nxt refFn g l4))))
def obsMG (g : Addr → Option Obj) : AlM := obsM (He.frG g (asM g))
def hookM : PySem.W.Hook where
  α := AlM
  obs := fun s => obsMG s.heap.get?
  val := fun _ => valM
  says := fun _ h => ∃ K : PySem.W.Frag, K.In h ∧ SaysM K
  of := fun _ _ e => ⟨_, He.frG_in, e⟩
  keeps := fun _ _ _ ⟨K, hK, c⟩ k => ⟨K, PySem.W.Frag.In.keeps hK k, c⟩
theorem obsMG_eq {g : Addr → Option Obj} {s : Shared} (h : ∀ a, g a = s.heap.get? a) : obsMG g = hookM.obs s := by
  have e : g = s.heap.get? := funext h
  rw [e] <;> rfl
abbrev hk : PySem.W.Hook := hookM
def ob (s : PySem.W.SharedT) : AlM := obsMG (HandSHeadRun.getT s)
theorem ob_eq (s : PySem.W.SharedT) : ob s = hk.obs s.abs := obsMG_eq (HandSHeadRun.getT_eq s)
theorem run (w : World) : HandSHeadRun.RunEq H1.R H1.qv hk ob 20000 H1.names w := by
  intro os
  kernel_rfl

section
variable {K : PySem.W.Frag}
theorem SaysM.fact (c : SaysM K) (i : Nat) {f : He.Fa} (h : fa[i]? = some f := by rfl) : f.ok K = true := He5.SaysA.fact (fn := fn) (show He5.SaysA fa fn K from congrArg (fun z : AlM => z.1) c) i h
theorem SaysM.def_ (c : SaysM K) (i : Nat) {d : He5.DefA} (h : fn[i]? = some d := by rfl) : ∃ fd, FunD K d.name d.qual d.params d.body d.scope (d.dvs K) (d.kws K) (d.at_ K) fd := He5.SaysA.def_ (fa := fa) (show He5.SaysA fa fn K from congrArg (fun z : AlM => z.1) c) i h
theorem SaysM.exT (c : SaysM K) : ex K = true := congrArg (fun z : AlM => z.2) c
theorem SaysM.cst (c : SaysM K) : constB K = true := (He.ba (show (constB K && _) = true from c.exT)).1
theorem SaysM.ex_ (c : SaysM K) (i : Nat) {b : Bool} (h : (exM K)[i]? = some b) : b = true := by
  have h1 := (He.ba (show (constB K && (exM K).all id) = true from c.exT)).2
  exact List.all_eq_true.mp h1 b (List.mem_of_getElem? h)
end
theorem hd_of {P : Program} {w : World} {K : PySem.W.Frag} {mg : Str → Option Value} {base h : Heap} (X : K.In h) (G : h.Ns mainGlobals mg) (c : SaysM K) : Hd ⟨P, w, K, mg, base⟩ where
  d_tupled := by
    obtain ⟨fd, F⟩ := c.def_ 0 rfl
    exact ⟨_, fd, He.glo_ok X G (c.fact 0 (f := .glo "tupled") rfl), F⟩
  d_set_of := by
    obtain ⟨fd, F⟩ := c.def_ 1 rfl
    exact ⟨_, fd, He.glo_ok X G (c.fact 1 (f := .glo "set_of") rfl), F⟩
  d_number_in := by
    obtain ⟨fd, F⟩ := c.def_ 2 rfl
    exact ⟨_, fd, He.glo_ok X G (c.fact 2 (f := .glo "number_in") rfl), F⟩
  d_is_name := by
    obtain ⟨fd, F⟩ := c.def_ 3 rfl
    exact ⟨_, fd, He.glo_ok X G (c.fact 3 (f := .glo "is_name") rfl), F⟩
  d_names_in := by
    obtain ⟨fd, F⟩ := c.def_ 4 rfl
    exact ⟨_, fd, He.glo_ok X G (c.fact 4 (f := .glo "names_in") rfl), F⟩
  d_is_step := by
    obtain ⟨fd, F⟩ := c.def_ 5 rfl
    exact ⟨_, fd, He.glo_ok X G (c.fact 5 (f := .glo "is_step") rfl), F⟩
  d_what_in := by
    obtain ⟨fd, F⟩ := c.def_ 6 rfl
    exact ⟨_, fd, He.glo_ok X G (c.fact 6 (f := .glo "what_in") rfl), F⟩
  d_lesser := by
    obtain ⟨fd, F⟩ := c.def_ 7 rfl
    exact ⟨_, fd, He.glo_ok X G (c.fact 7 (f := .glo "lesser") rfl), F⟩
  d_is_most := by
    obtain ⟨fd, F⟩ := c.def_ 8 rfl
    exact ⟨_, fd, He.glo_ok X G (c.fact 8 (f := .glo "is_most") rfl), F⟩
  d_entry_in := by
    obtain ⟨fd, F⟩ := c.def_ 9 rfl
    exact ⟨_, fd, He.glo_ok X G (c.fact 9 (f := .glo "entry_in") rfl), F⟩
  d_final_in := by
    obtain ⟨fd, F⟩ := c.def_ 10 rfl
    exact ⟨_, fd, He.glo_ok X G (c.fact 10 (f := .glo "final_in") rfl), F⟩
  d_room_in := by
    obtain ⟨fd, F⟩ := c.def_ 11 rfl
    exact ⟨_, fd, He.glo_ok X G (c.fact 11 (f := .glo "room_in") rfl), F⟩
  d_form_with := by
    obtain ⟨fd, F⟩ := c.def_ 12 rfl
    exact ⟨_, fd, He.glo_ok X G (c.fact 12 (f := .glo "form_with") rfl), F⟩
  d_names_told := by
    obtain ⟨fd, F⟩ := c.def_ 13 rfl
    exact ⟨_, fd, He.glo_ok X G (c.fact 13 (f := .glo "names_told") rfl), F⟩
  d_height_in := by
    obtain ⟨fd, F⟩ := c.def_ 14 rfl
    exact ⟨_, fd, He.glo_ok X G (c.fact 14 (f := .glo "height_in") rfl), F⟩
  d_form_of_step := by
    obtain ⟨fd, F⟩ := c.def_ 15 rfl
    exact ⟨_, fd, He.glo_ok X G (c.fact 15 (f := .glo "form_of_step") rfl), F⟩
  d_entry_behind := by
    obtain ⟨fd, F⟩ := c.def_ 16 rfl
    exact ⟨_, fd, He.glo_ok X G (c.fact 16 (f := .glo "entry_behind") rfl), F⟩
  d_form_behind := by
    obtain ⟨fd, F⟩ := c.def_ 17 rfl
    exact ⟨_, fd, He.glo_ok X G (c.fact 17 (f := .glo "form_behind") rfl), F⟩
  d_rooms_gone := by
    obtain ⟨fd, F⟩ := c.def_ 18 rfl
    exact ⟨_, fd, He.glo_ok X G (c.fact 18 (f := .glo "rooms_gone") rfl), F⟩
  d_labels_gone := by
    obtain ⟨fd, F⟩ := c.def_ 19 rfl
    exact ⟨_, fd, He.glo_ok X G (c.fact 19 (f := .glo "labels_gone") rfl), F⟩
  d_plain_steps := by
    obtain ⟨fd, F⟩ := c.def_ 20 rfl
    exact ⟨_, fd, He.glo_ok X G (c.fact 20 (f := .glo "plain_steps") rfl), F⟩
  d_greater := by
    obtain ⟨fd, F⟩ := c.def_ 21 rfl
    exact ⟨_, fd, He.glo_ok X G (c.fact 21 (f := .glo "greater") rfl), F⟩
  d_side := by
    obtain ⟨fd, F⟩ := c.def_ 22 rfl
    exact ⟨_, fd, He.glo_ok X G (c.fact 22 (f := .glo "side") rfl), F⟩
  d_told_in := by
    obtain ⟨fd, F⟩ := c.def_ 23 rfl
    exact ⟨_, fd, He.glo_ok X G (c.fact 23 (f := .glo "told_in") rfl), F⟩
  d_form_of := by
    obtain ⟨fd, F⟩ := c.def_ 24 rfl
    exact ⟨_, fd, He.glo_ok X G (c.fact 24 (f := .glo "form_of") rfl), F⟩
  d_pairs_of := by
    obtain ⟨fd, F⟩ := c.def_ 25 rfl
    exact ⟨_, fd, He.glo_ok X G (c.fact 25 (f := .glo "pairs_of") rfl), F⟩
  d_is_within := by
    obtain ⟨fd, F⟩ := c.def_ 26 rfl
    exact ⟨_, fd, He.glo_ok X G (c.fact 26 (f := .glo "is_within") rfl), F⟩
  d_over_names := by
    obtain ⟨fd, F⟩ := c.def_ 27 rfl
    exact ⟨_, fd, He.glo_ok X G (c.fact 27 (f := .glo "over_names") rfl), F⟩
  d_choose := by
    obtain ⟨fd, F⟩ := c.def_ 28 rfl
    exact ⟨_, fd, He.glo_ok X G (c.fact 28 (f := .glo "choose") rfl), F⟩
  d_ways_of := by
    obtain ⟨fd, F⟩ := c.def_ 29 rfl
    exact ⟨_, fd, He.glo_ok X G (c.fact 29 (f := .glo "ways_of") rfl), F⟩
  d_ways_at := by
    obtain ⟨fd, F⟩ := c.def_ 30 rfl
    exact ⟨_, fd, He.glo_ok X G (c.fact 30 (f := .glo "ways_at") rfl), F⟩
  d_sum_of := by
    obtain ⟨fd, F⟩ := c.def_ 31 rfl
    exact ⟨_, fd, He.glo_ok X G (c.fact 31 (f := .glo "sum_of") rfl), F⟩
  d_sum_to := by
    obtain ⟨fd, F⟩ := c.def_ 32 rfl
    exact ⟨_, fd, He.glo_ok X G (c.fact 32 (f := .glo "sum_to") rfl), F⟩
  d_form_of_steps := by
    obtain ⟨fd, F⟩ := c.def_ 33 rfl
    exact ⟨_, fd, He.glo_ok X G (c.fact 33 (f := .glo "form_of_steps") rfl), F⟩
  d_pipeline_of := by
    obtain ⟨fd, F⟩ := c.def_ 34 rfl
    exact ⟨_, fd, He.glo_ok X G (c.fact 34 (f := .glo "pipeline_of") rfl), F⟩
  d_table_for := by
    obtain ⟨fd, F⟩ := c.def_ 35 rfl
    exact ⟨_, fd, He.glo_ok X G (c.fact 35 (f := .glo "table_for") rfl), F⟩
  d_many_between := by
    obtain ⟨fd, F⟩ := c.def_ 36 rfl
    exact ⟨_, fd, He.glo_ok X G (c.fact 36 (f := .glo "many_between") rfl), F⟩
  d_nth_between := by
    obtain ⟨fd, F⟩ := c.def_ 37 rfl
    exact ⟨_, fd, He.glo_ok X G (c.fact 37 (f := .glo "nth_between") rfl), F⟩
  d_rank_between := by
    obtain ⟨fd, F⟩ := c.def_ 38 rfl
    exact ⟨_, fd, He.glo_ok X G (c.fact 38 (f := .glo "rank_between") rfl), F⟩
  d__law_box := by
    obtain ⟨fd, F⟩ := c.def_ 39 rfl
    exact ⟨_, fd, He.glo_ok X G (c.fact 39 (f := .glo "_law_box") rfl), F⟩
  d__law_cells := by
    obtain ⟨fd, F⟩ := c.def_ 40 rfl
    exact ⟨_, fd, He.glo_ok X G (c.fact 40 (f := .glo "_law_cells") rfl), F⟩
  d__law_of := by
    obtain ⟨fd, F⟩ := c.def_ 41 rfl
    exact ⟨_, fd, He.glo_ok X G (c.fact 41 (f := .glo "_law_of") rfl), F⟩
  d__law_take := by
    obtain ⟨fd, F⟩ := c.def_ 42 rfl
    exact ⟨_, fd, He.glo_ok X G (c.fact 42 (f := .glo "_law_take") rfl), F⟩
  d__law_same := by
    obtain ⟨fd, F⟩ := c.def_ 43 rfl
    exact ⟨_, fd, He.glo_ok X G (c.fact 43 (f := .glo "_law_same") rfl), F⟩
  d__law_tags := by
    obtain ⟨fd, F⟩ := c.def_ 44 rfl
    exact ⟨_, fd, He.glo_ok X G (c.fact 44 (f := .glo "_law_tags") rfl), F⟩
  d__law_lot := by
    obtain ⟨fd, F⟩ := c.def_ 45 rfl
    exact ⟨_, fd, He.glo_ok X G (c.fact 45 (f := .glo "_law_lot") rfl), F⟩
  d__law_host := by
    obtain ⟨fd, F⟩ := c.def_ 46 rfl
    exact ⟨_, fd, He.glo_ok X G (c.fact 46 (f := .glo "_law_host") rfl), F⟩
  d__law_has := by
    obtain ⟨fd, F⟩ := c.def_ 47 rfl
    exact ⟨_, fd, He.glo_ok X G (c.fact 47 (f := .glo "_law_has") rfl), F⟩
  d__law_called := by
    obtain ⟨fd, F⟩ := c.def_ 48 rfl
    exact ⟨_, fd, He.glo_ok X G (c.fact 48 (f := .glo "_law_called") rfl), F⟩
  d__law_fate := by
    obtain ⟨fd, F⟩ := c.def_ 49 rfl
    exact ⟨_, fd, He.glo_ok X G (c.fact 49 (f := .glo "_law_fate") rfl), F⟩
  d__law_at_most := by
    obtain ⟨fd, F⟩ := c.def_ 50 rfl
    exact ⟨_, fd, He.glo_ok X G (c.fact 50 (f := .glo "_law_at_most") rfl), F⟩
  d__law_row := by
    obtain ⟨fd, F⟩ := c.def_ 51 rfl
    exact ⟨_, fd, He.glo_ok X G (c.fact 51 (f := .glo "_law_row") rfl), F⟩
  d__law_host_row := by
    obtain ⟨fd, F⟩ := c.def_ 52 rfl
    exact ⟨_, fd, He.glo_ok X G (c.fact 52 (f := .glo "_law_host_row") rfl), F⟩
  d__law_lies_in := by
    obtain ⟨fd, F⟩ := c.def_ 53 rfl
    exact ⟨_, fd, He.glo_ok X G (c.fact 53 (f := .glo "_law_lies_in") rfl), F⟩
  d__law_key := by
    obtain ⟨fd, F⟩ := c.def_ 54 rfl
    exact ⟨_, fd, He.glo_ok X G (c.fact 54 (f := .glo "_law_key") rfl), F⟩
  d__law_limit := by
    obtain ⟨fd, F⟩ := c.def_ 55 rfl
    exact ⟨_, fd, He.glo_ok X G (c.fact 55 (f := .glo "_law_limit") rfl), F⟩
  d__law_wide := by
    obtain ⟨fd, F⟩ := c.def_ 56 rfl
    exact ⟨_, fd, He.glo_ok X G (c.fact 56 (f := .glo "_law_wide") rfl), F⟩
  d__law_pair_right := by
    obtain ⟨fd, F⟩ := c.def_ 57 rfl
    exact ⟨_, fd, He.glo_ok X G (c.fact 57 (f := .glo "_law_pair_right") rfl), F⟩
  d__law_by_hand_right := by
    obtain ⟨fd, F⟩ := c.def_ 58 rfl
    exact ⟨_, fd, He.glo_ok X G (c.fact 58 (f := .glo "_law_by_hand_right") rfl), F⟩
  d__law_right := by
    obtain ⟨fd, F⟩ := c.def_ 59 rfl
    exact ⟨_, fd, He.glo_ok X G (c.fact 59 (f := .glo "_law_right") rfl), F⟩
  d_law := by
    obtain ⟨fd, F⟩ := c.def_ 60 rfl
    exact ⟨_, fd, He.glo_ok X G (c.fact 60 (f := .glo "law") rfl), F⟩
  g_Labels := He.glo_ok X G (c.fact 61 (f := .glo "Labels") rfl)
  c_Labels := He.cls_ok (c.fact 95 (f := .cls "Labels") rfl)
  n_Labels_own_names := He.noat_ok (c.fact 97 (f := .noat "Labels" "own_names") rfl)
  n_Labels_own_rest := He.noat_ok (c.fact 98 (f := .noat "Labels" "own_rest") rfl)
  i_Labels := by
    obtain ⟨fd, F⟩ := c.def_ 61 rfl
    exact ⟨_, fd, He.mkr_ok (c.fact 96 (f := .mkr "Labels") rfl), F⟩
  p_Labels_names := by
    obtain ⟨fd, F⟩ := c.def_ 62 rfl
    exact ⟨_, _, fd, propB_ok (c.ex_ 0 rfl), F⟩
  p_Labels_rest := by
    obtain ⟨fd, F⟩ := c.def_ 63 rfl
    exact ⟨_, _, fd, propB_ok (c.ex_ 1 rfl), F⟩
  s_Labels_of := by
    obtain ⟨fd, F⟩ := c.def_ 64 rfl
    exact ⟨_, _, fd, statB_ok (c.ex_ 2 rfl), F⟩
  g_Step := He.glo_ok X G (c.fact 62 (f := .glo "Step") rfl)
  c_Step := He.cls_ok (c.fact 99 (f := .cls "Step") rfl)
  n_Step_own_kind := He.noat_ok (c.fact 101 (f := .noat "Step" "own_kind") rfl)
  n_Step_own_what := He.noat_ok (c.fact 102 (f := .noat "Step" "own_what") rfl)
  i_Step := by
    obtain ⟨fd, F⟩ := c.def_ 65 rfl
    exact ⟨_, fd, He.mkr_ok (c.fact 100 (f := .mkr "Step") rfl), F⟩
  p_Step_kind := by
    obtain ⟨fd, F⟩ := c.def_ 66 rfl
    exact ⟨_, _, fd, propB_ok (c.ex_ 3 rfl), F⟩
  p_Step_what := by
    obtain ⟨fd, F⟩ := c.def_ 67 rfl
    exact ⟨_, _, fd, propB_ok (c.ex_ 4 rfl), F⟩
  s_Step_of := by
    obtain ⟨fd, F⟩ := c.def_ 68 rfl
    exact ⟨_, _, fd, statB_ok (c.ex_ 5 rfl), F⟩
  g_Pipeline := He.glo_ok X G (c.fact 63 (f := .glo "Pipeline") rfl)
  c_Pipeline := He.cls_ok (c.fact 103 (f := .cls "Pipeline") rfl)
  n_Pipeline_own_steps := He.noat_ok (c.fact 105 (f := .noat "Pipeline" "own_steps") rfl)
  n_Pipeline_own_form := He.noat_ok (c.fact 106 (f := .noat "Pipeline" "own_form") rfl)
  i_Pipeline := by
    obtain ⟨fd, F⟩ := c.def_ 69 rfl
    exact ⟨_, fd, He.mkr_ok (c.fact 104 (f := .mkr "Pipeline") rfl), F⟩
  m_Pipeline_room := by
    obtain ⟨fd, F⟩ := c.def_ 70 rfl
    exact ⟨_, fd, He.meth_ok (c.fact 107 (f := .meth "Pipeline" "room") rfl), F⟩
  m_Pipeline_final := by
    obtain ⟨fd, F⟩ := c.def_ 71 rfl
    exact ⟨_, fd, He.meth_ok (c.fact 108 (f := .meth "Pipeline" "final") rfl), F⟩
  p_Pipeline_form := by
    obtain ⟨fd, F⟩ := c.def_ 72 rfl
    exact ⟨_, _, fd, propB_ok (c.ex_ 6 rfl), F⟩
  s_Pipeline_of := by
    obtain ⟨fd, F⟩ := c.def_ 73 rfl
    exact ⟨_, _, fd, statB_ok (c.ex_ 7 rfl), F⟩
  g_Between := He.glo_ok X G (c.fact 64 (f := .glo "Between") rfl)
  c_Between := He.cls_ok (c.fact 109 (f := .cls "Between") rfl)
  n_Between_own_low := He.noat_ok (c.fact 111 (f := .noat "Between" "own_low") rfl)
  n_Between_own_high := He.noat_ok (c.fact 112 (f := .noat "Between" "own_high") rfl)
  n_Between_own_names := He.noat_ok (c.fact 113 (f := .noat "Between" "own_names") rfl)
  i_Between := by
    obtain ⟨fd, F⟩ := c.def_ 74 rfl
    exact ⟨_, fd, He.mkr_ok (c.fact 110 (f := .mkr "Between") rfl), F⟩
  m_Between_lots := by
    obtain ⟨fd, F⟩ := c.def_ 75 rfl
    exact ⟨_, fd, He.meth_ok (c.fact 114 (f := .meth "Between" "lots") rfl), F⟩
  m_Between_rows_for := by
    obtain ⟨fd, F⟩ := c.def_ 76 rfl
    exact ⟨_, fd, He.meth_ok (c.fact 115 (f := .meth "Between" "rows_for") rfl), F⟩
  m_Between_first_for := by
    obtain ⟨fd, F⟩ := c.def_ 77 rfl
    exact ⟨_, fd, He.meth_ok (c.fact 116 (f := .meth "Between" "first_for") rfl), F⟩
  m_Between_last_for := by
    obtain ⟨fd, F⟩ := c.def_ 78 rfl
    exact ⟨_, fd, He.meth_ok (c.fact 117 (f := .meth "Between" "last_for") rfl), F⟩
  m_Between_is_endless := by
    obtain ⟨fd, F⟩ := c.def_ 79 rfl
    exact ⟨_, fd, He.meth_ok (c.fact 118 (f := .meth "Between" "is_endless") rfl), F⟩
  m_Between_many_for := by
    obtain ⟨fd, F⟩ := c.def_ 80 rfl
    exact ⟨_, fd, He.meth_ok (c.fact 119 (f := .meth "Between" "many_for") rfl), F⟩
  m_Between_in_all := by
    obtain ⟨fd, F⟩ := c.def_ 81 rfl
    exact ⟨_, fd, He.meth_ok (c.fact 120 (f := .meth "Between" "in_all") rfl), F⟩
  m_Between_room_for := by
    obtain ⟨fd, F⟩ := c.def_ 82 rfl
    exact ⟨_, fd, He.meth_ok (c.fact 121 (f := .meth "Between" "room_for") rfl), F⟩
  m_Between_many_ahead := by
    obtain ⟨fd, F⟩ := c.def_ 83 rfl
    exact ⟨_, fd, He.meth_ok (c.fact 122 (f := .meth "Between" "many_ahead") rfl), F⟩
  m_Between_made := by
    obtain ⟨fd, F⟩ := c.def_ 84 rfl
    exact ⟨_, fd, He.meth_ok (c.fact 123 (f := .meth "Between" "made") rfl), F⟩
  m_Between_at := by
    obtain ⟨fd, F⟩ := c.def_ 85 rfl
    exact ⟨_, fd, He.meth_ok (c.fact 124 (f := .meth "Between" "at") rfl), F⟩
  m_Between_rank_of := by
    obtain ⟨fd, F⟩ := c.def_ 86 rfl
    exact ⟨_, fd, He.meth_ok (c.fact 125 (f := .meth "Between" "rank_of") rfl), F⟩
  m_Between_has := by
    obtain ⟨fd, F⟩ := c.def_ 87 rfl
    exact ⟨_, fd, He.meth_ok (c.fact 126 (f := .meth "Between" "has") rfl), F⟩
  f_len := He.free_ok X G (c.fact 67 (f := .free "len") rfl)
  f_int := He.free_ok X G (c.fact 68 (f := .free "int") rfl)
  f_abs := He.free_ok X G (c.fact 69 (f := .free "abs") rfl)
  f_max := He.free_ok X G (c.fact 70 (f := .free "max") rfl)
  f_min := He.free_ok X G (c.fact 71 (f := .free "min") rfl)
  f_sum := He.free_ok X G (c.fact 72 (f := .free "sum") rfl)
  f_all := He.free_ok X G (c.fact 73 (f := .free "all") rfl)
  f_any := He.free_ok X G (c.fact 74 (f := .free "any") rfl)
  f_tuple := He.free_ok X G (c.fact 75 (f := .free "tuple") rfl)
  f_list := He.free_ok X G (c.fact 76 (f := .free "list") rfl)
  f_sorted := He.free_ok X G (c.fact 77 (f := .free "sorted") rfl)
  f_set := He.free_ok X G (c.fact 78 (f := .free "set") rfl)
  f_range := He.free_ok X G (c.fact 79 (f := .free "range") rfl)
  f_enumerate := He.free_ok X G (c.fact 80 (f := .free "enumerate") rfl)
  f_zip := He.free_ok X G (c.fact 81 (f := .free "zip") rfl)
  f_isinstance := He.free_ok X G (c.fact 82 (f := .free "isinstance") rfl)
  f_bool := He.free_ok X G (c.fact 83 (f := .free "bool") rfl)
  f_str := He.free_ok X G (c.fact 84 (f := .free "str") rfl)
  k_LONGEST := He.int_ok X G (c.fact 85 (f := .int "LONGEST" 8) rfl)
  k_LETTERS := He.str_ok X G (c.fact 86 (f := .str "LETTERS" "abcdefghijklmnopqrstuvwxyz") rfl)
  k_NOTHING_labels := He.str_ok X G (c.fact 87 (f := .str "NOTHING_labels" "-") rfl)
  k_ALL := He.str_ok X G (c.fact 88 (f := .str "ALL" "*") rfl)
  k_BUT := He.str_ok X G (c.fact 89 (f := .str "BUT" "* - ") rfl)
  k_DROP := He.str_ok X G (c.fact 90 (f := .str "DROP" "drop") rfl)
  k_UNWRAP := He.str_ok X G (c.fact 91 (f := .str "UNWRAP" "unwrap") rfl)
  k_CUT := He.str_ok X G (c.fact 92 (f := .str "CUT" "cut") rfl)
  k_RENAME := He.str_ok X G (c.fact 93 (f := .str "RENAME" "rename") rfl)
  k_BETWEEN := He.str_ok X G (c.fact 94 (f := .str "BETWEEN" "; ") rfl)
  g_START := He.glo_ok X G (c.fact 65 (f := .glo "START") rfl)
  g_NOTHING_rooms := He.glo_ok X G (c.fact 66 (f := .glo "NOTHING_rooms") rfl)
  lab := labB_ok (c.ex_ 8 rfl)
  kst := constB_ok c.cst
end PL
/-! P5: defs' contracts from the head's facts -/
namespace PL
open PySem PySem.Spec PyProof.Rows L2

theorem sc_of {N ps : List Str} {st : Stmt} (h1 : (defScope st).kind = .function) (h2 : (defScope st).isCoroutine = false) (h3 : (defScope st).isGenerator = false) (h4 : N.Nodup) (h5 : N.take ps.length = ps)
    (h6 : ∀ x ∈ ps, (defScope st).names.lookup x = some .local ∨ (defScope st).names.lookup x = some .cell) (h7 : ∀ y ∈ (defScope st).names, y.2 ≠ .free) : FnScope N ps (defScope st) := ⟨h1, h2, h3, h4, h5, h6, h7⟩
/-- how the positional parameters are bound -/
def BindN (x q : Str) (st : Stmt) (ps : List Str) : Prop := ∀ (kV doc pm : Value) (an : Option Addr) (cdv ct : Value) (us : List Value), us.length = ps.length → bindArgs (PySem.W.fnOf x q (defArgs st) (defBody st) (defScope st) .none kV doc pm an cdv ct) ⟨us, []⟩ = pure (ps.zip us)
section
variable {c : Cn} {x q : Str} {st : Stmt} {N ps : List Str} {k : Nat} {α : Type} {args : α → List D} {pre : α → Prop} {res : α → D} {C : Addr}
/-- what is asked of a body -/
def BodyOk (c : Cn) (q : Str) (st : Stmt) (N : List Str) (k : Nat) {α : Type} (args : α → List D) (pre : α → Prop) (res : α → D) : Prop :=
  ∀ (f : Addr) (cdv : Value) (A : Around) (outer : List Env) (s : Shared) (H : Hp) (E : XK), Room k (bodyX c N q (defScope st) f cdv A outer s H E).A → ∀ y, pre y →
    WB (ca c.K) (bodyX c N q (defScope st) f cdv A outer s H E) (defBody st) (rho0 N.length (args y)) { nx := fun _ => res y = .non, rt := fun d => d = res y }
theorem good_def (h : DefAt c x st) (S : FnScope N ps (defScope st)) (hb : BindN x x st ps) (hl : ∀ y, (args y).length = ps.length) (hps : ps.length ≤ N.length) (body : BodyOk c x st N k args pre res) :
    Good c x (k + 1) ps (SpP c.K (ca c.K) args pre res) := by
  obtain ⟨f, fd, hm, F⟩ := h
  exact good_of F hm (F.bindsN hb) (fn_good F S hl hps (body f))
theorem good_meth (h : MethAt c C x q st) (S : FnScope N ps (defScope st)) (hb : BindN x q st ps) (hl : ∀ y, (args y).length = ps.length) (hps : ps.length ≤ N.length) (body : BodyOk c q st N k args pre res) :
    GoodM c C x (k + 1) ps (SpP c.K (ca c.K) args pre res) := by
  obtain ⟨f, fd, hm, F⟩ := h
  exact ⟨f, fd, hm, F.bindsN hb, fn_good F S hl hps (body f)⟩
theorem good_prop (h : PropAt c C x q st) (S : FnScope N ["self"] (defScope st)) (hb : BindN x q st ["self"]) (hl : ∀ y, (args y).length = 1) (hps : 1 ≤ N.length) (body : BodyOk c q st N k args pre res) :
    GoodP c C x (k + 1) (SpP c.K (ca c.K) args pre res) := by
  obtain ⟨p, f, fd, hm, F⟩ := h
  exact ⟨p, f, fd, hm, F.bindsN hb, fn_good F S hl hps (body f)⟩
end
/-- an int or None -/
def encO : Option Int → D
  | none => .non
  | some i => .int i
def lesserM : Option Int → Option Int → Option Int
  | none, b => b
  | some a, none => some a
  | some a, some b => some (min a b)
def mostM : Option Int → Option Int → Bool
  | _, none => true
  | none, some _ => false
  | some a, some b => decide (a ≤ b)

theorem g_lesser {c : Cn} (h : Hd c) : Good c "lesser" 1 ["one", "other"] (SpP c.K (ca c.K) (fun y : Option Int × Option Int => [encO y.1, encO y.2]) (fun _ => True) (fun y => encO (lesserM y.1 y.2))) := by
  refine good_def (N := ["one", "other"]) h.d_lesser ⟨rfl, rfl, rfl, by decide +kernel, rfl, by decide +kernel, by decide +kernel⟩ (fun _ _ _ _ _ _ us hl => match us, hl with | [_, _], _ => rfl) (fun _ => rfl) (by decide) ?_
  rintro f cdv A outer s H E hr ⟨a, b⟩ -
  refine wb_cons (w_if (EvW.t (ew_or (et_isN (ev_var 0 rfl (.inl rfl) rfl)) fun h1 => ew_or1 (et_isN (ev_var 1 rfl (.inl rfl) rfl)))) (fun h1 => wb_ret (ev_ite (et_isN (ev_var 0 rfl (.inl rfl) rfl)) (fun _ => ev_var 1 rfl (.inl rfl) rfl) (fun _ => ev_var 0 rfl (.inl rfl) rfl)) ?_) fun h1 => wb_nil ?_)
  · cases a <;> cases b <;> first | rfl | cases h1
  · cases a with
    | none => cases h1
    | some a =>
      cases b with
      | none => cases h1
      | some b => exact wb_ret (ev_min2 rfl h.f_min (ev_var 0 rfl (.inl rfl) rfl) (ev_var 1 rfl (.inl rfl) rfl)) rfl
end PL
/-! R1: sets of any keys, made of a list or a tuple; sorted(set(..)) -/
namespace PL
open PySem PySem.Spec PyProof.Rows L2

section
variable {P : Program} {w : World} {κ : Type} [DecidableEq κ] (kd : PySem.KeyKind P w κ)
/-- no key stands twice -/
def Apart (l : List (Int × Value)) : Prop := l.Pairwise fun x y => ∀ k, kd.is k x.2 = true → kd.is k y.2 = true → False
/-- the set at a: S its members; its table can be walked -/
def SetK (h : Heap) (a : Addr) (S : κ → Bool) (n : Nat) : Prop :=
  ∃ ob its ep tb, h.get? a = some ob ∧ ob.ExactSet ∧ ob.data = .set its ep tb ∧ ElemsOf kd its.toList ∧ Apart kd its.toList ∧ (∀ k, S k = true ↔ ∃ z ∈ its.toList, kd.is k z.2 = true) ∧
    its.size < scanBound ∧ tb.fits its.size = true ∧ its.size = n ∧ Ris tb.place.toList ∧ (w.params.followText "set-order" = true ∨ tb.led = true)
variable {kd}
theorem SetK.keep {h h' : Heap} {a : Addr} {S : κ → Bool} {n : Nat} (R : SetK kd h a S n) (k : ∀ o, h.get? a = some o → h'.get? a = some o) : SetK kd h' a S n := by
  obtain ⟨ob, its, ep, tb, h1, h2⟩ := R
  exact ⟨ob, its, ep, tb, k ob h1, h2⟩
theorem SetK.eqv {h : Heap} {a : Addr} {S S' : κ → Bool} {n : Nat} (R : SetK kd h a S n) (q : ∀ k, S' k = S k) : SetK kd h a S' n := by
  rw [show S' = S from funext q]
  exact R
theorem SetK.setOf {h : Heap} {a : Addr} {S : κ → Bool} {n : Nat} (R : SetK kd h a S n) : h.SetOf kd a S n := by
  obtain ⟨ob, its, ep, tb, h1, h2, h3, h4, _, h6, h7, h8, h9, _⟩ := R
  exact ⟨ob, its, ep, tb, h1, h2, h3, h4, h6, h7, h8, h9⟩
theorem apart_perm {l l' : List (Int × Value)} (p : l.Perm l') (h : Apart kd l) : Apart kd l' := (p.pairwise_iff (fun {x y} q k h1 h2 => q k h2 h1)).mp h

variable {A : Around} {E : Value → Shared → Prop} {s : Shared} {a : Addr} {S : κ → Bool} {n : Nat}
theorem setK_tail {g : Bool → Sem Unit} (hg : ∀ (b : Bool) (s1 : Shared) (Q' : Unit → Shared → Prop), Q' () s1 → wpAny (model P w) A (g b) Q' E s1)
    {ob : Obj} {its new : Array (Int × Value)} {ep : Nat} {tb t2 : SetTable} {S' : κ → Bool} (ho : s.heap.get? a = some ob) (hx : ob.ExactSet) (hd : ob.data = .set its ep tb)
    (el : ElemsOf kd new.toList) (ap : Apart kd new.toList) (mm : ∀ k, S' k = true ↔ ∃ z ∈ new.toList, kd.is k z.2 = true)
    (hb : new.size < scanBound) (hf : t2.fits new.size = true) (hr : Ris t2.place.toList) (hl : w.params.followText "set-order" = true ∨ t2.led = true) {wd : Bool} {R : Option Bool → Shared → Prop}
    (hR : ∀ h', Heap.SameBut a s.heap h' → SetK kd h' a S' new.size → R (some true) { s with heap := h' }) :
    wpAny (model P w) A (do
        storeSet a new t2
        if (!wd && t2.tooFull) = true then do
            g (relayAll t2 new (SetTable.grown new.size)).2.2
            storeSet a (relayAll t2 new (SetTable.grown new.size)).1 (relayAll t2 new (SetTable.grown new.size)).2.1
            pure (some true)
          else pure (some true)) R E s := by
  have first := store_at (es' := new) (t' := t2) ho hd
  have same := Heap.SameBut.update s.heap a (Obj.putSet new t2)
  refine wpAny_bind (wpAny_storeSet_of ho hd ?_ (fits_of_scanBound hb))
  split
  · have e1 := relayAll_perm t2 new (SetTable.grown new.size)
    have e2 := relayAll_fits t2 new (SetTable.grown new.size)
    have e3 := relayAll_ris t2 new (SetTable.grown new.size)
    have e4 := relayAll_led t2 new (SetTable.grown new.size)
    generalize relayAll t2 new (SetTable.grown new.size) = Y at e1 e2 e3 e4 ⊢
    obtain ⟨fin, t3, gv⟩ := Y
    dsimp only at e1 e2 e3 e4 ⊢
    have sz : fin.size = new.size := by
      rw [← Array.length_toList, e1.length_eq, Array.length_toList]
    have hb' : fin.size < scanBound := by rw [sz]; exact hb
    refine wpAny_bind (hg _ _ _ (wpAny_bind (wpAny_storeSet_of first rfl ?_ (fits_of_scanBound hb'))))
    have second := store_at (es' := fin) (t' := t3) first rfl
    refine wpAny_pure (hR _ (same.trans (Heap.SameBut.update _ a _)) ⟨_, fin, _, t3, second, hx, rfl, fun z hz => el z (e1.mem_iff.mp hz), apart_perm e1.symm ap, fun k => ?_, hb', e2, sz, e3, hl.imp id fun z => ?_⟩)
    · rw [mm k]
      constructor
      · rintro ⟨z, hz, q⟩
        exact ⟨z, e1.mem_iff.mpr hz, q⟩
      · rintro ⟨z, hz, q⟩
        exact ⟨z, e1.mem_iff.mp hz, q⟩
    · rw [e4]
      exact z
  · exact wpAny_pure (hR _ same ⟨_, new, _, t2, first, hx, rfl, el, ap, mm, hb, hf, rfl, hr, hl⟩)

theorem setK_add {k : κ} {x : Value} (hkey : kd.is k x = true) (hsc : x.scannable = true) {Q : Bool → Shared → Prop} (R : SetK kd s.heap a S n) (room : n + 1 < scanBound)
    (hQ : ∀ h' b, Heap.SameBut a s.heap h' → SetK kd h' a (fun j => S j || decide (j = k)) (if S k = true then n else n + 1) → Q b { s with heap := h' }) :
    wpAny (model P w) A (setAddHashed a x (kd.hash k)) Q E s := by
  obtain ⟨ob, its, ep, tb, ho, hx, hd, hel, hap, hm, hb, hf, hn, hr, hl⟩ := R
  unfold setAddHashed setAddHashedIn
  refine wpAny_holding (wpAny_bind (wpAny_setState_of ho hd hf ?_))
  dsimp only
  rw [byScan_of hsc hb hel]
  simp only [↓reduceIte]
  unfold setAddByScan
  refine wpAny_bind (wpAny_bind (wpAny_rule (wpAny_bind (wpAny_setScan_of hkey ho hd hf hel ?_))))
  cases hfi : List.findIdx? (fun z => kd.is k z.2) its.toList with
  | some j =>
    dsimp only
    obtain ⟨hj, pj, _⟩ := List.findIdx?_eq_some_iff_getElem.mp hfi
    have hSk : S k = true := (hm k).2 ⟨its.toList[j], List.getElem_mem hj, pj⟩
    refine wpAny_pure (wpAny_pure (hQ s.heap _ (Heap.SameBut.refl a s.heap) ⟨ob, its, ep, tb, ho, hx, hd, hel, hap, fun i => ?_, hb, hf, ?_, hr, hl⟩))
    · rw [Bool.or_eq_true, decide_eq_true_eq, ← hm i]
      constructor
      · rintro (h | h)
        · exact h
        · rw [h]; exact hSk
      · exact .inl
    · rw [if_pos hSk]
      exact hn
  | none =>
    dsimp only
    have fresh : ∀ z ∈ its.toList, kd.is k z.2 = false := List.findIdx?_eq_none_iff.mp hfi
    have hSk : S k = false := by
      cases q : S k with
      | false => rfl
      | true =>
        obtain ⟨z, hz, q2⟩ := (hm k).1 q
        rw [fresh z hz] at q2
        cases q2
    have p1 := layNew_perm tb its (kd.hash k) x
    have p2 := layNew_fits tb its (kd.hash k) x
    have p3 := layNew_ris tb its (kd.hash k) x hr
    have p4 := layNew_led tb its (kd.hash k) x
    generalize layNew tb its (kd.hash k) x = Y at p1 p2 p3 p4 ⊢
    obtain ⟨new, t1, wd, gv⟩ := Y
    dsimp only at p1 p2 p3 p4 ⊢
    rw [Array.toList_push] at p1
    have pc : new.toList.Perm ((kd.hash k, x) :: its.toList) := p1.trans (List.perm_append_singleton _ _)
    have el1 : ElemsOf kd new.toList := fun z hz => by
      rcases List.mem_cons.mp (pc.mem_iff.mp hz) with q | q
      · rw [q]
        exact ⟨⟨k, hkey, rfl⟩, hsc⟩
      · exact hel z q
    have ap1 : Apart kd new.toList := apart_perm pc.symm (List.pairwise_cons.mpr ⟨fun z hz j (q1 : kd.is j x = true) q2 => Bool.false_ne_true ((fresh z hz).symm.trans (kd.inj x j k q1 hkey ▸ q2)), hap⟩)
    have mm1 : ∀ i, (S i || decide (i = k)) = true ↔ ∃ z ∈ new.toList, kd.is i z.2 = true := fun i => by
      rw [Bool.or_eq_true, decide_eq_true_eq, hm i]
      constructor
      · rintro (⟨z, hz, q⟩ | h)
        · exact ⟨z, pc.mem_iff.mpr (List.mem_cons_of_mem _ hz), q⟩
        · exact ⟨(kd.hash k, x), pc.mem_iff.mpr List.mem_cons_self, by rw [h]; exact hkey⟩
      · rintro ⟨z, hz, q⟩
        rcases List.mem_cons.mp (pc.mem_iff.mp hz) with e | e
        · rw [e] at q
          exact .inr (kd.inj x i k q hkey)
        · exact .inl ⟨z, e, q⟩
    have sz1 : new.size = n + 1 := by
      rw [← Array.length_toList, pc.length_eq, List.length_cons, Array.length_toList, hn]
    have hb1 : new.size < scanBound := by rw [sz1]; exact room
    have led1 : w.params.followText "set-order" = true ∨ t1.led = true := hl.imp id fun z => by rw [p4]; exact z
    have fin : ∀ h' b, Heap.SameBut a s.heap h' → SetK kd h' a (fun j => S j || decide (j = k)) new.size → Q b { s with heap := h' } := fun h' b sb r => by
      refine hQ h' b sb ?_
      rw [hSk, if_neg Bool.false_ne_true, ← sz1]
      exact r
    have quiet : ∀ (b : Bool) {s1 : Shared} {Q' : Unit → Shared → Prop}, Q' () s1 → wpAny (model P w) A (match b with | true => rule "set.scan.the-table-gave-way" | false => pure ()) Q' E s1 := fun b s1 Q' q => by
      cases b
      · exact wpAny_pure q
      · exact wpAny_rule q
    refine wpAny_bind (quiet _ ?_)
    split
    · refine wpAny_bind ?_
      rw [hashByValue_scannable 8 hsc]
      refine wpAny_pure (setK_tail ?_ ho hx hd el1 ap1 mm1 hb1 ?_ ?_ ?_ ?_)
      · intro b s1 Q' q
        cases b <;> first | exact wpAny_pure q | exact wpAny_rule q
      · first | (split <;> first | exact p2 | exact SetTable.fits_plain_off p2) | exact p2
      · first | (split <;> exact p3) | exact p3
      · first | (split <;> exact led1) | exact led1
      · intro h' sb r
        exact wpAny_pure (fin h' _ sb r)
    · refine wpAny_bind (wpAny_pure ?_)
      simp only [↓reduceIte]
      refine setK_tail ?_ ho hx hd el1 ap1 mm1 hb1 p2 p3 led1 ?_
      · intro b s1 Q' q
        cases b <;> first | exact wpAny_pure q | exact wpAny_rule q
      · intro h' sb r
        exact wpAny_pure (fin h' _ sb r)
end
end PL
namespace PL
open PySem PySem.Spec PyProof.Rows L2
section
variable {P : Program} {w : World} {κ : Type} [DecidableEq κ] {kd : PySem.KeyKind P w κ} {A : Around} {E : Value → Shared → Prop} {s : Shared}
theorem setK_bare {h : Heap} {a : Addr} {ks : List κ} (ho : h.get? a = some { cls := .type "set", dict := none, data := .set #[] 0 (.fresh 0 0 (!w.params.followText "set-order")) }) : SetK kd h a (fun j => decide (j ∈ ks.take 0)) 0 := by
  refine ⟨_, #[], 0, _, ho, ⟨rfl, rfl, rfl⟩, rfl, (fun z hz => by simp at hz), List.Pairwise.nil, (fun k => by simp), (by decide), (by rfl), rfl, List.Pairwise.nil, ?_⟩
  cases q : w.params.followText "set-order" with
  | true => exact .inl rfl
  | false => exact .inr rfl
theorem setK_loop {I : Addr} {fp wr : List Addr} {G : Array GenState → Array GenState → Prop} {n : Nat} {Pv : Nat → Value → Prop} {St : Nat → Shared → Prop} {R : Result → Shared → Prop}
    (W : WalksS P w A.in1 I fp wr G n Pv St) (S : Addr) (hSf : S ∉ fp) (ks : List κ) (hn : n = ks.length) (hb : ks.length + 1 < scanBound) (hval : ∀ i v, Pv i v → ∃ k, ks[i]? = some k ∧ kd.is k v = true ∧ v.scannable = true) :
    ∀ (m i : Nat) (s : Shared), n - i = m → i ≤ n → St i s → (∃ c, c ≤ i ∧ SetK kd s.heap S (fun j => decide (j ∈ ks.take i)) c) →
      (∀ s' c, Moved (S :: wr) G s s' → c ≤ n → SetK kd s'.heap S (fun j => decide (j ∈ ks)) c → R (.ok (.ret .none)) s') →
      codeAny (model P w) A (.builtin "set.update.loop" ⟨[.ref S, .ref I], []⟩) R s := by
  have out : S ∉ wr := fun h => hSf (W.sub _ h)
  have wide : ∀ b ∈ wr, b ∈ S :: wr := fun b hb => List.mem_cons_of_mem _ hb
  intro m
  induction m with
  | zero =>
    intro i s hm hi hst ⟨c, hc, hS⟩ hR
    obtain rfl : i = n := by omega
    refine codeAny_builtin F.entry_set_update_loop ?_
    rw [Around.under_plainId F.plain_set_update_loop _]
    refine wpAny_bind (W.done s _ _ hst fun s' mv => ?_)
    have whole : ks.take i = ks := List.take_of_length_le (by omega)
    rw [whole] at hS
    exact wpAny_pure (hR s' c (mv.mono wide) hc (hS.keep fun o q => mv.heap S o out q))
  | succ m ih =>
    intro i s hm hi hst ⟨c, hc, hS⟩ hR
    have lt : i < n := by omega
    refine codeAny_builtin F.entry_set_update_loop ?_
    rw [Around.under_plainId F.plain_set_update_loop _]
    refine wpAny_bind (W.item i s _ _ lt hst fun v s' hv hst' mv => ?_)
    obtain ⟨k, hk, his, hsc⟩ := hval i v hv
    have hS' : SetK kd s'.heap S (fun j => decide (j ∈ ks.take i)) c := hS.keep fun o q => mv.heap S o out q
    refine wpAny_bind (wpAny_holding ?_)
    unfold setAdd
    refine wpAny_holding (wpAny_bind (kd.pyHash (k := k) his ?_))
    refine setK_add (s := { s' with toks := s'.toks + 1 }) his hsc hS' (by omega) fun h' b sb hS2 => ?_
    have hS3 : SetK kd h' S (fun j => decide (j ∈ ks.take (i + 1))) (if decide (k ∈ ks.take i) = true then c else c + 1) := hS2.eqv fun j => by
      rw [List.take_add_one, hk]
      simp [List.mem_append]
    have hc3 : (if decide (k ∈ ks.take i) = true then c else c + 1) ≤ i + 1 := by
      split <;> omega
    refine wpAny_pure ⟨plainId_quiet F.plain_set_update_loop _, ih (i + 1) _ (by omega) lt (W.frame _ s' _ _ hst' (Nat.le_succ _) fun b hb o q => ?_) ⟨_, hc3, hS3⟩ fun s'' c2 mv2 hc2 hS4 => ?_⟩
    · rw [sb.2 b (fun z : b = S => hSf (z ▸ hb))]
      exact q
    · refine hR s'' c2 (Moved.trans W.gtrans ((mv.mono wide).then_heap (Nat.le_succ _) fun b o hb q => ?_) mv2) hc2 hS4
      rw [sb.2 b (fun z : b = S => hb (z ▸ List.mem_cons_self))]
      exact q

/-- an iterable that set(..) takes: a list, a tuple -/
def Seq2 (h : Heap) (l : Addr) (its : Array Value) : Prop := h.IsList l its ∨ h.IsTuple l its
/-- what a set just made holds -/
abbrev bareSet (w : World) : Obj := { cls := .type "set", dict := none, data := .set #[] 0 (.fresh 0 0 (!w.params.followText "set-order")) }
theorem init_setK {a l : Addr} {its : Array Value} (ks : List κ) (hS : s.heap.get? a = some (bareSet w)) (hne : l ≠ a) (hl : Seq2 s.heap l its) (hh : A.handled = none) (hlen : its.size = ks.length) (hb : ks.length + 1 < scanBound)
    (hval : ∀ (i : Nat) (v : Value), its[i]? = some v → ∃ k, ks[i]? = some k ∧ kd.is k v = true ∧ v.scannable = true) {R : Result → Shared → Prop}
    (hR : ∀ h' tk c, SetK kd h' a (fun j => decide (j ∈ ks)) c → c ≤ ks.length → (∀ b o, b ≠ a → s.heap.get? b = some o → h'.get? b = some o) → R (.ok (.ret .none)) { s with heap := h', toks := tk }) :
    codeAny (model P w) A (.call (.builtin "set.__init__") ⟨[.ref a, .ref l], []⟩) R s := by
  have hT : s.TypeIs (.ref a) "set" := ⟨_, hS, rfl⟩
  have al : a < s.heap.objs.size := Heap.lt_size hS
  have n1 := F.sub_tuple_set
  have n2 := F.sub_tuple_frozenset
  have n3 := F.sub_list_set
  have n4 := F.sub_list_frozenset
  have n5 : (Value.type "tuple" == Value.type "dict") = false := by decide
  have n6 : (Value.type "list" == Value.type "dict") = false := by decide
  have hh3 : A.in1.in1.handled = none := by simp [hh]
  have walk : ∀ (A' : Around) (it : Obj) (tk0 : Nat) (St : Nat → Shared → Prop), l < s.heap.objs.size → (∀ b o, s.heap.get? b = some o → (s.heap.push it).get? b = some o) →
      WalksS P w A'.in1 s.heap.objs.size [s.heap.objs.size, l] [s.heap.objs.size] (fun g g' => g' = g) its.size (fun i v => its[i]? = some v) St → St 0 { s with heap := s.heap.push it, toks := tk0 } →
      ∀ (R : Result → Shared → Prop), (∀ h' tk c, SetK kd h' a (fun j => decide (j ∈ ks)) c → c ≤ ks.length → (∀ b o, b ≠ a → s.heap.get? b = some o → h'.get? b = some o) → R (.ok (.ret .none)) { s with heap := h', toks := tk }) →
      codeAny (model P w) A' (.builtin "set.update.loop" ⟨[.ref a, .ref s.heap.objs.size], []⟩) R { s with heap := s.heap.push it, toks := tk0 } := fun A' it tk0 St hlt hk W h0 R hR => by
    have hSf : a ∉ [s.heap.objs.size, l] := by
      simp only [List.mem_cons, List.not_mem_nil, or_false, not_or]
      exact ⟨Nat.ne_of_lt al, Ne.symm hne⟩
    refine setK_loop W a hSf ks hlen hb hval (its.size - 0) 0 _ (by omega) (Nat.zero_le _) h0 ⟨0, Nat.le_refl 0, setK_bare (hk _ _ hS)⟩ fun s' c' mv hc' hS' => ?_
    obtain ⟨h', g2, d', tk', os'⟩ := s'
    obtain rfl : g2 = s.gens := mv.gens
    obtain rfl : d' = s.drawn := mv.drawn
    obtain rfl : os' = s.os := mv.os
    refine hR h' tk' c' hS' (by rw [hlen] at hc'; exact hc') fun b o hba q => ?_
    refine mv.heap b o ?_ (hk _ _ q)
    simp only [List.mem_cons, List.not_mem_nil, or_false, not_or]
    exact ⟨hba, Nat.ne_of_lt (Heap.lt_size q)⟩
  refine codeAny_call_builtin F.called_set.init.plain F.entry_set_init (check_set_init_1 hT ?_)
  rcases hl with hl | hl
  · have hl1 := hl
    obtain ⟨ol, hol, hcl, nl, hdl⟩ := hl
    obtain ⟨ocls, odict, odata, oslots⟩ := ol
    simp only at hcl hdl
    subst hcl hdl
    unfold Builtin.«set.__init__» noKeywords Builtin.Frozenset.updateFrom
    have W := walk A.in1
    obtain ⟨hp, g, d, tk, os⟩ := s
    dsimp only at hl1 hol hS al W hT
    generalize hPI : pyIter = PI
    wp_walk
    subst hPI
    refine wpAny_pyIter_list hl1 ?_
    refine wpAny_bind (wpAny_runValue ?_)
    refine W _ _ _ (Heap.lt_size hol) (fun b o q => Heap.get?_push_of_some _ q) ((Walks.list hh3 _ l (Nat.ne_of_lt (Heap.lt_size hol)) its).toS) ⟨⟨_, Heap.get?_push_size _ rfl, rfl, rfl⟩, (hl1.push _)⟩ _ fun h' tk c' k1 k2 k3 => ?_
    refine wpAny_pure ?_
    show wpAny _ _ (ret Value.none) _ _ _
    exact wpAny_pure (hR h' tk c' k1 k2 k3)
  · have hl1 := hl
    obtain ⟨ol, hol, hcl, nl, hdl⟩ := hl
    obtain ⟨ocls, odict, odata, oslots⟩ := ol
    simp only at hcl hdl
    subst hcl hdl
    unfold Builtin.«set.__init__» noKeywords Builtin.Frozenset.updateFrom
    have W := walk A.in1
    obtain ⟨hp, g, d, tk, os⟩ := s
    dsimp only at hl1 hol hS al W hT
    generalize hPI : pyIter = PI
    wp_walk
    subst hPI
    refine wpAny_pyIter_tuple hl1 ?_
    refine wpAny_bind (wpAny_runValue ?_)
    refine W _ _ _ (Heap.lt_size hol) (fun b o q => Heap.get?_push_of_some _ q) ((Walks.tuple hh3 _ l (Nat.ne_of_lt (Heap.lt_size hol)) its).toS) ⟨⟨_, Heap.get?_push_size _ rfl, rfl, rfl⟩, (hl1.push _)⟩ _ fun h' tk c' k1 k2 k3 => ?_
    refine wpAny_pure ?_
    show wpAny _ _ (ret Value.none) _ _ _
    exact wpAny_pure (hR h' tk c' k1 k2 k3)
end
end PL
namespace PL
open PySem PySem.Spec PyProof.Rows L2
section
variable {P : Program} {w : World} {κ : Type} [DecidableEq κ] {kd : PySem.KeyKind P w κ} {A : Around} {E : Value → Shared → Prop} {s : Shared}
theorem call_setK {l : Addr} {its : Array Value} (ks : List κ) {Q : Value → Shared → Prop} (hh : A.handled = none) (hl : Seq2 s.heap l its) (hlen : its.size = ks.length) (hb : ks.length + 1 < scanBound)
    (hval : ∀ (i : Nat) (v : Value), its[i]? = some v → ∃ k, ks[i]? = some k ∧ kd.is k v = true ∧ v.scannable = true)
    (h : ∀ (h' : Heap) (tk c : Nat), SetK kd h' s.heap.objs.size (fun j => decide (j ∈ ks)) c → c ≤ ks.length → (∀ b o, s.heap.get? b = some o → h'.get? b = some o) → Q (.ref s.heap.objs.size) { s with heap := h', toks := tk }) :
    wpAny (model P w) A (call (.type "set") [.ref l]) Q E s := by
  obtain ⟨c, tl, hmro⟩ := F.called_set.mro
  have m1 := F.called_set.made
  have m2 := F.called_set.sub
  refine wpAny_call (codeAny_of_tree ?_)
  show wpAny _ _ (callAny (.type "set") _) _ _ _
  refine wpAny_pure ⟨Code.quiet_builtin _ (by decide +kernel), codeAny_builtin F.entry_type_call ?_⟩
  rw [Around.under_plain (weight_type_call_type "set" [.ref l] []) rfl]
  have m3 := F.called_set.notType
  have m4 := F.called_set.canCreate
  have m5 := F.typeCall_set_1 (.ref l)
  repeat (any_goals (first | assumption | wp_step))
  have lt : l < s.heap.objs.size := by
    rcases hl with ⟨o, q, _⟩ | ⟨o, q, _⟩ <;> exact Heap.lt_size q
  have old : ∀ b o, s.heap.get? b = some o → (s.heap.push (bareSet w)).get? b = some o := fun b o q => Heap.get?_push_of_some _ q
  have hl' : Seq2 (s.heap.push (bareSet w)) l its := by
    rcases hl with ⟨o, q1, q2⟩ | ⟨o, q1, q2⟩
    · exact .inl ⟨o, old _ _ q1, q2⟩
    · exact .inr ⟨o, old _ _ q1, q2⟩
  refine codeAny_mono (code_set_led1 (.ref l) (E := E) (Q₁ := fun v s1 => v = .ref s.heap.objs.size ∧ s1 = { s with heap := s.heap.push (bareSet w) }) ⟨rfl, rfl⟩) fun r s1 hr => ?_
  cases r with
  | error e => exact hr
  | ok fl =>
    cases fl with
    | next => exact hr.elim
    | brk => exact hr.elim
    | cont => exact hr.elim
    | ret v =>
      obtain ⟨rfl, rfl⟩ := hr
      have hS : (s.heap.push (bareSet w)).get? s.heap.objs.size = some (bareSet w) := Heap.get?_push_size _ rfl
      have hT : Shared.TypeIs { s with heap := s.heap.push (bareSet w) } (.ref s.heap.objs.size) "set" := ⟨_, hS, rfl⟩
      have m6 := F.called_set.init.lookup
      have m7 := F.called_set.init.bind (.ref s.heap.objs.size)
      repeat (any_goals (first | assumption | wp_step))
      refine codeAny_mono (init_setK (s := { s with heap := s.heap.push (bareSet w) }) (R := wants (fun r s2 => r = .none ∧ ∃ h' tk c, s2 = { s with heap := h', toks := tk } ∧ SetK kd h' s.heap.objs.size (fun j => decide (j ∈ ks)) c ∧ c ≤ ks.length ∧
          (∀ b o, s.heap.get? b = some o → h'.get? b = some o)) E) ks hS (Nat.ne_of_lt lt) hl' (by simp [hh]) hlen hb hval fun h' tk c' k1 k2 k3 => ⟨rfl, h', tk, c', rfl, k1, k2, fun b o q => k3 b o (Nat.ne_of_lt (Heap.lt_size q)) (old _ _ q)⟩) fun r2 s2 hr2 => ?_
      cases r2 with
      | error e => exact hr2
      | ok fl2 =>
        cases fl2 with
        | next => exact hr2.elim
        | brk => exact hr2.elim
        | cont => exact hr2.elim
        | ret r =>
          obtain ⟨rfl, h', tk, c', rfl, k1, k2, k3⟩ := hr2
          repeat (any_goals (first | assumption | wp_step))
          exact h _ _ _ k1 k2 k3
end
end PL
/-! R4: sorted(set(xs)) of ints, of texts; sorted(xs) of data -/
namespace PL
open PySem PySem.Spec PyProof.Rows L2

/-- the members in order, once each -/
def ssort {κ : Type} [BEq κ] (le : κ → κ → Bool) (xs : List κ) : List κ := xs.eraseDups.mergeSort le
theorem nodup_eraseDups {κ : Type} [BEq κ] [LawfulBEq κ] : ∀ (n : Nat) (xs : List κ), xs.length ≤ n → xs.eraseDups.Nodup
  | _, [], _ => by simp
  | 0, _ :: _, h => by simp at h
  | n + 1, x :: xs, h => by
    rw [List.eraseDups_cons]
    refine List.nodup_cons.mpr ⟨fun m => ?_, nodup_eraseDups n _ (Nat.le_trans (List.length_filter_le _ _) (by simpa using h))⟩
    rw [List.mem_eraseDups, List.mem_filter] at m
    simpa using m.2
theorem ssort_uniq {κ : Type} [BEq κ] [LawfulBEq κ] {le : κ → κ → Bool} (tr : ∀ a b c, le a b = true → le b c = true → le a c = true) (tot : ∀ a b, (le a b || le b a) = true) (anti : ∀ a b, le a b = true → le b a = true → a = b)
    {ns xs : List κ} (nd : ns.Nodup) (hm : ∀ k, k ∈ ns ↔ k ∈ xs) : ns.mergeSort le = ssort le xs := by
  have p : ns.Perm xs.eraseDups := (List.perm_ext_iff_of_nodup nd (nodup_eraseDups _ xs (Nat.le_refl _))).mpr fun k => by rw [hm k, List.mem_eraseDups]
  refine List.Perm.eq_of_pairwise (le := fun a b => le a b = true) (fun a b _ _ h1 h2 => anti a b h1 h2) (List.pairwise_mergeSort tr tot _) (List.pairwise_mergeSort tr tot _) ?_
  exact (List.mergeSort_perm _ _).trans (p.trans (List.mergeSort_perm _ _).symm)
def leI (a b : Int) : Bool := decide (a ≤ b)
def leS (a b : Str) : Bool := decide (a.cps.toList ≤ b.cps.toList)
def ssetI (xs : List Int) : List Int := ssort leI xs
def ssetS (xs : List Str) : List Str := ssort leS xs
theorem leI_tr (a b c : Int) (h1 : leI a b = true) (h2 : leI b c = true) : leI a c = true := decide_eq_true (Int.le_trans (of_decide_eq_true h1) (of_decide_eq_true h2))
theorem leI_tot (a b : Int) : (leI a b || leI b a) = true := by
  unfold leI
  rcases Int.le_total a b with h | h <;> simp [h]
theorem leI_anti (a b : Int) (h1 : leI a b = true) (h2 : leI b a = true) : a = b := Int.le_antisymm (of_decide_eq_true h1) (of_decide_eq_true h2)
theorem leS_tr (a b c : Str) (h1 : leS a b = true) (h2 : leS b c = true) : leS a c = true := decide_eq_true (List.le_trans (of_decide_eq_true h1) (of_decide_eq_true h2))
theorem leS_tot (a b : Str) : (leS a b || leS b a) = true := by
  unfold leS
  rcases List.le_total a.cps.toList b.cps.toList with h | h <;> simp [h]
theorem leS_anti (a b : Str) (h1 : leS a b = true) (h2 : leS b a = true) : a = b := by
  have e := List.le_antisymm (of_decide_eq_true h1) (of_decide_eq_true h2)
  cases a
  cases b
  simpa using e

/-- the keys' kind, as values, as data -/
structure KT (P : Program) (w : World) {κ : Type} [DecidableEq κ] (kd : PySem.KeyKind P w κ) (mk : κ → V) (enc : κ → PyData) (le : κ → κ → Bool) : Prop where
  of_ : ∀ {k v}, RelV (mk k) v → kd.is k v = true
  to_ : ∀ {k v}, kd.is k v = true → RelV (mk k) v
  sc : ∀ {k v}, kd.is k v = true → v.scannable = true
  rd : ∀ {k v} (h : Heap), kd.is k v = true → Reads h v (enc k) []
  al : ∀ ks : List κ, PySem.W.AllAlike (ks.map enc)
  st : ∀ ks : List κ, PySem.W.Sortable (ks.map enc)
  ord : PySem.W.dataLe false enc = le
  dp : ∀ k, (enc k).depth = 0
  tr : ∀ a b c, le a b = true → le b c = true → le a c = true
  tot : ∀ a b, (le a b || le b a) = true
  anti : ∀ a b, le a b = true → le b a = true → a = b
theorem ktI (P : Program) (w : World) : KT P w (PySem.intKind P w) V.int PyData.int leI where
  of_ := fun ⟨t, e⟩ => by rw [e]; exact intKind_is P w _ t
  to_ := fun h => by
    obtain ⟨t, e⟩ := Value.isInt_shape h
    exact ⟨t, e⟩
  sc := fun h => by
    obtain ⟨t, e⟩ := Value.isInt_shape h
    rw [e] <;> rfl
  rd := fun hp h => by
    obtain ⟨t, e⟩ := Value.isInt_shape h
    rw [e]
    exact .int _ _
  al := fun ks => .of fun a b => by simp [PySem.W.alike]
  st := fun ks => .others fun a => ⟨(fun e => nomatch e), (fun xs e => nomatch e)⟩
  ord := PySem.W.dataLe_int id
  dp := fun k => rfl
  tr := leI_tr
  tot := leI_tot
  anti := leI_anti
theorem ktS (P : Program) (w : World) : KT P w (PySem.strKind P w) V.str PyData.str leS where
  of_ := fun ⟨t, e⟩ => by rw [e]; exact strKind_is P w _ t
  to_ := fun h => by
    obtain ⟨t, e⟩ := Value.isStrOf_shape h
    exact ⟨t, e⟩
  sc := fun h => by
    obtain ⟨t, e⟩ := Value.isStrOf_shape h
    rw [e] <;> rfl
  rd := fun hp h => by
    obtain ⟨t, e⟩ := Value.isStrOf_shape h
    rw [e]
    exact .str _ _
  al := fun ks => .of fun a b => by simp [PySem.W.alike]
  st := fun ks => .others fun a => ⟨(fun e => nomatch e), (fun xs e => nomatch e)⟩
  ord := PySem.W.dataLe_str id
  dp := fun k => rfl
  tr := leS_tr
  tot := leS_tot
  anti := leS_anti
section
variable {X : Cx} {κ : Type} [DecidableEq κ] {kd : PySem.KeyKind X.prog X.w κ} {mk : κ → V} {enc : κ → PyData} {le : κ → κ → Bool}
def SKO {P : Program} {w : World} (kd : PySem.KeyKind P w κ) (a : Addr) (S : κ → Bool) (n : Nat) : HO := .ext fun h => SetK kd h a S n
theorem vals_map_at {mk : κ → V} : ∀ {ks : List κ} {its : List Value} {i : Nat} {v : Value}, Vals (ks.map mk) its → its[i]? = some v → ∃ k, ks[i]? = some k ∧ RelV (mk k) v
  | [], _, _, _, .nil, h => by simp at h
  | k :: ks, _, 0, v, .cons r _, h => by
    simp at h
    subst h
    exact ⟨k, rfl, r⟩
  | k :: ks, _, i + 1, v, .cons _ q, h => by
    obtain ⟨k', h1, h2⟩ := vals_map_at (i := i) q (by simpa using h)
    exact ⟨k', by simpa using h1, h2⟩
def rSetK (K : PySem.W.Frag) {P : Program} {w : World} (kd : PySem.KeyKind P w κ) (mk : κ → V) : List V → Hp → VK → Prop := fun vs H Q => ∃ (a : Addr) (ks : List κ), vs = [V.ref a] ∧ (SqL K H a (ks.map mk) ∨ SqT K H a (ks.map mk)) ∧ ks.length < 64 ∧
  ∀ p c, H p = none → c ≤ ks.length → Q (.ref p) (upd H p (SKO kd p (fun j => decide (j ∈ ks)) c))
theorem cr_setK (hc : X.calm = true) (kt : KT X.prog X.w kd mk enc le) : CallR X (.type "set") (rSetK X.K kd mk) := by
  intro pins s σ H vs us Q I r h
  obtain ⟨a, ks, rfl, hs, h64, q⟩ := h
  rw [Vals.ref1 r]
  have sq : ∃ its : List Value, Vals (ks.map mk) its ∧ Seq2 s.heap a its.toArray := by
    rcases hs with hs | hs
    · obtain ⟨its, rv, hl, _⟩ := I.list hs
      exact ⟨its, rv, .inl hl.isList⟩
    · obtain ⟨its, rv, ⟨o, ho, hc', n, hd⟩, _⟩ := I.tuple hs
      exact ⟨its, rv, .inr ⟨o, ho, hc', n, hd⟩⟩
  obtain ⟨its, rv, hl⟩ := sq
  have hz : its.toArray.size = ks.length := by
    rw [List.size_toArray, ← rv.length, List.length_map]
  refine call_setK (kd := kd) ks (I.ok.hd hc) hl hz (by unfold scanBound; omega) (fun i v hv => ?_) fun h' tk c R hcl k => ?_
  · obtain ⟨k, h1, h2⟩ := vals_map_at rv (by simpa using hv)
    have h3 := kt.of_ h2
    exact ⟨k, h1, h3, kt.sc h3⟩
  · have hn : H s.heap.objs.size = none := I.hok.fresh (Nat.le_refl _)
    have J : Inv X pins σ (upd H s.heap.objs.size (SKO kd s.heap.objs.size (fun j => decide (j ∈ ks)) c)) { s with heap := h', toks := tk } := I.laid k (Nat.le_refl _) (by
      have ⟨o, _, _, _, ho, _⟩ := R
      exact ⟨R, ⟨o, ho⟩, fun h1 h2 p q => SetK.keep p q⟩)
    exact ⟨.ref s.heap.objs.size, _, J, rfl, q _ c hn hcl⟩
/-- the keys of entries -/
theorem keys_of {P : Program} {w : World} {kd : PySem.KeyKind P w κ} : ∀ {l : List (Int × Value)}, ElemsOf kd l → Apart kd l → ∃ ks : List κ, PySem.W.EachIs (fun v k => kd.is k v = true) (l.map (·.2)) ks ∧ ks.Nodup ∧ ∀ k, k ∈ ks ↔ ∃ z ∈ l, kd.is k z.2 = true
  | [], _, _ => ⟨[], .nil, List.nodup_nil, fun k => by simp⟩
  | z :: l, h, ap => by
    obtain ⟨a1, a2⟩ := List.pairwise_cons.mp ap
    obtain ⟨ks, h1, h2, h3⟩ := keys_of (l := l) (fun y hy => h y (List.mem_cons_of_mem _ hy)) a2
    obtain ⟨⟨k, hk, _⟩, _⟩ := h z List.mem_cons_self
    refine ⟨k :: ks, .cons hk h1, List.nodup_cons.mpr ⟨fun m => ?_, h2⟩, fun j => ?_⟩
    · obtain ⟨y, hy, q⟩ := (h3 k).mp m
      exact a1 y hy k hk q
    · rw [List.mem_cons, h3 j]
      constructor
      · rintro (e | ⟨y, hy, q⟩)
        · exact ⟨z, List.mem_cons_self, by rw [e]; exact hk⟩
        · exact ⟨y, List.mem_cons_of_mem _ hy, q⟩
      · rintro ⟨y, hy, q⟩
        rcases List.mem_cons.mp hy with e | e
        · rw [e] at q
          exact .inl (kd.inj _ _ _ q hk)
        · exact .inr ⟨y, e, q⟩
theorem each_len {α β : Type} {R : α → β → Prop} {as : List α} {bs : List β} (h : PySem.W.EachIs R as bs) : as.length = bs.length := h.length
theorem each_perm {α β : Type} {R : α → β → Prop} {as as' : List α} (p : as'.Perm as) : ∀ {bs : List β}, PySem.W.EachIs R as bs → ∃ bs', bs'.Perm bs ∧ PySem.W.EachIs R as' bs' := by
  induction p with
  | nil => exact fun {bs} h => ⟨bs, .refl _, h⟩
  | cons x _ ih =>
    intro bs h
    cases h with
    | cons h1 h2 =>
      obtain ⟨bs', q1, q2⟩ := ih h2
      exact ⟨_ :: bs', q1.cons _, .cons h1 q2⟩
  | swap x y l =>
    intro bs h
    cases h with
    | cons h1 h2 =>
      cases h2 with
      | cons h3 h4 => exact ⟨_, .swap _ _ _, .cons h3 (.cons h1 h4)⟩
  | trans _ _ ih1 ih2 =>
    intro bs h
    obtain ⟨b1, q1, e1⟩ := ih2 h
    obtain ⟨b2, q2, e2⟩ := ih1 e1
    exact ⟨b2, q2.trans q1, e2⟩
def rSortedK (mk : κ → V) (le : κ → κ → Bool) {P : Program} {w : World} (kd : PySem.KeyKind P w κ) : List V → Hp → VK → Prop := fun vs H Q => ∃ (a : Addr) (ks : List κ) (n : Nat), vs = [V.ref a] ∧ H a = some (SKO kd a (fun j => decide (j ∈ ks)) n) ∧ n < 64 ∧
  ∀ p, H p = none → Q (.ref p) (upd H p (.lst ((ssort le ks).map mk)))
theorem vals_each {P : Program} {w : World} {kd : PySem.KeyKind P w κ} {mk : κ → V} (to_ : ∀ {k v}, kd.is k v = true → RelV (mk k) v) : ∀ {ks : List κ} {its : List Value}, PySem.W.EachIs (fun v k => kd.is k v = true) its ks → Vals (ks.map mk) its
  | _, _, .nil => .nil
  | _, _, .cons h t => .cons (to_ h) (vals_each to_ t)
theorem cr_sortedK (hc : X.calm = true) (hu : X.A.units + 64 < cLine) (kt : KT X.prog X.w kd mk enc le) : CallR X (.builtin "sorted") (rSortedK mk le kd) := by
  intro pins s σ H vs us Q I r h
  obtain ⟨a, ks, n, rfl, ha, h64, q⟩ := h
  have R : SetK kd s.heap a (fun j => decide (j ∈ ks)) n := (show ObjOk X.prog X.w H s.heap a (SKO kd a (fun j => decide (j ∈ ks)) n) from I.hok a _ ha).1
  rw [Vals.ref1 r]
  obtain ⟨ob, its, ep, tb, ho, hx, hd, hel, hap, hm, hb, hf, hn, hr, hl⟩ := R
  obtain ⟨k0, e0, nd0, m0⟩ := keys_of hel hap
  have hh : X.A.in1.handled = none := I.ok.hd hc
  refine Calls.call_function_entry kind_sorted plain_sorted entry_sorted (args_sorted1 _) ?_
  unfold Builtin.«sorted»
  refine wpAny_bind (m := checkCount "sorted" 1 1 _) (wpAny_pure ?_)
  refine wpAny_bind (collect_set (A := X.A.in1) hh ⟨ob, ho, hx.1, hd⟩ hf hb hr hl fun s1 out k1 hz g1 o1 pm => ?_)
  obtain ⟨k2, p2, e2⟩ := each_perm pm e0
  have len : out.length = n := by
    rw [pm.length_eq, List.length_map, Array.length_toList]
    exact hn
  refine wpAny_bind (wpAny_newList ?_ (by rw [len, sizeLine_eq]; omega))
  have hoL : (s1.heap.push (seqObj "list" out.toArray 0)).get? s1.heap.objs.size = some (seqObj "list" out.toArray 0) := Heap.get?_push_size _ rfl
  refine wpAny_bind (wpAny_holding ?_)
  refine PySem.W.list_sort_data (R := fun v k => kd.is k v = true) (enc := enc) (bs := k2) (s := { s1 with heap := s1.heap.push (seqObj "list" out.toArray 0) }) hoL e2 (e2.mono fun v k h => ⟨[], kt.rd _ h, by simp⟩) (kt.al _) (kt.st _) (by rw [← each_len e2, len, sizeLine_eq]; omega)
    (fun k _ => by rw [kt.dp]; show X.A.units + 1 + 1 + 0 < cLine; omega) fun res hl2 e3 => ?_
  rw [kt.ord] at e3
  have fin : k2.mergeSort le = ssort le ks := ssort_uniq kt.tr kt.tot kt.anti (p2.nodup_iff.mpr nd0) fun k => by
    rw [p2.mem_iff, m0 k, ← hm k, decide_eq_true_eq]
  rw [fin] at e3
  obtain ⟨c, hcc⟩ := sortedHeap_at (vs := out) (out := List.toArray res) hoL
  have keep : ∀ b o, s.heap.get? b = some o → (sortedHeap (s1.heap.push (seqObj "list" out.toArray 0)) s1.heap.objs.size out (List.toArray res)).get? b = some o := fun b o e => by
    have e' := k1 b o e
    have lt := Heap.lt_size e'
    rw [sortedHeap_old (Nat.ne_of_lt lt) (by rw [size_push']; exact Nat.lt_succ_of_lt lt)]
    exact Heap.get?_push_of_some _ e'
  have hp : H s1.heap.objs.size = none := I.hok.fresh hz
  have lenR : ((ssort le ks).map mk).length ≤ sizeLine := by
    rw [List.length_map, ← each_len e3, hl2, ← each_len e2, len, sizeLine_eq]
    omega
  have J : Inv X pins σ (upd H s1.heap.objs.size (.lst ((ssort le ks).map mk))) { s with heap := sortedHeap (s1.heap.push (seqObj "list" out.toArray 0)) s1.heap.objs.size out (List.toArray res), gens := s1.gens, drawn := s1.drawn, toks := s1.toks } :=
    I.call (ch := []) (Un.laid keep hz hp) (I.hok.laid keep hz ⟨lenR, res, c, vals_each kt.to_ e3, hcc⟩) (by rw [g1]; exact I.bare) (fun _ z => nomatch z)
  have e : { s1 with heap := sortedHeap (s1.heap.push (seqObj "list" out.toArray 0)) s1.heap.objs.size out (List.toArray res) } = { s with heap := sortedHeap (s1.heap.push (seqObj "list" out.toArray 0)) s1.heap.objs.size out (List.toArray res), gens := s1.gens, drawn := s1.drawn, toks := s1.toks } := by
    cases s1
    cases s
    cases o1
    rfl
  refine wpAny_pure ⟨_, rfl, ?_⟩
  rw [e]
  exact ⟨.ref s1.heap.objs.size, _, J, rfl, q _ hp⟩

/-! ### as rules over data -/
variable {T : CA} {ρ : List Sl} {a : Expr} {pos p p2 pos2 : Pos}
theorem pe_sset (hc : X.calm = true) (hu : X.A.units + 64 < cLine) (kt : KT X.prog X.w kd mk enc le) (h1 : X.mg "sorted" = none) (h2 : X.mg "set" = none) {t : TE} (ha : PE X a t) (hg1 : Gl X "sorted" := by rfl) (hg2 : Gl X "set" := by rfl)
    (he : starEach [a] X.env = (false, eval a X.env) :: starEach [] X.env := by rfl) (he2 : starEach [.Call (.Name "set" p2) [a] [] pos2] X.env = (false, eval (.Call (.Name "set" p2) [a] [] pos2) X.env) :: starEach [] X.env := by rfl) :
    PE X (.Call (.Name "sorted" p) [.Call (.Name "set" p2) [a] [] pos2] [] pos) (tCB (rSortedK mk le kd) (tCons (tCB (rSetK X.K kd mk) (tCons t tNil)) tNil)) :=
  pe_callB (cr_sortedK hc hu kt) hg1 h1 (by decide +kernel) (pa_cons (pe_callTy (cr_setK hc kt) hg2 h2 (by decide +kernel) (pa_cons ha pa_nil he) (by decide) (by decide) he rfl) pa_nil he2) (by decide) (by decide) he2 rfl
theorem en_sset {xs : List κ} {ec : κ → D} {da : D} (kt : KT X.prog X.w kd mk enc le) (hc : X.calm = true) (hu : X.A.units + 64 < cLine) (h1 : X.mg "sorted" = none) (h2 : X.mg "set" = none) (hrep : ∀ {B : Hp} {ks : List κ} {vs : List V}, Reps X.K T B (ks.map ec) vs → vs = ks.map mk)
    (hrep2 : ∀ {B : Hp} {ks ks2 : List κ} {vs : List V}, Reps X.K T B (ks.map ec) vs → (∀ k ∈ ks2, k ∈ ks) → Reps X.K T B (ks2.map ec) (ks2.map mk))
    (ha : EvE T X a ρ da) (hd : da = .lst (xs.map ec) ∨ da = .tup (xs.map ec)) (h64 : xs.length < 64) (hg1 : Gl X "sorted" := by rfl) (hg2 : Gl X "set" := by rfl)
    (he : starEach [a] X.env = (false, eval a X.env) :: starEach [] X.env := by rfl) (he2 : starEach [.Call (.Name "set" p2) [a] [] pos2] X.env = (false, eval (.Call (.Name "set" p2) [a] [] pos2) X.env) :: starEach [] X.env := by rfl) :
    EvN T X (.Call (.Name "sorted" p) [.Call (.Name "set" p2) [a] [] pos2] [] pos) ρ ((ssort le xs).map ec) := fun _ _ _ _ hρ Q q =>
  we (pe_sset hc hu kt h1 h2 pe_we hg1 hg2 he he2) (ha _ _ _ _ hρ _ fun v B1 H1 g1 r1 => by
    have sub : ∀ k ∈ ssort le xs, k ∈ xs := fun k hk => List.mem_eraseDups.mp ((List.mergeSort_perm _ _).mem_iff.mp hk)
    have main : ∀ (l : Addr) (vs : List V), v = .ref l → (SqL X.K H1 l vs ∨ SqT X.K H1 l vs) → Reps X.K T B1 (xs.map ec) vs → rSetK X.K kd mk [v] H1 (fun y H2 => rSortedK mk le kd [y] H2 Q) := fun l vs ev hs rr => by
      have evs := hrep rr
      subst evs ev
      refine ⟨l, xs, rfl, hs, h64, fun p c hp hcl => ⟨p, xs, c, rfl, upd_same, by omega, fun p2 hp2 => ?_⟩⟩
      have g2 := Gr.own (o := SKO kd p (fun j => decide (j ∈ xs)) c) g1.s hp
      refine q p2 _ B1 _ ((g1.trans g2).trans (.own g2.s hp2)) (g1.h.none (g2.h.none hp2)) (g2.s.none hp2) upd_same (hrep2 rr sub)
    rcases hd with hd | hd
    · subst hd
      cases r1 with
      | lst e1 e2 => exact main _ _ rfl (.inl (.of (g1.s _ _ e1))) e2
    · subst hd
      cases r1 with
      | tup e1 e2 => exact main _ _ rfl (.inr (exT g1.s e1)) e2)
end
section
variable {T : CA} {X : Cx} {ρ : List Sl} {a : Expr} {pos p p2 pos2 : Pos} {da : D}
theorem en_ssetI {xs : List Int} (hc : X.calm = true) (hu : X.A.units + 64 < cLine) (h1 : X.mg "sorted" = none) (h2 : X.mg "set" = none) (ha : EvE T X a ρ da) (hd : da = .lst (xs.map D.int) ∨ da = .tup (xs.map D.int)) (h64 : xs.length < 64) (hg1 : Gl X "sorted" := by rfl) (hg2 : Gl X "set" := by rfl)
    (he : starEach [a] X.env = (false, eval a X.env) :: starEach [] X.env := by rfl) (he2 : starEach [.Call (.Name "set" p2) [a] [] pos2] X.env = (false, eval (.Call (.Name "set" p2) [a] [] pos2) X.env) :: starEach [] X.env := by rfl) :
    EvN T X (.Call (.Name "sorted" p) [.Call (.Name "set" p2) [a] [] pos2] [] pos) ρ ((ssetI xs).map D.int) := en_sset (ktI _ _) hc hu h1 h2 Reps.ints (fun _ _ => reps_ints _) ha hd h64 hg1 hg2 he he2
theorem en_ssetS {xs : List Str} (hc : X.calm = true) (hu : X.A.units + 64 < cLine) (h1 : X.mg "sorted" = none) (h2 : X.mg "set" = none) (ha : EvE T X a ρ da) (hd : da = .lst (xs.map D.str) ∨ da = .tup (xs.map D.str)) (h64 : xs.length < 64) (hg1 : Gl X "sorted" := by rfl) (hg2 : Gl X "set" := by rfl)
    (he : starEach [a] X.env = (false, eval a X.env) :: starEach [] X.env := by rfl) (he2 : starEach [.Call (.Name "set" p2) [a] [] pos2] X.env = (false, eval (.Call (.Name "set" p2) [a] [] pos2) X.env) :: starEach [] X.env := by rfl) :
    EvN T X (.Call (.Name "sorted" p) [.Call (.Name "set" p2) [a] [] pos2] [] pos) ρ ((ssetS xs).map D.str) := en_sset (ktS _ _) hc hu h1 h2 Reps.strs' (fun r h => reps_strs _ fun k hk => r.oks k (h k hk)) ha hd h64 hg1 hg2 he he2
end
end PL
/-! R5: more expressions -/
namespace PL
open PySem PySem.Spec PyProof.Rows L2
/-- a block's names, checked -/
def blkB (N : List Str) (sc scope : Scope) (own : List (Str × Nat)) : Bool := decide (scope.kind = .function) && ((scope.names.all fun y => decide (scope.names.lookup y.1 = some y.2)) && ((own.all fun p => decide (N[p.2]? = some p.1)) &&
  ((scope.names.all fun y => !decide (y.2 = .free) || (decide (sc.names.lookup y.1 = some .cell) || decide (sc.names.lookup y.1 = some .free))) && (scope.names.all fun y => !(decide (y.2 = .local) || decide (y.2 = .cell)) || ((own.map (·.1)).contains y.1 || !N.contains y.1)))))
theorem blk_of {N : List Str} {sc scope : Scope} {own : List (Str × Nat)} (h : blkB N sc scope own = true) : BlkOk N sc scope own := by
  unfold blkB at h
  simp only [Bool.and_eq_true] at h
  obtain ⟨h1, h2, h3, h4, h5⟩ := h
  refine ⟨of_decide_eq_true h1, fun y hy => of_decide_eq_true (List.all_eq_true.mp h2 y hy), fun p hp => of_decide_eq_true (List.all_eq_true.mp h3 p hp), fun y hy e => ?_, fun y hy e => ?_⟩
  · have q := List.all_eq_true.mp h4 y hy
    rw [decide_eq_true e] at q
    simp only [Bool.not_true, Bool.false_or, Bool.or_eq_true, decide_eq_true_eq] at q
    exact q
  · have q := List.all_eq_true.mp h5 y hy
    have e' : (decide (y.2 = .local) || decide (y.2 = .cell)) = true := by
      rcases e with e | e <;> simp [e]
    rw [e'] at q
    simp only [Bool.not_true, Bool.false_or, Bool.or_eq_true, Bool.not_eq_true', List.contains_iff_mem] at q
    rcases q with q | q
    · exact .inl q
    · exact .inr fun m => by
        rw [List.contains_iff_mem.mpr m] at q
        cases q
section
variable {T : CA} {X : Cx} {ρ : List Sl} {a b c e o : Expr} {es rest : List Expr} {d da db dc r : D} {ds : List D} {i j k : Int} {pos p p1 p2 apos : Pos} {z z2 : Bool}
/-! ### stars -/
theorem ea_star {xs : List D} (ha : EvE T X e ρ da) (hd : da = .lst xs ∨ da = .tup xs) (hr : EvA T X es ρ ds) (hs : starEach (.Starred e p :: es) X.env = (true, eval e X.env) :: starEach es X.env := by rfl) : EvA T X (.Starred e p :: es) ρ (xs ++ ds) := fun _ _ _ _ hρ _ q =>
  wa (StX.pa_star pe_we pa_wa hs) (ha _ _ _ _ hρ _ fun v B1 H1 g1 r1 => by
    rcases hd with hd | hd
    · subst hd
      cases r1 with
      | lst e1 e2 => exact ⟨_, _, rfl, .inr (.of (g1.s _ _ e1)), hr _ _ _ _ (hρ.gr g1) _ fun vs B2 H2 g2 r2 => q _ _ _ (g1.trans g2) ((e2.mono g2.b).append r2)⟩
    · subst hd
      cases r1 with
      | tup e1 e2 => exact ⟨_, _, rfl, .inl (exT g1.s e1), hr _ _ _ _ (hρ.gr g1) _ fun vs B2 H2 g2 r2 => q _ _ _ (g1.trans g2) ((e2.mono g2.b).append r2)⟩)

/-! ### built-ins -/
theorem ev_max3 (hc : X.calm = true) (hm : X.mg "max" = none) (ha : EvE T X a ρ (.int i)) (hb : EvE T X b ρ (.int j)) (h3 : EvE T X c ρ (.int k)) (hg : Gl X "max" := by rfl) (he : starEach [a, b, c] X.env = (false, eval a X.env) :: starEach [b, c] X.env := by rfl)
    (he2 : starEach [b, c] X.env = (false, eval b X.env) :: starEach [c] X.env := by rfl) (he3 : starEach [c] X.env = (false, eval c X.env) :: starEach [] X.env := by rfl) (hpl : (backTo pos (starEach [b, c] X.env)).any (·.1) = false := by rfl) : EvE T X (.Call (.Name "max" p) [a, b, c] [] pos) ρ (.int (max (max i j) k)) := by
  refine ev_callB (call_max3Nu hc) hm (by decide +kernel) (ea_cons ha (ea_cons hb (ea_cons h3 ea_nil he3) he2) he) (fun B H vs Q s r q => ?_) hg (by decide) (by decide) he hpl
  cases r with
  | cons r1 r2 =>
    cases r2 with
    | cons r2 r3 =>
      cases r3 with
      | cons r3 r4 =>
        cases r4
        cases r1
        cases r2
        cases r3
        refine ⟨_, _, _, .int (max (max i j) k), rfl, ?_, q _ _ _ (.refl s) (.int _)⟩
        have two : ∀ x y : Int, nuMax2 (.int x) (.int y) = some (.int (max x y)) := fun x y => by
          show some (if decide (x < y) = true then V.int y else V.int x) = _
          rw [Int.max_def]
          by_cases h : x < y
          · rw [if_pos (decide_eq_true h), if_pos (by omega)]
          · rw [if_neg (by simpa using h)]
            split
            · rw [show y = x by omega]
            · rfl
        show (nuMax2 (.int i) (.int j)).bind (fun m => nuMax2 m (.int k)) = _
        rw [two]
        exact two _ _
theorem op_leB : OpR X (compareOp .LtE) (fun x y H Q => ∃ u v, x = .bl u ∧ y = .bl v ∧ Q (.bl (!u || v)) H) := by
  intro pins s σ H x y v u Q I rx ry h
  obtain ⟨f, g, rfl, rfl, q⟩ := h
  cases rx
  cases ry
  refine le_bool ?_
  have e : decide (PyProof.Rows.b2i f ≤ PyProof.Rows.b2i g) = (!f || g) := by cases f <;> cases g <;> rfl
  rw [e]
  exact ⟨.bl _, H, I, rfl, q⟩
theorem et_leB (ha : EvE T X a ρ (.bl z)) (hb : EvE T X b ρ (.bl z2)) : EvT T X (.Compare a [.LtE] [b] pos) ρ (!z || z2) := et_cmp op_leB ha hb (nomark _) fun _ _ _ _ _ s hx hy q => by
  cases hx
  cases hy
  exact ⟨z, z2, rfl, rfl, q _ _ _ (.refl s) (.bl _)⟩
theorem ev_leB (ha : EvE T X a ρ (.bl z)) (hb : EvE T X b ρ (.bl z2)) : EvE T X (.Compare a [.LtE] [b] pos) ρ (.bl (!z || z2)) := ev_cmp op_leB ha hb (nomark _) fun _ _ _ _ _ s hx hy q => by
  cases hx
  cases hy
  exact ⟨z, z2, rfl, rfl, q _ _ _ (.refl s) (.bl _)⟩
/-! ### sorted(xs) of data -/
theorem Reps.memD {K : PySem.W.Frag} {B : Hp} : ∀ {ds : List D} {vs : List V}, Reps K T B ds vs → ∀ p ∈ vs.zip ds, Rep K T B p.2 p.1
  | _, _, .nil, p, h => by simp at h
  | _, _, .cons r q, p, h => by
    rcases List.mem_cons.mp (show p ∈ (_, _) :: List.zip _ _ from h) with e | h
    · rw [e]
      exact r
    · exact Reps.memD q p h
theorem reps_of {K : PySem.W.Frag} {B : Hp} : ∀ {ps : List (V × D)}, (∀ p ∈ ps, Rep K T B p.2 p.1) → Reps K T B (ps.map (·.2)) (ps.map (·.1))
  | [], _ => .nil
  | p :: ps, h => .cons (h p List.mem_cons_self) (reps_of fun q hq => h q (List.mem_cons_of_mem _ hq))
theorem Reps.zip2 {K : PySem.W.Frag} {B : Hp} : ∀ {ds : List D} {vs : List V}, Reps K T B ds vs → (vs.zip ds).map (·.2) = ds
  | _, _, .nil => rfl
  | _, _, .cons r q => congrArg (List.cons _) (Reps.zip2 q)
def leD (a b : D) : Bool := PySem.W.dataLe false D.py a b
def rSortD (T : CA) (K : PySem.W.Frag) : List V → Hp → VK → Prop := fun vs H Q => ∃ (a : Addr) (xs : List V) (B : Hp) (ds : List D), vs = [V.ref a] ∧ SqL K H a xs ∧ Ex B H ∧ Reps K T B ds xs ∧ (∀ d ∈ ds, d.pl = true) ∧ PySem.W.AllAlike (ds.map D.py) ∧ PySem.W.Sortable (ds.map D.py) ∧
  (∀ d ∈ ds, d.py.depth ≤ 30) ∧ ds.length ≤ 100000 ∧ ∀ p ys, H p = none → Reps K T B (ds.mergeSort leD) ys → Q (.ref p) (upd H p (.lst ys))
theorem each_zip {P : Program} {w : World} {pins : List (Addr × Obj)} {σ : L2.St} {H : Hp} {s : Shared} {B : Hp} (I : Inv X pins σ H s) (sb : Ex B H) : ∀ {ds : List D} {xs : List V} {us : List Value}, Reps X.K T B ds xs → Vals xs us → (∀ d ∈ ds, d.pl = true) →
    PySem.W.EachIs (fun u (q : V × D) => (RelV q.1 u ∧ ∃ as, Reads s.heap u q.2.py as)) us (xs.zip ds)
  | _, _, _, .nil, .nil, _ => .nil
  | _, _, _, .cons r q, .cons rv qv, h => .cons ⟨rv, Dp.reads I _ _ _ (r.dp sb (h _ List.mem_cons_self)) rv⟩ (each_zip (P := P) (w := w) I sb q qv fun d hd => h d (List.mem_cons_of_mem _ hd))
theorem each_vals {s : Shared} : ∀ {us : List Value} {ps : List (V × D)}, PySem.W.EachIs (fun u (q : V × D) => (RelV q.1 u ∧ ∃ as, Reads s.heap u q.2.py as)) us ps → Vals (ps.map (·.1)) us
  | _, _, .nil => .nil
  | _, _, .cons h t => .cons h.1 (each_vals t)
theorem cr_sortD (hc : X.calm = true) (hu : X.A.units + 64 < cLine) : CallR X (.builtin "sorted") (rSortD T X.K) := by
  intro pins s σ H vs us Q I r h
  obtain ⟨a, xs, B, ds, rfl, hs, sb, rr, hp, hal, hst, hdp, hz, q⟩ := h
  obtain ⟨its, rv, hl, _⟩ := I.list hs
  rw [Vals.ref1 r]
  have e0 := each_zip (P := X.prog) (w := X.w) I sb rr rv hp
  have em : (xs.zip ds).map (fun q : V × D => q.2.py) = ds.map D.py := by
    rw [show (fun q : V × D => q.2.py) = D.py ∘ (·.2) from rfl, ← List.map_map, rr.zip2]
  have lz : (xs.zip ds).length = ds.length := by rw [List.length_zip, rr.length]; omega
  refine PySem.W.sorted_data (enc := fun q : V × D => q.2.py) hl.isList e0 (e0.mono fun u q h => h.2) (by rw [em]; exact hal) (by rw [em]; exact hst) (by rw [lz, sizeLine_eq]; omega) (fun q hq => ?_) fun out hlen e1 => ?_
  · have h1 := hdp q.2 (List.of_mem_zip (a := q.1) (b := q.2) hq).2
    omega
  · obtain ⟨c, hcc⟩ := PyProof.Rows.sortedAll_at s.heap its (List.toArray out)
    have ev := each_vals e1
    have perm := List.mergeSort_perm (xs.zip ds) (PySem.W.dataLe false fun q : V × D => q.2.py)
    have hr : Reps X.K T B (ds.mergeSort leD) (((xs.zip ds).mergeSort (PySem.W.dataLe false fun q : V × D => q.2.py)).map (·.1)) := by
      have h1 := reps_of (T := T) (K := X.K) (B := B) (ps := (xs.zip ds).mergeSort (PySem.W.dataLe false fun q : V × D => q.2.py)) fun q hq => rr.memD q (perm.mem_iff.mp hq)
      have h2 : ((xs.zip ds).mergeSort (PySem.W.dataLe false fun q : V × D => q.2.py)).map (·.2) = ds.mergeSort leD := by
        refine (List.map_mergeSort (r := PySem.W.dataLe false fun q : V × D => q.2.py) (s := leD) (f := fun q : V × D => q.2) (fun a _ b _ => rfl)).trans ?_
        rw [rr.zip2]
      rw [h2] at h1
      exact h1
    have hlen2 : (((xs.zip ds).mergeSort (PySem.W.dataLe false fun q : V × D => q.2.py)).map (·.1)).length ≤ sizeLine := by
      rw [List.length_map, perm.length_eq, lz, sizeLine_eq]
      omega
    refine ⟨.ref _, upd H (s.heap.objs.size + 1) (.lst _), I.laid (t' := s.toks) (fun _ _ => PyProof.Rows.sortedAll_old) (Nat.le_succ _) ⟨hlen2, out, c, ev, hcc⟩, rfl, q _ _ (I.hok.fresh (Nat.le_succ _)) hr⟩
theorem en_sorted (hc : X.calm = true) (hu : X.A.units + 64 < cLine) (hm : X.mg "sorted" = none) (ha : EvE T X a ρ (.lst ds)) (hp : ∀ d ∈ ds, d.pl = true) (hal : PySem.W.AllAlike (ds.map D.py)) (hst : PySem.W.Sortable (ds.map D.py)) (hdp : ∀ d ∈ ds, d.py.depth ≤ 30) (hz : ds.length ≤ 100000) (hg : Gl X "sorted" := by rfl)
    (he : starEach [a] X.env = (false, eval a X.env) :: starEach [] X.env := by rfl) : EvN T X (.Call (.Name "sorted" p) [a] [] pos) ρ (ds.mergeSort leD) := fun _ _ _ _ hρ Q q =>
  we (pe_callB (cr_sortD (T := T) hc hu) hg hm (by decide +kernel) pa_wa (by decide) (by decide) he rfl) (ea_cons ha ea_nil he _ _ _ _ hρ _ fun _ B1 H1 g r => by
    cases r with
    | cons r1 r2 =>
      cases r2
      cases r1 with
      | lst h1 q1 => exact ⟨_, _, B1, ds, rfl, .of (g.s _ _ h1), g.s, q1, hp, hal, hst, hdp, hz, fun p ys hp2 hr => q _ _ _ _ (g.trans (.own g.s hp2)) (g.h.none hp2) (g.s.none hp2) upd_same hr⟩)

/-! ### an own list read; x or [..]; isinstance -/
theorem ev_ixO (n : Nat) {x : Str} {px : Pos} (hN : X.N[n]? = some x) (hv : Vis X.env.scope x) (hρn : ρ[n]? = some (.ow ds)) (hb : EvE T X b ρ (.int i)) (h : atI ds i = some d) (hs : PlainIx b := by exact fun _ _ => rfl) (hd : (x == ("__debug__" : Str)) = false := by decide) (hcd : (x == ("__classdict__" : Str)) = false := by decide) :
    EvE T X (.Subscript (.Name x px) b pos) ρ d := fun _ _ _ _ hρ Q q =>
  we (pe_ix ix_list (pe_var hN hv hd hcd) pe_we hs) (by
    obtain ⟨l, us, e1, e2, e3, e4, e5⟩ := hρ.at_ n _ hρn
    refine ⟨.ref l, e1, hb _ _ _ _ hρ _ fun _ _ _ g r => ?_⟩
    cases r
    obtain ⟨v, e, r⟩ := (e5.mono g.b).atI h
    exact ⟨_, _, _, v, rfl, rfl, .of (g.h _ _ e2), e, q _ _ _ g r⟩)
theorem ev_lenO (n : Nat) {x : Str} {px : Pos} (hm : X.mg "len" = none) (hN : X.N[n]? = some x) (hv : Vis X.env.scope x) (hρn : ρ[n]? = some (.ow ds)) (hg : Gl X "len" := by rfl) (he : starEach [.Name x px] X.env = (false, eval (.Name x px) X.env) :: starEach [] X.env := by rfl) (hd : (x == ("__debug__" : Str)) = false := by decide) (hcd : (x == ("__classdict__" : Str)) = false := by decide) :
    EvE T X (.Call (.Name "len" p) [.Name x px] [] pos) ρ (.int (ds.length : Int)) := fun _ _ _ _ hρ Q q =>
  we (pe_callB call_len_seq hg hm PySem.boot_len (pa_cons (pe_var hN hv hd hcd) pa_nil he) (by decide) (by decide) he rfl) (by
    obtain ⟨l, us, e1, e2, e3, e4, e5⟩ := hρ.at_ n _ hρn
    rw [e5.length] at q
    exact ⟨.ref l, e1, _, _, rfl, .inl (.of e2), q _ _ _ (.refl hρ.bh) (.int _)⟩)
/-- a list that is not empty, or .. -/
theorem ev_orL (ha : EvE T X a ρ (.lst ds)) (h2 : ds = [] → EvE T X (.BoolOp .Or (b :: rest) pos) ρ d) (h1 : ds ≠ [] → d = .lst ds) : EvE T X (.BoolOp .Or (a :: b :: rest) pos) ρ d := fun _ _ _ _ hρ Q q =>
  we (pe_orT pe_we pe_we) (ha _ _ _ _ hρ _ fun v B1 H1 g r => by
    have rr := r
    cases r with
    | @lst l vs _ e1 e2 =>
      refine ⟨!vs.isEmpty, .inl ⟨vs, .of (g.s _ _ e1), rfl⟩, ?_⟩
      cases e2 with
      | nil => exact iteF (h2 rfl _ _ _ _ (hρ.gr g) _ fun _ _ _ g2 r2 => q _ _ _ (g.trans g2) r2)
      | cons c1 c2 =>
        refine iteT (q _ _ _ g ?_)
        rw [h1 (List.cons_ne_nil _ _)]
        exact rr)
/-- the built-in type's name of a datum -/
def D.ty : D → Option String
  | .non => some "NoneType"
  | .bl _ => some "bool"
  | .int _ => some "int"
  | .str _ => some "str"
  | .lst _ => some "list"
  | .tup _ => some "tuple"
  | _ => none
theorem Rep.tyX {K : PySem.W.Frag} {B H : Hp} {v : V} {n : String} (s : Ex B H) (r : Rep K T B d v) (h : d.ty = some n) : TyX K H v (.type n) := by
  cases r with
  | non => cases h; exact .base .non
  | bl b => cases h; exact .base (.bl b)
  | int i => cases h; exact .base (.int i)
  | str x => cases h; exact .base (.str x)
  | lst e _ => cases h; exact .base (.lst (s _ _ e))
  | tup e _ =>
    cases h
    rcases exT s e with (h | ⟨o, h⟩) | ⟨o, its, n, h1, h2, _⟩
    · exact .base (.tup h)
    · exact .fTuple h
    · exact .kTuple h1 h2
  | lab _ _ => cases h
  | stp _ _ _ => cases h
  | pip _ _ => cases h
  | btw _ _ _ _ => cases h
  | fls _ => cases h
theorem ev_isi {x : Str} {n t : String} {z : Bool} (hm : X.mg "isinstance" = none) (hmt : X.mg x = none) (hvt : bootBuiltins x = some (.type t)) (ha : EvE T X a ρ da) (hd : da.ty = some n) (hk : kitB n t = some z) (hg : Gl X "isinstance" := by rfl) (hgt : Gl X x := by rfl) (hnx : x ≠ "__name__" := by decide) (hdx : (x == ("__debug__" : Str)) = false := by decide)
    (he : starEach [a, .Name x p2] X.env = (false, eval a X.env) :: starEach [.Name x p2] X.env := by rfl) (he2 : starEach [.Name x p2] X.env = (false, eval (.Name x p2) X.env) :: starEach [] X.env := by rfl) (hpl : (backTo pos (starEach [.Name x p2] X.env)).any (·.1) = false := by rfl) :
    EvE T X (.Call (.Name "isinstance" p) [a, .Name x p2] [] pos) ρ (.bl z) := fun _ _ _ _ hρ Q q =>
  we (pe_callB call_isi hg hm (by decide +kernel) (pa_cons pe_we (pa_cons (pe_bltn (v := .ty t) hgt hmt hvt rfl hnx hdx) pa_nil he2) he) (by decide) (by decide) he hpl) (ha _ _ _ _ hρ _ fun v B1 H1 g r => by
    exact ⟨v, .ty t, .type n, .type t, z, rfl, .ty t, r.tyX g.s hd, kit_ty hk, q _ _ _ g (.bl z)⟩)
theorem ev_isi2 {x y : Str} {n t u : String} {z : Bool} {kk : Nat} {p3 p4 : Pos} (hm : X.mg "isinstance" = none) (hmx : X.mg x = none) (hmy : X.mg y = none) (hvx : bootBuiltins x = some (.type t)) (hvy : bootBuiltins y = some (.type u)) (ha : EvE T X a ρ da) (hd : da.ty = some n) (hk : PySem.W.kitAny X.K (.type n) [.type t, .type u] = some z)
    (hg : Gl X "isinstance" := by rfl) (hgx : Gl X x := by rfl) (hgy : Gl X y := by rfl) (hnx : x ≠ "__name__" := by decide) (hdx : (x == ("__debug__" : Str)) = false := by decide) (hny : y ≠ "__name__" := by decide) (hdy : (y == ("__debug__" : Str)) = false := by decide)
    (he : starEach [a, .Tuple [.Name x p2, .Name y p3] kk p4] X.env = (false, eval a X.env) :: starEach [.Tuple [.Name x p2, .Name y p3] kk p4] X.env := by rfl) (he2 : starEach [.Tuple [.Name x p2, .Name y p3] kk p4] X.env = (false, eval (.Tuple [.Name x p2, .Name y p3] kk p4) X.env) :: starEach [] X.env := by rfl)
    (he3 : starEach [.Name x p2, .Name y p3] X.env = (false, eval (.Name x p2) X.env) :: starEach [.Name y p3] X.env := by rfl) (he4 : starEach [.Name y p3] X.env = (false, eval (.Name y p3) X.env) :: starEach [] X.env := by rfl)
    (hpl : (backTo pos (starEach [.Tuple [.Name x p2, .Name y p3] kk p4] X.env)).any (·.1) = false := by rfl) :
    EvE T X (.Call (.Name "isinstance" p) [a, .Tuple [.Name x p2, .Name y p3] kk p4] [] pos) ρ (.bl z) := fun _ _ _ _ hρ Q q =>
  we (pe_callB call_isiT hg hm (by decide +kernel) (pa_cons pe_we (pa_cons (pe_tup (pa_cons (pe_bltn (v := .ty t) hgx hmx hvx rfl hnx hdx) (pa_cons (pe_bltn (v := .ty u) hgy hmy hvy rfl hny hdy) pa_nil he4) he3)) pa_nil he2) he) (by decide) (by decide) he hpl) (ha _ _ _ _ hρ _ fun v B1 H1 g r => by
    refine ⟨by rw [sizeLine_eq]; exact Nat.le_of_ble_eq_true rfl, fun l hl => ?_⟩
    have g2 := Gr.own (o := HO.tup [.ty t, .ty u]) g.s hl
    refine ⟨v, l, [.ty t, .ty u], .type n, [.type t, .type u], z, rfl, upd_same, .cons (.ty t) (.cons (.ty u) .nil), (r.mono g2.b).tyX g2.s hd, hk, q _ _ _ (g.trans g2) (.bl z)⟩)
/-- isinstance(e, (t, u)), e of a type that is known otherwise -/
theorem ev_isiX {x y : Str} {t u : String} {tv : Value} {z : Bool} {kk : Nat} {p3 p4 : Pos} (hm : X.mg "isinstance" = none) (hmx : X.mg x = none) (hmy : X.mg y = none) (hvx : bootBuiltins x = some (.type t)) (hvy : bootBuiltins y = some (.type u)) (ha : EvE T X a ρ da) (hd : ∀ B H v, Ex B H → Rep X.K T B da v → TyX X.K H v tv) (hk : PySem.W.kitAny X.K tv [.type t, .type u] = some z)
    (hg : Gl X "isinstance" := by rfl) (hgx : Gl X x := by rfl) (hgy : Gl X y := by rfl) (hnx : x ≠ "__name__" := by decide) (hdx : (x == ("__debug__" : Str)) = false := by decide) (hny : y ≠ "__name__" := by decide) (hdy : (y == ("__debug__" : Str)) = false := by decide)
    (he : starEach [a, .Tuple [.Name x p2, .Name y p3] kk p4] X.env = (false, eval a X.env) :: starEach [.Tuple [.Name x p2, .Name y p3] kk p4] X.env := by rfl) (he2 : starEach [.Tuple [.Name x p2, .Name y p3] kk p4] X.env = (false, eval (.Tuple [.Name x p2, .Name y p3] kk p4) X.env) :: starEach [] X.env := by rfl)
    (he3 : starEach [.Name x p2, .Name y p3] X.env = (false, eval (.Name x p2) X.env) :: starEach [.Name y p3] X.env := by rfl) (he4 : starEach [.Name y p3] X.env = (false, eval (.Name y p3) X.env) :: starEach [] X.env := by rfl)
    (hpl : (backTo pos (starEach [.Tuple [.Name x p2, .Name y p3] kk p4] X.env)).any (·.1) = false := by rfl) :
    EvE T X (.Call (.Name "isinstance" p) [a, .Tuple [.Name x p2, .Name y p3] kk p4] [] pos) ρ (.bl z) := fun _ _ _ _ hρ Q q =>
  we (pe_callB call_isiT hg hm (by decide +kernel) (pa_cons pe_we (pa_cons (pe_tup (pa_cons (pe_bltn (v := .ty t) hgx hmx hvx rfl hnx hdx) (pa_cons (pe_bltn (v := .ty u) hgy hmy hvy rfl hny hdy) pa_nil he4) he3)) pa_nil he2) he) (by decide) (by decide) he hpl) (ha _ _ _ _ hρ _ fun v B1 H1 g r => by
    refine ⟨by rw [sizeLine_eq]; exact Nat.le_of_ble_eq_true rfl, fun l hl => ?_⟩
    have g2 := Gr.own (o := HO.tup [.ty t, .ty u]) g.s hl
    refine ⟨v, l, [.ty t, .ty u], tv, [.type t, .type u], z, rfl, upd_same, .cons (.ty t) (.cons (.ty u) .nil), hd _ _ _ g2.s (r.mono g2.b), hk, q _ _ _ (g.trans g2) (.bl z)⟩)
end
end PL
/-! R6: instances made, __init__, staticmethods -/
namespace PL
open PySem PySem.Spec PyProof.Rows L2
/-- growth but for the instance at x, which is being made -/
structure GrX (x : Addr) (B H B' H' : Hp) : Prop where
  b : Ex B B'
  h : ∀ a o, a ≠ x → H a = some o → H' a = some o
  s : Ex B' H'
  f : ∀ a o, a ≠ x → H a = some o → B a = none → B' a = none
def SpI {α : Type} (K : PySem.W.Frag) (T : CA) (C : Addr) (args : α → List D) (pre : α → Prop) (res : α → D) : Sp := fun vs H Q _ => ∃ (y : α) (B : Hp) (x dx : Addr) (us : List V), vs = .ref x :: us ∧ Ex B H ∧ B x = none ∧ H x = some (.ins C dx []) ∧ Reps K T B (args y) us ∧ pre y ∧
  ∀ B' H', GrX x B H B' H' → Rep K T B' (res y) (.ref x) → Q .non H'
/-- the class at C is made by an __init__ that keeps sp; dvs fill up -/
def GoodI (c : Cn) (C : Addr) (k : Nat) (dvs : List V) (sp : Sp) : Prop := ∃ f fd ps ds, Mk c.K C f ∧ Binds c.K fd ps ds ∧ Vals dvs ds ∧ FnOk c.P c.w c.K c.mg c.base CX0 k f fd ps sp
section
variable {T : CA} {X : Cx} {ρ : List Sl} {a b e o : Expr} {es : List Expr} {d r : D} {ds : List D} {pos p apos : Pos} {α : Type} {args : α → List D} {pre : α → Prop} {res : α → D} {k : Nat} {ps : List Str} {x m : Str}
theorem ev_make {c : Cn} {C : Addr} {dvs : List V} {dds : List D} (G : GoodI c C k dvs (SpI c.K T C args pre res)) (hgm : c.mg x = some (.ref C)) (hdv : ∀ B, Reps c.K T B dds dvs) (y : α) (hc : cnOf X = c) (hr : Room (k + 1) X.A) (ha : EvA T X (e :: es) ρ ds) (hy : args y = ds ++ dds) (hp : pre y) (hg : Gl X x := by rfl) (hdb : (x == ("__debug__" : Str)) = false := by decide)
    (he : starEach (e :: es) X.env = (false, eval e X.env) :: starEach es X.env := by rfl) (hpl : (backTo pos (starEach es X.env)).any (·.1) = false := by rfl) : EvE T X (.Call (.Name x p) (e :: es) [] pos) ρ (res y) := fun _ _ _ _ hρ Q q => by
  subst hc
  obtain ⟨f, fd, ps, us, hm, hb, hv, F⟩ := G
  refine we (pe_make hm F hr hg hgm hb hv pass0 pa_wa hdb he hpl) (ha _ _ _ _ hρ _ fun vs B1 H1 g1 r1 => fun u dx hu hdx hne => ?_)
  have hex : Ex H1 (upd (upd H1 dx (.own u)) u (.ins C dx [])) := (Ex.new hdx).trans (.new (by rw [upd_ne (Ne.symm hne)]; exact hu))
  refine ⟨y, B1, u, dx, vs ++ dvs, rfl, g1.s.trans hex, g1.s.none hu, upd_same, ?_, hp, fun B' H' gx rx => ⟨rfl, q _ _ _ (g1.trans ⟨gx.b, fun a w ea => ?_, gx.s, fun a w ea nb => ?_⟩) rx⟩⟩
  · rw [hy]
    exact r1.append (hdv B1)
  · exact gx.h a w (ne_of_none ea hu) (hex a w ea)
  · exact gx.f a w (ne_of_none ea hu) (hex a w ea) nb
theorem ev_make0 {c : Cn} {C : Addr} {dvs : List V} {dds : List D} (G : GoodI c C k dvs (SpI c.K T C args pre res)) (hgm : c.mg x = some (.ref C)) (hdv : ∀ B, Reps c.K T B dds dvs) (y : α) (hc : cnOf X = c) (hr : Room (k + 1) X.A) (hy : args y = dds) (hp : pre y) (hg : Gl X x := by rfl) (hdb : (x == ("__debug__" : Str)) = false := by decide) :
    EvE T X (.Call (.Name x p) [] [] pos) ρ (res y) := fun _ _ B1 H1 hρ Q q => by
  subst hc
  obtain ⟨f, fd, ps, us, hm, hb, hv, F⟩ := G
  refine we (pe_make0 hm F hr hg hgm hb hv pass0 hdb) (fun u dx hu hdx hne => ?_)
  have hex : Ex H1 (upd (upd H1 dx (.own u)) u (.ins C dx [])) := (Ex.new hdx).trans (.new (by rw [upd_ne (Ne.symm hne)]; exact hu))
  refine ⟨y, B1, u, dx, [] ++ dvs, rfl, hρ.bh.trans hex, hρ.bh.none hu, upd_same, ?_, hp, fun B' H' gx rx => ⟨rfl, q _ _ _ ⟨gx.b, fun a w ea => ?_, gx.s, fun a w ea nb => ?_⟩ rx⟩⟩
  · rw [hy]
    exact hdv B1
  · exact gx.h a w (ne_of_none ea hu) (hex a w ea)
  · exact gx.f a w (ne_of_none ea hu) (hex a w ea) nb
/-- C.m(e, ..), a staticmethod -/
theorem pe_smeth {CX : CXT} {C q f : Addr} {fd : FuncData} {sp : Sp} {E : XK} {ta : TE} {t : TA} {dvs : List V} {dus : List Value} {pl : Sem Bool} (he : PE X o ta) (c : SMet X.K C m q f) (F : FnOk X.prog X.w X.K X.mg X.base CX k f fd ps sp) (hk : PySem.W.keepIn X.K (.ref f) = true) (hr : Room k X.A) (hb : Binds X.K fd ps dus) (hd : Vals dvs dus) (hx : Passes CX X E) (ha : PA X (e :: es) t)
    (hst : starEach (e :: es) X.env = (false, eval e X.env) :: starEach es X.env := by rfl) (hpl : (backTo pos (starEach es X.env)).any (·.1) = false := by rfl)
    (ht : eval (.Call (.Attribute o m apos) (e :: es) [] pos) X.env = (do
      let ov ← eval o X.env
      standAt apos.atName
      let (f, first) ← holding [ov] (getMethod ov m pl)
      callWith pos f first (backTo pos (starEach (e :: es) X.env)) (backToKw pos (keywordEach [] X.env))) := by rfl) :
    PE X (.Call (.Attribute o m apos) (e :: es) [] pos) (fun σ H Q => ta σ H fun x H1 => x = .ref C ∧ t σ H1 fun vs H2 => sp (vs ++ dvs) H2 Q E) := by
  refine ⟨fun pins s σ H Q I h => ?_⟩
  refine PySem.W.methodCall_KW (pl := pl) (thn (he.run pins s σ H _ I h) fun u s1 ⟨y, H1, I1, ry, ey, q⟩ => ?_) ht
  subst ey
  obtain rfl : u = Value.ref C := ry
  obtain ⟨rest, hrc⟩ := c.rc
  refine PySem.W.method_cls I1.kIn c.ga (PySem.W.cls_bind I1.kIn c.rd c.at_ ?_)
  refine wpAny_call (PySem.W.sm_get (s := { s1 with toks := s1.toks + 1 }) I1.kIn hrc (PySem.W.handed_on rfl ?_))
  refine PySem.W.callWith_K (h₀ := X.base) (first := []) I1.ok.mod.kin hk (thn (ha.run pos pins _ σ H1 _ (I1.tok (s1.toks + 1)) q) fun us s3 ⟨vs, H2, I3, rv, q2⟩ => ⟨I3.kIn, ?_⟩) hst hpl
  exact run_fn (us := us) (vs := vs) F hr hb hd hx I3 rv q2
def GoodS (c : Cn) (C : Addr) (m : Str) (k : Nat) (ps : List Str) (sp : Sp) : Prop := ∃ q f fd, SMet c.K C m q f ∧ PySem.W.keepIn c.K (.ref f) = true ∧ Binds c.K fd ps [] ∧ FnOk c.P c.w c.K c.mg c.base CX0 k f fd ps sp
theorem ev_stat {c : Cn} {C : Addr} {px : Pos} (G : GoodS c C m k ps (SpP c.K T args pre res)) (hgm : c.mg x = some (.ref C)) (y : α) (hc : cnOf X = c) (hr : Room k X.A) (ha : EvA T X (e :: es) ρ (args y)) (hp : pre y) (hg : Gl X x := by rfl) (hdb : (x == ("__debug__" : Str)) = false := by decide)
    (hpe : ∀ {q f fd} (sm : SMet X.K C m q f) (hk : PySem.W.keepIn X.K (.ref f) = true) (F : FnOk X.prog X.w X.K X.mg X.base CX0 k f fd ps (SpP X.K T args pre res)) (hb : Binds X.K fd ps []) (hr : Room k X.A) (to : TE), PE X (.Name x px) to → PE X (.Call (.Attribute (.Name x px) m apos) (e :: es) [] pos) (fun σ H Q => to σ H fun v H1 => v = .ref C ∧ WA X (e :: es) σ H1 fun vs H2 => SpP X.K T args pre res (vs ++ []) H2 Q E0) := by exact fun sm hk F hb hr to h => pe_smeth h sm F hk hr hb .nil pass0 pa_wa) :
    EvE T X (.Call (.Attribute (.Name x px) m apos) (e :: es) [] pos) ρ (res y) := fun _ _ _ _ hρ Q q => by
  subst hc
  obtain ⟨q', f, fd, sm, hk, hb, F⟩ := G
  refine we (hpe sm hk F hb hr _ (pe_glob (v := .ref C) hg hgm rfl hdb)) ⟨rfl, ha _ _ _ _ hρ _ fun vs B1 H1 g1 r1 => ?_⟩
  rw [List.append_nil]
  exact ⟨y, B1, g1.s, r1, hp, fun v B2 H2 g2 r2 => q _ _ _ (g1.trans g2) r2⟩
/-! ### o.f as a target -/
def gAt (K : PySem.W.Frag) (to : TE) (f : Str) : TG := fun v σ H Q => to σ H fun x H1 => ∃ a C dx fs, x = .ref a ∧ H1 a = some (.ins C dx fs) ∧ Cls K C ∧ NoAttr K C f ∧ fs.length < 1000 ∧ Q σ (upd H1 a (.ins C dx (putF f v fs)))
theorem pg_at {to : TE} (ho : PE X o to) : PG X (.Attribute o m pos) (gAt X.K to m) := by
  refine ⟨fun pins s σ H v u Q I r h => ?_⟩
  rw [assign_Attribute]
  refine wpAny_bind (wpAny_holding (thn (ho.run pins s σ H _ I h) fun ov s1 ⟨y, H1, I1, ry, a, C, dx, fs, ey, ea, c, n, l, q⟩ => ?_))
  subst ey
  obtain rfl : ov = Value.ref a := ry
  refine wpAny_bind (wpAny_standAt ?_)
  refine wpAny_bind (wpAny_holding (setattr_ok I1 ea c n l r fun s2 I2 => ?_))
  exact wpAny_release ⟨σ, _, I2, q⟩
end

/-! ### __init__ -/
def rhoI (n : Nat) (x : Addr) (ds : List D) : List Sl := Sl.rf (.ref x) :: (ds.map Sl.va ++ List.replicate (n - 1 - ds.length) .un)
theorem env_init {T : CA} {K : PySem.W.Frag} {B H : Hp} {N : List Str} {ds : List D} {us : List V} {x dx C : Addr} (s : Ex B H) (hx : H x = some (.ins C dx [])) (hb : B x = none) (r : Reps K T B ds us) (hl : ds.length + 1 ≤ N.length) :
    EnvR K T ⟨fun a => a = x, fun o => o = .ins C dx [], B, H⟩ (L2.start N (.ref x :: us)) B H (rhoI N.length x ds) := by
  have e := r.length
  obtain ⟨n0, N', rfl⟩ : ∃ n0 N', N = n0 :: N' := by
    cases N with
    | nil => simp at hl
    | cons n0 N' => exact ⟨n0, N', rfl⟩
  have hl' : ds.length ≤ N'.length := by simpa using hl
  have base := env_start (N := N') s r hl'
  have es : L2.start (n0 :: N') (.ref x :: us) = some (V.ref x) :: L2.start N' us := by
    unfold L2.start
    simp
  have er : rhoI (n0 :: N').length x ds = Sl.rf (.ref x) :: rho0 N'.length ds := by
    unfold rhoI rho0
    simp
  rw [es, er]
  have no : ∀ (i : Nat) (es : List D), (rho0 N'.length ds)[i]? = some (Sl.ow es) → False := fun i es h => by
    unfold rho0 at h
    rw [List.getElem?_append] at h
    split at h
    · rw [List.getElem?_map] at h
      cases q : ds[i]? with
      | none =>
        rw [q] at h
        cases h
      | some d =>
        rw [q] at h
        cases h
    · rw [List.getElem?_replicate] at h
      split at h <;> cases h
  refine ⟨⟨s, Ex.refl _, fun a o h _ => h, fun a o _ n => n⟩, fun a h => ?_, fun a h => ?_, ?_, fun i sl h => ?_, fun i j ds' es l hij h1 _ _ => ?_⟩
  · have h : a = x := h
    rw [h]
    exact ⟨_, hx, rfl, hb⟩
  · have h : a = x := h
    rw [h]
    show H x ≠ none
    rw [hx]
    exact fun z => nomatch z
  · rw [List.length_cons, List.length_cons, base.len]
  · cases i with
    | zero =>
      have h : some (Sl.rf (.ref x)) = some sl := h
      cases h
      exact rfl
    | succ i =>
      have h : (rho0 N'.length ds)[i]? = some sl := h
      have z := base.at_ i sl h
      cases sl with
      | un => exact True.intro
      | rf v => exact z
      | va d => exact z
      | ow ws => exact (no i ws h).elim
      | dc ks ws => exact z
      | ur n =>
        obtain ⟨_, _, _, _, m, _⟩ := z
        exact False.elim m.1
  · cases i with
    | zero =>
      have h1 : some (Sl.rf (.ref x)) = some (Sl.ow ds') := h1
      cases h1
    | succ i => exact (no i ds' h1).elim
section
variable {c : Cn} {q : Str} {st : Stmt} {N ps : List Str} {k : Nat} {α : Type} {args : α → List D} {pre : α → Prop} {res : α → D} {C : Addr} {dvs : List V}
/-- what is asked of an __init__'s body -/
def InitOk (c : Cn) (C : Addr) (q : Str) (st : Stmt) (N : List Str) (k : Nat) {α : Type} (args : α → List D) (pre : α → Prop) (res : α → D) : Prop :=
  ∀ (f : Addr) (cdv : Value) (A : Around) (outer : List Env) (s : Shared) (H0 : Hp) (E : XK), Room k (bodyX c N q (defScope st) f cdv A outer s H0 E).A → ∀ y, pre y →
    ∀ (B H : Hp) (x dx : Addr) (σ : St), EnvR c.K (ca c.K) ⟨fun a => a = x, fun o => o = .ins C dx [], B, H⟩ σ B H (rhoI N.length x (args y)) →
      ∀ De : Ends, (∀ σ' B' H', GrX x B H B' H' → Rep c.K (ca c.K) B' (res y) (.ref x) → De.nx σ' H') → WS (bodyX c N q (defScope st) f cdv A outer s H0 E) (defBody st) De σ H
theorem good_init {n : Nat} (h : ∃ f fd, Mk c.K C f ∧ FunD c.K "__init__" q (defArgs st) (defBody st) (defScope st) dvs [] f fd ∧ ∃ dus, Vals (dvs.drop n) dus ∧ Binds c.K fd ps dus) (S : FnScope N ps (defScope st)) (hl : ∀ y, (args y).length + 1 = ps.length) (hps : ps.length ≤ N.length) (body : InitOk c C q st N k args pre res) :
    GoodI c C (k + 1) (dvs.drop n) (SpI c.K (ca c.K) C args pre res) := by
  obtain ⟨f, fd, hm, F, dus, hv, hb⟩ := h
  refine ⟨f, fd, ps, dus, hm, hb, hv, F.ok S (fun vs H Q E h => ?_) fun cdv A outer s H vs Q E hr h => ?_⟩
  · obtain ⟨y, B, x, dx, us, rfl, _, _, _, r, _⟩ := h
    rw [List.length_cons, ← r.length, hl]
  · obtain ⟨y, B, x, dx, us, rfl, hs, hb', hx, r, hp, q⟩ := h
    refine ⟨WS (bodyX c N _ (defScope st) f cdv A outer s H E) (defBody st), PSs.nox pss_ws, ?_⟩
    exact body f cdv A outer s H E hr y hp B H x dx _ (env_init hs hx hb' r (by rw [hl]; exact hps)) _ fun σ' B' H' gx rx => q _ _ gx rx
end
end PL
/-! R7: dicts of texts -/
namespace PL
open PySem PySem.Spec PyProof.Rows L2
def addK (ks : List Str) (k : Str) : List Str := if k ∈ ks then ks else ks ++ [k]
/-- the keys in the order they first come -/
def dks (ns : List Str) : List Str := ns.foldl addK []
theorem dks_step {ns : List Str} {i : Nat} {n : Str} (h : ns[i]? = some n) : dks (ns.take (i + 1)) = addK (dks (ns.take i)) n := by
  unfold dks
  rw [List.take_succ, h, Option.toList_some, List.foldl_append]
  rfl
theorem addK_mem {ks : List Str} {k j : Str} : j ∈ addK ks k ↔ j ∈ ks ∨ j = k := by
  unfold addK
  split
  · constructor
    · exact .inl
    · rintro (h | h)
      · exact h
      · rw [h]; assumption
  · rw [List.mem_append, List.mem_singleton]
theorem addK_nodup {ks : List Str} {k : Str} (h : ks.Nodup) : (addK ks k).Nodup := by
  unfold addK
  split
  · exact h
  · rename_i hn
    refine List.nodup_append.mpr ⟨h, List.nodup_cons.mpr ⟨fun z => (by cases z), List.nodup_nil⟩, fun a ha b hb e => hn ?_⟩
    rw [List.mem_singleton] at hb
    rw [← hb, ← e]
    exact ha
theorem foldK : ∀ (ns ks : List Str), ks.Nodup → (ns.foldl addK ks).Nodup ∧ ∀ j, j ∈ ns.foldl addK ks ↔ j ∈ ks ∨ j ∈ ns
  | [], ks, h => ⟨h, fun j => by simp⟩
  | n :: ns, ks, h => by
    obtain ⟨h1, h2⟩ := foldK ns (addK ks n) (addK_nodup h)
    refine ⟨h1, fun j => ?_⟩
    rw [List.foldl_cons, h2 j, addK_mem, List.mem_cons]
    exact or_assoc
theorem dks_nodup (ns : List Str) : (dks ns).Nodup := (foldK ns [] List.nodup_nil).1
theorem dks_mem {ns : List Str} {j : Str} : j ∈ dks ns ↔ j ∈ ns := by
  rw [show dks ns = ns.foldl addK [] from rfl, (foldK ns [] List.nodup_nil).2 j]
  simp
theorem dks_len (ns : List Str) : ∀ ks, (ns.foldl addK ks).length ≤ ks.length + ns.length := by
  induction ns with
  | nil => intro ks; simp
  | cons n ns ih =>
    intro ks
    have h := ih (addK ks n)
    have h2 : (addK ks n).length ≤ ks.length + 1 := by
      unfold addK
      split <;> simp
    simp only [List.foldl_cons, List.length_cons]
    omega
section
variable {K : PySem.W.Frag} {T : CA} {B : Hp}
theorem val_at {f : Str → D} {k : Str} : ∀ {ks : List Str} {us : List V}, Reps K T B (ks.map f) us → k ∈ ks → ∃ v, valV ((ks.map (Sum.inr : Str → Key)).zip us) (.inr k) = some v ∧ Rep K T B (f k) v
  | [], _, _, h => by cases h
  | j :: ks, _, .cons r q, h => by
    by_cases e : j = k
    · subst e
      exact ⟨_, valV_pos rfl, r⟩
    · have h' : k ∈ ks := by
        rcases List.mem_cons.mp h with z | z
        · exact absurd z.symm e
        · exact z
      obtain ⟨v, h1, h2⟩ := val_at q h'
      refine ⟨v, ?_, h2⟩
      show valV ((Sum.inr j, _) :: _) (.inr k) = some v
      rw [valV_neg (fun z => e (by injection z))]
      exact h1
theorem val_none {k : Str} : ∀ {ks : List Str} {us : List V}, k ∉ ks → valV ((ks.map (Sum.inr : Str → Key)).zip us) (.inr k) = none
  | [], us, _ => by cases us <;> rfl
  | j :: ks, [], _ => rfl
  | j :: ks, u :: us, h => by
    show valV ((Sum.inr j, u) :: _) (.inr k) = none
    rw [valV_neg (fun z => h (by injection z with z; rw [z]; exact List.mem_cons_self))]
    exact val_none fun z => h (List.mem_cons_of_mem _ z)
theorem put_old {f : Str → D} {k : Str} {z : V} (rz : Rep K T B (f k) z) : ∀ {ks : List Str} {us : List V}, Reps K T B (ks.map f) us →
    ∃ us', ((ks.map (Sum.inr : Str → Key)).zip us).map (fun kv => if kv.1 = .inr k then (kv.1, z) else kv) = (ks.map Sum.inr).zip us' ∧ Reps K T B (ks.map f) us'
  | [], _, .nil => ⟨[], rfl, .nil⟩
  | j :: ks, v :: _, .cons r q => by
    obtain ⟨us', h1, h2⟩ := put_old rz q
    by_cases e : j = k
    · subst e
      refine ⟨z :: us', ?_, .cons rz h2⟩
      simp only [List.map_cons, List.zip_cons_cons, if_pos, h1]
    · refine ⟨v :: us', ?_, .cons r h2⟩
      simp only [List.map_cons, List.zip_cons_cons, h1]
      rw [if_neg (fun z => e (by injection z))]
theorem zip_app {κ : Type} {xs : List κ} {us : List V} {x : κ} {u : V} (h : xs.length = us.length) : (xs ++ [x]).zip (us ++ [u]) = xs.zip us ++ [(x, u)] := by
  rw [List.zip_append h]
  rfl
theorem put_any {f : Str → D} {k : Str} {z : V} {ks : List Str} {us : List V} (r : Reps K T B (ks.map f) us) (rz : Rep K T B (f k) z) : ∃ us', putK ((ks.map (Sum.inr : Str → Key)).zip us) (.inr k) z = ((addK ks k).map Sum.inr).zip us' ∧ Reps K T B ((addK ks k).map f) us' := by
  by_cases h : k ∈ ks
  · obtain ⟨us', h1, h2⟩ := put_old rz r
    obtain ⟨v, hv, _⟩ := val_at r h
    refine ⟨us', ?_, ?_⟩
    · unfold putK addK
      rw [valV_any, hv, if_pos (show (some v).isSome = true from rfl), if_pos h]
      exact h1
    · unfold addK
      rw [if_pos h]
      exact h2
  · refine ⟨us ++ [z], ?_, ?_⟩
    · rw [putK_new z (val_none h)]
      unfold addK
      rw [if_neg h, List.map_append, List.map_singleton, zip_app (by rw [List.length_map, ← r.length, List.length_map])]
    · unfold addK
      rw [if_neg h, List.map_append]
      exact r.append (.one rz)
end
theorem ltc_le {a b : List Nat} {x y : Str} (h : (!ltCps y.cps.toList x.cps.toList) = true) : leS x y = true := by
  rw [ltCps_eq] at h
  have h1 : ¬ y.cps.toList < x.cps.toList := by simpa using h
  exact decide_eq_true (List.not_lt.mp h1)
theorem srt_pair : ∀ {ys : List Str}, sortedS ys = true → ys.Pairwise fun a b => leS a b = true
  | [], _ => List.Pairwise.nil
  | [_], _ => List.pairwise_cons.mpr ⟨fun _ h => (by cases h), List.Pairwise.nil⟩
  | x :: y :: r, h => by
    have h' : (!ltCps y.cps.toList x.cps.toList && sortedS (y :: r)) = true := h
    obtain ⟨h0, h2⟩ := Bool.and_eq_true_iff.mp h'
    have h1 : leS x y = true := ltc_le (a := []) (b := []) h0
    have ih := srt_pair h2
    refine List.pairwise_cons.mpr ⟨fun z hz => ?_, ih⟩
    rcases List.mem_cons.mp hz with e | hz
    · rw [e]
      exact h1
    · exact leS_tr _ _ _ h1 ((List.pairwise_cons.mp ih).1 z hz)
theorem srt_uniq {ys ks : List Str} (p : ys.Perm ks) (h : sortedS ys = true) : ys = ks.mergeSort leS :=
  List.Perm.eq_of_pairwise (le := fun a b => leS a b = true) (fun a b _ _ h1 h2 => leS_anti a b h1 h2) (srt_pair h) (List.pairwise_mergeSort leS_tr leS_tot _) (p.trans (List.mergeSort_perm _ _).symm)
section
variable {T : CA} {X : Cx} {ρ : List Sl} {a b e o : Expr} {es : List Expr} {d r : D} {ds : List D} {pos p apos p1 : Pos}
/-- e gives a new dict: keys ks, each k's value f k -/
def EvD (T : CA) (X : Cx) (e : Expr) (ρ : List Sl) (ks : List Str) (f : Str → D) : Prop := ∀ E σ B H, EnvR X.K T E σ B H ρ → ∀ Q : VK,
  (∀ l us B' H', Gr B H B' H' → H l = none → B' l = none → H' l = some (.dK ((ks.map Sum.inr).zip us)) → (∀ k ∈ ks, SOk k) → Reps X.K T B' (ks.map f) us → Q (.ref l) H') → WE X e σ H Q
theorem ev_dget (n : Nat) {x k : Str} {px : Pos} {ks : List Str} {f : Str → D} (hu : X.A.units + 64 < cLine) (hN : X.N[n]? = some x) (hv : Vis X.env.scope x) (hρn : ρ[n]? = some (.dc ks (ks.map f))) (hb : EvE T X b ρ (.str k)) (hk : k ∈ ks) (hs : NoSl b := by exact fun _ _ => rfl) (hd : (x == ("__debug__" : Str)) = false := by decide) (hcd : (x == ("__classdict__" : Str)) = false := by decide) :
    EvE T X (.Subscript (.Name x px) b pos) ρ (f k) := fun _ _ _ _ hρ Q q =>
  we (pe_dget (by omega) (pe_var hN hv hd hcd) pe_we hs) (by
    obtain ⟨l, us, e1, e2, e3, e4, e5, e6⟩ := hρ.at_ n _ hρn
    refine ⟨.ref l, e1, hb _ _ _ _ hρ _ fun _ B1 H1 g r => ?_⟩
    cases r
    obtain ⟨v, h1, h2⟩ := val_at (e6.mono g.b) hk
    refine ⟨l, v, rfl, ?_, q _ _ _ g h2⟩
    rw [← h1]
    show DGet H1 l (kV (.inr k)) _
    exact .k (g.h _ _ e2))
theorem en_sortedD (n : Nat) {x : Str} {px : Pos} {ks : List Str} (hc : X.calm = true) (hm : X.mg "sorted" = none) (hN : X.N[n]? = some x) (hv : Vis X.env.scope x) (hρn : ρ[n]? = some (.dc ks ds)) (h64 : ks.length < 64) (hg : Gl X "sorted" := by rfl)
    (he : starEach [.Name x px] X.env = (false, eval (.Name x px) X.env) :: starEach [] X.env := by rfl) (hd : (x == ("__debug__" : Str)) = false := by decide) (hcd : (x == ("__classdict__" : Str)) = false := by decide) :
    EvN T X (.Call (.Name "sorted" p) [.Name x px] [] pos) ρ ((ks.mergeSort leS).map D.str) := fun _ _ _ _ hρ Q q =>
  we (pe_callB (call_sortedD hc) hg hm (by decide +kernel) (pa_cons (pe_var hN hv hd hcd) pa_nil he) (by decide) (by decide) he rfl) (by
    obtain ⟨l, us, e1, e2, e3, e4, e5, e6⟩ := hρ.at_ n _ hρn
    refine ⟨.ref l, e1, l, _, ks, rfl, .inl e2, ?_, h64, fun ys p hp hs hn => ?_⟩
    · exact List.map_fst_zip (by rw [List.length_map]; omega)
    · rw [srt_uniq hp hs] at *
      exact q _ _ _ _ (.own hρ.bh hn) hn (hρ.bh.none hn) upd_same (reps_strs _ fun k hk => e5 k ((List.mergeSort_perm _ _).mem_iff.mp hk)))
/-! ### {k: v for name in names} -/
section
variable {tg iter : Expr} {scope : Scope} {spos : Pos}
theorem dc_read {ns : List Str} {f : Str → D} {vs : List Nat} {kx vx : Expr} (hi : EvI T X tg iter ρ (ns.map D.str))
    (h : ∀ x ∈ ns, SOk x → ∃ ρ1 js, (∀ j ∈ js, j ∈ vs) ∧ ∀ s H0 C cl fp, EvG T (BlkX X scope s H0 C cl fp) tg (wipeS ρ vs) (.str x) ρ1 js ∧ EvE T (BlkX X scope s H0 C cl fp) kx ρ1 (.str x) ∧ EvE T (BlkX X scope s H0 C cl fp) vx ρ1 (f x)) (hz : ns.length ≤ 100000)
    {E : Ent} {σ : L2.St} {B H : Hp} (hρ : EnvR X.K T E σ B H ρ) {Q : VK} (q : ∀ l us B' H', Gr B H B' H' → H l = none → B' l = none → H' l = some (.dK (((dks ns).map Sum.inr).zip us)) → (∀ k ∈ dks ns, SOk k) → Reps X.K T B' ((dks ns).map f) us → Q (.ref l) H') :
    tDc (WI X tg iter) (gB X scope tg) (tB X scope []) (eB X scope kx) (eB X scope vx) vs σ H Q := by
  refine hi _ _ _ _ hρ _ fun J B1 H1 g1 hJ => ?_
  intro D hD
  refine ⟨fun i m H2 => m = ns.length - i ∧ i ≤ ns.length ∧ ∃ B2 us, Gr B1 (upd H1 D (.dK [])) B2 (upd H2 D (.dK [])) ∧ Ex B2 H2 ∧ B2 D = none ∧ H2 D = some (.dK (((dks (ns.take i)).map Sum.inr).zip us)) ∧ (∀ k ∈ dks (ns.take i), SOk k) ∧ Reps X.K T B2 ((dks (ns.take i)).map f) us, ⟨ns.length, by omega, Nat.zero_le _, B1, [], ?_, ?_, g1.s.none hD, upd_same, (fun k hk => by cases hk), .nil⟩, ?_⟩
  · rw [upd_upd]
    exact .refl (Gr.own g1.s hD).s
  · exact (Gr.own g1.s hD).s
  · rintro i m H2 ⟨rfl, hle, B2, us, g2, s2, hb2, h2, ok2, r2⟩
    have hex : Ex B1 B2 := g2.b
    obtain ⟨hgo, hstop⟩ := hJ B2 H2 hex s2
    have g02 : Ex H1 H2 := fun a u e => by
      have ne : a ≠ D := ne_of_none e hD
      have e' := g2.h a u (by rw [upd_ne ne]; exact e)
      rw [upd_ne ne] at e'
      exact e'
    have f02 : ∀ a u, H1 a = some u → B1 a = none → B2 a = none := fun a u e n => by
      have ne : a ≠ D := ne_of_none e hD
      exact g2.f a u (by rw [upd_ne ne]; exact e) n
    have gAll : Gr B H B2 H2 := g1.trans ⟨hex, g02, s2, f02⟩
    by_cases hlt : i < ns.length
    · have hx : ns[i]? = some ns[i] := List.getElem?_eq_getElem hlt
      obtain ⟨hg1, hyl⟩ := hgo i (.str ns[i]) (by rw [List.getElem?_map, hx]; rfl)
      refine .inr ⟨hg1, fun H3 => i + 1 ≤ ns.length ∧ ∃ B3 us', Gr B1 (upd H1 D (.dK [])) B3 (upd H3 D (.dK [])) ∧ Ex B3 H3 ∧ B3 D = none ∧ H3 D = some (.dK (((dks (ns.take (i + 1))).map Sum.inr).zip us')) ∧ (∀ k ∈ dks (ns.take (i + 1)), SOk k) ∧ Reps X.K T B3 ((dks (ns.take (i + 1))).map f) us', fun H' n => ⟨ns.length - (i + 1), by omega, rfl, n⟩, fun x H3 y => ?_⟩
      obtain ⟨B3, g3, r3⟩ := hyl x H3 y
      have hok : SOk ns[i] := by
        cases r3
        assumption
      obtain ⟨ρ1, js, hjs, hturn⟩ := h ns[i] (List.getElem_mem hlt) hok
      have hρ3 : EnvR X.K T E (L2.wipe σ vs) B3 H3 (wipeS ρ vs) := ((hρ.gr gAll).wipe vs).gr g3
      refine fun s H0 C cl fp => (hturn s H0 C cl fp).1 _ _ _ _ _ hρ3 r3 _ fun σ2 hρ4 hl4 hag => ⟨wipe_same (by rw [hl4, wipe_length]) hjs hag, fun s' H0' C' cl' fp' => (ets_nil (T := T) (X := BlkX X scope s' H0' C' cl' fp')) _ _ _ _ hρ4 _ fun B5 H5 g5 => iteT ?_⟩
      refine fun s H0 C cl fp => (hturn s H0 C cl fp).2.1 _ _ _ _ (hρ4.gr g5) _ fun y6 B6 H6 g6 r6 => ?_
      refine fun s H0 C cl fp => (hturn s H0 C cl fp).2.2 _ _ _ _ ((hρ4.gr g5).gr g6) _ fun v B7 H7 g7 r7 => ?_
      cases r6
      have g27 := ((g3.trans g5).trans g6).trans g7
      have hb7 : B7 D = none := g27.f D _ h2 hb2
      have hD7 : H7 D = some (.dK (((dks (ns.take i)).map Sum.inr).zip us)) := g27.h _ _ h2
      obtain ⟨us', e1, e2⟩ := put_any (r2.mono g27.b) r7
      refine ⟨_, .inr ns[i], rfl, hD7, ?_, hlt, B7, us', ?_, fun a u e => ?_, hb7, ?_, ?_, ?_⟩
      · have l1 := r2.length
        have l2 := dks_len (ns.take i) []
        rw [List.length_map] at l1
        rw [List.length_take] at l2
        rw [List.length_zip, List.length_map, sizeLine_eq]
        have l3 : (dks (ns.take i)).length ≤ 0 + min i ns.length := l2
        omega
      · rw [upd_upd]
        refine ⟨hex.trans g27.b, fun a u e => ?_, fun a u e => ?_, fun a u e n => ?_⟩
        · by_cases z : a = D
          · rw [z, upd_same] at e ⊢
            exact e
          · rw [upd_ne z] at e ⊢
            exact g27.h _ _ (g02 _ _ e)
        · have z : a ≠ D := fun z => by
            rw [z, hb7] at e
            cases e
          rw [upd_ne z]
          exact g27.s _ _ e
        · by_cases z : a = D
          · rw [z]
            exact hb7
          · rw [upd_ne z] at e
            exact g27.f a u (g02 a u e) (f02 a u e n)
      · have z : a ≠ D := fun z => by
          rw [z, hb7] at e
          cases e
        rw [upd_ne z]
        exact g27.s _ _ e
      · rw [upd_same, e1, dks_step hx]
      · intro k hk
        rw [dks_step hx, addK_mem] at hk
        rcases hk with hk | hk
        · exact ok2 k hk
        · rw [hk]
          exact hok
      · rw [dks_step hx]
        exact e2
    · have e : i = ns.length := by omega
      subst e
      refine .inl ⟨by rw [List.length_map] at hstop; exact hstop, q D us B2 H2 gAll (g1.h.none hD) hb2 ?_ ?_ ?_⟩
      · rw [List.take_length] at h2
        exact h2
      · rw [List.take_length] at ok2
        exact ok2
      · rw [List.take_length] at r2
        exact r2
theorem ed_dc {ns : List Str} {f : Str → D} {kx vx : Expr} (hc : X.calm = true) (hN : X.N.Nodup) (own : List (Str × Nat)) (ok : BlkOk X.N X.env.scope scope own) (hi : EvI T X tg iter ρ (ns.map D.str))
    (h : ∀ x ∈ ns, SOk x → ∃ ρ1 js, (∀ j ∈ js, j ∈ own.map (·.2)) ∧ ∀ s H0 C cl fp, EvG T (BlkX X scope s H0 C cl fp) tg (wipeS ρ (own.map (·.2))) (.str x) ρ1 js ∧ EvE T (BlkX X scope s H0 C cl fp) kx ρ1 (.str x) ∧ EvE T (BlkX X scope s H0 C cl fp) vx ρ1 (f x)) (hz : ns.length ≤ 100000)
    (hs : ∀ x, foldedSetIterable iter X.env x = pure x := by intro _; rfl) : EvD T X (.DictComp kx vx [⟨tg, iter, [], 0⟩] scope pos) ρ (dks ns) f := fun _ _ _ _ hρ _ q =>
  we (pe_dc (own := own) (g := gB X scope tg) (tt := tB X scope []) (tk := eB X scope kx) (tv := eB X scope vx) hc hN pi_wi ok (fun s H0 C cl fp => ⟨fun pins s1 σ1 H1 v u Q I r h => h s H0 C cl fp pins s1 u I r⟩) (fun s H0 C cl fp => ⟨fun pins s1 σ1 H1 Q I h => h s H0 C cl fp pins s1 I⟩)
    (fun s H0 C cl fp => ⟨fun pins s1 σ1 H1 Q I h => h s H0 C cl fp pins s1 I⟩) (fun s H0 C cl fp => ⟨fun pins s1 σ1 H1 Q I h => h s H0 C cl fp pins s1 I⟩) hs) (dc_read hi h hz hρ q)

/-! ### a def whose first parameter is a dict -/
def SpD {α : Type} (K : PySem.W.Frag) (T : CA) (ks : α → List Str) (f : α → Str → D) (r : α → D) (pre : α → Prop) (res : α → D) : Sp := fun vs H Q _ => ∃ (y : α) (B : Hp) (l : Addr) (us : List V) (v2 : V), vs = [.ref l, v2] ∧ Ex B H ∧ H l = some (.dK (((ks y).map Sum.inr).zip us)) ∧ B l = none ∧
  (∀ k ∈ ks y, SOk k) ∧ Reps K T B ((ks y).map (f y)) us ∧ Rep K T B (r y) v2 ∧ pre y ∧ ∀ v B' H', Gr B H B' H' → Rep K T B' (res y) v → Q v H'
theorem ev_callD {α : Type} {ks : α → List Str} {f : α → Str → D} {r : α → D} {pre : α → Prop} {res : α → D} {c : Cn} {x : Str} {k : Nat} {ps : List Str} (G : Good c x k ps (SpD c.K T ks f r pre res)) (y : α) (hc : cnOf X = c) (hr : Room k X.A) (ha : EvD T X a ρ (ks y) (f y)) (hb : EvE T X b ρ (r y)) (hp : pre y)
    (hg : Gl X x := by rfl) (hdb : (x == ("__debug__" : Str)) = false := by decide) (he : starEach [a, b] X.env = (false, eval a X.env) :: starEach [b] X.env := by rfl) (he2 : starEach [b] X.env = (false, eval b X.env) :: starEach [] X.env := by rfl) (hpl : (backTo pos (starEach [b] X.env)).any (·.1) = false := by rfl) :
    EvE T X (.Call (.Name x p) [a, b] [] pos) ρ (res y) := fun _ _ _ _ hρ Q q => by
  subst hc
  obtain ⟨fa, fd, hm, hk, hb', F⟩ := G
  refine we (pe_call (dvs := []) F hr hg hm hk hb' .nil pass0 (pa_cons pe_we (pa_cons pe_we pa_nil he2) he) hdb he hpl) (ha _ _ _ _ hρ _ fun l us B1 H1 g1 hl hb1 h1 hok r1 => hb _ _ _ _ (hρ.gr g1) _ fun v2 B2 H2 g2 r2 => ?_)
  exact ⟨y, B2, l, us, v2, rfl, g2.s, g2.h _ _ h1, g2.f _ _ h1 hb1, hok, r1.mono g2.b, r2, hp, fun v B3 H3 g3 r3 => q _ _ _ ((g1.trans g2).trans g3) r3⟩
theorem good_defD {α : Type} {ks : α → List Str} {f : α → Str → D} {r : α → D} {pre : α → Prop} {res : α → D} {c : Cn} {x x1 x2 : Str} {st : Stmt} {N : List Str} {k : Nat} (h : DefAt c x st) (S : FnScope (x1 :: x2 :: N) [x1, x2] (defScope st)) (hb : BindN x x st [x1, x2])
    (body : ∀ (f0 : Addr) (cdv : Value) (A : Around) (outer : List Env) (s : Shared) (H : Hp) (E : XK), Room k (bodyX c (x1 :: x2 :: N) x (defScope st) f0 cdv A outer s H E).A → ∀ y, pre y →
      WB (ca c.K) (bodyX c (x1 :: x2 :: N) x (defScope st) f0 cdv A outer s H E) (defBody st) (Sl.dc (ks y) ((ks y).map (f y)) :: Sl.va (r y) :: List.replicate N.length .un) { nx := fun _ => res y = .non, rt := fun d => d = res y }) :
    Good c x (k + 1) [x1, x2] (SpD c.K (ca c.K) ks f r pre res) := by
  obtain ⟨f0, fd, hm, F⟩ := h
  refine good_of F hm (F.bindsN hb) (F.ok S (fun vs H Q E h => ?_) fun cdv A outer s H vs Q E hr h => ?_)
  · obtain ⟨y, B, l, us, v2, rfl, _⟩ := h
    rfl
  · obtain ⟨y, B, l, us, v2, rfl, hs, hl, hbl, hok, r1, r2, hp, q⟩ := h
    refine ⟨WS (bodyX c (x1 :: x2 :: N) x (defScope st) f0 cdv A outer s H E) (defBody st), PSs.nox pss_ws, ?_⟩
    have fr : ∀ {B' H' : Hp}, Frm ⟨fun _ => False, fun _ => True, B, H⟩ B' H' → Gr B H B' H' := fun {B' H'} fr => ⟨fr.b, fun a o h => fr.h a o h fun z => z, fr.s, fr.f⟩
    have start : EnvR c.K (ca c.K) ⟨fun _ => False, fun _ => True, B, H⟩ (L2.start (x1 :: x2 :: N) [.ref l, v2]) B H (Sl.dc (ks y) ((ks y).map (f y)) :: Sl.va (r y) :: List.replicate N.length .un) := by
      refine ⟨⟨hs, Ex.refl _, fun a o h _ => h, fun a o _ n => n⟩, fun a h => False.elim h, fun a h => False.elim h, ?_, fun i sl h => ?_, fun i j ds' es l' hij h1 _ _ => ?_⟩
      · unfold L2.start
        simp
      · match i, h with
        | 0, h =>
          have h : some (Sl.dc (ks y) ((ks y).map (f y))) = some sl := h
          cases h
          exact ⟨l, us, rfl, hl, hbl, by rw [← r1.length, List.length_map], hok, r1⟩
        | 1, h =>
          have h : some (Sl.va (r y)) = some sl := h
          cases h
          exact ⟨v2, rfl, r2⟩
        | i + 2, h =>
          have h : (List.replicate N.length Sl.un)[i]? = some sl := h
          rw [List.getElem?_replicate] at h
          split at h
          · cases h
            exact True.intro
          · cases h
      · match i, h1 with
        | 0, h1 =>
          have h1 : some (Sl.dc (ks y) ((ks y).map (f y))) = some (Sl.ow ds') := h1
          cases h1
        | 1, h1 =>
          have h1 : some (Sl.va (r y)) = some (Sl.ow ds') := h1
          cases h1
        | i + 2, h1 =>
          have h1 : (List.replicate N.length Sl.un)[i]? = some (Sl.ow ds') := h1
          rw [List.getElem?_replicate] at h1
          split at h1 <;> cases h1
    exact body f0 cdv A outer s H E hr y hp _ _ _ _ _ start ⟨fun σ B' H' ρ hρ e => q _ _ _ (fr hρ.fr) (by rw [e]; exact .non), fun v B' H' d hf _ r e => q _ _ _ (fr hf) (by rw [← e]; exact r), fun _ _ _ _ _ z => z.elim, fun _ _ _ _ _ z => z.elim⟩
end
end
end PL
/-! R8: [.. for .. in d.values()]; tuple < tuple; list * int -/
namespace PL
open PySem PySem.Spec PyProof.Rows L2
section
variable {T : CA} {X : Cx} {ρ ρl : List Sl} {a b c e o tg elt : Expr} {es : List Expr} {d r da db : D} {ds : List D} {i j : Int} {pos p apos p1 cpos : Pos} {scope : Scope}
/-- the dict at l locked: the same environment, the dict's slot forgotten -/
theorem EnvR.locked {E : Ent} {σ : L2.St} {B H : Hp} {l : Addr} {u : HO} {od : Obj} {K : PySem.W.Frag} {n : Nat} {ks : List Str} {kvs : List (Key × V)} (h : EnvR K T E σ B H ρ) (hn : ρ[n]? = some (.dc ks ds)) (hl : H l = some (.dK kvs)) (hb : B l = none) (hns : ∀ (i : Nat) (ws : List D), ρ[i]? ≠ some (.ow ws)) (hnd : ∀ (i : Nat) (js : List Str) (ws : List D), i ≠ n → ρ[i]? ≠ some (.dc js ws)) (hnu : ∀ (i m : Nat), ρ[i]? ≠ some (.ur m)):
    EnvR K T ⟨fun _ => False, fun _ => True, upd B l (.frz od (.dK kvs)), upd H l (.frz od (.dK kvs))⟩ σ (upd B l (.frz od (.dK kvs))) (upd H l (.frz od (.dK kvs))) (ρ.set n .un) := by
  have eb : Ex B (upd B l (.frz od (.dK kvs))) := .new hb
  refine ⟨⟨fun a o ha => ?_, Ex.refl _, fun a o ha _ => ha, fun a o _ n => n⟩, fun a h => False.elim h, fun a h => False.elim h, by rw [List.length_set]; exact h.len, fun i s e => ?_, fun i j ws zs m hij h1 _ _ => ?_⟩
  · by_cases z : a = l
    · rw [z, upd_same] at ha ⊢
      exact ha
    · rw [upd_ne z] at ha ⊢
      exact h.bh a o ha
  · by_cases z : n = i
    · subst z
      by_cases hi : n < ρ.length
      · rw [List.getElem?_set_self hi] at e
        cases e
        exact True.intro
      · rw [List.getElem?_eq_none (by rw [List.length_set]; omega)] at e
        cases e
    · rw [List.getElem?_set_ne z] at e
      have q := h.at_ i s e
      cases s with
      | un => exact True.intro
      | rf v => exact q
      | va d =>
        obtain ⟨v, h1, h2⟩ := q
        exact ⟨v, h1, h2.mono eb⟩
      | ow ws => exact absurd e (hns i ws)
      | dc js ws => exact absurd e (hnd i js ws (Ne.symm z))
      | ur m => exact absurd e (hnu i m)
  · by_cases z : n = i
    · subst z
      by_cases hi : n < ρ.length
      · rw [List.getElem?_set_self hi] at h1
        cases h1
      · rw [List.getElem?_eq_none (by rw [List.length_set]; omega)] at h1
        cases h1
    · rw [List.getElem?_set_ne z] at h1
      exact absurd h1 (hns i ws)
theorem itd_ok {K : PySem.W.Frag} {l : Addr} {od : Obj} {ks : List Str} {vs : List V} {B : Hp} (h : B l = some (.frz od (.dK ((ks.map Sum.inr).zip vs)))) (hl : ks.length = vs.length) (r : Reps K T B ds vs) : ItOk K T (Itd l od ((ks.map Sum.inr).zip vs)) B ds := fun B2 H2 e s => by
  have hz : ((ks.map (Sum.inr : Str → Key)).zip vs).length = vs.length := by rw [List.length_zip, List.length_map, hl]; omega
  refine ⟨fun i d hd => ?_, ⟨s _ _ (e _ _ h), by rw [hz, r.length]; exact Nat.le_refl _⟩⟩
  obtain ⟨v, hv, rv⟩ := r.getD hd
  have hi : i < vs.length := (List.getElem?_eq_some_iff.mp hv).1
  refine ⟨⟨s _ _ (e _ _ h), by rw [hz]; exact hi⟩, fun x H' y => ?_⟩
  obtain ⟨e1, k, e2⟩ := y
  subst e1
  rw [List.getElem?_zip_eq_some] at e2
  obtain ⟨_, e3⟩ := e2
  rw [hv] at e3
  cases e3
  exact ⟨B2, .refl s, rv.mono e⟩
/-- [test for .. in d.values()], the dict read while it is locked -/
theorem en_lcV {x : Str} {px : Pos} {enc : D → D} {f : D → Bool} (n : Nat) {ks : List Str} (hc : X.calm = true) (hN : X.N.Nodup) (own : List (Str × Nat)) (ok : BlkOk X.N X.env.scope scope own) (hNx : X.N[n]? = some x) (hv : Vis X.env.scope x) (hρn : ρ[n]? = some (.dc ks ds)) (hns : ∀ (i : Nat) (ws : List D), ρ[i]? ≠ some (.ow ws)) (hnd : ∀ (i : Nat) (js : List Str) (ws : List D), i ≠ n → ρ[i]? ≠ some (.dc js ws)) (hnu : ∀ (i m : Nat), ρ[i]? ≠ some (.ur m))
    (h : LcOk T X (ρ.set n .un) elt tg [] scope (own.map (·.2)) (fun d : D => d) (fun _ => true) (fun d => .bl (f d)) ds) (hz : ds.length ≤ 100000)
    (hbase : attributeBase (.Name x px) "values" X.env (eval (.Name x px) X.env) = eval (.Name x px) X.env := by rfl) (hline : (apos.endLine == cpos.line) = true := by rfl) (hd : (x == ("__debug__" : Str)) = false := by decide) (hcd : (x == ("__classdict__" : Str)) = false := by decide)
    (hs : ∀ v, foldedSetIterable (.Call (.Attribute (.Name x px) "values" apos) [] [] cpos) X.env v = pure v := by intro _; rfl) :
    EvN T X (.ListComp elt [⟨tg, .Call (.Attribute (.Name x px) "values" apos) [] [] cpos, [], 0⟩] scope pos) ρ (ds.map fun d => .bl (f d)) := fun E σ B H hρ Q q => by
  obtain ⟨l, us, e1, e2, e3, e4, e5, e6⟩ := hρ.at_ n _ hρn
  refine we (pe_lock (pe_lc (own := own) (g := gB X scope tg) (tt := tB X scope []) (te := eB X scope elt) hc hN pi_wi ok (fun s H0 C cl fp => ⟨fun pins s1 σ1 H1 v u Q I r h => h s H0 C cl fp pins s1 u I r⟩) (fun s H0 C cl fp => ⟨fun pins s1 σ1 H1 Q I h => h s H0 C cl fp pins s1 I⟩)
    (fun s H0 C cl fp => ⟨fun pins s1 σ1 H1 Q I h => h s H0 C cl fp pins s1 I⟩) hs)) ⟨l, _, e2, True.intro, fun od => ?_⟩
  have hl := EnvR.locked (u := .dK ((ks.map Sum.inr).zip us)) (od := od) hρ hρn e2 e3 hns hnd hnu
  have eb : Ex B (upd B l (.frz od (.dK ((ks.map Sum.inr).zip us)))) := .new e3
  have hi : ∀ (E' : Ent) (σ' : L2.St) (B' H' : Hp), EnvR X.K T E' σ' B' H' (ρ.set n .un) → Ex (upd B l (.frz od (.dK ((ks.map Sum.inr).zip us)))) B' → σ' = σ → ∀ R : It → Hp → Prop, (∀ J B2 H2, Gr B' H' B2 H2 → ItOk X.K T J B2 ds → R J H2) → WI X tg (.Call (.Attribute (.Name x px) "values" apos) [] [] cpos) σ' H' R := fun E' σ' B' H' hρ' hb' es R hR => by
    subst es
    have hbl : B' l = some (.frz od (.dK ((ks.map Sum.inr).zip us))) := hb' _ _ upd_same
    exact wi (pi_values (pe_var hNx hv hd hcd) hbase hline) ⟨.ref l, e1, l, od, _, rfl, hρ'.bh _ _ hbl, hR _ _ _ (.refl hρ'.bh) (itd_ok hbl e4 (e6.mono (eb.trans hb')))⟩
  have lc := lc_readG (α := D) (enc := fun d => d) (p := fun _ => true) (f := fun d => .bl (f d)) (xs := ds) (fun R hR => hi _ _ _ _ hl (Ex.refl _) rfl R (by rw [List.map_id'] at hR; exact hR)) h hz hl (Q := fun v H' => H' l = some (.frz od (.dK ((ks.map Sum.inr).zip us))) ∧ Q v (upd H' l (.dK ((ks.map Sum.inr).zip us)))) fun p2 vs B' H' g hp hb h1 rr => ?_
  · exact lc
  · have hl' : H' l = some (.frz od (.dK ((ks.map Sum.inr).zip us))) := g.s _ _ (g.b _ _ upd_same)
    have hne : p2 ≠ l := fun z => by
      rw [z, upd_same] at hp
      cases hp
    have hp' : H p2 = none := by
      rw [upd_ne hne] at hp
      exact hp
    refine ⟨hl', q p2 vs B _ ⟨Ex.refl _, fun a o ea => ?_, fun a o ea => ?_, fun a o _ n => n⟩ hp' (hρ.bh.none hp') (by rw [upd_ne hne]; exact h1) ?_⟩
    · by_cases z : a = l
      · rw [z, e2] at ea
        rw [z, upd_same]
        exact ea
      · rw [upd_ne z]
        exact g.h a o (by rw [upd_ne z]; exact ea)
    · have z : a ≠ l := fun z => by
        rw [z, e3] at ea
        cases ea
      rw [upd_ne z]
      exact g.s _ _ (g.b _ _ (eb _ _ ea))
    · have ek : keepF (fun _ => true) (fun d => D.bl (f d)) ds = (ds.map f).map D.bl := by
        unfold keepF
        rw [List.filter_eq_self.mpr fun _ _ => rfl, List.map_map]
        rfl
      rw [ek] at rr
      have e7 := rr.bls
      subst e7
      have : (ds.map fun d => D.bl (f d)) = (ds.map f).map D.bl := by rw [List.map_map]; rfl
      rw [this]
      exact reps_bls _
end
end PL
/-! R9: attributes stored while an instance is made -/
namespace PL
open PySem PySem.Spec PyProof.Rows L2
section
variable {T : CA} {X : Cx} {ρ : List Sl} {σ : L2.St} {B H B0 H0 : Hp} {x C dx : Addr} {fs fs' : List (Str × V)} {d da db : D} {e a b : Expr} {f f2 : Str} {K : PySem.W.Frag} {rest : List Stmt} {De : Ends}
/-- the instance at x, being made, holds fs -/
abbrev EI (x C dx : Addr) (fs : List (Str × V)) (B0 H0 : Hp) : Ent := ⟨fun a => a = x, fun o => o = .ins C dx fs, B0, H0⟩
theorem EnvR.inst (h : EnvR K T (EI x C dx fs B0 H0) σ B H ρ) : H x = some (.ins C dx fs) ∧ B x = none := by
  obtain ⟨o, h1, h2, h3⟩ := h.em x rfl
  have h2 : o = .ins C dx fs := h2
  rw [h2] at h1
  exact ⟨h1, h3⟩
theorem EnvR.store (h : EnvR K T (EI x C dx fs B0 H0) σ B H ρ) : EnvR K T (EI x C dx fs' B0 H0) σ B (upd H x (.ins C dx fs')) ρ := by
  obtain ⟨hx, hb⟩ := h.inst
  refine ⟨⟨fun a o ha => ?_, h.fr.b, fun a o ha hm => ?_, h.fr.f⟩, fun a m => ?_, h.e0, h.len, fun i s es => ?_, h.ap⟩
  · have z : a ≠ x := fun z => by
      rw [z, hb] at ha
      cases ha
    rw [upd_ne z]
    exact h.fr.s a o ha
  · have z : a ≠ x := hm
    rw [upd_ne z]
    exact h.fr.h a o ha hm
  · have m : a = x := m
    rw [m]
    exact ⟨_, upd_same, rfl, hb⟩
  · have q := h.at_ i s es
    cases s with
    | un => exact True.intro
    | rf v => exact q
    | va d => exact q
    | ow ws =>
      obtain ⟨l, vs, q1, q2, q3, q4, q5⟩ := q
      have z : l ≠ x := fun z => by
        rw [z, hx] at q2
        cases q2
      exact ⟨l, vs, q1, by rw [upd_ne z]; exact q2, q3, q4, q5⟩
    | dc ks ws =>
      obtain ⟨l, vs, q1, q2, q3, q4⟩ := q
      have z : l ≠ x := fun z => by
        rw [z, hx] at q2
        cases q2
      exact ⟨l, vs, q1, by rw [upd_ne z]; exact q2, q3, q4⟩
    | ur n =>
      obtain ⟨l, o, F, q1, q2, q3, q4, q5, q6⟩ := q
      have z : l = x := q2.1
      rw [z, hx] at q4
      cases q4
      obtain ⟨_, _, _, e, _⟩ := q5
      cases e
theorem init_end {res : D} (h : EnvR K T (EI x C dx fs B0 H0) σ B H ρ) (hr : ∀ B', Ex B B' → B' x = some (.ins C dx fs) → Rep K T B' res (.ref x)) (hd : ∀ σ' B' H', GrX x B0 H0 B' H' → Rep K T B' res (.ref x) → De.nx σ' H') : De.nx σ H := by
  obtain ⟨hx, hb⟩ := h.inst
  have eb : Ex B (upd B x (.ins C dx fs)) := .new hb
  refine hd σ (upd B x (.ins C dx fs)) H ⟨h.fr.b.trans eb, fun a o hm ha => h.fr.h a o ha hm, fun a o ha => ?_, fun a o hm ha hn => ?_⟩ (hr _ eb upd_same)
  · by_cases z : a = x
    · rw [z, upd_same] at ha
      rw [z, hx]
      exact ha
    · rw [upd_ne z] at ha
      exact h.fr.s a o ha
  · rw [upd_ne hm]
    exact h.fr.f a o ha hn
variable {pos p1 pos' apos px : Pos} {i : Nat} {self : Str}
/-- self.f = e -/
theorem w_fldI (hN : X.N[i]? = some self) (hv : Vis X.env.scope self) (hi : ρ[i]? = some (.rf (.ref x))) (cl : Cls X.K C) (hno : NoAttr X.K C f) (he : EvE T X e ρ d) (hρ : EnvR X.K T (EI x C dx fs B0 H0) σ B H ρ) (hl : fs.length < 1000)
    (q : ∀ v B' H', Ex B B' → Rep X.K T B' d v → EnvR X.K T (EI x C dx (putF f v fs) B0 H0) σ B' H' ρ → De.nx σ H')
    (hs : swapsWith e (some (.Attribute (.Name self px) f pos')) pos.line X.env = pure false := by rfl) (hd : (self == ("__debug__" : Str)) = false := by decide) (hcd : (self == ("__classdict__" : Str)) = false := by decide) :
    WS1 X (.Assign [.Attribute (.Name self px) f pos'] e pos) De σ H := ws1 (ps_fld (pe_var hN hv hd hcd) pe_we hs) (he _ _ _ _ hρ _ fun v B1 H1 g1 r1 => by
  have h1 := hρ.gr g1
  exact ⟨.ref x, h1.at_ i _ hi, x, C, dx, fs, rfl, h1.inst.1, cl, hno, hl, q v B1 _ g1.b r1 h1.store⟩)
/-- self.f = e, e raw -/
theorem w_fldW (hN : X.N[i]? = some self) (hv : Vis X.env.scope self) (hi : ρ[i]? = some (.rf (.ref x))) (cl : Cls X.K C) (hno : NoAttr X.K C f) (hρ : EnvR X.K T (EI x C dx fs B0 H0) σ B H ρ) (hl : fs.length < 1000)
    (he : ∀ Q : VK, (∀ v B' H', Gr B H B' H' → Rep X.K T B' d v → Q v H') → WE X e σ H Q) (q : ∀ v B' H', Ex B B' → Rep X.K T B' d v → EnvR X.K T (EI x C dx (putF f v fs) B0 H0) σ B' H' ρ → De.nx σ H')
    (hs : swapsWith e (some (.Attribute (.Name self px) f pos')) pos.line X.env = pure false := by rfl) (hd : (self == ("__debug__" : Str)) = false := by decide) (hcd : (self == ("__classdict__" : Str)) = false := by decide) :
    WS1 X (.Assign [.Attribute (.Name self px) f pos'] e pos) De σ H := ws1 (ps_fld (pe_var hN hv hd hcd) pe_we hs) (he _ fun v B1 H1 g1 r1 => by
  have h1 := hρ.gr g1
  exact ⟨.ref x, h1.at_ i _ hi, x, C, dx, fs, rfl, h1.inst.1, cl, hno, hl, q v B1 _ g1.b r1 h1.store⟩)
/-- self.f read -/
theorem we_fldI (hN : X.N[i]? = some self) (hv : Vis X.env.scope self) (hi : ρ[i]? = some (.rf (.ref x))) (cl : Cls X.K C) (hno : NoAttr X.K C f) (hρ : EnvR X.K T (EI x C dx fs B0 H0) σ B H ρ) {v : V} (hl : fs.lookup f = some v) {Q : VK} (q : Q v H)
    (hab : attributeBase (.Name self px) f X.env (eval (.Name self px) X.env) = eval (.Name self px) X.env := by rfl) (hd : (self == ("__debug__" : Str)) = false := by decide) (hcd : (self == ("__classdict__" : Str)) = false := by decide) :
    WE X (.Attribute (.Name self px) f pos) σ H Q := we (pe_fld (pe_var hN hv hd hcd) hab) ⟨.ref x, hρ.at_ i _ hi, x, C, dx, fs, v, rfl, hρ.inst.1, cl, hno, hl, q⟩
/-- self.f, self.f2 = a, b -/
theorem w_fld2I {kt k2 : Nat} {pt pt2 pos'' px2 : Pos} (hc : X.calm = true) (hN : X.N[i]? = some self) (hv : Vis X.env.scope self) (hi : ρ[i]? = some (.rf (.ref x))) (cl : Cls X.K C) (hno : NoAttr X.K C f) (hno2 : NoAttr X.K C f2) (he : EvE T X (.Tuple [a, b] k2 pt2) ρ (.tup [da, db])) (hρ : EnvR X.K T (EI x C dx fs B0 H0) σ B H ρ) (hl : fs.length < 900)
    (q : ∀ v w B' H', Ex B B' → Rep X.K T B' da v → Rep X.K T B' db w → EnvR X.K T (EI x C dx (putF f2 w (putF f v fs)) B0 H0) σ B' H' ρ → De.nx σ H')
    (hs : swapsWithSole [.Tuple [.Attribute (.Name self px) f pos', .Attribute (.Name self px2) f2 pos''] kt pt] (.Tuple [a, b] k2 pt2) pos.line X.env = pure false := by rfl) (hw : swappedStores [.Tuple [.Attribute (.Name self px) f pos', .Attribute (.Name self px2) f2 pos''] kt pt] (.Tuple [a, b] k2 pt2) X.env = pure none := by rfl)
    (h1 : (assignEach [.Tuple [.Attribute (.Name self px) f pos', .Attribute (.Name self px2) f2 pos''] kt pt] X.env).map (·.2) = [assign (.Tuple [.Attribute (.Name self px) f pos', .Attribute (.Name self px2) f2 pos''] kt pt) X.env] := by rfl)
    (hpg : ∀ to to2 : TE, PE X (.Name self px) to → PE X (.Name self px2) to2 → PG X (.Tuple [.Attribute (.Name self px) f pos', .Attribute (.Name self px2) f2 pos''] kt pt) (gTup X.K 2 (gCons (gAt X.K to f) (gCons (gAt X.K to2 f2) gNil))) := by exact fun to to2 h h2 => pg_tup rfl (pgs_cons (pg_at h) (pgs_cons (pg_at h2) pgs_nil)))
    (hd : (self == ("__debug__" : Str)) = false := by decide) (hcd : (self == ("__classdict__" : Str)) = false := by decide) :
    WS1 X (.Assign [.Tuple [.Attribute (.Name self px) f pos', .Attribute (.Name self px2) f2 pos''] kt pt] (.Tuple [a, b] k2 pt2) pos) De σ H := ws1 (ps_asg pe_we (hpg _ _ (pe_var hN hv hd hcd) (pe_var hN hv hd hcd)) hs hw h1) (he _ _ _ _ hρ _ fun v B1 H1 g1 r1 => by
  have e1 := hρ.gr g1
  cases r1 with
  | tup t1 r2 =>
    cases r2 with
    | cons ra r3 =>
      cases r3 with
      | cons rb r4 =>
        cases r4
        have len : ∀ u : V, (putF f u fs).length < 1000 := fun u => by
          have : ∀ fs : List (Str × V), (putF f u fs).length ≤ fs.length + 1 := fun fs => by
            induction fs with
            | nil => exact Nat.le_refl _
            | cons p r ih =>
              obtain ⟨g, y⟩ := p
              show (if g = f then _ else _ : List (Str × V)).length ≤ _
              split
              · simp
              · simp only [List.length_cons]
                omega
          have := this fs
          omega
        refine ⟨_, _, rfl, exT e1.bh t1, rfl, _, _, rfl, .ref x, e1.at_ i _ hi, x, C, dx, fs, rfl, e1.inst.1, cl, hno, by omega, _, _, rfl, .ref x, e1.at_ i _ hi, x, C, dx, _, rfl, upd_same, cl, hno2, len _, rfl, q _ _ B1 _ g1.b ra rb (EnvR.store (EnvR.store e1))⟩)
end
end PL
/-! M0: forms as plain data, how they are told as D, when two are equal -/
namespace PL
open PySem PySem.Spec PyProof.Rows L2
abbrev Rm := Option Int
abbrev En := Str × Option Str × Rm
abbrev Fm := List En × (Bool × Rm)
def encS : Option Str → D
  | none => .non
  | some x => .str x
def encE (e : En) : D := .tup [.str e.1, encS e.2.1, encO e.2.2]
def encP (p : Bool × Rm) : D := .tup [.bl p.1, encO p.2]
def encT (p : Option Str × Rm) : D := .tup [encS p.1, encO p.2]
def encF (F : Fm) : D := .tup [.tup (F.1.map encE), encP F.2]
def encNs (ns : List Str) : D := .lst (ns.map D.str)
def encNt (ns : List Str) : D := .tup (ns.map D.str)
def nothingM : Fm := ([], (false, some 0))
def startM : Fm := ([], (true, none))
def entryM (F : Fm) (n : Str) : Option Str × Rm := match F.1.find? (fun e => decide (e.1 = n)) with
  | some e => e.2
  | none => (if F.2.1 = true then some n else none, F.2.2)
def sideM (F : Fm) (n : Str) : Bool × Rm := ((entryM F n).1.isSome, (entryM F n).2)
def namesM (F : Fm) : List Str := F.1.map (·.1) ++ F.1.filterMap (·.2.1)
def heightM (F : Fm) : Rm := if F.2.1 = true then F.2.2 else ((F.1.find? (fun e => e.2.1.isSome)).map (·.2.2)).getD (some 0)
theorem atI_nat {α : Type} {xs : List α} {i : Nat} (h : i < xs.length) : atI xs (i : Int) = xs[i]? := by
  unfold atI ixN
  rw [if_pos (by omega), if_pos (by omega), Int.toNat_natCast]
  rfl
theorem atI_zero {α : Type} {x : α} {xs : List α} : atI (x :: xs) 0 = some x := (atI_nat (i := 0) (by simp)).trans rfl
def formWithM (ks : List Str) (f : Str → Option Str × Rm) (r : Bool × Rm) : Fm :=
  if (!r.1 && ks.all fun k => (f k).1.isNone) = true then nothingM
  else (((ks.mergeSort leS).filter fun k => !decide (f k = (if r.1 = true then some k else none, r.2))).map fun k => (k, f k), r)
def entryBehindM (F G : Fm) (n : Str) : Option Str × Rm := match (entryM F n).1 with
  | none => (none, (entryM F n).2)
  | some x => ((entryM G x).1, lesserM (heightM F) (entryM G x).2)
def formBehindM (F G : Fm) : Fm := formWithM (dks (namesM F ++ namesM G)) (entryBehindM F G) (if F.2.1 = true then (G.2.1, lesserM F.2.2 G.2.2) else F.2)
def goneM (F : Fm) : List Rm := (F.1.filter fun e => e.2.1.isNone).map (·.2.2) ++ (if F.2.1 = true then [] else [F.2.2])
def greaterM (a b : Rm) : Rm := if mostM a b = true then b else a
theorem EvI.to {T : CA} {X : Cx} {tg iter : Expr} {ρ : List Sl} {ds ds' : List D} (h : EvI T X tg iter ρ ds) (q : ds = ds') : EvI T X tg iter ρ ds' := q ▸ h
/-! ### what == says of them -/
theorem encS_non (o : Option Str) : (encS o).isNon = o.isNone := by cases o <;> rfl
theorem encO_non (o : Rm) : (encO o).isNon = o.isNone := by cases o <;> rfl
theorem encS_py : ∀ a b : Option Str, PyData.eqv (encS a).py (encS b).py = decide (a = b)
  | none, none => by simp [encS, D.py, PyData.eqv]
  | none, some _ => by simp [encS, D.py, PyData.eqv]
  | some _, none => by simp [encS, D.py, PyData.eqv]
  | some x, some y => by
    show (x == y) = _
    rw [Bool.eq_iff_iff]
    simp
theorem encO_py : ∀ a b : Rm, PyData.eqv (encO a).py (encO b).py = decide (a = b)
  | none, none => by simp [encO, D.py, PyData.eqv]
  | none, some _ => by simp [encO, D.py, PyData.eqv]
  | some _, none => by simp [encO, D.py, PyData.eqv]
  | some x, some y => by
    show (x == y) = _
    rw [Bool.eq_iff_iff]
    simp
theorem str_py (a b : Str) : PyData.eqv (D.str a).py (D.str b).py = decide (a = b) := encS_py (some a) (some b) |>.trans (by simp)
theorem int_py (a b : Int) : PyData.eqv (D.int a).py (D.int b).py = decide (a = b) := encO_py (some a) (some b) |>.trans (by simp)
theorem bl_py (a b : Bool) : PyData.eqv (D.bl a).py (D.bl b).py = decide (a = b) := by cases a <;> cases b <;> rfl
theorem tup_py (xs ys : List D) : PyData.eqv (D.tup xs).py (D.tup ys).py = PyData.eqvAll (D.pys xs) (D.pys ys) := rfl
theorem cons_py (x y : D) (xs ys : List D) : PyData.eqvAll (D.pys (x :: xs)) (D.pys (y :: ys)) = (PyData.eqv x.py y.py && PyData.eqvAll (D.pys xs) (D.pys ys)) := rfl
theorem map_py {α : Type} [DecidableEq α] {enc : α → D} (h : ∀ a b, PyData.eqv (enc a).py (enc b).py = decide (a = b)) : ∀ xs ys : List α, PyData.eqvAll (D.pys (xs.map enc)) (D.pys (ys.map enc)) = decide (xs = ys)
  | [], [] => rfl
  | [], _ :: _ => rfl
  | _ :: _, [] => rfl
  | x :: xs, y :: ys => by
    rw [List.map_cons, List.map_cons, cons_py, h, map_py h xs ys, Bool.eq_iff_iff]
    simp
theorem encT_py (a b : Option Str × Rm) : PyData.eqv (encT a).py (encT b).py = decide (a = b) := by
  obtain ⟨a1, a2⟩ := a
  obtain ⟨b1, b2⟩ := b
  show PyData.eqvAll (D.pys [encS a1, encO a2]) (D.pys [encS b1, encO b2]) = _
  rw [cons_py, cons_py, encS_py, encO_py, Bool.eq_iff_iff]
  simp [D.pys, PyData.eqvAll]
theorem encP_py (a b : Bool × Rm) : PyData.eqv (encP a).py (encP b).py = decide (a = b) := by
  obtain ⟨a1, a2⟩ := a
  obtain ⟨b1, b2⟩ := b
  show PyData.eqvAll (D.pys [D.bl a1, encO a2]) (D.pys [D.bl b1, encO b2]) = _
  rw [cons_py, cons_py, bl_py, encO_py, Bool.eq_iff_iff]
  simp [D.pys, PyData.eqvAll]
theorem encE_py (a b : En) : PyData.eqv (encE a).py (encE b).py = decide (a = b) := by
  obtain ⟨a0, a1, a2⟩ := a
  obtain ⟨b0, b1, b2⟩ := b
  show PyData.eqvAll (D.pys [D.str a0, encS a1, encO a2]) (D.pys [D.str b0, encS b1, encO b2]) = _
  rw [cons_py, cons_py, cons_py, str_py, encS_py, encO_py, Bool.eq_iff_iff]
  simp [D.pys, PyData.eqvAll]
theorem encF_py (a b : Fm) : PyData.eqv (encF a).py (encF b).py = decide (a = b) := by
  obtain ⟨a1, a2⟩ := a
  obtain ⟨b1, b2⟩ := b
  show PyData.eqvAll (D.pys [D.tup (a1.map encE), encP a2]) (D.pys [D.tup (b1.map encE), encP b2]) = _
  rw [cons_py, cons_py, tup_py, map_py encE_py, encP_py, Bool.eq_iff_iff]
  simp [D.pys, PyData.eqvAll]
/-! ### all of it plain, not deep -/
theorem pls_map {α : Type} {enc : α → D} (h : ∀ a, (enc a).pl = true) : ∀ xs : List α, D.pls (xs.map enc) = true
  | [] => rfl
  | x :: xs => Bool.and_eq_true_iff.mpr ⟨h x, pls_map h xs⟩
theorem encS_pl (o : Option Str) : (encS o).pl = true := by cases o <;> rfl
theorem encO_pl (o : Rm) : (encO o).pl = true := by cases o <;> rfl
theorem encS_dp (o : Option Str) : (encS o).py.depth = 0 := by cases o <;> rfl
theorem encO_dp (o : Rm) : (encO o).py.depth = 0 := by cases o <;> rfl
theorem encE_pl (e : En) : (encE e).pl = true := by
  show D.pls [_, _, _] = true
  simp only [D.pls, encS_pl, encO_pl, D.pl, Bool.and_self]
theorem encP_pl (e : Bool × Rm) : (encP e).pl = true := by
  show D.pls [_, _] = true
  simp only [D.pls, encO_pl, D.pl, Bool.and_self]
theorem encT_pl (e : Option Str × Rm) : (encT e).pl = true := by
  show D.pls [_, _] = true
  simp only [D.pls, encS_pl, encO_pl, Bool.and_self]
theorem encF_pl (F : Fm) : (encF F).pl = true := by
  show D.pls [.tup (F.1.map encE), encP F.2] = true
  have h : (D.tup (F.1.map encE)).pl = true := pls_map encE_pl F.1
  simp only [D.pls, h, encP_pl, Bool.and_self]
theorem dps_map {α : Type} {enc : α → D} {n : Nat} (h : ∀ a, (enc a).py.depth ≤ n) : ∀ xs : List α, PyData.depthAll (D.pys (xs.map enc)) ≤ n
  | [] => Nat.zero_le _
  | x :: xs => by
    show max _ _ ≤ n
    exact Nat.max_le.mpr ⟨h x, dps_map h xs⟩
theorem dp_tup (xs : List D) : (D.tup xs).py.depth = PyData.depthAll (D.pys xs) + 1 := by simp [D.py, PyData.depth]
theorem dp_cons (x : D) (xs : List D) : PyData.depthAll (D.pys (x :: xs)) = max x.py.depth (PyData.depthAll (D.pys xs)) := by simp [D.pys, PyData.depthAll]
theorem dp_nil : PyData.depthAll (D.pys []) = 0 := by simp [D.pys, PyData.depthAll]
theorem dp_str (x : Str) : (D.str x).py.depth = 0 := by simp [D.py, PyData.depth]
theorem dp_bl (x : Bool) : (D.bl x).py.depth = 0 := by simp [D.py, PyData.depth]
theorem dp_int (x : Int) : (D.int x).py.depth = 0 := by simp [D.py, PyData.depth]
theorem encE_dp (e : En) : (encE e).py.depth ≤ 1 := by
  unfold encE
  rw [dp_tup, dp_cons, dp_cons, dp_cons, dp_nil, dp_str, encS_dp, encO_dp]
  exact Nat.le_refl _
theorem encP_dp (e : Bool × Rm) : (encP e).py.depth ≤ 1 := by
  unfold encP
  rw [dp_tup, dp_cons, dp_cons, dp_nil, dp_bl, encO_dp]
  exact Nat.le_refl _
theorem encT_dp (e : Option Str × Rm) : (encT e).py.depth ≤ 1 := by
  unfold encT
  rw [dp_tup, dp_cons, dp_cons, dp_nil, encS_dp, encO_dp]
  exact Nat.le_refl _
theorem encF_dp (F : Fm) : (encF F).py.depth ≤ 3 := by
  unfold encF
  rw [dp_tup, dp_cons, dp_cons, dp_nil, dp_tup]
  have h1 := dps_map encE_dp F.1
  have h2 := encP_dp F.2
  omega
theorem eqbl {a b : D} (h1 : a.pl = true) (h2 : b.pl = true) (h3 : a.py.depth ≤ 64) (h4 : b.py.depth ≤ 64) : Eqable a b := ⟨⟨h1, h2⟩, h3, h4⟩
theorem eqF (F G : Fm) : Eqable (encF F) (encF G) := eqbl (encF_pl _) (encF_pl _) (Nat.le_trans (encF_dp _) (by decide)) (Nat.le_trans (encF_dp _) (by decide))
theorem eqT (F G : Option Str × Rm) : Eqable (encT F) (encT G) := eqbl (encT_pl _) (encT_pl _) (Nat.le_trans (encT_dp _) (by decide)) (Nat.le_trans (encT_dp _) (by decide))
theorem eqP (F G : Bool × Rm) : Eqable (encP F) (encP G) := eqbl (encP_pl _) (encP_pl _) (Nat.le_trans (encP_dp _) (by decide)) (Nat.le_trans (encP_dp _) (by decide))
theorem eqO (a b : Rm) : Eqable (encO a) (encO b) := eqbl (encO_pl _) (encO_pl _) (by rw [encO_dp]; decide) (by rw [encO_dp]; decide)
theorem eqStr (a b : Str) : Eqable (.str a) (.str b) := eqbl rfl rfl (by rw [dp_str]; decide) (by rw [dp_str]; decide)
theorem eqInt (a b : Int) : Eqable (.int a) (.int b) := eqbl rfl rfl (by rw [dp_int]; decide) (by rw [dp_int]; decide)
end PL
/-! U1: the box of draws, which callees change -/
namespace PL
open PySem PySem.Spec PyProof.Rows L2
/-- e gives some d with P d; the environment becomes ρ' -/
def EvX (T : CA) (X : Cx) (e : Expr) (ρ ρ' : List Sl) (P : D → Prop) : Prop := ∀ E σ B H, EnvR X.K T E σ B H ρ → ∀ Q : VK, (∀ v B' H' d, EnvR X.K T E σ B' H' ρ' → Ex B B' → Rep X.K T B' d v → P d → Q v H') → WE X e σ H Q
def EaX (T : CA) (X : Cx) (es : List Expr) (ρ ρ' : List Sl) (P : List D → Prop) : Prop := ∀ E σ B H, EnvR X.K T E σ B H ρ → ∀ Q : List V → Hp → Prop, (∀ vs B' H' ds, EnvR X.K T E σ B' H' ρ' → Ex B B' → Reps X.K T B' ds vs → P ds → Q vs H') → WA X es σ H Q
def EtX (T : CA) (X : Cx) (e : Expr) (ρ ρ' : List Sl) (P : Bool → Prop) : Prop := ∀ E σ B H, EnvR X.K T E σ B H ρ → ∀ Q : Bool → Hp → Prop, (∀ z B' H', EnvR X.K T E σ B' H' ρ' → Ex B B' → P z → Q z H') → WT X e σ H Q
/-- what a call that changes the box at u leaves as it was -/
structure GrU (u : Addr) (B H B' H' : Hp) : Prop where
  b : Ex B B'
  h : ∀ a o, H a = some o → a ≠ u → H' a = some o
  s : Ex B' H'
  f : ∀ a o, H a = some o → B a = none → B' a = none
/-- a def whose first parameter is the box: of args x it gives some d with post x d and draws at most cost times -/
def SpU {α : Type} (K : PySem.W.Frag) (T : CA) (cost : Nat) (args : α → List D) (pre : α → Prop) (post : α → D → Prop) : Sp := fun vs H Q _ =>
  ∃ (x : α) (B : Hp) (u : Addr) (us : List V) (F : Nat) (o : HO), vs = .ref u :: us ∧ Ex B H ∧ B u = none ∧ H u = some o ∧ UrnO (F + cost) o ∧ Reps K T B (args x) us ∧ pre x ∧
    ∀ v d B' H' o', GrU u B H B' H' → H' u = some o' → UrnO F o' → Rep K T B' d v → post x d → Q v H'
theorem UrnO.le {m n : Nat} {o : HO} (h : UrnO n o) (l : m ≤ n) : UrnO m o := by
  obtain ⟨a, b, c, e, h1, h2⟩ := h
  exact ⟨a, b, c, e, h1, by omega⟩
section
variable {K : PySem.W.Frag} {T : CA} {X : Cx} {ρ ρ1 ρ2 ρ' : List Sl} {a b c e o : Expr} {es : List Expr} {d da db : D} {ds : List D} {i j : Int} {pos p p1 : Pos} {P P' : D → Prop}
/-- the box changed -/
theorem EnvR.urn {E : Ent} {σ : L2.St} {B H B' H' : Hp} {u : Addr} {n m F : Nat} {o o' : HO} {i : Nat} (x : EnvR K T E σ B H ρ) (hi : ρ[i]? = some (.ur (m + n))) (ho : ∀ j k, ρ[j]? = some (.ur k) → j = i) (hu : σ[i]? = some (some (.ref u))) (hm : E.M u ∧ ∀ a, E.M a → a = u) (hO : ∀ o, UrnO F o → E.O o) (hH : H u = some o) (hur : UrnO (F + (m + n)) o) (g : GrU u B H B' H') (h1 : H' u = some o') (h2 : UrnO (F + m) o') : EnvR K T E σ B' H' (ρ.set i (.ur m)) := by
  have hb : B u = none := by
    obtain ⟨_, _, _, b⟩ := x.em u hm.1
    exact b
  have hb' : B' u = none := g.f u o hH hb
  have hli : i < ρ.length := (List.getElem?_eq_some_iff.mp hi).1
  refine ⟨⟨g.s, x.fr.b.trans g.b, fun a v ha hn => ?_, fun a v ha hn => ?_⟩, fun a ma => ?_, x.e0, by rw [List.length_set]; exact x.len, fun k s es => ?_, fun k l ws zs q hkl f1 f2 f3 => ?_⟩
  · have z : a ≠ u := fun z => hn (by rw [z]; exact hm.1)
    exact g.h a v (x.fr.h a v ha hn) z
  · by_cases z : a = u
    · rw [z]
      exact hb'
    · by_cases mz : E.M a
      · exact absurd (hm.2 a mz) z
      · exact g.f a v (x.fr.h a v ha mz) (x.fr.f a v ha hn)
  · rw [hm.2 a ma]
    exact ⟨o', h1, hO _ (h2.le (Nat.le_add_right _ _)), hb'⟩
  · by_cases q : i = k
    · subst q
      rw [List.getElem?_set_self hli] at es
      cases es
      exact ⟨u, o', F, hu, hm, hO, h1, h2, hb'⟩
    · rw [List.getElem?_set_ne q] at es
      have z := x.at_ k s es
      cases s with
      | un => exact True.intro
      | rf v => exact z
      | va d =>
        obtain ⟨v, z1, z2⟩ := z
        exact ⟨v, z1, z2.mono g.b⟩
      | ow ws =>
        obtain ⟨l, zs, z1, z2, z3, z4, z5⟩ := z
        have ne : l ≠ u := fun y => x.e0 u hm.1 (by rw [← y]; exact z4)
        exact ⟨l, zs, z1, g.h _ _ z2 ne, g.f _ _ z2 z3, z4, z5.mono g.b⟩
      | dc ks ws =>
        obtain ⟨l, zs, z1, z2, z3, z4, z5, z6⟩ := z
        have ne : l ≠ u := fun y => by
          obtain ⟨_, _, _, e, _⟩ := hur
          rw [y, hH, e] at z2
          cases z2
        exact ⟨l, zs, z1, g.h _ _ z2 ne, g.f _ _ z2 z3, z4, z5, z6.mono g.b⟩
      | ur k' => exact absurd (ho k k' es) (Ne.symm q)
  · have back : ∀ {y : Nat} {cs : List D}, (ρ.set i (.ur m))[y]? = some (Sl.ow cs) → ρ[y]? = some (.ow cs) := fun {y cs} f => by
      by_cases q : i = y
      · subst q
        rw [List.getElem?_set_self hli] at f
        cases f
      · rw [List.getElem?_set_ne q] at f
        exact f
    exact x.ap k l ws zs q hkl (back f1) (back f2) f3
/-! ### rules -/
theorem ex_of (h : EvE T X e ρ d) (q : P d) : EvX T X e ρ ρ P := fun _ _ _ _ hρ _ k => h _ _ _ _ hρ _ fun _ _ _ g r => k _ _ _ _ (hρ.gr g) g.b r q
theorem EvX.mono (h : EvX T X e ρ ρ' P) (m : ∀ d, P d → P' d) : EvX T X e ρ ρ' P' := fun _ _ _ _ hρ _ k => h _ _ _ _ hρ _ fun v B H d h1 b r q => k v B H d h1 b r (m d q)
theorem EvX.env (h : EvX T X e ρ ρ1 P) (m : ρ1 = ρ2) : EvX T X e ρ ρ2 P := m ▸ h
theorem ea_of {Ps : List D → Prop} (h : EvA T X es ρ ds) (q : Ps ds) : EaX T X es ρ ρ Ps := fun _ _ _ _ hρ _ k => h _ _ _ _ hρ _ fun _ _ _ g r => k _ _ _ _ (hρ.gr g) g.b r q
theorem ea_consX {Ps : List D → Prop} (ha : EvX T X e ρ ρ1 P) (hr : ∀ d, P d → EaX T X es ρ1 ρ2 (fun ds => Ps (d :: ds))) (hs : starEach (e :: es) X.env = (false, eval e X.env) :: starEach es X.env := by rfl) : EaX T X (e :: es) ρ ρ2 Ps := fun _ _ _ _ hρ _ q =>
  wa (pa_cons pe_we pa_wa hs) (ha _ _ _ _ hρ _ fun _ _ _ d h1 b1 r1 p1 => hr d p1 _ _ _ _ h1 _ fun _ _ _ ds h2 b2 r2 p2 => q _ _ _ _ h2 (b1.trans b2) (.cons (r1.mono b2) r2) p2)
/-- no other slot holds a box -/
def urOne (ρ : List Sl) (i : Nat) : Prop := ∀ j k, ρ[j]? = some (.ur k) → j = i
/-- a call that may draw -/
theorem ex_call {c : Cn} {α : Type} {args : α → List D} {pre : α → Prop} {post : α → D → Prop} {x xu : Str} {k cost n : Nat} {ps : List Str} {pu : Pos} {Ps : List D → Prop} (i : Nat) (G : Good c x k ps (SpU c.K T cost args pre post)) (hc : cnOf X = c) (hr : Room k X.A)
    (hN : X.N[i]? = some xu) (hv : Vis X.env.scope xu) {m : Nat} (hi : ρ[i]? = some (.ur m)) (ha : EaX T X es ρ ρ1 Ps) (h1 : urOne ρ1 i) (hi1 : ρ1[i]? = some (.ur (n + cost))) (hy : ∀ ds, Ps ds → ∃ y, ds = args y ∧ pre y ∧ ∀ d, post y d → P d)
    (hg : Gl X x := by rfl) (hdb : (x == ("__debug__" : Str)) = false := by decide) (hdu : (xu == ("__debug__" : Str)) = false := by decide) (hcd : (xu == ("__classdict__" : Str)) = false := by decide)
    (he : starEach (.Name xu pu :: es) X.env = (false, eval (.Name xu pu) X.env) :: starEach es X.env := by rfl) (hpl : (backTo pos (starEach es X.env)).any (·.1) = false := by rfl) : EvX T X (.Call (.Name x p) (.Name xu pu :: es) [] pos) ρ (ρ1.set i (.ur n)) P := fun _ σ B H hρ Q q => by
  subst hc
  obtain ⟨f, fd, hm, hk, hb, F⟩ := G
  obtain ⟨u, _, _, hu, _⟩ := hρ.at_ i _ hi
  refine we (pe_call (dvs := []) F hr hg hm hk hb .nil pass0 (pa_cons pe_we pa_wa he) hdb he hpl) (we (pe_var hN hv hdu hcd) ⟨.ref u, hu, ha _ _ _ _ hρ _ fun vs B1 H1 ds hρ1 b1 r1 p1 => ?_⟩)
  obtain ⟨u', o, F0, hu', hm', hO, hH, hur, hB⟩ := hρ1.at_ i _ hi1
  rw [hu] at hu'
  cases hu'
  obtain ⟨y, rfl, hp, hpo⟩ := hy ds p1
  show SpU X.K T cost args pre post (.ref u :: vs ++ []) H1 Q E0
  rw [List.append_nil]
  refine ⟨y, B1, u, vs, F0 + n, o, rfl, hρ1.bh, hB, hH, hur.le (by omega), r1, hp, fun v d B2 H2 o' g ho' hu2 rv po => ?_⟩
  exact q v B2 H2 d (hρ1.urn hi1 h1 hu hm' hO hH hur g ho' hu2) (b1.trans g.b) rv (hpo d po)
/-! ### a def that draws -/
theorem env_startU {K : PySem.W.Frag} {B H : Hp} {n0 : Str} {N' : List Str} {ds : List D} {us : List V} {u : Addr} {F cost : Nat} {o : HO} (s : Ex B H) (hx : H u = some o) (hur : UrnO (F + cost) o) (hb : B u = none) (r : Reps K T B ds us) (hl : ds.length ≤ N'.length) :
    EnvR K T ⟨fun a => a = u, UrnO F, B, H⟩ (L2.start (n0 :: N') (.ref u :: us)) B H (.ur cost :: rho0 N'.length ds) := by
  have base := env_start (K := K) (T := T) s r hl
  have es : L2.start (n0 :: N') (.ref u :: us) = some (.ref u) :: L2.start N' us := by
    unfold L2.start
    simp
  rw [es]
  have no : ∀ (i : Nat) (es : List D), (rho0 N'.length ds)[i]? = some (Sl.ow es) → False := fun i es h => by
    unfold rho0 at h
    rw [List.getElem?_append] at h
    split at h
    · rw [List.getElem?_map] at h
      cases q : ds[i]? with
      | none =>
        rw [q] at h
        cases h
      | some d =>
        rw [q] at h
        cases h
    · rw [List.getElem?_replicate] at h
      split at h <;> cases h
  refine ⟨⟨s, Ex.refl _, fun a o h _ => h, fun a o _ n => n⟩, fun a h => ?_, fun a h => ?_, ?_, fun i sl h => ?_, fun i j ds' es l hij h1 _ _ => ?_⟩
  · have h : a = u := h
    rw [h]
    exact ⟨_, hx, hur.le (Nat.le_add_right _ _), hb⟩
  · have h : a = u := h
    rw [h]
    show H u ≠ none
    rw [hx]
    exact fun z => nomatch z
  · rw [List.length_cons, List.length_cons, base.len]
  · cases i with
    | zero =>
      have h : some (Sl.ur cost) = some sl := h
      cases h
      exact ⟨u, o, F, rfl, ⟨rfl, fun _ h => h⟩, fun _ h => h, hx, hur, hb⟩
    | succ i =>
      have h : (rho0 N'.length ds)[i]? = some sl := h
      have z := base.at_ i sl h
      cases sl with
      | un => exact True.intro
      | rf v => exact z
      | va d => exact z
      | ow ws => exact (no i ws h).elim
      | dc ks ws => exact z
      | ur n =>
        obtain ⟨_, _, _, _, m, _⟩ := z
        exact False.elim m.1
  · cases i with
    | zero =>
      have h1 : some (Sl.ur cost) = some (Sl.ow ds') := h1
      cases h1
    | succ i => exact (no i ds' h1).elim
/-- what is asked of a body that draws -/
def BodyU (c : Cn) (q : Str) (st : Stmt) (N : List Str) (k cost : Nat) {α : Type} (args : α → List D) (pre : α → Prop) (post : α → D → Prop) : Prop :=
  ∀ (f : Addr) (cdv : Value) (A : Around) (outer : List Env) (s : Shared) (H : Hp) (E : XK), Room k (bodyX c N q (defScope st) f cdv A outer s H E).A → ∀ y, pre y →
    WB (ca c.K) (bodyX c N q (defScope st) f cdv A outer s H E) (defBody st) (.ur cost :: rho0 (N.length - 1) (args y)) { nx := fun _ => False, rt := fun d => post y d }
theorem good_defU {c : Cn} {x : Str} {st : Stmt} {N' ps : List Str} {n0 : Str} {k cost : Nat} {α : Type} {args : α → List D} {pre : α → Prop} {post : α → D → Prop} (h : DefAt c x st) (S : FnScope (n0 :: N') ps (defScope st)) (hb : BindN x x st ps) (hl : ∀ y, (args y).length + 1 = ps.length) (hps : ps.length ≤ N'.length + 1) (body : BodyU c x st (n0 :: N') k cost args pre post) :
    Good c x (k + 1) ps (SpU c.K (ca c.K) cost args pre post) := by
  obtain ⟨f, fd, hm, F⟩ := h
  refine good_of F hm (F.bindsN hb) (F.ok S (fun vs H Q E h => ?_) (fun cdv A outer s H vs Q E hr h => ?_))
  · obtain ⟨y, B, u, us, _, _, rfl, _, _, _, _, r, _⟩ := h
    rw [List.length_cons, ← r.length, hl]
  · obtain ⟨y, B, u, us, F0, o, rfl, hs, hb', hx, hur, r, hp, q⟩ := h
    refine ⟨WS (bodyX c (n0 :: N') x (defScope st) f cdv A outer s H E) (defBody st), PSs.nox pss_ws, ?_⟩
    refine body f cdv A outer s H E hr y hp _ _ _ _ _ (env_startU hs hx hur hb' r (by have := hl y; omega)) ⟨fun _ _ _ _ _ z => z.elim, fun v B' H' d hf he rv po => ?_, fun _ _ _ _ _ z => z.elim, fun _ _ _ _ _ z => z.elim⟩
    obtain ⟨o', h1, h2, _⟩ := he u rfl
    exact q v d B' H' o' ⟨hf.b, fun a o ha hn => hf.h a o ha hn, hf.s, hf.f⟩ h1 h2 rv po
end
end PL
/-! U2: rules over EvX -/
namespace PL
open PySem PySem.Spec PyProof.Rows L2
section
variable {T : CA} {X : Cx} {ρ ρ1 ρ2 ρ' : List Sl} {a b c e o : Expr} {es : List Expr} {st : Stmt} {sts rest : List Stmt} {d da db : D} {ds : List D} {i j : Int} {pos p p1 : Pos} {P P' : D → Prop} {Po : Post}
theorem w_retX (h : EvX T X e ρ ρ' P) (q : ∀ d, P d → Po.rt d) : W1 T X (.Return (some e) pos) ρ Po := fun E _ _ _ D hρ F =>
  ws1 (ps_ret pe_we) (h _ _ _ _ hρ _ fun _ _ _ d h1 _ r p => F.rt _ _ _ _ h1.fr h1.em r (q d p))
theorem wb_retX (h : EvX T X e ρ ρ' P) (q : ∀ d, P d → Po.rt d) : WB T X (.Return (some e) pos :: rest) ρ Po := wb_cons (w_retX h q)
theorem w_setX (n : Nat) {x : Str} {pos' : Pos} (hN : X.N.Nodup) (hi : X.N[n]? = some x) (hx : Loc X.env.scope x) (h : EvX T X e ρ ρ' P) (q : ∀ d, P d → Po.nx (ρ'.set n (.va d))) (hs : swapsWith e (some (.Name x pos')) pos.line X.env = pure false := by rfl)
    (hf : X.fn x = true ∨ X.env.scope.names.lookup x = some .local := by first | exact .inl rfl | exact .inr rfl) : W1 T X (.Assign [.Name x pos'] e pos) ρ Po := fun E _ _ _ D hρ F =>
  ws1 (ps_set hN hi hx pe_we hs hf) (h _ _ _ _ hρ _ fun _ _ _ d h1 _ r p => F.nx _ _ _ _ (h1.set r) (q d p))
theorem w_ifX {Pz : Bool → Prop} (h : EtX T X c ρ ρ' Pz) (h1 : Pz true → WB T X sts ρ' Po) (h2 : Pz false → WB T X rest ρ' Po) : W1 T X (.If c sts rest pos) ρ Po := fun E _ _ _ D hρ F =>
  ws1 (ps_if pt_wt pss_ws pss_ws) (h _ _ _ _ hρ _ fun z _ _ g _ p => by
    cases z with
    | true => exact iteT (h1 p E _ _ _ D g F)
    | false => exact iteF (h2 p E _ _ _ D g F))
theorem ex_tup {k} {Ps : List D → Prop} (ha : EaX T X es ρ ρ' Ps) (hl : ∀ ds, Ps ds → ds.length ≤ 1000) (q : ∀ ds, Ps ds → P (.tup ds)) : EvX T X (.Tuple es k pos) ρ ρ' P := fun _ _ _ _ hρ _ k =>
  we (pe_tup pa_wa) (ha _ _ _ _ hρ _ fun vs B1 H1 ds h1 b1 r1 p1 => ⟨by rw [← r1.length, sizeLine_eq]; have := hl ds p1; omega, fun p hp => k _ _ _ _ (h1.gr (.new h1.bh hp)) (b1.trans (.new (h1.bh.none hp))) (.tup (.of upd_same) (r1.mono (.new (h1.bh.none hp)))) (q ds p1)⟩)
theorem ex_op {op : Operator} {r : R2} {Pa : D → Prop} {Pb : D → D → Prop} (ho : OpR X (binaryOp op) r) (ha : EvX T X a ρ ρ1 Pa) (hb : ∀ da, Pa da → EvX T X b ρ1 ρ2 (Pb da))
    (hr : ∀ da db, Pa da → Pb da db → ∀ B H x y Q, Ex B H → Rep X.K T B da x → Rep X.K T B db y → (∀ v B' H' d, Gr B H B' H' → Rep X.K T B' d v → P d → Q v H') → r x y H Q) : EvX T X (.BinOp a op b pos) ρ ρ2 P := fun _ _ _ _ hρ Q q =>
  we (pe_op ho pe_we pe_we) (ha _ _ _ _ hρ _ fun _ _ _ d1 h1 b1 r1 p1 => hb d1 p1 _ _ _ _ h1 _ fun _ _ _ d2 h2 b2 r2 p2 => hr d1 d2 p1 p2 _ _ _ _ Q h2.bh (r1.mono b2) r2 fun _ _ _ d3 g3 r3 p3 => q _ _ _ _ (h2.gr g3) ((b1.trans b2).trans g3.b) r3 p3)
/-- some int with p -/
def IntP (p : Int → Prop) (d : D) : Prop := ∃ i, d = .int i ∧ p i
theorem ex_add {f g h : Int → Prop} (ha : EvX T X a ρ ρ1 (IntP f)) (hb : EvX T X b ρ1 ρ2 (IntP g)) (q : ∀ i j, f i → g j → h (i + j)) : EvX T X (.BinOp a .Add b pos) ρ ρ2 (IntP h) :=
  ex_op op_add ha (fun _ _ => hb) fun da db pa pb _ _ _ _ _ s hx hy k => by
    obtain ⟨i, rfl, hi⟩ := pa
    obtain ⟨j, rfl, hj⟩ := pb
    exact r_int (d := .int (i + j)) s hx hy (.int _) fun v B' H' g r => k v B' H' _ g r ⟨_, rfl, q i j hi hj⟩
end
end PL
/-! U3: more rules over EvX: ints, the box's own cells, pops -/
namespace PL
open PySem PySem.Spec PyProof.Rows L2
section
variable {T : CA} {X : Cx} {ρ ρ1 ρ2 ρ3 ρ' : List Sl} {a b c e o : Expr} {es : List Expr} {st : Stmt} {sts rest : List Stmt} {d da db : D} {ds : List D} {i j : Int} {pos p p1 : Pos} {P P' : D → Prop} {Po : Post} {f g h : Int → Prop}
theorem ex_opI {op : Operator} {C : Int → Int → Prop} {G : Int → Int → Int} (ho : OpR X (binaryOp op) (rI C fun i j => .int (G i j))) (ha : EvX T X a ρ ρ1 (IntP f)) (hb : EvX T X b ρ1 ρ2 (IntP g)) (hc : ∀ i j, f i → g j → C i j) (q : ∀ i j, f i → g j → h (G i j)) : EvX T X (.BinOp a op b pos) ρ ρ2 (IntP h) :=
  ex_op ho ha (fun _ _ => hb) fun da db pa pb B H x y Q s hx hy k => by
    obtain ⟨i, rfl, hi⟩ := pa
    obtain ⟨j, rfl, hj⟩ := pb
    cases hx
    cases hy
    exact ⟨i, j, rfl, rfl, hc i j hi hj, k _ _ _ _ (.refl s) (.int _) ⟨_, rfl, q i j hi hj⟩⟩
theorem ex_int {k} (q : f i) : EvX T X (.Constant (.int i) k pos) ρ ρ (IntP f) := ex_of ev_int ⟨i, rfl, q⟩
theorem ex_ev (h1 : EvE T X e ρ (.int i)) (q : f i) : EvX T X e ρ ρ (IntP f) := ex_of h1 ⟨i, rfl, q⟩
theorem ex_callTy {x : Str} {id : String} {r : List V → Hp → VK → Prop} {Ps : List D → Prop} (hc : CallR X (.type id) r) (hm : X.mg x = none) (hv : bootBuiltins x = some (.type id)) (ha : EaX T X (e :: es) ρ ρ' Ps)
    (hr : ∀ ds B H vs Q, Ps ds → Ex B H → Reps X.K T B ds vs → (∀ v B' H' d, Gr B H B' H' → Rep X.K T B' d v → P d → Q v H') → r vs H Q) (hg : Gl X x := by rfl) (hn : x ≠ "__name__" := by decide) (hdb : (x == ("__debug__" : Str)) = false := by decide)
    (he : starEach (e :: es) X.env = (false, eval e X.env) :: starEach es X.env := by rfl) (hpl : (backTo pos (starEach es X.env)).any (·.1) = false := by rfl) : EvX T X (.Call (.Name x p) (e :: es) [] pos) ρ ρ' P := fun _ _ _ _ hρ Q q =>
  we (pe_callTy hc hg hm hv pa_wa hn hdb he hpl) (ha _ _ _ _ hρ _ fun _ _ _ ds h1 b1 r1 p1 => hr ds _ _ _ Q p1 h1.bh r1 fun _ _ _ _ g2 r2 pd => q _ _ _ _ (h1.gr g2) (b1.trans g2.b) r2 pd)
theorem ex_callB {x : Str} {id : String} {r : List V → Hp → VK → Prop} {Ps : List D → Prop} (hc : CallR X (.builtin id) r) (hm : X.mg x = none) (hv : bootBuiltins x = some (.builtin id)) (ha : EaX T X (e :: es) ρ ρ' Ps)
    (hr : ∀ ds B H vs Q, Ps ds → Ex B H → Reps X.K T B ds vs → (∀ v B' H' d, Gr B H B' H' → Rep X.K T B' d v → P d → Q v H') → r vs H Q) (hg : Gl X x := by rfl) (hn : x ≠ "__name__" := by decide) (hdb : (x == ("__debug__" : Str)) = false := by decide)
    (he : starEach (e :: es) X.env = (false, eval e X.env) :: starEach es X.env := by rfl) (hpl : (backTo pos (starEach es X.env)).any (·.1) = false := by rfl) : EvX T X (.Call (.Name x p) (e :: es) [] pos) ρ ρ' P := fun _ _ _ _ hρ Q q =>
  we (pe_callB hc hg hm hv pa_wa hn hdb he hpl) (ha _ _ _ _ hρ _ fun _ _ _ ds h1 b1 r1 p1 => hr ds _ _ _ Q p1 h1.bh r1 fun _ _ _ _ g2 r2 pd => q _ _ _ _ (h1.gr g2) (b1.trans g2.b) r2 pd)
theorem ea_oneX (ha : EvX T X e ρ ρ' P) (hs : starEach [e] X.env = (false, eval e X.env) :: starEach [] X.env := by rfl) : EaX T X [e] ρ ρ' (fun ds => ∃ d, ds = [d] ∧ P d) := ea_consX ha (fun d pd => ea_of ea_nil ⟨d, rfl, pd⟩) hs
theorem ex_intI (hm : X.mg "int" = none) (ha : EvX T X a ρ ρ' (IntP f)) (hg : Gl X "int" := by rfl) (he : starEach [a] X.env = (false, eval a X.env) :: starEach [] X.env := by rfl) : EvX T X (.Call (.Name "int" p) [a] [] pos) ρ ρ' (IntP f) := by
  refine ex_callTy call_int1 hm (by decide +kernel) (ea_oneX ha he) (fun ds B H vs Q pd s r q => ?_) hg (by decide) (by decide) he rfl
  obtain ⟨d, rfl, i, rfl, hi⟩ := pd
  cases r with
  | cons r1 r2 =>
    cases r2
    cases r1
    exact .inl ⟨_, rfl, q _ _ _ _ (.refl s) (.int _) ⟨_, rfl, hi⟩⟩
/-! ### tests -/
theorem etx_cmp {op : CmpOp} {r : R2} {Pa : D → Prop} {Pb : D → Prop} {Pz : Bool → Prop} (ho : OpR X (compareOp op) r) (ha : EvX T X a ρ ρ1 Pa) (hb : EvX T X b ρ1 ρ2 Pb) (hm : behindInMarks op b = false)
    (hr : ∀ da db, Pa da → Pb db → ∀ B H x y Q, Ex B H → Rep X.K T B da x → Rep X.K T B db y → (∀ z B' H', Gr B H B' H' → Pz z → Q (.bl z) H') → r x y H Q) : EtX T X (.Compare a [op] [b] pos) ρ ρ2 Pz := fun _ _ _ _ hρ Q q =>
  wt (pt_cmpR ho pe_we pe_we hm) (ha _ _ _ _ hρ _ fun _ _ _ d1 h1 b1 r1 p1 => hb _ _ _ _ h1 _ fun _ _ _ d2 h2 b2 r2 p2 => hr d1 d2 p1 p2 _ _ _ _ _ h2.bh (r1.mono b2) r2 fun z _ _ g3 pz => ⟨z, rfl, q z _ _ (h2.gr g3) ((b1.trans b2).trans g3.b) pz⟩)
theorem etx_gt (ha : EvX T X a ρ ρ1 (IntP f)) (hb : EvX T X b ρ1 ρ2 (IntP g)) : EtX T X (.Compare a [.Gt] [b] pos) ρ ρ2 (fun _ => True) := etx_cmp op_gt ha hb (nomark _) fun da db pa pb B H x y Q s hx hy q => by
  obtain ⟨i, rfl, hi⟩ := pa
  obtain ⟨j, rfl, hj⟩ := pb
  cases hx
  cases hy
  exact ⟨i, j, rfl, rfl, q _ _ _ (.refl s) True.intro⟩
theorem etx_eq (hu : X.A.units + 64 < cLine) (ha : EvX T X a ρ ρ1 (IntP f)) (hb : EvX T X b ρ1 ρ2 (IntP g)) : EtX T X (.Compare a [.Eq] [b] pos) ρ ρ2 (fun _ => True) := etx_cmp (op_eqD hu) ha hb (nomark _) fun da db pa pb B H x y Q s hx hy q => by
  obtain ⟨i, rfl, hi⟩ := pa
  obtain ⟨j, rfl, hj⟩ := pb
  exact r_eqD s hx hy rfl rfl (by rw [dp_int]; decide) (by rw [dp_int]; decide) fun v B' H' g r => by
    cases r
    exact q _ _ _ g True.intro
theorem etx_of {z : Bool} {Pz : Bool → Prop} (h1 : EvT T X e ρ z) (q : Pz z) : EtX T X e ρ ρ Pz := fun _ _ _ _ hρ _ k => h1 _ _ _ _ hρ _ fun _ _ g => k z _ _ (hρ.gr g) g.b q
/-- the value of a truth as a value -/
theorem etx_val {Pz : Bool → Prop} (h1 : EvX T X e ρ ρ1 (fun d => ∃ z, d = .bl z ∧ Pz z)) (he : ∀ whole, isTrue e X.env whole = (do let v ← whole; standAt e.pos; holding [v] (truthy v)) := by intro _; rfl) : EtX T X e ρ ρ1 Pz := fun _ _ _ _ hρ _ q =>
  wt (pt_val pe_we he) (h1 _ _ _ _ hρ _ fun _ _ _ d h2 b2 r2 p2 => by
    obtain ⟨z, rfl, pz⟩ := p2
    cases r2
    exact ⟨z, rfl, q z _ _ h2 b2 pz⟩)
theorem etx_not {Pz Py : Bool → Prop} (h1 : EtX T X a ρ ρ1 Pz) (m : ∀ z, Pz z → Py (!z)) : EtX T X (.UnaryOp .Not a pos) ρ ρ1 Py := fun _ _ _ _ hρ _ q => wt (pt_not pt_wt) (h1 _ _ _ _ hρ _ fun z _ _ g b1 pz => q (!z) _ _ g b1 (m z pz))
theorem ex_ifX {Pz : Bool → Prop} (h1 : EtX T X c ρ ρ1 Pz) (ha : EvX T X a ρ1 ρ2 P) (hb : EvX T X b ρ1 ρ2 P) : EvX T X (.IfExp c a b pos) ρ ρ2 P := fun _ _ _ _ hρ Q q =>
  we (pe_ifExp pt_wt pe_we pe_we) (h1 _ _ _ _ hρ _ fun z _ _ g b1 _ => by
    cases z with
    | true => exact iteT (ha _ _ _ _ g _ fun _ _ _ _ g2 b2 r2 p2 => q _ _ _ _ g2 (b1.trans b2) r2 p2)
    | false => exact iteF (hb _ _ _ _ g _ fun _ _ _ _ g2 b2 r2 p2 => q _ _ _ _ g2 (b1.trans b2) r2 p2))
theorem ex_vl {k} {z : Bool} {Pz : Bool → Prop} (q : Pz z) : EvX T X (.Constant (.bool z) k pos) ρ ρ (fun d => ∃ z, d = .bl z ∧ Pz z) := ex_of ev_bl ⟨z, rfl, q⟩
/-! ### lists -/
theorem ex_catL {P1 P2 P3 : List D → Prop} (ha : EvX T X a ρ ρ1 (fun d => ∃ xs, d = .lst xs ∧ P1 xs)) (hb : EvX T X b ρ1 ρ2 (fun d => ∃ xs, d = .lst xs ∧ P2 xs)) (hl : ∀ xs ys, P1 xs → P2 ys → xs.length + ys.length ≤ 100000) (q : ∀ xs ys, P1 xs → P2 ys → P3 (xs ++ ys)) :
    EvX T X (.BinOp a .Add b pos) ρ ρ2 (fun d => ∃ xs, d = .lst xs ∧ P3 xs) := ex_op op_cat ha (fun _ _ => hb) fun da db pa pb B H x y Q s hx hy k => by
  obtain ⟨xs, rfl, h1⟩ := pa
  obtain ⟨ys, rfl, h2⟩ := pb
  cases hx with
  | lst a1 q1 =>
    cases hy with
    | lst a2 q2 =>
      refine ⟨_, _, _, _, rfl, rfl, s _ _ a1, s _ _ a2, ?_, fun p hp => ?_⟩
      · rw [← q1.length, ← q2.length]
        exact Nat.le_trans (hl xs ys h1 h2) (by decide)
      · exact k _ _ _ _ (.new s hp) (.lst upd_same ((q1.append q2).mono (.new (s.none hp)))) ⟨_, rfl, q xs ys h1 h2⟩
theorem ex_lst {Ps : List D → Prop} (ha : EaX T X es ρ ρ' Ps) (hl : ∀ ds, Ps ds → ds.length ≤ 1000) (q : ∀ ds, Ps ds → P (.lst ds)) : EvX T X (.List es pos) ρ ρ' P := fun _ _ _ _ hρ _ k =>
  we (pe_lst pa_wa) (ha _ _ _ _ hρ _ fun vs B1 H1 ds h1 b1 r1 p1 => ⟨by rw [← r1.length, sizeLine_eq]; have := hl ds p1; omega, fun p hp => k _ _ _ _ (h1.gr (.new h1.bh hp)) (b1.trans (.new (h1.bh.none hp))) (.lst upd_same (r1.mono (.new (h1.bh.none hp)))) (q ds p1)⟩)
theorem ex_ixL (ha : EvE T X a ρ (.lst ds)) (hb : EvX T X b ρ ρ1 (IntP fun i => ∃ d, atI ds i = some d ∧ P d)) (hs : PlainIx b := by exact fun _ _ => rfl) : EvX T X (.Subscript a b pos) ρ ρ1 P := fun _ _ _ _ hρ Q q =>
  we (pe_ix ix_list pe_we pe_we hs) (ha _ _ _ _ hρ _ fun _ _ _ g1 r1 => hb _ _ _ _ (hρ.gr g1) _ fun _ _ _ d2 h2 b2 r2 p2 => by
    obtain ⟨i, rfl, d, hd, pd⟩ := p2
    cases r2
    cases (r1.mono b2) with
    | lst h1 q1 =>
      obtain ⟨v, e, r⟩ := q1.atI hd
      exact ⟨_, _, _, v, rfl, rfl, .of (h2.bh _ _ h1), e, q _ _ _ d h2 (g1.b.trans b2) r pd⟩)
/-! ### the box's cells -/
theorem urn_lst {o : HO} {n : Nat} (h1 : UrnO n o) : ∃ a b c : Int, o = .lst [.int a, .int b, .int c] ∧ 0 ≤ c ∧ c + n ≤ 1000000000000000000 := h1
theorem ex_urn (k : Nat) {n m : Nat} {xu : Str} {pu pk : Pos} {kk} (hN : X.N[k]? = some xu) (hv : Vis X.env.scope xu) (hi : ρ[k]? = some (.ur n)) (hm : m < 3) (hs : PlainIx (.Constant (.int (m : Int)) kk pk) := by exact fun _ _ => rfl) (hd : (xu == ("__debug__" : Str)) = false := by decide) (hcd : (xu == ("__classdict__" : Str)) = false := by decide) :
    EvX T X (.Subscript (.Name xu pu) (.Constant (.int (m : Int)) kk pk) pos) ρ ρ (IntP fun x => m = 2 → 0 ≤ x ∧ x ≤ 1000000000000000000) := fun _ _ B H hρ Q q => by
  obtain ⟨l, o, F, e1, _, _, e2, e3, _⟩ := hρ.at_ k _ hi
  obtain ⟨x, y, z, rfl, z0, z1⟩ := e3
  refine we (pe_ix ix_list (pe_var hN hv hd hcd) pe_int hs) ⟨.ref l, e1, ?_⟩
  match m, hm with
  | 0, _ => exact ⟨l, _, _, .int x, rfl, rfl, .of e2, rfl, q _ _ _ (.int x) hρ (.refl _) (.int _) ⟨x, rfl, fun h => nomatch h⟩⟩
  | 1, _ => exact ⟨l, _, _, .int y, rfl, rfl, .of e2, rfl, q _ _ _ (.int y) hρ (.refl _) (.int _) ⟨y, rfl, fun h => nomatch h⟩⟩
  | 2, _ => exact ⟨l, _, _, .int z, rfl, rfl, .of e2, rfl, q _ _ _ (.int z) hρ (.refl _) (.int _) ⟨z, rfl, fun _ => ⟨z0, by omega⟩⟩⟩
/-- the box changed by its own cell -/
theorem EnvR.cell {K : PySem.W.Frag} {E : Ent} {σ : L2.St} {B H : Hp} {u : Addr} {n m F : Nat} {o o' : HO} {k : Nat} (x : EnvR K T E σ B H ρ) (hi : ρ[k]? = some (.ur (m + n))) (ho : urOne ρ k) (hu : σ[k]? = some (some (.ref u))) (hm : E.M u ∧ ∀ a, E.M a → a = u) (hO : ∀ o, UrnO F o → E.O o) (hH : H u = some o) (hur : UrnO (F + (m + n)) o) (hB : B u = none) (h2 : UrnO (F + m) o') :
    EnvR K T E σ B (upd H u o') (ρ.set k (.ur m)) := by
  refine x.urn hi ho hu hm hO hH hur (B' := B) (H' := upd H u o') ⟨.refl B, fun a v ha hn => by rw [upd_ne hn]; exact ha, fun a v ha => ?_, fun a v _ hn => hn⟩ upd_same h2
  have ne : a ≠ u := fun z => by
    rw [z, hB] at ha
    cases ha
  rw [upd_ne ne]
  exact x.bh a v ha
/-- box[0] = e -/
theorem w_urn0 (k : Nat) {n : Nat} {xu : Str} {pu pk ps : Pos} {kk} (hN : X.N[k]? = some xu) (hv : Vis X.env.scope xu) (hi : ρ[k]? = some (.ur n)) (ho : urOne ρ k) (he : EvX T X e ρ ρ (IntP f)) (q : Po.nx ρ)
    (hs : swapsWithSole [.Subscript (.Name xu pu) (.Constant (.int 0) kk pk) ps] e pos.line X.env = pure false := by rfl) (hw : swappedStores [.Subscript (.Name xu pu) (.Constant (.int 0) kk pk) ps] e X.env = pure none := by rfl)
    (h1 : (assignEach [.Subscript (.Name xu pu) (.Constant (.int 0) kk pk) ps] X.env).map (·.2) = [assign (.Subscript (.Name xu pu) (.Constant (.int 0) kk pk) ps) X.env] := by rfl) (hd : (xu == ("__debug__" : Str)) = false := by decide) (hcd : (xu == ("__classdict__" : Str)) = false := by decide)
    (hpg : ∀ to ti, PE X (.Name xu pu) to → PE X (.Constant (.int 0) kk pk) ti → PG X (.Subscript (.Name xu pu) (.Constant (.int 0) kk pk) ps) (gSub to ti rSetL) := by exact fun to ti h1 h2 => pg_sub h1 h2 set_list) :
    W1 T X (.Assign [.Subscript (.Name xu pu) (.Constant (.int 0) kk pk) ps] e pos) ρ Po := fun E _ _ _ D hρ F =>
  ws1 (ps_asg pe_we (hpg _ _ (pe_var hN hv hd hcd) pe_int) hs hw h1) (he _ _ _ _ hρ _ fun v B1 H1 d h2 b2 r2 p2 => by
    obtain ⟨i, rfl, _⟩ := p2
    cases r2
    obtain ⟨l, o, F0, e1, em, eO, e2, e3, e4⟩ := h2.at_ k _ hi
    have e3' := e3
    obtain ⟨x, y, z, rfl, z0, z1⟩ := e3
    refine ⟨.ref l, e1, l, _, 0, 0, rfl, rfl, e2, rfl, ?_⟩
    have hc := h2.cell (m := n) (n := 0) (F := F0) (o' := .lst [.int i, .int y, .int z]) (by rw [Nat.add_zero]; exact hi) ho e1 em eO e2 (by rw [Nat.add_zero]; exact e3') e4 ⟨i, y, z, rfl, z0, z1⟩
    have es : ρ.set k (.ur n) = ρ := by
      refine List.ext_getElem? fun m => ?_
      by_cases hm : k = m
      · subst hm
        rw [List.getElem?_set_self (List.getElem?_eq_some_iff.mp hi).1, hi]
      · rw [List.getElem?_set_ne hm]
    rw [es] at hc
    exact F.nx _ _ _ _ hc q)
/-- box[2] = box[2] + 1 -/
theorem w_urn2 (k : Nat) {n : Nat} {xu : Str} {pu pk ps pu2 pk2 ps2 pb po : Pos} {kk kk2 kk3} (hN : X.N[k]? = some xu) (hv : Vis X.env.scope xu) (hi : ρ[k]? = some (.ur (n + 1))) (ho : urOne ρ k) (q : Po.nx (ρ.set k (.ur n)))
    (hs : swapsWithSole [.Subscript (.Name xu pu) (.Constant (.int 2) kk pk) ps] (.BinOp (.Subscript (.Name xu pu2) (.Constant (.int 2) kk2 pk2) ps2) .Add (.Constant (.int 1) kk3 po) pb) pos.line X.env = pure false := by rfl)
    (hw : swappedStores [.Subscript (.Name xu pu) (.Constant (.int 2) kk pk) ps] (.BinOp (.Subscript (.Name xu pu2) (.Constant (.int 2) kk2 pk2) ps2) .Add (.Constant (.int 1) kk3 po) pb) X.env = pure none := by rfl)
    (h1 : (assignEach [.Subscript (.Name xu pu) (.Constant (.int 2) kk pk) ps] X.env).map (·.2) = [assign (.Subscript (.Name xu pu) (.Constant (.int 2) kk pk) ps) X.env] := by rfl) (hd : (xu == ("__debug__" : Str)) = false := by decide) (hcd : (xu == ("__classdict__" : Str)) = false := by decide)
    (hpg : ∀ to ti, PE X (.Name xu pu) to → PE X (.Constant (.int 2) kk pk) ti → PG X (.Subscript (.Name xu pu) (.Constant (.int 2) kk pk) ps) (gSub to ti rSetL) := by exact fun to ti h1 h2 => pg_sub h1 h2 set_list) (hpi : PlainIx (.Constant (.int 2) kk2 pk2) := by exact fun _ _ => rfl) :
    W1 T X (.Assign [.Subscript (.Name xu pu) (.Constant (.int 2) kk pk) ps] (.BinOp (.Subscript (.Name xu pu2) (.Constant (.int 2) kk2 pk2) ps2) .Add (.Constant (.int 1) kk3 po) pb) pos) ρ Po := fun E σ B H D hρ F =>
  ws1 (ps_asg (pe_op op_add (pe_ix ix_list (pe_var hN hv hd hcd) pe_int hpi) pe_int) (hpg _ _ (pe_var hN hv hd hcd) pe_int) hs hw h1) (by
    obtain ⟨l, o, F0, e1, em, eO, e2, e3, e4⟩ := hρ.at_ k _ hi
    have e3' := e3
    obtain ⟨x, y, z, rfl, z0, z1⟩ := e3
    refine ⟨.ref l, e1, l, _, 2, .int z, rfl, rfl, .of e2, rfl, z, 1, rfl, rfl, .ref l, e1, l, _, 2, 2, rfl, rfl, e2, rfl, ?_⟩
    have hc := hρ.cell (m := n) (n := 1) (F := F0) (o' := .lst [.int x, .int y, .int (z + 1)]) hi ho e1 em eO e2 e3' e4 ⟨x, y, z + 1, rfl, by omega, by push_cast at z1 ⊢; omega⟩
    exact F.nx _ _ _ _ hc q)
end
end PL
/-! U4: comprehensions that draw, pops, calls with a new box -/
namespace PL
open PySem PySem.Spec PyProof.Rows L2
def noOwn (ρ : List Sl) : Prop := ∀ (i : Nat), (∀ ds, ρ[i]? ≠ some (.ow ds)) ∧ ∀ ks ds, ρ[i]? ≠ some (.dc ks ds)
section
variable {K : PySem.W.Frag} {T : CA} {E : Ent} {σ σ0 : L2.St} {B H B0 H0 : Hp} {ρ ρ0 : List Sl}
theorem EnvR.full (x : EnvR K T E σ B H ρ) (n : noOwn ρ) : EnvR K T ⟨E.M, E.O, B, H⟩ σ B H ρ := by
  refine ⟨⟨x.fr.s, Ex.refl _, fun a o h _ => h, fun a o _ n => n⟩, x.em, fun a m => ?_, x.len, fun i s e => ?_, fun i j ds es l _ h1 _ _ => absurd h1 ((n i).1 ds)⟩
  · obtain ⟨o, h, _⟩ := x.em a m
    show H a ≠ none
    rw [h]
    exact fun z => nomatch z
  · have z := x.at_ i s e
    cases s with
    | un => exact True.intro
    | rf v => exact z
    | va d => exact z
    | ow ds => exact absurd e ((n i).1 ds)
    | dc ks ds => exact absurd e ((n i).2 ks ds)
    | ur k => exact z
theorem EnvR.unfull (y : EnvR K T E σ0 B0 H0 ρ0) (x : EnvR K T ⟨E.M, E.O, B0, H0⟩ σ B H ρ) : EnvR K T E σ B H ρ := by
  have at0 : ∀ a o, E.H a = some o → ∃ o', H0 a = some o' := fun a o h => by
    cases Classical.em (E.M a) with
    | inl m =>
      obtain ⟨o', h', _⟩ := y.em a m
      exact ⟨o', h'⟩
    | inr m => exact ⟨o, y.fr.h a o h m⟩
  refine ⟨⟨x.fr.s, y.fr.b.trans x.fr.b, fun a o h m => x.fr.h a o (y.fr.h a o h m) m, fun a o h n => ?_⟩, x.em, y.e0, x.len, fun i s e => ?_, x.ap⟩
  · obtain ⟨o', h'⟩ := at0 a o h
    exact x.fr.f a o' h' (y.fr.f a o h n)
  · have z := x.at_ i s e
    cases s with
    | un => exact True.intro
    | rf v => exact z
    | va d => exact z
    | ow ds =>
      obtain ⟨l, vs, z1, z2, z3, z4, z5⟩ := z
      refine ⟨l, vs, z1, z2, z3, ?_, z5⟩
      cases q : E.H l with
      | none => rfl
      | some o =>
        obtain ⟨o', h'⟩ := at0 l o q
        have z4 : H0 l = none := z4
        rw [h'] at z4
        cases z4
    | dc ks ds => exact z
    | ur k => exact z
/-- an object that no slot knows -/
theorem EnvR.updF {p : Addr} {o : HO} (x : EnvR K T E σ B H ρ) (n : noOwn ρ) (h1 : E.H p = none) (h2 : B p = none) : EnvR K T E σ B (upd H p o) ρ := by
  have ne : ∀ a, E.M a → a ≠ p := fun a m z => x.e0 a m (by rw [z]; exact h1)
  refine ⟨⟨fun a v ha => ?_, x.fr.b, fun a v ha m => ?_, x.fr.f⟩, fun a m => ?_, x.e0, x.len, fun i s e => ?_, fun i j ds es l _ h1 _ _ => absurd h1 ((n i).1 ds)⟩
  · have z : a ≠ p := fun z => by
      rw [z, h2] at ha
      cases ha
    rw [upd_ne z]
    exact x.bh a v ha
  · have z : a ≠ p := fun z => by
      rw [z, h1] at ha
      cases ha
    rw [upd_ne z]
    exact x.fr.h a v ha m
  · rw [upd_ne (ne a m)]
    exact x.em a m
  · have z := x.at_ i s e
    cases s with
    | un => exact True.intro
    | rf v => exact z
    | va d => exact z
    | ow ds => exact absurd e ((n i).1 ds)
    | dc ks ds => exact absurd e ((n i).2 ks ds)
    | ur k =>
      obtain ⟨l, o', F, z1, z2, z3, z4, z5⟩ := z
      exact ⟨l, o', F, z1, z2, z3, by rw [upd_ne (ne l z2.1)]; exact z4, z5⟩
/-- a new object becomes data -/
theorem EnvR.frzN {p : Addr} {o : HO} (x : EnvR K T E σ B H ρ) (n : noOwn ρ) (h1 : E.H p = none) (h2 : B p = none) (h3 : H p = some o) : EnvR K T E σ (upd B p o) H ρ := by
  have eb : Ex B (upd B p o) := .new h2
  have ne : ∀ a, E.M a → a ≠ p := fun a m z => x.e0 a m (by rw [z]; exact h1)
  refine ⟨⟨fun a v ha => ?_, x.fr.b.trans eb, x.fr.h, fun a v ha hn => ?_⟩, fun a m => ?_, x.e0, x.len, fun i s e => ?_, fun i j ds es l _ h1 _ _ => absurd h1 ((n i).1 ds)⟩
  · by_cases z : a = p
    · subst z
      rw [upd_same] at ha
      cases ha
      exact h3
    · rw [upd_ne z] at ha
      exact x.bh a v ha
  · have z : a ≠ p := fun z => by
      rw [z, h1] at ha
      cases ha
    rw [upd_ne z]
    exact x.fr.f a v ha hn
  · rw [upd_ne (ne a m)]
    exact x.em a m
  · have z := x.at_ i s e
    cases s with
    | un => exact True.intro
    | rf v => exact z
    | va d =>
      obtain ⟨v, z1, z2⟩ := z
      exact ⟨v, z1, z2.mono eb⟩
    | ow ds => exact absurd e ((n i).1 ds)
    | dc ks ds => exact absurd e ((n i).2 ks ds)
    | ur k =>
      obtain ⟨l, o', F, z1, z2, z3, z4, z5, z6⟩ := z
      exact ⟨l, o', F, z1, z2, z3, z4, z5, by rw [upd_ne (ne l z2.1)]; exact z6⟩
theorem EnvR.unwipe {vs : List Nat} (x : EnvR K T E (L2.wipe σ vs) B H ρ) (h : ∀ v ∈ vs, ρ[v]? = some .un) : EnvR K T E σ B H ρ := by
  refine ⟨x.fr, x.em, x.e0, by rw [← x.len, wipe_length], fun i s e => ?_, fun i j ds es l hij h1 h2 h3 => ?_⟩
  · by_cases hi : i ∈ vs
    · rw [h i hi] at e
      cases e
      exact True.intro
    · have z := x.at_ i s e
      rwa [wipe_out hi] at z
  · have ni : i ∉ vs := fun hi => by
      rw [h i hi] at h1
      cases h1
    have nj : j ∉ vs := fun hi => by
      rw [h j hi] at h2
      cases h2
    have z := x.ap i j ds es l hij h1 h2 (by rw [wipe_out ni]; exact h3)
    rwa [wipe_out nj] at z
end
section
variable {T : CA} {X : Cx} {ρ ρ' : List Sl} {elt tg iter : Expr} {ifs : List Expr} {scope : Scope} {own : List (Str × Nat)} {pos spos : Pos}
def EtsX (T : CA) (X : Cx) (ifs : List Expr) (ρ ρ' : List Sl) (P : Bool → Prop) : Prop := ∀ E σ B H, EnvR X.K T E σ B H ρ → ∀ Q : Bool → Hp → Prop, (∀ z B' H', EnvR X.K T E σ B' H' ρ' → Ex B B' → P z → Q z H') → WTs X ifs σ H Q
theorem etsx_nil : EtsX T X [] ρ ρ (fun z => z = true) := fun _ _ _ _ hρ _ q => wts pts_nil (q _ _ _ hρ (Ex.refl _) rfl)
theorem etsx_one {c : Expr} {P : Bool → Prop} (h : EtX T X c ρ ρ' P) : EtsX T X [c] ρ ρ' P := fun _ _ _ _ hρ _ q => wts (pts_one pt_wt) (h _ _ _ _ hρ _ q)
structure LcX {α : Type} (T : CA) (X : Cx) (elt tg : Expr) (ifs : List Expr) (scope : Scope) (vs : List Nat) (R : Nat → List Sl) (enc : α → D) (Qi : Nat → List D → Prop) (xs : List α) : Prop where
  turn : ∀ (i : Nat) (x : α), xs[i]? = some x → ∃ ρ1 js ρ2 ρ3, ∃ (Pz : Bool → Prop) (P : D → Prop), (∀ j ∈ js, j ∈ vs) ∧ (∀ s H0 C cl fp, EvG T (BlkX X scope s H0 C cl fp) tg (R i) (enc x) ρ1 js ∧ EtsX T (BlkX X scope s H0 C cl fp) ifs ρ1 ρ2 Pz ∧ EvX T (BlkX X scope s H0 C cl fp) elt ρ2 ρ3 P) ∧
    (Pz false → wipeS ρ2 vs = R (i + 1) ∧ ∀ ds, Qi i ds → Qi (i + 1) ds) ∧ wipeS ρ3 vs = R (i + 1) ∧ ∀ ds d, Qi i ds → P d → Qi (i + 1) (ds ++ [d])
  free : ∀ i, noOwn (R i) ∧ ∀ v ∈ vs, (R i)[v]? = some .un
theorem lc_readX {α : Type} {vs : List Nat} {R : Nat → List Sl} {enc : α → D} {Qi : Nat → List D → Prop} {xs : List α} {E : Ent} {σ : L2.St} {B H : Hp} (h0 : R 0 = ρ) (hi : EvI T X tg iter ρ (xs.map enc)) (h : LcX T X elt tg ifs scope vs R enc Qi xs) (hq : Qi 0 []) (hQ : ∀ i ds, Qi i ds → ds.length ≤ i) (hz : xs.length ≤ 100000)
    (hρ : EnvR X.K T E σ B H ρ) {Q : VK} (q : ∀ l us B' H' ds, EnvR X.K T E σ B' H' (R xs.length) → Ex B B' → E.H l = none → B' l = none → H' l = some (.lst us) → Reps X.K T B' ds us → Qi xs.length ds → Q (.ref l) H') :
    tLc (WI X tg iter) (gB X scope tg) (tB X scope ifs) (eB X scope elt) vs σ H Q := by
  subst h0
  obtain ⟨f1, f2⟩ := h.free 0
  refine hi _ _ _ _ hρ _ fun J B1 H1 g1 hJ => ?_
  intro D hD
  have hρ1 := hρ.gr g1
  have hf := hρ1.full f1
  have hwp : EnvR X.K T ⟨E.M, E.O, B1, H1⟩ (L2.wipe σ vs) B1 H1 (R 0) := by
    have w := hf.wipe vs
    have e : wipeS (R 0) vs = R 0 := by
      have key : ∀ ws : List Nat, (∀ v ∈ ws, (R 0)[v]? = some .un) → wipeS (R 0) ws = R 0 := by
        intro ws
        induction ws with
        | nil => exact fun _ => rfl
        | cons w ws ih =>
          intro hw
          show (wipeS (R 0) ws).set w .un = R 0
          rw [ih fun v hv => hw v (List.mem_cons_of_mem _ hv)]
          refine List.ext_getElem? fun m => ?_
          have hw0 := hw w List.mem_cons_self
          by_cases hm : w = m
          · subst hm
            rw [List.getElem?_set_self (List.getElem?_eq_some_iff.mp hw0).1, hw0]
          · rw [List.getElem?_set_ne hm]
      exact key vs f2
    rwa [e] at w
  have hE : E.H D = none := by
    cases z : E.H D with
    | none => rfl
    | some o =>
      cases Classical.em (E.M D) with
      | inl m =>
        obtain ⟨u, hu, _⟩ := hρ1.em D m
        rw [hD] at hu
        cases hu
      | inr m =>
        rw [hρ1.fr.h D o z m] at hD
        cases hD
  refine ⟨fun i m H2 => m = xs.length - i ∧ i ≤ xs.length ∧ ∃ B2 us ds, EnvR X.K T ⟨E.M, E.O, B1, H1⟩ (L2.wipe σ vs) B2 H2 (R i) ∧ B2 D = none ∧ H2 D = some (.lst us) ∧ Reps X.K T B2 ds us ∧ Qi i ds, ⟨xs.length, by omega, Nat.zero_le _, B1, [], [], hwp.updF f1 hD (g1.s.none hD), g1.s.none hD, upd_same, .nil, hq⟩, ?_⟩
  rintro i m H2 ⟨rfl, hle, B2, us, ds, hr2, hb2, h2, r2, qi⟩
  obtain ⟨hgo, hstop⟩ := hJ B2 H2 hr2.fr.b hr2.bh
  by_cases hlt : i < xs.length
  · have hx : xs[i]? = some xs[i] := List.getElem?_eq_getElem hlt
    obtain ⟨hg1, hyl⟩ := hgo i (enc xs[i]) (by rw [List.getElem?_map, hx]; rfl)
    obtain ⟨ρ1, js, ρ2, ρ3, Pz, P, hjs, hturn, hfl, hw3, hq3⟩ := h.turn i xs[i] hx
    refine .inr ⟨hg1, fun H3 => i + 1 ≤ xs.length ∧ ∃ B3 us' ds', EnvR X.K T ⟨E.M, E.O, B1, H1⟩ (L2.wipe σ vs) B3 H3 (R (i + 1)) ∧ B3 D = none ∧ H3 D = some (.lst us') ∧ Reps X.K T B3 ds' us' ∧ Qi (i + 1) ds', fun H' n => ⟨xs.length - (i + 1), by omega, rfl, n⟩, fun x H3 y => ?_⟩
    obtain ⟨B3, g3, r3⟩ := hyl x H3 y
    have hF := (hr2.full (h.free i).1).gr g3
    refine fun s H0 C cl fp => (hturn s H0 C cl fp).1 _ _ _ _ _ hF r3 _ fun σ2 hρ4 hl4 hag => ⟨wipe_same (by rw [hl4, wipe_length]) hjs hag, fun s H0 C cl fp => (hturn s H0 C cl fp).2.1 _ _ _ _ hρ4 _ fun z B5 H5 hρ5 b5 pz => ?_⟩
    have ws : L2.wipe σ2 vs = L2.wipe σ vs := wipe_same (by rw [hl4, wipe_length]) hjs hag
    -- what the frame says of the new list
    have keep : ∀ {B6 H6 : Hp} {ρ6 : List Sl}, EnvR X.K T ⟨E.M, E.O, B2, H2⟩ σ2 B6 H6 ρ6 → H6 D = some (.lst us) ∧ B6 D = none ∧ (wipeS ρ6 vs = R (i + 1) → EnvR X.K T ⟨E.M, E.O, B1, H1⟩ (L2.wipe σ vs) B6 H6 (R (i + 1))) := fun {B6 H6 ρ6} e6 => by
      refine ⟨e6.fr.h D _ h2 fun m => hwp.e0 D m hD, e6.fr.f D _ h2 hb2, fun e => ?_⟩
      have w := e6.wipe vs
      rw [ws, e] at w
      exact hr2.unfull w
    cases z with
    | false =>
      obtain ⟨w1, w2⟩ := hfl pz
      obtain ⟨k1, k2, k3⟩ := keep hρ5
      exact iteF ⟨hlt, B5, us, ds, k3 w1, k2, k1, r2.mono (g3.b.trans b5), w2 ds qi⟩
    | true =>
      refine iteT fun s H0 C cl fp => (hturn s H0 C cl fp).2.2 _ _ _ _ hρ5 _ fun v B6 H6 d hρ6 b6 r6 pd => ?_
      obtain ⟨k1, k2, k3⟩ := keep hρ6
      refine ⟨us, k1, ?_, hlt, B6, us ++ [v], ds ++ [d], (k3 hw3).updF (h.free (i + 1)).1 hD k2, k2, upd_same, (r2.mono ((g3.b.trans b5).trans b6)).append (.one r6), hq3 ds d qi pd⟩
      have l1 := r2.length
      have l2 := hQ i ds qi
      rw [sizeLine_eq]
      omega
  · have e : i = xs.length := by omega
    subst e
    refine .inl ⟨by rw [List.length_map] at hstop; exact hstop, q D us B2 H2 ds ((hρ1.unfull hr2).unwipe (h.free _).2) (g1.b.trans hr2.fr.b) hE hb2 h2 r2 qi⟩
/-- as an expression -/
theorem ex_lc {α : Type} {R : Nat → List Sl} {enc : α → D} {Qi : Nat → List D → Prop} {xs : List α} {P : List D → Prop} (hc : X.calm = true) (hN : X.N.Nodup) (own : List (Str × Nat)) (ok : BlkOk X.N X.env.scope scope own) (h0 : R 0 = ρ) (hi : EvI T X tg iter ρ (xs.map enc)) (h : LcX T X elt tg ifs scope (own.map (·.2)) R enc Qi xs) (hq : Qi 0 []) (hQ : ∀ i ds, Qi i ds → ds.length ≤ i) (hz : xs.length ≤ 100000) (hP : ∀ ds, Qi xs.length ds → P ds)
    (hs : ∀ x, foldedSetIterable iter X.env x = pure x := by intro _; rfl) : EvX T X (.ListComp elt [⟨tg, iter, ifs, 0⟩] scope pos) ρ (R xs.length) (fun d => ∃ ds, d = .lst ds ∧ P ds) := fun _ _ _ _ hρ _ q =>
  we (pe_lc (own := own) (g := gB X scope tg) (tt := tB X scope ifs) (te := eB X scope elt) hc hN pi_wi ok (fun s H0 C cl fp => ⟨fun pins s1 σ1 H1 v u Q I r h => h s H0 C cl fp pins s1 u I r⟩) (fun s H0 C cl fp => ⟨fun pins s1 σ1 H1 Q I h => h s H0 C cl fp pins s1 I⟩)
    (fun s H0 C cl fp => ⟨fun pins s1 σ1 H1 Q I h => h s H0 C cl fp pins s1 I⟩) hs) (lc_readX h0 hi h hq hQ hz hρ fun l us B' H' ds h1 b1 e1 e2 e3 r qd => q _ _ _ _ (h1.frzN (h.free _).1 e1 e2 e3) (b1.trans (.new e2)) (.lst upd_same (r.mono (.new e2))) ⟨ds, rfl, hP ds qd⟩)
/-- y = [..] on its line, y data from then on -/
theorem w_lcX {α : Type} {R : Nat → List Sl} {enc : α → D} {Qi : Nat → List D → Prop} {xs : List α} {Po : Post} (n : Nat) {y : Str} {py : Pos} (hc : X.calm = true) (hN : X.N.Nodup) (own : List (Str × Nat)) (hy : X.N[n]? = some y) (hyl : X.env.scope.names.lookup y = some .local)
    (ok : BlkOk X.N X.env.scope scope own) (h0 : R 0 = ρ) (hi : EvI T X tg iter ρ (xs.map enc)) (h : LcX T X elt tg ifs scope (own.map (·.2)) R enc Qi xs) (hq : Qi 0 []) (hQ : ∀ i ds, Qi i ds → ds.length ≤ i) (hz : xs.length ≤ 100000) (q : ∀ ds, Qi xs.length ds → Po.nx ((R xs.length).set n (.va (.lst ds))))
    (hsw : swapsWith (.ListComp elt [⟨tg, iter, ifs, 0⟩] scope pos) (some (.Name y py)) spos.line X.env = pure true) (hs : ∀ x, foldedSetIterable iter X.env x = pure x := by intro _; rfl) :
    W1 T X (.Assign [.Name y py] (.ListComp elt [⟨tg, iter, ifs, 0⟩] scope pos) spos) ρ Po := fun E _ _ _ D hρ F =>
  ws1 (ps_setLc (i := n) (own := own) (g := gB X scope tg) (tt := tB X scope ifs) (te := eB X scope elt) hc hN hy hyl hsw pi_wi ok (fun s H0 C cl fp => ⟨fun pins s1 σ1 H1 v u Q I r h => h s H0 C cl fp pins s1 u I r⟩) (fun s H0 C cl fp => ⟨fun pins s1 σ1 H1 Q I h => h s H0 C cl fp pins s1 I⟩)
    (fun s H0 C cl fp => ⟨fun pins s1 σ1 H1 Q I h => h s H0 C cl fp pins s1 I⟩) hs) (lc_readX h0 hi h hq hQ hz hρ fun l us B' H' ds h1 b1 e1 e2 e3 r qd => F.nx _ _ _ _ ((h1.frzN (h.free _).1 e1 e2 e3).set (.lst upd_same (r.mono (.new e2)))) (q ds qd))
end
end PL
/-! U5: pops, own lists by place, defs that give a new list, calls with a new box -/
namespace PL
open PySem PySem.Spec PyProof.Rows L2
section
variable {T : CA} {X : Cx} {ρ ρ1 ρ2 ρ' : List Sl} {a b c e o : Expr} {es rest : List Expr} {d da db : D} {ds : List D} {i j : Int} {pos p p1 p2 p3 : Pos} {P P' : D → Prop} {Po : Post}
theorem seqIx {i : Int} {n : Nat} (h0 : 0 ≤ i) (h1 : i < (n : Int)) : seqIndex? i n = some i.toNat := by
  unfold seqIndex?
  simp only
  split <;> split <;> simp_all <;> omega
theorem Reps.erase {K : PySem.W.Frag} {B : Hp} : ∀ {ds : List D} {vs : List V} (k : Nat), Reps K T B ds vs → Reps K T B (ds.eraseIdx k) (vs.eraseIdx k)
  | _, _, _, .nil => .nil
  | _, _, 0, .cons r q => q
  | _, _, k + 1, .cons r q => .cons r (Reps.erase k q)
theorem Reps.set {K : PySem.W.Frag} {B : Hp} {d : D} {v : V} : ∀ {ds : List D} {vs : List V} (k : Nat), Reps K T B ds vs → Rep K T B d v → Reps K T B (ds.set k d) (vs.set k v)
  | _, _, _, .nil, _ => .nil
  | _, _, 0, .cons _ q, r => .cons r q
  | _, _, k + 1, .cons r0 q, r => .cons r0 (Reps.set k q r)
/-- fs.append(rs.pop(e)), both its own -/
theorem w_popapp (nf nr : Nat) {xf xr : Str} {pf pr af ar cf cr : Pos} {fs rs : List D} (hNf : X.N[nf]? = some xf) (hNr : X.N[nr]? = some xr) (hvf : Vis X.env.scope xf) (hvr : Vis X.env.scope xr) (hne : nf ≠ nr) (hf : ρ[nf]? = some (.ow fs)) (hr : ρ[nr]? = some (.ow rs))
    (he : EvX T X e ρ ρ1 (IntP fun i => 0 ≤ i ∧ i < (rs.length : Int))) (hf1 : ρ1[nf]? = some (.ow fs)) (hr1 : ρ1[nr]? = some (.ow rs)) (hzf : fs.length < 100000) (hzr : rs.length < 100000) (q : ∀ (k : Nat) (d : D), rs[k]? = some d → Po.nx ((ρ1.set nr (.ow (rs.eraseIdx k))).set nf (.ow (fs ++ [d]))))
    (hdf : (xf == ("__debug__" : Str)) = false := by decide) (hcf : (xf == ("__classdict__" : Str)) = false := by decide) (hdr : (xr == ("__debug__" : Str)) = false := by decide) (hcr : (xr == ("__classdict__" : Str)) = false := by decide)
    (hpa : ∀ to t, PE X (.Name xf pf) to → PA X [.Call (.Attribute (.Name xr pr) "pop" ar) [e] [] cr] t → PE X (.Call (.Attribute (.Name xf pf) "append" af) [.Call (.Attribute (.Name xr pr) "pop" ar) [e] [] cr] [] cf) (tBM X.K "list" rAppend to t) := by exact fun to t h1 h2 => pe_bm PySem.F.plainAttrs_list PySem.F.slot_list_append PySem.F.type_list_append mt_append h1 h2)
    (hpp : ∀ to t, PE X (.Name xr pr) to → PA X [e] t → PE X (.Call (.Attribute (.Name xr pr) "pop" ar) [e] [] cr) (tBM X.K "list" rPopAt to t) := by exact fun to t h1 h2 => pe_bm PySem.F.plainAttrs_list PySem.F.slot_list_pop PySem.F.type_list_pop mt_popAt h1 h2)
    (hs1 : starEach [e] X.env = (false, eval e X.env) :: starEach [] X.env := by rfl) (hs2 : starEach [.Call (.Attribute (.Name xr pr) "pop" ar) [e] [] cr] X.env = (false, eval (.Call (.Attribute (.Name xr pr) "pop" ar) [e] [] cr) X.env) :: starEach [] X.env := by rfl)
    (hs : swapsWith (.Call (.Attribute (.Name xf pf) "append" af) [.Call (.Attribute (.Name xr pr) "pop" ar) [e] [] cr] [] cf) none pos.line X.env = pure false := by rfl) :
    W1 T X (.Expr (.Call (.Attribute (.Name xf pf) "append" af) [.Call (.Attribute (.Name xr pr) "pop" ar) [e] [] cr] [] cf) pos) ρ Po := fun E σ B H D hρ F =>
  ws1 (ps_expr (hpa _ _ (pe_var hNf hvf hdf hcf) (pa_cons (hpp _ _ (pe_var hNr hvr hdr hcr) (pa_cons pe_we pa_nil hs1)) pa_nil hs2)) hs) (by
    obtain ⟨lf, uf, f1, f2, f3, f4, f5⟩ := hρ.at_ nf _ hf
    obtain ⟨lr, ur, r1, r2, r3, r4, r5⟩ := hρ.at_ nr _ hr
    refine ⟨.ref lf, f1, .inl ⟨rfl, uf, .of f2⟩, .ref lr, r1, .inl ⟨rfl, ur, .of r2⟩, ?_⟩
    refine he _ _ _ _ hρ _ fun v B1 H1 d h1 b1 rv pv => ?_
    obtain ⟨i, rfl, i0, i1⟩ := pv
    cases rv
    obtain ⟨lf', uf', g1, g2, g3, g4, g5⟩ := h1.at_ nf _ hf1
    obtain ⟨lr', ur', s1, s2, s3, s4, s5⟩ := h1.at_ nr _ hr1
    rw [f1] at g1
    cases g1
    rw [r1] at s1
    cases s1
    have hk : i.toNat < rs.length := by omega
    have hd : rs[i.toNat]? = some rs[i.toNat] := List.getElem?_eq_getElem hk
    obtain ⟨v, hv, rv⟩ := s5.getD hd
    refine ⟨lr, ur', i, i.toNat, v, rfl, rfl, s2, by omega, by omega, by rw [← s5.length]; exact seqIx i0 i1, hv, ?_⟩
    have m1 := h1.mut hr1 r1 s2 (s5.erase i.toNat)
    have lne : lf ≠ lr := fun z => h1.ap nf nr fs rs lf hne hf1 hr1 f1 (by rw [r1, z])
    have hf2 : (ρ1.set nr (.ow (rs.eraseIdx i.toNat)))[nf]? = some (.ow fs) := by
      rw [List.getElem?_set_ne (Ne.symm hne)]
      exact hf1
    refine ⟨lf, uf', v, rfl, rfl, by rw [upd_ne lne]; exact g2, by rw [← g5.length, sizeLine_eq]; omega, ?_⟩
    exact F.nx _ _ _ _ (m1.mut hf2 f1 (by rw [upd_ne lne]; exact g2) (g5.append (.one rv))) (q _ _ hd))
/-- a, b = [..], [..]: both its own -/
theorem w_parNN (i j : Nat) {x y : Str} {d1 d2 : List D} {px py pt : Pos} {kt k2 pt2} (hc : X.calm = true) (hN : X.N.Nodup) (hi : X.N[i]? = some x) (hj : X.N[j]? = some y) (hij : i ≠ j) (hx : X.env.scope.names.lookup x = some .local) (hy : X.env.scope.names.lookup y = some .local)
    (ha : EvN T X a ρ d1) (hb : EvN T X b ρ d2) (q : Po.nx ((ρ.set i (.ow d1)).set j (.ow d2))) (hw : swappedStores [.Tuple [.Name x px, .Name y py] kt pt] (.Tuple [a, b] k2 pt2) X.env = pure (some [x, y]) := by rfl)
    (hs : swapsWithSole [.Tuple [.Name x px, .Name y py] kt pt] (.Tuple [a, b] k2 pt2) pos.line X.env = pure false := by rfl) (h1 : starEach [a, b] X.env = (false, eval a X.env) :: starEach [b] X.env := by rfl) (h2 : starEach [b] X.env = (false, eval b X.env) :: starEach [] X.env := by rfl) :
    W1 T X (.Assign [.Tuple [.Name x px, .Name y py] kt pt] (.Tuple [a, b] k2 pt2) pos) ρ Po := fun E _ _ _ De hρ F =>
  ws1 (ps_par hc hN hi hj hij hx hy (pa_cons pe_we (pa_cons pe_we pa_nil h2) h1) hw hs) (ha _ _ _ _ hρ _ fun l1 u1 B1 H1 g1 hl1 hb1 hh1 r1 => hb _ _ _ _ (hρ.gr g1) _ fun l2 u2 B2 H2 g2 hl2 hb2 hh2 r2 => ⟨_, _, rfl, F.nx _ _ _ _ (env_own j (env_own i hρ g1 hl1 hb1 hh1 r1) g2 hl2 hb2 hh2 r2) q⟩)
/-- xs[i] = e, xs its own -/
theorem w_setIx (n : Nat) {x : Str} {px ps : Pos} {k : Nat} (hN : X.N[n]? = some x) (hv : Vis X.env.scope x) (hρn : ρ[n]? = some (.ow ds)) (he : EvE T X e ρ d) (hb : EvE T X b ρ (.int (k : Int))) (hk : k < ds.length) (q : Po.nx (ρ.set n (.ow (ds.set k d))))
    (hd : (x == ("__debug__" : Str)) = false := by decide) (hcd : (x == ("__classdict__" : Str)) = false := by decide) (hpg : ∀ to ti, PE X (.Name x px) to → PE X b ti → PG X (.Subscript (.Name x px) b ps) (gSub to ti rSetL) := by exact fun to ti h1 h2 => pg_sub h1 h2 set_list)
    (hs : swapsWithSole [.Subscript (.Name x px) b ps] e pos.line X.env = pure false := by rfl) (hw : swappedStores [.Subscript (.Name x px) b ps] e X.env = pure none := by rfl)
    (h1 : (assignEach [.Subscript (.Name x px) b ps] X.env).map (·.2) = [assign (.Subscript (.Name x px) b ps) X.env] := by rfl) : W1 T X (.Assign [.Subscript (.Name x px) b ps] e pos) ρ Po := fun E _ _ _ D hρ F =>
  ws1 (ps_asg pe_we (hpg _ _ (pe_var hN hv hd hcd) pe_we) hs hw h1) (he _ _ _ _ hρ _ fun v B1 H1 g1 r1 => by
    have hρ1 := hρ.gr g1
    obtain ⟨l, us, e1, e2, e3, e4, e5⟩ := hρ1.at_ n _ hρn
    refine ⟨.ref l, e1, hb _ _ _ _ hρ1 _ fun w B2 H2 g2 r2 => ?_⟩
    cases r2
    have hρ2 := hρ1.gr g2
    have h2 : H2 l = some (.lst us) := g2.h _ _ e2
    have el := e5.length
    have hix : ixN us.length (k : Int) = some k := by
      unfold ixN
      rw [if_pos (by omega), if_pos (by omega), Int.toNat_natCast]
    refine ⟨l, us, _, k, rfl, rfl, h2, hix, ?_⟩
    exact F.nx _ _ _ _ (hρ2.mut hρn e1 h2 ((e5.mono g2.b).set k (r1.mono g2.b))) q)
/-- list(xs): new -/
theorem en_list (hm : X.mg "list" = none) (ha : EvE T X a ρ da) (h : da = .lst ds ∨ da = .tup ds) (hg : Gl X "list" := by rfl) (he : starEach [a] X.env = (false, eval a X.env) :: starEach [] X.env := by rfl) : EvN T X (.Call (.Name "list" p) [a] [] pos) ρ ds := fun _ _ _ _ hρ Q q =>
  we (pe_callTy call_list_of hg hm (by decide +kernel) pa_wa (by decide) (by decide) he rfl) (ea_cons ha ea_nil he _ _ _ _ hρ _ fun vs B1 H1 g r => by
    cases r with
    | cons r1 r2 =>
      cases r2
      rcases h with h | h
      · subst h
        cases r1 with
        | lst h1 q1 => exact ⟨_, _, rfl, .inl (.of (g.s _ _ h1)), fun l hl => q _ _ _ _ (g.trans (.own g.s hl)) (g.h.none hl) (g.s.none hl) upd_same q1⟩
      · subst h
        cases r1 with
        | tup h1 q1 => exact ⟨_, _, rfl, .inr (exT g.s h1), fun l hl => q _ _ _ _ (g.trans (.own g.s hl)) (g.h.none hl) (g.s.none hl) upd_same q1⟩)
/-- xs or ys, both new -/
theorem en_or {ys : List D} (ha : EvN T X a ρ ds) (hb : EvN T X b ρ ys) (hbo : ∀ {pos' : Pos} {t : TE}, PE X b t → PE X (.BoolOp .Or [b] pos') t := by exact fun h => pe_one h) : EvN T X (.BoolOp .Or [a, b] pos) ρ (if ds = [] then ys else ds) := fun _ _ _ _ hρ Q q =>
  we (pe_orT pe_we (hbo pe_we)) (ha _ _ _ _ hρ _ fun l us B1 H1 g hl hb1 h1 r => by
    refine ⟨!us.isEmpty, .inl ⟨us, .of h1, rfl⟩, ?_⟩
    cases r with
    | nil =>
      rw [if_pos rfl] at q
      exact iteF (hb _ _ _ _ (hρ.gr g) _ fun l2 u2 B2 H2 g2 hl2 hb2 h2 r2 => q _ _ _ _ (g.trans g2) (g.h.none hl2) hb2 h2 r2)
    | cons c1 c2 =>
      rw [if_neg (List.cons_ne_nil _ _)] at q
      exact iteT (q _ _ _ _ g hl hb1 h1 (.cons c1 c2)))
end
/-! ### a def that gives a new list, which nobody holds -/
def SpN {α : Type} (K : PySem.W.Frag) (T : CA) (args : α → List D) (pre : α → Prop) (res : α → List D) : Sp := fun vs H Q _ => ∃ (x : α) (B : Hp), Ex B H ∧ Reps K T B (args x) vs ∧ pre x ∧ ∀ l us B' H', Gr B H B' H' → H l = none → B' l = none → H' l = some (.lst us) → Reps K T B' (res x) us → Q (.ref l) H'
section
variable {T : CA} {X : Cx} {ρ : List Sl} {c : Cn} {x q : Str} {st : Stmt} {N ps : List Str} {k : Nat} {α : Type} {args : α → List D} {pre : α → Prop} {res : α → List D}
/-- what is asked of such a body: it ends by a return of a new list -/
def BodyN (c : Cn) (q : Str) (st : Stmt) (N : List Str) (k : Nat) {α : Type} (args : α → List D) (pre : α → Prop) (res : α → List D) : Prop :=
  ∀ (f : Addr) (cdv : Value) (A : Around) (outer : List Env) (s : Shared) (H0 : Hp) (E : XK), Room k (bodyX c N q (defScope st) f cdv A outer s H0 E).A → ∀ y, pre y → ∀ (Q : VK) (B H : Hp) (σ : L2.St), EnvR c.K (ca c.K) ⟨fun _ => False, fun _ => True, B, H⟩ σ B H (rho0 N.length (args y)) →
    (∀ l us B' H', Gr B H B' H' → H l = none → B' l = none → H' l = some (.lst us) → Reps c.K (ca c.K) B' (res y) us → Q (.ref l) H') → WS (bodyX c N q (defScope st) f cdv A outer s H0 E) (defBody st) ⟨fun _ H' => Q .non H', Q, fun _ _ => False, fun _ _ => False⟩ σ H
theorem good_defN (h : DefAt c x st) (S : FnScope N ps (defScope st)) (hb : BindN x x st ps) (hl : ∀ y, (args y).length = ps.length) (hps : ps.length ≤ N.length) (body : BodyN c x st N k args pre res) :
    Good c x (k + 1) ps (SpN c.K (ca c.K) args pre res) := by
  obtain ⟨f, fd, hm, F⟩ := h
  refine good_of F hm (F.bindsN hb) (F.ok S (fun vs H Q E h => ?_) (fun cdv A outer s H vs Q E hr h => ?_))
  · obtain ⟨y, B, _, r, _⟩ := h
    rw [← r.length, hl]
  · obtain ⟨y, B, hs, r, hp, q⟩ := h
    refine ⟨WS (bodyX c N x (defScope st) f cdv A outer s H E) (defBody st), PSs.nox pss_ws, ?_⟩
    exact body f cdv A outer s H E hr y hp Q B H _ (env_start hs r (by rw [hl]; exact hps)) q
theorem wi_retN {st : Stmt} {e : Expr} {sts : List Stmt} {pos : Pos} {ds : List D} {E : Ent} {σ : L2.St} {B H : Hp} {De : Ends} (hρ : EnvR X.K T E σ B H ρ) (h : EvN T X e ρ ds) (q : ∀ l us B' H', Gr B H B' H' → H l = none → B' l = none → H' l = some (.lst us) → Reps X.K T B' ds us → De.rt (.ref l) H') : WS X (.Return (some e) pos :: sts) De σ H :=
  ws (pss_cons (ps_ret pe_we) pss_ws) (h _ _ _ _ hρ _ q)
/-- f(g(..)): g gives a new box, f draws from it -/
theorem ev_callBox {a : Expr} {es : List Expr} {pos p p2 pos2 : Pos} {xf xg : Str} {kf kg cost : Nat} {psf psg : List Str} {β : Type} {argsf : β → List D} {pref : β → Prop} {post : β → D → Prop} {d : D} (Gf : Good c xf kf psf (SpU c.K T cost argsf pref post)) (Gg : Good c xg kg psg (SpN c.K T args pre res)) (hc : cnOf X = c) (hrf : Room kf X.A) (hrg : Room kg X.A)
    (z : β) (hz : argsf z = []) (hpz : pref z) (hpost : ∀ d', post z d' → d' = d) (y : α) (ha : EvA T X (a :: es) ρ (args y)) (hp : pre y) (hbox : ∃ i j : Int, res y = [.int i, .int j, .int 0]) (hcost : cost ≤ 1000000000000000000)
    (hgf : Gl X xf := by rfl) (hgg : Gl X xg := by rfl) (hdf : (xf == ("__debug__" : Str)) = false := by decide) (hdg : (xg == ("__debug__" : Str)) = false := by decide) (heg : starEach (a :: es) X.env = (false, eval a X.env) :: starEach es X.env := by rfl) (hplg : (backTo pos2 (starEach es X.env)).any (·.1) = false := by rfl)
    (hef : starEach [.Call (.Name xg p2) (a :: es) [] pos2] X.env = (false, eval (.Call (.Name xg p2) (a :: es) [] pos2) X.env) :: starEach [] X.env := by rfl) : EvE T X (.Call (.Name xf p) [.Call (.Name xg p2) (a :: es) [] pos2] [] pos) ρ d := fun _ σ B H hρ Q q => by
  subst hc
  obtain ⟨f, fd, hm, hk, hb, F⟩ := Gf
  obtain ⟨f2, fd2, hm2, hk2, hb2, F2⟩ := Gg
  refine we (pe_call (dvs := []) F hrf hgf hm hk hb .nil pass0 (pa_cons (pe_call (dvs := []) F2 hrg hgg hm2 hk2 hb2 .nil pass0 pa_wa hdg heg hplg) pa_nil hef) hdf hef rfl) (ha _ _ _ _ hρ _ fun vs B1 H1 g1 r1 => ?_)
  show SpN X.K T args pre res (vs ++ []) H1 _ E0
  rw [List.append_nil]
  refine ⟨y, B1, g1.s, r1, hp, fun l us B2 H2 g2 hl hb2' h2 r2 => ?_⟩
  show SpU X.K T cost argsf pref post ([.ref l] ++ []) H2 Q E0
  rw [List.append_nil]
  obtain ⟨i, j, e⟩ := hbox
  rw [e] at r2
  have eu : us = [.int i, .int j, .int 0] := by
    have : ([.int i, .int j, .int 0] : List D) = [i, j, 0].map D.int := rfl
    rw [this] at r2
    exact r2.ints
  subst eu
  refine ⟨z, B2, l, [], 0, _, rfl, g2.s, hb2', h2, ⟨i, j, 0, rfl, Int.le_refl _, by omega⟩, by rw [hz]; exact .nil, hpz, fun v d' B3 H3 o' g3 h3 _ r3 p3 => ?_⟩
  rw [hpost d' p3] at r3
  have hB : H l = none := g1.h.none hl
  refine q v B3 H3 ⟨(g1.b.trans g2.b).trans g3.b, fun a o ha => ?_, g3.s, fun a o ha hn => ?_⟩ r3
  · have ne : a ≠ l := fun z => by
      rw [z, hB] at ha
      cases ha
    exact g3.h a o ((g1.trans g2).h a o ha) ne
  · exact g3.f a o ((g1.trans g2).h a o ha) ((g1.trans g2).f a o ha hn)
end
end PL
/-! W1: contracts of the rooms' small defs -/
namespace PL
open PySem PySem.Spec PyProof.Rows L2
theorem map_at {α : Type} {f : α → D} {xs : List α} {k : Nat} {d : D} (h : (xs.map f)[k]? = some d) : ∃ x, xs[k]? = some x ∧ d = f x := by
  rw [List.getElem?_map] at h
  cases e : xs[k]? with
  | none =>
    rw [e] at h
    cases h
  | some x =>
    rw [e] at h
    cases h
    exact ⟨x, rfl, rfl⟩
theorem take_next {α : Type} {xs : List α} {k : Nat} {x : α} (h : xs[k]? = some x) : xs.take (k + 1) = xs.take k ++ [x] := by
  rw [List.take_succ, h]
  rfl
section
variable {c : Cn}
theorem g_is_most (h : Hd c) : Good c "is_most" 1 ["room", "most"] (SpP c.K (ca c.K) (fun y : Rm × Rm => [encO y.1, encO y.2]) (fun _ => True) (fun y => .bl (mostM y.1 y.2))) := by
  refine good_def (N := ["room", "most"]) h.d_is_most ⟨rfl, rfl, rfl, by decide +kernel, rfl, by decide +kernel, by decide +kernel⟩ (fun _ _ _ _ _ _ us hl => match us, hl with | [_, _], _ => rfl) (fun _ => rfl) (by decide) ?_
  rintro f cdv A outer s H E hr ⟨a, b⟩ -
  cases b with
  | none => exact wb_ret (ev_or (ev_isN (ev_var 1 rfl (.inl rfl) rfl)) (fun h => nomatch h) (z2 := false)) (by cases a <;> rfl)
  | some b =>
    cases a with
    | none => exact wb_ret (ev_or (ev_isN (ev_var 1 rfl (.inl rfl) rfl)) fun _ => ev_one (ev_and (ev_notN (ev_var 0 rfl (.inl rfl) rfl)) (fun h => nomatch h) (z2 := false))) rfl
    | some a => exact wb_ret (ev_or (ev_isN (ev_var 1 rfl (.inl rfl) rfl)) fun _ => ev_one (ev_and (ev_notN (ev_var 0 rfl (.inl rfl) rfl)) fun _ => ev_one (ev_le (ev_var 0 rfl (.inl rfl) rfl) (ev_var 1 rfl (.inl rfl) rfl)))) rfl
theorem g_entry_in (h : Hd c) : Good c "entry_in" 1 ["form", "name"] (SpP c.K (ca c.K) (fun y : Fm × Str => [encF y.1, .str y.2]) (fun _ => True) (fun y => encT (entryM y.1 y.2))) := by
  refine good_def (N := ["form", "name", "own", "final", "room", "left"]) h.d_entry_in ⟨rfl, rfl, rfl, by decide +kernel, rfl, by decide +kernel, by decide +kernel⟩ (fun _ _ _ _ _ _ us hl => match us, hl with | [_, _], _ => rfl) (fun _ => rfl) (by decide) ?_
  rintro f cdv A outer s H E hr ⟨F, n⟩ -
  have nd : (["form", "name", "own", "final", "room", "left"] : List Str).Nodup := by decide +kernel
  refine wb_cons (w_for (fun _ _ h => h.elim) rfl (ei_tup (ev_ixT (ev_var 0 rfl (.inl rfl) rfl) ev_int rfl)) (fun k ρ1 => ∃ s1 s2 s3 : Sl, ρ1 = [.va (encF F), .va (.str n), s1, s2, s3, .un] ∧ (F.1.take k).find? (fun e => decide (e.1 = n)) = none) ⟨_, _, _, rfl, rfl⟩ ?_ ?_)
  · rintro k d ρ1 hd ⟨s1, s2, s3, rfl, hn⟩
    obtain ⟨e, he, rfl⟩ := map_at hd
    refine ⟨_, _, (eg_tup rfl (egs_cons (eg_name 2 nd rfl (.inl rfl)) (egs_cons (eg_name 3 nd rfl (.inl rfl)) (egs_cons (eg_name 4 nd rfl (.inl rfl)) egs_nil)))), wb_cons (w_if ((et_eq hr.units (ev_var 2 rfl (.inl rfl) rfl) (ev_var 1 rfl (.inl rfl) rfl) (eqStr _ _)).to (str_py _ _)) (fun h1 => wb_ret (ev_tup (ea_cons (ev_var 3 rfl (.inl rfl) rfl) (ea_cons (ev_var 4 rfl (.inl rfl) rfl) ea_nil))) ?_) fun h1 => wb_nil (wb_nil ⟨_, _, _, rfl, ?_⟩))⟩
    · have : entryM F n = e.2 := by
        unfold entryM
        have h2 : F.1.find? (fun e => decide (e.1 = n)) = some e := by
          rw [← List.take_append_drop (k + 1) F.1, take_next he, List.find?_append, List.find?_append, hn]
          simp [List.find?_cons, h1]
        rw [h2]
      show _ = encT (entryM F n)
      rw [this]
      rfl
    · rw [take_next he, List.find?_append, hn]
      simp [List.find?_cons, h1]
  · rintro ρ1 ⟨s1, s2, s3, rfl, hn⟩
    rw [List.length_map, List.take_length] at hn
    refine wb_cons (w_asg (ev_ixT (ev_var 0 rfl (.inl rfl) rfl) ev_int rfl) (eg_tup rfl (egs_cons (eg_name 5 nd rfl (.inl rfl)) (egs_cons (eg_name 4 nd rfl (.inl rfl)) egs_nil))) (wb_ret (ev_tup (ea_cons (ev_ite (et_val (ev_var 5 rfl (.inl rfl) rfl)) (fun _ => (ev_var 1 rfl (.inl rfl) rfl)) (fun _ => ev_non)) (ea_cons (ev_var 4 rfl (.inl rfl) rfl) ea_nil))) ?_))
    show _ = encT (entryM F n)
    unfold entryM
    rw [hn]
    cases h1 : F.2.1 <;> simp only [h1] <;> rfl
end
end PL
/-! W2: contracts of the rooms' defs -/
namespace PL
open PySem PySem.Spec PyProof.Rows L2
section
variable {c : Cn}
theorem g_final_in (h : Hd c) : Good c "final_in" 2 ["form", "name"] (SpP c.K (ca c.K) (fun y : Fm × Str => [encF y.1, .str y.2]) (fun _ => True) (fun y => encS (entryM y.1 y.2).1)) := by
  refine good_def (N := ["form", "name"]) h.d_final_in ⟨rfl, rfl, rfl, by decide +kernel, rfl, by decide +kernel, by decide +kernel⟩ (fun _ _ _ _ _ _ us hl => match us, hl with | [_, _], _ => rfl) (fun _ => rfl) (by decide) ?_
  rintro f cdv A outer s H E hr ⟨F, n⟩ -
  exact wb_ret (ev_ixT (ev_call (g_entry_in h) ((F, n)) rfl (hr.mono (by decide)) (ea_cons (ev_var 0 rfl (.inl rfl) rfl) (ea_cons (ev_var 1 rfl (.inl rfl) rfl) ea_nil)) trivial) ev_int rfl) rfl
theorem g_room_in (h : Hd c) : Good c "room_in" 2 ["form", "name"] (SpP c.K (ca c.K) (fun y : Fm × Str => [encF y.1, .str y.2]) (fun _ => True) (fun y => encO (entryM y.1 y.2).2)) := by
  refine good_def (N := ["form", "name"]) h.d_room_in ⟨rfl, rfl, rfl, by decide +kernel, rfl, by decide +kernel, by decide +kernel⟩ (fun _ _ _ _ _ _ us hl => match us, hl with | [_, _], _ => rfl) (fun _ => rfl) (by decide) ?_
  rintro f cdv A outer s H E hr ⟨F, n⟩ -
  exact wb_ret (ev_ixT (ev_call (g_entry_in h) ((F, n)) rfl (hr.mono (by decide)) (ea_cons (ev_var 0 rfl (.inl rfl) rfl) (ea_cons (ev_var 1 rfl (.inl rfl) rfl) ea_nil)) trivial) ev_int rfl) rfl
theorem keep_some (xs : List En) : keepF (fun e : En => e.2.1.isSome) (fun e => encS e.2.1) xs = (xs.filterMap (·.2.1)).map D.str := by
  induction xs with
  | nil => rfl
  | cons x xs ih =>
    unfold keepF at ih ⊢
    rw [List.filter_cons, List.filterMap_cons]
    cases e : x.2.1 with
    | none => simpa using ih
    | some y =>
      simp only [Option.isSome_some, if_true, List.map_cons, ih, e]
      rfl
theorem keep_all {α : Type} (f : α → D) (xs : List α) : keepF (fun _ => true) f xs = xs.map f := by
  unfold keepF
  rw [List.filter_eq_self.mpr fun _ _ => rfl]
theorem g_names_told (h : Hd c) : Good c "names_told" 1 ["form"] (SpP c.K (ca c.K) (fun y : Fm => [encF y]) (fun y => y.1.length ≤ 40) (fun y => encNs (namesM y))) := by
  refine good_def (N := ["form", "name", "final", "room"]) h.d_names_told ⟨rfl, rfl, rfl, by decide +kernel, rfl, by decide +kernel, by decide +kernel⟩ (fun _ _ _ _ _ _ us hl => match us, hl with | [_], _ => rfl) (fun _ => rfl) (by decide) ?_
  rintro f cdv A outer s H E hr F hl
  have hl : F.1.length ≤ 40 := hl
  have nd : (["form", "name", "final", "room"] : List Str).Nodup := by decide +kernel
  refine wb_ret ((en_cat ((en_lc (enc := (encE)) (p := (fun _ => true)) (f := (fun e => .str e.1)) (xs := (F.1)) rfl nd [("name", 1), ("final", 2), ("room", 3)] (blk_of rfl) (ei_tup (ev_ixT (ev_var 0 rfl (.inl rfl) rfl) ev_int rfl)) ⟨fun x hx => ⟨_, _, by decide, fun _ _ _ _ _ => ⟨(eg_tup rfl (egs_cons (eg_name 1 nd rfl (.inl rfl)) (egs_cons (eg_name 2 nd rfl (.inl rfl)) (egs_cons (eg_name 3 nd rfl (.inl rfl)) egs_nil)))), ets_nil, fun _ => ((ev_var 1 rfl (.inl rfl) rfl).to rfl)⟩⟩⟩ (by omega))).toE ((en_lc (enc := (encE)) (p := (fun e => e.2.1.isSome)) (f := (fun e => encS e.2.1)) (xs := (F.1)) rfl nd [("name", 1), ("final", 2), ("room", 3)] (blk_of rfl) (ei_tup (ev_ixT (ev_var 0 rfl (.inl rfl) rfl) ev_int rfl)) ⟨fun x hx => ⟨_, _, by decide, fun _ _ _ _ _ => ⟨(eg_tup rfl (egs_cons (eg_name 1 nd rfl (.inl rfl)) (egs_cons (eg_name 2 nd rfl (.inl rfl)) (egs_cons (eg_name 3 nd rfl (.inl rfl)) egs_nil)))), (ets_one ((et_notN (ev_var 2 rfl (.inl rfl) rfl)).to (by rw [encS_non]; cases x.2.1 <;> rfl))), fun _ => ((ev_var 2 rfl (.inl rfl) rfl).to rfl)⟩⟩⟩ (by omega))).toE (?_))).toE ?_
  · rw [keep_all, keep_some, List.length_map, List.length_map]
    have := List.length_filterMap_le (fun e : En => e.2.1) F.1
    omega
  · rw [keep_all, keep_some]
    show D.lst _ = D.lst ((namesM F).map D.str)
    unfold namesM
    rw [List.map_append, List.map_map]
    rfl
theorem filt_find {α : Type} (p : α → Bool) : ∀ xs : List α, (xs.filter p)[0]? = xs.find? p
  | [] => rfl
  | x :: xs => by
    rw [List.filter_cons, List.find?_cons]
    cases e : p x with
    | true => simp
    | false => simpa using filt_find p xs
theorem g_height_in (h : Hd c) : Good c "height_in" 1 ["form"] (SpP c.K (ca c.K) (fun y : Fm => [encF y]) (fun y => y.1.length ≤ 40) (fun y => encO (heightM y))) := by
  refine good_def (N := ["form", "left", "room", "rooms", "name", "final", "own"]) h.d_height_in ⟨rfl, rfl, rfl, by decide +kernel, rfl, by decide +kernel, by decide +kernel⟩ (fun _ _ _ _ _ _ us hl => match us, hl with | [_], _ => rfl) (fun _ => rfl) (by decide) ?_
  rintro f cdv A outer s H E hr F hl
  have hl : F.1.length ≤ 40 := hl
  have nd : (["form", "left", "room", "rooms", "name", "final", "own"] : List Str).Nodup := by decide +kernel
  refine wb_cons (w_asg (ev_ixT (ev_var 0 rfl (.inl rfl) rfl) ev_int rfl) (eg_tup rfl (egs_cons (eg_name 1 nd rfl (.inl rfl)) (egs_cons (eg_name 2 nd rfl (.inl rfl)) egs_nil))) (wb_cons (w_if (et_val (ev_var 1 rfl (.inl rfl) rfl)) (fun h1 => wb_ret (ev_var 2 rfl (.inl rfl) rfl) ?_) fun h1 => wb_nil (wb_cons (w_lcN (enc := (encE)) (p := (fun e => e.2.1.isSome)) (f := (fun e => encO e.2.2)) (xs := (F.1)) 3 rfl nd [("name", 4), ("final", 5), ("own", 6)] rfl rfl (blk_of rfl) (ei_tup (ev_ixT (ev_var 0 rfl (.inl rfl) rfl) ev_int rfl)) ⟨fun x hx => ⟨_, _, by decide, fun _ _ _ _ _ => ⟨(eg_tup rfl (egs_cons (eg_name 4 nd rfl (.inl rfl)) (egs_cons (eg_name 5 nd rfl (.inl rfl)) (egs_cons (eg_name 6 nd rfl (.inl rfl)) egs_nil)))), (ets_one ((et_notN (ev_var 5 rfl (.inl rfl) rfl)).to (by rw [encS_non]; cases x.2.1 <;> rfl))), fun _ => ((ev_var 6 rfl (.inl rfl) rfl).to rfl)⟩⟩⟩ (by omega) (wb_frz 3 rfl (wb_ret (d := encO (heightM F)) ?_ rfl)) rfl)))))
  · show encO F.2.2 = encO (heightM F)
    unfold heightM
    rw [if_pos h1]
  · have e0 := filt_find (fun e : En => e.2.1.isSome) F.1
    have eh : heightM F = ((F.1.find? (fun e : En => e.2.1.isSome)).map (·.2.2)).getD (some 0) := by
      unfold heightM
      rw [if_neg (by rw [h1]; exact Bool.false_ne_true)]
    have el : (keepF (fun e : En => e.2.1.isSome) (fun e => encO e.2.2) F.1).length = (F.1.filter fun e : En => e.2.1.isSome).length := by
      unfold keepF
      rw [List.length_map]
    refine ev_if (et_gt (ev_len h.f_len (ev_var 3 rfl (.inl rfl) rfl) (.inl rfl)) ev_int) (fun h2 => (ev_ixL (ev_var 3 rfl (.inl rfl) rfl) ev_int (?_))) fun h2 => ev_int.to ?_
    · have h2 : (0 : Int) < _ := of_decide_eq_true h2
      rw [el] at h2
      rw [eh]
      cases ef : F.1.filter (fun e : En => e.2.1.isSome) with
      | nil =>
        rw [ef] at h2
        exact absurd h2 (by decide)
      | cons e r =>
        rw [ef] at e0
        rw [← e0]
        unfold keepF
        rw [ef]
        exact atI_zero
    · have h2 := of_decide_eq_false h2
      rw [el] at h2
      rw [eh]
      cases ef : F.1.filter (fun e : En => e.2.1.isSome) with
      | nil =>
        rw [ef] at e0
        rw [← e0]
        rfl
      | cons e r =>
        rw [ef] at h2
        simp only [List.length_cons] at h2
        omega
theorem g_rooms_gone (h : Hd c) : Good c "rooms_gone" 1 ["form"] (SpP c.K (ca c.K) (fun y : Fm => [encF y]) (fun y => y.1.length ≤ 40) (fun y => .lst ((goneM y).map encO))) := by
  refine good_def (N := ["form", "rooms", "name", "final", "room"]) h.d_rooms_gone ⟨rfl, rfl, rfl, by decide +kernel, rfl, by decide +kernel, by decide +kernel⟩ (fun _ _ _ _ _ _ us hl => match us, hl with | [_], _ => rfl) (fun _ => rfl) (by decide) ?_
  rintro f cdv A outer s H E hr F hl
  have hl : F.1.length ≤ 40 := hl
  have nd : (["form", "rooms", "name", "final", "room"] : List Str).Nodup := by decide +kernel
  refine wb_cons (w_lcN (enc := (encE)) (p := (fun e => e.2.1.isNone)) (f := (fun e => encO e.2.2)) (xs := (F.1)) 1 rfl nd [("name", 2), ("final", 3), ("room", 4)] rfl rfl (blk_of rfl) (ei_tup (ev_ixT (ev_var 0 rfl (.inl rfl) rfl) ev_int rfl)) ⟨fun x hx => ⟨_, _, by decide, fun _ _ _ _ _ => ⟨(eg_tup rfl (egs_cons (eg_name 2 nd rfl (.inl rfl)) (egs_cons (eg_name 3 nd rfl (.inl rfl)) (egs_cons (eg_name 4 nd rfl (.inl rfl)) egs_nil)))), (ets_one ((et_isN (ev_var 3 rfl (.inl rfl) rfl)).to (by rw [encS_non]))), fun _ => ((ev_var 4 rfl (.inl rfl) rfl).to rfl)⟩⟩⟩ (by omega) (wb_frz 1 rfl (wb_ret (ev_ite (et_val (ev_ixT (ev_ixT (ev_var 0 rfl (.inl rfl) rfl) ev_int rfl) ev_int rfl)) (fun _ => (ev_var 1 rfl (.inl rfl) rfl)) (fun _ => ((en_lst (ea_star (ev_var 1 rfl (.inl rfl) rfl) (.inl rfl) (ea_cons (ev_ixT (ev_ixT (ev_var 0 rfl (.inl rfl) rfl) ev_int rfl) ev_int rfl) ea_nil)) (?_))).toE)) ?_)) rfl)
  · have h0 := keepF_len (fun e : En => e.2.1.isNone) (fun e => encO e.2.2) F.1
    rw [List.length_append]
    simp only [List.length_cons, List.length_nil]
    omega
  · show _ = D.lst ((goneM F).map encO)
    unfold goneM keepF
    rw [List.map_append, List.map_map]
    cases F.2.1
    · rfl
    · show D.lst _ = _
      rw [if_pos rfl, List.map_nil, List.append_nil]
      rfl
theorem g_greater (h : Hd c) : Good c "greater" 2 ["one", "other"] (SpP c.K (ca c.K) (fun y : Rm × Rm => [encO y.1, encO y.2]) (fun _ => True) (fun y => encO (greaterM y.1 y.2))) := by
  refine good_def (N := ["one", "other"]) h.d_greater ⟨rfl, rfl, rfl, by decide +kernel, rfl, by decide +kernel, by decide +kernel⟩ (fun _ _ _ _ _ _ us hl => match us, hl with | [_, _], _ => rfl) (fun _ => rfl) (by decide) ?_
  rintro f cdv A outer s H E hr ⟨a, b⟩ -
  refine wb_ret (ev_ite (et_val (ev_call (g_is_most h) ((a, b)) rfl (hr.mono (by decide)) (ea_cons (ev_var 0 rfl (.inl rfl) rfl) (ea_cons (ev_var 1 rfl (.inl rfl) rfl) ea_nil)) trivial)) (fun _ => (ev_var 1 rfl (.inl rfl) rfl)) (fun _ => (ev_var 0 rfl (.inl rfl) rfl))) ?_
  show (if mostM a b = true then encO b else encO a) = encO (greaterM a b)
  unfold greaterM
  split <;> rfl
theorem g_side (h : Hd c) : Good c "side" 3 ["form", "name"] (SpP c.K (ca c.K) (fun y : Fm × Str => [encF y.1, .str y.2]) (fun _ => True) (fun y => encP (sideM y.1 y.2))) := by
  refine good_def (N := ["form", "name"]) h.d_side ⟨rfl, rfl, rfl, by decide +kernel, rfl, by decide +kernel, by decide +kernel⟩ (fun _ _ _ _ _ _ us hl => match us, hl with | [_, _], _ => rfl) (fun _ => rfl) (by decide) ?_
  rintro f cdv A outer s H E hr ⟨F, n⟩ -
  refine wb_ret (ev_tup (ea_cons (ev_notN (ev_call (g_final_in h) ((F, n)) rfl (hr.mono (by decide)) (ea_cons (ev_var 0 rfl (.inl rfl) rfl) (ea_cons (ev_var 1 rfl (.inl rfl) rfl) ea_nil)) trivial)) (ea_cons (ev_call (g_room_in h) ((F, n)) rfl (hr.mono (by decide)) (ea_cons (ev_var 0 rfl (.inl rfl) rfl) (ea_cons (ev_var 1 rfl (.inl rfl) rfl) ea_nil)) trivial) ea_nil))) ?_
  show D.tup [.bl (!(encS (entryM F n).1).isNon), encO (entryM F n).2] = encP (sideM F n)
  rw [encS_non]
  unfold sideM encP
  cases (entryM F n).1 <;> rfl
end
end PL
/-! W3: contracts of the forms' defs -/
namespace PL
open PySem PySem.Spec PyProof.Rows L2
theorem ite_encS (z : Bool) (n : Str) : (if z = true then D.str n else D.non) = encS (if z = true then some n else none) := by cases z <;> rfl
theorem eqTI (p : Option Str × Rm) (z : Bool) (n : Str) (r : Rm) : Eqable (encT p) (.tup [if z = true then D.str n else D.non, encO r]) := by
  rw [ite_encS]
  exact eqT p (_, r)
theorem encTI_py (p : Option Str × Rm) (z : Bool) (n : Str) (r : Rm) : PyData.eqv (encT p).py (D.tup [if z = true then D.str n else D.non, encO r]).py = decide (p = (if z = true then some n else none, r)) := by
  rw [ite_encS]
  exact encT_py p (_, r)
def sd (d : D) : Bool := match d with
  | .tup (a :: _) => a.isNon
  | _ => false
theorem all_map {α : Type} (f : α → Bool) (xs : List α) : ((xs.map f).all id) = xs.all f := by
  rw [List.all_map]
  rfl
section
variable {c : Cn}
theorem g_form_with (h : Hd c) : Good c "form_with" 1 ["table", "rest"] (SpD c.K (ca c.K) (fun y : List Str × (Str → Option Str × Rm) × (Bool × Rm) => y.1) (fun y k => encT (y.2.1 k)) (fun y => encP y.2.2) (fun y => y.1.length < 64) (fun y => encF (formWithM y.1 y.2.1 y.2.2))) := by
  refine good_defD (N := ["left", "room", "final", "own", "rows", "name"]) h.d_form_with ⟨rfl, rfl, rfl, by decide +kernel, rfl, by decide +kernel, by decide +kernel⟩ (fun _ _ _ _ _ _ us hl => match us, hl with | [_, _], _ => rfl) ?_
  rintro f cdv A outer s H E hr ⟨ks, fn, ⟨rl, rm⟩⟩ hl
  have hl : ks.length < 64 := hl
  have nd : (["table", "rest", "left", "room", "final", "own", "rows", "name"] : List Str).Nodup := by decide +kernel
  have hns : ∀ (i : Nat) (ws : List D), (((Sl.dc ks (ks.map fun k => encT (fn k)) :: Sl.va (encP (rl, rm)) :: List.replicate 6 .un).set 2 (Sl.va (.bl rl))).set 3 (Sl.va (encO rm)))[i]? ≠ some (.ow ws) := fun i ws q => by
    match i, q with
    | 0, q => cases q
    | 1, q => cases q
    | 2, q => cases q
    | 3, q => cases q
    | 4, q => cases q
    | 5, q => cases q
    | 6, q => cases q
    | 7, q => cases q
  have hnu : ∀ (i m : Nat), (((Sl.dc ks (ks.map fun k => encT (fn k)) :: Sl.va (encP (rl, rm)) :: List.replicate 6 .un).set 2 (Sl.va (.bl rl))).set 3 (Sl.va (encO rm)))[i]? ≠ some (.ur m) := fun i m q => by
    match i, q with
    | 0, q => cases q
    | 1, q => cases q
    | 2, q => cases q
    | 3, q => cases q
    | 4, q => cases q
    | 5, q => cases q
    | 6, q => cases q
    | 7, q => cases q
  have hnd : ∀ (i : Nat) (js : List Str) (ws : List D), i ≠ 0 → (((Sl.dc ks (ks.map fun k => encT (fn k)) :: Sl.va (encP (rl, rm)) :: List.replicate 6 .un).set 2 (Sl.va (.bl rl))).set 3 (Sl.va (encO rm)))[i]? ≠ some (.dc js ws) := fun i js ws h0 q => by
    match i, h0, q with
    | 0, h0, q => exact h0 rfl
    | 1, _, q => cases q
    | 2, _, q => cases q
    | 3, _, q => cases q
    | 4, _, q => cases q
    | 5, _, q => cases q
    | 6, _, q => cases q
    | 7, _, q => cases q
  have lenR : ((ks.mergeSort leS).filter fun k => !decide (fn k = (if rl = true then some k else none, rm))).length ≤ 100000 := by
    have h1 := List.length_filter_le (fun k => !decide (fn k = (if rl = true then some k else none, rm))) (ks.mergeSort leS)
    rw [(List.mergeSort_perm _ _).length_eq] at h1
    omega
  refine wb_cons (w_asg (ev_var 1 rfl (.inl rfl) rfl) (eg_tup rfl (egs_cons (eg_name 2 nd rfl (.inr rfl)) (egs_cons (eg_name 3 nd rfl (.inr rfl)) egs_nil))) (wb_cons (w_if (z := !rl && ks.all fun k => (fn k).1.isNone) (EvW.t (ew_and (et_not (et_val (ev_var 2 rfl (.inr (.inl rfl)) rfl))) fun h1 => ew_and1 (et_val ((ev_all (bs := (ks.map fun k => encT (fn k)).map sd) rfl h.f_all (((en_lcV (f := sd) (enc := fun d => d) 0 rfl nd [("final", 4), ("own", 5)] (blk_of rfl) rfl (.inr (.inl rfl)) rfl hns hnd hnu ⟨fun x hx => ?tt⟩ (by rw [List.length_map]; omega)).to (by rw [List.map_map, List.map_map, List.map_map]; rfl)).toE)).to ?ta)))) (fun h1 => wb_ret (ev_gref rfl h.g_NOTHING_rooms (fun B => h.kst.nothing _ B)) ?r1) fun h1 => wb_nil (wb_cons (w_lcN (enc := (D.str)) (p := (fun k => !decide (fn k = (if rl = true then some k else none, rm)))) (f := (D.str)) (xs := (ks.mergeSort leS)) 6 rfl nd [("name", 7)] rfl rfl (blk_of rfl) (ei_lst (EvN.toE (en_sortedD 0 rfl h.f_sorted rfl (.inr (.inl rfl)) rfl (hl)))) ⟨fun x hx => ⟨_, _, by decide, fun _ _ _ _ _ => ⟨(eg_name 7 nd rfl (.inl rfl)), (ets_one (EvT.to (et_ne hr.units (ev_dget 0 hr.units rfl (.inr (.inl rfl)) rfl (ev_var 7 rfl (.inl rfl) rfl) (((List.mergeSort_perm _ _).mem_iff.mp hx))) (ev_tup (ea_cons (ev_ite (et_val (ev_var 2 rfl (.inr (.inl rfl)) rfl)) (fun _ => (ev_var 7 rfl (.inl rfl) rfl)) (fun _ => ev_non)) (ea_cons (ev_var 3 rfl (.inr (.inl rfl)) rfl) ea_nil))) (eqTI _ _ _ _)) (by rw [encTI_py]))), fun _ => (EvE.to (ev_var 7 rfl (.inl rfl) rfl) rfl)⟩⟩⟩ (by rw [(List.mergeSort_perm _ _).length_eq]; omega) (wb_frz 6 rfl (wb_ret (ev_tup (ea_cons (ev_tupleL h.f_tuple (EvN.toE (en_lc (enc := (D.str)) (p := (fun _ => true)) (f := (fun k => encE (k, fn k))) (xs := ((ks.mergeSort leS).filter fun k => !decide (fn k = (if rl = true then some k else none, rm)))) rfl nd [("name", 7)] (blk_of rfl) (ei_lst (ev_var 6 rfl (.inl rfl) rfl)) ⟨fun x hx => ⟨_, _, by decide, fun _ _ _ _ _ => ⟨(eg_name 7 nd rfl (.inl rfl)), ets_nil, fun _ => (EvE.to (ev_tup (ea_cons (ev_var 7 rfl (.inl rfl) rfl) (ea_star (ev_dget 0 hr.units rfl (.inr (.inl rfl)) rfl (ev_var 7 rfl (.inl rfl) rfl) ((List.mergeSort_perm _ _).mem_iff.mp (List.mem_filter.mp hx).1)) (.inr rfl) ea_nil)) (Nat.le_of_ble_eq_true rfl)) rfl)⟩⟩⟩ (lenR))) (.inl rfl)) (ea_cons (ev_var 1 rfl (.inl rfl) rfl) ea_nil))) ?r2)) rfl)))))
  case tt =>
    obtain ⟨k, hk, rfl⟩ := List.mem_map.mp hx
    exact ⟨_, _, by decide, fun _ _ _ _ _ => ⟨(eg_tup rfl (egs_cons (eg_name 4 nd rfl (.inl rfl)) (egs_cons (eg_name 5 nd rfl (.inl rfl)) egs_nil))), ets_nil, fun _ => EvE.to (ev_isN (ev_var 4 rfl (.inl rfl) rfl)) rfl⟩⟩
  case ta =>
    have e : (((ks.map fun k => encT (fn k)).map sd).all id) = ks.all fun k => (fn k).1.isNone := by
      rw [List.map_map, all_map]
      congr 1
      funext k
      show (encS (fn k).1).isNon = _
      rw [encS_non]
    rw [e]
  case r1 =>
    show dNothing = encF (formWithM ks fn (rl, rm))
    unfold formWithM
    rw [if_pos h1]
    rfl
  case r2 =>
    show _ = encF (formWithM ks fn (rl, rm))
    unfold formWithM
    rw [if_neg (by rw [h1]; exact Bool.false_ne_true), keep_all]
    unfold encF
    rw [List.map_map]
    rfl
end
end PL
/-! W4: composition of forms, the lattice -/
namespace PL
open PySem PySem.Spec PyProof.Rows L2
abbrev Mk2 := Str × (Bool × Rm)
def encM (m : Mk2) : D := .tup [.str m.1, encP m.2]
def encPP (p : (Bool × Rm) × (Bool × Rm)) : D := .tup [encP p.1, encP p.2]
def toldM (F G : Fm) : List Str := ssetS ((F.1 ++ G.1).map (·.1))
def pairsM (F G : Fm) : List ((Bool × Rm) × (Bool × Rm)) := (toldM F G).map (fun n => (sideM F n, sideM G n)) ++ [(F.2, G.2)]
def withinM (F G : Fm) : Bool := (pairsM F G).all fun p => (!p.1.1 || p.2.1) && mostM p.1.2 p.2.2
def formOfM (ms : List Mk2) (r : Bool × Rm) : Fm := if (!r.1 && !ms.any (·.2.1)) = true then nothingM else ((ms.filter fun m => !decide (m.2 = r)).map fun m => (m.1, (if m.2.1 = true then some m.1 else none), m.2.2), r)
def overM (F : Fm) (ns : List Str) : Fm := formOfM ((ssetS ns).map fun n => (n, sideM F n)) (false, some 0)
theorem ssort_len {κ : Type} [BEq κ] (le : κ → κ → Bool) : ∀ (n : Nat) (xs : List κ), xs.length ≤ n → xs.eraseDups.length ≤ xs.length
  | _, [], _ => by simp
  | 0, _ :: _, h => by simp at h
  | n + 1, x :: xs, h => by
    rw [List.eraseDups_cons, List.length_cons, List.length_cons]
    have h1 := List.length_filter_le (fun b => !b == x) xs
    have h2 := ssort_len le n (xs.filter fun b => !b == x) (by simp at h; omega)
    omega
theorem ssetS_len (xs : List Str) : (ssetS xs).length ≤ xs.length := by
  unfold ssetS ssort
  rw [(List.mergeSort_perm _ _).length_eq]
  exact ssort_len leS _ xs (Nat.le_refl _)
theorem ssetI_len (xs : List Int) : (ssetI xs).length ≤ xs.length := by
  unfold ssetI ssort
  rw [(List.mergeSort_perm _ _).length_eq]
  exact ssort_len leI _ xs (Nat.le_refl _)
theorem ssetS_mem {xs : List Str} {n : Str} : n ∈ ssetS xs ↔ n ∈ xs := by
  unfold ssetS ssort
  rw [(List.mergeSort_perm _ _).mem_iff, List.mem_eraseDups]
theorem ssetI_mem {xs : List Int} {n : Int} : n ∈ ssetI xs ↔ n ∈ xs := by
  unfold ssetI ssort
  rw [(List.mergeSort_perm _ _).mem_iff, List.mem_eraseDups]
section
variable {c : Cn}
theorem g_entry_behind (h : Hd c) : Good c "entry_behind" 2 ["one", "other", "name"] (SpP c.K (ca c.K) (fun y : Fm × Fm × Str => [encF y.1, encF y.2.1, .str y.2.2]) (fun y => y.1.1.length ≤ 40) (fun y => encT (entryBehindM y.1 y.2.1 y.2.2))) := by
  refine good_def (N := ["one", "other", "name", "final", "room", "later", "more"]) h.d_entry_behind ⟨rfl, rfl, rfl, by decide +kernel, rfl, by decide +kernel, by decide +kernel⟩ (fun _ _ _ _ _ _ us hl => match us, hl with | [_, _, _], _ => rfl) (fun _ => rfl) (by decide) ?_
  rintro f cdv A outer s H E hr ⟨F, G, n⟩ hl
  have hl : F.1.length ≤ 40 := hl
  have nd : (["one", "other", "name", "final", "room", "later", "more"] : List Str).Nodup := by decide +kernel
  refine wb_cons (w_asg (ev_call (g_entry_in h) ((F, n)) rfl (hr.mono (by decide)) (ea_cons (ev_var 0 rfl (.inl rfl) rfl) (ea_cons (ev_var 2 rfl (.inl rfl) rfl) ea_nil)) trivial) (eg_tup rfl (egs_cons (eg_name 3 nd rfl (.inl rfl)) (egs_cons (eg_name 4 nd rfl (.inl rfl)) egs_nil))) (wb_cons (w_if (et_isN (ev_var 3 rfl (.inl rfl) rfl)) (fun h1 => wb_ret (ev_tup (ea_cons ev_non (ea_cons (ev_var 4 rfl (.inl rfl) rfl) ea_nil))) ?_) fun h1 => wb_nil ?_)))
  · rw [encS_non] at h1
    show _ = encT (entryBehindM F G n)
    unfold entryBehindM
    cases e : (entryM F n).1 with
    | none => rfl
    | some x =>
      rw [e] at h1
      cases h1
  · rw [encS_non] at h1
    cases e : (entryM F n).1 with
    | none =>
      rw [e] at h1
      cases h1
    | some x =>
      refine wb_cons (w_asg (EvE.to (ev_call (g_entry_in h) ((G, x)) rfl (hr.mono (by decide)) (ea_cons (ev_var 1 rfl (.inl rfl) rfl) (ea_cons (ev_var 3 rfl (.inl rfl) rfl) ea_nil)) trivial) rfl) (eg_tup rfl (egs_cons (eg_name 5 nd rfl (.inl rfl)) (egs_cons (eg_name 6 nd rfl (.inl rfl)) egs_nil))) (wb_ret (ev_tup (ea_cons (ev_var 5 rfl (.inl rfl) rfl) (ea_cons (ev_call (g_lesser h) ((heightM F, (entryM G x).2)) rfl (hr.mono (by decide)) (ea_cons (ev_call (g_height_in h) (F) rfl (hr.mono (by decide)) (ea_cons (ev_var 0 rfl (.inl rfl) rfl) ea_nil) (hl)) (ea_cons (ev_var 6 rfl (.inl rfl) rfl) ea_nil)) trivial) ea_nil))) ?_))
      show _ = encT (entryBehindM F G n)
      unfold entryBehindM
      rw [e]
      rfl
theorem g_form_behind (h : Hd c) : Good c "form_behind" 3 ["one", "other"] (SpP c.K (ca c.K) (fun y : Fm × Fm => [encF y.1, encF y.2]) (fun y => y.1.1.length ≤ 15 ∧ y.2.1.length ≤ 15) (fun y => encF (formBehindM y.1 y.2))) := by
  refine good_def (N := ["one", "other", "names", "left", "room", "rest", "name"]) h.d_form_behind ⟨rfl, rfl, rfl, by decide +kernel, rfl, by decide +kernel, by decide +kernel⟩ (fun _ _ _ _ _ _ us hl => match us, hl with | [_, _], _ => rfl) (fun _ => rfl) (by decide) ?_
  rintro f cdv A outer s H E hr ⟨F, G⟩ ⟨hl, hg⟩
  have hl : F.1.length ≤ 15 := hl
  have hg : G.1.length ≤ 15 := hg
  have nd : (["one", "other", "names", "left", "room", "rest", "name"] : List Str).Nodup := by decide +kernel
  have nl : ∀ F : Fm, F.1.length ≤ 15 → (namesM F).length ≤ 30 := fun F hl => by
    unfold namesM
    have h1 := List.length_filterMap_le (fun e : En => e.2.1) F.1
    rw [List.length_append, List.length_map]
    omega
  have h1 := nl F hl
  have h2 := nl G hg
  have hd : (dks (namesM F ++ namesM G)).length < 64 := by
    have q := dks_len (namesM F ++ namesM G) []
    rw [List.length_append] at q
    have q2 : (dks (namesM F ++ namesM G)).length ≤ 0 + ((namesM F).length + (namesM G).length) := q
    omega
  refine wb_cons (w_setN 2 nd rfl (.inl rfl) (EvN.to (ds' := (namesM F ++ namesM G).map D.str) (en_cat (ev_call (g_names_told h) (F) rfl (hr.mono (by decide)) (ea_cons (ev_var 0 rfl (.inr (.inl rfl)) rfl) ea_nil) (by show F.1.length ≤ 40; omega)) (ev_call (g_names_told h) (G) rfl (hr.mono (by decide)) (ea_cons (ev_var 1 rfl (.inr (.inl rfl)) rfl) ea_nil) (by show G.1.length ≤ 40; omega)) (by rw [List.length_map, List.length_map]; omega)) List.map_append.symm) (wb_frz 2 rfl (wb_cons (w_asg (ev_ixT (ev_var 0 rfl (.inr (.inl rfl)) rfl) ev_int rfl) (eg_tup rfl (egs_cons (eg_name 3 nd rfl (.inl rfl)) (egs_cons (eg_name 4 nd rfl (.inl rfl)) egs_nil))) (wb_cons (w_set 5 nd rfl (.inl rfl) (d := encP (if F.2.1 = true then (G.2.1, lesserM F.2.2 G.2.2) else F.2)) (ev_if (et_val (ev_var 3 rfl (.inl rfl) rfl)) (fun h1 => EvE.to (ev_tup (ea_cons (ev_ixT (ev_ixT (ev_var 1 rfl (.inr (.inl rfl)) rfl) ev_int rfl) ev_int rfl) (ea_cons (ev_call (g_lesser h) ((F.2.2, G.2.2)) rfl (hr.mono (by decide)) (ea_cons (ev_var 4 rfl (.inl rfl) rfl) (ea_cons (ev_ixT (ev_ixT (ev_var 1 rfl (.inr (.inl rfl)) rfl) ev_int rfl) ev_int rfl) ea_nil)) trivial) ea_nil))) ?r1) fun h1 => EvE.to (ev_ixT (ev_var 0 rfl (.inr (.inl rfl)) rfl) ev_int rfl) ?r2)
    (wb_ret (ev_callD (g_form_with h) ((dks (namesM F ++ namesM G), entryBehindM F G, if F.2.1 = true then (G.2.1, lesserM F.2.2 G.2.2) else F.2)) rfl (hr.mono (by decide)) (ed_dc (ns := (namesM F ++ namesM G)) (f := (fun n => encT (entryBehindM F G n))) rfl nd [("name", 6)] (blk_of rfl) (ei_lst (ev_var 2 rfl (.inl rfl) rfl)) (fun x hx hk => ⟨_, _, by decide, fun _ _ _ _ _ => ⟨(eg_name 6 nd rfl (.inl rfl)), (ev_var 6 rfl (.inl rfl) rfl), (EvE.to (ev_call (g_entry_behind h) ((F, G, x)) rfl (hr.mono (by decide)) (ea_cons (ev_var 0 rfl (.inr (.inl rfl)) rfl) (ea_cons (ev_var 1 rfl (.inr (.inl rfl)) rfl) (ea_cons (ev_var 6 rfl (.inl rfl) rfl) ea_nil))) (by show F.1.length ≤ 40; omega)) rfl)⟩⟩) (by rw [List.length_append]; omega)) (ev_var 5 rfl (.inl rfl) rfl) (hd)) rfl)))))))
  case r1 =>
    rw [if_pos h1]
    rfl
  case r2 => rw [if_neg (by rw [h1]; exact Bool.false_ne_true)]
end
end PL
/-! W5: the lattice's defs, over_names -/
namespace PL
open PySem PySem.Spec PyProof.Rows L2
theorem encP_eta (l : Bool) (r : Rm) : D.tup [.bl l, encO r] = encP (l, r) := rfl
section
variable {c : Cn}
theorem g_set_of (h : Hd c) : Good c "set_of" 1 ["things"] (SpP c.K (ca c.K) (fun y : Bool × List Str => [if y.1 = true then encNs y.2 else encNt y.2]) (fun y => y.2.length < 64) (fun y => encNt (ssetS y.2))) := by
  refine good_def (N := ["things"]) h.d_set_of ⟨rfl, rfl, rfl, by decide +kernel, rfl, by decide +kernel, by decide +kernel⟩ (fun _ _ _ _ _ _ us hl => match us, hl with | [_], _ => rfl) (fun _ => rfl) (by decide) ?_
  rintro f cdv A outer s H E hr ⟨b, ns⟩ hl
  have hl : ns.length < 64 := hl
  cases b with
  | true => exact wb_ret (ev_tupleL h.f_tuple (EvN.toE (en_ssetS rfl hr.units h.f_sorted h.f_set (ev_var 0 rfl (.inl rfl) rfl) (.inl rfl) (hl))) (.inl rfl)) rfl
  | false => exact wb_ret (ev_tupleL h.f_tuple (EvN.toE (en_ssetS rfl hr.units h.f_sorted h.f_set (ev_var 0 rfl (.inl rfl) rfl) (.inr rfl) (hl))) (.inl rfl)) rfl
theorem g_told_in (h : Hd c) : Good c "told_in" 1 ["one", "other"] (SpP c.K (ca c.K) (fun y : Fm × Fm => [encF y.1, encF y.2]) (fun y => y.1.1.length ≤ 20 ∧ y.2.1.length ≤ 20) (fun y => encNs (toldM y.1 y.2))) := by
  refine good_def (N := ["one", "other", "entry"]) h.d_told_in ⟨rfl, rfl, rfl, by decide +kernel, rfl, by decide +kernel, by decide +kernel⟩ (fun _ _ _ _ _ _ us hl => match us, hl with | [_, _], _ => rfl) (fun _ => rfl) (by decide) ?_
  rintro f cdv A outer s H E hr ⟨F, G⟩ ⟨hl, hg⟩
  have hl : F.1.length ≤ 20 := hl
  have hg : G.1.length ≤ 20 := hg
  have nd : (["one", "other", "entry"] : List Str).Nodup := by decide +kernel
  refine wb_ret (EvN.toE (en_ssetS (xs := (F.1 ++ G.1).map (·.1)) rfl hr.units h.f_sorted h.f_set ?ha (.inl rfl) ?hl)) rfl
  case ha => exact EvN.toE (EvN.to (en_lc (enc := (encE)) (p := (fun _ => true)) (f := (fun e => .str e.1)) (xs := (F.1 ++ G.1)) rfl nd [("entry", 2)] (blk_of rfl) (EvI.to (ei_tup (ev_catT (ev_ixT (ev_var 0 rfl (.inl rfl) rfl) ev_int rfl) (ev_ixT (ev_var 1 rfl (.inl rfl) rfl) ev_int rfl) (by rw [List.length_map, List.length_map]; omega))) (List.map_append.symm)) ⟨fun x hx => ⟨_, _, by decide, fun _ _ _ _ _ => ⟨(eg_name 2 nd rfl (.inl rfl)), ets_nil, fun _ => (EvE.to (ev_ixT (ev_var 2 rfl (.inl rfl) rfl) ev_int rfl) rfl)⟩⟩⟩ (by rw [List.length_append]; omega)) (by rw [keep_all, List.map_map]; rfl))
  case hl =>
    rw [List.length_map, List.length_append]
    omega
def noPre {α : Type} : α → Prop := fun _ => True
theorem g_pairs_of (h : Hd c) : Good c "pairs_of" 4 ["one", "other"] (SpP c.K (ca c.K) (fun y : Fm × Fm => [encF y.1, encF y.2]) (fun y => y.1.1.length ≤ 20 ∧ y.2.1.length ≤ 20) (fun y => .lst ((pairsM y.1 y.2).map encPP))) := by
  refine good_def (N := ["one", "other", "found", "name"]) h.d_pairs_of ⟨rfl, rfl, rfl, by decide +kernel, rfl, by decide +kernel, by decide +kernel⟩ (fun _ _ _ _ _ _ us hl => match us, hl with | [_, _], _ => rfl) (fun _ => rfl) (by decide) ?_
  rintro f cdv A outer s H E hr ⟨F, G⟩ ⟨hl, hg⟩
  have hl : F.1.length ≤ 20 := hl
  have hg : G.1.length ≤ 20 := hg
  have nd : (["one", "other", "found", "name"] : List Str).Nodup := by decide +kernel
  have lt : (toldM F G).length ≤ 40 := by
    have q := ssetS_len ((F.1 ++ G.1).map (·.1))
    rw [List.length_map, List.length_append] at q
    unfold toldM
    omega
  refine wb_cons (w_lcN (enc := (D.str)) (p := (fun _ => true)) (f := (fun n => encPP (sideM F n, sideM G n))) (xs := (toldM F G)) 2 rfl nd [("name", 3)] rfl rfl (blk_of rfl) (ei_lst (ev_call (g_told_in h) ((F, G)) rfl (hr.mono (by decide)) (ea_cons (ev_var 0 rfl (.inr (.inl rfl)) rfl) (ea_cons (ev_var 1 rfl (.inr (.inl rfl)) rfl) ea_nil)) (⟨hl, hg⟩))) ⟨fun x hx => ⟨_, _, by decide, fun _ _ _ _ _ => ⟨(eg_name 3 nd rfl (.inl rfl)), ets_nil, fun _ => (EvE.to (ev_tup (ea_cons (ev_call (g_side h) ((F, x)) rfl (hr.mono (by decide)) (ea_cons (ev_var 0 rfl (.inr (.inl rfl)) rfl) (ea_cons (ev_var 3 rfl (.inl rfl) rfl) ea_nil)) trivial) (ea_cons (ev_call (g_side h) ((G, x)) rfl (hr.mono (by decide)) (ea_cons (ev_var 1 rfl (.inr (.inl rfl)) rfl) (ea_cons (ev_var 3 rfl (.inl rfl) rfl) ea_nil)) trivial) ea_nil))) rfl)⟩⟩⟩ (by omega) (wb_frz 2 rfl (wb_ret (EvN.toE (en_lst (ea_star (ev_var 2 rfl (.inl rfl) rfl) (.inl rfl) (ea_cons (ev_tup (ea_cons (ev_ixT (ev_var 0 rfl (.inr (.inl rfl)) rfl) ev_int rfl) (ea_cons (ev_ixT (ev_var 1 rfl (.inr (.inl rfl)) rfl) ev_int rfl) ea_nil))) ea_nil)) ?hz)) ?_)) rfl)
  case hz =>
    rw [keep_all, List.length_append, List.length_map]
    simp only [List.length_cons, List.length_nil]
    omega
  · show _ = D.lst ((pairsM F G).map encPP)
    rw [keep_all]
    unfold pairsM
    rw [List.map_append, List.map_map]
    rfl
theorem g_is_within (h : Hd c) : Good c "is_within" 5 ["one", "other"] (SpP c.K (ca c.K) (fun y : Fm × Fm => [encF y.1, encF y.2]) (fun y => y.1.1.length ≤ 20 ∧ y.2.1.length ≤ 20) (fun y => .bl (withinM y.1 y.2))) := by
  refine good_def (N := ["one", "other", "near", "far"]) h.d_is_within ⟨rfl, rfl, rfl, by decide +kernel, rfl, by decide +kernel, by decide +kernel⟩ (fun _ _ _ _ _ _ us hl => match us, hl with | [_, _], _ => rfl) (fun _ => rfl) (by decide) ?_
  rintro f cdv A outer s H E hr ⟨F, G⟩ ⟨hl, hg⟩
  have hl : F.1.length ≤ 20 := hl
  have hg : G.1.length ≤ 20 := hg
  have nd : (["one", "other", "near", "far"] : List Str).Nodup := by decide +kernel
  have lp : (pairsM F G).length ≤ 41 := by
    have q := ssetS_len ((F.1 ++ G.1).map (·.1))
    rw [List.length_map, List.length_append] at q
    unfold pairsM toldM
    rw [List.length_append, List.length_map]
    simp only [List.length_cons, List.length_nil]
    omega
  exact wb_ret (ev_all rfl h.f_all (EvE.to (EvN.toE (en_lc (enc := (encPP)) (p := (fun _ => true)) (f := (fun p => .bl ((!p.1.1 || p.2.1) && mostM p.1.2 p.2.2))) (xs := (pairsM F G)) rfl nd [("near", 2), ("far", 3)] (blk_of rfl) (ei_lst (ev_call (g_pairs_of h) ((F, G)) rfl (hr.mono (by decide)) (ea_cons (ev_var 0 rfl (.inl rfl) rfl) (ea_cons (ev_var 1 rfl (.inl rfl) rfl) ea_nil)) (⟨hl, hg⟩))) ⟨fun x hx => ⟨_, _, by decide, fun _ _ _ _ _ => ⟨(eg_tup rfl (egs_cons (eg_name 2 nd rfl (.inl rfl)) (egs_cons (eg_name 3 nd rfl (.inl rfl)) egs_nil))), ets_nil, fun _ => (EvE.to (ev_and (ev_leB (ev_ixT (ev_var 2 rfl (.inl rfl) rfl) ev_int rfl) (ev_ixT (ev_var 3 rfl (.inl rfl) rfl) ev_int rfl)) (fun _ => (ev_one (ev_call (g_is_most h) ((x.1.2, x.2.2)) rfl (hr.mono (by decide)) (ea_cons (ev_ixT (ev_var 2 rfl (.inl rfl) rfl) ev_int rfl) (ea_cons (ev_ixT (ev_var 3 rfl (.inl rfl) rfl) ev_int rfl) ea_nil)) trivial)))) rfl)⟩⟩⟩ (by omega))) (by rw [keep_all, show (fun p : (Bool × Rm) × (Bool × Rm) => D.bl ((!p.1.1 || p.2.1) && mostM p.1.2 p.2.2)) = D.bl ∘ (fun p => (!p.1.1 || p.2.1) && mostM p.1.2 p.2.2) from rfl, ← List.map_map]))) (by rw [all_map]; rfl)
end
end PL
/-! W6: form_of, over_names, labels, steps -/
namespace PL
open PySem PySem.Spec PyProof.Rows L2
section
variable {c : Cn}
theorem g_form_of (h : Hd c) : Good c "form_of" 1 ["marks", "rest"] (SpP c.K (ca c.K) (fun y : List Mk2 × (Bool × Rm) => [.lst (y.1.map encM), encP y.2]) (fun y => y.1.length ≤ 100) (fun y => encF (formOfM y.1 y.2))) := by
  refine good_def (N := ["marks", "rest", "name", "mark", "entries", "left", "room"]) h.d_form_of ⟨rfl, rfl, rfl, by decide +kernel, rfl, by decide +kernel, by decide +kernel⟩ (fun _ _ _ _ _ _ us hl => match us, hl with | [_, _], _ => rfl) (fun _ => rfl) (by decide) ?_
  rintro f cdv A outer s H E hr ⟨ms, ⟨rl, rm⟩⟩ hl
  have hl : ms.length ≤ 100 := hl
  have nd : (["marks", "rest", "name", "mark", "entries", "left", "room"] : List Str).Nodup := by decide +kernel
  refine wb_cons (w_if (EvW.t (ew_and (et_not (et_val (ev_ixT (ev_var 1 rfl (.inr (.inl rfl)) rfl) ev_int rfl))) (fun _ => (ew_and1 (et_not (et_val (ev_any rfl h.f_any (EvE.to (EvN.toE (en_lc (enc := (encM)) (p := (fun _ => true)) (f := (fun m => .bl m.2.1)) (xs := (ms)) rfl nd [("name", 2), ("mark", 3)] (blk_of rfl) (ei_lst (ev_var 0 rfl (.inl rfl) rfl)) ⟨fun x hx => ⟨_, _, by decide, fun _ _ _ _ _ => ⟨(eg_tup rfl (egs_cons (eg_name 2 nd rfl (.inl rfl)) (egs_cons (eg_name 3 nd rfl (.inl rfl)) egs_nil))), ets_nil, fun _ => (EvE.to (ev_ixT (ev_var 3 rfl (.inl rfl) rfl) ev_int rfl) rfl)⟩⟩⟩ (by omega))) ((by rw [keep_all, show (fun m : Mk2 => D.bl m.2.1) = D.bl ∘ (fun m => m.2.1) from rfl, ← List.map_map])))))))))) (fun h1 => wb_ret (ev_gref rfl h.g_NOTHING_rooms (fun B => h.kst.nothing _ B)) ?r1) fun h1 => wb_nil (wb_cons (w_lcN (enc := (encM)) (p := (fun m => !decide (m.2 = (rl, rm)))) (f := (fun m => encE (m.1, (if m.2.1 = true then some m.1 else none), m.2.2))) (xs := (ms)) 4 rfl nd [("name", 2), ("left", 5), ("room", 6)] rfl rfl (blk_of rfl) (ei_lst (ev_var 0 rfl (.inl rfl) rfl)) ⟨fun x hx => ⟨_, _, by decide, fun _ _ _ _ _ => ⟨(eg_tup rfl (egs_cons (eg_name 2 nd rfl (.inl rfl)) (egs_cons (eg_tup rfl (egs_cons (eg_name 5 nd rfl (.inl rfl)) (egs_cons (eg_name 6 nd rfl (.inl rfl)) egs_nil))) egs_nil))), (ets_one (EvT.to (et_ne hr.units (ev_tup (ea_cons (ev_var 5 rfl (.inl rfl) rfl) (ea_cons (ev_var 6 rfl (.inl rfl) rfl) ea_nil))) (ev_var 1 rfl (.inr (.inl rfl)) rfl) (eqP x.2 (rl, rm))) (by rw [show D.tup [.bl x.2.1, encO x.2.2] = encP x.2 from rfl, encP_py]))), fun _ => (EvE.to (ev_tup (ea_cons (ev_var 2 rfl (.inl rfl) rfl) (ea_cons (ev_ite (et_val (ev_var 5 rfl (.inl rfl) rfl)) (fun _ => (ev_var 2 rfl (.inl rfl) rfl)) (fun _ => ev_non)) (ea_cons (ev_var 6 rfl (.inl rfl) rfl) ea_nil)))) (by show D.tup [_, _, _] = encE _; unfold encE; rw [ite_encS]))⟩⟩⟩ (by omega) (wb_frz 4 rfl (wb_ret (ev_tup (ea_cons (ev_tupleL h.f_tuple (ev_var 4 rfl (.inl rfl) rfl) (.inl rfl)) (ea_cons (ev_var 1 rfl (.inr (.inl rfl)) rfl) ea_nil))) ?r2)) rfl)))
  case r1 =>
    show dNothing = encF (formOfM ms (rl, rm))
    unfold formOfM
    rw [List.any_map] at h1
    rw [if_pos (show (!rl && !ms.any fun m => m.2.1) = true from h1)]
    rfl
  case r2 =>
    show _ = encF (formOfM ms (rl, rm))
    unfold formOfM
    rw [List.any_map] at h1
    rw [if_neg (by rw [show (!rl && !ms.any fun m => m.2.1) = false from h1]; exact Bool.false_ne_true)]
    unfold encF keepF
    rw [List.map_map]
    rfl
theorem g_over_names (h : Hd c) : Good c "over_names" 4 ["form", "names"] (SpP c.K (ca c.K) (fun y : Fm × Bool × List Str => [encF y.1, if y.2.1 = true then encNs y.2.2 else encNt y.2.2]) (fun y => y.2.2.length < 64) (fun y => encF (overM y.1 y.2.2))) := by
  refine good_def (N := ["form", "names", "name"]) h.d_over_names ⟨rfl, rfl, rfl, by decide +kernel, rfl, by decide +kernel, by decide +kernel⟩ (fun _ _ _ _ _ _ us hl => match us, hl with | [_, _], _ => rfl) (fun _ => rfl) (by decide) ?_
  rintro f cdv A outer s H E hr ⟨F, b, ns⟩ hl
  have hl : ns.length < 64 := hl
  have hs := ssetS_len ns
  have nd : (["form", "names", "name"] : List Str).Nodup := by decide +kernel
  have e1 : (keepF (fun _ => true) (fun n => encM (n, sideM F n)) (ssetS ns)) = (((ssetS ns).map fun n => (n, sideM F n)).map encM) := by
    rw [keep_all, List.map_map]
    rfl
  have l1 : ((ssetS ns).map fun n => ((n, sideM F n) : Mk2)).length ≤ 100 := by
    rw [List.length_map]
    omega
  cases b with
  | true => exact wb_ret (ev_call (g_form_of h) ((ssetS ns).map fun n => (n, sideM F n), (false, some 0)) rfl (hr.mono (by decide)) (ea_cons (EvN.toE (EvN.to (en_lc (enc := (D.str)) (p := (fun _ => true)) (f := (fun n => encM (n, sideM F n))) (xs := (ssetS ns)) rfl nd [("name", 2)] (blk_of rfl) (ei_lst (EvN.toE (en_ssetS rfl hr.units h.f_sorted h.f_set (ev_var 1 rfl (.inl rfl) rfl) (.inl rfl) (hl)))) ⟨fun x hx => ⟨_, _, by decide, fun _ _ _ _ _ => ⟨(eg_name 2 nd rfl (.inl rfl)), ets_nil, fun _ => (EvE.to (ev_tup (ea_cons (ev_var 2 rfl (.inl rfl) rfl) (ea_cons (ev_call (g_side h) ((F, x)) rfl (hr.mono (by decide)) (ea_cons (ev_var 0 rfl (.inr (.inl rfl)) rfl) (ea_cons (ev_var 2 rfl (.inl rfl) rfl) ea_nil)) trivial) ea_nil))) rfl)⟩⟩⟩ (by omega)) e1)) (ea_cons (ev_tup (ea_cons ev_bl (ea_cons ev_int ea_nil))) ea_nil)) l1) rfl
  | false => exact wb_ret (ev_call (g_form_of h) ((ssetS ns).map fun n => (n, sideM F n), (false, some 0)) rfl (hr.mono (by decide)) (ea_cons (EvN.toE (EvN.to (en_lc (enc := (D.str)) (p := (fun _ => true)) (f := (fun n => encM (n, sideM F n))) (xs := (ssetS ns)) rfl nd [("name", 2)] (blk_of rfl) (ei_lst (EvN.toE (en_ssetS rfl hr.units h.f_sorted h.f_set (ev_var 1 rfl (.inl rfl) rfl) (.inr rfl) (hl)))) ⟨fun x hx => ⟨_, _, by decide, fun _ _ _ _ _ => ⟨(eg_name 2 nd rfl (.inl rfl)), ets_nil, fun _ => (EvE.to (ev_tup (ea_cons (ev_var 2 rfl (.inl rfl) rfl) (ea_cons (ev_call (g_side h) ((F, x)) rfl (hr.mono (by decide)) (ea_cons (ev_var 0 rfl (.inr (.inl rfl)) rfl) (ea_cons (ev_var 2 rfl (.inl rfl) rfl) ea_nil)) trivial) ea_nil))) rfl)⟩⟩⟩ (by omega)) e1)) (ea_cons (ev_tup (ea_cons ev_bl (ea_cons ev_int ea_nil))) ea_nil)) l1) rfl
end
end PL
/-! W7: Labels, Step -/
namespace PL
open PySem PySem.Spec PyProof.Rows L2
section
variable {c : Cn}
/-- what an __init__ with defaults binds -/
def BindD (q : Str) (st : Stmt) (ps : List Str) (n j m : Nat) : Prop := ∀ (T : Addr) (kV doc pm : Value) (an : Option Addr) (cdv ct : Value) (us its : List Value), us.length = n → its.length = m →
  ∃ k, bindArgs (PySem.W.fnOf "__init__" q (defArgs st) (defBody st) (defScope st) (.ref T) kV doc pm an cdv ct) ⟨us, []⟩ = seqItems? (.ref T) >>= k ∧ k (some its.toArray) = pure (ps.zip (us ++ its.drop j))
theorem init_d {C : Addr} {q : Str} {st : Stmt} {dvs : List V} {ps : List Str} {n j : Nat} (h : InitAt c C q st dvs) (hd : dvs ≠ []) (hn : n + (dvs.length - j) = ps.length) (hb : BindD q st ps n j dvs.length) : ∃ f fd, Mk c.K C f ∧ FunD c.K "__init__" q (defArgs st) (defBody st) (defScope st) dvs [] f fd ∧ ∃ dus, Vals (dvs.drop j) dus ∧ Binds c.K fd ps dus := by
  obtain ⟨f, fd, hm, F⟩ := h
  exact ⟨f, fd, hm, F, F.binds1 n j hd hn hb⟩
theorem init_n {C : Addr} {q : Str} {st : Stmt} {ps : List Str} (h : InitAt c C q st []) (hb : BindN "__init__" q st ps) : ∃ f fd, Mk c.K C f ∧ FunD c.K "__init__" q (defArgs st) (defBody st) (defScope st) [] [] f fd ∧ ∃ dus, Vals (([] : List V).drop 0) dus ∧ Binds c.K fd ps dus := by
  obtain ⟨f, fd, hm, F⟩ := h
  exact ⟨f, fd, hm, F, [], .nil, F.bindsN hb⟩
abbrev CL (c : Cn) : Addr := He.ga c.K "Labels"
abbrev CS (c : Cn) : Addr := He.ga c.K "Step"
abbrev CP (c : Cn) : Addr := He.ga c.K "Pipeline"
abbrev CB (c : Cn) : Addr := He.ga c.K "Between"
theorem bd1 : BindD "Labels.__init__" (inClass (top 19) 0) ["self", "names", "rest"] 2 1 2 := fun T kV doc pm an cdv ct us its h1 h2 => match us, its, h1, h2 with | [_, _], [_, _], _, _ => ⟨_, rfl, rfl⟩
theorem bd2 : BindD "Labels.__init__" (inClass (top 19) 0) ["self", "names", "rest"] 3 2 2 := fun T kV doc pm an cdv ct us its h1 h2 => match us, its, h1, h2 with | [_, _, _], [_, _], _, _ => ⟨_, rfl, rfl⟩
theorem init_Labels (h : Hd c) (k : Nat) (hk : 1 ≤ k) : InitOk c (CL c) "Labels.__init__" (inClass (top 19) 0) ["self", "names", "rest"] k (fun y : Bool × List Str × Bool => [if y.1 = true then encNs y.2.1 else encNt y.2.1, .bl y.2.2]) (fun y => y.2.1.length < 64) (fun y => .lab (ssetS y.2.1) y.2.2) := by
  rintro f cdv A outer s H0 E hr ⟨b, ns, r⟩ hl B H x dx σ hρ De hde
  have hl : ns.length < 64 := hl
  have hr : Room 1 (bodyX c ["self", "names", "rest"] "Labels.__init__" (defScope (inClass (top 19) 0)) f cdv A outer s H0 E).A := hr.mono hk
  refine ws (pss_cons ps_ws1 pss_ws) (w_fld2I (i := 0) rfl rfl (.inl rfl) rfl h.c_Labels h.n_Labels_own_names h.n_Labels_own_rest (ev_tup (ea_cons (ev_call (g_set_of h) ((b, ns)) rfl (hr.mono (by decide)) (ea_cons (ev_var 1 rfl (.inl rfl) rfl) ea_nil) (hl)) (ea_cons (ev_var 2 rfl (.inl rfl) rfl) ea_nil))) hρ (by decide) fun v w B' H' eb rv rw' hρ' => ws pss_nil (init_end hρ' (fun B2 e2 hx2 => ?_) hde))
  have rv2 := rv.mono e2
  cases rw'
  exact .lab hx2 rv2
theorem i_labels1 (h : Hd c) : GoodI c (CL c) 2 [.bl false] (SpI c.K (ca c.K) (CL c) (fun y : Bool × List Str × Bool => [if y.1 = true then encNs y.2.1 else encNt y.2.1, .bl y.2.2]) (fun y => y.2.1.length < 64) (fun y => .lab (ssetS y.2.1) y.2.2)) :=
  good_init (n := 1) (N := ["self", "names", "rest"]) (init_d h.i_Labels (fun z => nomatch z) rfl bd1) ⟨rfl, rfl, rfl, by decide +kernel, rfl, by decide +kernel, by decide +kernel⟩ (fun _ => rfl) (by decide) (init_Labels h 1 (Nat.le_refl _))
theorem i_labels2 (h : Hd c) : GoodI c (CL c) 2 [] (SpI c.K (ca c.K) (CL c) (fun y : Bool × List Str × Bool => [if y.1 = true then encNs y.2.1 else encNt y.2.1, .bl y.2.2]) (fun y => y.2.1.length < 64) (fun y => .lab (ssetS y.2.1) y.2.2)) :=
  good_init (n := 2) (N := ["self", "names", "rest"]) (init_d h.i_Labels (fun z => nomatch z) rfl bd2) ⟨rfl, rfl, rfl, by decide +kernel, rfl, by decide +kernel, by decide +kernel⟩ (fun _ => rfl) (by decide) (init_Labels h 1 (Nat.le_refl _))
theorem g_lab_names (h : Hd c) : GoodP c (CL c) "names" 1 (SpP c.K (ca c.K) (fun y : List Str × Bool => [.lab y.1 y.2]) (fun _ => True) (fun y => encNt y.1)) := by
  refine good_prop (N := ["self"]) h.p_Labels_names ⟨rfl, rfl, rfl, by decide +kernel, rfl, by decide +kernel, by decide +kernel⟩ (fun _ _ _ _ _ _ us hl => match us, hl with | [_], _ => rfl) (fun _ => rfl) (by decide) ?_
  rintro f cdv A outer s H E hr ⟨ns, r⟩ -
  exact wb_ret (ev_fld h.c_Labels h.n_Labels_own_names (ev_var 0 rfl (.inl rfl) rfl) (.lab ..) rfl) rfl
theorem g_lab_rest (h : Hd c) : GoodP c (CL c) "rest" 1 (SpP c.K (ca c.K) (fun y : List Str × Bool => [.lab y.1 y.2]) (fun _ => True) (fun y => .bl y.2)) := by
  refine good_prop (N := ["self"]) h.p_Labels_rest ⟨rfl, rfl, rfl, by decide +kernel, rfl, by decide +kernel, by decide +kernel⟩ (fun _ _ _ _ _ _ us hl => match us, hl with | [_], _ => rfl) (fun _ => rfl) (by decide) ?_
  rintro f cdv A outer s H E hr ⟨ns, r⟩ -
  exact wb_ret (ev_fld h.c_Labels h.n_Labels_own_rest (ev_var 0 rfl (.inl rfl) rfl) (.lab ..) rfl) rfl
end
end PL
/-! W8: tupled, Step -/
namespace PL
open PySem PySem.Spec PyProof.Rows L2
mutual
/-- flat data and tuples of them, not deeper than n -/
def D.tn : Nat → D → Bool
  | _, .non => true
  | _, .bl _ => true
  | _, .int _ => true
  | _, .str _ => true
  | 0, .tup _ => false
  | n + 1, .tup xs => decide (xs.length ≤ 1000) && D.tns n xs
  | _, _ => false
def D.tns : Nat → List D → Bool
  | _, [] => true
  | n, x :: xs => D.tn n x && D.tns n xs
end
theorem tns_mem {n : Nat} : ∀ {xs : List D} {x : D}, D.tns n xs = true → x ∈ xs → D.tn n x = true
  | y :: ys, x, h, hm => by
    have h : (D.tn n y && D.tns n ys) = true := by simpa [D.tns] using h
    obtain ⟨h1, h2⟩ := Bool.and_eq_true_iff.mp h
    rcases List.mem_cons.mp hm with e | hm
    · rw [e]
      exact h1
    · exact tns_mem h2 hm
theorem tns_map {α : Type} {n : Nat} {enc : α → D} (h : ∀ a, D.tn n (enc a) = true) : ∀ xs : List α, D.tns n (xs.map enc) = true
  | [] => by simp [D.tns]
  | x :: xs => by
    rw [List.map_cons]
    simp only [D.tns, h x, tns_map h xs, Bool.and_self]
theorem encF_tn (F : Fm) (hl : F.1.length ≤ 1000) : D.tn 3 (encF F) = true := by
  have hS : ∀ (n : Nat) (o : Option Str), D.tn n (encS o) = true := fun n o => by cases o <;> simp [encS, D.tn]
  have hO : ∀ (n : Nat) (o : Rm), D.tn n (encO o) = true := fun n o => by cases o <;> simp [encO, D.tn]
  have hE : ∀ e : En, D.tn 1 (encE e) = true := fun e => by
    unfold encE
    simp only [D.tn, D.tns, hS, hO, Bool.and_self, List.length_cons, List.length_nil]
    rfl
  unfold encF encP
  simp only [D.tn, D.tns, hO, tns_map hE, Bool.and_self, List.length_cons, List.length_nil, List.length_map]
  rw [decide_eq_true hl]
  rfl
/-- the steps that occur -/
inductive Stp where
  | cut (n : Int) | drop (ns : List Str) (r : Bool) | unw (ns : List Str) (r : Bool)
def Stp.kind : Stp → Str
  | .cut _ => "cut"
  | .drop _ _ => "drop"
  | .unw _ _ => "unwrap"
def Stp.what : Stp → D
  | .cut n => .int n
  | .drop ns r => .lab ns r
  | .unw ns r => .lab ns r
def Stp.enc (s : Stp) : D := .stp s.kind s.what
/-- a cut is of one at least -/
def Stp.ok : Stp → Prop
  | .cut n => 1 ≤ n
  | _ => True
section
variable {c : Cn}
theorem lab_tyX {h : Hd c} {T : CA} (hT : T.L = He.ga c.K "Labels") {B H : Hp} {ns : List Str} {r : Bool} {v : V} (s : Ex B H) (rr : Rep c.K T B (.lab ns r) v) : TyX c.K H v (.ref (He.ga c.K "Labels")) := by
  cases rr with
  | lab h1 h2 =>
    rw [hT] at h1
    exact .base (.ins (s _ _ h1) h.c_Labels h.lab.ha h.lab.hn h.lab.htk h.lab.hm)
theorem kit_flat {K : PySem.W.Frag} {n : String} (h1 : kitB n "list" = some false) (h2 : kitB n "tuple" = some false) : PySem.W.kitAny K (.type n) [.type "list", .type "tuple"] = some false :=
  kitAny_cons (kit_ty h1) (fun _ => kitAny_cons (kit_ty h2) (fun _ => rfl) (fun h => nomatch h)) (fun h => nomatch h)
theorem g_tupled (h : Hd c) : ∀ n : Nat, Good c "tupled" (n + 1) ["thing"] (SpP c.K (ca c.K) (fun d : D => [d]) (fun d => D.tn n d = true ∨ ∃ ns r, d = .lab ns r) (fun d => d)) := by
  have flat : ∀ (n : Nat) (f : Addr) (cdv : Value) (A : Around) (outer : List Env) (s : Shared) (H : Hp) (E : XK) (d : D) (t : String), d.ty = some t → kitB t "list" = some false → kitB t "tuple" = some false → WB (ca c.K) (bodyX c ["thing", "part"] "tupled" (defScope (top 2)) f cdv A outer s H E) (defBody (top 2)) (rho0 2 [d]) { nx := fun _ => d = .non, rt := fun d' => d' = d } := fun n f cdv A outer s H E d t ht h1 h2 => by
    exact wb_ret (ev_ifF (et_val (ev_isi2 h.f_isinstance h.f_list h.f_tuple (by decide +kernel) (by decide +kernel) (ev_var 0 rfl (.inl rfl) rfl) ht (kit_flat h1 h2))) (ev_var 0 rfl (.inl rfl) rfl)) rfl
  have labc : ∀ (f : Addr) (cdv : Value) (A : Around) (outer : List Env) (s : Shared) (H : Hp) (E : XK) (ns : List Str) (r : Bool), WB (ca c.K) (bodyX c ["thing", "part"] "tupled" (defScope (top 2)) f cdv A outer s H E) (defBody (top 2)) (rho0 2 [.lab ns r]) { nx := fun _ => D.lab ns r = .non, rt := fun d' => d' = .lab ns r } := fun f cdv A outer s H E ns r => by
    exact wb_ret (ev_ifF (et_val (ev_isiX h.f_isinstance h.f_list h.f_tuple (by decide +kernel) (by decide +kernel) (ev_var 0 rfl (.inl rfl) rfl) (fun B H v s r => lab_tyX (h := h) rfl s r) h.lab.no)) (ev_var 0 rfl (.inl rfl) rfl)) rfl
  intro n
  induction n with
  | zero =>
    refine good_def (N := ["thing", "part"]) h.d_tupled ⟨rfl, rfl, rfl, by decide +kernel, rfl, by decide +kernel, by decide +kernel⟩ (fun _ _ _ _ _ _ us hl => match us, hl with | [_], _ => rfl) (fun _ => rfl) (by decide) ?_
    rintro f cdv A outer s H E hr d hd
    rcases hd with hd | ⟨ns, r, rfl⟩
    · cases d with
      | non => exact flat 0 f cdv A outer s H E _ "NoneType" rfl (by decide +kernel) (by decide +kernel)
      | bl b => exact flat 0 f cdv A outer s H E _ "bool" rfl (by decide +kernel) (by decide +kernel)
      | int b => exact flat 0 f cdv A outer s H E _ "int" rfl (by decide +kernel) (by decide +kernel)
      | str b => exact flat 0 f cdv A outer s H E _ "str" rfl (by decide +kernel) (by decide +kernel)
      | _ => simp [D.tn] at hd
    · exact labc f cdv A outer s H E ns r
  | succ n ih =>
    refine good_def (N := ["thing", "part"]) h.d_tupled ⟨rfl, rfl, rfl, by decide +kernel, rfl, by decide +kernel, by decide +kernel⟩ (fun _ _ _ _ _ _ us hl => match us, hl with | [_], _ => rfl) (fun _ => rfl) (by decide) ?_
    rintro f cdv A outer s H E hr d hd
    have nd : (["thing", "part"] : List Str).Nodup := by decide +kernel
    rcases hd with hd | ⟨ns, r, rfl⟩
    · cases d with
      | non => exact flat 0 f cdv A outer s H E _ "NoneType" rfl (by decide +kernel) (by decide +kernel)
      | bl b => exact flat 0 f cdv A outer s H E _ "bool" rfl (by decide +kernel) (by decide +kernel)
      | int b => exact flat 0 f cdv A outer s H E _ "int" rfl (by decide +kernel) (by decide +kernel)
      | str b => exact flat 0 f cdv A outer s H E _ "str" rfl (by decide +kernel) (by decide +kernel)
      | tup xs =>
        have hd2 : (decide (xs.length ≤ 1000) && D.tns n xs) = true := by simpa [D.tn] using hd
        obtain ⟨hz0, hd⟩ := Bool.and_eq_true_iff.mp hd2
        have hz : xs.length ≤ 100000 := Nat.le_trans (of_decide_eq_true hz0) (by decide)
        exact wb_ret (ev_ifT (et_val (ev_isi2 h.f_isinstance h.f_list h.f_tuple (by decide +kernel) (by decide +kernel) (ev_var 0 rfl (.inl rfl) rfl) (n := "tuple") rfl (kitAny_cons (kit_ty (show kitB "tuple" "list" = some false by decide +kernel)) (fun _ => kitAny_cons (kit_ty (show kitB "tuple" "tuple" = some true by decide +kernel)) (fun h => nomatch h) (fun _ => rfl)) (fun h => nomatch h))))
            (EvE.to (ev_tupleL h.f_tuple (EvN.toE (en_lc (enc := fun d : D => d) (p := fun _ => true) (f := fun d : D => d) (xs := xs) rfl nd [("part", 1)] (blk_of rfl) (EvI.to (ei_tup (ev_var 0 rfl (.inl rfl) rfl)) (List.map_id' xs).symm) ⟨fun x hx => ⟨_, _, by decide, fun _ _ _ _ _ => ⟨eg_name 1 nd rfl (.inl rfl), ets_nil, fun _ => ev_call ih x rfl hr (ea_cons (ev_var 1 rfl (.inl rfl) rfl) ea_nil) (.inl (tns_mem hd hx))⟩⟩⟩ hz)) (.inl rfl)) (by rw [keep_all, List.map_id']))) rfl
      | _ => simp [D.tn] at hd
    · exact labc f cdv A outer s H E ns r
theorem g_is_step (h : Hd c) : Good c "is_step" 1 ["kind", "what"] (SpP c.K (ca c.K) (fun y : Stp => [.str y.kind, y.what]) (fun y => y.ok) (fun _ => .bl true)) := by
  refine good_def (N := ["kind", "what", "pair"]) h.d_is_step ⟨rfl, rfl, rfl, by decide +kernel, rfl, by decide +kernel, by decide +kernel⟩ (fun _ _ _ _ _ _ us hl => match us, hl with | [_, _], _ => rfl) (fun _ => rfl) (by decide) ?_
  rintro f cdv A outer s H E hr y hy
  cases y with
  | cut n =>
    have hy : 1 ≤ n := hy
    exact wb_cons (w_if (EvT.to (et_eq hr.units (ev_var 0 rfl (.inl rfl) rfl) (ev_gstr rfl h.k_CUT.choose_spec) (eqStr _ _)) ((str_py _ _).trans (show decide (("cut" : Str) = "cut") = true by decide +kernel))) (fun _ => wb_ret (EvE.to (ev_ge (ev_var 1 rfl (.inl rfl) rfl) ev_int) (by rw [decide_eq_true hy])) rfl) (fun h1 => nomatch h1))
  | drop ns r => exact wb_cons (w_if (EvT.to (et_eq hr.units (ev_var 0 rfl (.inl rfl) rfl) (ev_gstr rfl h.k_CUT.choose_spec) (eqStr _ _)) ((str_py _ _).trans (show decide (("drop" : Str) = "cut") = false by decide +kernel))) (fun h1 => nomatch h1) fun _ => wb_nil (wb_cons (w_if (EvT.to (et_eq hr.units (ev_var 0 rfl (.inl rfl) rfl) (ev_gstr rfl h.k_RENAME.choose_spec) (eqStr _ _)) ((str_py _ _).trans (show decide (("drop" : Str) = "rename") = false by decide +kernel))) (fun h1 => nomatch h1) fun _ => wb_nil (wb_ret (EvE.to (ev_in (v := .str "drop") (vs := [.str "drop", .str "unwrap"]) (ev_var 0 rfl (.inl rfl) rfl) (ev_tup (ea_cons (ev_gstr rfl h.k_DROP.choose_spec) (ea_cons (ev_gstr rfl h.k_UNWRAP.choose_spec) ea_nil))) rfl (.inr rfl) rfl) (congrArg D.bl (show inV (.str "drop") [.str "drop", .str "unwrap"] = true by decide +kernel))) rfl))))
  | unw ns r => exact wb_cons (w_if (EvT.to (et_eq hr.units (ev_var 0 rfl (.inl rfl) rfl) (ev_gstr rfl h.k_CUT.choose_spec) (eqStr _ _)) ((str_py _ _).trans (show decide (("unwrap" : Str) = "cut") = false by decide +kernel))) (fun h1 => nomatch h1) fun _ => wb_nil (wb_cons (w_if (EvT.to (et_eq hr.units (ev_var 0 rfl (.inl rfl) rfl) (ev_gstr rfl h.k_RENAME.choose_spec) (eqStr _ _)) ((str_py _ _).trans (show decide (("unwrap" : Str) = "rename") = false by decide +kernel))) (fun h1 => nomatch h1) fun _ => wb_nil (wb_ret (EvE.to (ev_in (v := .str "unwrap") (vs := [.str "drop", .str "unwrap"]) (ev_var 0 rfl (.inl rfl) rfl) (ev_tup (ea_cons (ev_gstr rfl h.k_DROP.choose_spec) (ea_cons (ev_gstr rfl h.k_UNWRAP.choose_spec) ea_nil))) rfl (.inr rfl) rfl) (congrArg D.bl (show inV (.str "unwrap") [.str "drop", .str "unwrap"] = true by decide +kernel))) rfl))))
theorem wi_cons {T : CA} {X : Cx} {st : Stmt} {sts : List Stmt} {ρ : List Sl} {Nx : List Sl → Prop} {E : Ent} {σ : L2.St} {B H : Hp} {De : Ends} (hρ : EnvR X.K T E σ B H ρ) (h : W1 T X st ρ { nx := Nx, rt := fun _ => False }) (k : ∀ σ' B' H' ρ', EnvR X.K T E σ' B' H' ρ' → Nx ρ' → WS X sts De σ' H') : WS X (st :: sts) De σ H :=
  ws (pss_cons ps_ws1 pss_ws) (h E σ B H { De with nx := WS X sts De } hρ ⟨fun σ' B' H' ρ' h' n => k σ' B' H' ρ' h' n, fun _ _ _ _ _ _ _ z => z.elim, fun _ _ _ _ _ z => z.elim, fun _ _ _ _ _ z => z.elim⟩)
theorem what_tn (y : Stp) : D.tn 3 y.what = true ∨ ∃ ns r, y.what = .lab ns r := by
  cases y with
  | cut n => exact .inl rfl
  | drop ns r => exact .inr ⟨ns, r, rfl⟩
  | unw ns r => exact .inr ⟨ns, r, rfl⟩
theorem kind_ok (y : Stp) : SOk y.kind := by
  cases y with
  | cut n => exact (show SOk ("cut" : Str) by decide +kernel)
  | drop ns r => exact (show SOk ("drop" : Str) by decide +kernel)
  | unw ns r => exact (show SOk ("unwrap" : Str) by decide +kernel)
theorem kind_ren (y : Stp) : decide (y.kind = "rename") = false := by
  cases y with
  | cut n => exact (show decide (("cut" : Str) = "rename") = false by decide +kernel)
  | drop ns r => exact (show decide (("drop" : Str) = "rename") = false by decide +kernel)
  | unw ns r => exact (show decide (("unwrap" : Str) = "rename") = false by decide +kernel)
theorem init_Step (h : Hd c) : InitOk c (CS c) "Step.__init__" (inClass (top 36) 0) ["self", "kind", "what", "told", "pair"] 5 (fun y : Stp => [.str y.kind, y.what]) (fun y => y.ok) Stp.enc := by
  rintro f cdv A outer s H0 E hr y hy B H x dx σ hρ De hde
  have nd : (["self", "kind", "what", "told", "pair"] : List Str).Nodup := by decide +kernel
  refine wi_cons hρ (w_set 3 nd rfl (.inl rfl) (ev_call (g_tupled h 3) (y.what) rfl (hr.mono (by decide)) (ea_cons (ev_var 2 rfl (.inl rfl) rfl) ea_nil) (what_tn y)) rfl) fun σ B H ρ hρ e1 => ?_
  subst e1
  refine wi_cons hρ (w_if (et_not (et_val (ev_call (g_is_step h) (y) rfl (hr.mono (by decide)) (ea_cons (ev_var 1 rfl (.inl rfl) rfl) (ea_cons (ev_var 3 rfl (.inl rfl) rfl) ea_nil)) (hy)))) (fun h1 => nomatch h1) fun _ => wb_nil rfl) fun σ B H ρ hρ e1 => ?_
  subst e1
  refine wi_cons hρ (w_if (EvT.to (et_eq hr.units (ev_var 1 rfl (.inl rfl) rfl) (ev_gstr rfl h.k_RENAME.choose_spec) (eqStr _ _)) ((str_py _ _).trans (kind_ren y))) (fun h1 => nomatch h1) fun _ => wb_nil rfl) fun σ B H ρ hρ e1 => ?_
  subst e1
  refine ws (pss_cons ps_ws1 pss_ws) (w_fld2I (i := 0) rfl rfl (.inl rfl) rfl h.c_Step h.n_Step_own_kind h.n_Step_own_what (ev_tup (ea_cons (ev_var 1 rfl (.inl rfl) rfl) (ea_cons (ev_var 3 rfl (.inl rfl) rfl) ea_nil))) hρ (by decide) fun v w B' H' eb rv rw' hρ' => ws pss_nil (init_end hρ' (fun B2 e2 hx2 => ?_) hde))
  have rv2 := rw'.mono e2
  cases rv
  exact .stp (kind_ok y) hx2 rv2
theorem i_step (h : Hd c) : GoodI c (CS c) 6 [] (SpI c.K (ca c.K) (CS c) (fun y : Stp => [.str y.kind, y.what]) (fun y => y.ok) Stp.enc) :=
  good_init (n := 0) (N := ["self", "kind", "what", "told", "pair"]) (ps := ["self", "kind", "what"]) (init_n h.i_Step (fun _ _ _ _ _ _ us hl => match us, hl with | [_, _, _], _ => rfl)) ⟨rfl, rfl, rfl, by decide +kernel, rfl, by decide +kernel, by decide +kernel⟩ (fun _ => rfl) (by decide) (init_Step h)
theorem g_step_kind (h : Hd c) : GoodP c (CS c) "kind" 1 (SpP c.K (ca c.K) (fun y : Stp => [y.enc]) (fun _ => True) (fun y => .str y.kind)) := by
  refine good_prop (N := ["self"]) h.p_Step_kind ⟨rfl, rfl, rfl, by decide +kernel, rfl, by decide +kernel, by decide +kernel⟩ (fun _ _ _ _ _ _ us hl => match us, hl with | [_], _ => rfl) (fun _ => rfl) (by decide) ?_
  rintro f cdv A outer s H E hr y -
  exact wb_ret (ev_fld h.c_Step h.n_Step_own_kind (ev_var 0 rfl (.inl rfl) rfl) (.stp ..) rfl) rfl
theorem g_step_what (h : Hd c) : GoodP c (CS c) "what" 1 (SpP c.K (ca c.K) (fun y : Stp => [y.enc]) (fun _ => True) (fun y => y.what)) := by
  refine good_prop (N := ["self"]) h.p_Step_what ⟨rfl, rfl, rfl, by decide +kernel, rfl, by decide +kernel, by decide +kernel⟩ (fun _ _ _ _ _ _ us hl => match us, hl with | [_], _ => rfl) (fun _ => rfl) (by decide) ?_
  rintro f cdv A outer s H E hr y -
  exact wb_ret (ev_fld h.c_Step h.n_Step_own_what (ev_var 0 rfl (.inl rfl) rfl) (.stp ..) rfl) rfl
end
end PL
/-! W9: forms of steps, pipelines -/
namespace PL
open PySem PySem.Spec PyProof.Rows L2
def lotForm (room : Rm) (ns : List Str) (r : Bool) : Fm := if r = true then formWithM (dks ns) (fun n => (some n, none)) (false, room) else formWithM (dks ns) (fun _ => (none, room)) (true, none)
def formOfStepM : Stp → Fm
  | .cut n => ([], (true, some (n - 1)))
  | .drop ns r => lotForm (some 0) ns r
  | .unw ns r => lotForm none ns r
def Stp.small : Stp → Prop
  | .cut _ => True
  | .drop ns _ => ns.length ≤ 15
  | .unw ns _ => ns.length ≤ 15
section
variable {c : Cn}
theorem g_form_of_step (h : Hd c) : Good c "form_of_step" 3 ["step"] (SpP c.K (ca c.K) (fun y : Stp => [y.enc]) (fun y => y.small) (fun y => encF (formOfStepM y))) := by
  refine good_def (N := ["step", "name", "final", "room"]) h.d_form_of_step ⟨rfl, rfl, rfl, by decide +kernel, rfl, by decide +kernel, by decide +kernel⟩ (fun _ _ _ _ _ _ us hl => match us, hl with | [_], _ => rfl) (fun _ => rfl) (by decide) ?_
  rintro f cdv A outer s H E hr y hy
  have nd : (["step", "name", "final", "room"] : List Str).Nodup := by decide +kernel
  cases y with
  | cut n => exact wb_cons (w_if (EvT.to (et_eq hr.units (ev_prop (g_step_kind h) h.c_Step (.cut n) rfl (hr.mono (by decide)) (ev_var 0 rfl (.inl rfl) rfl) (.stp ..) rfl trivial) ev_str (eqStr _ _)) ((str_py _ _).trans (show decide (("cut" : Str) = "cut") = true by decide +kernel))) (fun _ => wb_ret (ev_tup (ea_cons (ev_tup ea_nil) (ea_cons (ev_tup (ea_cons ev_bl (ea_cons (ev_sub (ev_prop (g_step_what h) h.c_Step (.cut n) rfl (hr.mono (by decide)) (ev_var 0 rfl (.inl rfl) rfl) (.stp ..) rfl trivial) ev_int) ea_nil))) ea_nil))) rfl) (fun h1 => nomatch h1))
  | drop ns r =>
    have hy : ns.length ≤ 15 := hy
    have hd : (dks ns).length < 64 := by
      have q := dks_len ns []
      have q2 : (dks ns).length ≤ 0 + ns.length := q
      omega
    refine wb_cons (w_if (EvT.to (et_eq hr.units (ev_prop (g_step_kind h) h.c_Step (.drop ns r) rfl (hr.mono (by decide)) (ev_var 0 rfl (.inl rfl) rfl) (.stp ..) rfl trivial) ev_str (eqStr _ _)) ((str_py _ _).trans (show decide (("drop" : Str) = "cut") = false by decide +kernel))) (fun h1 => nomatch h1) fun _ => wb_nil ?_)
    refine wb_cons (w_if (EvT.to (et_eq hr.units (ev_prop (g_step_kind h) h.c_Step (.drop ns r) rfl (hr.mono (by decide)) (ev_var 0 rfl (.inl rfl) rfl) (.stp ..) rfl trivial) ev_str (eqStr _ _)) ((str_py _ _).trans (show decide (("drop" : Str) = "rename") = false by decide +kernel))) (fun h1 => nomatch h1) fun _ => wb_nil ?_)
    refine wb_cons (w_set 3 nd rfl (.inr rfl) (d := encO (some 0)) (ev_ifT (EvT.to (et_eq hr.units (ev_prop (g_step_kind h) h.c_Step (.drop ns r) rfl (hr.mono (by decide)) (ev_var 0 rfl (.inl rfl) rfl) (.stp ..) rfl trivial) ev_str (eqStr _ _)) ((str_py _ _).trans (show decide (("drop" : Str) = "drop") = true by decide +kernel))) ev_int) ?_)
    refine wb_cons (w_if (et_val (ev_prop (g_lab_rest h) h.c_Labels ((ns, r)) rfl (hr.mono (by decide)) (ev_prop (g_step_what h) h.c_Step (.drop ns r) rfl (hr.mono (by decide)) (ev_var 0 rfl (.inl rfl) rfl) (.stp ..) rfl trivial) (.lab ..) rfl trivial)) (fun h1 => wb_ret (ev_callD (g_form_with h) ((dks ns, (fun n => (some n, none)), (false, (some 0)))) rfl (hr.mono (by decide)) (ed_dc (ns := (ns)) (f := (fun n => encT (some n, none))) rfl nd [("name", 1)] (blk_of rfl) (ei_tup (ev_prop (g_lab_names h) h.c_Labels ((ns, r)) rfl (hr.mono (by decide)) (ev_prop (g_step_what h) h.c_Step (.drop ns r) rfl (hr.mono (by decide)) (ev_var 0 rfl (.inl rfl) rfl) (.stp ..) rfl trivial) (.lab ..) rfl trivial)) (fun x hx hk => ⟨_, _, by decide, fun _ _ _ _ _ => ⟨(eg_name 1 nd rfl (.inl rfl)), (ev_var 1 rfl (.inl rfl) rfl), (EvE.to (ev_tup (ea_cons (ev_var 1 rfl (.inl rfl) rfl) (ea_cons ev_non ea_nil))) rfl)⟩⟩) (by omega)) (ev_tup (ea_cons ev_bl (ea_cons (ev_var 3 rfl (.inr (.inl rfl)) rfl) ea_nil))) (hd)) ?a) fun h1 => wb_nil ?_)
    case a =>
      show _ = encF (lotForm (some 0) ns r)
      unfold lotForm
      rw [if_pos h1]
    refine wb_ret (ev_callD (g_form_with h) ((dks ns, (fun _ => (none, (some 0))), (true, none))) rfl (hr.mono (by decide)) (ed_dc (ns := (ns)) (f := (fun n => encT (none, (some 0)))) rfl nd [("name", 1)] (blk_of rfl) (ei_tup (ev_prop (g_lab_names h) h.c_Labels ((ns, r)) rfl (hr.mono (by decide)) (ev_prop (g_step_what h) h.c_Step (.drop ns r) rfl (hr.mono (by decide)) (ev_var 0 rfl (.inl rfl) rfl) (.stp ..) rfl trivial) (.lab ..) rfl trivial)) (fun x hx hk => ⟨_, _, by decide, fun _ _ _ _ _ => ⟨(eg_name 1 nd rfl (.inl rfl)), (ev_var 1 rfl (.inl rfl) rfl), (EvE.to (ev_tup (ea_cons ev_non (ea_cons (ev_var 3 rfl (.inr (.inl rfl)) rfl) ea_nil))) rfl)⟩⟩) (by omega)) (ev_tup (ea_cons ev_bl (ea_cons ev_non ea_nil))) (hd)) ?_
    show _ = encF (lotForm (some 0) ns r)
    unfold lotForm
    rw [if_neg (by rw [show r = false from h1]; exact Bool.false_ne_true)]
  | unw ns r =>
    have hy : ns.length ≤ 15 := hy
    have hd : (dks ns).length < 64 := by
      have q := dks_len ns []
      have q2 : (dks ns).length ≤ 0 + ns.length := q
      omega
    refine wb_cons (w_if (EvT.to (et_eq hr.units (ev_prop (g_step_kind h) h.c_Step (.unw ns r) rfl (hr.mono (by decide)) (ev_var 0 rfl (.inl rfl) rfl) (.stp ..) rfl trivial) ev_str (eqStr _ _)) ((str_py _ _).trans (show decide (("unwrap" : Str) = "cut") = false by decide +kernel))) (fun h1 => nomatch h1) fun _ => wb_nil ?_)
    refine wb_cons (w_if (EvT.to (et_eq hr.units (ev_prop (g_step_kind h) h.c_Step (.unw ns r) rfl (hr.mono (by decide)) (ev_var 0 rfl (.inl rfl) rfl) (.stp ..) rfl trivial) ev_str (eqStr _ _)) ((str_py _ _).trans (show decide (("unwrap" : Str) = "rename") = false by decide +kernel))) (fun h1 => nomatch h1) fun _ => wb_nil ?_)
    refine wb_cons (w_set 3 nd rfl (.inr rfl) (d := encO none) (ev_ifF (EvT.to (et_eq hr.units (ev_prop (g_step_kind h) h.c_Step (.unw ns r) rfl (hr.mono (by decide)) (ev_var 0 rfl (.inl rfl) rfl) (.stp ..) rfl trivial) ev_str (eqStr _ _)) ((str_py _ _).trans (show decide (("unwrap" : Str) = "drop") = false by decide +kernel))) ev_non) ?_)
    refine wb_cons (w_if (et_val (ev_prop (g_lab_rest h) h.c_Labels ((ns, r)) rfl (hr.mono (by decide)) (ev_prop (g_step_what h) h.c_Step (.unw ns r) rfl (hr.mono (by decide)) (ev_var 0 rfl (.inl rfl) rfl) (.stp ..) rfl trivial) (.lab ..) rfl trivial)) (fun h1 => wb_ret (ev_callD (g_form_with h) ((dks ns, (fun n => (some n, none)), (false, none))) rfl (hr.mono (by decide)) (ed_dc (ns := (ns)) (f := (fun n => encT (some n, none))) rfl nd [("name", 1)] (blk_of rfl) (ei_tup (ev_prop (g_lab_names h) h.c_Labels ((ns, r)) rfl (hr.mono (by decide)) (ev_prop (g_step_what h) h.c_Step (.unw ns r) rfl (hr.mono (by decide)) (ev_var 0 rfl (.inl rfl) rfl) (.stp ..) rfl trivial) (.lab ..) rfl trivial)) (fun x hx hk => ⟨_, _, by decide, fun _ _ _ _ _ => ⟨(eg_name 1 nd rfl (.inl rfl)), (ev_var 1 rfl (.inl rfl) rfl), (EvE.to (ev_tup (ea_cons (ev_var 1 rfl (.inl rfl) rfl) (ea_cons ev_non ea_nil))) rfl)⟩⟩) (by omega)) (ev_tup (ea_cons ev_bl (ea_cons (ev_var 3 rfl (.inr (.inl rfl)) rfl) ea_nil))) (hd)) ?a) fun h1 => wb_nil ?_)
    case a =>
      show _ = encF (lotForm none ns r)
      unfold lotForm
      rw [if_pos h1]
    refine wb_ret (ev_callD (g_form_with h) ((dks ns, (fun _ => (none, none)), (true, none))) rfl (hr.mono (by decide)) (ed_dc (ns := (ns)) (f := (fun n => encT (none, none))) rfl nd [("name", 1)] (blk_of rfl) (ei_tup (ev_prop (g_lab_names h) h.c_Labels ((ns, r)) rfl (hr.mono (by decide)) (ev_prop (g_step_what h) h.c_Step (.unw ns r) rfl (hr.mono (by decide)) (ev_var 0 rfl (.inl rfl) rfl) (.stp ..) rfl trivial) (.lab ..) rfl trivial)) (fun x hx hk => ⟨_, _, by decide, fun _ _ _ _ _ => ⟨(eg_name 1 nd rfl (.inl rfl)), (ev_var 1 rfl (.inl rfl) rfl), (EvE.to (ev_tup (ea_cons ev_non (ea_cons (ev_var 3 rfl (.inr (.inl rfl)) rfl) ea_nil))) rfl)⟩⟩) (by omega)) (ev_tup (ea_cons ev_bl (ea_cons ev_non ea_nil))) (hd)) ?_
    show _ = encF (lotForm none ns r)
    unfold lotForm
    rw [if_neg (by rw [show r = false from h1]; exact Bool.false_ne_true)]
end
end PL
/-! W10: pipelines -/
namespace PL
open PySem PySem.Spec PyProof.Rows L2
def formStepsM (ss : List Stp) : Fm := ss.foldl (fun F s => formBehindM F (formOfStepM s)) startM
theorem formSteps_next {ss : List Stp} {k : Nat} {s : Stp} (h : ss[k]? = some s) : formStepsM (ss.take (k + 1)) = formBehindM (formStepsM (ss.take k)) (formOfStepM s) := by
  unfold formStepsM
  rw [take_next h, List.foldl_append]
  rfl
/-- what a row of steps must keep -/
structure StepsOk (ss : List Stp) : Prop where
  len : ss.length ≤ 1000
  sm : ∀ s ∈ ss, s.small
  one : ∀ s ∈ ss, (formOfStepM s).1.length ≤ 15
  all : ∀ k, (formStepsM (ss.take k)).1.length ≤ 15
def encPip (F : Fm) : D := .pip (encF F)
section
variable {c : Cn}
theorem g_form_of_steps (h : Hd c) : Good c "form_of_steps" 5 ["steps"] (SpP c.K (ca c.K) (fun y : List Stp => [.tup (y.map Stp.enc)]) StepsOk (fun y => encF (formStepsM y))) := by
  refine good_def (N := ["steps", "found", "step"]) h.d_form_of_steps ⟨rfl, rfl, rfl, by decide +kernel, rfl, by decide +kernel, by decide +kernel⟩ (fun _ _ _ _ _ _ us hl => match us, hl with | [_], _ => rfl) (fun _ => rfl) (by decide) ?_
  rintro f cdv A outer s H E hr ss hy
  have nd : (["steps", "found", "step"] : List Str).Nodup := by decide +kernel
  refine wb_cons (w_set 1 nd rfl (.inl rfl) (ev_gref rfl h.g_START (fun B => h.kst.start _ B)) ?_)
  refine wb_cons (w_for (fun _ _ h => h.elim) rfl (ei_tup (ev_var 0 rfl (.inl rfl) rfl)) (fun k ρ1 => ∃ s1 : Sl, ρ1 = [.va (.tup (ss.map Stp.enc)), .va (encF (formStepsM (ss.take k))), s1]) ⟨_, rfl⟩ ?_ ?_)
  · rintro k d ρ1 hd ⟨s1, rfl⟩
    obtain ⟨s, hs, rfl⟩ := map_at hd
    have hm : s ∈ ss := List.mem_of_getElem? hs
    refine ⟨_, _, (eg_name 2 nd rfl (.inl rfl)), wb_cons (w_set 1 nd rfl (.inl rfl) (ev_call (g_form_behind h) ((formStepsM (ss.take k), formOfStepM s)) rfl (hr.mono (by decide)) (ea_cons (ev_var 1 rfl (.inl rfl) rfl) (ea_cons (ev_call (g_form_of_step h) (s) rfl (hr.mono (by decide)) (ea_cons (ev_var 2 rfl (.inl rfl) rfl) ea_nil) (hy.sm s hm)) ea_nil)) (⟨hy.all k, hy.one s hm⟩)) (wb_nil ⟨.va s.enc, ?_⟩))⟩
    show [_, _, _] = _
    rw [formSteps_next hs]
  · rintro ρ1 ⟨s1, rfl⟩
    rw [List.length_map, List.take_length]
    exact wb_ret (ev_var 1 rfl (.inl rfl) rfl) rfl
theorem bdp0 : BindD "Pipeline.__init__" (inClass (top 78) 0) ["self", "steps"] 1 0 1 := fun T kV doc pm an cdv ct us its h1 h2 => match us, its, h1, h2 with | [_], [_], _, _ => ⟨_, rfl, rfl⟩
theorem bdp1 : BindD "Pipeline.__init__" (inClass (top 78) 0) ["self", "steps"] 2 1 1 := fun T kV doc pm an cdv ct us its h1 h2 => match us, its, h1, h2 with | [_, _], [_], _, _ => ⟨_, rfl, rfl⟩
theorem init_Pip (h : Hd c) : InitOk c (CP c) "Pipeline.__init__" (inClass (top 78) 0) ["self", "steps"] 6 (fun y : Bool × List Stp => [if y.1 = true then .lst (y.2.map Stp.enc) else .tup (y.2.map Stp.enc)]) (fun y => StepsOk y.2) (fun y => encPip (formStepsM y.2)) := by
  rintro f cdv A outer s H0 E hr ⟨b, ss⟩ hy B H x dx σ hρ De hde
  have hy : StepsOk ss := hy
  have tp : EvE (ca c.K) (bodyX c ["self", "steps"] "Pipeline.__init__" (defScope (inClass (top 78) 0)) f cdv A outer s H0 E) ((match (inClass (top 78) 0) with | .FunctionDef _ _ (.Assign _ v _ :: _) _ _ _ _ _ _ _ => v | _ => .Constant .none 0 ⟨0, 0, 0, 0⟩)) (rhoI 2 x [if b = true then .lst (ss.map Stp.enc) else .tup (ss.map Stp.enc)]) (.tup (ss.map Stp.enc)) := by
    cases b with
    | true => exact (ev_tupleL h.f_tuple (ev_var 1 rfl (.inl rfl) rfl) (.inl rfl))
    | false => exact (ev_tupleL h.f_tuple (ev_var 1 rfl (.inl rfl) rfl) (.inr rfl))
  refine ws (pss_cons ps_ws1 pss_ws) (w_fldI (i := 0) rfl (.inl rfl) rfl h.c_Pipeline h.n_Pipeline_own_steps tp hρ (by decide) fun v B1 H1 eb rv hρ1 => ?_)
  obtain ⟨fs, fds, hm, hk, hb, F⟩ := g_form_of_steps h
  refine ws (pss_cons ps_ws1 pss_ws) (w_fldW (i := 0) (d := encF (formStepsM ss)) rfl (.inl rfl) rfl h.c_Pipeline h.n_Pipeline_own_form hρ1 (Nat.le_of_ble_eq_true rfl) (fun Q q => ?_) fun w B2 H2 eb2 rw2 hρ2 => ws pss_nil (init_end hρ2 (fun B3 e3 hx3 => ?_) hde))
  · refine we (pe_call (dvs := []) F (hr.mono (by decide)) rfl hm hk hb .nil pass0 (pa_cons pe_we pa_nil)) (we_fldI (i := 0) rfl (.inl rfl) rfl h.c_Pipeline h.n_Pipeline_own_steps hρ1 (v := v) rfl ?_)
    exact ⟨ss, B1, hρ1.bh, .one rv, hy, q⟩
  · exact .pip hx3 (rw2.mono e3)
theorem i_pip0 (h : Hd c) : GoodI c (CP c) 7 [.ref (He.dflAt ("Pipeline", some "__init__") 0 c.K)] (SpI c.K (ca c.K) (CP c) (fun y : Bool × List Stp => [if y.1 = true then .lst (y.2.map Stp.enc) else .tup (y.2.map Stp.enc)]) (fun y => StepsOk y.2) (fun y => encPip (formStepsM y.2))) :=
  good_init (n := 0) (N := ["self", "steps"]) (init_d h.i_Pipeline (fun z => nomatch z) rfl bdp0) ⟨rfl, rfl, rfl, by decide +kernel, rfl, by decide +kernel, by decide +kernel⟩ (fun _ => rfl) (by decide) (init_Pip h)
theorem i_pip1 (h : Hd c) : GoodI c (CP c) 7 [] (SpI c.K (ca c.K) (CP c) (fun y : Bool × List Stp => [if y.1 = true then .lst (y.2.map Stp.enc) else .tup (y.2.map Stp.enc)]) (fun y => StepsOk y.2) (fun y => encPip (formStepsM y.2))) :=
  good_init (n := 1) (N := ["self", "steps"]) (init_d h.i_Pipeline (fun z => nomatch z) rfl bdp1) ⟨rfl, rfl, rfl, by decide +kernel, rfl, by decide +kernel, by decide +kernel⟩ (fun _ => rfl) (by decide) (init_Pip h)
theorem g_pip_form (h : Hd c) : GoodP c (CP c) "form" 1 (SpP c.K (ca c.K) (fun y : Fm => [encPip y]) (fun _ => True) (fun y => encF y)) := by
  refine good_prop (N := ["self"]) h.p_Pipeline_form ⟨rfl, rfl, rfl, by decide +kernel, rfl, by decide +kernel, by decide +kernel⟩ (fun _ _ _ _ _ _ us hl => match us, hl with | [_], _ => rfl) (fun _ => rfl) (by decide) ?_
  rintro f cdv A outer s H E hr F -
  exact wb_ret (ev_fld h.c_Pipeline h.n_Pipeline_own_form (ev_var 0 rfl (.inl rfl) rfl) (.pip ..) rfl) rfl
theorem g_pip_room (h : Hd c) : GoodM c (CP c) "room" 3 ["self", "label"] (SpP c.K (ca c.K) (fun y : Fm × Str => [encPip y.1, .str y.2]) (fun _ => True) (fun y => encO (entryM y.1 y.2).2)) := by
  refine good_meth (N := ["self", "label"]) h.m_Pipeline_room ⟨rfl, rfl, rfl, by decide +kernel, rfl, by decide +kernel, by decide +kernel⟩ (fun _ _ _ _ _ _ us hl => match us, hl with | [_, _], _ => rfl) (fun _ => rfl) (by decide) ?_
  rintro f cdv A outer s H E hr ⟨F, n⟩ -
  exact wb_ret (ev_call (g_room_in h) ((F, n)) rfl (hr.mono (by decide)) (ea_cons (ev_fld h.c_Pipeline h.n_Pipeline_own_form (ev_var 0 rfl (.inl rfl) rfl) (.pip ..) rfl) (ea_cons (ev_var 1 rfl (.inl rfl) rfl) ea_nil)) trivial) rfl
theorem g_pip_final (h : Hd c) : GoodM c (CP c) "final" 3 ["self", "label"] (SpP c.K (ca c.K) (fun y : Fm × Str => [encPip y.1, .str y.2]) (fun _ => True) (fun y => encS (entryM y.1 y.2).1)) := by
  refine good_meth (N := ["self", "label"]) h.m_Pipeline_final ⟨rfl, rfl, rfl, by decide +kernel, rfl, by decide +kernel, by decide +kernel⟩ (fun _ _ _ _ _ _ us hl => match us, hl with | [_, _], _ => rfl) (fun _ => rfl) (by decide) ?_
  rintro f cdv A outer s H E hr ⟨F, n⟩ -
  exact wb_ret (ev_call (g_final_in h) ((F, n)) rfl (hr.mono (by decide)) (ea_cons (ev_fld h.c_Pipeline h.n_Pipeline_own_form (ev_var 0 rfl (.inl rfl) rfl) (.pip ..) rfl) (ea_cons (ev_var 1 rfl (.inl rfl) rfl) ea_nil)) trivial) rfl
end
end PL
/-! W11: plain_steps -/
namespace PL
open PySem PySem.Spec PyProof.Rows L2
def labelsGoneM (F : Fm) (r : Rm) : List Str × Bool := if (!F.2.1 && decide (F.2.2 = r)) = true then (F.1.map (·.1), true) else ((F.1.filter fun e => e.2.1.isNone && decide (e.2.2 = r)).map (·.1), false)
def goneLab (F : Fm) (r : Rm) : List Str × Bool := (ssetS (labelsGoneM F r).1, (labelsGoneM F r).2)
def cutRooms (F : Fm) : List Int := (ssetI (((goneM F).filter fun r => r.isSome && decide (0 < r.getD 0)).map fun r => r.getD 0)).reverse
def headSteps (F : Fm) : List Stp := (if some 0 ∈ goneM F then [Stp.drop (goneLab F (some 0)).1 (goneLab F (some 0)).2] else []) ++ (if none ∈ goneM F then [Stp.unw (goneLab F none).1 (goneLab F none).2] else [])
def cutSteps (F : Fm) (rs : List Int) : List Stp := rs.flatMap fun r => [Stp.cut (r + 1), Stp.unw (goneLab F (some r)).1 (goneLab F (some r)).2]
def endSteps (F : Fm) : List Stp := match heightM F with
  | none => []
  | some h => if (decide (h = 0) || !decide (some h ∈ goneM F)) = true then [Stp.cut (h + 1)] else []
def plainM (F : Fm) : List Stp := if F = nothingM then [Stp.drop (ssetS []) true] else headSteps F ++ cutSteps F (cutRooms F) ++ endSteps F
/-- a form without renames, of rooms that are none or 0 at least -/
structure Plain (F : Fm) : Prop where
  len : F.1.length ≤ 15
  own : ∀ e ∈ F.1, e.2.1 = none ∨ e.2.1 = some e.1
  hi : ∀ h, heightM F = some h → 0 ≤ h
def vO : Rm → V
  | none => .non
  | some i => .int i
theorem fvs_encO : ∀ rs : List Rm, D.fvs (rs.map encO) = some (rs.map vO)
  | [] => rfl
  | r :: rs => by
    show (match D.fv (encO r), D.fvs (rs.map encO) with
      | some v, some vs => some (v :: vs)
      | _, _ => none) = _
    rw [fvs_encO rs]
    cases r <;> rfl
theorem inV_encO (r : Rm) (rs : List Rm) : inV (vO r) (rs.map vO) = decide (r ∈ rs) := by
  unfold inV
  rw [List.any_map]
  induction rs with
  | nil => rfl
  | cons n ns ih =>
    rw [List.any_cons, ih, Bool.eq_iff_iff]
    simp only [Function.comp, Bool.or_eq_true, decide_eq_true_eq, List.mem_cons]
    have e : eqV (vO n) (vO r) = true ↔ r = n := by
      cases n <;> cases r <;> simp [vO, eqV]
      exact eq_comm
    rw [e]
section
variable {c : Cn}
theorem g_labels_gone (h : Hd c) : Good c "labels_gone" 4 ["form", "room"] (SpP c.K (ca c.K) (fun y : Fm × Rm => [encF y.1, encO y.2]) (fun y => y.1.1.length ≤ 40) (fun y => .lab (goneLab y.1 y.2).1 (goneLab y.1 y.2).2)) := by
  refine good_def (N := ["form", "room", "left", "own", "name", "final", "much"]) h.d_labels_gone ⟨rfl, rfl, rfl, by decide +kernel, rfl, by decide +kernel, by decide +kernel⟩ (fun _ _ _ _ _ _ us hl => match us, hl with | [_, _], _ => rfl) (fun _ => rfl) (by decide) ?_
  rintro f cdv A outer s H E hr ⟨F, r⟩ hl
  have hl : F.1.length ≤ 40 := hl
  have nd : (["form", "room", "left", "own", "name", "final", "much"] : List Str).Nodup := by decide +kernel
  refine wb_cons (w_asg (ev_ixT (ev_var 0 rfl (.inl rfl) rfl) ev_int rfl) (eg_tup rfl (egs_cons (eg_name 2 nd rfl (.inl rfl)) (egs_cons (eg_name 3 nd rfl (.inl rfl)) egs_nil))) ?_)
  have l2 := List.length_filter_le (fun e : En => e.2.1.isNone && decide (e.2.2 = r)) F.1
  refine wb_cons (w_if (z := !F.2.1 && decide (F.2.2 = r)) (EvW.t (ew_and (et_not (et_val (ev_var 2 rfl (.inl rfl) rfl))) fun _ => ew_and1 (EvT.to (et_eq hr.units (ev_var 3 rfl (.inl rfl) rfl) (ev_var 1 rfl (.inr (.inl rfl)) rfl) (eqO _ _)) (encO_py _ _)))) (fun h1 => wb_ret (ev_make (i_labels2 h) h.g_Labels (fun _ => .nil) (true, F.1.map (·.1), true) rfl (hr.mono (by decide)) (ea_cons (EvN.toE (EvN.to (en_lc (enc := (encE)) (p := (fun _ => true)) (f := (fun e => .str e.1)) (xs := (F.1)) rfl nd [("name", 4), ("final", 5), ("much", 6)] (blk_of rfl) (ei_tup (ev_ixT (ev_var 0 rfl (.inl rfl) rfl) ev_int rfl)) ⟨fun x hx => ⟨_, _, by decide, fun _ _ _ _ _ => ⟨(eg_tup rfl (egs_cons (eg_name 4 nd rfl (.inl rfl)) (egs_cons (eg_name 5 nd rfl (.inl rfl)) (egs_cons (eg_name 6 nd rfl (.inl rfl)) egs_nil)))), ets_nil, fun _ => (EvE.to (ev_var 4 rfl (.inl rfl) rfl) rfl)⟩⟩⟩ (by omega)) ?n1)) (ea_cons ev_bl ea_nil)) rfl ?l1) ?r1) fun h1 => wb_nil (wb_ret (ev_make (i_labels1 h) h.g_Labels (fun _ => .one (.bl false)) (true, (F.1.filter fun e => e.2.1.isNone && decide (e.2.2 = r)).map (·.1), false) rfl (hr.mono (by decide)) (ea_cons (EvN.toE (EvN.to (en_lc (enc := (encE)) (p := (fun e => e.2.1.isNone && decide (e.2.2 = r))) (f := (fun e => .str e.1)) (xs := (F.1)) rfl nd [("name", 4), ("final", 5), ("much", 6)] (blk_of rfl) (ei_tup (ev_ixT (ev_var 0 rfl (.inl rfl) rfl) ev_int rfl)) ⟨fun x hx => ⟨_, _, by decide, fun _ _ _ _ _ => ⟨(eg_tup rfl (egs_cons (eg_name 4 nd rfl (.inl rfl)) (egs_cons (eg_name 5 nd rfl (.inl rfl)) (egs_cons (eg_name 6 nd rfl (.inl rfl)) egs_nil)))), (ets_one (EvT.to (EvW.t (ew_and (et_isN (ev_var 5 rfl (.inl rfl) rfl)) (fun _ => (ew_and1 (et_eq hr.units (ev_var 6 rfl (.inl rfl) rfl) (ev_var 1 rfl (.inr (.inl rfl)) rfl) (eqO x.2.2 r)))))) (by rw [encS_non, encO_py]))), fun _ => (EvE.to (ev_var 4 rfl (.inl rfl) rfl) rfl)⟩⟩⟩ (by omega)) ?n2)) ea_nil) rfl ?l2) ?r2))
  case n1 =>
    rw [keep_all, List.map_map]
    rfl
  case l1 =>
    show (F.1.map (·.1)).length < 64
    rw [List.length_map]
    omega
  case n2 =>
    unfold keepF
    rw [List.map_map]
    rfl
  case l2 =>
    show ((F.1.filter fun e => e.2.1.isNone && decide (e.2.2 = r)).map (·.1)).length < 64
    rw [List.length_map]
    omega
  case r1 =>
    show _ = D.lab (goneLab F r).1 (goneLab F r).2
    unfold goneLab labelsGoneM
    rw [if_pos h1]
  case r2 =>
    show _ = D.lab (goneLab F r).1 (goneLab F r).2
    unfold goneLab labelsGoneM
    rw [if_neg (by rw [h1]; exact Bool.false_ne_true)]
/-- both ways of an if lead to ρ1 -/
theorem w_ifM {T : CA} {X : Cx} {ρ : List Sl} {e : Expr} {sts rest : List Stmt} {pos : Pos} {z : Bool} {Po : Post} (ρ1 : List Sl) (hc : EvT T X e ρ z) (h1 : z = true → WB T X sts ρ { Po with nx := fun ρ' => ρ' = ρ1 }) (h2 : z = false → WB T X rest ρ { Po with nx := fun ρ' => ρ' = ρ1 }) (q : Po.nx ρ1) : W1 T X (.If e sts rest pos) ρ Po :=
  W1.imp (Po' := { Po with nx := fun ρ' => ρ' = ρ1 }) (w_if hc h1 h2) (fun ρ e => by
    have e : ρ = ρ1 := e
    rw [e]
    exact q) (fun _ h => h) (fun _ h => h) (fun _ h => h)
theorem cut_len (F : Fm) (hl : F.1.length ≤ 15) : (cutRooms F).length ≤ 16 := by
  unfold cutRooms
  rw [List.length_reverse]
  have h1 := ssetI_len (((goneM F).filter fun r => r.isSome && decide (0 < r.getD 0)).map fun r => r.getD 0)
  rw [List.length_map] at h1
  have h2 := List.length_filter_le (fun r : Rm => r.isSome && decide (0 < r.getD 0)) (goneM F)
  have h3 : (goneM F).length ≤ 16 := by
    unfold goneM
    rw [List.length_append, List.length_map]
    have h4 := List.length_filter_le (fun e : En => e.2.1.isNone) F.1
    split <;> simp <;> omega
  omega
theorem flat_next {F : Fm} {rs : List Int} {k : Nat} {r : Int} (h : rs[k]? = some r) : cutSteps F (rs.take (k + 1)) = cutSteps F (rs.take k) ++ [Stp.cut (r + 1), Stp.unw (goneLab F (some r)).1 (goneLab F (some r)).2] := by
  unfold cutSteps
  rw [take_next h, List.flatMap_append]
  simp
theorem cuts_len (F : Fm) : ∀ rs : List Int, (cutSteps F rs).length = 2 * rs.length
  | [] => rfl
  | r :: rs => by
    have ih := cuts_len F rs
    unfold cutSteps at ih ⊢
    rw [List.flatMap_cons, List.length_append, ih, List.length_cons]
    simp only [List.length_cons, List.length_nil]
    omega
theorem head_len (F : Fm) : (headSteps F).length ≤ 2 := by
  unfold headSteps
  rw [List.length_append]
  split <;> split <;> simp
theorem g_plain_steps (h : Hd c) : Good c "plain_steps" 8 ["form"] (SpP c.K (ca c.K) (fun y : Fm => [encF y]) Plain (fun y => .tup ((plainM y).map Stp.enc))) := by
  refine good_def (N := ["form", "gone", "height", "found", "room", "own", "table", "name", "final"]) h.d_plain_steps ⟨rfl, rfl, rfl, by decide +kernel, rfl, by decide +kernel, by decide +kernel⟩ (fun _ _ _ _ _ _ us hl => match us, hl with | [_], _ => rfl) (fun _ => rfl) (by decide) ?_
  rintro f cdv A outer s H E hr F hy
  have hl : F.1.length ≤ 15 := hy.len
  have gl : (goneM F).length ≤ 16 := by
    unfold goneM
    rw [List.length_append, List.length_map]
    have h4 := List.length_filter_le (fun e : En => e.2.1.isNone) F.1
    split <;> simp <;> omega
  have nd : (["form", "gone", "height", "found", "room", "own", "table", "name", "final"] : List Str).Nodup := by decide +kernel
  refine wb_cons (w_if (EvT.to (et_eq hr.units (ev_var 0 rfl (.inl rfl) rfl) (ev_gref rfl h.g_NOTHING_rooms (fun B => h.kst.nothing _ B)) (eqF F nothingM)) (encF_py F nothingM)) (fun h1 => wb_ret (ev_tup (ea_cons (ev_make (i_step h) h.g_Step (fun _ => .nil) (.drop (ssetS []) true) rfl (hr.mono (by decide)) (ea_cons ev_str (ea_cons (ev_make (i_labels2 h) h.g_Labels (fun _ => .nil) ((false, [], true)) rfl (hr.mono (by decide)) (ea_cons (ev_tup ea_nil) (ea_cons ev_bl ea_nil)) rfl (by decide)) ea_nil)) rfl (True.intro)) ea_nil)) ?r0) fun h1 => wb_nil ?_)
  case r0 =>
    show _ = D.tup ((plainM F).map Stp.enc)
    unfold plainM
    rw [if_pos (of_decide_eq_true h1)]
    rfl
  have hn : F ≠ nothingM := of_decide_eq_false h1
  refine wb_cons (w_par 1 2 rfl nd rfl rfl (by decide) rfl rfl (ea_cons (ev_call (g_rooms_gone h) (F) rfl (hr.mono (by decide)) (ea_cons (ev_var 0 rfl (.inl rfl) rfl) ea_nil) (by show F.1.length ≤ 40; omega)) (ea_cons (ev_call (g_height_in h) (F) rfl (hr.mono (by decide)) (ea_cons (ev_var 0 rfl (.inl rfl) rfl) ea_nil) (by show F.1.length ≤ 40; omega)) ea_nil)) ?_)
  refine wb_cons (w_setN 3 nd rfl (.inl rfl) (en_lst ea_nil) ?_)
  have e0 : (if some 0 ∈ goneM F then [Stp.drop (goneLab F (some 0)).1 (goneLab F (some 0)).2] else []).length ≤ 1 := by split <;> simp
  have e1 := head_len F
  refine wb_cons (w_ifM [.va (encF F), .va (.lst ((goneM F).map encO)), .va (encO (heightM F)), .ow ((if some 0 ∈ goneM F then [Stp.drop (goneLab F (some 0)).1 (goneLab F (some 0)).2] else []).map Stp.enc), .un, .un, .un, .un, .un] (EvT.to (et_in (v := .int 0) (vs := (goneM F).map vO) ev_int (ev_var 1 rfl (.inl rfl) rfl) rfl (.inl rfl) (fvs_encO _)) (inV_encO (some 0) _)) (fun h1 => wb_cons (w_append 3 rfl (.inl rfl) rfl (ev_make (i_step h) h.g_Step (fun _ => .nil) (.drop (goneLab F (some 0)).1 (goneLab F (some 0)).2) rfl (hr.mono (by decide)) (ea_cons ev_str (ea_cons (ev_call (g_labels_gone h) ((F, some 0)) rfl (hr.mono (by decide)) (ea_cons (ev_var 0 rfl (.inl rfl) rfl) (ea_cons ev_int ea_nil)) (by show F.1.length ≤ 40; omega)) ea_nil)) rfl (True.intro)) (Nat.le_of_ble_eq_true rfl) (wb_nil ?a1))) (fun h1 => wb_nil ?a2) ?_)
  case a1 =>
    rw [if_pos (of_decide_eq_true h1)]
    rfl
  case a2 =>
    rw [if_neg (of_decide_eq_false h1)]
    rfl
  refine wb_cons (w_ifM [.va (encF F), .va (.lst ((goneM F).map encO)), .va (encO (heightM F)), .ow ((headSteps F).map Stp.enc), .un, .un, .un, .un, .un] (EvT.to (et_in (v := .non) (vs := (goneM F).map vO) ev_non (ev_var 1 rfl (.inl rfl) rfl) rfl (.inl rfl) (fvs_encO _)) (inV_encO none _)) (fun h1 => wb_cons (w_append 3 rfl (.inl rfl) rfl (ev_make (i_step h) h.g_Step (fun _ => .nil) (.unw (goneLab F none).1 (goneLab F none).2) rfl (hr.mono (by decide)) (ea_cons ev_str (ea_cons (ev_call (g_labels_gone h) ((F, none)) rfl (hr.mono (by decide)) (ea_cons (ev_var 0 rfl (.inl rfl) rfl) (ea_cons ev_non ea_nil)) (by show F.1.length ≤ 40; omega)) ea_nil)) rfl (True.intro)) (by rw [List.length_map]; omega) (wb_nil ?a1))) (fun h1 => wb_nil ?a2) ?_)
  case a1 =>
    unfold headSteps
    rw [if_pos (of_decide_eq_true h1 : none ∈ goneM F), List.map_append]
    rfl
  case a2 =>
    unfold headSteps
    rw [if_neg (of_decide_eq_false h1 : ¬ none ∈ goneM F), List.append_nil]
  have cl := cut_len F hl
  have en : (keepF (fun r : Rm => r.isSome && decide (0 < r.getD 0)) (fun r => D.int (r.getD 0)) (goneM F)) = (((goneM F).filter fun r => r.isSome && decide (0 < r.getD 0)).map fun r => r.getD 0).map D.int := by
    unfold keepF
    rw [List.map_map]
    rfl
  refine wb_cons (w_for (ds := (cutRooms F).map D.int) (fun _ _ h => h.elim) rfl (ei_lst (EvE.to (EvN.toE (en_rev (EvN.toE (en_ssetI (xs := ((goneM F).filter fun r => r.isSome && decide (0 < r.getD 0)).map fun r => r.getD 0) rfl hr.units h.f_sorted h.f_set ?ha (.inl rfl) ?h64)))) ?hrev)) (fun k ρ1 => ∃ s1 : Sl, ρ1 = [.va (encF F), .va (.lst ((goneM F).map encO)), .va (encO (heightM F)), .ow ((headSteps F ++ cutSteps F ((cutRooms F).take k)).map Stp.enc), s1, .un, .un, .un, .un]) ⟨_, by rw [List.take_zero]; show _ = [_, _, _, Sl.ow ((headSteps F ++ []).map Stp.enc), _, _, _, _, _]; rw [List.append_nil]⟩ ?_ ?_)
  case ha =>
    refine EvN.toE (EvN.to (en_lc (enc := encO) (p := fun r : Rm => r.isSome && decide (0 < r.getD 0)) (f := fun r => D.int (r.getD 0)) (xs := goneM F) rfl nd [("own", 5)] (blk_of rfl) (ei_lst (ev_var 1 rfl (.inl rfl) rfl)) ⟨fun x hx => ?turn⟩ (by omega)) en)
    cases x with
    | none => exact ⟨_, _, by decide, fun _ _ _ _ _ => ⟨eg_name 5 nd rfl (.inl rfl), ets_one (EvT.to (EvW.t (ew_and (z2 := false) (et_notN (ev_var 5 rfl (.inl rfl) rfl)) fun h => nomatch h)) rfl), fun h => nomatch h⟩⟩
    | some i => exact ⟨_, _, by decide, fun _ _ _ _ _ => ⟨eg_name 5 nd rfl (.inl rfl), ets_one (EvT.to (EvW.t (ew_and (et_notN (ev_var 5 rfl (.inl rfl) rfl)) fun _ => ew_and1 (et_gt (ev_var 5 rfl (.inl rfl) rfl) ev_int))) rfl), fun _ => EvE.to (ev_var 5 rfl (.inl rfl) rfl) rfl⟩⟩
  case h64 =>
    have h2 := List.length_filter_le (fun r : Rm => r.isSome && decide (0 < r.getD 0)) (goneM F)
    rw [List.length_map]
    omega
  case hrev =>
    unfold cutRooms
    rw [List.map_reverse]
  · rintro k d ρ1 hd ⟨s1, rfl⟩
    obtain ⟨r, hr', rfl⟩ := map_at hd
    have hm : r ∈ cutRooms F := List.mem_of_getElem? hr'
    have hpos : 0 < r := by
      unfold cutRooms at hm
      rw [List.mem_reverse, ssetI_mem, List.mem_map] at hm
      obtain ⟨x, hx, rfl⟩ := hm
      have h2 := (List.mem_filter.mp hx).2
      exact of_decide_eq_true (Bool.and_eq_true_iff.mp h2).2
    have kl : (cutSteps F ((cutRooms F).take k)).length ≤ 32 := by
      rw [cuts_len, List.length_take]
      omega
    refine ⟨_, _, (eg_name 4 nd rfl (.inl rfl)), wb_cons (w_extend 3 rfl (.inl rfl) rfl (EvN.toE (en_lst (ea_cons (ev_make (i_step h) h.g_Step (fun _ => .nil) (.cut (r + 1)) rfl (hr.mono (by decide)) (ea_cons ev_str (ea_cons (ev_add (ev_var 4 rfl (.inl rfl) rfl) ev_int) ea_nil)) rfl (by show 1 ≤ r + 1; omega)) (ea_cons (ev_make (i_step h) h.g_Step (fun _ => .nil) (.unw (goneLab F (some r)).1 (goneLab F (some r)).2) rfl (hr.mono (by decide)) (ea_cons ev_str (ea_cons (ev_call (g_labels_gone h) ((F, some r)) rfl (hr.mono (by decide)) (ea_cons (ev_var 0 rfl (.inl rfl) rfl) (ea_cons (ev_var 4 rfl (.inl rfl) rfl) ea_nil)) (by show F.1.length ≤ 40; omega)) ea_nil)) rfl (True.intro)) ea_nil)))) (by rw [List.length_map, List.length_append]; simp only [List.length_cons, List.length_nil]; omega) (wb_nil ⟨.va (.int r), ?_⟩))⟩
    show [_, _, _, Sl.ow _, _, _, _, _, _] = _
    rw [flat_next hr', ← List.append_assoc]
    simp only [List.map_append]
    rfl
  · rintro ρ1 ⟨s1, rfl⟩
    rw [List.length_map, List.take_length]
    have kl : (cutSteps F (cutRooms F)).length ≤ 32 := by
      rw [cuts_len]
      omega
    refine wb_cons (w_ifM [.va (encF F), .va (.lst ((goneM F).map encO)), .va (encO (heightM F)), .ow ((headSteps F ++ cutSteps F (cutRooms F) ++ endSteps F).map Stp.enc), s1, .un, .un, .un, .un] (z := match heightM F with
      | none => false
      | some h => decide (h = 0) || !decide (some h ∈ goneM F)) ?c1 (fun h1 => ?c2) (fun h1 => ?c3) ?_)
    case c1 =>
      cases eh : heightM F with
      | none => exact EvW.t (ew_and (z := false) (z2 := false) (EvT.to (et_notN (ev_var 2 rfl (.inl rfl) rfl)) rfl) fun h => nomatch h)
      | some hh =>
        exact EvW.t (ew_and (z := true) (EvT.to (et_notN (ev_var 2 rfl (.inl rfl) rfl)) rfl) fun _ => ew_and1 (EvW.t (ew_or (EvT.to (et_eq hr.units (ev_var 2 rfl (.inl rfl) rfl) ev_int (eqInt _ _)) (int_py _ _)) fun _ => ew_or1 (EvT.to (et_notIn (v := .int hh) (vs := (goneM F).map vO) (ev_var 2 rfl (.inl rfl) rfl) (ev_var 1 rfl (.inl rfl) rfl) rfl (.inl rfl) (fvs_encO _)) (by rw [show V.int hh = vO (some hh) from rfl, inV_encO])))))
    case c2 =>
      cases eh : heightM F with
      | none =>
        rw [eh] at h1
        cases h1
      | some hh =>
        rw [eh] at h1
        have hp := hy.hi hh eh
        refine wb_cons (w_append 3 rfl (.inl rfl) rfl (ev_make (i_step h) h.g_Step (fun _ => .nil) (Stp.cut (hh + 1)) rfl (hr.mono (by decide)) (ea_cons ev_str (ea_cons (ev_add (ev_var 2 rfl (.inl rfl) rfl) ev_int) ea_nil)) rfl (by show 1 ≤ hh + 1; omega)) (by rw [List.length_map, List.length_append]; omega) (wb_nil ?_))
        unfold endSteps
        rw [eh]
        simp only
        rw [if_pos h1]
        simp only [List.map_append]
        rfl
    case c3 =>
      refine wb_nil ?_
      unfold endSteps
      cases eh : heightM F with
      | none =>
        show [_, _, _, Sl.ow _, _, _, _, _, _] = [_, _, _, Sl.ow ((headSteps F ++ cutSteps F (cutRooms F) ++ []).map Stp.enc), _, _, _, _, _]
        rw [List.append_nil]
      | some hh =>
        rw [eh] at h1
        have h1 : (decide (hh = 0) || !decide (some hh ∈ goneM F)) = false := h1
        simp only
        rw [if_neg (by rw [h1]; exact Bool.false_ne_true), List.append_nil]
    have er : keepF (fun _ : En => false) (fun _ => D.non) F.1 = [] := by
      unfold keepF
      rw [List.filter_eq_nil_iff.mpr fun _ _ => Bool.false_ne_true]
      rfl
    refine wb_cons (w_lcN (enc := encE) (p := fun _ => false) (f := fun _ => .non) (xs := F.1) 6 rfl nd [("room", 4), ("name", 7), ("final", 8)] rfl rfl (blk_of rfl) (ei_tup (ev_ixT (ev_var 0 rfl (.inl rfl) rfl) ev_int rfl)) ⟨fun x hx => ?turn2⟩ (by omega) (wb_frz 6 rfl (wb_frz 3 rfl (wb_ret (ev_ifF (EvT.to (et_gt (ev_len h.f_len (ev_var 6 rfl (.inl rfl) rfl) (.inl rfl)) ev_int) ?lz) (ev_tupleL h.f_tuple (ev_var 3 rfl (.inl rfl) rfl) (.inl rfl))) ?rz))) rfl)
    case turn2 =>
      rcases hy.own x hx with ho | ho
      · exact ⟨_, _, by decide, fun _ _ _ _ _ => ⟨(eg_tup rfl (egs_cons (eg_name 7 nd rfl (.inl rfl)) (egs_cons (eg_name 8 nd rfl (.inl rfl)) (egs_cons (eg_name 4 nd rfl (.inl rfl)) egs_nil)))), ets_one (EvT.to (EvW.t (ew_and (z2 := false) (EvT.to (et_notN (ev_var 8 rfl (.inl rfl) rfl)) (show (!(encS x.2.1).isNon) = false by rw [ho]; rfl)) fun h => nomatch h)) rfl), fun h => nomatch h⟩⟩
      · exact ⟨_, _, by decide, fun _ _ _ _ _ => ⟨(eg_tup rfl (egs_cons (eg_name 7 nd rfl (.inl rfl)) (egs_cons (eg_name 8 nd rfl (.inl rfl)) (egs_cons (eg_name 4 nd rfl (.inl rfl)) egs_nil)))), ets_one (EvT.to (EvW.t (ew_and (z := true) (EvT.to (et_notN (ev_var 8 rfl (.inl rfl) rfl)) (show (!(encS x.2.1).isNon) = true by rw [ho]; rfl)) fun _ => ew_and1 (EvT.to (et_ne hr.units (ev_var 8 rfl (.inl rfl) rfl) (ev_var 7 rfl (.inl rfl) rfl) (eqbl (encS_pl _) rfl (by rw [encS_dp]; decide) (by rw [dp_str]; decide))) (show (!PyData.eqv (encS x.2.1).py (D.str x.1).py) = false by rw [ho]; show (!PyData.eqv (encS (some x.1)).py (encS (some x.1)).py) = false; rw [encS_py]; simp)))) rfl), fun h => nomatch h⟩⟩
    case lz =>
      rw [er]
      rfl
    case rz =>
      show _ = D.tup ((plainM F).map Stp.enc)
      unfold plainM
      rw [if_neg hn]
end
end PL
/-! W12: pipeline_of, the counts of ways -/
namespace PL
open PySem PySem.Spec PyProof.Rows L2
def waysI (l h r : Int) : Int := (if l = 0 then 1 else 0) + max 0 (h - max (max l r) 1 + 1)
def waysAt (rows : List (Int × Int)) (r : Int) : Int := rows.foldl (fun a p => a * waysI p.1 p.2 r) 1
def encI2 (p : Int × Int) : D := .tup [.int p.1, .int p.2]
def chooseM (many : Int) : Nat → Int
  | 0 => 1
  | t + 1 => chooseM many t * (many - t) / ((t : Int) + 1)
/-- below 2 ^ n in size -/
def Bd (n : Nat) (i : Int) : Prop := i.natAbs < 2 ^ n
theorem Bd.mul {a b : Nat} {i j : Int} (h1 : Bd a i) (h2 : Bd b j) : Bd (a + b) (i * j) := by
  unfold Bd at *
  rw [Int.natAbs_mul, Nat.pow_add]
  rcases Nat.eq_zero_or_pos j.natAbs with z | z
  · rw [z, Nat.mul_zero]
    exact Nat.mul_pos (Nat.pow_pos (by decide)) (Nat.pow_pos (by decide))
  · exact Nat.lt_of_lt_of_le (Nat.mul_lt_mul_of_pos_right h1 z) (Nat.mul_le_mul_left _ (Nat.le_of_lt h2))
theorem Bd.mono {a b : Nat} {i : Int} (h : Bd a i) (l : a ≤ b) : Bd b i := Nat.lt_of_lt_of_le h (Nat.pow_le_pow_right (by decide) l)
theorem Bd.add {a : Nat} {i j : Int} (h1 : Bd a i) (h2 : Bd a j) : Bd (a + 1) (i + j) := by
  unfold Bd at *
  have h3 := Int.natAbs_add_le i j
  rw [Nat.pow_succ]
  omega
theorem Bd.sub {a : Nat} {i j : Int} (h1 : Bd a i) (h2 : Bd a j) : Bd (a + 1) (i - j) := by
  unfold Bd at *
  have h3 := Int.natAbs_sub_le i j
  rw [Nat.pow_succ]
  omega
theorem Bd.div {a : Nat} {i : Int} (h1 : Bd a i) (d : Int) (hd : 1 ≤ d) : Bd a (i / d) := by
  unfold Bd at *
  exact Nat.lt_of_le_of_lt (Int.natAbs_ediv_le_natAbs _ _) h1
theorem Bd.wide {a b : Nat} {i j : Int} (h1 : Bd a i) (h2 : Bd b j) (ha : 0 < a) (hb : 0 < b) (h : a + b ≤ 1000000) : CMulW i j := wide_mul h1 h2 ha hb h
theorem Bd.int {n : Nat} {i : Int} (h : i.natAbs < 2 ^ n) : Bd n i := h
theorem ways_bd {n : Nat} {l h r : Int} (h1 : Bd n l) (h2 : Bd n h) (h3 : Bd n r) (hn : 3 ≤ n) : Bd (n + 2) (waysI l h r) := by
  unfold Bd waysI at *
  have q : 2 ^ 3 ≤ 2 ^ n := Nat.pow_le_pow_right (by decide) hn
  rw [show (2 : Nat) ^ 3 = 8 from rfl] at q
  have e : 2 ^ (n + 2) = 4 * 2 ^ n := by rw [Nat.pow_add]; omega
  rw [e]
  split <;> omega
theorem waysAt_next {rows : List (Int × Int)} {r : Int} {k : Nat} {p : Int × Int} (h : rows[k]? = some p) : waysAt (rows.take (k + 1)) r = waysAt (rows.take k) r * waysI p.1 p.2 r := by
  unfold waysAt
  rw [take_next h, List.foldl_append]
  rfl
/-- the rows' sizes -/
def RowsOk (rows : List (Int × Int)) : Prop := rows.length ≤ 20 ∧ ∀ p ∈ rows, Bd 250 p.1 ∧ Bd 250 p.2
theorem waysAt_bd {rows : List (Int × Int)} {r : Int} (h : RowsOk rows) (hr : Bd 250 r) : ∀ k, k ≤ rows.length → Bd (252 * k + 1) (waysAt (rows.take k) r) := by
  intro k
  induction k with
  | zero =>
    intro _
    exact (show Bd 1 1 by unfold Bd; decide)
  | succ k ih =>
    intro hk
    have hx : rows[k]? = some rows[k] := List.getElem?_eq_getElem (by omega)
    have hm := h.2 rows[k] (List.getElem_mem _)
    rw [waysAt_next hx]
    exact ((ih (by omega)).mul (ways_bd hm.1 hm.2 hr (by decide))).mono (by omega)
theorem choose_bd {many : Int} (h : Bd 250 many) : ∀ t : Nat, t ≤ 30 → Bd (252 * t + 1) (chooseM many t) := by
  intro t
  induction t with
  | zero =>
    intro _
    exact (show Bd 1 1 by unfold Bd; decide)
  | succ t ih =>
    intro ht
    have h1 : Bd 251 (many - (t : Int)) := h.sub (show Bd 250 (t : Int) by
      unfold Bd
      have : (2 : Nat) ^ 5 ≤ 2 ^ 250 := Nat.pow_le_pow_right (by decide) (by decide)
      rw [show (2 : Nat) ^ 5 = 32 from rfl] at this
      omega)
    exact (((ih (by omega)).mul h1).div _ (by omega)).mono (by omega)
section
variable {c : Cn}
theorem g_pipeline_of (h : Hd c) : Good c "pipeline_of" 9 ["form"] (SpP c.K (ca c.K) (fun y : Fm => [encF y]) (fun y => Plain y ∧ StepsOk (plainM y)) (fun y => encPip (formStepsM (plainM y)))) := by
  refine good_def (N := ["form"]) h.d_pipeline_of ⟨rfl, rfl, rfl, by decide +kernel, rfl, by decide +kernel, by decide +kernel⟩ (fun _ _ _ _ _ _ us hl => match us, hl with | [_], _ => rfl) (fun _ => rfl) (by decide) ?_
  rintro f cdv A outer s H E hr F ⟨hy, hs⟩
  exact wb_ret (ev_make (i_pip1 h) h.g_Pipeline (fun _ => .nil) ((false, plainM F)) rfl (hr.mono (by decide)) (ea_cons (ev_call (g_plain_steps h) (F) rfl (hr.mono (by decide)) (ea_cons (ev_call (g_tupled h 3) (encF F) rfl (hr.mono (by decide)) (ea_cons (ev_var 0 rfl (.inl rfl) rfl) ea_nil) (.inl (encF_tn F (Nat.le_trans hy.len (by decide))))) ea_nil) (hy)) ea_nil) rfl (hs)) rfl
theorem g_ways_of (h : Hd c) : Good c "ways_of" 1 ["low", "high", "room"] (SpP c.K (ca c.K) (fun y : Int × Int × Int => [.int y.1, .int y.2.1, .int y.2.2]) (fun _ => True) (fun y => .int (waysI y.1 y.2.1 y.2.2))) := by
  refine good_def (N := ["low", "high", "room"]) h.d_ways_of ⟨rfl, rfl, rfl, by decide +kernel, rfl, by decide +kernel, by decide +kernel⟩ (fun _ _ _ _ _ _ us hl => match us, hl with | [_, _, _], _ => rfl) (fun _ => rfl) (by decide) ?_
  rintro f cdv A outer s H E hr ⟨l, hh, r⟩ -
  refine wb_cons (w_if (EvT.to (EvW.t (ew_or (et_isN (ev_var 2 rfl (.inl rfl) rfl)) (fun _ => (ew_or1 (et_isN (ev_var 0 rfl (.inl rfl) rfl)))))) (show (D.isNon (.int r) || D.isNon (.int l)) = false from rfl)) (fun h1 => nomatch h1) fun _ => wb_nil (wb_ret (ev_add (ev_intB h.f_int (ev_eq hr.units (ev_var 0 rfl (.inl rfl) rfl) ev_int (eqInt _ _))) (ev_max2 rfl h.f_max ev_int (ev_add (ev_sub (ev_var 1 rfl (.inl rfl) rfl) (ev_max3 rfl h.f_max (ev_var 0 rfl (.inl rfl) rfl) (ev_var 2 rfl (.inl rfl) rfl) ev_int)) ev_int))) ?_))
  show _ = D.int (waysI l hh r)
  unfold waysI
  rw [int_py]
  congr 2
  by_cases h0 : l = 0 <;> simp [h0]
theorem g_ways_at (h : Hd c) : Good c "ways_at" 2 ["rows", "room"] (SpP c.K (ca c.K) (fun y : List (Int × Int) × Int => [.lst (y.1.map encI2), .int y.2]) (fun y => RowsOk y.1 ∧ Bd 250 y.2) (fun y => .int (waysAt y.1 y.2))) := by
  refine good_def (N := ["rows", "room", "found", "low", "high"]) h.d_ways_at ⟨rfl, rfl, rfl, by decide +kernel, rfl, by decide +kernel, by decide +kernel⟩ (fun _ _ _ _ _ _ us hl => match us, hl with | [_, _], _ => rfl) (fun _ => rfl) (by decide) ?_
  rintro f cdv A outer s H E hr ⟨rows, r⟩ ⟨hy, hb⟩
  have hy : RowsOk rows := hy
  have hb : Bd 250 r := hb
  have nd : (["rows", "room", "found", "low", "high"] : List Str).Nodup := by decide +kernel
  refine wb_cons (w_set 2 nd rfl (.inl rfl) ev_int ?_)
  refine wb_cons (w_for (fun _ _ h => h.elim) rfl (ei_lst (ev_var 0 rfl (.inl rfl) rfl)) (fun k ρ1 => ∃ s1 s2 : Sl, ρ1 = [.va (.lst (rows.map encI2)), .va (.int r), .va (.int (waysAt (rows.take k) r)), s1, s2]) ⟨_, _, rfl⟩ ?_ ?_)
  · rintro k d ρ1 hd ⟨s1, s2, rfl⟩
    obtain ⟨p, hp, rfl⟩ := map_at hd
    have hk : k < rows.length := (List.getElem?_eq_some_iff.mp hp).1
    have hm := hy.2 p (List.mem_of_getElem? hp)
    have b1 := waysAt_bd hy hb k (by omega)
    have b2 := ways_bd hm.1 hm.2 hb (by decide)
    have hl : rows.length ≤ 20 := hy.1
    refine ⟨_, _, (eg_tup rfl (egs_cons (eg_name 3 nd rfl (.inl rfl)) (egs_cons (eg_name 4 nd rfl (.inl rfl)) egs_nil))), wb_cons (w_set 2 nd rfl (.inl rfl) (ev_mulW (ev_var 2 rfl (.inl rfl) rfl) (ev_call (g_ways_of h) ((p.1, p.2, r)) rfl (hr.mono (by decide)) (ea_cons (ev_var 3 rfl (.inl rfl) rfl) (ea_cons (ev_var 4 rfl (.inl rfl) rfl) (ea_cons (ev_var 1 rfl (.inl rfl) rfl) ea_nil))) trivial) (b1.wide b2 (by omega) (by omega) (by omega))) (wb_nil ⟨.va (.int p.1), .va (.int p.2), ?_⟩))⟩
    show [_, _, _, _, _] = _
    rw [waysAt_next hp]
  · rintro ρ1 ⟨s1, s2, rfl⟩
    rw [List.length_map, List.take_length]
    exact wb_ret (ev_var 2 rfl (.inl rfl) rfl) rfl
theorem g_choose (h : Hd c) : Good c "choose" 1 ["many", "few"] (SpP c.K (ca c.K) (fun y : Int × Nat => [.int y.1, .int (y.2 : Int)]) (fun y => Bd 250 y.1 ∧ y.2 ≤ 30) (fun y => .int (chooseM y.1 y.2))) := by
  refine good_def (N := ["many", "few", "found", "turn"]) h.d_choose ⟨rfl, rfl, rfl, by decide +kernel, rfl, by decide +kernel, by decide +kernel⟩ (fun _ _ _ _ _ _ us hl => match us, hl with | [_, _], _ => rfl) (fun _ => rfl) (by decide) ?_
  rintro f cdv A outer s H E hr ⟨many, few⟩ ⟨hm, hf⟩
  have hm : Bd 250 many := hm
  have hf : few ≤ 30 := hf
  have nd : (["many", "few", "found", "turn"] : List Str).Nodup := by decide +kernel
  refine wb_cons (w_set 2 nd rfl (.inl rfl) ev_int ?_)
  refine wb_cons (w_for (fun _ _ h => h.elim) rfl (ei_rng h.f_range (ev_var 1 rfl (.inl rfl) rfl) (by omega) (by omega)) (fun k ρ1 => ∃ s1 : Sl, ρ1 = [.va (.int many), .va (.int (few : Int)), .va (.int (chooseM many k)), s1]) ⟨_, rfl⟩ ?_ ?_)
  · rintro k d ρ1 hd ⟨s1, rfl⟩
    rw [rngD_get] at hd
    split at hd
    · rename_i hk
      cases hd
      have hk2 : k < few := by omega
      have b1 := choose_bd hm k (by omega)
      have b2 : Bd 251 (many - (k : Int)) := hm.sub (show Bd 250 (k : Int) by
        unfold Bd
        have : (2 : Nat) ^ 5 ≤ 2 ^ 250 := Nat.pow_le_pow_right (by decide) (by decide)
        rw [show (2 : Nat) ^ 5 = 32 from rfl] at this
        omega)
      refine ⟨_, _, (eg_name 3 nd rfl (.inl rfl)), wb_cons (w_set 2 nd rfl (.inl rfl) (ev_fdiv (ev_mulW (ev_var 2 rfl (.inl rfl) rfl) (ev_sub (ev_var 0 rfl (.inl rfl) rfl) (ev_var 3 rfl (.inl rfl) rfl)) (b1.wide b2 (by omega) (by omega) (by omega))) (ev_add (ev_var 3 rfl (.inl rfl) rfl) ev_int) ⟨by omega, ?_⟩) (wb_nil ⟨.va (.int (k : Int)), rfl⟩))⟩
      have h3 : ((k : Int) + 1).natAbs < 2 ^ 9 := by
        rw [show (2 : Nat) ^ 9 = 512 from rfl]
        omega
      have h4 : ((k : Int) + 1).natAbs ≠ 0 := by omega
      have h5 := (Nat.log2_lt h4).mpr h3
      omega
    · cases hd
  · rintro ρ1 ⟨s1, rfl⟩
    have e : (rngD (few : Int).toNat).length = few := by
      unfold rngD
      rw [List.length_map, List.length_range, Int.toNat_natCast]
    rw [e]
    exact wb_ret (ev_var 2 rfl (.inl rfl) rfl) rfl
end
end PL
/-! W13: sum_of, sum_to -/
namespace PL
open PySem PySem.Spec PyProof.Rows L2
def valsM (rows : List (Int × Int)) (first : Int) (n : Nat) : List Int := (List.range n).map fun t : Nat => waysAt rows (first + (t : Int))
def diffs (vs : List Int) : List Int := (vs.zip vs.tail).map fun p => p.2 - p.1
def diffN : Nat → List Int → List Int
  | 0, vs => vs
  | k + 1, vs => diffs (diffN k vs)
def foundM (many : Int) (vs : List Int) : Nat → Int
  | 0 => 0
  | k + 1 => foundM many vs k + (diffN k vs).headD 0 * chooseM many (k + 1)
def sumOfM (rows : List (Int × Int)) (first last : Int) : Int := if last - first + 1 ≤ (rows.length : Int) + 1 then (valsM rows first (last - first + 1).toNat).sum else foundM (last - first + 1) (valsM rows first (rows.length + 1)) (rows.length + 1)
theorem EvA.to {T : CA} {X : Cx} {es : List Expr} {ρ : List Sl} {ds ds' : List D} (h : EvA T X es ρ ds) (q : ds = ds') : EvA T X es ρ ds' := q ▸ h
theorem diffs_len (vs : List Int) : (diffs vs).length = vs.length - 1 := by
  unfold diffs
  rw [List.length_map, List.length_zip, List.length_tail]
  omega
theorem diffN_len (vs : List Int) : ∀ k, (diffN k vs).length = vs.length - k
  | 0 => rfl
  | k + 1 => by
    show (diffs (diffN k vs)).length = _
    rw [diffs_len, diffN_len vs k]
    omega
theorem diffN_bd {n : Nat} {vs : List Int} (h : ∀ v ∈ vs, Bd n v) : ∀ k, ∀ v ∈ diffN k vs, Bd (n + k) v
  | 0 => h
  | k + 1 => fun v hv => by
    have hv : v ∈ (((diffN k vs).zip (diffN k vs).tail).map fun p : Int × Int => p.2 - p.1) := hv
    obtain ⟨p, hp, rfl⟩ := List.mem_map.mp hv
    obtain ⟨h1, h2⟩ := List.of_mem_zip (a := p.1) (b := p.2) hp
    exact (diffN_bd h k _ (List.mem_of_mem_tail h2)).sub (diffN_bd h k _ h1)
theorem cut_tail (xs : List D) : cutD xs (some 1) none = xs.tail := by
  cases xs with
  | nil => rfl
  | cons x xs =>
    unfold cutD
    have e1 : HT.sIx (x :: xs).length 0 (some 1) = 1 := by
      simp [HT.sIx]
    have e2 : HT.sIx (x :: xs).length (x :: xs).length none = (x :: xs).length := rfl
    rw [e1, e2]
    simp
theorem zip_int : ∀ (xs ys : List Int), zipD (xs.map D.int) (ys.map D.int) = (xs.zip ys).map encI2
  | [], _ => by simp [zipD]
  | _ :: _, [] => by simp [zipD]
  | x :: xs, y :: ys => by
    have ih := zip_int xs ys
    simp only [List.map_cons, List.zip_cons_cons, zipD, ih]
    rfl
section
variable {c : Cn}
theorem g_sum_of (h : Hd c) : Good c "sum_of" 3 ["rows", "first", "last"] (SpP c.K (ca c.K) (fun y : List (Int × Int) × Int × Int => [.lst (y.1.map encI2), .int y.2.1, .int y.2.2]) (fun y => RowsOk y.1 ∧ Bd 240 y.2.1 ∧ Bd 240 y.2.2 ∧ y.2.1 ≤ y.2.2) (fun y => .int (sumOfM y.1 y.2.1 y.2.2))) := by
  refine good_def (N := ["rows", "first", "last", "degree", "many", "values", "turn", "found", "ahead", "after"]) h.d_sum_of ⟨rfl, rfl, rfl, by decide +kernel, rfl, by decide +kernel, by decide +kernel⟩ (fun _ _ _ _ _ _ us hl => match us, hl with | [_, _, _], _ => rfl) (fun _ => rfl) (by decide) ?_
  rintro f cdv A outer s H E hr ⟨rows, fi, la⟩ ⟨hy, hb1, hb2, hle⟩
  have hy : RowsOk rows := hy
  have hb1 : Bd 240 fi := hb1
  have hb2 : Bd 240 la := hb2
  have hle : fi ≤ la := hle
  have hl : rows.length ≤ 20 := hy.1
  have nd : (["rows", "first", "last", "degree", "many", "values", "turn", "found", "ahead", "after"] : List Str).Nodup := by decide +kernel
  have tb : ∀ t : Nat, t ≤ 30 → Bd 250 (fi + (t : Int)) := fun t ht => ((hb1.add (show Bd 240 (t : Int) by
    unfold Bd
    have : (2 : Nat) ^ 5 ≤ 2 ^ 240 := Nat.pow_le_pow_right (by decide) (by decide)
    rw [show (2 : Nat) ^ 5 = 32 from rfl] at this
    omega)).mono (by decide))
  have mb : Bd 250 (la - fi + 1) := ((hb2.sub hb1).add (show Bd 241 1 by unfold Bd; decide)).mono (by decide)
  refine wb_cons (w_par (d1 := .int (rows.length : Int)) (d2 := .int (la - fi + 1)) 3 4 rfl nd rfl rfl (by decide) rfl rfl (EvA.to (ea_cons (ev_len h.f_len (ev_var 0 rfl (.inr (.inl rfl)) rfl) (.inl rfl)) (ea_cons (ev_add (ev_sub (ev_var 2 rfl (.inl rfl) rfl) (ev_var 1 rfl (.inr (.inl rfl)) rfl)) ev_int) ea_nil)) (by rw [List.length_map])) ?_)
  have e0 : rngD (min (la - fi + 1) ((rows.length : Int) + 1)).toNat = ((List.range (min (la - fi + 1) ((rows.length : Int) + 1)).toNat).map fun t : Nat => (t : Int)).map D.int := by
    unfold rngD
    rw [List.map_map]
    rfl
  have bt : ∀ x ∈ (List.range (min (la - fi + 1) ((rows.length : Int) + 1)).toNat).map (fun t : Nat => (t : Int)), Bd 250 (fi + x) := fun x hx => by
    obtain ⟨t, ht, rfl⟩ := List.mem_map.mp hx
    have := List.mem_range.mp ht
    exact tb t (by omega)
  have ek : keepF (fun _ => true) (fun t => D.int (waysAt rows (fi + t))) ((List.range (min (la - fi + 1) ((rows.length : Int) + 1)).toNat).map fun t : Nat => (t : Int)) = (valsM rows fi (min (la - fi + 1) ((rows.length : Int) + 1)).toNat).map D.int := by
    rw [keep_all]
    unfold valsM
    rw [List.map_map, List.map_map]
    rfl
  refine wb_cons (w_lcN (enc := (D.int)) (p := (fun _ => true)) (f := (fun t => .int (waysAt rows (fi + t)))) (xs := ((List.range (min (la - fi + 1) ((rows.length : Int) + 1)).toNat).map fun t : Nat => (t : Int))) 5 rfl nd [("turn", 6)] rfl rfl (blk_of rfl) (EvI.to (ei_rng h.f_range (ev_min2 rfl h.f_min (ev_var 4 rfl (.inl rfl) rfl) (ev_add (ev_var 3 rfl (.inl rfl) rfl) ev_int)) (by omega) (by omega)) (e0)) ⟨fun x hx => ⟨_, _, by decide, fun _ _ _ _ _ => ⟨(eg_name 6 nd rfl (.inl rfl)), ets_nil, fun _ => (EvE.to (ev_call (g_ways_at h) ((rows, fi + x)) rfl (hr.mono (by decide)) (ea_cons (ev_var 0 rfl (.inr (.inl rfl)) rfl) (ea_cons (ev_add (ev_var 1 rfl (.inr (.inl rfl)) rfl) (ev_var 6 rfl (.inl rfl) rfl)) ea_nil)) (⟨hy, bt x hx⟩)) rfl)⟩⟩⟩ (by rw [List.length_map, List.length_range]; omega) (wb_frz 5 rfl ?_) rfl)
  rw [ek]
  refine wb_cons (w_if (et_le (ev_var 4 rfl (.inl rfl) rfl) (ev_add (ev_var 3 rfl (.inl rfl) rfl) ev_int)) (fun h1 => wb_ret (ev_sum rfl h.f_sum (ev_var 5 rfl (.inl rfl) rfl)) ?r1) fun h1 => wb_nil ?_)
  case r1 =>
    have h1 := of_decide_eq_true h1
    show _ = D.int (sumOfM rows fi la)
    unfold sumOfM
    rw [if_pos h1, Int.min_eq_left h1]
  have h1 := of_decide_eq_false h1
  have em : (min (la - fi + 1) ((rows.length : Int) + 1)).toNat = rows.length + 1 := by omega
  rw [em]
  have vb : ∀ v ∈ valsM rows fi (rows.length + 1), Bd 5041 v := fun v hv => by
    unfold valsM at hv
    obtain ⟨t, ht, rfl⟩ := List.mem_map.mp hv
    have ht := List.mem_range.mp ht
    have q := waysAt_bd hy (tb t (by omega)) rows.length (Nat.le_refl _)
    rw [List.take_length] at q
    exact q.mono (by omega)
  have vl : (valsM rows fi (rows.length + 1)).length = rows.length + 1 := by
    unfold valsM
    rw [List.length_map, List.length_range]
  refine wb_cons (w_set 7 nd rfl (.inl rfl) ev_int ?_)
  refine wb_cons (w_for (fun _ _ h => h.elim) rfl (ei_rng h.f_range (ev_add (ev_var 3 rfl (.inl rfl) rfl) ev_int) (by omega) (by omega)) (fun k ρ1 => ∃ s1 : Sl, ρ1 = [.va (.lst (rows.map encI2)), .va (.int fi), .va (.int la), .va (.int (rows.length : Int)), .va (.int (la - fi + 1)), .va (.lst ((diffN k (valsM rows fi (rows.length + 1))).map D.int)), s1, .va (.int (foundM (la - fi + 1) (valsM rows fi (rows.length + 1)) k)), .un, .un]) ⟨_, rfl⟩ ?_ ?_)
  · rintro k d ρ1 hd ⟨s1, rfl⟩
    rw [rngD_get] at hd
    split at hd
    · rename_i hk
      cases hd
      have hk2 : k < rows.length + 1 := by omega
      have dl := diffN_len (valsM rows fi (rows.length + 1)) k
      rw [vl] at dl
      obtain ⟨v0, vs, ev⟩ : ∃ v0 vs, diffN k (valsM rows fi (rows.length + 1)) = v0 :: vs := by
        cases e : diffN k (valsM rows fi (rows.length + 1)) with
        | nil =>
          rw [e] at dl
          simp at dl
          omega
        | cons v0 vs => exact ⟨v0, vs, rfl⟩
      have b0 : Bd 5071 v0 := (diffN_bd vb k v0 (by rw [ev]; exact List.mem_cons_self)).mono (by omega)
      have bc := (choose_bd mb (k + 1) (by omega)).mono (show 252 * (k + 1) + 1 ≤ 8000 by omega)
      refine ⟨_, _, (eg_name 6 nd rfl (.inl rfl)), wb_cons (w_set 7 nd rfl (.inl rfl) (ev_add (ev_var 7 rfl (.inl rfl) rfl) (ev_mulW (i := v0) (ev_ixL (ev_var 5 rfl (.inl rfl) rfl) ev_int (by rw [ev]; exact atI_zero)) (ev_call (g_choose h) (la - fi + 1, k + 1) rfl (hr.mono (by decide)) (EvA.to (ds := [.int (la - fi + 1), .int ((k : Int) + 1)]) (ea_cons (ev_var 4 rfl (.inl rfl) rfl) (ea_cons (ev_add (ev_var 6 rfl (.inl rfl) rfl) ev_int) ea_nil)) (by rw [show ((k : Int) + 1) = ((k + 1 : Nat) : Int) by omega])) ⟨mb, by show k + 1 ≤ 30; omega⟩) (b0.wide bc (by decide) (by decide) (by decide)))) ?_)⟩
      have ez : zipD ((diffN k (valsM rows fi (rows.length + 1))).map D.int) (cutD ((diffN k (valsM rows fi (rows.length + 1))).map D.int) (some 1) none) = ((diffN k (valsM rows fi (rows.length + 1))).zip (diffN k (valsM rows fi (rows.length + 1))).tail).map encI2 := by
        rw [cut_tail, ← List.map_tail, zip_int]
      have ek2 : keepF (fun _ => true) (fun p : Int × Int => D.int (p.2 - p.1)) ((diffN k (valsM rows fi (rows.length + 1))).zip (diffN k (valsM rows fi (rows.length + 1))).tail) = (diffN (k + 1) (valsM rows fi (rows.length + 1))).map D.int := by
        rw [keep_all]
        show _ = (diffs _).map D.int
        unfold diffs
        rw [List.map_map]
        rfl
      refine wb_cons (w_lcN (enc := (encI2)) (p := (fun _ => true)) (f := (fun p => .int (p.2 - p.1))) (xs := ((diffN k (valsM rows fi (rows.length + 1))).zip (diffN k (valsM rows fi (rows.length + 1))).tail)) 5 rfl nd [("ahead", 8), ("after", 9)] rfl rfl (blk_of rfl) (EvI.to (ei_zip h.f_zip (ev_var 5 rfl (.inl rfl) rfl) (EvN.toE (en_slice (ev_var 5 rfl (.inl rfl) rfl) (eo_some ev_int) eo_none))) (ez)) ⟨fun x hx => ⟨_, _, by decide, fun _ _ _ _ _ => ⟨(eg_tup rfl (egs_cons (eg_name 8 nd rfl (.inl rfl)) (egs_cons (eg_name 9 nd rfl (.inl rfl)) egs_nil))), ets_nil, fun _ => (EvE.to (ev_sub (ev_var 9 rfl (.inl rfl) rfl) (ev_var 8 rfl (.inl rfl) rfl)) rfl)⟩⟩⟩ (by rw [List.length_zip]; omega) (wb_frz 5 rfl (wb_nil ⟨.va (.int (k : Int)), ?_⟩)) rfl)
      rw [ek2]
      show [_, _, _, _, _, _, _, Sl.va _, _, _] = [_, _, _, _, _, _, _, Sl.va (.int (foundM _ _ k + _ * _)), _, _]
      rw [ev]
      rfl
    · cases hd
  · rintro ρ1 ⟨s1, rfl⟩
    have e : (rngD ((rows.length : Int) + 1).toNat).length = rows.length + 1 := by
      unfold rngD
      rw [List.length_map, List.length_range]
      omega
    rw [e]
    refine wb_ret (ev_var 7 rfl (.inl rfl) rfl) ?_
    show _ = D.int (sumOfM rows fi la)
    unfold sumOfM
    rw [if_neg h1]
end
end PL
/-! W14: sum_to -/
namespace PL
open PySem PySem.Spec PyProof.Rows L2
def stopsM (first last : Int) (p : Int × Int) : List Int := [max p.1 1, p.2 + 1].filter fun x => decide (first < x) && decide (x ≤ last)
def placesM (rows : List (Int × Int)) (first last : Int) : List Int := ssetI ([first, last + 1] ++ rows.flatMap (stopsM first last))
def sumToM (rows : List (Int × Int)) (first last : Int) : Int := if first ≤ last then (((placesM rows first last).zip (placesM rows first last).tail).map fun p => sumOfM rows p.1 (p.2 - 1)).sum else 0
def RowsS (rows : List (Int × Int)) : Prop := rows.length ≤ 20 ∧ ∀ p ∈ rows, Bd 230 p.1 ∧ Bd 230 p.2
theorem RowsS.ok {rows : List (Int × Int)} (h : RowsS rows) : RowsOk rows := ⟨h.1, fun p hp => ⟨(h.2 p hp).1.mono (by decide), (h.2 p hp).2.mono (by decide)⟩⟩
theorem ssetI_lt (xs : List Int) : (ssetI xs).Pairwise (· < ·) := by
  have h1 : (ssetI xs).Pairwise (fun a b => leI a b = true) := List.pairwise_mergeSort leI_tr leI_tot _
  have h2 : (ssetI xs).Nodup := (List.mergeSort_perm _ _).nodup_iff.mpr (nodup_eraseDups _ xs (Nat.le_refl _))
  refine (List.Pairwise.and h1 h2).imp fun {a b} h => ?_
  have h3 : a ≤ b := of_decide_eq_true h.1
  have h4 : a ≠ b := h.2
  omega
theorem zip_lt : ∀ {xs : List Int}, xs.Pairwise (· < ·) → ∀ p ∈ xs.zip xs.tail, p.1 < p.2
  | [], _, p, hp => by simp at hp
  | [x], _, p, hp => by simp at hp
  | x :: y :: r, h, p, hp => by
    obtain ⟨h1, h2⟩ := List.pairwise_cons.mp h
    rcases List.mem_cons.mp (show p ∈ (x, y) :: (y :: r).zip r from hp) with e | hp
    · rw [e]
      exact h1 y List.mem_cons_self
    · exact zip_lt h2 p hp
theorem stops_next {rows : List (Int × Int)} {fi la : Int} {k : Nat} {p : Int × Int} (h : rows[k]? = some p) : (rows.take (k + 1)).flatMap (stopsM fi la) = (rows.take k).flatMap (stopsM fi la) ++ stopsM fi la p := by
  rw [take_next h, List.flatMap_append]
  simp
theorem stops_len (fi la : Int) : ∀ rows : List (Int × Int), (rows.flatMap (stopsM fi la)).length ≤ 2 * rows.length
  | [] => Nat.le_refl _
  | r :: rows => by
    have ih := stops_len fi la rows
    have h1 : (stopsM fi la r).length ≤ 2 := List.length_filter_le _ _
    rw [List.flatMap_cons, List.length_append, List.length_cons]
    omega
theorem places_bd {rows : List (Int × Int)} {fi la : Int} (h : RowsS rows) (h1 : Bd 230 fi) (h2 : Bd 230 la) : ∀ x ∈ placesM rows fi la, Bd 235 x := fun x hx => by
  have one : Bd 230 1 := by
    unfold Bd
    exact Nat.lt_of_lt_of_le (by decide : (1 : Int).natAbs < 2 ^ 5) (Nat.pow_le_pow_right (by decide) (by decide))
  unfold placesM at hx
  rw [ssetI_mem, List.mem_append] at hx
  rcases hx with hx | hx
  · rcases List.mem_cons.mp hx with e | hx
    · rw [e]
      exact h1.mono (by decide)
    · rw [List.mem_singleton.mp hx]
      exact (h2.add one).mono (by decide)
  · obtain ⟨p, hp, hx⟩ := List.mem_flatMap.mp hx
    have hx2 := (List.mem_filter.mp hx).1
    rcases List.mem_cons.mp hx2 with e | hx2
    · rw [e]
      have := (h.2 p hp).1
      unfold Bd at *
      have q : 2 ^ 235 = 32 * 2 ^ 230 := by decide +kernel
      rw [q]
      omega
    · rw [List.mem_singleton.mp hx2]
      exact ((h.2 p hp).2.add one).mono (by decide)
section
variable {c : Cn}
theorem g_sum_to (h : Hd c) : Good c "sum_to" 4 ["rows", "first", "last"] (SpP c.K (ca c.K) (fun y : List (Int × Int) × Int × Int => [.lst (y.1.map encI2), .int y.2.1, .int y.2.2]) (fun y => RowsS y.1 ∧ Bd 230 y.2.1 ∧ Bd 230 y.2.2) (fun y => .int (sumToM y.1 y.2.1 y.2.2))) := by
  refine good_def (N := ["rows", "first", "last", "places", "low", "high", "row", "place", "here", "after"]) h.d_sum_to ⟨rfl, rfl, rfl, by decide +kernel, rfl, by decide +kernel, by decide +kernel⟩ (fun _ _ _ _ _ _ us hl => match us, hl with | [_, _, _], _ => rfl) (fun _ => rfl) (by decide) ?_
  rintro f cdv A outer s H E hr ⟨rows, fi, la⟩ ⟨hy, hb1, hb2⟩
  have hy : RowsS rows := hy
  have hb1 : Bd 230 fi := hb1
  have hb2 : Bd 230 la := hb2
  have hl : rows.length ≤ 20 := hy.1
  have nd : (["rows", "first", "last", "places", "low", "high", "row", "place", "here", "after"] : List Str).Nodup := by decide +kernel
  refine wb_cons (w_setN 3 nd rfl (.inl rfl) (en_lst (ea_cons (ev_var 1 rfl (.inr (.inl rfl)) rfl) (ea_cons (ev_add (ev_var 2 rfl (.inr (.inl rfl)) rfl) ev_int) ea_nil))) ?_)
  have e1 : keepF (fun _ => true) encI2 rows = rows.map encI2 := keep_all _ _
  refine wb_cons (w_for (ds := rows.map encI2) (fun _ _ h => h.elim) rfl (ei_lst (EvN.toE (EvN.to (en_lc (enc := (encI2)) (p := (fun _ => true)) (f := (encI2)) (xs := (rows)) rfl nd [("row", 6)] (blk_of rfl) (ei_lst (ev_var 0 rfl (.inr (.inl rfl)) rfl)) ⟨fun x hx => ⟨_, _, by decide, fun _ _ _ _ _ => ⟨(eg_name 6 nd rfl (.inl rfl)), (ets_one (EvT.to (et_notN (ev_ixT (ev_var 6 rfl (.inl rfl) rfl) ev_int rfl)) rfl)), fun _ => (EvE.to (ev_var 6 rfl (.inl rfl) rfl) rfl)⟩⟩⟩ (by omega)) e1))) (fun k ρ1 => ∃ s1 s2 : Sl, ρ1 = [.va (.lst (rows.map encI2)), .va (.int fi), .va (.int la), .ow (([fi, la + 1] ++ (rows.take k).flatMap (stopsM fi la)).map D.int), s1, s2, .un, .un, .un, .un]) ⟨.un, .un, rfl⟩ ?_ ?_)
  · rintro k d ρ1 hd ⟨s1, s2, rfl⟩
    obtain ⟨p, hp, rfl⟩ := map_at hd
    have e2 : keepF (fun x : Int => decide (fi < x) && decide (x ≤ la)) D.int [max p.1 1, p.2 + 1] = (stopsM fi la p).map D.int := rfl
    have sl := stops_len fi la (rows.take k)
    rw [List.length_take] at sl
    have sl2 : (stopsM fi la p).length ≤ 2 := List.length_filter_le _ _
    refine ⟨_, _, (eg_tup rfl (egs_cons (eg_name 4 nd rfl (.inl rfl)) (egs_cons (eg_name 5 nd rfl (.inl rfl)) egs_nil))), wb_cons (w_extend 3 rfl (.inl rfl) rfl (EvN.toE (EvN.to (en_lc (enc := (D.int)) (p := (fun x => decide (fi < x) && decide (x ≤ la))) (f := (D.int)) (xs := ([max p.1 1, p.2 + 1])) rfl nd [("place", 7)] (blk_of rfl) (ei_tup (ev_tup (ea_cons (ev_max2 rfl h.f_max (ev_var 4 rfl (.inl rfl) rfl) ev_int) (ea_cons (ev_add (ev_var 5 rfl (.inl rfl) rfl) ev_int) ea_nil)))) ⟨fun x hx => ⟨_, _, by decide, fun _ _ _ _ _ => ⟨(eg_name 7 nd rfl (.inl rfl)), (ets_one (EvT.to (et_chain op_lt' op_le' (ev_var 1 rfl (.inr (.inl rfl)) rfl) (ev_var 7 rfl (.inl rfl) rfl) (ev_var 2 rfl (.inr (.inl rfl)) rfl)) rfl)), fun _ => (EvE.to (ev_var 7 rfl (.inl rfl) rfl) rfl)⟩⟩⟩ (Nat.le_of_ble_eq_true rfl)) e2)) (by rw [List.length_map, List.length_map, List.length_append]; simp only [List.length_cons, List.length_nil]; omega) (wb_nil ⟨.va (.int p.1), .va (.int p.2), ?_⟩))⟩
    show [_, _, _, Sl.ow _, _, _, _, _, _, _] = _
    rw [stops_next hp, ← List.append_assoc]
    simp only [List.map_append]
  · rintro ρ1 ⟨s1, s2, rfl⟩
    rw [List.length_map, List.take_length]
    have sl := stops_len fi la rows
    refine wb_frz 3 rfl (wb_cons (w_setN 3 nd rfl (.inl rfl) (en_ssetI rfl hr.units h.f_sorted h.f_set (ev_var 3 rfl (.inl rfl) rfl) (.inl rfl) (by rw [List.length_append]; simp only [List.length_cons, List.length_nil]; omega)) (wb_frz 3 rfl ?_)))
    have pl : (placesM rows fi la).length ≤ 42 := by
      have q := ssetI_len ([fi, la + 1] ++ rows.flatMap (stopsM fi la))
      rw [List.length_append] at q
      simp only [List.length_cons, List.length_nil] at q
      unfold placesM
      omega
    have pb := places_bd hy hb1 hb2
    have ez : zipD ((placesM rows fi la).map D.int) (cutD ((placesM rows fi la).map D.int) (some 1) none) = ((placesM rows fi la).zip (placesM rows fi la).tail).map encI2 := by
      rw [cut_tail, ← List.map_tail, zip_int]
    have ek : keepF (fun _ => true) (fun p : Int × Int => D.int (sumOfM rows p.1 (p.2 - 1))) ((placesM rows fi la).zip (placesM rows fi la).tail) = (((placesM rows fi la).zip (placesM rows fi la).tail).map fun p => sumOfM rows p.1 (p.2 - 1)).map D.int := by
      rw [keep_all, List.map_map]
      rfl
    have pre : ∀ p ∈ (placesM rows fi la).zip (placesM rows fi la).tail, RowsOk rows ∧ Bd 240 p.1 ∧ Bd 240 (p.2 - 1) ∧ p.1 ≤ p.2 - 1 := fun p hp => by
      obtain ⟨q1, q2⟩ := List.of_mem_zip (a := p.1) (b := p.2) hp
      have q3 := zip_lt (ssetI_lt _) p hp
      refine ⟨hy.ok, (pb _ q1).mono (by decide), ((pb _ (List.mem_of_mem_tail q2)).sub (show Bd 235 1 by unfold Bd; exact Nat.lt_of_lt_of_le (by decide : (1 : Int).natAbs < 2 ^ 5) (Nat.pow_le_pow_right (by decide) (by decide)))).mono (by decide), by omega⟩
    refine wb_ret (ev_ite (et_ge (ev_var 2 rfl (.inr (.inl rfl)) rfl) (ev_var 1 rfl (.inr (.inl rfl)) rfl)) (fun _ => (ev_sum rfl h.f_sum (EvE.to (EvN.toE (en_lc (enc := (encI2)) (p := (fun _ => true)) (f := (fun p => .int (sumOfM rows p.1 (p.2 - 1)))) (xs := ((placesM rows fi la).zip (placesM rows fi la).tail)) rfl nd [("here", 8), ("after", 9)] (blk_of rfl) (EvI.to (ei_zip h.f_zip (ev_var 3 rfl (.inl rfl) rfl) (EvN.toE (en_slice (ev_var 3 rfl (.inl rfl) rfl) (eo_some ev_int) eo_none))) (ez)) ⟨fun x hx => ⟨_, _, by decide, fun _ _ _ _ _ => ⟨(eg_tup rfl (egs_cons (eg_name 8 nd rfl (.inl rfl)) (egs_cons (eg_name 9 nd rfl (.inl rfl)) egs_nil))), ets_nil, fun _ => (EvE.to (ev_call (g_sum_of h) ((rows, x.1, x.2 - 1)) rfl (hr.mono (by decide)) (ea_cons (ev_var 0 rfl (.inr (.inl rfl)) rfl) (ea_cons (ev_var 8 rfl (.inl rfl) rfl) (ea_cons (ev_sub (ev_var 9 rfl (.inl rfl) rfl) ev_int) ea_nil))) (pre x hx)) rfl)⟩⟩⟩ (by rw [List.length_zip]; omega))) (congrArg D.lst ek)))) (fun _ => ev_int)) ?_
    show (if decide (fi ≤ la) = true then D.int _ else D.int 0) = D.int (sumToM rows fi la)
    unfold sumToM
    by_cases hle : fi ≤ la
    · rw [if_pos (decide_eq_true hle), if_pos hle]
    · rw [if_neg (by simpa using hle), if_neg hle]
end
end PL
/-! W15: Between, its counts -/
namespace PL
open PySem PySem.Spec PyProof.Rows L2
structure Bt where
  lo : Fm
  hi : Fm
  ns : List Str
def Bt.enc (b : Bt) : D := .btw (encF b.lo) (encF b.hi) b.ns
def Bt.l (b : Bt) (n : Str) : Int := (entryM b.lo n).2.getD 0
def Bt.u (b : Bt) (n : Str) : Int := (entryM b.hi n).2.getD 0
def Bt.il (b : Bt) (n : Str) : Bool := (entryM b.lo n).1.isSome
def Bt.iu (b : Bt) (n : Str) : Bool := (entryM b.hi n).1.isSome
def Bt.top (b : Bt) : Int := (heightM b.hi).getD 0
/-- all rooms are ints, not too wide -/
structure Bt.Ok (b : Bt) : Prop where
  l1 : b.lo.1.length ≤ 15
  l2 : b.hi.1.length ≤ 15
  l3 : b.ns.length ≤ 8
  li : ∀ n ∈ b.ns, (entryM b.lo n).2 = some (b.l n) ∧ Bd 200 (b.l n)
  ui : ∀ n ∈ b.ns, (entryM b.hi n).2 = some (b.u n) ∧ Bd 200 (b.u n)
  hl : ∃ r, heightM b.lo = some r
  hh : heightM b.hi = some b.top ∧ Bd 200 b.top
theorem sideL {b : Bt} (h : b.Ok) {n : Str} (hn : n ∈ b.ns) : encP (sideM b.lo n) = .tup [.bl (b.il n), .int (b.l n)] := by
  unfold encP sideM
  rw [(h.li n hn).1]
  rfl
theorem sideU {b : Bt} (h : b.Ok) {n : Str} (hn : n ∈ b.ns) : encP (sideM b.hi n) = .tup [.bl (b.iu n), .int (b.u n)] := by
  unfold encP sideM
  rw [(h.ui n hn).1]
  rfl
def lotStep (b : Bt) (fs : List (List Str)) (n : Str) : List (List Str) := if b.il n = true then fs.map (· ++ [n]) else if b.iu n = true then fs ++ fs.map (· ++ [n]) else fs
def lots0 (b : Bt) (ns : List Str) : List (List Str) := ns.foldl (lotStep b) [[]]
def leL (x y : List Str) : Bool := leD (encNt x) (encNt y)
def lotsM (b : Bt) : List (List Str) := ((lots0 b b.ns).filter fun x => decide (0 < (x.length : Int))).mergeSort leL
def rowsM (b : Bt) (lot : List Str) : List (Int × Int) := (b.ns.filter fun n => !decide (n ∈ lot)).map fun n => (b.l n, b.u n)
def firstM (b : Bt) (lot : List Str) : Int := lot.foldl (fun a n => if a ≤ b.l n then b.l n else a) 0
def manyM (b : Bt) (lot : List Str) (last : Int) : Int := sumToM (rowsM b lot) (firstM b lot) last
def inAllM (b : Bt) : Int := if withinM b.lo b.hi = true then (if b.lo = nothingM then 1 else 0) + ((lotsM b).map fun lot => manyM b lot b.top).sum else 0
theorem alike_strs : ∀ xs ys : List Str, PySem.W.alikeAll (D.pys (xs.map D.str)) (D.pys (ys.map D.str)) = true
  | [], ys => by
    show PySem.W.alikeAll [] _ = true
    simp [PySem.W.alikeAll]
  | x :: xs, [] => by
    show PySem.W.alikeAll (_ :: _) [] = true
    simp [PySem.W.alikeAll]
  | x :: xs, y :: ys => by
    show PySem.W.alikeAll (PyData.str x :: _) (PyData.str y :: _) = true
    rw [PySem.W.alikeAll, alike_strs xs ys]
    simp [PySem.W.alike]
theorem lots_next {b : Bt} {ns : List Str} {k : Nat} {n : Str} (h : ns[k]? = some n) : lots0 b (ns.take (k + 1)) = lotStep b (lots0 b (ns.take k)) n := by
  unfold lots0
  rw [take_next h, List.foldl_append]
  rfl
theorem lots_len (b : Bt) (ns : List Str) : ∀ k, k ≤ ns.length → (lots0 b (ns.take k)).length ≤ 2 ^ k ∧ ∀ x ∈ lots0 b (ns.take k), x.length ≤ k := by
  intro k
  induction k with
  | zero =>
    intro _
    refine ⟨Nat.le_refl _, fun x hx => ?_⟩
    have hx : x ∈ ([[]] : List (List Str)) := hx
    rw [List.mem_singleton.mp hx]
    exact Nat.le_refl _
  | succ k ih =>
    intro hk
    obtain ⟨h1, h2⟩ := ih (by omega)
    rw [lots_next (List.getElem?_eq_getElem (by omega : k < ns.length)), Nat.pow_succ]
    unfold lotStep
    split
    · refine ⟨by rw [List.length_map]; omega, fun x hx => ?_⟩
      obtain ⟨y, hy, rfl⟩ := List.mem_map.mp hx
      have := h2 y hy
      rw [List.length_append, List.length_singleton]
      omega
    · split
      · refine ⟨by rw [List.length_append, List.length_map]; omega, fun x hx => ?_⟩
        rcases List.mem_append.mp hx with hx | hx
        · exact Nat.le_succ_of_le (h2 x hx)
        · obtain ⟨y, hy, rfl⟩ := List.mem_map.mp hx
          have := h2 y hy
          rw [List.length_append, List.length_singleton]
          omega
      · exact ⟨by omega, fun x hx => Nat.le_succ_of_le (h2 x hx)⟩
theorem encNt_pl (x : List Str) : (encNt x).pl = true := pls_map (fun _ => rfl) x
theorem encNt_dp (x : List Str) : (encNt x).py.depth ≤ 1 := by
  unfold encNt
  rw [dp_tup]
  have := dps_map (enc := D.str) (n := 0) (fun a => Nat.le_of_eq (dp_str a)) x
  omega
section
variable {c : Cn}
theorem init_Btw (h : Hd c) : InitOk c (CB c) "Between.__init__" (inClass (top 74) 0) ["self", "low", "high", "names"] 1 (fun y : Fm × Fm × Bool × List Str => [encF y.1, encF y.2.1, if y.2.2.1 = true then encNs y.2.2.2 else encNt y.2.2.2]) (fun y => y.2.2.2.length < 64) (fun y => (Bt.mk y.1 y.2.1 (ssetS y.2.2.2)).enc) := by
  rintro f cdv A outer s H0 E hr ⟨F, G, b, ns⟩ hl B H x dx σ hρ De hde
  have hl : ns.length < 64 := hl
  have hr : Room 1 (bodyX c ["self", "low", "high", "names"] "Between.__init__" (defScope (inClass (top 74) 0)) f cdv A outer s H0 E).A := hr
  refine ws (pss_cons ps_ws1 pss_ws) (w_fld2I (i := 0) rfl rfl (.inl rfl) rfl h.c_Between h.n_Between_own_low h.n_Between_own_high (ev_tup (ea_cons (ev_var 1 rfl (.inl rfl) rfl) (ea_cons (ev_var 2 rfl (.inl rfl) rfl) ea_nil))) hρ (by decide) fun v w B1 H1 eb rv rw1 hρ1 => ?_)
  refine ws (pss_cons ps_ws1 pss_ws) (w_fldI (i := 0) (d := encNt (ssetS ns)) rfl (.inl rfl) rfl h.c_Between h.n_Between_own_names ?e hρ1 (Nat.le_of_ble_eq_true rfl) fun u B2 H2 eb2 ru hρ2 => ws pss_nil (init_end hρ2 (fun B3 e3 hx3 => .btw hx3 (rv.mono (eb2.trans e3)) (rw1.mono (eb2.trans e3)) (ru.mono e3)) hde))
  cases b with
  | true => exact (ev_tupleL h.f_tuple (EvN.toE (en_ssetS rfl hr.units h.f_sorted h.f_set (ev_var 3 rfl (.inl rfl) rfl) (.inl rfl) (hl))) (.inl rfl))
  | false => exact (ev_tupleL h.f_tuple (EvN.toE (en_ssetS rfl hr.units h.f_sorted h.f_set (ev_var 3 rfl (.inl rfl) rfl) (.inr rfl) (hl))) (.inl rfl))
theorem i_btw (h : Hd c) : GoodI c (CB c) 2 [] (SpI c.K (ca c.K) (CB c) (fun y : Fm × Fm × Bool × List Str => [encF y.1, encF y.2.1, if y.2.2.1 = true then encNs y.2.2.2 else encNt y.2.2.2]) (fun y => y.2.2.2.length < 64) (fun y => (Bt.mk y.1 y.2.1 (ssetS y.2.2.2)).enc)) :=
  good_init (n := 0) (N := ["self", "low", "high", "names"]) (ps := ["self", "low", "high", "names"]) (init_n h.i_Between (fun _ _ _ _ _ _ us hl => match us, hl with | [_, _, _, _], _ => rfl)) ⟨rfl, rfl, rfl, by decide +kernel, rfl, by decide +kernel, by decide +kernel⟩ (fun _ => rfl) (by decide) (init_Btw h)
theorem g_lots (h : Hd c) : GoodM c (CB c) "lots" 4 ["self"] (SpP c.K (ca c.K) (fun y : Bt => [y.enc]) Bt.Ok (fun y => .lst ((lotsM y).map encNt))) := by
  refine good_meth (N := ["self", "found", "name", "own"]) h.m_Between_lots ⟨rfl, rfl, rfl, by decide +kernel, rfl, by decide +kernel, by decide +kernel⟩ (fun _ _ _ _ _ _ us hl => match us, hl with | [_], _ => rfl) (fun _ => rfl) (by decide) ?_
  rintro f cdv A outer s H E hr b hy
  have nd : (["self", "found", "name", "own"] : List Str).Nodup := by decide +kernel
  have l3 := hy.l3
  have p8 : ∀ k, k ≤ 8 → 2 ^ k ≤ 256 := fun k hk => Nat.le_trans (Nat.pow_le_pow_right (by decide) hk) (by decide)
  refine wb_cons (w_setN 1 nd rfl (.inl rfl) (en_lst (ea_cons (ev_tup ea_nil) ea_nil)) (wb_frz 1 rfl ?_))
  refine wb_cons (w_for (fun _ _ h => h.elim) rfl (ei_tup (ev_fld h.c_Between h.n_Between_own_names (ev_var 0 rfl (.inl rfl) rfl) (.btw ..) rfl)) (fun k ρ1 => ∃ s1 : Sl, ρ1 = [.va b.enc, .va (.lst ((lots0 b (b.ns.take k)).map encNt)), s1, .un]) ⟨_, rfl⟩ ?_ ?_)
  · rintro k d ρ1 hd ⟨s1, rfl⟩
    obtain ⟨n, hn, rfl⟩ := map_at hd
    have hm : n ∈ b.ns := List.mem_of_getElem? hn
    have hk : k < b.ns.length := (List.getElem?_eq_some_iff.mp hn).1
    obtain ⟨ll, lm⟩ := lots_len b b.ns k (by omega)
    have pk := p8 k (by omega)
    have ek : keepF (fun _ => true) (fun x : List Str => encNt (x ++ [n])) (lots0 b (b.ns.take k)) = ((lots0 b (b.ns.take k)).map (· ++ [n])).map encNt := by
      rw [keep_all, List.map_map]
      rfl
    have nx := lots_next (b := b) hn
    refine ⟨_, _, (eg_name 2 nd rfl (.inr rfl)), wb_cons (w_if (z := b.il n) (et_val (ev_ixT (EvE.to (ev_call (g_side h) ((b.lo, n)) rfl (hr.mono (by decide)) (ea_cons (ev_fld h.c_Between h.n_Between_own_low (ev_var 0 rfl (.inl rfl) rfl) (.btw ..) rfl) (ea_cons (ev_var 2 rfl (.inr (.inl rfl)) rfl) ea_nil)) trivial) (sideL hy hm)) ev_int rfl)) (fun h1 => ?_) fun h1 => ?_)⟩
    · refine wb_cons (w_lcN (enc := (encNt)) (p := (fun _ => true)) (f := (fun x => encNt (x ++ [n]))) (xs := (lots0 b (b.ns.take k))) 1 rfl nd [("own", 3)] rfl rfl (blk_of rfl) (ei_lst (ev_var 1 rfl (.inl rfl) rfl)) ⟨fun x hx => ⟨_, _, by decide, fun _ _ _ _ _ => ⟨(eg_name 3 nd rfl (.inl rfl)), ets_nil, fun _ => (EvE.to (ev_tup (ea_star (ev_var 3 rfl (.inl rfl) rfl) (.inr rfl) (ea_cons (ev_var 2 rfl (.inr (.inl rfl)) rfl) ea_nil)) (by have := lm x hx; rw [List.length_append, List.length_map]; simp only [List.length_cons, List.length_nil]; omega)) (by unfold encNt; rw [List.map_append]; rfl))⟩⟩⟩ (by omega) (wb_frz 1 rfl (wb_nil (wb_nil ⟨.va (.str n), ?_⟩))) rfl)
      rw [ek, nx]
      unfold lotStep
      rw [if_pos h1]
      rfl
    · refine wb_cons (w_if (z := b.iu n) (et_val (ev_ixT (EvE.to (ev_call (g_side h) ((b.hi, n)) rfl (hr.mono (by decide)) (ea_cons (ev_fld h.c_Between h.n_Between_own_high (ev_var 0 rfl (.inl rfl) rfl) (.btw ..) rfl) (ea_cons (ev_var 2 rfl (.inr (.inl rfl)) rfl) ea_nil)) trivial) (sideU hy hm)) ev_int rfl)) (fun h2 => ?_) fun h2 => ?_)
      · refine wb_cons (w_setN 1 nd rfl (.inl rfl) (EvN.to (en_cat (ev_var 1 rfl (.inl rfl) rfl) (EvN.toE (en_lc (enc := (encNt)) (p := (fun _ => true)) (f := (fun x => encNt (x ++ [n]))) (xs := (lots0 b (b.ns.take k))) rfl nd [("own", 3)] (blk_of rfl) (ei_lst (ev_var 1 rfl (.inl rfl) rfl)) ⟨fun x hx => ⟨_, _, by decide, fun _ _ _ _ _ => ⟨(eg_name 3 nd rfl (.inl rfl)), ets_nil, fun _ => (EvE.to (ev_tup (ea_star (ev_var 3 rfl (.inl rfl) rfl) (.inr rfl) (ea_cons (ev_var 2 rfl (.inr (.inl rfl)) rfl) ea_nil)) (by have := lm x hx; rw [List.length_append, List.length_map]; simp only [List.length_cons, List.length_nil]; omega)) (by unfold encNt; rw [List.map_append]; rfl))⟩⟩⟩ (by omega))) (by rw [ek, List.length_map, List.length_map, List.length_map]; omega)) (show _ = (lots0 b (b.ns.take k) ++ (lots0 b (b.ns.take k)).map (· ++ [n])).map encNt by rw [ek, List.map_append])) (wb_frz 1 rfl (wb_nil (wb_nil (wb_nil ⟨.va (.str n), ?_⟩)))))
        rw [nx]
        unfold lotStep
        rw [if_neg (by rw [h1]; exact Bool.false_ne_true), if_pos h2]
        rfl
      · refine wb_nil (wb_nil (wb_nil ⟨.va (.str n), ?_⟩))
        rw [nx]
        unfold lotStep
        rw [if_neg (by rw [h1]; exact Bool.false_ne_true), if_neg (by rw [h2]; exact Bool.false_ne_true)]
        rfl
  · rintro ρ1 ⟨s1, rfl⟩
    rw [List.length_map, List.take_length]
    obtain ⟨ll, lm⟩ := lots_len b b.ns b.ns.length (Nat.le_refl _)
    rw [List.take_length] at ll lm
    have pk := p8 b.ns.length l3
    have lf := List.length_filter_le (fun x : List Str => decide (0 < (x.length : Int))) (lots0 b b.ns)
    have ne : ∀ x ∈ (lots0 b b.ns).filter (fun x => decide (0 < (x.length : Int))), x ≠ [] := fun x hx e => by
      have h2 := (List.mem_filter.mp hx).2
      rw [e] at h2
      exact absurd h2 (by decide)
    refine wb_ret (EvN.toE (en_sorted rfl hr.units h.f_sorted (EvN.toE (EvN.to (ds' := ((lots0 b b.ns).filter fun x => decide (0 < (x.length : Int))).map encNt) (en_lc (enc := (encNt)) (p := (fun x => decide (0 < (x.length : Int)))) (f := (encNt)) (xs := (lots0 b b.ns)) rfl nd [("own", 3)] (blk_of rfl) (ei_lst (ev_var 1 rfl (.inl rfl) rfl)) ⟨fun x hx => ⟨_, _, by decide, fun _ _ _ _ _ => ⟨(eg_name 3 nd rfl (.inl rfl)), (ets_one (EvT.to (et_gt (ev_len h.f_len (ev_var 3 rfl (.inl rfl) rfl) (.inr rfl)) ev_int) (by rw [List.length_map]))), fun _ => (EvE.to (ev_var 3 rfl (.inl rfl) rfl) rfl)⟩⟩⟩ (by omega)) rfl)) ?pl ?al ?so ?dp (by rw [List.length_map]; omega))) ?_
    case pl =>
      intro d hd
      obtain ⟨x, _, rfl⟩ := List.mem_map.mp hd
      exact encNt_pl x
    case al =>
      intro d hd d' hd'
      obtain ⟨x, hx, rfl⟩ := List.mem_map.mp hd
      obtain ⟨y, hy, rfl⟩ := List.mem_map.mp hx
      obtain ⟨x', hx', rfl⟩ := List.mem_map.mp hd'
      obtain ⟨y', hy', rfl⟩ := List.mem_map.mp hx'
      exact alike_strs y y'
    case so =>
      refine .inl fun d hd => ?_
      obtain ⟨x, hx, rfl⟩ := List.mem_map.mp hd
      obtain ⟨y, hy, rfl⟩ := List.mem_map.mp hx
      cases y with
      | nil => exact absurd rfl (ne _ hy)
      | cons z zs => exact ⟨_, _, rfl⟩
    case dp =>
      intro d hd
      obtain ⟨x, _, rfl⟩ := List.mem_map.mp hd
      exact Nat.le_trans (encNt_dp x) (by decide)
    · show D.lst _ = D.lst ((lotsM b).map encNt)
      unfold lotsM
      rw [List.map_mergeSort (r := leL) (s := leD) (f := encNt) (fun _ _ _ _ => rfl)]
end
end PL
/-! W16: Between's counts -/
namespace PL
open PySem PySem.Spec PyProof.Rows L2
theorem first_next {b : Bt} {lot : List Str} {k : Nat} {n : Str} (h : lot[k]? = some n) : firstM b (lot.take (k + 1)) = (if firstM b (lot.take k) ≤ b.l n then b.l n else firstM b (lot.take k)) := by
  unfold firstM
  rw [take_next h, List.foldl_append]
  rfl
theorem greater_int (a b : Int) : greaterM (some a) (some b) = some (if a ≤ b then b else a) := by
  unfold greaterM mostM
  by_cases h : a ≤ b
  · rw [if_pos (decide_eq_true h), if_pos h]
  · rw [if_neg (by simpa using h), if_neg h]
theorem rowsM_ok {b : Bt} (h : b.Ok) (lot : List Str) : RowsS (rowsM b lot) := by
  have h3 := h.l3
  unfold rowsM
  refine ⟨?_, fun p hp => ?_⟩
  · rw [List.length_map]
    have := List.length_filter_le (fun n => !decide (n ∈ lot)) b.ns
    omega
  · obtain ⟨n, hn, rfl⟩ := List.mem_map.mp hp
    have hm := (List.mem_filter.mp hn).1
    exact ⟨(h.li n hm).2.mono (by decide), (h.ui n hm).2.mono (by decide)⟩
theorem first_bd {b : Bt} (h : b.Ok) {lot : List Str} (hl : ∀ n ∈ lot, n ∈ b.ns) : ∀ k, k ≤ lot.length → Bd 200 (firstM b (lot.take k)) := by
  intro k
  induction k with
  | zero =>
    intro _
    exact (show Bd 200 0 by unfold Bd; decide)
  | succ k ih =>
    intro hk
    have hx : lot[k]? = some lot[k] := List.getElem?_eq_getElem (by omega)
    rw [first_next hx]
    split
    · exact (h.li _ (hl _ (List.getElem_mem _))).2
    · exact ih (by omega)
section
variable {c : Cn}
theorem g_rows_for (h : Hd c) : GoodM c (CB c) "rows_for" 4 ["self", "lot"] (SpP c.K (ca c.K) (fun y : Bt × List Str => [y.1.enc, encNt y.2]) (fun y => y.1.Ok) (fun y => .lst ((rowsM y.1 y.2).map encI2))) := by
  refine good_meth (N := ["self", "lot", "name"]) h.m_Between_rows_for ⟨rfl, rfl, rfl, by decide +kernel, rfl, by decide +kernel, by decide +kernel⟩ (fun _ _ _ _ _ _ us hl => match us, hl with | [_, _], _ => rfl) (fun _ => rfl) (by decide) ?_
  rintro f cdv A outer s H E hr ⟨b, lot⟩ hy
  have hy : b.Ok := hy
  have l3 := hy.l3
  have nd : (["self", "lot", "name"] : List Str).Nodup := by decide +kernel
  refine wb_ret (EvN.toE (EvN.to (en_lc (enc := D.str) (p := fun n => !decide (n ∈ lot)) (f := fun n => encI2 (b.l n, b.u n)) (xs := b.ns) rfl nd [("name", 2)] (blk_of rfl) (ei_tup (ev_fld h.c_Between h.n_Between_own_names (ev_var 0 rfl (.inr (.inl rfl)) rfl) (.btw ..) rfl)) ⟨fun x hx => ?turn⟩ (by omega)) ?e)) rfl
  case turn =>
    exact ⟨_, _, by decide, fun _ _ _ _ _ => ⟨eg_name 2 nd rfl (.inl rfl), ets_one (EvT.to (et_notIn (v := .str x) (vs := lot.map V.str) (ev_var 2 rfl (.inl rfl) rfl) (ev_var 1 rfl (.inr (.inl rfl)) rfl) rfl (.inr rfl) (fvs_strs _)) (by rw [inV_strs])), fun _ => EvE.to (ev_tup (ea_cons (ev_ixT (EvE.to (ev_call (g_side h) (b.lo, x) rfl (hr.mono (by decide)) (ea_cons (ev_fld h.c_Between h.n_Between_own_low (ev_var 0 rfl (.inr (.inl rfl)) rfl) (.btw ..) rfl) (ea_cons (ev_var 2 rfl (.inl rfl) rfl) ea_nil)) trivial) (sideL hy hx)) ev_int rfl) (ea_cons (ev_ixT (EvE.to (ev_call (g_side h) (b.hi, x) rfl (hr.mono (by decide)) (ea_cons (ev_fld h.c_Between h.n_Between_own_high (ev_var 0 rfl (.inr (.inl rfl)) rfl) (.btw ..) rfl) (ea_cons (ev_var 2 rfl (.inl rfl) rfl) ea_nil)) trivial) (sideU hy hx)) ev_int rfl) ea_nil))) rfl⟩⟩
  case e =>
    unfold keepF rowsM
    rw [List.map_map]
    rfl
theorem g_first_for (h : Hd c) : GoodM c (CB c) "first_for" 4 ["self", "lot"] (SpP c.K (ca c.K) (fun y : Bt × List Str => [y.1.enc, encNt y.2]) (fun y => y.1.Ok ∧ (∀ n ∈ y.2, n ∈ y.1.ns)) (fun y => .int (firstM y.1 y.2))) := by
  refine good_meth (N := ["self", "lot", "found", "name"]) h.m_Between_first_for ⟨rfl, rfl, rfl, by decide +kernel, rfl, by decide +kernel, by decide +kernel⟩ (fun _ _ _ _ _ _ us hl => match us, hl with | [_, _], _ => rfl) (fun _ => rfl) (by decide) ?_
  rintro f cdv A outer s H E hr ⟨b, lot⟩ ⟨hy, hs⟩
  have hy : b.Ok := hy
  have hs : ∀ n ∈ lot, n ∈ b.ns := hs
  have nd : (["self", "lot", "found", "name"] : List Str).Nodup := by decide +kernel
  refine wb_cons (w_set 2 nd rfl (.inl rfl) ev_int ?_)
  refine wb_cons (w_for (fun _ _ h => h.elim) rfl (ei_tup (ev_var 1 rfl (.inl rfl) rfl)) (fun k ρ1 => ∃ s1 : Sl, ρ1 = [.va b.enc, .va (encNt lot), .va (.int (firstM b (lot.take k))), s1]) ⟨_, rfl⟩ ?_ ?_)
  · rintro k d ρ1 hd ⟨s1, rfl⟩
    obtain ⟨n, hn, rfl⟩ := map_at hd
    have hm : n ∈ b.ns := hs n (List.mem_of_getElem? hn)
    refine ⟨_, _, (eg_name 3 nd rfl (.inl rfl)), wb_cons (w_set 2 nd rfl (.inl rfl) (EvE.to (ev_call (g_greater h) (some (firstM b (lot.take k)), some (b.l n)) rfl (hr.mono (by decide)) (ea_cons (ev_var 2 rfl (.inl rfl) rfl) (ea_cons (ev_ixT (EvE.to (ev_call (g_side h) ((b.lo, n)) rfl (hr.mono (by decide)) (ea_cons (ev_fld h.c_Between h.n_Between_own_low (ev_var 0 rfl (.inl rfl) rfl) (.btw ..) rfl) (ea_cons (ev_var 3 rfl (.inl rfl) rfl) ea_nil)) trivial) (sideL hy hm)) ev_int rfl) ea_nil)) trivial) ?_) (wb_nil ⟨.va (.str n), rfl⟩))⟩
    show encO (greaterM _ _) = _
    rw [greater_int, first_next hn]
    rfl
  · rintro ρ1 ⟨s1, rfl⟩
    rw [List.length_map, List.take_length]
    exact wb_ret (ev_var 2 rfl (.inl rfl) rfl) rfl
theorem g_last_for (h : Hd c) : GoodM c (CB c) "last_for" 2 ["self"] (SpP c.K (ca c.K) (fun y : Bt => [y.enc]) (fun y => y.Ok) (fun y => .int y.top)) := by
  refine good_meth (N := ["self"]) h.m_Between_last_for ⟨rfl, rfl, rfl, by decide +kernel, rfl, by decide +kernel, by decide +kernel⟩ (fun _ _ _ _ _ _ us hl => match us, hl with | [_], _ => rfl) (fun _ => rfl) (by decide) ?_
  rintro f cdv A outer s H E hr b hy
  have l2 : b.hi.1.length ≤ 40 := Nat.le_trans hy.l2 (by decide)
  refine wb_ret (ev_call (g_height_in h) (b.hi) rfl (hr.mono (by decide)) (ea_cons (ev_fld h.c_Between h.n_Between_own_high (ev_var 0 rfl (.inl rfl) rfl) (.btw ..) rfl) ea_nil) (l2)) ?_
  show encO (heightM b.hi) = .int b.top
  rw [hy.hh.1]
  rfl
theorem g_is_endless (h : Hd c) : GoodM c (CB c) "is_endless" 4 ["self"] (SpP c.K (ca c.K) (fun y : Bt => [y.enc]) (fun y => y.Ok) (fun _ => .bl false)) := by
  refine good_meth (N := ["self", "pairs", "name", "near", "far"]) h.m_Between_is_endless ⟨rfl, rfl, rfl, by decide +kernel, rfl, by decide +kernel, by decide +kernel⟩ (fun _ _ _ _ _ _ us hl => match us, hl with | [_], _ => rfl) (fun _ => rfl) (by decide) ?_
  rintro f cdv A outer s H E hr b hy
  have hy : b.Ok := hy
  have l3 := hy.l3
  have l1 : b.lo.1.length ≤ 40 := Nat.le_trans hy.l1 (by decide)
  obtain ⟨r, hr1⟩ := hy.hl
  have nd : (["self", "pairs", "name", "near", "far"] : List Str).Nodup := by decide +kernel
  refine wb_cons (w_if (EvT.to (et_isN (ev_call (g_height_in h) (b.lo) rfl (hr.mono (by decide)) (ea_cons (ev_fld h.c_Between h.n_Between_own_low (ev_var 0 rfl (.inr (.inl rfl)) rfl) (.btw ..) rfl) ea_nil) (l1))) (show (encO (heightM b.lo)).isNon = false by rw [hr1]; rfl)) (fun h1 => nomatch h1) fun _ => wb_nil ?_)
  refine wb_cons (w_lcN (enc := D.str) (p := fun _ => true) (f := fun n => encI2 (b.l n, b.u n)) (xs := b.ns) 1 rfl nd [("name", 2)] rfl rfl (blk_of rfl) (ei_tup (ev_fld h.c_Between h.n_Between_own_names (ev_var 0 rfl (.inr (.inl rfl)) rfl) (.btw ..) rfl)) ⟨fun x hx => ?turn⟩ (by omega) (wb_frz 1 rfl ?_) rfl)
  case turn =>
    exact ⟨_, _, by decide, fun _ _ _ _ _ => ⟨eg_name 2 nd rfl (.inl rfl), ets_nil, fun _ => EvE.to (ev_tup (ea_cons (ev_ixT (EvE.to (ev_call (g_side h) (b.lo, x) rfl (hr.mono (by decide)) (ea_cons (ev_fld h.c_Between h.n_Between_own_low (ev_var 0 rfl (.inr (.inl rfl)) rfl) (.btw ..) rfl) (ea_cons (ev_var 2 rfl (.inl rfl) rfl) ea_nil)) trivial) (sideL hy hx)) ev_int rfl) (ea_cons (ev_ixT (EvE.to (ev_call (g_side h) (b.hi, x) rfl (hr.mono (by decide)) (ea_cons (ev_fld h.c_Between h.n_Between_own_high (ev_var 0 rfl (.inr (.inl rfl)) rfl) (.btw ..) rfl) (ea_cons (ev_var 2 rfl (.inl rfl) rfl) ea_nil)) trivial) (sideU hy hx)) ev_int rfl) ea_nil))) rfl⟩⟩
  have ep : keepF (fun _ => true) (fun n => encI2 (b.l n, b.u n)) b.ns = (b.ns.map fun n => (b.l n, b.u n)).map encI2 := by
    rw [keep_all, List.map_map]
    rfl
  rw [ep]
  refine wb_ret (ev_any (bs := (b.ns.map fun n => (b.l n, b.u n)).map fun _ => false) rfl h.f_any ?ha) ?_
  case ha => exact EvE.to (EvN.toE (en_lc (enc := encI2) (p := fun _ => true) (f := fun _ => .bl false) (xs := b.ns.map fun n => (b.l n, b.u n)) rfl nd [("near", 3), ("far", 4)] (blk_of rfl) (ei_lst (ev_var 1 rfl (.inl rfl) rfl)) ⟨fun x hx => ⟨_, _, by decide, fun _ _ _ _ _ => ⟨(eg_tup rfl (egs_cons (eg_name 3 nd rfl (.inl rfl)) (egs_cons (eg_name 4 nd rfl (.inl rfl)) egs_nil))), ets_nil, fun _ => EvE.to (ev_and (z := false) (z2 := false) (EvE.to (ev_isN (ev_var 4 rfl (.inl rfl) rfl)) rfl) fun h => nomatch h) rfl⟩⟩⟩ (by rw [List.length_map]; omega))) (by rw [keep_all, List.map_map, List.map_map, List.map_map]; rfl)
  rw [List.map_map, List.any_map]
  show D.bl (b.ns.any fun _ => false) = .bl false
  congr 1
  induction b.ns with
  | nil => rfl
  | cons n ns ih => simpa using ih
theorem g_many_for (h : Hd c) : GoodM c (CB c) "many_for" 5 ["self", "lot", "last"] (SpP c.K (ca c.K) (fun y : Bt × List Str × Int => [y.1.enc, encNt y.2.1, .int y.2.2]) (fun y => y.1.Ok ∧ (∀ n ∈ y.2.1, n ∈ y.1.ns) ∧ Bd 230 y.2.2) (fun y => .int (manyM y.1 y.2.1 y.2.2))) := by
  refine good_meth (N := ["self", "lot", "last", "first", "rows"]) h.m_Between_many_for ⟨rfl, rfl, rfl, by decide +kernel, rfl, by decide +kernel, by decide +kernel⟩ (fun _ _ _ _ _ _ us hl => match us, hl with | [_, _, _], _ => rfl) (fun _ => rfl) (by decide) ?_
  rintro f cdv A outer s H E hr ⟨b, lot, la⟩ ⟨hy, hs, hb⟩
  have hy : b.Ok := hy
  have hs : ∀ n ∈ lot, n ∈ b.ns := hs
  have hb : Bd 230 la := hb
  have fb := first_bd hy hs lot.length (Nat.le_refl _)
  rw [List.take_length] at fb
  have nd : (["self", "lot", "last", "first", "rows"] : List Str).Nodup := by decide +kernel
  refine wb_cons (w_par 3 4 rfl nd rfl rfl (by decide) rfl rfl (ea_cons (ev_meth (g_first_for h) h.c_Between ((b, lot)) rfl (hr.mono (by decide)) (ev_var 0 rfl (.inl rfl) rfl) (.btw ..) (by decide +kernel) (ea_cons (ev_var 1 rfl (.inl rfl) rfl) ea_nil) rfl (⟨hy, hs⟩)) (ea_cons (ev_meth (g_rows_for h) h.c_Between ((b, lot)) rfl (hr.mono (by decide)) (ev_var 0 rfl (.inl rfl) rfl) (.btw ..) (by decide +kernel) (ea_cons (ev_var 1 rfl (.inl rfl) rfl) ea_nil) rfl (hy)) ea_nil)) ?_)
  refine wb_cons (w_if (EvT.to (et_isN (ev_var 3 rfl (.inl rfl) rfl)) (show D.isNon (.int (firstM b lot)) = false from rfl)) (fun h1 => nomatch h1) fun _ => wb_nil (wb_ret (ev_call (g_sum_to h) ((rowsM b lot, firstM b lot, la)) rfl (hr.mono (by decide)) (ea_cons (ev_var 4 rfl (.inl rfl) rfl) (ea_cons (ev_var 3 rfl (.inl rfl) rfl) (ea_cons (ev_var 2 rfl (.inl rfl) rfl) ea_nil))) (⟨rowsM_ok hy lot, fb.mono (by decide), hb⟩)) rfl))
end
end PL
/-! W17: in_all, room_for -/
namespace PL
open PySem PySem.Spec PyProof.Rows L2
theorem lots0_sub (b : Bt) : ∀ (ns : List Str) (fs : List (List Str)) (P : Str → Prop), (∀ x ∈ fs, ∀ n ∈ x, P n) → (∀ n ∈ ns, P n) → ∀ x ∈ ns.foldl (lotStep b) fs, ∀ n ∈ x, P n
  | [], fs, P, h1, _ => h1
  | m :: ns, fs, P, h1, h2 => by
    refine lots0_sub b ns (lotStep b fs m) P (fun x hx n hn => ?_) fun n hn => h2 n (List.mem_cons_of_mem _ hn)
    have hm := h2 m List.mem_cons_self
    have ap : ∀ y ∈ fs.map (· ++ [m]), ∀ n ∈ y, P n := fun y hy n hn => by
      obtain ⟨z, hz, rfl⟩ := List.mem_map.mp hy
      rcases List.mem_append.mp hn with hn | hn
      · exact h1 z hz n hn
      · rw [List.mem_singleton.mp hn]
        exact hm
    unfold lotStep at hx
    split at hx
    · exact ap x hx n hn
    · split at hx
      · rcases List.mem_append.mp hx with hx | hx
        · exact h1 x hx n hn
        · exact ap x hx n hn
      · exact h1 x hx n hn
theorem lots_sub {b : Bt} : ∀ lot ∈ lotsM b, ∀ n ∈ lot, n ∈ b.ns := fun lot hl => by
  unfold lotsM at hl
  have h1 := (List.mem_filter.mp ((List.mergeSort_perm _ _).mem_iff.mp hl)).1
  exact lots0_sub b b.ns [[]] (· ∈ b.ns) (fun x hx n hn => by
    rw [List.mem_singleton.mp hx] at hn
    cases hn) (fun n hn => hn) lot h1
theorem lotsM_len {b : Bt} (h : b.Ok) : (lotsM b).length ≤ 256 := by
  unfold lotsM
  rw [(List.mergeSort_perm _ _).length_eq]
  have h1 := List.length_filter_le (fun x : List Str => decide (0 < (x.length : Int))) (lots0 b b.ns)
  have h2 := (lots_len b b.ns b.ns.length (Nat.le_refl _)).1
  rw [List.take_length] at h2
  have h3 : 2 ^ b.ns.length ≤ 256 := Nat.le_trans (Nat.pow_le_pow_right (by decide) h.l3) (by decide)
  omega
def bsearchM (f : Int → Int) (x : Int) : Nat → Int → Int → Int
  | 0, a, _ => a
  | n + 1, a, c => if a < c then (if x < f ((a + c) / 2) then bsearchM f x n a ((a + c) / 2) else bsearchM f x n ((a + c) / 2 + 1) c) else a
theorem bsearch_ge (f : Int → Int) (x : Int) : ∀ (n : Nat) (a c : Int), ¬ a < c → bsearchM f x n a c = a
  | 0, _, _, _ => rfl
  | n + 1, a, c, h => by
    unfold bsearchM
    rw [if_neg h]
def roomForM (b : Bt) (lot : List Str) (x : Int) : Int := bsearchM (manyM b lot) x (b.top - firstM b lot).toNat (firstM b lot) b.top
theorem Bd.mid {n : Nat} {a c m : Int} (h1 : Bd n a) (h2 : Bd n c) (l1 : a ≤ m) (l2 : m ≤ c) : Bd n m := by
  unfold Bd at *
  omega
section
variable {c : Cn}
theorem g_in_all (h : Hd c) : GoodM c (CB c) "in_all" 6 ["self"] (SpP c.K (ca c.K) (fun y : Bt => [y.enc]) (fun y => y.Ok) (fun y => .int (inAllM y))) := by
  refine good_meth (N := ["self", "lot"]) h.m_Between_in_all ⟨rfl, rfl, rfl, by decide +kernel, rfl, by decide +kernel, by decide +kernel⟩ (fun _ _ _ _ _ _ us hl => match us, hl with | [_], _ => rfl) (fun _ => rfl) (by decide) ?_
  rintro f cdv A outer s H E hr b hy
  have hy : b.Ok := hy
  have ll := lotsM_len hy
  have tb := hy.hh.2.mono (show 200 ≤ 230 by decide)
  have l1 := hy.l1
  have l2 := hy.l2
  have nd : (["self", "lot"] : List Str).Nodup := by decide +kernel
  refine wb_cons (w_if (et_not (et_val (ev_call (g_is_within h) ((b.lo, b.hi)) rfl (hr.mono (by decide)) (ea_cons (ev_fld h.c_Between h.n_Between_own_low (ev_var 0 rfl (.inr (.inl rfl)) rfl) (.btw ..) rfl) (ea_cons (ev_fld h.c_Between h.n_Between_own_high (ev_var 0 rfl (.inr (.inl rfl)) rfl) (.btw ..) rfl) ea_nil)) (⟨by show b.lo.1.length ≤ 20; omega, by show b.hi.1.length ≤ 20; omega⟩)))) (fun h1 => wb_ret ev_int ?r1) fun h1 => wb_nil ?_)
  case r1 =>
    show _ = D.int (inAllM b)
    unfold inAllM
    rw [if_neg (by simpa using h1)]
  refine wb_cons (w_if (et_val (ev_meth0 (g_is_endless h) h.c_Between (b) rfl (hr.mono (by decide)) (ev_var 0 rfl (.inr (.inl rfl)) rfl) (.btw ..) (by decide +kernel) rfl (hy))) (fun h2 => nomatch h2) fun _ => wb_nil ?_)
  refine wb_ret (ev_add (ev_intB h.f_int (ev_eq hr.units (ev_fld h.c_Between h.n_Between_own_low (ev_var 0 rfl (.inr (.inl rfl)) rfl) (.btw ..) rfl) (ev_gref rfl h.g_NOTHING_rooms (fun B => h.kst.nothing _ B)) (eqF b.lo nothingM))) (ev_sum (ns := (lotsM b).map fun lot => manyM b lot b.top) rfl h.f_sum ?ha)) ?r2
  case ha => exact EvE.to (EvN.toE (en_lc (enc := (encNt)) (p := (fun _ => true)) (f := (fun lot => .int (manyM b lot b.top))) (xs := (lotsM b)) rfl nd [("lot", 1)] (blk_of rfl) (ei_lst (ev_meth0 (g_lots h) h.c_Between (b) rfl (hr.mono (by decide)) (ev_var 0 rfl (.inr (.inl rfl)) rfl) (.btw ..) (by decide +kernel) rfl (hy))) ⟨fun x hx => ⟨_, _, by decide, fun _ _ _ _ _ => ⟨(eg_name 1 nd rfl (.inl rfl)), ets_nil, fun _ => (EvE.to (ev_meth (g_many_for h) h.c_Between ((b, x, b.top)) rfl (hr.mono (by decide)) (ev_var 0 rfl (.inr (.inl rfl)) rfl) (.btw ..) (by decide +kernel) (ea_cons (ev_var 1 rfl (.inl rfl) rfl) (ea_cons (ev_meth0 (g_last_for h) h.c_Between (b) rfl (hr.mono (by decide)) (ev_var 0 rfl (.inr (.inl rfl)) rfl) (.btw ..) (by decide +kernel) rfl (hy)) ea_nil)) rfl (⟨hy, lots_sub x hx, tb⟩)) rfl)⟩⟩⟩ (by omega))) (by rw [keep_all, List.map_map]; rfl)
  case r2 =>
    show _ = D.int (inAllM b)
    unfold inAllM
    rw [if_pos (c := withinM b.lo b.hi = true) (by simpa using h1), show dNothing = encF nothingM from rfl, encF_py]
    congr 2
    by_cases e : b.lo = nothingM <;> simp [e]
theorem g_room_for (h : Hd c) : GoodM c (CB c) "room_for" 6 ["self", "lot", "number"] (SpP c.K (ca c.K) (fun y : Bt × List Str × Int => [y.1.enc, encNt y.2.1, .int y.2.2]) (fun y => y.1.Ok ∧ (∀ n ∈ y.2.1, n ∈ y.1.ns)) (fun y => .int (roomForM y.1 y.2.1 y.2.2))) := by
  refine good_meth (N := ["self", "lot", "number", "first", "last", "middle"]) h.m_Between_room_for ⟨rfl, rfl, rfl, by decide +kernel, rfl, by decide +kernel, by decide +kernel⟩ (fun _ _ _ _ _ _ us hl => match us, hl with | [_, _, _], _ => rfl) (fun _ => rfl) (by decide) ?_
  rintro f cdv A outer s H E hr ⟨b, lot, x⟩ ⟨hy, hs⟩
  have hy : b.Ok := hy
  have hs : ∀ n ∈ lot, n ∈ b.ns := hs
  have fb := first_bd hy hs lot.length (Nat.le_refl _)
  rw [List.take_length] at fb
  have nd : (["self", "lot", "number", "first", "last", "middle"] : List Str).Nodup := by decide +kernel
  refine wb_cons (w_par 3 4 rfl nd rfl rfl (by decide) rfl rfl (ea_cons (ev_meth (g_first_for h) h.c_Between ((b, lot)) rfl (hr.mono (by decide)) (ev_var 0 rfl (.inl rfl) rfl) (.btw ..) (by decide +kernel) (ea_cons (ev_var 1 rfl (.inl rfl) rfl) ea_nil) rfl (⟨hy, hs⟩)) (ea_cons (ev_meth0 (g_last_for h) h.c_Between (b) rfl (hr.mono (by decide)) (ev_var 0 rfl (.inl rfl) rfl) (.btw ..) (by decide +kernel) rfl (hy)) ea_nil)) ?_)
  refine wb_cons (w_if (EvT.to (et_isN (ev_var 3 rfl (.inl rfl) rfl)) (show D.isNon (.int (firstM b lot)) = false from rfl)) (fun h1 => nomatch h1) fun _ => wb_nil ?_)
  refine wb_cons (w_while (fun _ _ h => h.elim) (fun m ρ1 => ∃ (a e : Int) (s1 : Sl), ρ1 = [.va b.enc, .va (encNt lot), .va (.int x), .va (.int a), .va (.int e), s1] ∧ bsearchM (manyM b lot) x m a e = roomForM b lot x ∧ (e - a).toNat ≤ m ∧ Bd 201 a ∧ Bd 201 e) (b.top - firstM b lot).toNat ⟨firstM b lot, b.top, .un, rfl, rfl, Nat.le_refl _, fb.mono (by decide), hy.hh.2.mono (by decide)⟩ ?_)
  rintro m ρ1 ⟨a, e, s1, rfl, hbs, hm, ba, be⟩
  refine ⟨decide (a < e), (et_lt (ev_var 3 rfl (.inl rfl) rfl) (ev_var 4 rfl (.inl rfl) rfl)), fun h1 => ?_, fun h1 => wb_ret (ev_var 3 rfl (.inl rfl) rfl) ?_⟩
  · have h1 : a < e := of_decide_eq_true h1
    have m1 : a ≤ (a + e) / 2 := by omega
    have m2 : (a + e) / 2 < e := by omega
    have bm : Bd 201 ((a + e) / 2) := ba.mid be m1 (by omega)
    obtain ⟨m, rfl⟩ : ∃ m', m = m' + 1 := ⟨m - 1, by omega⟩
    refine wb_cons (w_set 5 nd rfl (.inl rfl) (ev_fdiv (ev_add (ev_var 3 rfl (.inl rfl) rfl) (ev_var 4 rfl (.inl rfl) rfl)) ev_int (⟨by decide, by decide⟩)) ?_)
    refine wb_cons (w_if (et_gt (ev_meth (g_many_for h) h.c_Between ((b, lot, (a + e) / 2)) rfl (hr.mono (by decide)) (ev_var 0 rfl (.inl rfl) rfl) (.btw ..) (by decide +kernel) (ea_cons (ev_var 1 rfl (.inl rfl) rfl) (ea_cons (ev_var 5 rfl (.inl rfl) rfl) ea_nil)) rfl (⟨hy, hs, bm.mono (by decide)⟩)) (ev_var 2 rfl (.inl rfl) rfl)) (fun h2 => ?_) fun h2 => ?_)
    · refine wb_cons (w_set 4 nd rfl (.inl rfl) (ev_var 5 rfl (.inl rfl) rfl) (wb_nil (wb_nil ⟨m, Nat.lt_succ_self m, a, (a + e) / 2, _, rfl, ?_, by omega, ba, bm⟩)))
      rw [← hbs]
      show _ = (if a < e then _ else _)
      rw [if_pos h1, if_pos (of_decide_eq_true h2)]
    · refine wb_cons (w_set 3 nd rfl (.inl rfl) (ev_add (ev_var 5 rfl (.inl rfl) rfl) ev_int) (wb_nil (wb_nil ⟨m, Nat.lt_succ_self m, (a + e) / 2 + 1, e, _, rfl, ?_, by omega, ba.mid be (by omega) (by omega), be⟩)))
      rw [← hbs]
      show _ = (if a < e then _ else _)
      rw [if_pos h1, if_neg (of_decide_eq_false h2)]
  · show D.int a = D.int (roomForM b lot x)
    rw [← hbs, bsearch_ge _ _ _ _ _ (of_decide_eq_false h1)]
theorem g_many_ahead (h : Hd c) : GoodM c (CB c) "many_ahead" 6 ["self", "lot", "room"] (SpP c.K (ca c.K) (fun y : Bt × List Str × Int => [y.1.enc, encNt y.2.1, .int y.2.2]) (fun y => y.1.Ok ∧ (∀ n ∈ y.2.1, n ∈ y.1.ns) ∧ Bd 229 y.2.2) (fun y => .int (manyM y.1 y.2.1 (y.2.2 - 1)))) := by
  refine good_meth (N := ["self", "lot", "room"]) h.m_Between_many_ahead ⟨rfl, rfl, rfl, by decide +kernel, rfl, by decide +kernel, by decide +kernel⟩ (fun _ _ _ _ _ _ us hl => match us, hl with | [_, _, _], _ => rfl) (fun _ => rfl) (by decide) ?_
  rintro f cdv A outer s H E hr ⟨b, lot, r⟩ ⟨hy, hs, hb⟩
  have hb : Bd 229 r := hb
  exact wb_ret (ev_ifF (EvT.to (et_isN (ev_var 2 rfl (.inl rfl) rfl)) (show D.isNon (.int r) = false from rfl)) (ev_meth (g_many_for h) h.c_Between ((b, lot, r - 1)) rfl (hr.mono (by decide)) (ev_var 0 rfl (.inl rfl) rfl) (.btw ..) (by decide +kernel) (ea_cons (ev_var 1 rfl (.inl rfl) rfl) (ea_cons (ev_sub (ev_var 2 rfl (.inl rfl) rfl) ev_int) ea_nil)) rfl (⟨hy, hs, (hb.sub (show Bd 229 1 by unfold Bd; exact Nat.lt_of_lt_of_le (by decide : (1 : Int).natAbs < 2 ^ 5) (Nat.pow_le_pow_right (by decide) (by decide)))).mono (by decide)⟩))) rfl
theorem g_has (h : Hd c) : GoodM c (CB c) "has" 6 ["self", "form"] (SpP c.K (ca c.K) (fun y : Bt × Fm => [y.1.enc, encF y.2]) (fun y => y.1.Ok ∧ y.2.1.length ≤ 15) (fun y => .bl (withinM y.1.lo y.2 && withinM y.2 y.1.hi))) := by
  refine good_meth (N := ["self", "form"]) h.m_Between_has ⟨rfl, rfl, rfl, by decide +kernel, rfl, by decide +kernel, by decide +kernel⟩ (fun _ _ _ _ _ _ us hl => match us, hl with | [_, _], _ => rfl) (fun _ => rfl) (by decide) ?_
  rintro f cdv A outer s H E hr ⟨b, F⟩ ⟨hy, hl⟩
  have hy : b.Ok := hy
  have hl : F.1.length ≤ 15 := hl
  have l1 := hy.l1
  have l2 := hy.l2
  exact wb_ret (ev_and (ev_call (g_is_within h) ((b.lo, F)) rfl (hr.mono (by decide)) (ea_cons (ev_fld h.c_Between h.n_Between_own_low (ev_var 0 rfl (.inl rfl) rfl) (.btw ..) rfl) (ea_cons (ev_var 1 rfl (.inl rfl) rfl) ea_nil)) (⟨by show b.lo.1.length ≤ 20; omega, by show F.1.length ≤ 20; omega⟩)) (fun _ => (ev_one (ev_call (g_is_within h) ((F, b.hi)) rfl (hr.mono (by decide)) (ea_cons (ev_var 1 rfl (.inl rfl) rfl) (ea_cons (ev_fld h.c_Between h.n_Between_own_high (ev_var 0 rfl (.inl rfl) rfl) (.btw ..) rfl) ea_nil)) (⟨by show F.1.length ≤ 20; omega, by show b.hi.1.length ≤ 20; omega⟩))))) rfl
end
end PL
/-! W18: made -/
namespace PL
open PySem PySem.Spec PyProof.Rows L2
/-- a, b = e1, e2 where e2 is a new list, which b owns -/
theorem w_parN {T : CA} {X : Cx} {ρ : List Sl} {a b : Expr} {Po : Post} {pos : Pos} (i j : Nat) {x y : Str} {d1 : D} {ds : List D} {px py pt : Pos} {kt k2 pt2} (hc : X.calm = true) (hN : X.N.Nodup) (hi : X.N[i]? = some x) (hj : X.N[j]? = some y) (hij : i ≠ j) (hx : X.env.scope.names.lookup x = some .local) (hy : X.env.scope.names.lookup y = some .local)
    (ha : EvE T X a ρ d1) (hb : EvN T X b ρ ds) (q : Po.nx ((ρ.set i (.va d1)).set j (.ow ds))) (hw : swappedStores [.Tuple [.Name x px, .Name y py] kt pt] (.Tuple [a, b] k2 pt2) X.env = pure (some [x, y]) := by rfl)
    (hs : swapsWithSole [.Tuple [.Name x px, .Name y py] kt pt] (.Tuple [a, b] k2 pt2) pos.line X.env = pure false := by rfl) (h1 : starEach [a, b] X.env = (false, eval a X.env) :: starEach [b] X.env := by rfl) (h2 : starEach [b] X.env = (false, eval b X.env) :: starEach [] X.env := by rfl) :
    W1 T X (.Assign [.Tuple [.Name x px, .Name y py] kt pt] (.Tuple [a, b] k2 pt2) pos) ρ Po := fun E _ _ _ De hρ F =>
  ws1 (ps_par hc hN hi hj hij hx hy (pa_cons pe_we (pa_cons pe_we pa_nil h2) h1) hw hs) (ha _ _ _ _ hρ _ fun _ _ _ g r => hb _ _ _ _ (hρ.gr g) _ fun l us B2 H2 g2 hl hbl hl2 r2 => ⟨_, _, rfl, F.nx _ _ _ _ (env_own j ((hρ.gr g).set r) g2 hl hbl hl2 r2) q⟩)
def othersM (b : Bt) (lot : List Str) : List Str := b.ns.filter fun n => !decide (n ∈ lot)
def madeStep (b : Bt) (room : Int) (s : Int × List Mk2) (n : Str) : Int × List Mk2 :=
  (s.1 / waysI (b.l n) (b.u n) room, s.2 ++ [(n, if s.1 % waysI (b.l n) (b.u n) room - (if b.l n = 0 then 1 else 0) < 0 then (false, some 0) else (false, some (max (max (b.l n) room) 1 + (s.1 % waysI (b.l n) (b.u n) room - (if b.l n = 0 then 1 else 0)))))])
def madeGo (b : Bt) (lot : List Str) (room number : Int) (os : List Str) : Int × List Mk2 := os.foldl (madeStep b room) (number, lot.map fun n => (n, (true, some room)))
def leM (x y : Mk2) : Bool := leD (encM x) (encM y)
def madeM (b : Bt) (lot : List Str) (room number : Int) : Fm := formOfM ((madeGo b lot room number (othersM b lot).reverse).2.mergeSort leM) (false, some 0)
theorem made_next {b : Bt} {lot : List Str} {room number : Int} {os : List Str} {k : Nat} {n : Str} (h : os[k]? = some n) : madeGo b lot room number (os.take (k + 1)) = madeStep b room (madeGo b lot room number (os.take k)) n := by
  unfold madeGo
  rw [take_next h, List.foldl_append]
  rfl
theorem made_some (b : Bt) (room : Int) : ∀ (os : List Str) (s : Int × List Mk2), (∀ m ∈ s.2, ∃ z r, m.2 = (z, some r)) → ∀ m ∈ (os.foldl (madeStep b room) s).2, ∃ z r, m.2 = (z, some r)
  | [], s, h => h
  | o :: os, s, h => by
    refine made_some b room os (madeStep b room s o) fun m hm => ?_
    unfold madeStep at hm
    rcases List.mem_append.mp hm with hm | hm
    · exact h m hm
    · rw [List.mem_singleton.mp hm]
      dsimp only
      by_cases h0 : s.1 % waysI (b.l o) (b.u o) room - (if b.l o = 0 then 1 else 0) < 0
      · rw [if_pos h0]
        exact ⟨_, _, rfl⟩
      · rw [if_neg h0]
        exact ⟨_, _, rfl⟩
theorem made_len (b : Bt) (room : Int) : ∀ (os : List Str) (s : Int × List Mk2), (os.foldl (madeStep b room) s).2.length = s.2.length + os.length
  | [], s => rfl
  | o :: os, s => by
    rw [List.foldl_cons, made_len b room os]
    unfold madeStep
    rw [List.length_append]
    simp only [List.length_cons, List.length_nil]
    omega
theorem encM_pl (m : Mk2) : (encM m).pl = true := by
  show D.pls [_, _] = true
  simp only [D.pls, encP_pl, D.pl, Bool.and_self]
theorem encM_dp (m : Mk2) : (encM m).py.depth ≤ 2 := by
  unfold encM
  rw [dp_tup, dp_cons, dp_cons, dp_nil, dp_str]
  have := encP_dp m.2
  omega
theorem alike_marks {x y : Mk2} (hx : ∃ z r, x.2 = (z, some r)) (hy : ∃ z r, y.2 = (z, some r)) : PySem.W.alike (encM x).py (encM y).py = true := by
  obtain ⟨z, r, e⟩ := hx
  obtain ⟨z', r', e'⟩ := hy
  unfold encM
  rw [e, e']
  show PySem.W.alike (.tuple [.str x.1, .tuple [.bool z, .int r]]) (.tuple [.str y.1, .tuple [.bool z', .int r']]) = true
  simp [PySem.W.alike, PySem.W.alikeAll]
section
variable {c : Cn}
theorem g_made (h : Hd c) : GoodM c (CB c) "made" 6 ["self", "lot", "room", "number"] (SpP c.K (ca c.K) (fun y : Bt × List Str × Int × Int => [y.1.enc, encNt y.2.1, .int y.2.2.1, .int y.2.2.2]) (fun y => y.1.Ok ∧ y.2.1.length ≤ 8 ∧ Bd 200 y.2.2.1 ∧ ∀ n ∈ y.1.ns, 0 < waysI (y.1.l n) (y.1.u n) y.2.2.1) (fun y => encF (madeM y.1 y.2.1 y.2.2.1 y.2.2.2))) := by
  refine good_meth (N := ["self", "lot", "room", "number", "left", "marks", "name", "others", "low", "high", "many", "at"]) h.m_Between_made ⟨rfl, rfl, rfl, by decide +kernel, rfl, by decide +kernel, by decide +kernel⟩ (fun _ _ _ _ _ _ us hl => match us, hl with | [_, _, _, _], _ => rfl) (fun _ => rfl) (by decide) ?_
  rintro f cdv A outer s H E hr ⟨b, lot, room, number⟩ ⟨hy, h8, hb, hpos⟩
  have hy : b.Ok := hy
  have h8 : lot.length ≤ 8 := h8
  have hb : Bd 200 room := hb
  have hpos : ∀ n ∈ b.ns, 0 < waysI (b.l n) (b.u n) room := hpos
  have l3 := hy.l3
  have nd : (["self", "lot", "room", "number", "left", "marks", "name", "others", "low", "high", "many", "at"] : List Str).Nodup := by decide +kernel
  have eo : keepF (fun n => !decide (n ∈ lot)) D.str b.ns = (othersM b lot).map D.str := rfl
  have e1 : keepF (fun _ => true) (fun n => encM (n, (true, some room))) lot = (lot.map fun n => ((n, (true, some room)) : Mk2)).map encM := by
    rw [keep_all, List.map_map]
    rfl
  have ol : (othersM b lot).length ≤ 8 := Nat.le_trans (List.length_filter_le _ _) l3
  refine wb_cons (w_parN 4 5 rfl nd rfl rfl (by decide) rfl rfl (ev_var 3 rfl (.inl rfl) rfl) (EvN.to (en_lc (enc := (D.str)) (p := (fun _ => true)) (f := (fun n => encM (n, (true, some room)))) (xs := (lot)) rfl nd [("name", 6)] (blk_of rfl) (ei_tup (ev_var 1 rfl (.inr (.inl rfl)) rfl)) ⟨fun x hx => ⟨_, _, by decide, fun _ _ _ _ _ => ⟨(eg_name 6 nd rfl (.inl rfl)), ets_nil, fun _ => (EvE.to (ev_tup (ea_cons (ev_var 6 rfl (.inl rfl) rfl) (ea_cons (ev_tup (ea_cons ev_bl (ea_cons (ev_var 2 rfl (.inr (.inl rfl)) rfl) ea_nil))) ea_nil))) rfl)⟩⟩⟩ (by omega)) e1) ?_)
  refine wb_cons (w_lcN (enc := D.str) (p := fun n => !decide (n ∈ lot)) (f := D.str) (xs := b.ns) 7 rfl nd [("name", 6)] rfl rfl (blk_of rfl) (ei_tup (ev_fld h.c_Between h.n_Between_own_names (ev_var 0 rfl (.inl rfl) rfl) (.btw ..) rfl)) ⟨fun x hx => ⟨_, _, by decide, fun _ _ _ _ _ => ⟨eg_name 6 nd rfl (.inl rfl), ets_one (EvT.to (et_notIn (v := .str x) (vs := lot.map V.str) (ev_var 6 rfl (.inl rfl) rfl) (ev_var 1 rfl (.inr (.inl rfl)) rfl) rfl (.inr rfl) (fvs_strs _)) (by rw [inV_strs])), fun _ => ev_var 6 rfl (.inl rfl) rfl⟩⟩⟩ (by omega) (wb_frz 7 rfl ?_) rfl)
  rw [eo]
  refine wb_cons (w_for (ds := ((othersM b lot).reverse).map D.str) (fun _ _ h => h.elim) rfl (EvI.to (ei_lst (EvN.toE (en_rev (ev_var 7 rfl (.inl rfl) rfl)))) (by rw [List.map_reverse])) (fun k ρ1 => ∃ s1 s2 s3 s4 s5 : Sl, ρ1 = [.va b.enc, .va (encNt lot), .va (.int room), .va (.int number), .va (.int (madeGo b lot room number ((othersM b lot).reverse.take k)).1), .ow ((madeGo b lot room number ((othersM b lot).reverse.take k)).2.map encM), s1, .va (.lst ((othersM b lot).map D.str)), s2, s3, s4, s5]) ⟨.un, .un, .un, .un, .un, rfl⟩ ?_ ?_)
  · rintro k d ρ1 hd ⟨s1, s2, s3, s4, s5, rfl⟩
    obtain ⟨n, hn, rfl⟩ := map_at hd
    have hm0 : n ∈ othersM b lot := List.mem_reverse.mp (List.mem_of_getElem? hn)
    have hm : n ∈ b.ns := (List.mem_filter.mp hm0).1
    have hp := hpos n hm
    have wb := ways_bd ((hy.li n hm).2) ((hy.ui n hm).2) hb (by decide)
    have wz : (waysI (b.l n) (b.u n) room).natAbs ≠ 0 := by omega
    have wl := (Nat.log2_lt wz).mpr wb
    have nx := made_next (b := b) (lot := lot) (room := room) (number := number) hn
    have ml : (madeGo b lot room number ((othersM b lot).reverse.take k)).2.length ≤ 16 := by
      have q := made_len b room ((othersM b lot).reverse.take k) (number, lot.map fun n => (n, (true, some room)))
      rw [List.length_map, List.length_take, List.length_reverse] at q
      unfold madeGo
      omega
    generalize madeGo b lot room number ((othersM b lot).reverse.take k) = S at nx ml ⊢
    obtain ⟨L, M⟩ := S
    refine ⟨_, _, (eg_name 6 nd rfl (.inl rfl)), ?_⟩
    refine wb_cons (w_par 8 9 rfl nd rfl rfl (by decide) rfl rfl (ea_cons (ev_ixT (EvE.to (ev_call (g_side h) ((b.lo, n)) rfl (hr.mono (by decide)) (ea_cons (ev_fld h.c_Between h.n_Between_own_low (ev_var 0 rfl (.inl rfl) rfl) (.btw ..) rfl) (ea_cons (ev_var 6 rfl (.inl rfl) rfl) ea_nil)) trivial) (sideL hy hm)) ev_int rfl) (ea_cons (ev_ixT (EvE.to (ev_call (g_side h) ((b.hi, n)) rfl (hr.mono (by decide)) (ea_cons (ev_fld h.c_Between h.n_Between_own_high (ev_var 0 rfl (.inl rfl) rfl) (.btw ..) rfl) (ea_cons (ev_var 6 rfl (.inl rfl) rfl) ea_nil)) trivial) (sideU hy hm)) ev_int rfl) ea_nil)) ?_)
    refine wb_cons (w_set 10 nd rfl (.inl rfl) (ev_call (g_ways_of h) ((b.l n, b.u n, room)) rfl (hr.mono (by decide)) (ea_cons (ev_var 8 rfl (.inl rfl) rfl) (ea_cons (ev_var 9 rfl (.inl rfl) rfl) (ea_cons (ev_var 2 rfl (.inr (.inl rfl)) rfl) ea_nil))) trivial) ?_)
    refine wb_cons (w_set 11 nd rfl (.inl rfl) (d := .int (L % waysI (b.l n) (b.u n) room - (if b.l n = 0 then 1 else 0))) (EvE.to (ev_sub (ev_mod (ev_var 4 rfl (.inl rfl) rfl) (ev_var 10 rfl (.inl rfl) rfl) (hp)) (ev_intB h.f_int (ev_eq hr.units (ev_var 8 rfl (.inl rfl) rfl) ev_int (eqInt _ _)))) ?q1) ?_)
    case q1 =>
      rw [int_py]
      congr 2
      by_cases h0 : b.l n = 0 <;> simp [h0]
    refine wb_cons (w_set 4 nd rfl (.inl rfl) (ev_fdiv (ev_var 4 rfl (.inl rfl) rfl) (ev_var 10 rfl (.inl rfl) rfl) (⟨hp, Nat.lt_of_lt_of_le wl (by decide)⟩)) ?_)
    have ml : M.length ≤ 16 := ml
    refine wb_cons (w_if (et_lt (ev_var 11 rfl (.inl rfl) rfl) ev_int) (fun h1 => ?_) fun h1 => ?_)
    · refine wb_cons (w_append 5 rfl (.inl rfl) rfl (ev_tup (ea_cons (ev_var 6 rfl (.inl rfl) rfl) (ea_cons (ev_tup (ea_cons ev_bl (ea_cons ev_int ea_nil))) ea_nil))) (by rw [List.length_map]; omega) (wb_nil (wb_nil ⟨.va (.str n), .va (.int (b.l n)), .va (.int (b.u n)), .va (.int (waysI (b.l n) (b.u n) room)), .va (.int (L % waysI (b.l n) (b.u n) room - (if b.l n = 0 then 1 else 0))), ?_⟩)))
      rw [nx]
      unfold madeStep
      dsimp only
      rw [if_pos (of_decide_eq_true h1), List.map_append]
      rfl
    · refine wb_cons (w_append 5 rfl (.inl rfl) rfl (ev_tup (ea_cons (ev_var 6 rfl (.inl rfl) rfl) (ea_cons (ev_tup (ea_cons ev_bl (ea_cons (ev_ifF (EvT.to (EvW.t (ew_or (et_isN (ev_var 2 rfl (.inr (.inl rfl)) rfl)) (fun _ => (ew_or1 (et_isN (ev_var 8 rfl (.inl rfl) rfl)))))) (show (D.isNon (.int room) || D.isNon (.int (b.l n))) = false from rfl)) (ev_add (ev_max3 rfl h.f_max (ev_var 8 rfl (.inl rfl) rfl) (ev_var 2 rfl (.inr (.inl rfl)) rfl) ev_int) (ev_var 11 rfl (.inl rfl) rfl))) ea_nil))) ea_nil))) (by rw [List.length_map]; omega) (wb_nil (wb_nil ⟨.va (.str n), .va (.int (b.l n)), .va (.int (b.u n)), .va (.int (waysI (b.l n) (b.u n) room)), .va (.int (L % waysI (b.l n) (b.u n) room - (if b.l n = 0 then 1 else 0))), ?_⟩)))
      rw [nx]
      unfold madeStep
      dsimp only
      rw [if_neg (of_decide_eq_false h1), List.map_append]
      rfl
  · rintro ρ1 ⟨s1, s2, s3, s4, s5, rfl⟩
    rw [List.length_map, List.take_length]
    have ms : ∀ m ∈ (madeGo b lot room number (othersM b lot).reverse).2, ∃ z r, m.2 = (z, some r) := made_some b room _ _ fun m hm => by
      obtain ⟨n, _, rfl⟩ := List.mem_map.mp hm
      exact ⟨_, _, rfl⟩
    have ml : (madeGo b lot room number (othersM b lot).reverse).2.length ≤ 16 := by
      have q := made_len b room (othersM b lot).reverse (number, lot.map fun n => (n, (true, some room)))
      rw [List.length_map, List.length_reverse] at q
      unfold madeGo
      omega
    refine wb_frz 5 rfl (wb_ret (ev_call (g_form_of h) ((madeGo b lot room number (othersM b lot).reverse).2.mergeSort leM, (false, some 0)) rfl (hr.mono (by decide)) (ea_cons (EvN.toE (EvN.to (en_sorted rfl hr.units h.f_sorted (ev_var 5 rfl (.inl rfl) rfl) ?pl ?al ?so ?dp (by rw [List.length_map]; omega)) ?e)) (ea_cons (ev_tup (ea_cons ev_bl (ea_cons ev_int ea_nil))) ea_nil)) ?len) rfl)
    case pl =>
      intro d hd
      obtain ⟨x, _, rfl⟩ := List.mem_map.mp hd
      exact encM_pl x
    case al =>
      intro d hd d' hd'
      obtain ⟨x, hx, rfl⟩ := List.mem_map.mp hd
      obtain ⟨y, hy, rfl⟩ := List.mem_map.mp hx
      obtain ⟨x', hx', rfl⟩ := List.mem_map.mp hd'
      obtain ⟨y', hy', rfl⟩ := List.mem_map.mp hx'
      exact alike_marks (ms y hy) (ms y' hy')
    case so =>
      refine .inl fun d hd => ?_
      obtain ⟨x, hx, rfl⟩ := List.mem_map.mp hd
      obtain ⟨y, hy, rfl⟩ := List.mem_map.mp hx
      exact ⟨_, _, rfl⟩
    case dp =>
      intro d hd
      obtain ⟨x, _, rfl⟩ := List.mem_map.mp hd
      exact Nat.le_trans (encM_dp x) (by decide)
    case e => rw [List.map_mergeSort (r := leM) (s := leD) (f := encM) (fun _ _ _ _ => rfl)]
    case len =>
      show ((madeGo b lot room number (othersM b lot).reverse).2.mergeSort leM).length ≤ 100
      rw [(List.mergeSort_perm _ _).length_eq]
      omega
end
end PL
/-! W19: at, rank_of -/
namespace PL
open PySem PySem.Spec PyProof.Rows L2
section
variable {T : CA} {X : Cx} {ρ : List Sl} {a b : Expr} {da db : D} {pos : Pos}
/-- x < y of alike data -/
def rLtD (K : PySem.W.Frag) : R2 := fun x y H Q => ∃ d e, Dp K H x d ∧ Dp K H y e ∧ PySem.W.alike d e = true ∧ d ≠ .none ∧ d.depth ≤ 30 ∧ Q (.bl (PySem.W.dataLt d e)) H
theorem op_ltD (hu : X.A.units + 64 < cLine) : OpR X (compareOp .Lt) (rLtD X.K) := by
  intro pins s σ H x y v u Q I rx ry h
  obtain ⟨d, e, hd, he, ha, hn, hdp, q⟩ := h
  obtain ⟨as, r1⟩ := Dp.reads I d x v hd rx
  obtain ⟨bs, r2⟩ := Dp.reads I e y u he ry
  exact PySem.W.cmp_ofLt (PySem.W.rcLt_alike d e X.A s v u as bs r1 r2 ha hn (by have := Nat.min_le_left d.depth e.depth; omega) _ _ _ _ ⟨.bl _, H, I, rfl, q⟩)
theorem et_ltD (hu : X.A.units + 64 < cLine) (ha : EvE T X a ρ da) (hb : EvE T X b ρ db) (p1 : da.pl = true) (p2 : db.pl = true) (hal : PySem.W.alike da.py db.py = true) (hn : da.py ≠ .none) (hd : da.py.depth ≤ 30) : EvT T X (.Compare a [.Lt] [b] pos) ρ (PySem.W.dataLt da.py db.py) := et_cmp (op_ltD hu) ha hb (nomark _) fun _ _ _ _ _ s hx hy q => ⟨_, _, hx.dp s p1, hy.dp s p2, hal, hn, hd, q _ _ _ (.refl s) (.bl _)⟩
end
def encOF : Option Fm → D
  | none => .non
  | some F => encF F
def atGo (b : Bt) : List (List Str) → Int → Option Fm
  | [], _ => none
  | lot :: r, left => if left < manyM b lot b.top then some (madeM b lot (roomForM b lot left) (left - manyM b lot (roomForM b lot left - 1))) else atGo b r (left - manyM b lot b.top)
def atM (b : Bt) (number : Int) : Option Fm := if (decide (number < 0) || !withinM b.lo b.hi) = true then none else if number - (if b.lo = nothingM then 1 else 0) < 0 then some nothingM else atGo b (lotsM b) (number - (if b.lo = nothingM then 1 else 0))
/-- every name not left has a way, up to the top room -/
def Bt.Ways (b : Bt) : Prop := ∀ n ∈ b.ns, ∀ r, r ≤ b.top → 0 < waysI (b.l n) (b.u n) r
theorem bsearch_in (f : Int → Int) (x : Int) : ∀ (n : Nat) (a c : Int), a ≤ c → a ≤ bsearchM f x n a c ∧ bsearchM f x n a c ≤ c
  | 0, a, c, h => ⟨Int.le_refl _, h⟩
  | n + 1, a, c, h => by
    unfold bsearchM
    by_cases h1 : a < c
    · rw [if_pos h1]
      split
      · have q := bsearch_in f x n a ((a + c) / 2) (by omega)
        omega
      · have q := bsearch_in f x n ((a + c) / 2 + 1) c (by omega)
        omega
    · rw [if_neg h1]
      omega
theorem many_first {b : Bt} {lot : List Str} {left last : Int} (h0 : 0 ≤ left) (h : left < manyM b lot last) : firstM b lot ≤ last := by
  unfold manyM sumToM at h
  by_cases h1 : firstM b lot ≤ last
  · exact h1
  · rw [if_neg h1] at h
    omega
theorem lots_l8 {b : Bt} (h : b.Ok) : ∀ lot ∈ lotsM b, lot.length ≤ 8 := fun lot hl => by
  unfold lotsM at hl
  have h1 := (List.mem_filter.mp ((List.mergeSort_perm _ _).mem_iff.mp hl)).1
  have h2 := (lots_len b b.ns b.ns.length (Nat.le_refl _)).2
  rw [List.take_length] at h2
  have := h2 lot h1
  have := h.l3
  omega
section
variable {c : Cn}
theorem g_at (h : Hd c) : GoodM c (CB c) "at" 7 ["self", "number"] (SpP c.K (ca c.K) (fun y : Bt × Int => [y.1.enc, .int y.2]) (fun y => y.1.Ok ∧ (withinM y.1.lo y.1.hi = true → y.1.Ways)) (fun y => encOF (atM y.1 y.2))) := by
  refine good_meth (N := ["self", "number", "left", "lot", "many", "room"]) h.m_Between_at ⟨rfl, rfl, rfl, by decide +kernel, rfl, by decide +kernel, by decide +kernel⟩ (fun _ _ _ _ _ _ us hl => match us, hl with | [_, _], _ => rfl) (fun _ => rfl) (by decide) ?_
  rintro f cdv A outer s H E hr ⟨b, number⟩ ⟨hy, hw⟩
  have hy : b.Ok := hy
  have hw : withinM b.lo b.hi = true → b.Ways := hw
  have l1 := hy.l1
  have l2 := hy.l2
  have tb := hy.hh.2
  have nd : (["self", "number", "left", "lot", "many", "room"] : List Str).Nodup := by decide +kernel
  refine wb_cons (w_set 2 nd rfl (.inl rfl) (d := .int (number - (if b.lo = nothingM then 1 else 0))) (EvE.to (ev_sub (ev_var 1 rfl (.inl rfl) rfl) (ev_intB h.f_int (ev_eq hr.units (ev_fld h.c_Between h.n_Between_own_low (ev_var 0 rfl (.inl rfl) rfl) (.btw ..) rfl) (ev_gref rfl h.g_NOTHING_rooms (fun B => h.kst.nothing _ B)) (eqF b.lo nothingM)))) ?q0) ?_)
  case q0 =>
    rw [show dNothing = encF nothingM from rfl, encF_py]
    congr 2
    by_cases h0 : b.lo = nothingM <;> simp [h0]
  refine wb_cons (w_if (EvT.to (EvW.t (ew_or (et_lt (ev_var 1 rfl (.inl rfl) rfl) ev_int) fun _ => ew_or (et_not (et_val (ev_call (g_is_within h) ((b.lo, b.hi)) rfl (hr.mono (by decide)) (ea_cons (ev_fld h.c_Between h.n_Between_own_low (ev_var 0 rfl (.inl rfl) rfl) (.btw ..) rfl) (ea_cons (ev_fld h.c_Between h.n_Between_own_high (ev_var 0 rfl (.inl rfl) rfl) (.btw ..) rfl) ea_nil)) (⟨by show b.lo.1.length ≤ 20; omega, by show b.hi.1.length ≤ 20; omega⟩)))) fun _ => ew_or1 (et_val (ev_meth0 (g_is_endless h) h.c_Between (b) rfl (hr.mono (by decide)) (ev_var 0 rfl (.inl rfl) rfl) (.btw ..) (by decide +kernel) rfl (hy))))) (show (decide (number < 0) || (!withinM b.lo b.hi || false)) = (decide (number < 0) || !withinM b.lo b.hi) by rw [Bool.or_false])) (fun h1 => wb_ret ev_non ?r1) fun h1 => wb_nil ?_)
  case r1 =>
    show D.non = encOF (atM b number)
    unfold atM
    rw [if_pos h1]
    rfl
  have hwi : withinM b.lo b.hi = true ∧ 0 ≤ number := by
    cases e : withinM b.lo b.hi with
    | false =>
      rw [e] at h1
      simp at h1
    | true =>
      rw [e] at h1
      simp at h1
      exact ⟨rfl, by omega⟩
  refine wb_cons (w_if (et_lt (ev_var 2 rfl (.inl rfl) rfl) ev_int) (fun h2 => wb_ret (ev_gref rfl h.g_NOTHING_rooms (fun B => h.kst.nothing _ B)) ?r2) fun h2 => wb_nil ?_)
  case r2 =>
    show dNothing = encOF (atM b number)
    unfold atM
    rw [if_neg (by rw [h1]; exact Bool.false_ne_true), if_pos (of_decide_eq_true h2)]
    rfl
  have h2 := of_decide_eq_false h2
  have fin : atM b number = atGo b (lotsM b) (number - (if b.lo = nothingM then 1 else 0)) := by
    unfold atM
    rw [if_neg (by rw [h1]; exact Bool.false_ne_true), if_neg h2]
  refine wb_cons (w_for (fun _ _ h => h.elim) rfl (ei_lst (ev_meth0 (g_lots h) h.c_Between (b) rfl (hr.mono (by decide)) (ev_var 0 rfl (.inl rfl) rfl) (.btw ..) (by decide +kernel) rfl (hy))) (fun k ρ1 => ∃ (l : Int) (s1 s2 s3 : Sl), ρ1 = [.va b.enc, .va (.int number), .va (.int l), s1, s2, s3] ∧ 0 ≤ l ∧ atGo b ((lotsM b).drop k) l = atM b number) ⟨_, .un, .un, .un, rfl, by omega, fin.symm⟩ ?_ ?_)
  · rintro k d ρ1 hd ⟨l, s1, s2, s3, rfl, hl, hg⟩
    obtain ⟨lot, hlot, rfl⟩ := map_at hd
    have hm : lot ∈ lotsM b := List.mem_of_getElem? hlot
    have hk : k < (lotsM b).length := (List.getElem?_eq_some_iff.mp hlot).1
    have hdrop : (lotsM b).drop k = lot :: (lotsM b).drop (k + 1) := by
      rw [List.drop_eq_getElem_cons hk]
      congr 1
      exact (List.getElem?_eq_some_iff.mp hlot).2
    rw [hdrop] at hg
    refine ⟨_, _, (eg_name 3 nd rfl (.inl rfl)), wb_cons (w_set 4 nd rfl (.inl rfl) (ev_meth (g_many_for h) h.c_Between ((b, lot, b.top)) rfl (hr.mono (by decide)) (ev_var 0 rfl (.inl rfl) rfl) (.btw ..) (by decide +kernel) (ea_cons (ev_var 3 rfl (.inl rfl) rfl) (ea_cons (ev_meth0 (g_last_for h) h.c_Between (b) rfl (hr.mono (by decide)) (ev_var 0 rfl (.inl rfl) rfl) (.btw ..) (by decide +kernel) rfl (hy)) ea_nil)) rfl (⟨hy, lots_sub lot hm, tb.mono (show 200 ≤ 230 by decide)⟩)) ?_)⟩
    refine wb_cons (w_if (et_lt (ev_var 2 rfl (.inl rfl) rfl) (ev_var 4 rfl (.inl rfl) rfl)) (fun h3 => ?_) fun h3 => wb_nil (wb_cons (w_set 2 nd rfl (.inl rfl) (ev_sub (ev_var 2 rfl (.inl rfl) rfl) (ev_var 4 rfl (.inl rfl) rfl)) (wb_nil ⟨l - manyM b lot b.top, .va (encNt lot), .va (.int (manyM b lot b.top)), s3, rfl, ?_, ?_⟩))))
    · have h3 := of_decide_eq_true h3
      have ff := many_first hl h3
      obtain ⟨q1, q2⟩ := bsearch_in (manyM b lot) l (b.top - firstM b lot).toNat (firstM b lot) b.top ff
      have fb := first_bd hy (lots_sub lot hm) lot.length (Nat.le_refl _)
      rw [List.take_length] at fb
      have rb : Bd 200 (roomForM b lot l) := fb.mid tb q1 q2
      refine wb_cons (w_set 5 nd rfl (.inl rfl) (ev_meth (g_room_for h) h.c_Between ((b, lot, l)) rfl (hr.mono (by decide)) (ev_var 0 rfl (.inl rfl) rfl) (.btw ..) (by decide +kernel) (ea_cons (ev_var 3 rfl (.inl rfl) rfl) (ea_cons (ev_var 2 rfl (.inl rfl) rfl) ea_nil)) rfl (⟨hy, lots_sub lot hm⟩)) (wb_ret (ev_meth (g_made h) h.c_Between ((b, lot, roomForM b lot l, l - manyM b lot (roomForM b lot l - 1))) rfl (hr.mono (by decide)) (ev_var 0 rfl (.inl rfl) rfl) (.btw ..) (by decide +kernel) (ea_cons (ev_var 3 rfl (.inl rfl) rfl) (ea_cons (ev_var 5 rfl (.inl rfl) rfl) (ea_cons (ev_sub (ev_var 2 rfl (.inl rfl) rfl) (ev_meth (g_many_ahead h) h.c_Between ((b, lot, roomForM b lot l)) rfl (hr.mono (by decide)) (ev_var 0 rfl (.inl rfl) rfl) (.btw ..) (by decide +kernel) (ea_cons (ev_var 3 rfl (.inl rfl) rfl) (ea_cons (ev_var 5 rfl (.inl rfl) rfl) ea_nil)) rfl (⟨hy, lots_sub lot hm, rb.mono (show 200 ≤ 229 by decide)⟩))) ea_nil))) rfl (⟨hy, lots_l8 hy lot hm, rb, fun n hn => hw hwi.1 n hn _ q2⟩)) ?_))
      show _ = encOF (atM b number)
      rw [← hg]
      unfold atGo
      rw [if_pos h3]
      rfl
    · have h3 : ¬ l < manyM b lot b.top := of_decide_eq_false h3
      omega
    · have h3 : ¬ l < manyM b lot b.top := of_decide_eq_false h3
      rw [← hg]
      conv => rhs; unfold atGo
      rw [if_neg h3]
  · rintro ρ1 ⟨l, s1, s2, s3, rfl, hl, hg⟩
    rw [List.length_map, List.drop_length] at hg
    refine wb_ret ev_non ?_
    show D.non = encOF (atM b number)
    rw [← hg]
    rfl
end
end PL
/-! W20: rank_of -/
namespace PL
open PySem PySem.Spec PyProof.Rows L2
def ro (F : Fm) (n : Str) : Int := (entryM F n).2.getD 0
def hereM (b : Bt) (F : Fm) : List Str := b.ns.filter fun n => (entryM F n).1.isSome
def ltL (x y : List Str) : Bool := PySem.W.dataLt (encNt x).py (encNt y).py
def foundGo (b : Bt) (here : List Str) (x : Int) (ls : List (List Str)) : Int := ls.foldl (fun a lot => if ltL lot here = true then a + manyM b lot b.top else a) x
def withinStep (b : Bt) (F : Fm) (here : List Str) (room : Int) (w : Int) (n : Str) : Int := if n ∈ here then w else w * waysI (b.l n) (b.u n) room + (if ro F n = 0 then 0 else ro F n - max (max (b.l n) room) 1 + (if b.l n = 0 then 1 else 0))
def withinGo (b : Bt) (F : Fm) (here : List Str) (room : Int) (ns : List Str) : Int := ns.foldl (withinStep b F here room) 0
def hgt (F : Fm) : Int := (heightM F).getD 0
def rankM (b : Bt) (F : Fm) : Int := if F = nothingM then 0 else foundGo b (hereM b F) (if b.lo = nothingM then 1 else 0) (lotsM b) + manyM b (hereM b F) (hgt F - 1) + withinGo b F (hereM b F) (hgt F) b.ns
/-- a form whose rooms are ints, not too wide -/
structure FmI (b : Bt) (F : Fm) : Prop where
  len : F.1.length ≤ 15
  room : ∀ n ∈ b.ns, (entryM F n).2 = some (ro F n) ∧ Bd 200 (ro F n)
  high : heightM F = some (hgt F) ∧ Bd 200 (hgt F)
theorem found_next {b : Bt} {here : List Str} {x : Int} {ls : List (List Str)} {k : Nat} {lot : List Str} (h : ls[k]? = some lot) : foundGo b here x (ls.take (k + 1)) = (if ltL lot here = true then foundGo b here x (ls.take k) + manyM b lot b.top else foundGo b here x (ls.take k)) := by
  unfold foundGo
  rw [take_next h, List.foldl_append]
  rfl
theorem within_next {b : Bt} {F : Fm} {here : List Str} {x : Int} {ns : List Str} {k : Nat} {n : Str} (h : ns[k]? = some n) : withinGo b F here x (ns.take (k + 1)) = withinStep b F here x (withinGo b F here x (ns.take k)) n := by
  unfold withinGo
  rw [take_next h, List.foldl_append]
  rfl
theorem Bd.maxx {n : Nat} {i j : Int} (h1 : Bd n i) (h2 : Bd n j) : Bd n (max i j) := by
  unfold Bd at *
  omega
theorem Bd.one {n : Nat} (h : 1 ≤ n) : Bd n 1 := by
  unfold Bd
  exact Nat.lt_of_lt_of_le (by decide : (1 : Int).natAbs < 2 ^ 1) (Nat.pow_le_pow_right (by decide) h)
theorem Bd.zero {n : Nat} : Bd n 0 := by
  unfold Bd
  exact Nat.pow_pos (by decide)
theorem within_bd {b : Bt} (h : b.Ok) {F : Fm} (hF : FmI b F) (here : List Str) {x : Int} (hx : Bd 200 x) : ∀ k, k ≤ b.ns.length → Bd (210 * k + 210) (withinGo b F here x (b.ns.take k)) := by
  intro k
  induction k with
  | zero =>
    intro _
    exact Bd.zero
  | succ k ih =>
    intro hk
    have hn : b.ns[k]? = some b.ns[k] := List.getElem?_eq_getElem (by omega)
    have hm : b.ns[k] ∈ b.ns := List.getElem_mem _
    have ih := ih (by omega)
    rw [within_next hn]
    unfold withinStep
    have wb := ways_bd (h.li _ hm).2 (h.ui _ hm).2 hx (by decide)
    split
    · exact ih.mono (by omega)
    · refine (Bd.add ((ih.mul wb).mono (show _ ≤ 210 * k + 415 by omega)) ?_).mono (by omega)
      split
      · exact Bd.zero
      · refine Bd.mono (a := 202) (Bd.add (a := 201) (Bd.sub (hF.room _ hm).2 (Bd.maxx (Bd.maxx (h.li _ hm).2 hx) (Bd.one (by decide)))) ?_) (by omega)
        split
        · exact Bd.one (by decide)
        · exact Bd.zero
section
variable {c : Cn}
theorem g_rank_of (h : Hd c) : GoodM c (CB c) "rank_of" 7 ["self", "form"] (SpP c.K (ca c.K) (fun y : Bt × Fm => [y.1.enc, encF y.2]) (fun y => y.1.Ok ∧ FmI y.1 y.2) (fun y => .int (rankM y.1 y.2))) := by
  refine good_meth (N := ["self", "form", "here", "name", "room", "found", "lot", "within", "low", "high", "own", "at"]) h.m_Between_rank_of ⟨rfl, rfl, rfl, by decide +kernel, rfl, by decide +kernel, by decide +kernel⟩ (fun _ _ _ _ _ _ us hl => match us, hl with | [_, _], _ => rfl) (fun _ => rfl) (by decide) ?_
  rintro f cdv A outer s H E hr ⟨b, F⟩ ⟨hy, hF⟩
  have hy : b.Ok := hy
  have hF : FmI b F := hF
  have l1 := hy.l1
  have l2 := hy.l2
  have l3 := hy.l3
  have lf := hF.len
  have tb := hy.hh.2
  have xb := hF.high.2
  have nd : (["self", "form", "here", "name", "room", "found", "lot", "within", "low", "high", "own", "at"] : List Str).Nodup := by decide +kernel
  have q0 : ∀ G : Fm, PyData.eqv (encF G).py dNothing.py = decide (G = nothingM) := fun G => by
    rw [show dNothing = encF nothingM from rfl, encF_py]
  refine wb_cons (w_if (et_eq hr.units (ev_var 1 rfl (.inr (.inl rfl)) rfl) (ev_gref rfl h.g_NOTHING_rooms (fun B => h.kst.nothing _ B)) (eqF F nothingM)) (fun h1 => wb_ret ev_int ?r1) fun h1 => wb_nil ?_)
  case r1 =>
    rw [q0] at h1
    show _ = D.int (rankM b F)
    unfold rankM
    rw [if_pos (of_decide_eq_true h1)]
  rw [q0] at h1
  have h1 : ¬ F = nothingM := of_decide_eq_false h1
  have eh : D.tup (keepF (fun n => (entryM F n).1.isSome) D.str b.ns) = encNt (hereM b F) := rfl
  have hs : ∀ n ∈ hereM b F, n ∈ b.ns := fun n hn => (List.mem_filter.mp hn).1
  have hl8 : (hereM b F).length ≤ 8 := Nat.le_trans (List.length_filter_le _ _) l3
  refine wb_cons (w_set 2 nd rfl (.inl rfl) (EvE.to (ev_tupleL h.f_tuple (EvN.toE (en_lc (enc := (D.str)) (p := (fun n => (entryM F n).1.isSome)) (f := (D.str)) (xs := (b.ns)) rfl nd [("name", 3)] (blk_of rfl) (ei_tup (ev_fld h.c_Between h.n_Between_own_names (ev_var 0 rfl (.inl rfl) rfl) (.btw ..) rfl)) ⟨fun x hx => ⟨_, _, by decide, fun _ _ _ _ _ => ⟨(eg_name 3 nd rfl (.inl rfl)), (ets_one (EvT.to (et_val (ev_ixT (ev_call (g_side h) ((F, x)) rfl (hr.mono (by decide)) (ea_cons (ev_var 1 rfl (.inr (.inl rfl)) rfl) (ea_cons (ev_var 3 rfl (.inl rfl) rfl) ea_nil)) trivial) ev_int rfl)) rfl)), fun _ => (EvE.to (ev_var 3 rfl (.inl rfl) rfl) rfl)⟩⟩⟩ (by omega))) (.inl rfl)) eh) ?_)
  refine wb_cons (w_par 4 5 rfl nd rfl rfl (by decide) rfl rfl (ea_cons (EvE.to (ev_call (g_height_in h) (F) rfl (hr.mono (by decide)) (ea_cons (ev_var 1 rfl (.inr (.inl rfl)) rfl) ea_nil) (by show F.1.length ≤ 40; omega)) (show encO (heightM F) = .int (hgt F) by rw [hF.high.1]; rfl)) (ea_cons (EvE.to (ev_intB h.f_int (ev_eq hr.units (ev_fld h.c_Between h.n_Between_own_low (ev_var 0 rfl (.inl rfl) rfl) (.btw ..) rfl) (ev_gref rfl h.g_NOTHING_rooms (fun B => h.kst.nothing _ B)) (eqF b.lo nothingM))) (show _ = D.int (foundGo b (hereM b F) (if b.lo = nothingM then 1 else 0) ((lotsM b).take 0)) by rw [q0]; congr 1; by_cases e : b.lo = nothingM <;> simp [e, foundGo])) ea_nil)) ?_)
  refine wb_cons (w_for (fun _ _ h => h.elim) rfl (ei_lst (ev_meth0 (g_lots h) h.c_Between (b) rfl (hr.mono (by decide)) (ev_var 0 rfl (.inl rfl) rfl) (.btw ..) (by decide +kernel) rfl (hy))) (fun k ρ1 => ∃ s1 : Sl, ρ1 = [.va b.enc, .va (encF F), .va (encNt (hereM b F)), .un, .va (.int (hgt F)), .va (.int (foundGo b (hereM b F) (if b.lo = nothingM then 1 else 0) ((lotsM b).take k))), s1, .un, .un, .un, .un, .un]) ⟨.un, rfl⟩ ?_ ?_)
  · rintro k d ρ1 hd ⟨s1, rfl⟩
    obtain ⟨lot, hlot, rfl⟩ := map_at hd
    have hm : lot ∈ lotsM b := List.mem_of_getElem? hlot
    refine ⟨_, _, (eg_name 6 nd rfl (.inl rfl)), wb_cons (w_if (z := ltL lot (hereM b F)) (et_ltD hr.units (ev_var 6 rfl (.inl rfl) rfl) (ev_var 2 rfl (.inl rfl) rfl) (encNt_pl _) (encNt_pl _) (alike_strs _ _) (fun e => nomatch e) (Nat.le_trans (encNt_dp _) (by decide))) (fun h2 => ?_) fun h2 => ?_)⟩
    · refine wb_cons (w_set 5 nd rfl (.inl rfl) (ev_add (ev_var 5 rfl (.inl rfl) rfl) (ev_meth (g_many_for h) h.c_Between ((b, lot, b.top)) rfl (hr.mono (by decide)) (ev_var 0 rfl (.inl rfl) rfl) (.btw ..) (by decide +kernel) (ea_cons (ev_var 6 rfl (.inl rfl) rfl) (ea_cons (ev_meth0 (g_last_for h) h.c_Between (b) rfl (hr.mono (by decide)) (ev_var 0 rfl (.inl rfl) rfl) (.btw ..) (by decide +kernel) rfl (hy)) ea_nil)) rfl (⟨hy, lots_sub lot hm, tb.mono (show 200 ≤ 230 by decide)⟩))) (wb_nil (wb_nil ⟨.va (encNt lot), ?_⟩)))
      rw [found_next hlot, if_pos (c := ltL lot (hereM b F) = true) h2]
      rfl
    · refine wb_nil (wb_nil ⟨.va (encNt lot), ?_⟩)
      rw [found_next hlot, if_neg (c := ltL lot (hereM b F) = true) (by rw [h2]; exact Bool.false_ne_true)]
      rfl
  rintro ρ1 ⟨s1, rfl⟩
  rw [List.length_map, List.take_length]
  refine wb_cons (w_set 7 nd rfl (.inl rfl) ev_int ?_)
  refine wb_cons (w_for (fun _ _ h => h.elim) rfl (ei_tup (ev_fld h.c_Between h.n_Between_own_names (ev_var 0 rfl (.inl rfl) rfl) (.btw ..) rfl)) (fun k ρ1 => ∃ s1 s2 s3 s4 s5 s6 : Sl, ρ1 = [.va b.enc, .va (encF F), .va (encNt (hereM b F)), s2, .va (.int (hgt F)), .va (.int (foundGo b (hereM b F) (if b.lo = nothingM then 1 else 0) (lotsM b))), s1, .va (.int (withinGo b F (hereM b F) (hgt F) (b.ns.take k))), s3, s4, s5, s6]) ⟨_, .un, .un, .un, .un, .un, rfl⟩ ?_ ?_)
  · rintro k d ρ1 hd ⟨s1, s2, s3, s4, s5, s6, rfl⟩
    obtain ⟨n, hn, rfl⟩ := map_at hd
    have hm : n ∈ b.ns := List.mem_of_getElem? hn
    have hk : k < b.ns.length := (List.getElem?_eq_some_iff.mp hn).1
    have nx := within_next (b := b) (F := F) (here := hereM b F) (x := hgt F) hn
    have wi := within_bd hy hF (hereM b F) xb k (by omega)
    have wb := ways_bd (hy.li n hm).2 (hy.ui n hm).2 xb (by decide)
    have wm : CMulW (withinGo b F (hereM b F) (hgt F) (b.ns.take k)) (waysI (b.l n) (b.u n) (hgt F)) := wi.wide wb (by omega) (by decide) (by omega)
    have sd : encP (sideM F n) = .tup [.bl (entryM F n).1.isSome, .int (ro F n)] := by
      unfold encP sideM
      rw [(hF.room n hm).1]
      rfl
    refine ⟨_, _, (eg_name 3 nd rfl (.inl rfl)), wb_cons (w_if (z := !decide (n ∈ hereM b F)) (EvT.to (et_notIn (v := .str n) (vs := (hereM b F).map V.str) (ev_var 3 rfl (.inl rfl) rfl) (ev_var 2 rfl (.inl rfl) rfl) rfl (.inr rfl) (fvs_strs _)) (by rw [inV_strs])) (fun h2 => ?_) fun h2 => ?_)⟩
    · have h2 : ¬ n ∈ hereM b F := by simpa using h2
      refine wb_cons (w_par3 8 9 10 rfl nd rfl rfl rfl (by decide) (by decide) (by decide) rfl rfl rfl (ea_cons (ev_ixT (EvE.to (ev_call (g_side h) ((b.lo, n)) rfl (hr.mono (by decide)) (ea_cons (ev_fld h.c_Between h.n_Between_own_low (ev_var 0 rfl (.inl rfl) rfl) (.btw ..) rfl) (ea_cons (ev_var 3 rfl (.inl rfl) rfl) ea_nil)) trivial) (sideL hy hm)) ev_int rfl) (ea_cons (ev_ixT (EvE.to (ev_call (g_side h) ((b.hi, n)) rfl (hr.mono (by decide)) (ea_cons (ev_fld h.c_Between h.n_Between_own_high (ev_var 0 rfl (.inl rfl) rfl) (.btw ..) rfl) (ea_cons (ev_var 3 rfl (.inl rfl) rfl) ea_nil)) trivial) (sideU hy hm)) ev_int rfl) (ea_cons (ev_ixT (EvE.to (ev_call (g_side h) ((F, n)) rfl (hr.mono (by decide)) (ea_cons (ev_var 1 rfl (.inr (.inl rfl)) rfl) (ea_cons (ev_var 3 rfl (.inl rfl) rfl) ea_nil)) trivial) sd) ev_int rfl) ea_nil))) ?_ fun _ ha => ps_par3 rfl nd rfl rfl rfl (by decide) (by decide) (by decide) rfl rfl rfl ha rfl rfl)
      refine wb_cons (w_set 11 nd rfl (.inl rfl) (d := .int (if ro F n = 0 then 0 else ro F n - max (max (b.l n) (hgt F)) 1)) (EvE.to (ev_ite (EvW.t (ew_or (et_eq hr.units (ev_var 10 rfl (.inl rfl) rfl) ev_int (eqInt _ _)) (fun _ => (ew_or (et_isN (ev_var 4 rfl (.inl rfl) rfl)) (fun _ => (ew_or1 (et_isN (ev_var 8 rfl (.inl rfl) rfl)))))))) (fun _ => ev_int) (fun _ => (ev_sub (ev_var 10 rfl (.inl rfl) rfl) (ev_max3 rfl h.f_max (ev_var 8 rfl (.inl rfl) rfl) (ev_var 4 rfl (.inl rfl) rfl) ev_int)))) ?q1) ?_)
      case q1 =>
        rw [int_py]
        by_cases h0 : ro F n = 0 <;> simp [h0, D.isNon]
      refine wb_cons (w_set 7 nd rfl (.inl rfl) (d := .int (withinStep b F (hereM b F) (hgt F) (withinGo b F (hereM b F) (hgt F) (b.ns.take k)) n)) (EvE.to (ev_add (j := if ro F n = 0 then 0 else ro F n - max (max (b.l n) (hgt F)) 1 + (if b.l n = 0 then 1 else 0)) (ev_mulW (ev_var 7 rfl (.inl rfl) rfl) (ev_call (g_ways_of h) ((b.l n, b.u n, hgt F)) rfl (hr.mono (by decide)) (ea_cons (ev_var 8 rfl (.inl rfl) rfl) (ea_cons (ev_var 9 rfl (.inl rfl) rfl) (ea_cons (ev_var 4 rfl (.inl rfl) rfl) ea_nil))) trivial) wm) (EvE.to (ev_ite (et_ne hr.units (ev_var 10 rfl (.inl rfl) rfl) ev_int (eqInt _ _)) (fun _ => (ev_add (ev_var 11 rfl (.inl rfl) rfl) (ev_intB h.f_int (ev_eq hr.units (ev_var 8 rfl (.inl rfl) rfl) ev_int (eqInt _ _))))) (fun _ => ev_int)) ?q3)) ?q2) (wb_nil (wb_nil ⟨s1, .va (.str n), .va (.int (b.l n)), .va (.int (b.u n)), .va (.int (ro F n)), .va (.int (if ro F n = 0 then 0 else ro F n - max (max (b.l n) (hgt F)) 1)), ?_⟩)))
      case q2 =>
        unfold withinStep
        rw [if_neg h2]
      case q3 =>
        rw [int_py, int_py]
        by_cases h0 : ro F n = 0 <;> by_cases h3 : b.l n = 0 <;> simp [h0, h3]
      rw [nx]
      rfl
    · have h2 : n ∈ hereM b F := by simpa using h2
      refine wb_nil (wb_nil ⟨s1, .va (.str n), s3, s4, s5, s6, ?_⟩)
      rw [nx]
      unfold withinStep
      rw [if_pos h2]
      rfl
  · rintro ρ1 ⟨s1, s2, s3, s4, s5, s6, rfl⟩
    rw [List.length_map, List.take_length]
    refine wb_ret (ev_add (ev_add (ev_var 5 rfl (.inl rfl) rfl) (ev_meth (g_many_ahead h) h.c_Between ((b, hereM b F, hgt F)) rfl (hr.mono (by decide)) (ev_var 0 rfl (.inl rfl) rfl) (.btw ..) (by decide +kernel) (ea_cons (ev_var 2 rfl (.inl rfl) rfl) (ea_cons (ev_var 4 rfl (.inl rfl) rfl) ea_nil)) rfl (⟨hy, hs, xb.mono (show 200 ≤ 229 by decide)⟩))) (ev_var 7 rfl (.inl rfl) rfl)) ?_
    show _ = D.int (rankM b F)
    unfold rankM
    rw [if_neg h1]
end
end PL
/-! W21: the four questions -/
namespace PL
open PySem PySem.Spec PyProof.Rows L2
def tbM (F G : Fm) (ns : List Str) : Bt := ⟨overM F ns, overM G ns, ssetS ns⟩
def encN2 (b : Bool) (ns : List Str) : D := if b = true then encNs ns else encNt ns
structure Q3 where
  F : Fm
  G : Fm
  b : Bool
  ns : List Str
def Q3.t (q : Q3) : Bt := tbM q.F q.G q.ns
def Q3.args (q : Q3) : List D := [encPip q.F, encPip q.G, encN2 q.b q.ns]
def nthM (F G : Fm) (ns : List Str) (k : Int) : Fm := match atM (tbM F G ns) k with
  | some H => formStepsM (plainM H)
  | none => nothingM
section
variable {c : Cn}
theorem g_table_for (h : Hd c) : Good c "table_for" 5 ["p", "q", "names"] (SpP c.K (ca c.K) Q3.args (fun y => y.ns.length < 64) (fun y => y.t.enc)) := by
  refine good_def (N := ["p", "q", "names"]) h.d_table_for ⟨rfl, rfl, rfl, by decide +kernel, rfl, by decide +kernel, by decide +kernel⟩ (fun _ _ _ _ _ _ us hl => match us, hl with | [_, _, _], _ => rfl) (fun _ => rfl) (by decide) ?_
  rintro f cdv A outer s H E hr ⟨F, G, b, ns⟩ hl
  have hl : ns.length < 64 := hl
  have nd : (["p", "q", "names"] : List Str).Nodup := by decide +kernel
  exact wb_ret (ev_make (i_btw h) h.g_Between (fun _ => .nil) ((overM F ns, overM G ns, b, ns)) rfl (hr.mono (by decide)) (ea_cons (ev_call (g_over_names h) ((F, b, ns)) rfl (hr.mono (by decide)) (ea_cons (ev_prop (g_pip_form h) h.c_Pipeline (F) rfl (hr.mono (by decide)) (ev_var 0 rfl (.inl rfl) rfl) (.pip ..) rfl trivial) (ea_cons (ev_var 2 rfl (.inl rfl) rfl) ea_nil)) (hl)) (ea_cons (ev_call (g_over_names h) ((G, b, ns)) rfl (hr.mono (by decide)) (ea_cons (ev_prop (g_pip_form h) h.c_Pipeline (G) rfl (hr.mono (by decide)) (ev_var 1 rfl (.inl rfl) rfl) (.pip ..) rfl trivial) (ea_cons (ev_var 2 rfl (.inl rfl) rfl) ea_nil)) (hl)) (ea_cons (ev_var 2 rfl (.inl rfl) rfl) ea_nil))) rfl (hl)) rfl
theorem g_many_between (h : Hd c) : Good c "many_between" 7 ["p", "q", "names"] (SpP c.K (ca c.K) Q3.args (fun y => y.ns.length < 64 ∧ y.t.Ok) (fun y => .int (inAllM y.t))) := by
  refine good_def (N := ["p", "q", "names"]) h.d_many_between ⟨rfl, rfl, rfl, by decide +kernel, rfl, by decide +kernel, by decide +kernel⟩ (fun _ _ _ _ _ _ us hl => match us, hl with | [_, _, _], _ => rfl) (fun _ => rfl) (by decide) ?_
  rintro f cdv A outer s H E hr y ⟨hl, hy⟩
  exact wb_ret (ev_meth0 (g_in_all h) h.c_Between (y.t) rfl (hr.mono (by decide)) (ev_call (g_table_for h) (y) rfl (hr.mono (by decide)) (ea_cons (ev_var 0 rfl (.inl rfl) rfl) (ea_cons (ev_var 1 rfl (.inl rfl) rfl) (ea_cons (ev_var 2 rfl (.inl rfl) rfl) ea_nil))) (hl)) (.btw ..) (by decide +kernel) rfl (hy)) rfl
theorem g_nth_between (h : Hd c) : Good c "nth_between" 10 ["p", "q", "names", "number"] (SpP c.K (ca c.K) (fun y : Q3 × Int => y.1.args ++ [.int y.2]) (fun y => y.1.ns.length < 64 ∧ y.1.t.Ok ∧ (withinM y.1.t.lo y.1.t.hi = true → y.1.t.Ways) ∧ ∃ H, atM y.1.t y.2 = some H ∧ Plain H ∧ StepsOk (plainM H)) (fun y => encPip (nthM y.1.F y.1.G y.1.ns y.2))) := by
  refine good_def (N := ["p", "q", "names", "number", "found"]) h.d_nth_between ⟨rfl, rfl, rfl, by decide +kernel, rfl, by decide +kernel, by decide +kernel⟩ (fun _ _ _ _ _ _ us hl => match us, hl with | [_, _, _, _], _ => rfl) (fun _ => rfl) (by decide) ?_
  rintro f cdv A outer s H E hr ⟨y, k⟩ ⟨hl, hy, hw, M, hM, hp, hs⟩
  have hl : y.ns.length < 64 := hl
  have hy : y.t.Ok := hy
  have hM : atM y.t k = some M := hM
  have nd : (["p", "q", "names", "number", "found"] : List Str).Nodup := by decide +kernel
  refine wb_cons (w_set 4 nd rfl (.inl rfl) (EvE.to (ev_meth (g_at h) h.c_Between ((y.t, k)) rfl (hr.mono (by decide)) (ev_call (g_table_for h) (y) rfl (hr.mono (by decide)) (ea_cons (ev_var 0 rfl (.inl rfl) rfl) (ea_cons (ev_var 1 rfl (.inl rfl) rfl) (ea_cons (ev_var 2 rfl (.inl rfl) rfl) ea_nil))) (hl)) (.btw ..) (by decide +kernel) (ea_cons (ev_var 3 rfl (.inl rfl) rfl) ea_nil) rfl (⟨hy, hw⟩)) (show _ = encF M by show encOF (atM y.t k) = _; rw [hM]; rfl)) ?_)
  refine wb_cons (w_if (EvT.to (et_isN (ev_var 4 rfl (.inl rfl) rfl)) (show (encF M).isNon = false from rfl)) (fun h1 => nomatch h1) fun _ => wb_nil (wb_ret (ev_call (g_pipeline_of h) (M) rfl (hr.mono (by decide)) (ea_cons (ev_var 4 rfl (.inl rfl) rfl) ea_nil) (⟨hp, hs⟩)) ?_))
  show _ = encPip (nthM y.F y.G y.ns k)
  unfold nthM
  rw [show atM (tbM y.F y.G y.ns) k = some M from hM]
theorem g_rank_between (h : Hd c) : Good c "rank_between" 8 ["p", "q", "names", "third"] (SpP c.K (ca c.K) (fun y : Q3 × Fm => y.1.args ++ [encPip y.2]) (fun y => y.1.ns.length < 64 ∧ y.1.t.Ok ∧ FmI y.1.t y.2 ∧ overM y.2 y.1.ns = y.2 ∧ withinM y.1.t.lo y.2 = true ∧ withinM y.2 y.1.t.hi = true) (fun y => .int (rankM y.1.t y.2))) := by
  refine good_def (N := ["p", "q", "names", "third", "table"]) h.d_rank_between ⟨rfl, rfl, rfl, by decide +kernel, rfl, by decide +kernel, by decide +kernel⟩ (fun _ _ _ _ _ _ us hl => match us, hl with | [_, _, _, _], _ => rfl) (fun _ => rfl) (by decide) ?_
  rintro f cdv A outer s H E hr ⟨y, M⟩ ⟨hl, hy, hM, ho, h1, h2⟩
  have hl : y.ns.length < 64 := hl
  have hy : y.t.Ok := hy
  have hM : FmI y.t M := hM
  have ho : overM M y.ns = M := ho
  have h1 : withinM y.t.lo M = true := h1
  have h2 : withinM M y.t.hi = true := h2
  have nd : (["p", "q", "names", "third", "table"] : List Str).Nodup := by decide +kernel
  refine wb_cons (w_set 4 nd rfl (.inl rfl) (ev_call (g_table_for h) (y) rfl (hr.mono (by decide)) (ea_cons (ev_var 0 rfl (.inl rfl) rfl) (ea_cons (ev_var 1 rfl (.inl rfl) rfl) (ea_cons (ev_var 2 rfl (.inl rfl) rfl) ea_nil))) (hl)) ?_)
  refine wb_cons (w_if (z := false) (EvT.to (EvW.t (ew_or (EvT.to (et_ne hr.units (ev_call (g_over_names h) ((M, y.b, y.ns)) rfl (hr.mono (by decide)) (ea_cons (ev_prop (g_pip_form h) h.c_Pipeline (M) rfl (hr.mono (by decide)) (ev_var 3 rfl (.inl rfl) rfl) (.pip ..) rfl trivial) (ea_cons (ev_var 2 rfl (.inl rfl) rfl) ea_nil)) (hl)) (ev_prop (g_pip_form h) h.c_Pipeline (M) rfl (hr.mono (by decide)) (ev_var 3 rfl (.inl rfl) rfl) (.pip ..) rfl trivial) (eqF (overM M y.ns) M)) (show _ = false by rw [encF_py, ho]; simp)) fun _ => ew_or1 (EvT.to (et_not (et_val (ev_meth (g_has h) h.c_Between ((y.t, M)) rfl (hr.mono (by decide)) (ev_var 4 rfl (.inl rfl) rfl) (.btw ..) (by decide +kernel) (ea_cons (ev_prop (g_pip_form h) h.c_Pipeline (M) rfl (hr.mono (by decide)) (ev_var 3 rfl (.inl rfl) rfl) (.pip ..) rfl trivial) ea_nil) rfl (⟨hy, hM.len⟩)))) (show _ = false by show (!(withinM y.t.lo M && withinM M y.t.hi)) = false; rw [h1, h2]; rfl)))) rfl) (fun h1 => nomatch h1) fun _ => wb_nil ?_)
  exact wb_ret (ev_ifF (et_val (ev_meth0 (g_is_endless h) h.c_Between (y.t) rfl (hr.mono (by decide)) (ev_var 4 rfl (.inl rfl) rfl) (.btw ..) (by decide +kernel) rfl (hy))) (ev_meth (g_rank_of h) h.c_Between ((y.t, M)) rfl (hr.mono (by decide)) (ev_var 4 rfl (.inl rfl) rfl) (.btw ..) (by decide +kernel) (ea_cons (ev_prop (g_pip_form h) h.c_Pipeline (M) rfl (hr.mono (by decide)) (ev_var 3 rfl (.inl rfl) rfl) (.pip ..) rfl trivial) ea_nil) rfl (⟨hy, hM⟩))) rfl
end
end PL
namespace PL
/-! ### sums by differences -/
def bi : Nat → Nat → Nat
  | _, 0 => 1
  | 0, _ + 1 => 0
  | n + 1, k + 1 => bi n k + bi n (k + 1)
theorem bi0 (n : Nat) : bi n 0 = 1 := by cases n <;> rfl
theorem bi_mul : ∀ n k : Nat, (bi n (k + 1) : Int) * (k + 1) = bi n k * ((n : Int) - k)
  | 0, 0 => by simp [bi]
  | 0, k + 1 => by simp [bi]
  | n + 1, 0 => by
    have h := bi_mul n 0
    simp only [bi, bi0] at h ⊢
    push_cast at h ⊢
    omega
  | n + 1, k + 1 => by
    have h0 := bi_mul n k
    have h1 := bi_mul n (k + 1)
    simp only [bi] at h0 h1 ⊢
    push_cast at h0 h1 ⊢
    grind
theorem choose_bi (n : Nat) : ∀ k : Nat, chooseM (n : Int) k = bi n k
  | 0 => by simp [chooseM, bi0]
  | k + 1 => by
    unfold chooseM
    rw [choose_bi n k, ← bi_mul n k]
    exact Int.mul_ediv_cancel _ (by omega)
def sm (f : Int → Int) (a : Int) : Nat → Int
  | 0 => 0
  | m + 1 => sm f a m + f (a + m)
def dl (f : Int → Int) (x : Int) : Int := f (x + 1) - f x
def DN : Nat → (Int → Int) → Int → Int
  | 0, f => f
  | k + 1, f => DN k (dl f)
def Dg : Nat → (Int → Int) → Prop
  | 0, f => ∀ x, f x = 0
  | d + 1, f => Dg d (dl f)
def nw (f : Int → Int) (a : Int) (m : Nat) : Nat → Int
  | 0 => 0
  | k + 1 => nw f a m k + DN k f a * bi m (k + 1)
def nw0 (f : Int → Int) (a : Int) (m : Nat) : Nat → Int
  | 0 => 0
  | k + 1 => nw0 f a m k + DN k f a * bi m k
theorem sm_dl (f : Int → Int) (a : Int) : ∀ m : Nat, sm (dl f) a m = f (a + m) - f a
  | 0 => by simp [sm]
  | m + 1 => by
    simp only [sm, sm_dl f a m, dl]
    have e : a + (m : Int) + 1 = a + ((m + 1 : Nat) : Int) := by omega
    rw [e]
    omega
theorem nw_succ (f : Int → Int) (a : Int) (m : Nat) : ∀ K, nw f a (m + 1) K = nw f a m K + nw0 f a m K
  | 0 => rfl
  | K + 1 => by
    simp only [nw, nw0, nw_succ f a m K, bi]
    push_cast
    grind
theorem nw0_succ (f : Int → Int) (a : Int) (m : Nat) : ∀ d, nw0 f a m (d + 1) = f a + nw (dl f) a m d
  | 0 => by simp [nw0, nw, DN, bi0]
  | d + 1 => by
    have h := nw0_succ f a m d
    rw [nw0, h]
    simp only [nw, DN]
    omega
theorem nw_zero (f : Int → Int) (a : Int) : ∀ K, nw f a 0 K = 0
  | 0 => rfl
  | K + 1 => by simp [nw, nw_zero f a K, bi]
theorem newton : ∀ (d : Nat) (f : Int → Int) (a : Int), Dg d f → ∀ m, sm f a m = nw f a m d
  | 0, f, a, h => fun m => by
    induction m with
    | zero => rfl
    | succ m ih =>
      have := h (a + (m : Int))
      simp only [sm, nw, ih] at *
      omega
  | d + 1, f, a, h => fun m => by
    induction m with
    | zero => simp [sm, nw_zero]
    | succ m ih =>
      rw [nw_succ, nw0_succ, ← newton d (dl f) a h m, sm_dl, sm, ih]
      generalize nw f a m (d + 1) = z
      omega
theorem DN_out : ∀ (k : Nat) (f : Int → Int) (x : Int), DN (k + 1) f x = DN k f (x + 1) - DN k f x
  | 0, f, x => rfl
  | k + 1, f, x => DN_out k (dl f) x
theorem diffs_range (n : Nat) (h : Nat → Int) : diffs ((List.range n).map h) = (List.range (n - 1)).map fun t => h (t + 1) - h t := by
  unfold diffs
  apply List.ext_getElem
  · simp
  · intro i h1 h2
    simp
theorem diffN_range (f : Int → Int) (a : Int) (n : Nat) : ∀ k, diffN k ((List.range n).map fun t : Nat => f (a + (t : Int))) = (List.range (n - k)).map fun t : Nat => DN k f (a + (t : Int))
  | 0 => rfl
  | k + 1 => by
    rw [diffN, diffN_range f a n k, diffs_range]
    have : n - k - 1 = n - (k + 1) := by omega
    rw [this]
    apply List.map_congr_left
    intro t _
    have e : a + ((t + 1 : Nat) : Int) = a + (t : Int) + 1 := by omega
    rw [DN_out, e]
theorem diffN_head (f : Int → Int) (a : Int) {n k : Nat} (h : k < n) : (diffN k ((List.range n).map fun t : Nat => f (a + (t : Int)))).headD 0 = DN k f a := by
  rw [diffN_range]
  obtain ⟨m, hm⟩ : ∃ m, n - k = m + 1 := ⟨n - k - 1, by omega⟩
  rw [hm, List.range_succ_eq_map]
  simp
theorem found_nw (f : Int → Int) (a : Int) (n m : Nat) : ∀ k, k ≤ n → foundM (m : Int) ((List.range n).map fun t : Nat => f (a + (t : Int))) k = nw f a m k
  | 0, _ => rfl
  | k + 1, h => by
    rw [foundM, found_nw f a n m k (by omega), diffN_head f a (by omega), choose_bi, nw]
/-! products of lines -/
theorem Dg.add : ∀ (d : Nat) {f g : Int → Int}, Dg d f → Dg d g → Dg d (fun x => f x + g x)
  | 0, f, g, hf, hg => fun x => by
    have h1 := hf x
    have h2 := hg x
    show f x + g x = 0
    omega
  | d + 1, f, g, hf, hg => by
    have h : Dg d (fun x => dl f x + dl g x) := Dg.add d hf hg
    have e : dl (fun x => f x + g x) = fun x => dl f x + dl g x := by
      funext x
      simp only [dl]
      omega
    show Dg d (dl fun x => f x + g x)
    rw [e]
    exact h
theorem Dg.smul (c : Int) : ∀ (d : Nat) {f : Int → Int}, Dg d f → Dg d (fun x => c * f x)
  | 0, f, hf => fun x => by simp [hf x]
  | d + 1, f, hf => by
    have h : Dg d (fun x => c * dl f x) := Dg.smul c d hf
    have e : dl (fun x => c * f x) = fun x => c * dl f x := by
      funext x
      unfold dl
      grind
    show Dg d (dl fun x => c * f x)
    rw [e]
    exact h
theorem Dg.shift : ∀ (d : Nat) {f : Int → Int}, Dg d f → Dg d (fun x => f (x + 1))
  | 0, f, hf => fun x => hf (x + 1)
  | d + 1, f, hf => Dg.shift d (f := dl f) hf
theorem Dg.up : ∀ (d : Nat) {f : Int → Int}, Dg d f → Dg (d + 1) f
  | 0, f, hf => fun x => by simp [dl, show ∀ x, f x = 0 from hf]
  | d + 1, f, hf => Dg.up d (f := dl f) hf
theorem Dg.line (p q : Int) : ∀ (d : Nat) {f : Int → Int}, Dg d f → Dg (d + 1) (fun x => f x * (p + q * x))
  | 0, f, hf => fun x => by simp [dl, show ∀ x, f x = 0 from hf]
  | d + 1, f, hf => by
    have h : Dg (d + 1) (fun x => dl f x * (p + q * x)) := Dg.line p q d (f := dl f) hf
    have h2 : Dg (d + 1) (fun x => q * f (x + 1)) := Dg.smul q (d + 1) (Dg.shift (d + 1) hf)
    have e : dl (fun x => f x * (p + q * x)) = fun x => dl f x * (p + q * x) + q * f (x + 1) := by
      funext x
      unfold dl
      grind
    show Dg (d + 1) (dl fun x => f x * (p + q * x))
    rw [e]
    exact Dg.add (d + 1) h h2
/-- on r of a set, the ways of each row are one line -/
theorem ways_line (P : Int → Prop) : ∀ (rows : List (Int × Int)) (d : Nat) (f : Int → Int), Dg d f → (∀ p ∈ rows, ∃ u v : Int, ∀ r, P r → waysI p.1 p.2 r = u + v * r) →
    ∃ g, Dg (d + rows.length) g ∧ ∀ r, P r → rows.foldl (fun a p => a * waysI p.1 p.2 r) (f r) = g r
  | [], d, f, hf, _ => ⟨f, hf, fun _ _ => rfl⟩
  | p :: rows, d, f, hf, h => by
    obtain ⟨u, v, huv⟩ := h p List.mem_cons_self
    obtain ⟨g, hg, hq⟩ := ways_line P rows (d + 1) (fun x => f x * (u + v * x)) (Dg.line u v d hf) fun p hp => h p (List.mem_cons_of_mem _ hp)
    refine ⟨g, ?_, fun r hr => ?_⟩
    · have e : d + (p :: rows).length = d + 1 + rows.length := by simp; omega
      rw [e]
      exact hg
    · rw [List.foldl_cons, huv r hr]
      exact hq r hr
theorem vals_sum (f : Int → Int) (a : Int) : ∀ n : Nat, ((List.range n).map fun t : Nat => f (a + (t : Int))).sum = sm f a n
  | 0 => rfl
  | n + 1 => by
    rw [List.range_succ, List.map_append, List.sum_append, vals_sum f a n]
    simp [sm]
theorem sm_congr {f g : Int → Int} {a : Int} : ∀ n : Nat, (∀ t : Nat, t < n → f (a + t) = g (a + t)) → sm f a n = sm g a n
  | 0, _ => rfl
  | n + 1, h => by rw [sm, sm, sm_congr n fun t ht => h t (by omega), h n (by omega)]
theorem sumOf_sm {rows : List (Int × Int)} {first last : Int} (hle : first ≤ last) (h : ∀ p ∈ rows, ∃ u v : Int, ∀ r, first ≤ r ∧ r ≤ last → waysI p.1 p.2 r = u + v * r) : sumOfM rows first last = sm (waysAt rows) first (last - first + 1).toNat := by
  unfold sumOfM
  split
  · exact vals_sum (waysAt rows) first _
  · rename_i hn
    obtain ⟨g, hg, hq⟩ := ways_line (fun r => first ≤ r ∧ r ≤ last) rows 1 (fun _ => 1) (fun x => by simp [dl]) h
    have ev : valsM rows first (rows.length + 1) = (List.range (rows.length + 1)).map fun t : Nat => g (first + (t : Int)) := by
      unfold valsM
      apply List.map_congr_left
      intro t ht
      have := List.mem_range.mp ht
      exact hq _ ⟨by omega, by omega⟩
    have em : last - first + 1 = ((last - first + 1).toNat : Int) := by omega
    rw [ev, em, found_nw g first _ _ _ (Nat.le_refl _), ← newton _ g first (by rw [Nat.add_comm]; exact hg)]
    simp only [Int.toNat_natCast]
    refine sm_congr _ fun t ht => ?_
    exact (hq _ ⟨by omega, by omega⟩).symm
end PL
namespace PL
/-! ### the sum to a room is the sum of all ways -/
theorem sm_split (f : Int → Int) (a : Int) (m : Nat) : ∀ n : Nat, sm f a (m + n) = sm f a m + sm f (a + m) n
  | 0 => by simp [sm]
  | n + 1 => by
    have e : a + ((m + n : Nat) : Int) = a + (m : Int) + (n : Int) := by omega
    show sm f a (m + n) + f (a + ((m + n : Nat) : Int)) = _
    rw [sm_split f a m n, e, sm]
    omega
theorem zip_tele {f : Int × Int → Int} {S : Int → Int} : ∀ {xs : List Int} {x : Int}, (∀ p ∈ (x :: xs).zip xs, f p = S p.2 - S p.1) → (((x :: xs).zip xs).map f).sum = S ((x :: xs).getLast (by simp)) - S x
  | [], x, _ => by simp
  | y :: ys, x, h => by
    have ih := zip_tele (f := f) (S := S) (xs := ys) (x := y) fun p hp => h p (List.mem_cons_of_mem _ hp)
    have h0 := h (x, y) (by simp)
    simp only [List.zip_cons_cons, List.map_cons, List.sum_cons] at ih ⊢
    rw [ih, h0, List.getLast_cons_cons]
    show S y - S x + _ = _
    omega
theorem zip_gap : ∀ {xs : List Int}, xs.Pairwise (· < ·) → ∀ p ∈ xs.zip xs.tail, ∀ x ∈ xs, x ≤ p.1 ∨ p.2 ≤ x
  | [], _, p, hp, x, hx => by cases hx
  | [y], _, p, hp, x, hx => by simp at hp
  | y :: z :: r, h, p, hp, x, hx => by
    obtain ⟨h1, h2⟩ := List.pairwise_cons.mp h
    rcases List.mem_cons.mp (show p ∈ (y, z) :: (z :: r).zip r from hp) with e | hp
    · rw [e]
      rcases List.mem_cons.mp hx with e2 | hx
      · exact .inl (by rw [e2]; exact Int.le_refl _)
      · rcases List.mem_cons.mp hx with e2 | hx
        · exact .inr (by rw [e2]; exact Int.le_refl _)
        · exact .inr (Int.le_of_lt ((List.pairwise_cons.mp h2).1 x hx))
    · rcases List.mem_cons.mp hx with e2 | hx
      · left
        have := h1 p.1 (List.of_mem_zip (a := p.1) (b := p.2) hp).1
        omega
      · exact zip_gap h2 p hp x hx
theorem piece_line {l u a c r : Int} (h1 : max l 1 ≤ a ∨ c ≤ max l 1) (h2 : u + 1 ≤ a ∨ c ≤ u + 1) : ∃ x y : Int, ∀ r, a ≤ r ∧ r ≤ c - 1 → waysI l u r = x + y * r := by
  unfold waysI
  generalize (if l = 0 then (1 : Int) else 0) = w
  rcases h1 with h1 | h1
  · rcases h2 with h2 | h2
    · exact ⟨w, 0, fun r hr => by omega⟩
    · exact ⟨w + u + 1, -1, fun r hr => by omega⟩
  · exact ⟨w + max 0 (u - max l 1 + 1), 0, fun r hr => by omega⟩
theorem getLast_big : ∀ {xs : List Int} (h : xs ≠ []), xs.Pairwise (· < ·) → ∀ x ∈ xs, x ≤ xs.getLast h
  | [y], _, _, x, hx => by
    simp at hx
    simp [hx]
  | y :: z :: r, _, h, x, hx => by
    obtain ⟨h1, h2⟩ := List.pairwise_cons.mp h
    have ih := getLast_big (xs := z :: r) (by simp) h2
    rw [List.getLast_cons_cons]
    rcases List.mem_cons.mp hx with e | hx
    · have := h1 z List.mem_cons_self
      have := ih z List.mem_cons_self
      omega
    · exact ih x hx
theorem sumTo_sm (rows : List (Int × Int)) {first last : Int} (hle : first ≤ last) : sumToM rows first last = sm (waysAt rows) first (last - first + 1).toNat := by
  unfold sumToM
  rw [if_pos hle]
  have hp := ssetI_lt ([first, last + 1] ++ rows.flatMap (stopsM first last))
  have hm : ∀ x, x ∈ placesM rows first last ↔ (x = first ∨ x = last + 1) ∨ ∃ p ∈ rows, (x = max p.1 1 ∨ x = p.2 + 1) ∧ first < x ∧ x ≤ last := fun x => by
    unfold placesM
    rw [ssetI_mem, List.mem_append, List.mem_flatMap]
    constructor
    · rintro (h | ⟨p, hp, hx⟩)
      · left
        simpa using h
      · right
        unfold stopsM at hx
        obtain ⟨h1, h2⟩ := List.mem_filter.mp hx
        simp at h1 h2
        exact ⟨p, hp, h1, h2⟩
    · rintro (h | ⟨p, hp, h1, h2⟩)
      · left
        simpa using h
      · right
        refine ⟨p, hp, List.mem_filter.mpr ⟨by simpa using h1, by simpa using h2⟩⟩
  have hp : (placesM rows first last).Pairwise (· < ·) := hp
  generalize placesM rows first last = ps at hm hp
  cases ps with
  | nil =>
    have := (hm first).mpr (.inl (.inl rfl))
    cases this
  | cons x xs =>
    have bd : ∀ y ∈ x :: xs, first ≤ y ∧ y ≤ last + 1 := fun y hy => by
      rcases (hm y).mp hy with (h | h) | ⟨p, _, _, h1, h2⟩ <;> omega
    have ex : x = first := by
      have h0 := (hm first).mpr (.inl (.inl rfl))
      have h1 := (bd x List.mem_cons_self).1
      rcases List.mem_cons.mp h0 with e | h0
      · exact e.symm
      · have := (List.pairwise_cons.mp hp).1 first h0
        omega
    have el : (x :: xs).getLast (by simp) = last + 1 := by
      have h0 := (hm (last + 1)).mpr (.inl (.inr rfl))
      have h1 := getLast_big (by simp) hp _ h0
      have h2 := (bd _ (List.getLast_mem (by simp : x :: xs ≠ []))).2
      omega
    have key : ∀ p ∈ (x :: xs).zip xs, sumOfM rows p.1 (p.2 - 1) = (fun z => sm (waysAt rows) first (z - first).toNat) p.2 - (fun z => sm (waysAt rows) first (z - first).toNat) p.1 := fun p hpz => by
      obtain ⟨m1, m2⟩ := List.of_mem_zip (a := p.1) (b := p.2) hpz
      have b1 := bd _ m1
      have b2 := bd _ (List.mem_cons_of_mem _ m2)
      have lt := zip_lt hp p hpz
      rw [sumOf_sm (by omega) fun q hq => ?_]
      · show _ = sm (waysAt rows) first (p.2 - first).toNat - sm (waysAt rows) first (p.1 - first).toNat
        have e : (p.2 - first).toNat = (p.1 - first).toNat + (p.2 - 1 - p.1 + 1).toNat := by omega
        have e2 : first + ((p.1 - first).toNat : Int) = p.1 := by omega
        rw [e, sm_split, e2]
        omega
      · have st : ∀ y, (y = max q.1 1 ∨ y = q.2 + 1) → y ≤ p.1 ∨ p.2 ≤ y := fun y hy => by
          by_cases hb : first < y ∧ y ≤ last
          · exact zip_gap hp p hpz y ((hm y).mpr (.inr ⟨q, hq, hy, hb⟩))
          · omega
        exact piece_line (r := 0) (st _ (.inl rfl)) (st _ (.inr rfl))
    have t := zip_tele (f := fun p => sumOfM rows p.1 (p.2 - 1)) (S := fun z => sm (waysAt rows) first (z - first).toNat) key
    show (((x :: xs).zip xs).map fun p => sumOfM rows p.1 (p.2 - 1)).sum = _
    rw [t, el, ex]
    have e1 : (last + 1 - first).toNat = (last - first + 1).toNat := by omega
    simp only [Int.sub_self, e1]
    simp [sm]
theorem sumTo_zero (rows : List (Int × Int)) {first last : Int} (h : last < first) : sumToM rows first last = 0 := by
  unfold sumToM
  rw [if_neg (by omega)]
theorem sumTo_step (rows : List (Int × Int)) {first r : Int} (h : first ≤ r) : sumToM rows first r = sumToM rows first (r - 1) + waysAt rows r := by
  rw [sumTo_sm rows h]
  by_cases h1 : first ≤ r - 1
  · rw [sumTo_sm rows h1]
    have e : (r - first + 1).toNat = (r - 1 - first + 1).toNat + 1 := by omega
    have e2 : first + ((r - 1 - first + 1).toNat : Int) = r := by omega
    rw [e, sm, e2]
  · rw [sumTo_zero rows (by omega)]
    have e : (r - first + 1).toNat = 0 + 1 := by omega
    have e2 : first = r := by omega
    rw [e, sm, sm, e2]
    simp
end PL
namespace PL
/-! ### searches, digits -/
theorem bsearch_ok (f : Int → Int) (x r0 : Int) : ∀ (n : Nat) (a c : Int), (c - a).toNat ≤ n → a ≤ c → r0 ≤ a → (a = r0 ∨ f (a - 1) ≤ x) → x < f c → x < f (bsearchM f x n a c) ∧ r0 ≤ bsearchM f x n a c ∧ bsearchM f x n a c ≤ c ∧ (bsearchM f x n a c = r0 ∨ f (bsearchM f x n a c - 1) ≤ x)
  | 0, a, c, hn, hle, h0, h1, h2 => by
    have e : a = c := by omega
    subst e
    exact ⟨h2, h0, Int.le_refl _, h1⟩
  | n + 1, a, c, hn, hle, h0, h1, h2 => by
    unfold bsearchM
    by_cases h : a < c
    · rw [if_pos h]
      by_cases h3 : x < f ((a + c) / 2)
      · rw [if_pos h3]
        have := bsearch_ok f x r0 n a ((a + c) / 2) (by omega) (by omega) h0 h1 h3
        refine ⟨this.1, this.2.1, by omega, this.2.2.2⟩
      · rw [if_neg h3]
        refine bsearch_ok f x r0 n ((a + c) / 2 + 1) c (by omega) (by omega) (by omega) (.inr ?_) h2
        rw [Int.add_sub_cancel]
        omega
    · rw [if_neg h]
      have e : a = c := by omega
      subst e
      exact ⟨h2, h0, Int.le_refl _, h1⟩
section
variable {α : Type} (w : α → Int)
def prodW : List α → Int
  | [] => 1
  | n :: os => w n * prodW os
/-- what is left, and the digits -/
def digs : List α → Int → Int × List Int
  | [], x => (x, [])
  | n :: os, x => ((digs os x).1 / w n, (digs os x).1 % w n :: (digs os x).2)
def undig : Int → List α → List Int → Int
  | q, n :: os, d :: ds => undig (q * w n + d) os ds
  | q, _, _ => q
theorem prodW_pos : ∀ {os : List α}, (∀ n ∈ os, 0 < w n) → 0 < prodW w os
  | [], _ => Int.one_pos
  | n :: os, h => Int.mul_pos (h n List.mem_cons_self) (prodW_pos fun m hm => h m (List.mem_cons_of_mem _ hm))
theorem undig_digs : ∀ (os : List α) (x : Int), undig w (digs w os x).1 os (digs w os x).2 = x
  | [], x => rfl
  | n :: os, x => by
    show undig w ((digs w os x).1 / w n * w n + (digs w os x).1 % w n) os (digs w os x).2 = x
    rw [Int.mul_comm, Int.mul_ediv_add_emod]
    exact undig_digs os x
theorem digs_div : ∀ {os : List α} (x : Int), (∀ n ∈ os, 0 < w n) → (digs w os x).1 = x / prodW w os
  | [], x, _ => by simp [digs, prodW]
  | n :: os, x, h => by
    show (digs w os x).1 / w n = x / (w n * prodW w os)
    rw [digs_div x fun m hm => h m (List.mem_cons_of_mem _ hm), Int.mul_comm]
    have := prodW_pos w fun m hm => h m (List.mem_cons_of_mem n hm)
    rw [Int.ediv_ediv_of_nonneg (by omega)]
theorem digs_zero {os : List α} {x : Int} (h : ∀ n ∈ os, 0 < w n) (h0 : 0 ≤ x) (h1 : x < prodW w os) : (digs w os x).1 = 0 := by
  rw [digs_div w x h]
  exact Int.ediv_eq_zero_of_lt h0 h1
theorem digs_len : ∀ (os : List α) (x : Int), (digs w os x).2.length = os.length
  | [], _ => rfl
  | n :: os, x => congrArg Nat.succ (digs_len os x)
theorem digs_lt : ∀ {os : List α} {x y : Int}, (∀ n ∈ os, 0 < w n) → (digs w os x).1 = (digs w os y).1 → x < y → (digs w os x).2 < (digs w os y).2
  | [], x, y, _, h, hl => by
    have h : x = y := h
    omega
  | n :: os, x, y, h, he, hl => by
    have hn := h n List.mem_cons_self
    have ho : ∀ m ∈ os, 0 < w m := fun m hm => h m (List.mem_cons_of_mem _ hm)
    have hp := prodW_pos w ho
    have he : (digs w os x).1 / w n = (digs w os y).1 / w n := he
    show (digs w os x).1 % w n :: (digs w os x).2 < (digs w os y).1 % w n :: (digs w os y).2
    rw [List.cons_lt_cons_iff]
    have hle : (digs w os x).1 ≤ (digs w os y).1 := by
      rw [digs_div w x ho, digs_div w y ho]
      exact Int.ediv_le_ediv hp (Int.le_of_lt hl)
    rcases Int.lt_or_eq_of_le hle with h1 | h1
    · left
      have e1 := Int.mul_ediv_add_emod (digs w os x).1 (w n)
      have e2 := Int.mul_ediv_add_emod (digs w os y).1 (w n)
      rw [he] at e1
      omega
    · right
      exact ⟨by rw [h1], digs_lt ho h1 hl⟩
theorem digs_bd : ∀ {os : List α} {x : Int}, (∀ n ∈ os, 0 < w n) → ∀ p ∈ os.zip (digs w os x).2, 0 ≤ p.2 ∧ p.2 < w p.1
  | [], x, _, p, hp => by cases hp
  | n :: os, x, h, p, hp => by
    have hn := h n List.mem_cons_self
    rcases List.mem_cons.mp (show p ∈ (n, (digs w os x).1 % w n) :: os.zip (digs w os x).2 from hp) with e | hp
    · rw [e]
      exact ⟨Int.emod_nonneg _ (by omega), Int.emod_lt_of_pos _ hn⟩
    · exact digs_bd (fun m hm => h m (List.mem_cons_of_mem _ hm)) p hp
end
end PL
/-! MA4: canonical forms -/
namespace PL
open PySem PySem.Spec PyProof.Rows L2
def LtN (a b : Str) : Prop := leS a b = true ∧ a ≠ b
theorem LtN.tr {a b c : Str} (h1 : LtN a b) (h2 : LtN b c) : LtN a c := ⟨leS_tr _ _ _ h1.1 h2.1, fun e => by
  subst e
  exact h1.2 (leS_anti _ _ h1.1 h2.1)⟩
theorem LtN.asym {a b : Str} (h1 : LtN a b) (h2 : LtN b a) : False := h1.2 (leS_anti _ _ h1.1 h2.1)
def SrtN (ns : List Str) : Prop := ns.Pairwise LtN
theorem srt_of {xs : List Str} (h : xs.Nodup) : SrtN (xs.mergeSort leS) := by
  have h1 : (xs.mergeSort leS).Pairwise (fun a b => leS a b = true) := List.pairwise_mergeSort leS_tr leS_tot _
  have h2 : (xs.mergeSort leS).Nodup := (List.mergeSort_perm _ _).nodup_iff.mpr h
  exact (List.Pairwise.and h1 h2).imp fun h => h
theorem ssetS_srt (xs : List Str) : SrtN (ssetS xs) := srt_of (nodup_eraseDups _ xs (Nat.le_refl _))
theorem keyed_ext {α : Type} (f : α → Str) : ∀ {xs ys : List α}, xs.Pairwise (fun a b => LtN (f a) (f b)) → ys.Pairwise (fun a b => LtN (f a) (f b)) → (∀ a, a ∈ xs ↔ a ∈ ys) → xs = ys
  | [], [], _, _, _ => rfl
  | [], y :: ys, _, _, h => by cases (h y).mpr List.mem_cons_self
  | x :: xs, [], _, _, h => by cases (h x).mp List.mem_cons_self
  | x :: xs, y :: ys, h1, h2, h => by
    obtain ⟨a1, b1⟩ := List.pairwise_cons.mp h1
    obtain ⟨a2, b2⟩ := List.pairwise_cons.mp h2
    have e : x = y := by
      rcases List.mem_cons.mp ((h x).mp List.mem_cons_self) with e | m1
      · exact e
      · rcases List.mem_cons.mp ((h y).mpr List.mem_cons_self) with e | m2
        · exact e.symm
        · exact ((a2 x m1).asym (a1 y m2)).elim
    subst e
    rw [keyed_ext f b1 b2 fun a => ?_]
    constructor
    · intro m
      rcases List.mem_cons.mp ((h a).mp (List.mem_cons_of_mem _ m)) with e | m2
      · subst e
        exact ((a1 a m).2 rfl).elim
      · exact m2
    · intro m
      rcases List.mem_cons.mp ((h a).mpr (List.mem_cons_of_mem _ m)) with e | m2
      · subst e
        exact ((a2 a m).2 rfl).elim
      · exact m2
theorem srt_ext {xs ys : List Str} (h1 : SrtN xs) (h2 : SrtN ys) (h : ∀ a, a ∈ xs ↔ a ∈ ys) : xs = ys := keyed_ext (fun a => a) h1 h2 h
theorem ssetS_id {xs : List Str} (h : SrtN xs) : ssetS xs = xs := srt_ext (ssetS_srt _) h fun _ => ssetS_mem
theorem SrtN.nodup {xs : List Str} (h : SrtN xs) : xs.Nodup := h.imp fun h => h.2
def dfl (r : Bool × Rm) (n : Str) : Option Str × Rm := (if r.1 = true then some n else none, r.2)
structure Canon (F : Fm) : Prop where
  srt : F.1.Pairwise fun a b => LtN a.1 b.1
  unl : ∀ e ∈ F.1, e.2 ≠ dfl F.2 e.1
theorem entry_out {F : Fm} {n : Str} (h : ∀ e ∈ F.1, e.1 ≠ n) : entryM F n = dfl F.2 n := by
  unfold entryM
  rw [List.find?_eq_none.mpr fun e he => by simpa using h e he]
  rfl
theorem entry_in {F : Fm} (h : F.1.Pairwise fun a b => LtN a.1 b.1) {e : En} (he : e ∈ F.1) : entryM F e.1 = e.2 := by
  obtain ⟨es, r⟩ := F
  have key : ∀ {es : List En}, es.Pairwise (fun a b => LtN a.1 b.1) → e ∈ es → es.find? (fun x => decide (x.1 = e.1)) = some e := by
    intro es
    induction es with
    | nil =>
      intro _ h
      cases h
    | cons x xs ih =>
      intro h hm
      obtain ⟨a1, b1⟩ := List.pairwise_cons.mp h
      rcases List.mem_cons.mp hm with q | hm
      · subst q
        simp
      · rw [List.find?_cons_of_neg, ih b1 hm]
        simpa using (a1 e hm).2
  unfold entryM
  rw [key h he]
theorem entry_iff {F : Fm} (h : Canon F) {e : En} : e ∈ F.1 ↔ entryM F e.1 = e.2 ∧ e.2 ≠ dfl F.2 e.1 := by
  constructor
  · intro he
    exact ⟨entry_in h.srt he, h.unl e he⟩
  · rintro ⟨h1, h2⟩
    by_cases hx : ∃ e' ∈ F.1, e'.1 = e.1
    · obtain ⟨e', m, q⟩ := hx
      have h3 := entry_in h.srt m
      rw [q, h1] at h3
      have : e = e' := Prod.ext q.symm h3
      rw [this]
      exact m
    · exfalso
      rw [entry_out fun e' m q => hx ⟨e', m, q⟩] at h1
      exact h2 h1.symm
theorem canon_ext {F G : Fm} (hF : Canon F) (hG : Canon G) (h2 : F.2 = G.2) (h : ∀ n, entryM F n = entryM G n) : F = G := by
  refine Prod.ext (keyed_ext (fun e : En => e.1) hF.srt hG.srt fun e => ?_) h2
  rw [entry_iff hF, entry_iff hG, h, h2]
theorem canon_nothing : Canon nothingM := ⟨.nil, fun e h => by cases h⟩
theorem canon_start : Canon startM := ⟨.nil, fun e h => by cases h⟩
/-! ### form_with -/
theorem mset_pair {α : Type} (f : α → Str) (g : Str → α) (p : Str → Bool) (hg : ∀ n, f (g n) = n) {ks : List Str} (h : SrtN ks) : ((ks.filter p).map g).Pairwise fun a b => LtN (f a) (f b) := by
  rw [List.pairwise_map]
  exact (h.sublist List.filter_sublist).imp fun h => by rw [hg, hg]; exact h
def collW (ks : List Str) (f : Str → Option Str × Rm) (r : Bool × Rm) : Bool := !r.1 && ks.all fun k => (f k).1.isNone
theorem formWith_coll {ks : List Str} {f : Str → Option Str × Rm} {r : Bool × Rm} (h : collW ks f r = true) : formWithM ks f r = nothingM := by
  unfold formWithM
  exact if_pos h
theorem formWith_eq {ks : List Str} {f : Str → Option Str × Rm} {r : Bool × Rm} (h : collW ks f r = false) : formWithM ks f r = (((ks.mergeSort leS).filter fun k => !decide (f k = dfl r k)).map fun k => (k, f k), r) := by
  unfold formWithM
  exact if_neg (by rw [show (!r.1 && ks.all fun k => (f k).1.isNone) = false from h]; exact Bool.false_ne_true)
theorem formWith_canon {ks : List Str} {f : Str → Option Str × Rm} {r : Bool × Rm} (hk : ks.Nodup) : Canon (formWithM ks f r) := by
  cases h : collW ks f r with
  | true =>
    rw [formWith_coll h]
    exact canon_nothing
  | false =>
    rw [formWith_eq h]
    refine ⟨mset_pair (fun e : En => e.1) _ _ (fun _ => rfl) (srt_of hk), fun e he => ?_⟩
    obtain ⟨k, hk, rfl⟩ := List.mem_map.mp he
    simpa using (List.mem_filter.mp hk).2
theorem formWith_rest {ks : List Str} {f : Str → Option Str × Rm} {r : Bool × Rm} (h : collW ks f r = false) : (formWithM ks f r).2 = r := by rw [formWith_eq h]
theorem formWith_entry {ks : List Str} {f : Str → Option Str × Rm} {r : Bool × Rm} (hk : ks.Nodup) (h : collW ks f r = false) (n : Str) : entryM (formWithM ks f r) n = if n ∈ ks then f n else dfl r n := by
  have hc := formWith_canon (f := f) (r := r) hk
  by_cases hm : n ∈ ks
  · rw [if_pos hm]
    by_cases hd : f n = dfl r n
    · rw [entry_out, formWith_rest h, hd]
      intro e he q
      rw [formWith_eq h] at he
      obtain ⟨k, hk2, rfl⟩ := List.mem_map.mp he
      have hk2 := (List.mem_filter.mp hk2).2
      have q : k = n := q
      subst q
      simp [hd] at hk2
    · exact entry_in hc.srt (e := (n, f n)) (by
        rw [formWith_eq h]
        exact List.mem_map.mpr ⟨n, List.mem_filter.mpr ⟨(List.mergeSort_perm _ _).mem_iff.mpr hm, by simpa using hd⟩, rfl⟩)
  · rw [if_neg hm, entry_out, formWith_rest h]
    intro e he q
    rw [formWith_eq h] at he
    obtain ⟨k, hk2, rfl⟩ := List.mem_map.mp he
    have q : k = n := q
    subst q
    exact hm ((List.mergeSort_perm _ _).mem_iff.mp (List.mem_filter.mp hk2).1)
theorem formWith_names {ks : List Str} {f : Str → Option Str × Rm} {r : Bool × Rm} : ∀ e ∈ (formWithM ks f r).1, e.1 ∈ ks ∧ e.2 = f e.1 := fun e he => by
  cases h : collW ks f r with
  | true =>
    rw [formWith_coll h] at he
    cases he
  | false =>
    rw [formWith_eq h] at he
    obtain ⟨k, hk, rfl⟩ := List.mem_map.mp he
    exact ⟨(List.mergeSort_perm _ _).mem_iff.mp (List.mem_filter.mp hk).1, rfl⟩
/-! ### a form by its sides -/
def fsM (ns : List Str) (S : Str → Bool × Int) : Fm := formOfM (ns.map fun n => (n, ((S n).1, some (S n).2))) (false, some 0)
def left1 (ns : List Str) (S : Str → Bool × Int) : Bool := ns.any fun n => (S n).1
theorem fs_none {ns : List Str} {S : Str → Bool × Int} (h : left1 ns S = false) : fsM ns S = nothingM := by
  unfold fsM formOfM
  rw [if_pos]
  have h : (ns.any fun n => (S n).1) = false := h
  rw [List.any_map]
  show (!false && !(ns.any fun n => (S n).1)) = true
  rw [h]
  rfl
theorem fs_eq {ns : List Str} {S : Str → Bool × Int} (h : left1 ns S = true) : fsM ns S = ((ns.filter fun n => !decide (S n = (false, 0))).map fun n => (n, (if (S n).1 = true then some n else none, some (S n).2)), (false, some 0)) := by
  unfold fsM formOfM
  have h : (ns.any fun n => (S n).1) = true := h
  rw [if_neg]
  · rw [List.filter_map, List.map_map]
    refine Prod.ext ?_ rfl
    show List.map _ (List.filter _ ns) = List.map _ (List.filter _ ns)
    congr 1
    congr 1
    funext n
    show (!decide (((S n).1, some (S n).2) = (false, some 0))) = !decide (S n = (false, 0))
    congr 1
    rw [Bool.eq_iff_iff]
    obtain ⟨a, b⟩ := S n
    simp
  · rw [List.any_map]
    show ¬ (!false && !(ns.any fun n => (S n).1)) = true
    rw [h]
    decide
theorem fs_rest (ns : List Str) (S : Str → Bool × Int) : (fsM ns S).2 = (false, some 0) := by
  cases h : left1 ns S with
  | true => rw [fs_eq h]
  | false =>
    rw [fs_none h]
    rfl
theorem fs_canon {ns : List Str} (hs : SrtN ns) (S : Str → Bool × Int) : Canon (fsM ns S) := by
  cases h : left1 ns S with
  | false =>
    rw [fs_none h]
    exact canon_nothing
  | true =>
    rw [fs_eq h]
    refine ⟨mset_pair (fun e : En => e.1) _ _ (fun _ => rfl) hs, fun e he => ?_⟩
    obtain ⟨k, hk, rfl⟩ := List.mem_map.mp he
    have hk := (List.mem_filter.mp hk).2
    intro q
    have q : ((if (S k).1 = true then some k else none), some (S k).2) = ((none, some 0) : Option Str × Rm) := q
    have : S k = (false, 0) := by
      cases e1 : (S k).1 with
      | true =>
        rw [e1] at q
        cases q
      | false =>
        rw [e1] at q
        refine Prod.ext e1 ?_
        simpa using q
    simp [this] at hk
def sideE (n : Str) (p : Bool × Int) : Option Str × Rm := (if p.1 = true then some n else none, some p.2)
theorem fs_names {ns : List Str} {S : Str → Bool × Int} : ∀ e ∈ (fsM ns S).1, e.1 ∈ ns ∧ e.2 = sideE e.1 (S e.1) := fun e he => by
  cases h : left1 ns S with
  | false =>
    rw [fs_none h] at he
    cases he
  | true =>
    rw [fs_eq h] at he
    obtain ⟨k, hk, rfl⟩ := List.mem_map.mp he
    exact ⟨(List.mem_filter.mp hk).1, rfl⟩
/-- nothing left: all rooms 0 -/
def Nz (ns : List Str) (S : Str → Bool × Int) : Prop := left1 ns S = false → ∀ n ∈ ns, S n = (false, 0)
theorem fs_entry {ns : List Str} (hs : SrtN ns) {S : Str → Bool × Int} (hz : Nz ns S) {n : Str} (hn : n ∈ ns) : entryM (fsM ns S) n = sideE n (S n) := by
  cases h : left1 ns S with
  | false =>
    rw [hz h n hn, fs_none h]
    rfl
  | true =>
    by_cases hd : S n = (false, 0)
    · rw [entry_out, fs_rest, hd]
      · rfl
      · intro e he q
        rw [fs_eq h] at he
        obtain ⟨k, hk2, rfl⟩ := List.mem_map.mp he
        have hk2 := (List.mem_filter.mp hk2).2
        have q : k = n := q
        subst q
        simp [hd] at hk2
    · exact entry_in (fs_canon hs S).srt (e := (n, sideE n (S n))) (by
        rw [fs_eq h]
        exact List.mem_map.mpr ⟨n, List.mem_filter.mpr ⟨hn, by simpa using hd⟩, rfl⟩)
theorem fs_other {ns : List Str} {S : Str → Bool × Int} {n : Str} (hn : n ∉ ns) : entryM (fsM ns S) n = (none, some 0) := by
  rw [entry_out, fs_rest]
  · rfl
  · intro e he q
    exact hn (by rw [← q]; exact (fs_names e he).1)
theorem nodup_len : ∀ {xs ys : List Str}, xs.Nodup → (∀ n ∈ xs, n ∈ ys) → xs.length ≤ ys.length
  | [], _, _, _ => Nat.zero_le _
  | x :: xs, ys, h, hs => by
    obtain ⟨h1, h2⟩ := List.nodup_cons.mp h
    have ih := nodup_len (ys := ys.erase x) h2 fun n hn => (List.mem_erase_of_ne fun e => h1 (by rw [← e]; exact hn)).mpr (hs n (List.mem_cons_of_mem _ hn))
    have := List.length_erase_of_mem (hs x List.mem_cons_self)
    have : 0 < ys.length := List.length_pos_of_mem (hs x List.mem_cons_self)
    simp only [List.length_cons]
    omega
theorem canon_len {F : Fm} (h : Canon F) {ys : List Str} (hs : ∀ e ∈ F.1, e.1 ∈ ys) : F.1.length ≤ ys.length := by
  have h1 : (F.1.map (·.1)).Nodup := by
    unfold List.Nodup
    rw [List.pairwise_map]
    exact h.srt.imp fun h => h.2
  have := nodup_len h1 (ys := ys) fun n hn => by
    obtain ⟨e, he, rfl⟩ := List.mem_map.mp hn
    exact hs e he
  rwa [List.length_map] at this
theorem fs_len {ns : List Str} (hs : SrtN ns) (S : Str → Bool × Int) : (fsM ns S).1.length ≤ ns.length := canon_len (fs_canon hs S) fun e he => (fs_names e he).1
theorem fs_nothing {ns : List Str} (hs : SrtN ns) {S : Str → Bool × Int} (hz : Nz ns S) : fsM ns S = nothingM ↔ left1 ns S = false := by
  constructor
  · intro e
    cases h : left1 ns S with
    | false => rfl
    | true =>
      obtain ⟨n, hn, hl⟩ := List.any_eq_true.mp h
      have q := fs_entry hs hz hn
      rw [e] at q
      unfold sideE at q
      rw [if_pos hl] at q
      cases q
  · exact fs_none
/-- the room of what is left -/
theorem height_left {F : Fm} {h : Rm} (hu : ∀ e ∈ F.1, e.2.1.isSome = true → e.2.2 = h) (hr : F.2.1 = true → F.2.2 = h) (ex : F.2.1 = true ∨ ∃ e ∈ F.1, e.2.1.isSome = true) : heightM F = h := by
  unfold heightM
  split
  · rename_i q
    exact hr q
  · rename_i q
    rcases ex with ex | ⟨e, he, hs⟩
    · exact absurd ex q
    · cases ef : F.1.find? (fun e => e.2.1.isSome) with
      | none => exact absurd hs (List.find?_eq_none.mp ef e he)
      | some e' => exact hu e' (List.mem_of_find?_eq_some ef) (List.find?_some (p := fun e : En => e.2.1.isSome) ef)
theorem fs_height {ns : List Str} {S : Str → Bool × Int} {h : Int} (hu : ∀ n ∈ ns, (S n).1 = true → (S n).2 = h) (h0 : left1 ns S = false → h = 0) : heightM (fsM ns S) = some h := by
  cases hl : left1 ns S with
  | false =>
    rw [fs_none hl, h0 hl]
    rfl
  | true =>
    refine height_left (fun e he hs => ?_) (fun q => ?_) (.inr ?_)
    · obtain ⟨m, q⟩ := fs_names e he
      rw [q] at hs ⊢
      unfold sideE at hs ⊢
      cases hS : (S e.1).1 with
      | false =>
        rw [hS] at hs
        cases hs
      | true => rw [hu e.1 m hS]
    · rw [fs_rest] at q
      cases q
    · obtain ⟨n, hn, hS⟩ := List.any_eq_true.mp hl
      refine ⟨(n, sideE n (S n)), ?_, ?_⟩
      · rw [fs_eq hl]
        refine List.mem_map.mpr ⟨n, List.mem_filter.mpr ⟨hn, ?_⟩, rfl⟩
        simp only [Bool.not_eq_true', decide_eq_false_iff_not]
        intro e
        rw [e] at hS
        cases hS
      · unfold sideE
        rw [if_pos hS]
        rfl
end PL
/-! MA5: what steps do to a label, and their form -/
namespace PL
open PySem PySem.Spec PyProof.Rows L2
theorem snocI {α : Type} {P : List α → Prop} (h0 : P []) (h1 : ∀ xs x, P xs → P (xs ++ [x])) (xs : List α) : P xs := by
  have key : ∀ ys : List α, P ys.reverse := by
    intro ys
    induction ys with
    | nil => exact h0
    | cons y ys ih =>
      rw [List.reverse_cons]
      exact h1 _ _ ih
  have := key xs.reverse
  rwa [List.reverse_reverse] at this
def inLot (ns : List Str) (r : Bool) (n : Str) : Bool := decide (n ∈ ns) != r
/-- whether it is left, and its room; t: is it in a lot -/
def fstep (t : List Str → Bool → Bool) (st : Bool × Rm) : Stp → Bool × Rm
  | .cut c => if st.1 = true then (true, lesserM st.2 (some (c - 1))) else st
  | .drop ns r => if (st.1 && t ns r) = true then (false, some 0) else st
  | .unw ns r => if (st.1 && t ns r) = true then (false, st.2) else st
def fateT (t : List Str → Bool → Bool) (ss : List Stp) : Bool × Rm := ss.foldl (fstep t) (true, none)
def fateM (ss : List Stp) (n : Str) : Bool × Rm := fateT (fun ns r => inLot ns r n) ss
/-- of a name that is told nowhere -/
def fateR (ss : List Stp) : Bool × Rm := fateT (fun _ r => r) ss
def leastStep (x : Rm) : Stp → Rm
  | .cut c => lesserM x (some (c - 1))
  | _ => x
def leastM (ss : List Stp) : Rm := ss.foldl leastStep none
theorem fate_snoc (t : List Str → Bool → Bool) (ss : List Stp) (s : Stp) : fateT t (ss ++ [s]) = fstep t (fateT t ss) s := by
  unfold fateT
  rw [List.foldl_append]
  rfl
theorem least_snoc (ss : List Stp) (s : Stp) : leastM (ss ++ [s]) = leastStep (leastM ss) s := by
  unfold leastM
  rw [List.foldl_append]
  rfl
theorem form_snoc (ss : List Stp) (s : Stp) : formStepsM (ss ++ [s]) = formBehindM (formStepsM ss) (formOfStepM s) := by
  unfold formStepsM
  rw [List.foldl_append]
  rfl
def geO (k : Int) : Rm → Prop
  | none => True
  | some i => k ≤ i
theorem lesser_ge {k : Int} {a b : Rm} (h1 : geO k a) (h2 : geO k b) : geO k (lesserM a b) := by
  cases a <;> cases b <;> simp only [lesserM, geO] at * <;> omega
theorem least_ge {ss : List Stp} (h : ∀ s ∈ ss, s.ok) : geO 0 (leastM ss) := by
  have key : ∀ (ss : List Stp) (x : Rm), geO 0 x → (∀ s ∈ ss, s.ok) → geO 0 (ss.foldl leastStep x) := by
    intro ss
    induction ss with
    | nil => exact fun x hx _ => hx
    | cons s ss ih =>
      intro x hx h
      refine ih _ ?_ fun s hs => h s (List.mem_cons_of_mem _ hs)
      have hs := h s List.mem_cons_self
      cases s with
      | cut c =>
        have hs : 1 ≤ c := hs
        exact lesser_ge hx (show 0 ≤ c - 1 by omega)
      | drop ns r => exact hx
      | unw ns r => exact hx
  exact key ss none True.intro h
/-- what is left has the least room -/
theorem fate_left (t : List Str → Bool → Bool) : ∀ (ss : List Stp), (fateT t ss).1 = true → (fateT t ss).2 = leastM ss := by
  intro ss
  induction ss using snocI with
  | h0 => exact fun _ => rfl
  | h1 ss s ih =>
    rw [fate_snoc, least_snoc]
    generalize fateT t ss = st at ih ⊢
    obtain ⟨a, x⟩ := st
    cases s with
    | cut c =>
      cases a with
      | true =>
        intro _
        have ih : x = leastM ss := ih rfl
        subst ih
        rfl
      | false => exact fun h => nomatch h
    | drop ns r =>
      intro h
      unfold fstep at h ⊢
      by_cases q : (a && t ns r) = true
      · simp only [q, if_true] at h
        cases h
      · simp only [q, if_false] at h ⊢
        exact ih h
    | unw ns r =>
      intro h
      unfold fstep at h ⊢
      by_cases q : (a && t ns r) = true
      · simp only [q, if_true] at h
        cases h
      · simp only [q, if_false] at h ⊢
        exact ih h
def fateE (n : Str) (p : Bool × Rm) : Option Str × Rm := (if p.1 = true then some n else none, p.2)
def actM (s : Stp) (n : Str) : Option Str × Rm := match s with
  | .cut c => (some n, some (c - 1))
  | .drop ns r => if inLot ns r n = true then (none, some 0) else (some n, none)
  | .unw ns r => if inLot ns r n = true then (none, none) else (some n, none)
def actR (s : Stp) : Bool × Rm := match s with
  | .cut c => (true, some (c - 1))
  | .drop _ r => if r = true then (false, some 0) else (true, none)
  | .unw _ r => if r = true then (false, none) else (true, none)
def lotIn (L : List Str) : Stp → Prop
  | .cut _ => True
  | .drop ns _ => ∀ n ∈ ns, n ∈ L
  | .unw ns _ => ∀ n ∈ ns, n ∈ L
/-- the form of a row of steps -/
structure StF (ss : List Stp) : Prop where
  can : Canon (formStepsM ss)
  nam : ∀ L : List Str, (∀ s ∈ ss, lotIn L s) → ∀ e ∈ (formStepsM ss).1, e.1 ∈ L
  alt : (formStepsM ss = nothingM ∧ (∀ n, (fateM ss n).1 = false) ∧ (fateR ss).1 = false) ∨
    ((∀ n, entryM (formStepsM ss) n = fateE n (fateM ss n)) ∧ (formStepsM ss).2 = fateR ss ∧ ((fateR ss).1 = true ∨ ∃ e ∈ (formStepsM ss).1, e.2.1.isSome = true))
theorem dks_srt (ns : List Str) : (dks ns).Nodup := dks_nodup ns
/-- a lot's form: what is in it goes, with a room -/
theorem lot_coll (room : Rm) (ns : List Str) : collW (dks ns) (fun _ => ((none, room) : Option Str × Rm)) (true, none) = false := rfl
theorem lot_entry {room : Rm} {ns : List Str} {r : Bool} (h : r = true → dks ns ≠ []) (n : Str) : entryM (lotForm room ns r) n = if inLot ns r n = true then (none, room) else (some n, none) := by
  unfold lotForm inLot
  cases r with
  | true =>
    rw [if_pos rfl]
    have hc : collW (dks ns) (fun n => ((some n, none) : Option Str × Rm)) (false, room) = false := by
      cases q : dks ns with
      | nil => exact absurd q (h rfl)
      | cons k ks => rfl
    rw [formWith_entry (dks_nodup ns) hc]
    by_cases hn : n ∈ ns
    · rw [if_pos (dks_mem.mpr hn)]
      simp [hn]
    · rw [if_neg (fun q => hn (dks_mem.mp q))]
      simp [hn, dfl]
  | false =>
    rw [if_neg Bool.false_ne_true, formWith_entry (dks_nodup ns) (lot_coll room ns)]
    by_cases hn : n ∈ ns
    · rw [if_pos (dks_mem.mpr hn)]
      simp [hn]
    · rw [if_neg (fun q => hn (dks_mem.mp q))]
      simp [hn, dfl]
theorem lot_rest {room : Rm} {ns : List Str} {r : Bool} (h : r = true → dks ns ≠ []) : (lotForm room ns r).2 = if r = true then (false, room) else (true, none) := by
  unfold lotForm
  cases r with
  | true =>
    have hc : collW (dks ns) (fun n => ((some n, none) : Option Str × Rm)) (false, room) = false := by
      cases q : dks ns with
      | nil => exact absurd q (h rfl)
      | cons k ks => rfl
    rw [if_pos rfl, if_pos rfl, formWith_rest hc]
  | false => rw [if_neg Bool.false_ne_true, if_neg Bool.false_ne_true, formWith_rest (lot_coll room ns)]
theorem lot_nothing {room : Rm} {ns : List Str} (h : dks ns = []) : lotForm room ns true = nothingM := by
  unfold lotForm
  rw [if_pos rfl, h]
  exact formWith_coll rfl
theorem lot_names {room : Rm} {ns : List Str} {r : Bool} : ∀ e ∈ (lotForm room ns r).1, e.1 ∈ ns ∧ (e.2.1 = none ∨ e.2.1 = some e.1) := fun e he => by
  unfold lotForm at he
  cases r with
  | true =>
    rw [if_pos rfl] at he
    obtain ⟨h1, h2⟩ := formWith_names e he
    exact ⟨dks_mem.mp h1, .inr (by rw [h2])⟩
  | false =>
    rw [if_neg Bool.false_ne_true] at he
    obtain ⟨h1, h2⟩ := formWith_names e he
    exact ⟨dks_mem.mp h1, .inl (by rw [h2])⟩
/-- one more step: s's form G gives each label what it does -/
theorem step_form {ss : List Stp} (h : StF ss) (s : Stp) (hge : geO 0 (leastM ss)) : StF (ss ++ [s]) := by
  have ef := form_snoc ss s
  have h0 := h
  obtain ⟨hc, hn, ha⟩ := h
  -- names of both
  have hown : ∀ e ∈ (formStepsM ss).1, e.2.1 = none ∨ e.2.1 = some e.1 := fun e he => by
    rcases ha with ⟨q, _⟩ | ⟨q, _⟩
    · rw [q] at he
      cases he
    · have q2 := q e.1
      rw [entry_in hc.srt he] at q2
      rw [q2]
      unfold fateE
      cases (fateM ss e.1).1
      · exact .inl rfl
      · exact .inr rfl
  have gown : ∀ e ∈ (formOfStepM s).1, e.2.1 = none ∨ e.2.1 = some e.1 := by
    cases s with
    | cut c => exact fun e he => by cases he
    | drop ns r => exact fun e he => (lot_names e he).2
    | unw ns r => exact fun e he => (lot_names e he).2
  have nmem : ∀ {F : Fm}, (∀ e ∈ F.1, e.2.1 = none ∨ e.2.1 = some e.1) → ∀ n, n ∈ namesM F → ∃ e ∈ F.1, e.1 = n := fun {F} ho n hn => by
    unfold namesM at hn
    rcases List.mem_append.mp hn with hn | hn
    · obtain ⟨e, he, q⟩ := List.mem_map.mp hn
      exact ⟨e, he, q⟩
    · obtain ⟨e, he, q⟩ := List.mem_filterMap.mp hn
      rcases ho e he with q2 | q2
      · rw [q2] at q
        cases q
      · rw [q2] at q
        cases q
        exact ⟨e, he, rfl⟩
  have enames : ∀ e ∈ (formStepsM (ss ++ [s])).1, (∃ e' ∈ (formStepsM ss).1, e'.1 = e.1) ∨ (∃ e' ∈ (formOfStepM s).1, e'.1 = e.1) := fun e he => by
    rw [ef] at he
    unfold formBehindM at he
    have q := dks_mem.mp (formWith_names e he).1
    rcases List.mem_append.mp q with q | q
    · exact .inl (nmem hown _ q)
    · exact .inr (nmem gown _ q)
  have can : Canon (formStepsM (ss ++ [s])) := by
    rw [ef]
    exact formWith_canon (dks_nodup _)
  refine ⟨can, fun L hL e he => ?_, ?_⟩
  · rcases enames e he with ⟨e', m, q⟩ | ⟨e', m, q⟩
    · rw [← q]
      exact hn L (fun s hs => hL s (List.mem_append_left _ hs)) e' m
    · have hs := hL s (List.mem_append_right _ List.mem_cons_self)
      rw [← q]
      cases s with
      | cut c => cases m
      | drop ns r => exact hs _ (lot_names e' m).1
      | unw ns r => exact hs _ (lot_names e' m).1
  · rcases ha with ⟨hF, hd, hdr⟩ | ⟨he, hr, hx⟩
    · left
      have dead : ∀ (t : List Str → Bool → Bool), (fateT t ss).1 = false → (fateT t (ss ++ [s])).1 = false := fun t q => by
        rw [fate_snoc]
        generalize fateT t ss = st at q ⊢
        obtain ⟨a, x⟩ := st
        have q : a = false := q
        subst q
        cases s <;> rfl
      refine ⟨?_, fun n => dead _ (hd n), dead _ hdr⟩
      rw [ef, hF]
      unfold formBehindM
      refine formWith_coll ?_
      show (!(if nothingM.2.1 = true then _ else nothingM.2).1 && _) = true
      rw [if_neg (by decide)]
      refine Bool.and_eq_true_iff.mpr ⟨rfl, List.all_eq_true.mpr fun k _ => ?_⟩
      rfl
    · have hh : heightM (formStepsM ss) = leastM ss := by
        refine height_left (fun e hm hs => ?_) (fun q => ?_) ?_
        · have q := he e.1
          rw [entry_in hc.srt hm] at q
          rw [q] at hs ⊢
          unfold fateE at hs ⊢
          cases hf : (fateM ss e.1).1 with
          | false =>
            rw [hf] at hs
            cases hs
          | true => exact fate_left _ ss hf
        · rw [hr] at q ⊢
          exact fate_left _ ss q
        · rw [hr]
          exact hx
      -- is all gone?
      have hbeh : ∀ n, (entryM (formOfStepM s) n).1.isSome = true → entryM (formOfStepM s) n = actM s n := fun n hs => by
        cases s with
        | cut c => rfl
        | drop ns r =>
          refine lot_entry (fun q w => ?_) n
          subst q
          rw [show formOfStepM (.drop ns true) = lotForm (some 0) ns true from rfl, lot_nothing w] at hs
          cases hs
        | unw ns r =>
          refine lot_entry (fun q w => ?_) n
          subst q
          rw [show formOfStepM (.unw ns true) = lotForm none ns true from rfl, lot_nothing w] at hs
          cases hs
      cases hcw : collW (dks (namesM (formStepsM ss) ++ namesM (formOfStepM s))) (entryBehindM (formStepsM ss) (formOfStepM s)) (if (formStepsM ss).2.1 = true then ((formOfStepM s).2.1, lesserM (formStepsM ss).2.2 (formOfStepM s).2.2) else (formStepsM ss).2) with
      | true =>
        left
        have eN : formStepsM (ss ++ [s]) = nothingM := by
          rw [ef]
          exact formWith_coll hcw
        obtain ⟨w1, w2⟩ := Bool.and_eq_true_iff.mp hcw
        -- rest gone
        have rgone : (fateR (ss ++ [s])).1 = false := by
          unfold fateR at hr ⊢
          rw [fate_snoc]
          rw [hr] at w1
          generalize fateT (fun _ r => r) ss = st at w1 ⊢
          obtain ⟨a, x⟩ := st
          cases a with
          | false => cases s <;> rfl
          | true =>
            rw [if_pos rfl] at w1
            cases s with
            | cut c => simp [formOfStepM] at w1
            | drop ns r =>
              cases r with
              | true => rfl
              | false =>
                rw [show formOfStepM (.drop ns false) = lotForm (some 0) ns false from rfl, lot_rest (r := false) (by intro q; cases q)] at w1
                simp at w1
            | unw ns r =>
              cases r with
              | true => rfl
              | false =>
                rw [show formOfStepM (.unw ns false) = lotForm none ns false from rfl, lot_rest (r := false) (by intro q; cases q)] at w1
                simp at w1
        have agone : ∀ n, (entryBehindM (formStepsM ss) (formOfStepM s) n).1 = none := fun n => by
          by_cases hm : n ∈ dks (namesM (formStepsM ss) ++ namesM (formOfStepM s))
          · exact Option.isNone_iff_eq_none.mp (List.all_eq_true.mp w2 n hm)
          · have nF : ∀ e ∈ (formStepsM ss).1, e.1 ≠ n := fun e hme q => hm (dks_mem.mpr (List.mem_append_left _ (List.mem_append_left _ (List.mem_map.mpr ⟨e, hme, q⟩))))
            have nG : ∀ e ∈ (formOfStepM s).1, e.1 ≠ n := fun e hme q => hm (dks_mem.mpr (List.mem_append_right _ (List.mem_append_left _ (List.mem_map.mpr ⟨e, hme, q⟩))))
            unfold entryBehindM
            rw [entry_out nF]
            unfold dfl
            cases hl : (formStepsM ss).2.1 with
            | false => rfl
            | true =>
              rw [if_pos rfl]
              simp only
              rw [entry_out nG]
              unfold dfl
              rw [hl, if_pos rfl] at w1
              have w1 : (!(formOfStepM s).2.1) = true := w1
              rw [if_neg (by simpa using w1)]
        refine ⟨eN, fun n => ?_, rgone⟩
        have q := agone n
        unfold entryBehindM at q
        rw [he n] at q
        unfold fateM at q ⊢
        rw [fate_snoc]
        generalize fateT (fun ns r => inLot ns r n) ss = st at q ⊢
        obtain ⟨a, x⟩ := st
        cases a with
        | false => cases s <;> rfl
        | true =>
          have q : (entryM (formOfStepM s) n).1 = none := q
          cases s with
          | cut c => cases q
          | drop ns r =>
            cases hl : inLot ns r n with
            | true => simp [fstep, hl]
            | false =>
              exfalso
              by_cases hz : r = true ∧ dks ns = []
              · obtain ⟨rfl, hz⟩ := hz
                unfold inLot at hl
                have : n ∉ ns := fun m => by
                  have := dks_mem.mpr m
                  rw [hz] at this
                  cases this
                simp [this] at hl
              · rw [show formOfStepM (.drop ns r) = lotForm (some 0) ns r from rfl, lot_entry (fun q w => hz ⟨q, w⟩), hl] at q
                cases q
          | unw ns r =>
            cases hl : inLot ns r n with
            | true => simp [fstep, hl]
            | false =>
              exfalso
              by_cases hz : r = true ∧ dks ns = []
              · obtain ⟨rfl, hz⟩ := hz
                unfold inLot at hl
                have : n ∉ ns := fun m => by
                  have := dks_mem.mpr m
                  rw [hz] at this
                  cases this
                simp [this] at hl
              · rw [show formOfStepM (.unw ns r) = lotForm none ns r from rfl, lot_entry (fun q w => hz ⟨q, w⟩), hl] at q
                cases q
      | false =>
        right
        -- s's form is no nothing of a lot
        have nz : ∀ ns r, (s = .drop ns r ∨ s = .unw ns r) → r = true → dks ns ≠ [] := fun ns r q hr2 w => by
          subst hr2
          have eG : formOfStepM s = nothingM := by
            rcases q with q | q <;> subst q <;> exact lot_nothing w
          rw [eG] at hcw
          refine absurd hcw ?_
          rw [show collW (dks (namesM (formStepsM ss) ++ namesM nothingM)) (entryBehindM (formStepsM ss) nothingM) (if (formStepsM ss).2.1 = true then (nothingM.2.1, lesserM (formStepsM ss).2.2 nothingM.2.2) else (formStepsM ss).2) = true from ?_]
          · decide
          · refine Bool.and_eq_true_iff.mpr ⟨?_, List.all_eq_true.mpr fun k _ => ?_⟩
            · cases hl : (formStepsM ss).2.1 <;> simp [hl, nothingM]
            · unfold entryBehindM
              split <;> rfl
        have hG : ∀ n, entryM (formOfStepM s) n = actM s n := fun n => by
          cases s with
          | cut c => rfl
          | drop ns r => exact lot_entry (nz ns r (.inl rfl)) n
          | unw ns r => exact lot_entry (nz ns r (.inr rfl)) n
        have hGr : (formOfStepM s).2 = actR s := by
          cases s with
          | cut c => rfl
          | drop ns r => exact lot_rest (nz ns r (.inl rfl))
          | unw ns r => exact lot_rest (nz ns r (.inr rfl))
        have l0 : ∀ x : Rm, geO 0 x → lesserM x (some 0) = some 0 := fun x hx => by
          cases x with
          | none => rfl
          | some i =>
            have hx : 0 ≤ i := hx
            show some (min i 0) = some 0
            rw [Int.min_eq_right hx]
        have ln : ∀ x : Rm, lesserM x none = x := fun x => by cases x <;> rfl
        have erest : (formStepsM (ss ++ [s])).2 = fateR (ss ++ [s]) := by
          rw [ef]
          unfold formBehindM
          rw [formWith_rest hcw, hr, hGr]
          unfold fateR
          rw [fate_snoc]
          have hl := fate_left (fun _ r => r) ss
          generalize fateT (fun _ r => r) ss = st at hl ⊢
          obtain ⟨a, x⟩ := st
          cases a with
          | false =>
            rw [if_neg Bool.false_ne_true]
            cases s <;> rfl
          | true =>
            rw [if_pos rfl]
            have hl : x = leastM ss := hl rfl
            cases s with
            | cut c => rfl
            | drop ns r =>
              cases r with
              | true =>
                show (false, lesserM x (some 0)) = (false, some 0)
                rw [l0 x (by rw [hl]; exact hge)]
              | false =>
                show (true, lesserM x none) = (true, x)
                rw [ln]
            | unw ns r =>
              cases r with
              | true =>
                show (false, lesserM x none) = (false, x)
                rw [ln]
              | false =>
                show (true, lesserM x none) = (true, x)
                rw [ln]
        have ebeh : ∀ n, entryBehindM (formStepsM ss) (formOfStepM s) n = fateE n (fateM (ss ++ [s]) n) := fun n => by
          unfold entryBehindM
          rw [he n, hh]
          unfold fateM
          rw [fate_snoc]
          have hl := fate_left (fun ns r => inLot ns r n) ss
          generalize fateT (fun ns r => inLot ns r n) ss = st at hl ⊢
          obtain ⟨a, x⟩ := st
          cases a with
          | false => cases s <;> rfl
          | true =>
            have hl : x = leastM ss := hl rfl
            subst hl
            show ((entryM (formOfStepM s) n).1, lesserM (leastM ss) (entryM (formOfStepM s) n).2) = _
            rw [hG n]
            cases s with
            | cut c => rfl
            | drop ns r =>
              show ((if inLot ns r n = true then ((none, some 0) : Option Str × Rm) else (some n, none)).1, lesserM (leastM ss) (if inLot ns r n = true then ((none, some 0) : Option Str × Rm) else (some n, none)).2) = fateE n (if (true && inLot ns r n) = true then (false, some 0) else (true, leastM ss))
              cases inLot ns r n with
              | true =>
                show ((none, lesserM (leastM ss) (some 0)) : Option Str × Rm) = (none, some 0)
                rw [l0 _ hge]
              | false =>
                show ((some n, lesserM (leastM ss) none) : Option Str × Rm) = (some n, leastM ss)
                rw [ln]
            | unw ns r =>
              show ((if inLot ns r n = true then ((none, none) : Option Str × Rm) else (some n, none)).1, lesserM (leastM ss) (if inLot ns r n = true then ((none, none) : Option Str × Rm) else (some n, none)).2) = fateE n (if (true && inLot ns r n) = true then (false, leastM ss) else (true, leastM ss))
              cases inLot ns r n with
              | true =>
                show ((none, lesserM (leastM ss) none) : Option Str × Rm) = (none, leastM ss)
                rw [ln]
              | false =>
                show ((some n, lesserM (leastM ss) none) : Option Str × Rm) = (some n, leastM ss)
                rw [ln]
        have eall : ∀ n, entryM (formStepsM (ss ++ [s])) n = fateE n (fateM (ss ++ [s]) n) := fun n => by
          rw [← ebeh n]
          have q := formWith_entry (dks_nodup (namesM (formStepsM ss) ++ namesM (formOfStepM s))) hcw n
          rw [ef]
          unfold formBehindM
          rw [q]
          by_cases hm : n ∈ dks (namesM (formStepsM ss) ++ namesM (formOfStepM s))
          · rw [if_pos hm]
          · rw [if_neg hm]
            have nF : ∀ e ∈ (formStepsM ss).1, e.1 ≠ n := fun e hme q => hm (dks_mem.mpr (List.mem_append_left _ (List.mem_append_left _ (List.mem_map.mpr ⟨e, hme, q⟩))))
            have nG : ∀ e ∈ (formOfStepM s).1, e.1 ≠ n := fun e hme q => hm (dks_mem.mpr (List.mem_append_right _ (List.mem_append_left _ (List.mem_map.mpr ⟨e, hme, q⟩))))
            unfold entryBehindM
            rw [entry_out nF]
            unfold dfl
            cases hl : (formStepsM ss).2.1 with
            | false => simp [hl]
            | true =>
              simp only [if_true]
              rw [entry_out nG]
              unfold dfl
              have : heightM (formStepsM ss) = (formStepsM ss).2.2 := by
                unfold heightM
                rw [if_pos hl]
              rw [this]
        refine ⟨eall, erest, ?_⟩
        rw [← erest]
        have w := hcw
        unfold collW at w
        cases hl : (formStepsM (ss ++ [s])).2.1 with
        | true => exact .inl rfl
        | false =>
          right
          rw [ef] at hl
          unfold formBehindM at hl
          rw [formWith_rest hcw] at hl
          rw [hl] at w
          obtain ⟨k, hk, hks⟩ := List.all_eq_false.mp (show _ = false from w)
          have hks : (entryBehindM (formStepsM ss) (formOfStepM s) k).1.isSome = true := by
            cases q : (entryBehindM (formStepsM ss) (formOfStepM s) k).1 with
            | none =>
              rw [q] at hks
              exact absurd rfl hks
            | some x => rfl
          refine ⟨(k, entryBehindM (formStepsM ss) (formOfStepM s) k), ?_, hks⟩
          rw [entry_iff can, eall, ebeh]
          refine ⟨rfl, fun q => ?_⟩
          rw [ef] at q
          unfold formBehindM at q
          rw [formWith_rest hcw] at q
          rw [← ebeh] at q
          unfold dfl at q
          rw [hl, if_neg Bool.false_ne_true] at q
          have q : entryBehindM (formStepsM ss) (formOfStepM s) k = (none, _) := q
          rw [q] at hks
          cases hks
theorem steps_form : ∀ {ss : List Stp}, (∀ s ∈ ss, s.ok) → StF ss := by
  intro ss
  induction ss using snocI with
  | h0 => exact fun _ => ⟨canon_start, fun L _ e he => (nomatch he), .inr ⟨fun n => rfl, rfl, .inl rfl⟩⟩
  | h1 ss s ih =>
    intro h
    have h1 : ∀ s ∈ ss, s.ok := fun s hs => h s (List.mem_append_left _ hs)
    exact step_form (ih h1) s (least_ge h1)
end PL
/-! MA6: the plain steps of a form give it back -/
namespace PL
open PySem PySem.Spec PyProof.Rows L2
structure RowS (ns : List Str) (S : Str → Bool × Int) (h : Int) : Prop where
  h0 : 0 ≤ h
  lf : ∀ n ∈ ns, (S n).1 = true → (S n).2 = h
  gn : ∀ n ∈ ns, (S n).1 = false → (S n).2 = 0 ∨ (h ≤ (S n).2 ∧ 1 ≤ (S n).2)
  nz : left1 ns S = false → h = 0 ∧ ∀ n ∈ ns, S n = (false, 0)
theorem RowS.Nz {ns : List Str} {S : Str → Bool × Int} {h : Int} (r : RowS ns S h) : Nz ns S := fun q => (r.nz q).2
theorem fs_mem {ns : List Str} {S : Str → Bool × Int} (hl : left1 ns S = true) {e : En} : e ∈ (fsM ns S).1 ↔ e.1 ∈ ns ∧ S e.1 ≠ (false, 0) ∧ e.2 = sideE e.1 (S e.1) := by
  rw [fs_eq hl]
  constructor
  · intro h
    obtain ⟨k, hk, rfl⟩ := List.mem_map.mp h
    obtain ⟨h1, h2⟩ := List.mem_filter.mp hk
    exact ⟨h1, by simpa using h2, rfl⟩
  · rintro ⟨h1, h2, h3⟩
    exact List.mem_map.mpr ⟨e.1, List.mem_filter.mpr ⟨h1, by simpa using h2⟩, Prod.ext rfl h3.symm⟩
theorem fs_gone {ns : List Str} {S : Str → Bool × Int} (hl : left1 ns S = true) {x : Rm} : x ∈ goneM (fsM ns S) ↔ x = some 0 ∨ ∃ n ∈ ns, (S n).1 = false ∧ x = some (S n).2 := by
  unfold goneM
  rw [fs_rest, List.mem_append]
  simp only [Bool.false_eq_true, if_false, List.mem_singleton]
  constructor
  · rintro (h | h)
    · obtain ⟨e, he, rfl⟩ := List.mem_map.mp h
      obtain ⟨h1, h2⟩ := List.mem_filter.mp he
      obtain ⟨h3, h4, h5⟩ := (fs_mem hl).mp h1
      right
      rw [h5] at h2 ⊢
      unfold sideE at h2 ⊢
      cases q : (S e.1).1 with
      | true =>
        rw [q] at h2
        cases h2
      | false => exact ⟨e.1, h3, q, rfl⟩
    · exact .inl h
  · rintro (h | ⟨n, hn, h1, h2⟩)
    · exact .inr h
    · by_cases h3 : S n = (false, 0)
      · rw [h3] at h2
        exact .inr h2
      · left
        refine List.mem_map.mpr ⟨(n, sideE n (S n)), List.mem_filter.mpr ⟨(fs_mem hl).mpr ⟨hn, h3, rfl⟩, ?_⟩, h2.symm⟩
        unfold sideE
        rw [h1]
        rfl
theorem cut_mem {ns : List Str} {S : Str → Bool × Int} (hl : left1 ns S = true) {r : Int} : r ∈ cutRooms (fsM ns S) ↔ 0 < r ∧ ∃ n ∈ ns, S n = (false, r) := by
  unfold cutRooms
  rw [List.mem_reverse, ssetI_mem, List.mem_map]
  constructor
  · rintro ⟨x, hx, rfl⟩
    obtain ⟨h1, h2⟩ := List.mem_filter.mp hx
    rcases (fs_gone hl).mp h1 with q | ⟨n, hn, q1, q2⟩
    · subst q
      simp at h2
    · subst q2
      have h2 : 0 < (S n).2 := by simpa using h2
      exact ⟨h2, n, hn, Prod.ext q1 rfl⟩
  · rintro ⟨h1, n, hn, h2⟩
    refine ⟨some r, List.mem_filter.mpr ⟨(fs_gone hl).mpr (.inr ⟨n, hn, by rw [h2], by rw [h2]⟩), ?_⟩, rfl⟩
    simpa using h1
theorem cut_desc (F : Fm) : (cutRooms F).Pairwise (fun a b => b < a) := by
  unfold cutRooms
  rw [List.pairwise_reverse]
  exact ssetI_lt _
theorem fate_dead (t : List Str → Bool → Bool) : ∀ (ss : List Stp) (x : Rm), ss.foldl (fstep t) (false, x) = (false, x)
  | [], x => rfl
  | s :: ss, x => by
    have e : fstep t (false, x) s = (false, x) := by cases s <;> rfl
    rw [List.foldl_cons, e, fate_dead t ss x]
theorem lesser_num {x : Rm} {r : Int} (h : ∀ y, x = some y → r ≤ y) : lesserM x (some r) = some r := by
  cases x with
  | none => rfl
  | some y =>
    show some (min y r) = some r
    rw [Int.min_eq_right (h y rfl)]
theorem cuts_left (F : Fm) (t : List Str → Bool → Bool) : ∀ (rs : List Int) (x : Rm), rs.Pairwise (fun a b => b < a) → (∀ r ∈ rs, t (goneLab F (some r)).1 (goneLab F (some r)).2 = false) → (∀ y, x = some y → ∀ r ∈ rs, r ≤ y) →
    ∃ y, (cutSteps F rs).foldl (fstep t) (true, x) = (true, y) ∧ ((rs = [] ∧ y = x) ∨ ∃ m, y = some m ∧ m ∈ rs ∧ ∀ r ∈ rs, m ≤ r)
  | [], x, _, _, _ => ⟨x, rfl, .inl ⟨rfl, rfl⟩⟩
  | r :: rs, x, h, ht, hx => by
    obtain ⟨h1, h2⟩ := List.pairwise_cons.mp h
    obtain ⟨y, e1, e2⟩ := cuts_left F t rs (some r) h2 (fun q hq => ht q (List.mem_cons_of_mem _ hq)) fun y hy q hq => by
      cases hy
      exact Int.le_of_lt (h1 q hq)
    refine ⟨y, ?_, .inr ?_⟩
    · show (cutSteps F rs).foldl (fstep t) (fstep t (fstep t (true, x) (.cut (r + 1))) (.unw (goneLab F (some r)).1 (goneLab F (some r)).2)) = _
      have a1 : fstep t (true, x) (.cut (r + 1)) = (true, some r) := by
        show (true, lesserM x (some (r + 1 - 1))) = _
        rw [Int.add_sub_cancel, lesser_num fun y hy => hx y hy r List.mem_cons_self]
      rw [a1]
      have a2 : fstep t (true, some r) (.unw (goneLab F (some r)).1 (goneLab F (some r)).2) = (true, some r) := by
        show (if (true && t _ _) = true then _ else _) = _
        rw [ht r List.mem_cons_self]
        rfl
      rw [a2, e1]
    · rcases e2 with ⟨rfl, rfl⟩ | ⟨m, rfl, hm, hl⟩
      · exact ⟨r, rfl, List.mem_cons_self, fun q hq => by rw [List.mem_singleton.mp hq]; exact Int.le_refl _⟩
      · refine ⟨m, rfl, List.mem_cons_of_mem _ hm, fun q hq => ?_⟩
        rcases List.mem_cons.mp hq with e | hq
        · rw [e]
          exact Int.le_of_lt (h1 m hm)
        · exact hl q hq
theorem cuts_gone (F : Fm) (t : List Str → Bool → Bool) (v : Int) : ∀ (rs : List Int) (x : Rm), rs.Pairwise (fun a b => b < a) → v ∈ rs → (∀ r ∈ rs, t (goneLab F (some r)).1 (goneLab F (some r)).2 = decide (r = v)) → (∀ y, x = some y → ∀ r ∈ rs, r ≤ y) →
    (cutSteps F rs).foldl (fstep t) (true, x) = (false, some v)
  | r :: rs, x, h, hv, ht, hx => by
    obtain ⟨h1, h2⟩ := List.pairwise_cons.mp h
    show (cutSteps F rs).foldl (fstep t) (fstep t (fstep t (true, x) (.cut (r + 1))) (.unw (goneLab F (some r)).1 (goneLab F (some r)).2)) = _
    have a1 : fstep t (true, x) (.cut (r + 1)) = (true, some r) := by
      show (true, lesserM x (some (r + 1 - 1))) = _
      rw [Int.add_sub_cancel, lesser_num fun y hy => hx y hy r List.mem_cons_self]
    rw [a1]
    have a2 : fstep t (true, some r) (.unw (goneLab F (some r)).1 (goneLab F (some r)).2) = (if decide (r = v) = true then (false, some r) else (true, some r)) := by
      show (if (true && t _ _) = true then _ else _) = _
      rw [ht r List.mem_cons_self]
      rfl
    rw [a2]
    by_cases e : r = v
    · subst e
      rw [if_pos (by simp), fate_dead]
    · rw [if_neg (by simpa using e)]
      have hv : v ∈ rs := by
        rcases List.mem_cons.mp hv with q | q
        · exact absurd q.symm e
        · exact q
      exact cuts_gone F t v rs (some r) h2 hv (fun q hq => ht q (List.mem_cons_of_mem _ hq)) fun y hy q hq => by
        cases hy
        exact Int.le_of_lt (h1 q hq)
theorem lab_zero (ns : List Str) (S : Str → Bool × Int) : goneLab (fsM ns S) (some 0) = (ssetS ((fsM ns S).1.map (·.1)), true) := by
  unfold goneLab labelsGoneM
  rw [fs_rest]
  rw [if_pos (by simp)]
theorem lab_room {ns : List Str} {S : Str → Bool × Int} (hl : left1 ns S = true) {r : Int} (hr : 0 < r) (n : Str) : inLot (goneLab (fsM ns S) (some r)).1 (goneLab (fsM ns S) (some r)).2 n = decide (n ∈ ns ∧ S n = (false, r)) := by
  unfold goneLab labelsGoneM inLot
  rw [fs_rest]
  have hn : ¬ (!false && decide ((some (0 : Int)) = some r)) = true := by
    simp
    omega
  rw [if_neg hn]
  show (decide (n ∈ ssetS _) != false) = _
  rw [Bool.bne_false]
  congr 1
  rw [ssetS_mem, eq_iff_iff]
  constructor
  · intro h
    obtain ⟨e, he, rfl⟩ := List.mem_map.mp h
    obtain ⟨h1, h2⟩ := List.mem_filter.mp he
    obtain ⟨h3, h4, h5⟩ := (fs_mem hl).mp h1
    rw [h5] at h2
    unfold sideE at h2
    refine ⟨h3, ?_⟩
    cases q : (S e.1).1 with
    | true =>
      rw [q] at h2
      cases h2
    | false =>
      rw [q] at h2
      refine Prod.ext q ?_
      simpa using h2
  · rintro ⟨h1, h2⟩
    refine List.mem_map.mpr ⟨(n, sideE n (S n)), List.mem_filter.mpr ⟨(fs_mem hl).mpr ⟨h1, ?_, rfl⟩, ?_⟩, rfl⟩
    · rw [h2]
      simp
      omega
    · rw [h2]
      simp [sideE]
theorem plain_ok {ns : List Str} {S : Str → Bool × Int} {h : Int} (R : RowS ns S h) : ∀ s ∈ plainM (fsM ns S), s.ok ∧ lotIn ns s := by
  intro s hs
  have sub : ∀ x : Rm, ∀ n ∈ (goneLab (fsM ns S) x).1, n ∈ ns := fun x n hn => by
    unfold goneLab labelsGoneM at hn
    have hn := ssetS_mem.mp hn
    split at hn
    · obtain ⟨e, he, rfl⟩ := List.mem_map.mp hn
      exact (fs_names e he).1
    · obtain ⟨e, he, rfl⟩ := List.mem_map.mp hn
      exact (fs_names e (List.mem_filter.mp he).1).1
  unfold plainM at hs
  split at hs
  · rw [List.mem_singleton.mp hs]
    exact ⟨True.intro, fun n hn => by cases ssetS_mem.mp hn⟩
  · rename_i hne
    have hl : left1 ns S = true := by
      cases q : left1 ns S with
      | true => rfl
      | false => exact absurd (fs_none q) hne
    rcases List.mem_append.mp hs with hs | hs
    · rcases List.mem_append.mp hs with hs | hs
      · unfold headSteps at hs
        rcases List.mem_append.mp hs with hs | hs
        · split at hs
          · rw [List.mem_singleton.mp hs]
            exact ⟨True.intro, sub _⟩
          · cases hs
        · split at hs
          · rw [List.mem_singleton.mp hs]
            exact ⟨True.intro, sub _⟩
          · cases hs
      · unfold cutSteps at hs
        obtain ⟨r, hr, hs⟩ := List.mem_flatMap.mp hs
        have hr := ((cut_mem hl).mp hr).1
        rcases List.mem_cons.mp hs with e | hs
        · rw [e]
          exact ⟨show 1 ≤ r + 1 by omega, True.intro⟩
        · rw [List.mem_singleton.mp hs]
          exact ⟨True.intro, sub _⟩
    · unfold endSteps at hs
      rw [fs_height R.lf fun q => (R.nz q).1] at hs
      simp only at hs
      split at hs
      · rw [List.mem_singleton.mp hs]
        have := R.h0
        exact ⟨show 1 ≤ h + 1 by omega, True.intro⟩
      · cases hs
theorem plain_back {ns : List Str} (hs : SrtN ns) {S : Str → Bool × Int} {h : Int} (R : RowS ns S h) : formStepsM (plainM (fsM ns S)) = fsM ns S := by
  have SF := steps_form fun s hs => (plain_ok R s hs).1
  cases hl : left1 ns S with
  | false =>
    rw [fs_none hl] at SF ⊢
    rcases SF.alt with ⟨q, _⟩ | ⟨h1, h2, h3⟩
    · exact q
    · exfalso
      rcases h3 with h3 | ⟨e, he, h3⟩
      · exact Bool.false_ne_true h3
      · have q := h1 e.1
        rw [entry_in SF.can.srt he] at q
        rw [q] at h3
        have w : fateM (plainM nothingM) e.1 = (false, some 0) := by
          have : plainM nothingM = [Stp.drop (ssetS []) true] := by
            unfold plainM
            rw [if_pos rfl]
          rw [this]
          show (if (true && inLot (ssetS []) true e.1) = true then (false, some 0) else (true, none)) = ((false, some 0) : Bool × Rm)
          have : inLot (ssetS []) true e.1 = true := by
            unfold inLot
            have : e.1 ∉ ssetS [] := fun m => by cases ssetS_mem.mp m
            simp [this]
          rw [this]
          rfl
        rw [w] at h3
        cases h3
  | true =>
    have hne : fsM ns S ≠ nothingM := fun q => by
      rw [fs_nothing hs R.Nz, hl] at q
      cases q
    have hp : plainM (fsM ns S) = [Stp.drop (ssetS ((fsM ns S).1.map (·.1))) true] ++ cutSteps (fsM ns S) (cutRooms (fsM ns S)) ++ endSteps (fsM ns S) := by
      unfold plainM
      rw [if_neg hne]
      congr 2
      unfold headSteps
      rw [if_pos ((fs_gone hl).mpr (.inl rfl)), lab_zero, if_neg]
      · rfl
      · intro q
        rcases (fs_gone hl).mp q with q | ⟨n, _, _, q⟩ <;> cases q
    have hH := fs_height R.lf fun q => (R.nz q).1
    have cl := fun (x : Rm) (t) => cuts_left (fsM ns S) t (cutRooms (fsM ns S)) x (cut_desc _)
    -- each label
    have fate : ∀ n, fateE n (fateM (plainM (fsM ns S)) n) = entryM (fsM ns S) n := fun n => by
      unfold fateM fateT
      rw [hp, List.foldl_append, List.foldl_append, List.foldl_cons, List.foldl_nil]
      by_cases hm : n ∈ ns ∧ S n ≠ (false, 0)
      · have hin : inLot (ssetS ((fsM ns S).1.map (·.1))) true n = false := by
          unfold inLot
          have : n ∈ ssetS ((fsM ns S).1.map (·.1)) := ssetS_mem.mpr (List.mem_map.mpr ⟨(n, sideE n (S n)), (fs_mem hl).mpr ⟨hm.1, hm.2, rfl⟩, rfl⟩)
          simp [this]
        have e0 : fstep (fun ns r => inLot ns r n) (true, none) (.drop (ssetS ((fsM ns S).1.map (·.1))) true) = (true, none) := by
          show (if (true && inLot _ true n) = true then _ else _) = _
          rw [hin]
          rfl
        rw [e0, fs_entry hs R.Nz hm.1]
        cases hS : (S n).1 with
        | true =>
          have hv := R.lf n hm.1 hS
          obtain ⟨y, e1, e2⟩ := cl none (fun ns r => inLot ns r n) (fun r hr => by
            rw [lab_room hl ((cut_mem hl).mp hr).1 n]
            simp only [decide_eq_false_iff_not]
            rintro ⟨_, q⟩
            rw [q] at hS
            cases hS) (fun y hy => by cases hy)
          rw [e1]
          have e3 : (endSteps (fsM ns S)).foldl (fstep fun ns r => inLot ns r n) (true, y) = (true, some h) := by
            unfold endSteps
            rw [hH]
            simp only
            have big : ∀ z, y = some z → h ≤ z := fun z hz => by
              rcases e2 with ⟨_, q⟩ | ⟨m, q, hm2, _⟩
              · rw [q] at hz
                cases hz
              · rw [q] at hz
                cases hz
                obtain ⟨p1, k, hk, p2⟩ := (cut_mem hl).mp hm2
                have g := R.gn k hk (by rw [p2])
                rw [p2] at g
                simp only at g
                omega
            split
            · show (true, lesserM y (some (h + 1 - 1))) = _
              rw [Int.add_sub_cancel, lesser_num big]
            · rename_i hc
              have hc : h ≠ 0 ∧ some h ∈ goneM (fsM ns S) := by
                simpa using hc
              obtain ⟨c1, c2⟩ := hc
              have hmem : h ∈ cutRooms (fsM ns S) := by
                have := R.h0
                rcases (fs_gone hl).mp c2 with q | ⟨k, hk, q1, q2⟩
                · cases q
                  exact absurd rfl c1
                · refine (cut_mem hl).mpr ⟨by omega, k, hk, Prod.ext q1 ?_⟩
                  cases q2
                  rfl
              show (true, y) = (true, some h)
              rcases e2 with ⟨q, _⟩ | ⟨m, q, hm2, hl2⟩
              · rw [q] at hmem
                cases hmem
              · have := hl2 h hmem
                have := big m q
                rw [q]
                congr 2
                omega
          rw [e3]
          unfold fateE sideE
          rw [hS, hv]
        | false =>
          have hpos : 0 < (S n).2 := by
            rcases R.gn n hm.1 hS with q | q
            · exact absurd (Prod.ext hS q) hm.2
            · omega
          rw [cuts_gone (fsM ns S) (fun ns r => inLot ns r n) (S n).2 _ none (cut_desc _) ((cut_mem hl).mpr ⟨hpos, n, hm.1, Prod.ext hS rfl⟩) (fun r hr => ?_) (fun y hy => by cases hy), fate_dead]
          · unfold fateE sideE
            rw [hS]
          · rw [lab_room hl ((cut_mem hl).mp hr).1 n]
            congr 1
            rw [eq_iff_iff]
            constructor
            · rintro ⟨_, q⟩
              rw [q]
            · intro q
              exact ⟨hm.1, Prod.ext hS q.symm⟩
      · have hin : inLot (ssetS ((fsM ns S).1.map (·.1))) true n = true := by
          unfold inLot
          have : n ∉ ssetS ((fsM ns S).1.map (·.1)) := fun q => by
            obtain ⟨e, he, rfl⟩ := List.mem_map.mp (ssetS_mem.mp q)
            obtain ⟨h1, h2, _⟩ := (fs_mem hl).mp he
            exact hm ⟨h1, h2⟩
          simp [this]
        have e0 : fstep (fun ns r => inLot ns r n) (true, none) (.drop (ssetS ((fsM ns S).1.map (·.1))) true) = (false, some 0) := by
          show (if (true && inLot _ true n) = true then _ else _) = _
          rw [hin]
          rfl
        rw [e0, fate_dead, fate_dead]
        by_cases hn : n ∈ ns
        · have hz : S n = (false, 0) := by
            cases Classical.em (S n = (false, 0)) with
            | inl q => exact q
            | inr q => exact absurd ⟨hn, q⟩ hm
          rw [fs_entry hs R.Nz hn, hz]
          rfl
        · rw [fs_other hn]
          rfl
    have fr : fateR (plainM (fsM ns S)) = (false, some 0) := by
      unfold fateR fateT
      rw [hp, List.foldl_append, List.foldl_append]
      show List.foldl _ (List.foldl _ (false, some 0) _) _ = _
      rw [fate_dead, fate_dead]
    rcases SF.alt with ⟨_, q, _⟩ | ⟨h1, h2, h3⟩
    · exfalso
      obtain ⟨n, hn, hS⟩ := List.any_eq_true.mp hl
      have e := fate n
      rw [fs_entry hs R.Nz hn] at e
      have q := q n
      unfold fateE sideE at e
      rw [q, hS] at e
      cases e
    · refine canon_ext SF.can (fs_canon hs S) ?_ fun n => ?_
      · rw [h2, fr, fs_rest]
      · rw [h1, fate]
end PL
/-! MA7: what lies between two forms -/
namespace PL
open PySem PySem.Spec PyProof.Rows L2
/-! ### the order of data -/
theorem dlt_irr (d : PyData) : PySem.W.dataLt d d = false := PySem.W.dataLt_self d
theorem dlt_tr {a b c : PyData} (h1 : PySem.W.dataLt a b = true) (h2 : PySem.W.dataLt b c = true) : PySem.W.dataLt a c = true := lex_trans _ _ _ h1 h2
theorem dlt_asym {a b : PyData} (h1 : PySem.W.dataLt a b = true) : PySem.W.dataLt b a = false := by
  cases h : PySem.W.dataLt b a with
  | false => rfl
  | true =>
    have := dlt_tr h1 h
    rw [dlt_irr] at this
    cases this
theorem leD_eq (a b : D) : leD a b = !PySem.W.dataLt b.py a.py := rfl
theorem leD_tot : PySem.W.TotalLe leD := by
  have h : PySem.W.TotalLe (PySem.W.dataLe false D.py) := PySem.W.sortLe_total _ _ _
  exact ⟨h.trans, h.total⟩
theorem strs_toD : ∀ xs : List Str, D.pys (xs.map D.str) = xs.map PySem.W.Datum.toD
  | [] => rfl
  | x :: xs => by
    show PyData.str x :: D.pys (xs.map D.str) = _
    rw [strs_toD xs]
    rfl
theorem ltL_eq (xs ys : List Str) : ltL xs ys = PySem.W.listLt xs ys := by
  show PySem.W.dataLt (.tuple (D.pys (xs.map D.str))) (.tuple (D.pys (ys.map D.str))) = _
  rw [PySem.W.dataLt_tuple, strs_toD, strs_toD, PySem.W.lexAll_map]
theorem ltL_tri : ∀ xs ys : List Str, PySem.W.listLt xs ys = false → PySem.W.listLt ys xs = false → xs = ys
  | [], [], _, _ => rfl
  | [], _ :: _, h, _ => nomatch h
  | _ :: _, [], _, h => nomatch h
  | x :: xs, y :: ys, h1, h2 => by
    rw [PySem.W.listLt] at h1 h2
    by_cases e : x = y
    · rw [if_pos e] at h1
      rw [if_pos e.symm] at h2
      rw [e, ltL_tri xs ys h1 h2]
    · rw [if_neg e] at h1
      rw [if_neg fun q => e q.symm] at h2
      have h1 : decide (x.cps.toList < y.cps.toList) = false := h1
      have h2 : decide (y.cps.toList < x.cps.toList) = false := h2
      have h3 : y.cps.toList ≤ x.cps.toList := List.not_lt.mp (of_decide_eq_false h1)
      have h4 : x.cps.toList ≤ y.cps.toList := List.not_lt.mp (of_decide_eq_false h2)
      exact absurd (leS_anti x y (decide_eq_true h4) (decide_eq_true h3)) e
theorem lots_pair {xs : List (List Str)} (h : xs.Nodup) : (xs.mergeSort leL).Pairwise fun a b => ltL a b = true := by
  have tr : ∀ a b c : List Str, leL a b = true → leL b c = true → leL a c = true := fun a b c => leD_tot.trans (encNt a) (encNt b) (encNt c)
  have tot : ∀ a b : List Str, (leL a b || leL b a) = true := fun a b => by
    rw [Bool.or_eq_true]
    exact leD_tot.total (encNt a) (encNt b)
  have h1 : (xs.mergeSort leL).Pairwise (fun a b => leL a b = true) := List.pairwise_mergeSort tr tot _
  have h2 : (xs.mergeSort leL).Nodup := (List.mergeSort_perm _ _).nodup_iff.mpr h
  refine (List.Pairwise.and h1 h2).imp fun {a b} h => ?_
  have h3 : (!ltL b a) = true := h.1
  cases q : ltL a b with
  | true => rfl
  | false =>
    rw [ltL_eq] at q h3
    exact absurd (ltL_tri a b q (by simpa using h3)) h.2
/-! ### within -/
theorem fs_side {ns : List Str} (hs : SrtN ns) {S : Str → Bool × Int} (hz : Nz ns S) {n : Str} (hn : n ∈ ns) : sideM (fsM ns S) n = ((S n).1, some (S n).2) := by
  unfold sideM
  rw [fs_entry hs hz hn]
  unfold sideE
  cases (S n).1 <;> rfl
theorem within_fs {ns : List Str} (hs : SrtN ns) {S U : Str → Bool × Int} (hz : Nz ns S) (hu : Nz ns U) : withinM (fsM ns S) (fsM ns U) = true ↔ ∀ n ∈ ns, ((S n).1 = true → (U n).1 = true) ∧ (S n).2 ≤ (U n).2 := by
  unfold withinM pairsM toldM
  rw [List.all_append, Bool.and_eq_true, List.all_map, fs_rest, fs_rest]
  have h2 : [(((false, some 0) : Bool × Rm), ((false, some 0) : Bool × Rm))].all (fun p => (!p.1.1 || p.2.1) && mostM p.1.2 p.2.2) = true := by decide
  rw [h2]
  simp only [and_true, List.all_eq_true]
  constructor
  · intro h n hn
    by_cases ht : n ∈ ssetS (((fsM ns S).1 ++ (fsM ns U).1).map (·.1))
    · have q := h n ht
      simp only [Function.comp, fs_side hs hz hn, fs_side hs hu hn, mostM, Bool.and_eq_true, decide_eq_true_eq, Bool.or_eq_true, Bool.not_eq_true'] at q
      refine ⟨fun w => ?_, q.2⟩
      rcases q.1 with q | q
      · rw [q] at w
        cases w
      · exact q
    · have out : ∀ {V : Str → Bool × Int}, Nz ns V → (∀ e ∈ (fsM ns V).1, e.1 ≠ n) → V n = (false, 0) := fun {V} hv q => by
        cases hl : left1 ns V with
        | false => exact hv hl n hn
        | true =>
          cases Classical.em (V n = (false, 0)) with
          | inl z => exact z
          | inr z => exact absurd rfl (q (n, sideE n (V n)) ((fs_mem hl).mpr ⟨hn, z, rfl⟩))
      have o1 := out hz fun e he q => ht (ssetS_mem.mpr (List.mem_map.mpr ⟨e, List.mem_append_left _ he, q⟩))
      have o2 := out hu fun e he q => ht (ssetS_mem.mpr (List.mem_map.mpr ⟨e, List.mem_append_right _ he, q⟩))
      rw [o1, o2]
      exact ⟨fun h => h, Int.le_refl _⟩
  · intro h n hn
    have hm : n ∈ ns := by
      obtain ⟨e, he, rfl⟩ := List.mem_map.mp (ssetS_mem.mp hn)
      rcases List.mem_append.mp he with he | he
      · exact (fs_names e he).1
      · exact (fs_names e he).1
    obtain ⟨h1, h3⟩ := h n hm
    simp only [Function.comp, fs_side hs hz hm, fs_side hs hu hm, mostM, Bool.and_eq_true, decide_eq_true_eq, Bool.or_eq_true, Bool.not_eq_true']
    refine ⟨?_, h3⟩
    cases q : (S n).1 with
    | false => exact .inl rfl
    | true => exact .inr (h1 q)
theorem over_fs {ns : List Str} (hs : SrtN ns) {S : Str → Bool × Int} (hz : Nz ns S) : overM (fsM ns S) ns = fsM ns S := by
  unfold overM
  rw [ssetS_id hs]
  have e : (ns.map fun n => ((n, sideM (fsM ns S) n) : Mk2)) = ns.map fun n => (n, ((S n).1, some (S n).2)) := List.map_congr_left fun n hn => by rw [fs_side hs hz hn]
  rw [e]
  rfl
/-! ### two forms, by their sides -/
structure Bw (b : Bt) (L U : Str → Bool × Int) (hl hu : Int) : Prop where
  srt : SrtN b.ns
  elo : b.lo = fsM b.ns L
  ehi : b.hi = fsM b.ns U
  rl : RowS b.ns L hl
  ru : RowS b.ns U hu
section
variable {b : Bt} {L U : Str → Bool × Int} {hl hu : Int} (W : Bw b L U hl hu)
include W
theorem Bw.l {n : Str} (hn : n ∈ b.ns) : b.l n = (L n).2 := by
  unfold Bt.l
  rw [W.elo, fs_entry W.srt W.rl.Nz hn]
  rfl
theorem Bw.u {n : Str} (hn : n ∈ b.ns) : b.u n = (U n).2 := by
  unfold Bt.u
  rw [W.ehi, fs_entry W.srt W.ru.Nz hn]
  rfl
theorem Bw.il {n : Str} (hn : n ∈ b.ns) : b.il n = (L n).1 := by
  unfold Bt.il
  rw [W.elo, fs_entry W.srt W.rl.Nz hn]
  unfold sideE
  cases (L n).1 <;> rfl
theorem Bw.iu {n : Str} (hn : n ∈ b.ns) : b.iu n = (U n).1 := by
  unfold Bt.iu
  rw [W.ehi, fs_entry W.srt W.ru.Nz hn]
  unfold sideE
  cases (U n).1 <;> rfl
theorem Bw.top : b.top = hu := by
  unfold Bt.top
  rw [W.ehi, fs_height W.ru.lf fun q => (W.ru.nz q).1]
  rfl
theorem Bw.l0 {n : Str} (hn : n ∈ b.ns) : 0 ≤ b.l n := by
  rw [W.l hn]
  have := W.rl.h0
  cases q : (L n).1 with
  | true =>
    have := W.rl.lf n hn q
    omega
  | false =>
    have := W.rl.gn n hn q
    omega
theorem Bw.within : withinM b.lo b.hi = true ↔ ∀ n ∈ b.ns, (b.il n = true → b.iu n = true) ∧ b.l n ≤ b.u n := by
  rw [W.elo, W.ehi, within_fs W.srt W.rl.Nz W.ru.Nz]
  constructor
  · intro h n hn
    rw [W.il hn, W.iu hn, W.l hn, W.u hn]
    exact h n hn
  · intro h n hn
    have := h n hn
    rwa [W.il hn, W.iu hn, W.l hn, W.u hn] at this
theorem Bw.nothing : b.lo = nothingM ↔ ∀ n ∈ b.ns, b.il n = false := by
  rw [W.elo, fs_nothing W.srt W.rl.Nz]
  unfold left1
  rw [List.any_eq_false]
  constructor
  · intro h n hn
    rw [W.il hn]
    simpa using h n hn
  · intro h n hn
    have := h n hn
    rw [W.il hn] at this
    rw [this]
    exact Bool.false_ne_true
theorem Bw.uTop {n : Str} (hn : n ∈ b.ns) (h : b.iu n = true) : b.u n = b.top := by
  rw [W.iu hn] at h
  rw [W.u hn, W.top]
  exact W.ru.lf n hn h
theorem Bw.ways (hw : withinM b.lo b.hi = true) : b.Ways := fun n hn r hr => by
  obtain ⟨w1, w2⟩ := W.within.mp hw n hn
  have z := W.l0 hn
  have t0 : 0 ≤ b.top := by
    rw [W.top]
    exact W.ru.h0
  have big : b.u n = 0 ∨ (b.top ≤ b.u n ∧ 1 ≤ b.u n) ∨ b.u n = b.top := by
    cases q : b.iu n with
    | true => exact .inr (.inr (W.uTop hn q))
    | false =>
      have := W.ru.gn n hn (by rw [← W.iu hn]; exact q)
      rw [W.u hn, W.top]
      omega
  unfold waysI
  by_cases h0 : b.l n = 0
  · rw [if_pos h0]
    omega
  · rw [if_neg h0]
    omega
end
/-! ### the lots -/
theorem lots0_spec (b : Bt) : ∀ ns : List Str, ns.Nodup → (lots0 b ns).Nodup ∧ lots0 b ns ≠ [] ∧ ∀ x ∈ lots0 b ns, x.Sublist ns ∧ (∀ n ∈ ns, b.il n = true → n ∈ x) ∧ ∀ n ∈ x, b.il n = true ∨ b.iu n = true := by
  intro ns
  induction ns using snocI with
  | h0 =>
    refine fun _ => ⟨by simp [lots0], by simp [lots0], fun x hx => ?_⟩
    have hx : x = [] := by simpa [lots0] using hx
    subst hx
    exact ⟨.slnil, fun n hn => (nomatch hn), fun n hn => (nomatch hn)⟩
  | h1 ns n ih =>
    intro hd
    have hd1 : ns.Nodup := hd.sublist (List.sublist_append_left _ _)
    have hn : n ∉ ns := fun m => by
      have := (List.nodup_append.mp hd).2.2 n m n List.mem_cons_self
      exact this rfl
    obtain ⟨h1, h2, h3⟩ := ih hd1
    have es : lots0 b (ns ++ [n]) = lotStep b (lots0 b ns) n := by
      unfold lots0
      rw [List.foldl_append]
      rfl
    have hm : ((lots0 b ns).map (· ++ [n])).Nodup := by
      unfold List.Nodup
      rw [List.pairwise_map]
      exact List.Pairwise.imp (fun {a c} h q => h (List.append_cancel_right q)) h1
    have ap : ∀ x ∈ (lots0 b ns).map (· ++ [n]), ∃ y ∈ lots0 b ns, x = y ++ [n] := fun x hx => by
      obtain ⟨y, hy, q⟩ := List.mem_map.mp hx
      exact ⟨y, hy, q.symm⟩
    have sub1 : ∀ y ∈ lots0 b ns, n ∉ y := fun y hy m => hn ((h3 y hy).1.subset m)
    rw [es]
    unfold lotStep
    by_cases c1 : b.il n = true
    · rw [if_pos c1]
      refine ⟨hm, by simpa using h2, fun x hx => ?_⟩
      obtain ⟨y, hy, rfl⟩ := ap x hx
      obtain ⟨s1, s2, s3⟩ := h3 y hy
      refine ⟨s1.append (List.Sublist.refl _), fun m hm hl => ?_, fun m hm => ?_⟩
      · rcases List.mem_append.mp hm with hm | hm
        · exact List.mem_append_left _ (s2 m hm hl)
        · exact List.mem_append_right _ hm
      · rcases List.mem_append.mp hm with hm | hm
        · exact s3 m hm
        · rw [List.mem_singleton.mp hm]
          exact .inl c1
    · rw [if_neg c1]
      have old : ∀ y ∈ lots0 b ns, y.Sublist (ns ++ [n]) ∧ (∀ m ∈ ns ++ [n], b.il m = true → m ∈ y) ∧ ∀ m ∈ y, b.il m = true ∨ b.iu m = true := fun y hy => by
        obtain ⟨s1, s2, s3⟩ := h3 y hy
        refine ⟨s1.trans (List.sublist_append_left _ _), fun m hm hl => ?_, s3⟩
        rcases List.mem_append.mp hm with hm | hm
        · exact s2 m hm hl
        · rw [List.mem_singleton.mp hm] at hl
          exact absurd hl c1
      by_cases c2 : b.iu n = true
      · rw [if_pos c2]
        refine ⟨?_, by simp [h2], fun x hx => ?_⟩
        · refine List.nodup_append.mpr ⟨h1, hm, fun x hx y hy q => ?_⟩
          subst q
          obtain ⟨z, hz, q⟩ := ap x hy
          exact sub1 x hx (by rw [q]; simp)
        · rcases List.mem_append.mp hx with hx | hx
          · exact old x hx
          · obtain ⟨y, hy, rfl⟩ := ap x hx
            obtain ⟨s1, s2, s3⟩ := h3 y hy
            refine ⟨s1.append (List.Sublist.refl _), fun m hm hl => ?_, fun m hm => ?_⟩
            · rcases List.mem_append.mp hm with hm | hm
              · exact List.mem_append_left _ (s2 m hm hl)
              · exact List.mem_append_right _ hm
            · rcases List.mem_append.mp hm with hm | hm
              · exact s3 m hm
              · rw [List.mem_singleton.mp hm]
                exact .inr c2
      · rw [if_neg c2]
        exact ⟨h1, h2, old⟩
structure LotOk (b : Bt) (lot : List Str) : Prop where
  ne : lot ≠ []
  sub : lot.Sublist b.ns
  low : ∀ n ∈ b.ns, b.il n = true → n ∈ lot
  hig : ∀ n ∈ lot, b.il n = true ∨ b.iu n = true
theorem lots_ok {b : Bt} (hd : b.ns.Nodup) : (lotsM b).Pairwise (fun x y => ltL x y = true) ∧ ∀ lot ∈ lotsM b, LotOk b lot := by
  obtain ⟨h1, h2, h3⟩ := lots0_spec b b.ns hd
  unfold lotsM
  refine ⟨lots_pair (h1.sublist List.filter_sublist), fun lot hl => ?_⟩
  obtain ⟨m1, m2⟩ := List.mem_filter.mp ((List.mergeSort_perm _ _).mem_iff.mp hl)
  obtain ⟨s1, s2, s3⟩ := h3 lot m1
  refine ⟨fun e => ?_, s1, s2, s3⟩
  rw [e] at m2
  exact absurd m2 (by decide)
theorem lot_mem {ns lot : List Str} (hd : ns.Nodup) (h : lot.Sublist ns) : ns.filter (fun n => decide (n ∈ lot)) = lot := by
  induction h with
  | slnil => rfl
  | @cons l1 l2 a h ih =>
    obtain ⟨h1, h2⟩ := List.nodup_cons.mp hd
    rw [List.filter_cons_of_neg (by simpa using fun m => h1 (h.subset m)), ih h2]
  | @cons_cons l1 l2 a h ih =>
    obtain ⟨h1, h2⟩ := List.nodup_cons.mp hd
    rw [List.filter_cons_of_pos (by simp)]
    congr 1
    rw [← ih h2]
    refine List.filter_congr fun n hn => ?_
    rw [ih h2]
    have : n ≠ a := fun e => h1 (by rw [← e]; exact hn)
    simp [this]
theorem first_ge (b : Bt) : ∀ (lot : List Str) (a : Int), a ≤ lot.foldl (fun a n => if a ≤ b.l n then b.l n else a) a ∧ ∀ n ∈ lot, b.l n ≤ lot.foldl (fun a n => if a ≤ b.l n then b.l n else a) a
  | [], a => ⟨Int.le_refl _, fun n hn => (nomatch hn)⟩
  | m :: lot, a => by
    have ih := first_ge b lot (if a ≤ b.l m then b.l m else a)
    rw [List.foldl_cons]
    refine ⟨?_, fun n hn => ?_⟩
    · refine Int.le_trans ?_ ih.1
      split <;> omega
    · rcases List.mem_cons.mp hn with e | hn
      · refine Int.le_trans ?_ ih.1
        rw [e]
        split <;> omega
      · exact ih.2 n hn
theorem first_le (b : Bt) {x : Int} : ∀ (lot : List Str) (a : Int), a ≤ x → (∀ n ∈ lot, b.l n ≤ x) → lot.foldl (fun a n => if a ≤ b.l n then b.l n else a) a ≤ x
  | [], a, h, _ => h
  | m :: lot, a, h, hl => by
    rw [List.foldl_cons]
    refine first_le b lot _ ?_ fun n hn => hl n (List.mem_cons_of_mem _ hn)
    have := hl m List.mem_cons_self
    split <;> omega
theorem first_nn (b : Bt) (lot : List Str) : 0 ≤ firstM b lot := (first_ge b lot 0).1
end PL
/-! MA8: the one with a number, the number of one -/
namespace PL
open PySem PySem.Spec PyProof.Rows L2
def wy (b : Bt) (r : Int) (n : Str) : Int := waysI (b.l n) (b.u n) r
theorem fold_prod (b : Bt) (r : Int) : ∀ (os : List Str) (a : Int), (os.map fun n => (b.l n, b.u n)).foldl (fun a p => a * waysI p.1 p.2 r) a = a * prodW (wy b r) os
  | [], a => by simp [prodW]
  | n :: os, a => by
    rw [List.map_cons, List.foldl_cons, fold_prod b r os, prodW, Int.mul_assoc]
    rfl
theorem waysAt_prod (b : Bt) (lot : List Str) (r : Int) : waysAt (rowsM b lot) r = prodW (wy b r) (othersM b lot) := by
  have h := fold_prod b r (othersM b lot) 1
  rw [Int.one_mul] at h
  exact h
theorem others_ns {b : Bt} {lot : List Str} : ∀ n ∈ othersM b lot, n ∈ b.ns := fun n hn => (List.mem_filter.mp hn).1
theorem waysAt_pos {b : Bt} (hw : b.Ways) (lot : List Str) {r : Int} (hr : r ≤ b.top) : 0 < waysAt (rowsM b lot) r := by
  rw [waysAt_prod]
  exact prodW_pos _ fun n hn => hw n (others_ns n hn) r hr
theorem many_step {b : Bt} {lot : List Str} {r : Int} (h : firstM b lot ≤ r) : manyM b lot r = manyM b lot (r - 1) + waysAt (rowsM b lot) r := sumTo_step _ h
theorem many_zero {b : Bt} {lot : List Str} {r : Int} (h : r < firstM b lot) : manyM b lot r = 0 := sumTo_zero _ h
theorem many_mono {b : Bt} (hw : b.Ways) (lot : List Str) : ∀ (n : Nat) (r : Int), r + (n : Int) ≤ b.top → manyM b lot r ≤ manyM b lot (r + (n : Int))
  | 0, r, _ => by simp
  | n + 1, r, h => by
    have ih := many_mono hw lot n r (by omega)
    have e : r + ((n + 1 : Nat) : Int) = r + (n : Int) + 1 := by omega
    rw [e]
    by_cases h1 : firstM b lot ≤ r + (n : Int) + 1
    · rw [many_step h1, Int.add_sub_cancel]
      have := waysAt_pos hw lot (r := r + (n : Int) + 1) (by omega)
      omega
    · rw [many_zero (r := r + (n : Int) + 1) (by omega), many_zero (r := r) (by omega)]
      exact Int.le_refl _
theorem many_le {b : Bt} (hw : b.Ways) (lot : List Str) {r s : Int} (h1 : r ≤ s) (h2 : s ≤ b.top) : manyM b lot r ≤ manyM b lot s := by
  have e : s = r + ((s - r).toNat : Int) := by omega
  rw [e]
  exact many_mono hw lot _ r (by omega)
theorem many_nn {b : Bt} (hw : b.Ways) (lot : List Str) {r : Int} (h : r ≤ b.top) : 0 ≤ manyM b lot r := by
  by_cases h1 : firstM b lot ≤ r
  · have := many_le hw lot (r := firstM b lot - 1) (s := r) (by omega) h
    rw [many_zero (by omega)] at this
    exact this
  · rw [many_zero (by omega)]
    exact Int.le_refl _
/-- the place of a number: its set of names, their room, its number among those -/
def AtP (b : Bt) : List (List Str) → Int → List Str → Int → Int → Prop
  | [], _, _, _, _ => False
  | lot :: ls, left, lot', room, x => (lot' = lot ∧ left < manyM b lot b.top ∧ firstM b lot ≤ room ∧ room ≤ b.top ∧ 0 ≤ x ∧ x < waysAt (rowsM b lot) room ∧ left = manyM b lot (room - 1) + x) ∨ (manyM b lot b.top ≤ left ∧ AtP b ls (left - manyM b lot b.top) lot' room x)
def sumMany (b : Bt) (ls : List (List Str)) : Int := (ls.map fun lot => manyM b lot b.top).sum
theorem at_ex {b : Bt} (hw : b.Ways) : ∀ (ls : List (List Str)) (left : Int), 0 ≤ left → left < sumMany b ls → ∃ lot room x, AtP b ls left lot room x ∧ atGo b ls left = some (madeM b lot room x)
  | [], left, h0, h1 => by
    have h1 : left < 0 := h1
    omega
  | lot :: ls, left, h0, h1 => by
    have h1 : left < manyM b lot b.top + sumMany b ls := by
      unfold sumMany at h1 ⊢
      rw [List.map_cons, List.sum_cons] at h1
      exact h1
    unfold atGo
    by_cases h : left < manyM b lot b.top
    · rw [if_pos h]
      have ff := many_first h0 h
      obtain ⟨q1, q2, q3, q4⟩ := bsearch_ok (manyM b lot) left (firstM b lot) _ (firstM b lot) b.top (Nat.le_refl _) ff (Int.le_refl _) (.inl rfl) h
      have q1 : left < manyM b lot (roomForM b lot left) := q1
      have q2 : firstM b lot ≤ roomForM b lot left := q2
      have q3 : roomForM b lot left ≤ b.top := q3
      have q4 : roomForM b lot left = firstM b lot ∨ manyM b lot (roomForM b lot left - 1) ≤ left := q4
      have q5 : manyM b lot (roomForM b lot left - 1) ≤ left := by
        rcases q4 with q4 | q4
        · rw [many_zero (by omega)]
          exact h0
        · exact q4
      have st := many_step q2
      exact ⟨lot, roomForM b lot left, left - manyM b lot (roomForM b lot left - 1), .inl ⟨rfl, h, q2, q3, by omega, by omega, by omega⟩, rfl⟩
    · rw [if_neg h]
      obtain ⟨l2, r2, x2, p, e⟩ := at_ex hw ls (left - manyM b lot b.top) (by omega) (by omega)
      exact ⟨l2, r2, x2, .inr ⟨by omega, p⟩, e⟩
theorem AtP.mem {b : Bt} : ∀ {ls : List (List Str)} {left : Int} {lot : List Str} {room x : Int}, AtP b ls left lot room x → lot ∈ ls ∧ firstM b lot ≤ room ∧ room ≤ b.top ∧ 0 ≤ x ∧ x < waysAt (rowsM b lot) room
  | l :: ls, left, lot, room, x, h => by
    rcases h with ⟨rfl, _, h1, h2, h3, h4, _⟩ | ⟨_, h⟩
    · exact ⟨List.mem_cons_self, h1, h2, h3, h4⟩
    · obtain ⟨m, r⟩ := AtP.mem h
      exact ⟨List.mem_cons_of_mem _ m, r⟩
theorem found_skip {b : Bt} {here : List Str} : ∀ {ls : List (List Str)} {a : Int}, (∀ l ∈ ls, ltL l here = false) → foundGo b here a ls = a
  | [], a, _ => rfl
  | l :: ls, a, h => by
    unfold foundGo
    rw [List.foldl_cons, if_neg (by rw [h l List.mem_cons_self]; exact Bool.false_ne_true)]
    exact found_skip fun m hm => h m (List.mem_cons_of_mem _ hm)
theorem rank_at {b : Bt} : ∀ {ls : List (List Str)} {left a : Int} {lot : List Str} {room x : Int}, ls.Pairwise (fun x y => ltL x y = true) → AtP b ls left lot room x → foundGo b lot a ls + manyM b lot (room - 1) + x = a + left
  | l :: ls, left, a, lot, room, x, hp, h => by
    obtain ⟨p1, p2⟩ := List.pairwise_cons.mp hp
    rcases h with ⟨rfl, h1, h2, h3, h4, h5, h6⟩ | ⟨h1, h⟩
    · rw [found_skip]
      · omega
      · intro m hm
        rcases List.mem_cons.mp hm with e | hm
        · rw [e]
          exact dlt_irr _
        · exact dlt_asym (p1 m hm)
    · have ih := rank_at (a := a + manyM b l b.top) p2 h
      have e : foundGo b lot a (l :: ls) = foundGo b lot (a + manyM b l b.top) ls := by
        unfold foundGo
        rw [List.foldl_cons, if_pos (p1 lot h.mem.1)]
      rw [e]
      omega
theorem key_at {b : Bt} (hw : b.Ways) : ∀ {ls : List (List Str)} {left left2 : Int} {lot lot2 : List Str} {room room2 x x2 : Int}, ls.Pairwise (fun x y => ltL x y = true) → AtP b ls left lot room x → AtP b ls left2 lot2 room2 x2 → left < left2 →
    ltL lot lot2 = true ∨ (lot = lot2 ∧ (room < room2 ∨ (room = room2 ∧ x < x2)))
  | l :: ls, left, left2, lot, lot2, room, room2, x, x2, hp, h, g, hl => by
    obtain ⟨p1, p2⟩ := List.pairwise_cons.mp hp
    rcases h with ⟨rfl, h1, h2, h3, h4, h5, h6⟩ | ⟨h1, h⟩
    · rcases g with ⟨rfl, g1, g2, g3, g4, g5, g6⟩ | ⟨g1, g⟩
      · right
        refine ⟨rfl, ?_⟩
        by_cases c1 : room < room2
        · exact .inl c1
        · right
          by_cases c2 : room2 < room
          · have q1 := many_le hw lot2 (r := room2) (s := room - 1) (by omega) (by omega)
            have q2 := many_step g2
            omega
          · have e : room = room2 := by omega
            subst e
            exact ⟨rfl, by omega⟩
      · exact .inl (p1 lot2 g.mem.1)
    · rcases g with ⟨rfl, g1, g2, g3, g4, g5, g6⟩ | ⟨g1, g⟩
      · omega
      · exact key_at hw p2 h g (by omega)
/-! ### the form with a number -/
def digOf (w : Str → Int) : List Str → Int → Str → Int
  | [], _, _ => 0
  | n :: os, x, m => if m = n then (digs w os x).1 % w n else digOf w os x m
theorem digs_map (w : Str → Int) : ∀ {os : List Str} (x : Int), os.Nodup → (digs w os x).2 = os.map (digOf w os x)
  | [], _, _ => rfl
  | n :: os, x, h => by
    obtain ⟨h1, h2⟩ := List.nodup_cons.mp h
    show _ :: (digs w os x).2 = _ :: os.map (digOf w (n :: os) x)
    rw [digs_map w x h2]
    congr 1
    · exact (if_pos rfl).symm
    · refine List.map_congr_left fun m hm => ?_
      have : m ≠ n := fun e => h1 (by rw [← e]; exact hm)
      exact (if_neg this).symm
theorem digOf_bd {w : Str → Int} : ∀ {os : List Str} {x : Int} {m : Str}, (∀ n ∈ os, 0 < w n) → m ∈ os → 0 ≤ digOf w os x m ∧ digOf w os x m < w m
  | n :: os, x, m, h, hm => by
    unfold digOf
    by_cases e : m = n
    · rw [if_pos e]
      have := h n List.mem_cons_self
      rw [e]
      exact ⟨Int.emod_nonneg _ (by omega), Int.emod_lt_of_pos _ this⟩
    · rw [if_neg e]
      rcases List.mem_cons.mp hm with q | hm
      · exact absurd q e
      · exact digOf_bd (fun n hn => h n (List.mem_cons_of_mem _ hn)) hm
def zOf (b : Bt) (n : Str) : Int := if b.l n = 0 then 1 else 0
def valOf (b : Bt) (room : Int) (n : Str) (d : Int) : Int := if d - zOf b n < 0 then 0 else max (max (b.l n) room) 1 + (d - zOf b n)
def sideOf (b : Bt) (lot : List Str) (room x : Int) (n : Str) : Bool × Int := if n ∈ lot then (true, room) else (false, valOf b room n (digOf (wy b room) (othersM b lot) x n))
theorem made_digs (b : Bt) (room x : Int) : ∀ (os : List Str) (M : List Mk2), os.Nodup → os.reverse.foldl (madeStep b room) (x, M) = ((digs (wy b room) os x).1, M ++ os.reverse.map fun n => (n, (false, some (valOf b room n (digOf (wy b room) os x n)))))
  | [], M, _ => by simp [digs]
  | n :: os, M, h => by
    obtain ⟨h1, h2⟩ := List.nodup_cons.mp h
    rw [List.reverse_cons, List.foldl_append, made_digs b room x os M h2, List.map_append]
    show madeStep b room _ n = _
    unfold madeStep
    refine Prod.ext rfl ?_
    show (M ++ _) ++ _ = M ++ (_ ++ _)
    rw [List.append_assoc]
    congr 1
    congr 1
    · refine List.map_congr_left fun m hm => ?_
      have hm := List.mem_reverse.mp hm
      have : m ≠ n := fun e => h1 (by rw [← e]; exact hm)
      have e : digOf (wy b room) (n :: os) x m = digOf (wy b room) os x m := if_neg this
      rw [e]
    · have e : digOf (wy b room) (n :: os) x n = (digs (wy b room) os x).1 % wy b room n := if_pos rfl
      show [(n, _)] = [(n, _)]
      rw [e]
      congr 2
      unfold valOf
      show (if (digs (wy b room) os x).1 % wy b room n - zOf b n < 0 then ((false, some 0) : Bool × Rm) else (false, some (max (max (b.l n) room) 1 + ((digs (wy b room) os x).1 % wy b room n - zOf b n)))) = _
      split <;> rfl
theorem leM_lt {x y : Mk2} (h : LtN x.1 y.1) : leM x y = true ∧ leM y x = false := by
  have hne : x.1 ≠ y.1 := h.2
  have hlt : x.1.cps.toList < y.1.cps.toList := by
    rcases List.le_iff_lt_or_eq.mp (of_decide_eq_true h.1 : x.1.cps.toList ≤ y.1.cps.toList) with q | q
    · exact q
    · exact absurd (leS_anti _ _ h.1 (decide_eq_true (by rw [q]; exact List.le_refl _))) hne
  have key : ∀ {u v : Mk2}, u.1 ≠ v.1 → PySem.W.dataLt (encM u).py (encM v).py = decide (u.1.cps.toList < v.1.cps.toList) := fun {u v} hn => by
    show PySem.W.dataLt (.tuple [.str u.1, (encP u.2).py]) (.tuple [.str v.1, (encP v.2).py]) = _
    rw [PySem.W.dataLt_tuple, PySem.W.dataLt_cons (by simp [PySem.W.alike]), PySem.W.dataLt_str]
    rw [if_neg]
    simpa [PyData.eqv] using hn
  unfold leM
  rw [leD_eq, leD_eq, key hne, key (Ne.symm hne)]
  have h2 : ¬ y.1.cps.toList < x.1.cps.toList := List.not_lt.mpr (List.le_of_lt hlt)
  simp [hlt, h2]
theorem leM_sort {M K : List Mk2} (hp : M.Perm K) (hk : K.Pairwise fun x y => LtN x.1 y.1) : M.mergeSort leM = K := by
  have tr : ∀ a b c : Mk2, leM a b = true → leM b c = true → leM a c = true := fun a b c => leD_tot.trans (encM a) (encM b) (encM c)
  have tot : ∀ a b : Mk2, (leM a b || leM b a) = true := fun a b => by
    rw [Bool.or_eq_true]
    exact leD_tot.total (encM a) (encM b)
  have hk2 : K.Pairwise (fun a b => leM a b = true) := hk.imp fun h => (leM_lt h).1
  have dist : ∀ {K : List Mk2}, K.Pairwise (fun x y => LtN x.1 y.1) → ∀ a ∈ K, ∀ b ∈ K, a = b ∨ LtN a.1 b.1 ∨ LtN b.1 a.1 := by
    intro K
    induction K with
    | nil =>
      intro _ a ha
      cases ha
    | cons k K ih =>
      intro h a ha b hb
      obtain ⟨h1, h2⟩ := List.pairwise_cons.mp h
      rcases List.mem_cons.mp ha with e | ha
      · rcases List.mem_cons.mp hb with e2 | hb
        · exact .inl (e.trans e2.symm)
        · rw [e]
          exact .inr (.inl (h1 b hb))
      · rcases List.mem_cons.mp hb with e2 | hb
        · rw [e2]
          exact .inr (.inr (h1 a ha))
        · exact ih h2 a ha b hb
  refine List.Perm.eq_of_pairwise (le := fun a b => leM a b = true) (fun a b ha hb h1 h2 => ?_) (List.pairwise_mergeSort tr tot _) hk2 ((List.mergeSort_perm _ _).trans hp)
  rcases dist hk a (hp.mem_iff.mp ((List.mergeSort_perm _ _).mem_iff.mp ha)) b hb with q | q | q
  · exact q
  · rw [(leM_lt q).2] at h2
    cases h2
  · rw [(leM_lt q).2] at h1
    cases h1
theorem filt_not (b : Bt) (lot : List Str) : othersM b lot = b.ns.filter fun n => !decide (n ∈ lot) := rfl
theorem made_fs {b : Bt} (hs : SrtN b.ns) {lot : List Str} (hl : LotOk b lot) (room x : Int) : madeM b lot room x = fsM b.ns (sideOf b lot room x) := by
  have hd : b.ns.Nodup := hs.nodup
  have ho : (othersM b lot).Nodup := hd.sublist List.filter_sublist
  unfold madeM madeGo
  rw [made_digs b room x _ _ ho]
  unfold fsM
  congr 1
  refine leM_sort ?_ ?_
  · have p : (lot ++ othersM b lot).Perm b.ns := by
      have q := List.filter_append_perm (fun n => decide (n ∈ lot)) b.ns
      rw [lot_mem hd hl.sub] at q
      exact q
    have e1 : (lot.map fun n => ((n, (true, some room)) : Mk2)) = lot.map fun n => (n, ((sideOf b lot room x n).1, some (sideOf b lot room x n).2)) := List.map_congr_left fun n hn => by
      unfold sideOf
      rw [if_pos hn]
    have e2 : ((othersM b lot).map fun n => ((n, (false, some (valOf b room n (digOf (wy b room) (othersM b lot) x n)))) : Mk2)) = (othersM b lot).map fun n => (n, ((sideOf b lot room x n).1, some (sideOf b lot room x n).2)) := List.map_congr_left fun n hn => by
      unfold sideOf
      rw [if_neg (by simpa using (List.mem_filter.mp hn).2)]
    have p2 := ((List.reverse_perm (othersM b lot)).map fun n => ((n, (false, some (valOf b room n (digOf (wy b room) (othersM b lot) x n)))) : Mk2))
    rw [e2] at p2
    rw [e1]
    refine (p2.append_left _).trans ?_
    rw [← List.map_append]
    exact p.map _
  · rw [List.pairwise_map]
    exact hs
end PL
/-! MA9: numbers, ranks, keys -/
namespace PL
open PySem PySem.Spec PyProof.Rows L2
theorem val_cases {b : Bt} {room : Int} {n : Str} {d : Int} (h : 0 ≤ d) : (valOf b room n d = 0 ∧ d = 0 ∧ zOf b n = 1) ∨ (valOf b room n d = max (max (b.l n) room) 1 + (d - zOf b n) ∧ zOf b n ≤ d) := by
  unfold valOf
  have hz : zOf b n = 0 ∨ zOf b n = 1 := by
    unfold zOf
    split <;> simp
  by_cases q : d - zOf b n < 0
  · left
    rw [if_pos q]
    omega
  · right
    rw [if_neg q]
    omega
theorem z_l {b : Bt} {n : Str} (h : zOf b n = 1) : b.l n = 0 := by
  unfold zOf at h
  split at h
  · assumption
  · cases h
theorem within_fold {b : Bt} {F : Fm} {here : List Str} {room : Int} {Dg : Str → Int} : ∀ (ns : List Str) (w : Int), (∀ n ∈ ns, n ∉ here → (if ro F n = 0 then 0 else ro F n - max (max (b.l n) room) 1 + (if b.l n = 0 then 1 else 0)) = Dg n) →
    ns.foldl (withinStep b F here room) w = undig (wy b room) w (ns.filter fun n => !decide (n ∈ here)) ((ns.filter fun n => !decide (n ∈ here)).map Dg)
  | [], w, _ => rfl
  | n :: ns, w, h => by
    have h2 : ∀ m ∈ ns, m ∉ here → _ := fun m hm => h m (List.mem_cons_of_mem _ hm)
    rw [List.foldl_cons]
    unfold withinStep
    by_cases hn : n ∈ here
    · rw [if_pos hn, List.filter_cons_of_neg (by simpa using hn)]
      exact within_fold ns w h2
    · rw [if_neg hn, List.filter_cons_of_pos (by simpa using hn), h n List.mem_cons_self hn]
      exact within_fold ns _ h2
section
variable {b : Bt} {L U : Str → Bool × Int} {hl hu : Int}
theorem side_in {lot : List Str} {room x : Int} {n : Str} (h : n ∈ lot) : sideOf b lot room x n = (true, room) := if_pos h
theorem side_out {lot : List Str} {room x : Int} {n : Str} (h : n ∉ lot) : sideOf b lot room x n = (false, valOf b room n (digOf (wy b room) (othersM b lot) x n)) := if_neg h
theorem out_mem {lot : List Str} {n : Str} (hn : n ∈ b.ns) (h : n ∉ lot) : n ∈ othersM b lot := List.mem_filter.mpr ⟨hn, by simpa using h⟩
theorem side_row (hs : SrtN b.ns) (hw : b.Ways) {lot : List Str} (hl : LotOk b lot) {room x : Int} (h1 : firstM b lot ≤ room) (h2 : room ≤ b.top) : RowS b.ns (sideOf b lot room x) room := by
  have hp : ∀ n ∈ othersM b lot, 0 < wy b room n := fun n hn => hw n (others_ns n hn) room h2
  refine ⟨Int.le_trans (first_nn b lot) h1, fun n hn q => ?_, fun n hn q => ?_, fun q => ?_⟩
  · by_cases hm : n ∈ lot
    · rw [side_in hm]
    · rw [side_out hm] at q
      cases q
  · by_cases hm : n ∈ lot
    · rw [side_in hm] at q
      cases q
    · rw [side_out hm]
      have d := digOf_bd (x := x) hp (out_mem hn hm)
      have v := val_cases (b := b) (room := room) (n := n) d.1
      simp only
      omega
  · exfalso
    obtain ⟨n, hn⟩ := List.exists_mem_of_ne_nil lot hl.ne
    have := (List.any_eq_false.mp q) n (hl.sub.subset hn)
    rw [side_in hn] at this
    exact this rfl
theorem side_left {lot : List Str} (hl : LotOk b lot) (room x : Int) : left1 b.ns (sideOf b lot room x) = true := by
  obtain ⟨n, hn⟩ := List.exists_mem_of_ne_nil lot hl.ne
  exact List.any_eq_true.mpr ⟨n, hl.sub.subset hn, by rw [side_in hn]⟩
theorem oth_nd (hs : SrtN b.ns) (lot : List Str) : (othersM b lot).Nodup := hs.nodup.sublist List.filter_sublist
theorem side_lot (hs : SrtN b.ns) {lot : List Str} (hl : LotOk b lot) (room x : Int) : (b.ns.filter fun n => (sideOf b lot room x n).1) = lot := by
  conv => rhs; rw [← lot_mem hs.nodup hl.sub]
  refine List.filter_congr fun n hn => ?_
  by_cases hm : n ∈ lot
  · rw [side_in hm]
    simp [hm]
  · rw [side_out hm]
    simp [hm]
theorem side_others (hs : SrtN b.ns) {lot : List Str} (hl : LotOk b lot) (room x : Int) : (b.ns.filter fun n => !(sideOf b lot room x n).1) = othersM b lot := by
  refine List.filter_congr fun n hn => ?_
  by_cases hm : n ∈ lot
  · rw [side_in hm]
    simp [hm]
  · rw [side_out hm]
    simp [hm]
theorem side_rank (hs : SrtN b.ns) (hw : b.Ways) {lot : List Str} (hl : LotOk b lot) {room x : Int} (h1 : firstM b lot ≤ room) (h2 : room ≤ b.top) (h3 : 0 ≤ x) (h4 : x < waysAt (rowsM b lot) room) :
    rankM b (fsM b.ns (sideOf b lot room x)) = foundGo b lot (if b.lo = nothingM then 1 else 0) (lotsM b) + manyM b lot (room - 1) + x := by
  have R := side_row hs hw hl h1 h2 (x := x)
  have hp : ∀ n ∈ othersM b lot, 0 < wy b room n := fun n hn => hw n (others_ns n hn) room h2
  have hne : fsM b.ns (sideOf b lot room x) ≠ nothingM := fun q => by
    rw [fs_nothing hs R.Nz, side_left hl] at q
    cases q
  have hh : hereM b (fsM b.ns (sideOf b lot room x)) = lot := by
    refine Eq.trans ?_ (side_lot hs hl room x)
    unfold hereM
    refine List.filter_congr fun n hn => ?_
    rw [fs_entry hs R.Nz hn]
    unfold sideE
    cases (sideOf b lot room x n).1 <;> rfl
  have hg : hgt (fsM b.ns (sideOf b lot room x)) = room := by
    unfold hgt
    rw [fs_height R.lf fun q => (R.nz q).1]
    rfl
  have hwi : withinGo b (fsM b.ns (sideOf b lot room x)) lot room b.ns = x := by
    unfold withinGo
    rw [within_fold (Dg := digOf (wy b room) (othersM b lot) x) b.ns 0]
    · have e := undig_digs (wy b room) (othersM b lot) x
      rw [digs_zero (wy b room) hp h3 (by rw [← waysAt_prod]; exact h4), digs_map (wy b room) x (oth_nd hs lot)] at e
      exact e
    · intro n hn hm
      have er : ro (fsM b.ns (sideOf b lot room x)) n = valOf b room n (digOf (wy b room) (othersM b lot) x n) := by
        unfold ro
        rw [fs_entry hs R.Nz hn, side_out hm]
        rfl
      rw [er]
      have d := digOf_bd (x := x) hp (out_mem hn hm)
      have v := val_cases (b := b) (room := room) (n := n) d.1
      rw [show (if b.l n = 0 then (1 : Int) else 0) = zOf b n from rfl]
      by_cases q : valOf b room n (digOf (wy b room) (othersM b lot) x n) = 0
      · rw [if_pos q]
        omega
      · rw [if_neg q]
        omega
  unfold rankM
  rw [if_neg hne, hh, hg, hwi]
theorem side_low (W : Bw b L U hl hu) (hw : b.Ways) {lot : List Str} (hl : LotOk b lot) {room x : Int} (h1 : firstM b lot ≤ room) (h2 : room ≤ b.top) : ∀ n ∈ b.ns, (b.il n = true → (sideOf b lot room x n).1 = true) ∧ b.l n ≤ (sideOf b lot room x n).2 := fun n hn => by
  have hp : ∀ n ∈ othersM b lot, 0 < wy b room n := fun n hn => hw n (others_ns n hn) room h2
  by_cases hm : n ∈ lot
  · rw [side_in hm]
    exact ⟨fun _ => rfl, Int.le_trans ((first_ge b lot 0).2 n hm) h1⟩
  · rw [side_out hm]
    refine ⟨fun q => absurd (hl.low n hn q) hm, ?_⟩
    have d := digOf_bd (x := x) hp (out_mem hn hm)
    simp only
    rcases val_cases (b := b) (room := room) (n := n) d.1 with ⟨v, _, z⟩ | ⟨v, _⟩
    · rw [v, z_l z]
      exact Int.le_refl _
    · omega
theorem side_high (W : Bw b L U hl hu) (hwi : withinM b.lo b.hi = true) {lot : List Str} (hlt : LotOk b lot) {room x : Int} (h1 : firstM b lot ≤ room) (h2 : room ≤ b.top) : ∀ n ∈ b.ns, ((sideOf b lot room x n).1 = true → b.iu n = true) ∧ (sideOf b lot room x n).2 ≤ b.u n := fun n hn => by
  have hw := W.ways hwi
  have hp : ∀ n ∈ othersM b lot, 0 < wy b room n := fun n hn => hw n (others_ns n hn) room h2
  obtain ⟨w1, w2⟩ := W.within.mp hwi n hn
  by_cases hm : n ∈ lot
  · rw [side_in hm]
    have hi : b.iu n = true := by
      rcases hlt.hig n hm with q | q
      · exact w1 q
      · exact q
    refine ⟨fun _ => hi, ?_⟩
    rw [W.uTop hn hi]
    exact h2
  · rw [side_out hm]
    refine ⟨fun q => (nomatch q), ?_⟩
    have d := digOf_bd (x := x) hp (out_mem hn hm)
    have l0 := W.l0 hn
    have wv : wy b room n = zOf b n + max 0 (b.u n - max (max (b.l n) room) 1 + 1) := rfl
    simp only
    rcases val_cases (b := b) (room := room) (n := n) d.1 with ⟨v, _, z⟩ | ⟨v, _⟩ <;> omega
theorem many_pos (W : Bw b L U hl hu) (hwi : withinM b.lo b.hi = true) {lot : List Str} (hlt : LotOk b lot) : 1 ≤ manyM b lot b.top := by
  have hw := W.ways hwi
  have t0 : 0 ≤ b.top := by
    rw [W.top]
    exact W.ru.h0
  have hf : firstM b lot ≤ b.top := first_le b lot 0 t0 fun n hn => by
    have hm := hlt.sub.subset hn
    obtain ⟨w1, w2⟩ := W.within.mp hwi n hm
    have hi : b.iu n = true := by
      rcases hlt.hig n hn with q | q
      · exact w1 q
      · exact q
    rw [← W.uTop hm hi]
    exact w2
  rw [many_step hf]
  have := waysAt_pos hw lot (r := b.top) (Int.le_refl _)
  have := many_nn hw lot (r := b.top - 1) (by omega)
  omega
theorem inAll_eq (hwi : withinM b.lo b.hi = true) : inAllM b = (if b.lo = nothingM then 1 else 0) + sumMany b (lotsM b) := by
  unfold inAllM
  rw [if_pos hwi]
  rfl
theorem sumMany_nn (hw : b.Ways) : ∀ ls : List (List Str), 0 ≤ sumMany b ls
  | [] => Int.le_refl _
  | l :: ls => by
    have ih := sumMany_nn hw ls
    have := many_nn hw l (r := b.top) (Int.le_refl _)
    unfold sumMany at ih ⊢
    rw [List.map_cons, List.sum_cons]
    omega
theorem inAll_pos (W : Bw b L U hl hu) (hwi : withinM b.lo b.hi = true) : 1 ≤ inAllM b := by
  have hw := W.ways hwi
  rw [inAll_eq hwi]
  have s0 := sumMany_nn hw (lotsM b)
  by_cases q : b.lo = nothingM
  · rw [if_pos q]
    omega
  · rw [if_neg q]
    obtain ⟨h1, h2, h3⟩ := lots0_spec b b.ns W.srt.nodup
    obtain ⟨lot, hlot⟩ := List.exists_mem_of_ne_nil _ h2
    obtain ⟨n, hn, hi⟩ : ∃ n ∈ b.ns, b.il n = true := by
      cases Classical.em (∃ n ∈ b.ns, b.il n = true) with
      | inl z => exact z
      | inr z =>
        refine absurd (W.nothing.mpr fun n hn => ?_) q
        cases e : b.il n with
        | false => rfl
        | true => exact absurd ⟨n, hn, e⟩ z
    have hm : n ∈ lot := (h3 lot hlot).2.1 n hn hi
    have hl : lot ∈ lotsM b := by
      unfold lotsM
      refine (List.mergeSort_perm _ _).mem_iff.mpr (List.mem_filter.mpr ⟨hlot, ?_⟩)
      have := List.length_pos_of_mem hm
      simp
      omega
    have lo := (lots_ok W.srt.nodup).2
    have key : ∀ ls : List (List Str), lot ∈ ls → (∀ l ∈ ls, LotOk b l) → 1 ≤ sumMany b ls := by
      intro ls
      induction ls with
      | nil =>
        intro h
        cases h
      | cons l ls ih =>
        intro h hok
        have p1 := many_pos W hwi (hok l List.mem_cons_self)
        have p2 := sumMany_nn hw ls
        unfold sumMany at p2 ⊢
        rw [List.map_cons, List.sum_cons]
        omega
    have := key (lotsM b) hl lo
    omega
theorem sm_bd {f : Int → Int} {a : Int} {B : Int} (hB : 0 ≤ B) : ∀ m : Nat, (∀ t : Nat, t < m → 0 ≤ f (a + t) ∧ f (a + t) ≤ B) → 0 ≤ sm f a m ∧ sm f a m ≤ m * B
  | 0, _ => by simp [sm]
  | m + 1, h => by
    have ih := sm_bd hB m fun t ht => h t (by omega)
    have := h m (by omega)
    simp only [sm]
    have e : ((m + 1 : Nat) : Int) * B = m * B + B := by
      have : ((m + 1 : Nat) : Int) = (m : Int) + 1 := by omega
      rw [this, Int.add_mul, Int.one_mul]
    rw [e]
    omega
/-! ### the one with number k -/
/-- where number k stands -/
def PosK (b : Bt) (k : Int) (S : Str → Bool × Int) : Prop := (k = 0 ∧ b.lo = nothingM ∧ ∀ n, S n = (false, 0)) ∨ ∃ lot room x, AtP b (lotsM b) (k - (if b.lo = nothingM then 1 else 0)) lot room x ∧ S = sideOf b lot room x ∧ 0 ≤ k - (if b.lo = nothingM then 1 else 0)
theorem Bd.le {n : Nat} {i j : Int} (h : Bd n j) (h0 : 0 ≤ i) (h1 : i ≤ j) : Bd n i := by
  unfold Bd at *
  omega
structure AtOut (b : Bt) (k : Int) (S : Str → Bool × Int) (h : Int) : Prop where
  at_ : atM b k = some (fsM b.ns S)
  row : RowS b.ns S h
  low : ∀ n ∈ b.ns, (b.il n = true → (S n).1 = true) ∧ b.l n ≤ (S n).2
  hig : ∀ n ∈ b.ns, ((S n).1 = true → b.iu n = true) ∧ (S n).2 ≤ b.u n
  rank : rankM b (fsM b.ns S) = k
  fmi : FmI b (fsM b.ns S)
  pos : PosK b k S
theorem fmi_of (ok : b.Ok) (hs : SrtN b.ns) {S : Str → Bool × Int} {h : Int} (R : RowS b.ns S h) (hb : Bd 200 h) (hg : ∀ n ∈ b.ns, 0 ≤ (S n).2 ∧ (S n).2 ≤ b.u n) : FmI b (fsM b.ns S) := by
  refine ⟨Nat.le_trans (fs_len hs S) (Nat.le_trans ok.l3 (by decide)), fun n hn => ?_, ?_⟩
  · have e : ro (fsM b.ns S) n = (S n).2 := by
      unfold ro
      rw [fs_entry hs R.Nz hn]
      rfl
    rw [e, fs_entry hs R.Nz hn]
    exact ⟨rfl, (ok.ui n hn).2.le (hg n hn).1 (hg n hn).2⟩
  · have e : heightM (fsM b.ns S) = some h := fs_height R.lf fun q => (R.nz q).1
    unfold hgt
    rw [e]
    exact ⟨rfl, hb⟩
theorem at_main (ok : b.Ok) (W : Bw b L U hl hu) (hwi : withinM b.lo b.hi = true) {k : Int} (h0 : 0 ≤ k) (h1 : k < inAllM b) : ∃ S h, AtOut b k S h := by
  have hw := W.ways hwi
  rw [inAll_eq hwi] at h1
  have a0 : ¬ (decide (k < 0) || !withinM b.lo b.hi) = true := by
    rw [hwi]
    simp
    omega
  by_cases hz : k - (if b.lo = nothingM then 1 else 0) < 0
  · -- the one that leaves nothing
    have hn : b.lo = nothingM := by
      by_cases q : b.lo = nothingM
      · exact q
      · rw [if_neg q] at hz
        omega
    have hk : k = 0 := by
      rw [if_pos hn] at hz
      omega
    subst hk
    have l1 : left1 b.ns (fun _ => ((false, 0) : Bool × Int)) = false := by
      unfold left1
      rw [List.any_eq_false]
      exact fun _ _ => Bool.false_ne_true
    have e0 : fsM b.ns (fun _ => ((false, 0) : Bool × Int)) = nothingM := fs_none l1
    have il0 := W.nothing.mp hn
    have R : RowS b.ns (fun _ => ((false, 0) : Bool × Int)) 0 := ⟨Int.le_refl _, fun _ _ q => (nomatch q), fun _ _ _ => .inl rfl, fun _ => ⟨rfl, fun _ _ => rfl⟩⟩
    have u0 : ∀ n ∈ b.ns, b.l n = 0 ∧ 0 ≤ b.u n := fun n hm => by
      have w2 := (W.within.mp hwi n hm).2
      have l0 := W.l0 hm
      have ll : left1 b.ns L = false := by
        have q := hn
        rw [W.elo, fs_nothing W.srt W.rl.Nz] at q
        exact q
      have := (W.rl.nz ll).2 n hm
      have e := W.l hm
      rw [this] at e
      simp only at e
      omega
    refine ⟨fun _ => (false, 0), 0, ?_, R, fun n hm => ?_, fun n hm => ?_, ?_, ?_, .inl ⟨rfl, hn, fun _ => rfl⟩⟩
    · unfold atM
      rw [if_neg a0, if_pos hz, e0]
    · rw [il0 n hm, (u0 n hm).1]
      exact ⟨fun q => (nomatch q), Int.le_refl _⟩
    · exact ⟨fun q => (nomatch q), (u0 n hm).2⟩
    · unfold rankM
      rw [if_pos e0]
    · exact fmi_of ok W.srt R Bd.zero fun n hm => ⟨Int.le_refl _, (u0 n hm).2⟩
  · obtain ⟨lot, room, x, p, e⟩ := at_ex hw (lotsM b) (k - (if b.lo = nothingM then 1 else 0)) (by omega) (by omega)
    obtain ⟨m, f1, f2, x0, x1⟩ := p.mem
    have hlt := (lots_ok W.srt.nodup).2 lot m
    have R := side_row W.srt hw hlt f1 f2 (x := x)
    have hi := side_high W hwi hlt f1 f2 (x := x)
    have lo := side_low W hw hlt f1 f2 (x := x)
    refine ⟨sideOf b lot room x, room, ?_, R, lo, hi, ?_, ?_, .inr ⟨lot, room, x, p, rfl, by omega⟩⟩
    · unfold atM
      rw [if_neg a0, if_neg hz, e, made_fs W.srt hlt]
    · rw [side_rank W.srt hw hlt f1 f2 x0 x1, rank_at (lots_ok W.srt.nodup).1 p]
      omega
    · refine fmi_of ok W.srt R (ok.hh.2.le R.h0 f2) fun n hn => ⟨?_, (hi n hn).2⟩
      have := (lo n hn).2
      have := W.l0 hn
      omega
/-! ### keys -/
def keyM (ns : List Str) (S : Str → Bool × Int) : List Str × Int × List Int := (ns.filter fun n => (S n).1, ((ns.filter fun n => (S n).1).map fun n => (S n).2).headD 0, (ns.filter fun n => !(S n).1).map fun n => (S n).2)
def encK (k : List Str × Int × List Int) : D := .tup [encNt k.1, .int k.2.1, .tup (k.2.2.map D.int)]
theorem ints_py : ∀ xs : List Int, D.pys (xs.map D.int) = xs.map PyData.int
  | [] => rfl
  | x :: xs => by
    show PyData.int x :: D.pys (xs.map D.int) = _
    rw [ints_py xs]
    rfl
theorem alike_ints : ∀ xs ys : List Int, PySem.W.alikeAll (D.pys (xs.map D.int)) (D.pys (ys.map D.int)) = true
  | [], ys => by
    show PySem.W.alikeAll [] _ = true
    simp [PySem.W.alikeAll]
  | x :: xs, [] => by
    show PySem.W.alikeAll (_ :: _) [] = true
    simp [PySem.W.alikeAll]
  | x :: xs, y :: ys => by
    show PySem.W.alikeAll (PyData.int x :: _) (PyData.int y :: _) = true
    rw [PySem.W.alikeAll, alike_ints xs ys]
    simp [PySem.W.alike]
theorem alike_encNt (x y : List Str) : PySem.W.alike (encNt x).py (encNt y).py = true := by
  show PySem.W.alike (.tuple _) (.tuple _) = true
  simp only [PySem.W.alike]
  exact alike_strs x y
theorem alike_tints (x y : List Int) : PySem.W.alike (D.tup (x.map D.int)).py (D.tup (y.map D.int)).py = true := by
  show PySem.W.alike (.tuple _) (.tuple _) = true
  simp only [PySem.W.alike]
  exact alike_ints x y
theorem alike_encK (x y : List Str × Int × List Int) : PySem.W.alike (encK x).py (encK y).py = true := by
  show PySem.W.alike (.tuple [(encNt x.1).py, .int x.2.1, (D.tup (x.2.2.map D.int)).py]) (.tuple [(encNt y.1).py, .int y.2.1, (D.tup (y.2.2.map D.int)).py]) = true
  simp only [PySem.W.alike, PySem.W.alikeAll, alike_encNt, alike_tints, Bool.and_self]
theorem encNt_py (x y : List Str) : PyData.eqv (encNt x).py (encNt y).py = decide (x = y) := by
  unfold encNt
  rw [tup_py, map_py str_py]
theorem key_lt {x y : List Str × Int × List Int} (h : ltL x.1 y.1 = true ∨ (x.1 = y.1 ∧ (x.2.1 < y.2.1 ∨ (x.2.1 = y.2.1 ∧ x.2.2 < y.2.2)))) : PySem.W.dataLt (encK x).py (encK y).py = true := by
  show PySem.W.dataLt (.tuple [(encNt x.1).py, .int x.2.1, (D.tup (x.2.2.map D.int)).py]) (.tuple [(encNt y.1).py, .int y.2.1, (D.tup (y.2.2.map D.int)).py]) = true
  rw [PySem.W.dataLt_tuple, PySem.W.dataLt_cons (alike_encNt _ _), encNt_py]
  rcases h with h | ⟨h1, h⟩
  · have hne : x.1 ≠ y.1 := fun e => by
      rw [e] at h
      have h : PySem.W.dataLt (encNt y.1).py (encNt y.1).py = true := h
      rw [dlt_irr] at h
      cases h
    rw [if_neg (by simpa using hne)]
    exact h
  · rw [if_pos (decide_eq_true h1), PySem.W.dataLt_cons (by simp [PySem.W.alike])]
    rcases h with h | ⟨h2, h⟩
    · rw [if_neg (by simp [PyData.eqv]; omega), PySem.W.dataLt_int]
      exact decide_eq_true h
    · rw [if_pos (by simp [PyData.eqv, h2]), PySem.W.dataLt_cons (alike_tints _ _)]
      have hne : x.2.2 ≠ y.2.2 := fun e => by
        rw [e] at h
        exact absurd h (List.lt_irrefl _)
      rw [if_neg]
      · show PySem.W.dataLt (.tuple (D.pys (x.2.2.map D.int))) (.tuple (D.pys (y.2.2.map D.int))) = true
        rw [PySem.W.dataLt_tuple, ints_py, ints_py]
        have q := PySem.W.dataLt_ints x.2.2 y.2.2
        unfold PySem.W.rowLt at q
        rw [q]
        exact decide_eq_true h
      · rw [tup_py, map_py int_py]
        simpa using hne
theorem vals_lt (b : Bt) (room : Int) : ∀ {os : List Str} {d e : List Int}, d.length = os.length → e.length = os.length → (∀ p ∈ os.zip d, 0 ≤ p.2) → (∀ p ∈ os.zip e, 0 ≤ p.2) → d < e → List.zipWith (valOf b room) os d < List.zipWith (valOf b room) os e
  | [], [], [], _, _, _, _, h => absurd h (List.lt_irrefl _)
  | n :: os, x :: d, y :: e, h1, h2, p1, p2, h => by
    have a1 := p1 (n, x) List.mem_cons_self
    have a2 := p2 (n, y) List.mem_cons_self
    rw [List.zipWith_cons_cons, List.zipWith_cons_cons, List.cons_lt_cons_iff]
    rcases List.cons_lt_cons_iff.mp h with q | ⟨q, q2⟩
    · left
      have v1 := val_cases (b := b) (room := room) (n := n) a1
      have v2 := val_cases (b := b) (room := room) (n := n) a2
      simp only at a1 a2 v1 v2
      omega
    · right
      rw [q]
      exact ⟨rfl, vals_lt b room (by simpa using h1) (by simpa using h2) (fun p hp => p1 p (List.mem_cons_of_mem _ hp)) (fun p hp => p2 p (List.mem_cons_of_mem _ hp)) q2⟩
theorem vals_map (b : Bt) (room : Int) (Dg : Str → Int) : ∀ os : List Str, List.zipWith (valOf b room) os (os.map Dg) = os.map fun n => valOf b room n (Dg n)
  | [] => rfl
  | n :: os => by
    rw [List.map_cons, List.zipWith_cons_cons, vals_map b room Dg os]
    rfl
theorem key_side (hs : SrtN b.ns) {lot : List Str} (hlt : LotOk b lot) (room x : Int) : keyM b.ns (sideOf b lot room x) = (lot, room, List.zipWith (valOf b room) (othersM b lot) (digs (wy b room) (othersM b lot) x).2) := by
  unfold keyM
  rw [side_lot hs hlt, side_others hs hlt]
  refine Prod.ext rfl (Prod.ext ?_ ?_)
  · show (lot.map fun n => (sideOf b lot room x n).2).headD 0 = room
    cases hl : lot with
    | nil => exact absurd hl hlt.ne
    | cons n r =>
      rw [← hl]
      have : n ∈ lot := by rw [hl]; exact List.mem_cons_self
      rw [show (lot.map fun n => (sideOf b lot room x n).2) = lot.map fun _ => room from List.map_congr_left fun m hm => by rw [side_in hm], hl]
      rfl
  · show (othersM b lot).map (fun n => (sideOf b lot room x n).2) = _
    rw [digs_map _ _ (oth_nd hs lot), vals_map]
    refine List.map_congr_left fun n hn => ?_
    rw [side_out (by simpa using (List.mem_filter.mp hn).2)]
theorem pos_key (hs : SrtN b.ns) (hw : b.Ways) {k k2 : Int} {S S2 : Str → Bool × Int} (p : PosK b k S) (q : PosK b k2 S2) (h : k < k2) : PySem.W.dataLt (encK (keyM b.ns S)).py (encK (keyM b.ns S2)).py = true := by
  apply key_lt
  rcases q with ⟨rfl, hn, _⟩ | ⟨lot2, room2, x2, q, rfl, hz2⟩
  · rcases p with ⟨rfl, _⟩ | ⟨_, _, _, _, _, hz⟩
    · omega
    · rw [if_pos hn] at hz
      omega
  · obtain ⟨m2, g1, g2, y0, y1⟩ := q.mem
    have hlt2 := (lots_ok hs.nodup).2 lot2 m2
    rw [key_side hs hlt2]
    rcases p with ⟨rfl, hn, hS⟩ | ⟨lot, room, x, p, rfl, hz⟩
    · left
      have e : (keyM b.ns S).1 = [] := by
        unfold keyM
        rw [List.filter_eq_nil_iff]
        intro n hn
        rw [hS n]
        exact Bool.false_ne_true
      rw [e, ltL_eq]
      cases hl : lot2 with
      | nil => exact absurd hl hlt2.ne
      | cons n r => rfl
    · obtain ⟨m1, f1, f2, x0, x1⟩ := p.mem
      have hlt := (lots_ok hs.nodup).2 lot m1
      rw [key_side hs hlt]
      rcases key_at hw (lots_ok hs.nodup).1 p q (by omega) with h | ⟨rfl, h | ⟨rfl, h⟩⟩
      · exact .inl h
      · exact .inr ⟨rfl, .inl h⟩
      · right
        have hp : ∀ n ∈ othersM b lot, 0 < wy b room n := fun n hn => hw n (others_ns n hn) room f2
        refine ⟨rfl, .inr ⟨rfl, ?_⟩⟩
        refine vals_lt b room (digs_len _ _ _) (digs_len _ _ _) (fun p hp2 => (digs_bd _ hp p hp2).1) (fun p hp2 => (digs_bd _ hp p hp2).1) ?_
        refine digs_lt _ hp ?_ h
        rw [digs_zero _ hp x0 (by rw [← waysAt_prod]; exact x1), digs_zero _ hp y0 (by rw [← waysAt_prod]; exact y1)]
end
end PL
/-! LW1: the defs that draw -/
namespace PL
open PySem PySem.Spec PyProof.Rows L2
def isUr : Sl → Bool
  | .ur _ => true
  | _ => false
def isOw : Sl → Bool
  | .ow _ => true
  | .dc _ _ => true
  | _ => false
theorem ur0 {n : Nat} {ρ : List Sl} (h : (ρ.all fun s => !isUr s) = true) : urOne (.ur n :: ρ) 0 := fun j k e => by
  cases j with
  | zero => rfl
  | succ j =>
    have e : ρ[j]? = some (.ur k) := e
    have := List.all_eq_true.mp h _ (List.mem_of_getElem? e)
    cases this
theorem no_own {ρ : List Sl} (h : (ρ.all fun s => !isOw s) = true) : noOwn ρ := fun i => by
  refine ⟨fun ds e => ?_, fun ks ds e => ?_⟩
  · have := List.all_eq_true.mp h _ (List.mem_of_getElem? e)
    cases this
  · have := List.all_eq_true.mp h _ (List.mem_of_getElem? e)
    cases this
theorem ex_cmpE {T : CA} {X : Cx} {ρ ρ1 ρ2 : List Sl} {a b : Expr} {pos : Pos} {f g : Int → Prop} (hu : X.A.units + 64 < cLine) (ha : EvX T X a ρ ρ1 (IntP f)) (hb : EvX T X b ρ1 ρ2 (IntP g)) : EvX T X (.Compare a [.Eq] [b] pos) ρ ρ2 (fun d => ∃ z, d = .bl z) := fun _ _ _ _ hρ Q q =>
  we (pe_cmpR (op_eqD hu) pe_we pe_we (nomark _)) (ha _ _ _ _ hρ _ fun _ _ _ d1 h1 b1 r1 p1 => hb _ _ _ _ h1 _ fun _ _ _ d2 h2 b2 r2 p2 => by
    obtain ⟨i, rfl, _⟩ := p1
    obtain ⟨j, rfl, _⟩ := p2
    exact r_eqD h2.bh (r1.mono b2) r2 rfl rfl (by rw [dp_int]; decide) (by rw [dp_int]; decide) fun v B' H' g r => q v B' H' _ (h2.gr g) ((b1.trans b2).trans g.b) r ⟨_, rfl⟩)
abbrev anyI : Int → Prop := fun _ => True
section
variable {c : Cn}
theorem g_take (h : Hd c) : Good c "_law_take" 2 ["_law_urn", "_law_low_so"] (SpU c.K (ca c.K) 1 (fun low : Int => [.int low]) (fun low => 0 < low ∧ low.natAbs.log2 < 9000) (fun low d => ∃ i, d = .int i ∧ 0 ≤ i ∧ i < low)) := by
  refine good_defU (n0 := "_law_urn") (N' := ["_law_low_so", "_law_drawn", "_law_once", "_law_far", "_law_both_so"]) h.d__law_take ⟨rfl, rfl, rfl, by decide +kernel, rfl, by decide +kernel, by decide +kernel⟩ (fun _ _ _ _ _ _ us hl => match us, hl with | [_, _], _ => rfl) (fun _ => rfl) (by decide) ?_
  rintro f cdv A outer s H E hr low ⟨h0, h1⟩
  have h0 : 0 < low := h0
  have h1 : low.natAbs.log2 < 9000 := h1
  have nd : (["_law_urn", "_law_low_so", "_law_drawn", "_law_once", "_law_far", "_law_both_so"] : List Str).Nodup := by decide +kernel
  refine wb_cons (w_ifX (etx_gt (ex_urn 0 (m := 0) rfl (.inl rfl) rfl (by decide)) (ex_int (f := anyI) True.intro)) (fun _ => ?a) fun _ => wb_nil ?b)
  case a =>
    refine wb_cons (w_setX 2 nd rfl (.inl rfl) (ex_opI op_mod (ex_intI h.f_int (ex_urn 0 (m := 0) rfl (.inl rfl) rfl (by decide))) (ex_ev (f := fun j => j = low) (ev_var 1 rfl (.inl rfl) rfl) rfl) (fun i j _ hj => by rw [hj]; exact h0) (h := fun x => 0 ≤ x ∧ x < low) (fun i j _ hj => by rw [hj]; exact ⟨Int.emod_nonneg _ (by omega), Int.emod_lt_of_pos _ h0⟩)) fun d pd => ?_)
    obtain ⟨x, rfl, x0, x1⟩ := pd
    refine wb_cons (w_urn0 0 (n := 1) rfl (.inl rfl) rfl (ur0 rfl) (ex_opI op_fdivW (ex_urn 0 (m := 0) rfl (.inl rfl) rfl (by decide)) (ex_ev (f := fun j => j = low) (ev_var 1 rfl (.inl rfl) rfl) rfl) (fun i j _ hj => by rw [hj]; exact ⟨h0, h1⟩) (h := anyI) fun _ _ _ _ => True.intro) ?_)
    exact wb_ret (ev_var 2 rfl (.inl rfl) rfl) ⟨x, rfl, x0, x1⟩
  case b =>
    have u1 : ∀ {ρ : List Sl} {pu pk pos : Pos} {kk}, ρ[0]? = some (.ur 0) → EvX (ca c.K) (bodyX c ["_law_urn", "_law_low_so", "_law_drawn", "_law_once", "_law_far", "_law_both_so"] "_law_take" (defScope (top 90)) f cdv A outer s H E) (.Subscript (.Name "_law_urn" pu) (.Constant (.int 1) kk pk) pos) ρ ρ (IntP anyI) := fun e => (ex_urn 0 (m := 1) rfl (.inl rfl) e (by decide)).mono fun d ⟨i, e, _⟩ => ⟨i, e, True.intro⟩
    have u2 : ∀ {ρ : List Sl} {pu pk pos : Pos} {kk}, ρ[0]? = some (.ur 0) → EvX (ca c.K) (bodyX c ["_law_urn", "_law_low_so", "_law_drawn", "_law_once", "_law_far", "_law_both_so"] "_law_take" (defScope (top 90)) f cdv A outer s H E) (.Subscript (.Name "_law_urn" pu) (.Constant (.int 2) kk pk) pos) ρ ρ (IntP fun x => 0 ≤ x ∧ x ≤ 1000000000000000000) := fun e => (ex_urn 0 (m := 2) rfl (.inl rfl) e (by decide)).mono fun d ⟨i, e, g⟩ => ⟨i, e, g rfl⟩
    refine wb_cons (w_urn2 0 (n := 0) rfl (.inl rfl) rfl (ur0 rfl) ?_)
    refine wb_cons (w_setX 3 nd rfl (.inl rfl) (ex_opI op_mod (ex_intI h.f_int (ex_opI op_mul (ex_add (h := anyI) (u1 rfl) (ex_opI (h := anyI) op_mul (ex_int (f := fun x => x = 48271) rfl) (u2 rfl) (fun i j hi _ => .inl (by rw [hi]; decide)) fun _ _ _ _ => True.intro) fun _ _ _ _ => True.intro) (ex_add (h := fun x => 0 ≤ x ∧ x ≤ 1000000000000039373) (ex_int (f := fun x => x = 39373) rfl) (u2 rfl) fun i j hi hj => by omega) (h := anyI) (fun i j _ hj => .inr (by omega)) fun _ _ _ _ => True.intro)) (ex_int (f := fun x => x = 2147483647) rfl) (fun i j _ hj => by omega) (h := fun x => 0 ≤ x ∧ x < 2147483647) (fun i j _ hj => by rw [hj]; omega)) fun d pd => ?_)
    obtain ⟨on, rfl, o0, o1⟩ := pd
    refine wb_cons (w_setX 4 nd rfl (.inl rfl) (ex_add (h := fun x => 0 ≤ x ∧ x < 50000) (ex_opI op_mod (ex_intI (f := anyI) h.f_int (ex_ev (ev_var 3 rfl (.inl rfl) rfl) True.intro)) (ex_int (f := fun x => x = 40009) rfl) (fun i j _ hj => by omega) (h := fun x => 0 ≤ x ∧ x < 40009) (fun i j _ hj => by rw [hj]; omega)) (ex_int (f := fun x => x = 7) rfl) fun i j hi hj => by omega) fun d pd => ?_)
    obtain ⟨fa, rfl, fa0, fa1⟩ := pd
    refine wb_cons (w_setX 5 nd rfl (.inl rfl) (ex_opI op_mod (ex_intI h.f_int (ex_opI op_mul (ex_add (h := anyI) (ex_add (h := anyI) (ex_ev (f := anyI) (ev_var 3 rfl (.inl rfl) rfl) True.intro) (u2 rfl) fun _ _ _ _ => True.intro) (ex_opI op_fdivW (u1 rfl) (ex_int (f := fun x => x = 1000003) rfl) (fun i j _ hj => by rw [hj]; exact ⟨by decide, by decide +kernel⟩) (h := anyI) fun _ _ _ _ => True.intro) fun _ _ _ _ => True.intro) (ex_ev (f := fun x => x = fa) (ev_var 4 rfl (.inl rfl) rfl) rfl) (h := anyI) (fun i j _ hj => .inr (by omega)) fun _ _ _ _ => True.intro)) (ex_int (f := fun x => x = 2147483629) rfl) (fun i j _ hj => by omega) (h := anyI) fun _ _ _ _ => True.intro) fun d pd => ?_)
    obtain ⟨bo, rfl, _⟩ := pd
    refine wb_retX (ex_opI op_mod (ex_intI h.f_int (ex_opI op_fdivW (ex_opI op_mod (ex_intI h.f_int (ex_add (h := anyI) (ex_opI (h := anyI) op_mul (ex_ev (f := anyI) (ev_var 5 rfl (.inl rfl) rfl) True.intro) (ex_int (f := fun x => x = 48271) rfl) (fun i j _ hj => .inr (by omega)) fun _ _ _ _ => True.intro) (ex_ev (f := anyI) (ev_var 3 rfl (.inl rfl) rfl) True.intro) fun _ _ _ _ => True.intro)) (ex_int (f := fun x => x = 2147483587) rfl) (fun i j _ hj => by omega) (h := anyI) fun _ _ _ _ => True.intro) (ex_int (f := fun x => x = 64) rfl) (fun i j _ hj => by rw [hj]; exact ⟨by decide, by decide +kernel⟩) (h := anyI) fun _ _ _ _ => True.intro)) (ex_ev (f := fun j => j = low) (ev_var 1 rfl (.inl rfl) rfl) rfl) (fun i j _ hj => by rw [hj]; exact h0) (h := fun x => 0 ≤ x ∧ x < low) (fun i j _ hj => by rw [hj]; exact ⟨Int.emod_nonneg _ (by omega), Int.emod_lt_of_pos _ h0⟩)) fun d pd => ?_
    obtain ⟨x, rfl, x0, x1⟩ := pd
    exact ⟨x, rfl, x0, x1⟩
end
end PL
/-! LW2: more defs that draw -/
namespace PL
open PySem PySem.Spec PyProof.Rows L2
theorem log_of {i : Int} {n : Nat} (h0 : 0 < i) (h : i.natAbs < 2 ^ n) : i.natAbs.log2 < n := (Nat.log2_lt (by omega)).mpr h
theorem pw (n : Int) (h0 : 0 ≤ n) (h1 : n ≤ 50) : 0 ≤ n ∧ (Builtin.Int.intBits 10 : Int) * n ≤ 2 ^ 27 := ⟨h0, by
  have : Builtin.Int.intBits 10 = 4 := by decide +kernel
  rw [this]
  omega⟩
def baseM : List Str := ["a", "b", "c", "x", "y", "aa", "ab", "zzzzzzzz", "p", "div"]
def isStrs (P : List Str → Prop) (d : D) : Prop := ∃ ns, d = .lst (ns.map D.str) ∧ P ns
section
variable {c : Cn}
theorem take_x {h : Hd c} {X : Cx} {ρ ρ1 : List Sl} {es : List Expr} {pos p pu : Pos} (hc : cnOf X = c) (hr : Room 2 X.A) {n m : Nat} {low : Int} (hN : X.N[0]? = some ("_law_urn" : Str)) (hv : Vis X.env.scope "_law_urn") (hi : ρ[0]? = some (.ur m)) (ha : EaX (ca c.K) X es ρ ρ1 (fun ds => ds = [.int low])) (h1 : urOne ρ1 0) (hi1 : ρ1[0]? = some (.ur (n + 1))) (hl : 0 < low ∧ low.natAbs.log2 < 9000)
    (hg : Gl X "_law_take" := by rfl) (he : starEach (.Name "_law_urn" pu :: es) X.env = (false, eval (.Name "_law_urn" pu) X.env) :: starEach es X.env := by rfl) (hpl : (backTo pos (starEach es X.env)).any (·.1) = false := by rfl) : EvX (ca c.K) X (.Call (.Name "_law_take" p) (.Name "_law_urn" pu :: es) [] pos) ρ (ρ1.set 0 (.ur n)) (IntP fun x => 0 ≤ x ∧ x < low) :=
  ex_call 0 (g_take h) hc hr hN hv hi ha h1 hi1 (fun ds e => ⟨low, e, hl, fun d pd => pd⟩) hg (by decide) (by decide) (by decide) he hpl
theorem g_of (h : Hd c) : Good c "_law_of" 3 ["_law_urn", "_law_some_so"] (SpU c.K (ca c.K) 1 (fun xs : List Int => [.lst (xs.map D.int)]) (fun xs => 0 < xs.length ∧ xs.length ≤ 1000) (fun xs d => ∃ i ∈ xs, d = .int i)) := by
  refine good_defU (n0 := "_law_urn") (N' := ["_law_some_so"]) h.d__law_of ⟨rfl, rfl, rfl, by decide +kernel, rfl, by decide +kernel, by decide +kernel⟩ (fun _ _ _ _ _ _ us hl => match us, hl with | [_, _], _ => rfl) (fun _ => rfl) (by decide) ?_
  rintro f cdv A outer s H E hr xs ⟨h0, h1⟩
  have h0 : 0 < xs.length := h0
  have h1 : xs.length ≤ 1000 := h1
  have hl : 0 < (xs.length : Int) ∧ (xs.length : Int).natAbs.log2 < 9000 := ⟨by omega, Nat.lt_of_lt_of_le (log_of (n := 10) (by omega) (by rw [Int.natAbs_natCast]; omega)) (by decide)⟩
  refine wb_retX (ex_ixL (ev_var 1 rfl (.inl rfl) rfl) ((take_x (h := h) rfl (hr.mono (by decide)) (n := 0) (low := (xs.length : Int)) rfl (.inl rfl) rfl (ea_of (ea_cons (ev_len h.f_len (ev_var 1 rfl (.inl rfl) rfl) (.inl rfl)) ea_nil) (by rw [List.length_map])) (ur0 rfl) rfl hl).mono ?_)) fun d pd => pd
  rintro d ⟨i, rfl, i0, i1⟩
  obtain ⟨m, rfl⟩ : ∃ m : Nat, i = (m : Int) := ⟨i.toNat, by omega⟩
  have hk : m < xs.length := by omega
  refine ⟨(m : Int), rfl, .int xs[m], ?_, xs[m], List.getElem_mem _, rfl⟩
  rw [atI_nat (by rw [List.length_map]; exact hk), List.getElem?_map, List.getElem?_eq_getElem hk]
  rfl
theorem g_limit (h : Hd c) : Good c "_law_limit" 4 ["_law_urn"] (SpU c.K (ca c.K) 3 (fun _ : Unit => []) (fun _ => True) (fun _ d => ∃ i, d = .int i ∧ 1 ≤ i ∧ i ≤ 200000000000000000000000000000000000000)) := by
  refine good_defU (n0 := "_law_urn") (N' := ["_law_most_so"]) h.d__law_limit ⟨rfl, rfl, rfl, by decide +kernel, rfl, by decide +kernel, by decide +kernel⟩ (fun _ _ _ _ _ _ us hl => match us, hl with | [_], _ => rfl) (fun _ => rfl) (by decide) ?_
  rintro f cdv A outer s H E hr _ _
  have nd : (["_law_urn", "_law_most_so"] : List Str).Nodup := by decide +kernel
  have h8 : 0 < (10 : Int) ^ (8 : Int).toNat ∧ ((10 : Int) ^ (8 : Int).toNat).natAbs.log2 < 9000 := ⟨by decide +kernel, by decide +kernel⟩
  have h6 : 0 < (10 : Int) ^ (6 : Int).toNat ∧ ((10 : Int) ^ (6 : Int).toNat).natAbs.log2 < 9000 := ⟨by decide +kernel, by decide +kernel⟩
  refine wb_cons (w_setX 1 nd rfl (.inl rfl) (ex_opI op_mul (f := fun x => 0 ≤ x ∧ x ≤ 1000000000000000000000000000000) (g := fun x => 1 ≤ x ∧ x ≤ 100000000) (h := fun x => 0 ≤ x ∧ x ≤ 100000000000000000000000000000000000000) (ex_call 0 (n := 2) (g_of h) rfl (hr.mono (by decide)) rfl (.inl rfl) rfl (ea_of (Ps := fun ds => ds = [.lst ([5, 60, 10 ^ (9 : Int).toNat, 10 ^ (30 : Int).toNat].map D.int)]) (ea_cons (EvN.toE (en_lst (ea_cons ev_int (ea_cons ev_int (ea_cons (ev_powW ev_int ev_int (pw _ (by decide) (by decide))) (ea_cons (ev_powW ev_int ev_int (pw _ (by decide) (by decide))) ea_nil)))))) ea_nil) rfl) (ur0 rfl) rfl fun ds e => ⟨[5, 60, 10 ^ (9 : Int).toNat, 10 ^ (30 : Int).toNat], e, ⟨by decide, by decide⟩, ?q1⟩)
    (ex_add (f := fun x => x = 1) (g := fun x => 0 ≤ x ∧ x < 10 ^ (8 : Int).toNat) (ex_int rfl) (take_x (h := h) rfl (hr.mono (by decide)) (n := 1) (low := 10 ^ (8 : Int).toNat) rfl (.inl rfl) rfl (ea_of (ea_cons (ev_powW ev_int ev_int (pw _ (by decide) (by decide))) ea_nil) rfl) (ur0 rfl) rfl h8) ?q2) ?q3 ?q4) fun d pd => ?_)
  case q1 =>
    rintro d ⟨i, hi, rfl⟩
    refine ⟨i, rfl, ?_⟩
    simp only [List.mem_cons, List.not_mem_nil, or_false] at hi
    rcases hi with rfl | rfl | rfl | rfl <;> decide +kernel
  case q2 =>
    intro i j hi hj
    have : (10 : Int) ^ (8 : Int).toNat = 100000000 := by decide +kernel
    omega
  case q3 => exact fun i j hi hj => .inr (by omega)
  case q4 =>
    intro i j hi hj
    refine ⟨Int.mul_nonneg (by omega) (by omega), ?_⟩
    have := Int.mul_le_mul hi.2 hj.2 (by omega) (by decide)
    omega
  obtain ⟨m, rfl, m0, m1⟩ := pd
  refine wb_retX (ex_add (f := fun x => 1 ≤ x ∧ x ≤ 100000000000000000000000000000000000001) (g := fun x => 0 ≤ x ∧ x < 10 ^ (6 : Int).toNat) (h := fun x => 1 ≤ x ∧ x ≤ 200000000000000000000000000000000000000) (ex_ev (ev_add ev_int (ev_var 1 rfl (.inl rfl) rfl)) (by omega)) (take_x (h := h) rfl (hr.mono (by decide)) (n := 0) (low := 10 ^ (6 : Int).toNat) rfl (.inl rfl) rfl (ea_of (ea_cons (ev_powW ev_int ev_int (pw _ (by decide) (by decide))) ea_nil) rfl) (ur0 rfl) rfl h6) ?_) fun d pd => pd
  intro i j hi hj
  have : (10 : Int) ^ (6 : Int).toNat = 1000000 := by decide +kernel
  omega
end
end PL
/-! LW3: the names drawn -/
namespace PL
open PySem PySem.Spec PyProof.Rows L2
def isLit : Expr → Bool
  | .Constant (.str x) _ _ => PyData.strOk x
  | _ => false
def litD : Expr → D
  | .Constant (.str x) _ _ => .str x
  | _ => .non
theorem ea_lits {T : CA} {X : Cx} {ρ : List Sl} : ∀ (es : List Expr), es.all isLit = true → EvA T X es ρ (es.map litD)
  | [], _ => ea_nil
  | e :: es, h => by
    obtain ⟨h1, h2⟩ := Bool.and_eq_true_iff.mp (show (isLit e && es.all isLit) = true from h)
    have ih := ea_lits (T := T) (X := X) (ρ := ρ) es h2
    cases e with
    | Constant v k p =>
      cases v with
      | str x => exact ea_cons (ev_str h1) ih
      | _ => cases h1
    | _ => cases h1
section
variable {c : Cn}
/-- the names drawn -/
def Tags (n : Nat) (ns : List Str) : Prop := ns.Nodup ∧ ns.length = n ∧ ∀ x ∈ ns, x ∈ baseM
theorem perm_pop {α : Type} : ∀ {xs : List α} {k : Nat} {x : α}, xs[k]? = some x → xs.Perm (x :: xs.eraseIdx k)
  | y :: ys, 0, x, h => by
    have h : y = x := by simpa using h
    subst h
    exact .refl _
  | y :: ys, k + 1, x, h => by
    have h : ys[k]? = some x := by simpa using h
    exact ((perm_pop h).cons y).trans (.swap x y _)
theorem erase_map {α β : Type} (f : α → β) : ∀ (xs : List α) (k : Nat), (xs.map f).eraseIdx k = (xs.eraseIdx k).map f
  | [], _ => rfl
  | _ :: _, 0 => rfl
  | x :: xs, k + 1 => congrArg (f x :: ·) (erase_map f xs k)
theorem g_tags (h : Hd c) : Good c "_law_tags" 4 ["_law_urn", "_law_many_so"] (SpU c.K (ca c.K) 4 (fun n : Nat => [.int (n : Int)]) (fun n => n ≤ 4) (fun n d => ∃ ns, d = .lst (ns.map D.str) ∧ Tags n ns)) := by
  refine good_defU (n0 := "_law_urn") (N' := ["_law_many_so", "_law_rest", "_law_found", "_law_turn"]) h.d__law_tags ⟨rfl, rfl, rfl, by decide +kernel, rfl, by decide +kernel, by decide +kernel⟩ (fun _ _ _ _ _ _ us hl => match us, hl with | [_, _], _ => rfl) (fun _ => rfl) (by decide) ?_
  rintro f cdv A outer s H E hr n hn
  have hn : n ≤ 4 := hn
  have nd : (["_law_urn", "_law_many_so", "_law_rest", "_law_found", "_law_turn"] : List Str).Nodup := by decide +kernel
  have key : ∀ es : List Expr, es.all isLit = true → es.map litD = baseM.map D.str → ∀ rest, WB (ca c.K) (bodyX c ["_law_urn", "_law_many_so", "_law_rest", "_law_found", "_law_turn"] "_law_tags" (defScope (top 92)) f cdv A outer s H E) rest [.ur 4, .va (.int (n : Int)), .ow (baseM.map D.str), .ow [], .un] { nx := fun _ => False, rt := fun d => ∃ ns, d = .lst (ns.map D.str) ∧ Tags n ns } →
      WB (ca c.K) (bodyX c ["_law_urn", "_law_many_so", "_law_rest", "_law_found", "_law_turn"] "_law_tags" (defScope (top 92)) f cdv A outer s H E) (.Assign [.Tuple [.Name "_law_rest" ⟨716, 4, 716, 13⟩, .Name "_law_found" ⟨716, 15, 716, 25⟩] 0 ⟨716, 4, 716, 25⟩] (.Tuple [.List es ⟨716, 29, 716, 90⟩, .List [] ⟨716, 92, 716, 94⟩] 0 ⟨716, 28, 716, 95⟩) ⟨716, 4, 716, 95⟩ :: rest) [.ur 4, .va (.int (n : Int)), .un, .un, .un] { nx := fun _ => False, rt := fun d => ∃ ns, d = .lst (ns.map D.str) ∧ Tags n ns } := fun es h1 h2 rest hrest =>
    wb_cons (w_parNN (d1 := baseM.map D.str) (d2 := []) 2 3 rfl nd rfl rfl (by decide) rfl rfl (EvN.to (en_lst (ea_lits es h1) (by rw [h2]; exact Nat.le_of_ble_eq_true rfl)) h2) (en_lst ea_nil) hrest)
  refine key _ (by decide +kernel) rfl _ ?_
  refine wb_cons (w_for (fun _ _ h => h.elim) rfl (ei_rng h.f_range (ev_var 1 rfl (.inl rfl) rfl) (by omega) (by omega)) (fun k ρ1 => ∃ (rs fs : List Str) (s1 : Sl), ρ1 = [.ur (4 - k), .va (.int (n : Int)), .ow (rs.map D.str), .ow (fs.map D.str), s1] ∧ isUr s1 = false ∧ (fs ++ rs).Perm baseM ∧ fs.length = k) ⟨baseM, [], .un, rfl, rfl, List.Perm.refl _, rfl⟩ ?_ ?_)
  · rintro k d ρ1 hd ⟨rs, fs, s1, rfl, hs1, hp, hf⟩
    rw [rngD_get] at hd
    split at hd
    · rename_i hk
      cases hd
      have hk : k < n := by omega
      have hlen := hp.length_eq
      rw [List.length_append, hf, show baseM.length = 10 from rfl] at hlen
      have hl : 0 < (rs.length : Int) ∧ (rs.length : Int).natAbs.log2 < 9000 := ⟨by omega, Nat.lt_of_lt_of_le (log_of (n := 10) (by omega) (by rw [Int.natAbs_natCast]; omega)) (by decide)⟩
      obtain ⟨m, hm⟩ : ∃ m, 4 - k = m + 1 := ⟨3 - k, by omega⟩
      rw [hm]
      refine ⟨_, _, (eg_name 4 nd rfl (.inl rfl)), wb_cons (w_popapp 3 2 (fs := fs.map D.str) (rs := rs.map D.str) rfl rfl (.inl rfl) (.inl rfl) (by decide) rfl rfl ((take_x (h := h) rfl (hr.mono (by decide)) (n := m) (low := (rs.length : Int)) rfl (.inl rfl) rfl (ea_of (ea_cons (ev_lenO 2 h.f_len rfl (.inl rfl) rfl) ea_nil) (by rw [List.length_map])) (ur0 rfl) rfl hl).mono fun d ⟨i, e, i0, i1⟩ => ⟨i, e, i0, by rw [List.length_map]; exact i1⟩) rfl rfl (by rw [List.length_map]; omega) (by rw [List.length_map]; omega) fun j d hd => wb_nil ?_)⟩
      obtain ⟨x, hx, rfl⟩ := map_at hd
      have hm2 : 4 - (k + 1) = m := by omega
      refine ⟨rs.eraseIdx j, fs ++ [x], .va (.int (k : Int)), ?_, rfl, ?_, ?_⟩
      · rw [hm2]
        show [_, _, Sl.ow ((rs.map D.str).eraseIdx j), Sl.ow (fs.map D.str ++ [D.str x]), _] = _
        rw [List.map_append, erase_map]
        rfl
      · refine List.Perm.trans ?_ hp
        rw [List.append_assoc]
        exact (perm_pop hx).symm.append_left fs
      · rw [List.length_append, hf]
        rfl
    · cases hd
  · rintro ρ1 ⟨rs, fs, s1, rfl, hs1, hp, hf⟩
    have e : (rngD (n : Int).toNat).length = n := by
      unfold rngD
      rw [List.length_map, List.length_range, Int.toNat_natCast]
    rw [e] at hf
    refine wb_frz 3 rfl (wb_ret (ev_var 3 rfl (.inl rfl) rfl) ⟨fs, rfl, ?_, hf, fun x hx => hp.mem_iff.mp (List.mem_append_left _ hx)⟩)
    exact (hp.nodup_iff.mpr (by decide +kernel : baseM.Nodup)).sublist (List.sublist_append_left _ _)
end
end PL
/-! LW4: sets of names, rows of steps -/
namespace PL
open PySem PySem.Spec PyProof.Rows L2
section
variable {c : Cn}
/-- a comprehension's test that draws -/
theorem g_lot (h : Hd c) : Good c "_law_lot" 4 ["_law_urn", "_law_tags_here"] (SpU c.K (ca c.K) 5 (fun ns : List Str => [encNs ns]) (fun ns => ns.length ≤ 4) (fun ns d => ∃ some r, d = .tup [encNt some, .bl r] ∧ some.Sublist ns)) := by
  refine good_defU (n0 := "_law_urn") (N' := ["_law_tags_here", "_law_some_so", "_law_own"]) h.d__law_lot ⟨rfl, rfl, rfl, by decide +kernel, rfl, by decide +kernel, by decide +kernel⟩ (fun _ _ _ _ _ _ us hl => match us, hl with | [_, _], _ => rfl) (fun _ => rfl) (by decide) ?_
  rintro f cdv A outer s H E hr ns hn
  have hn : ns.length ≤ 4 := hn
  have nd : (["_law_urn", "_law_tags_here", "_law_some_so", "_law_own"] : List Str).Nodup := by decide +kernel
  have h2 : 0 < (2 : Int) ∧ (2 : Int).natAbs.log2 < 9000 := ⟨by decide, by decide +kernel⟩
  have h4 : 0 < (4 : Int) ∧ (4 : Int).natAbs.log2 < 9000 := ⟨by decide, by decide +kernel⟩
  refine wb_cons (w_lcX 2 (R := fun i => [.ur (1 + (4 - i)), .va (encNs ns), .un, .un]) (enc := D.str) (Qi := fun i ds => ∃ ms : List Str, ds = ms.map D.str ∧ ms.Sublist (ns.take i)) (xs := ns) rfl nd [("_law_own", 3)] rfl rfl (blk_of rfl) rfl (ei_lst (ev_var 1 rfl (.inl rfl) rfl)) ⟨fun i x hx => ?turn, fun i => ⟨no_own rfl, fun v hv => by rw [List.mem_singleton.mp hv]; rfl⟩⟩ ⟨[], rfl, List.nil_sublist _⟩ (fun i ds ⟨ms, e, hs⟩ => ?len) (by omega) (fun ds ⟨ms, e, hs⟩ => ?_) rfl)
  case turn =>
    have hi : i < ns.length := (List.getElem?_eq_some_iff.mp hx).1
    obtain ⟨m, hm⟩ : ∃ m, 4 - i = m + 1 := ⟨3 - i, by omega⟩
    have hm2 : 4 - (i + 1) = m := by omega
    refine ⟨_, _, [.ur (1 + m), .va (encNs ns), .un, .va (.str x)], [.ur (1 + m), .va (encNs ns), .un, .va (.str x)], fun _ => True, fun d => d = .str x, by decide, fun _ _ _ _ _ => ⟨eg_name 3 nd rfl (.inl rfl), etsx_one (etx_eq (f := fun x => 0 ≤ x ∧ x < 2) hr.units ?t (ex_int (f := anyI) True.intro)), ex_of (ev_var 3 rfl (.inl rfl) rfl) rfl⟩, fun _ => ⟨by simp only [hm2]; rfl, fun ds ⟨ms, e, hs⟩ => ⟨ms, e, hs.trans (by rw [take_next hx]; exact List.sublist_append_left _ _)⟩⟩, by simp only [hm2]; rfl, fun ds d ⟨ms, e, hs⟩ hd => ⟨ms ++ [x], by rw [e, hd, List.map_append]; rfl, by rw [take_next hx]; exact hs.append (List.Sublist.refl _)⟩⟩
    case t =>
      simp only [hm]
      show EvX (ca c.K) _ _ [Sl.ur (1 + (m + 1)), .va (encNs ns), .un, .va (.str x)] ([Sl.ur (1 + (m + 1)), .va (encNs ns), .un, .va (.str x)].set 0 (.ur (1 + m))) _
      exact take_x (h := h) (X := BlkX _ _ _ _ _ _ _) (ρ := [Sl.ur (1 + (m + 1)), .va (encNs ns), .un, .va (.str x)]) (ρ1 := [Sl.ur (1 + (m + 1)), .va (encNs ns), .un, .va (.str x)]) rfl (hr.mono (by decide)) (n := (1 + m)) (m := 1 + (m + 1)) (low := 2) rfl (.inr (.inl rfl)) rfl (ea_of (ea_cons ev_int ea_nil) rfl) (ur0 rfl) rfl h2
  case len =>
    have := hs.length_le
    rw [e, List.length_map]
    exact Nat.le_trans this (List.length_take_le _ _)
  subst e
  rw [List.take_length] at hs
  obtain ⟨m, hm⟩ : ∃ m, 1 + (4 - ns.length) = m + 1 := ⟨4 - ns.length, by omega⟩
  simp only [hm]
  refine wb_retX (ex_tup (Ps := fun ds => ∃ z, ds = [encNt ms, .bl z]) (ea_consX (ex_of (P := fun d => d = encNt ms) (ev_tupleL h.f_tuple (ev_var 2 rfl (.inl rfl) rfl) (.inl rfl)) rfl) fun d e => ea_consX (ex_cmpE hr.units (take_x (h := h) rfl (hr.mono (by decide)) (n := m) (m := m + 1) (low := 4) rfl (.inr (.inl rfl)) rfl (ea_of (ea_cons ev_int ea_nil) rfl) (ur0 rfl) rfl h4) (ex_int (f := anyI) True.intro)) fun d2 ⟨z, e2⟩ => ea_of ea_nil ⟨z, by rw [e, e2]⟩) (fun ds ⟨z, e⟩ => by rw [e]; exact (by decide : 2 ≤ 1000)) (P := fun d => ∃ z, d = .tup [encNt ms, .bl z]) (fun ds ⟨z, e⟩ => ⟨z, by rw [e]⟩)) fun d ⟨z, e⟩ => ⟨ms, z, e, hs⟩
def encL (s : Stp) : D := match s with
  | .cut n => .tup [.str "cut", .int n]
  | .drop ns r => .tup [.str "drop", .tup [encNt ns, .bl r]]
  | .unw ns r => .tup [.str "unwrap", .tup [encNt ns, .bl r]]
/-- what a wide row of steps looks like -/
def Wide (tags : List Str) (mat : List Stp) : Prop := ∃ top low less ns r, mat = [.cut top, .unw less false, .cut low, .drop ns r] ∧ 1 ≤ low ∧ low ≤ top ∧ top ≤ 200000000000000000000000000000000000000 ∧ less.Sublist tags ∧ ns.Sublist tags
theorem g_wide (h : Hd c) : Good c "_law_wide" 5 ["_law_urn", "_law_tags_here"] (SpU c.K (ca c.K) 13 (fun ns : List Str => [encNs ns]) (fun ns => ns.length ≤ 4) (fun ns d => ∃ mat, d = .lst (mat.map encL) ∧ Wide ns mat)) := by
  refine good_defU (n0 := "_law_urn") (N' := ["_law_tags_here", "_law_top_so", "_law_low_so", "_law_less_so", "_law_own", "_law_mat"]) h.d__law_wide ⟨rfl, rfl, rfl, by decide +kernel, rfl, by decide +kernel, by decide +kernel⟩ (fun _ _ _ _ _ _ us hl => match us, hl with | [_, _], _ => rfl) (fun _ => rfl) (by decide) ?_
  rintro f cdv A outer s H E hr ns hn
  have hn : ns.length ≤ 4 := hn
  have nd : (["_law_urn", "_law_tags_here", "_law_top_so", "_law_low_so", "_law_less_so", "_law_own", "_law_mat"] : List Str).Nodup := by decide +kernel
  have h3 : 0 < (3 : Int) ∧ (3 : Int).natAbs.log2 < 9000 := ⟨by decide, by decide +kernel⟩
  refine wb_cons (w_setX 2 nd rfl (.inl rfl) (ex_call 0 (n := 10) (m := 13) (g_limit h) rfl (hr.mono (by decide)) rfl (.inr (.inl rfl)) rfl (ea_of ea_nil (Ps := fun ds => ds = []) rfl) (ur0 rfl) rfl fun ds e => ⟨(), e, True.intro, fun d pd => pd⟩) fun d ⟨top, e, t0, t1⟩ => ?_)
  subst e
  have ht : 0 < top ∧ top.natAbs.log2 < 9000 := ⟨by omega, Nat.lt_of_lt_of_le (log_of (n := 200) (by omega) (Nat.lt_of_le_of_lt (show top.natAbs ≤ 200000000000000000000000000000000000000 by omega) (by decide +kernel))) (by decide)⟩
  refine wb_cons (w_setX 3 nd rfl (.inl rfl) (ex_add (f := fun x => x = 1) (g := fun x => 0 ≤ x ∧ x < top) (h := fun x => 1 ≤ x ∧ x ≤ top) (ex_int rfl) (take_x (h := h) rfl (hr.mono (by decide)) (n := 9) (m := 10) (low := top) rfl (.inr (.inl rfl)) rfl (ea_of (ea_cons (ev_var 2 rfl (.inl rfl) rfl) ea_nil) rfl) (ur0 rfl) rfl ht) fun i j hi hj => by omega) fun d ⟨low, e, l0, l1⟩ => ?_)
  subst e
  refine wb_cons (w_lcX 4 (R := fun i => [.ur (5 + (4 - i)), .va (encNs ns), .va (.int top), .va (.int low), .un, .un, .un]) (enc := D.str) (Qi := fun i ds => ∃ ms : List Str, ds = ms.map D.str ∧ ms.Sublist (ns.take i)) (xs := ns) rfl nd [("_law_own", 5)] rfl rfl (blk_of rfl) rfl (ei_lst (ev_var 1 rfl (.inl rfl) rfl)) ⟨fun i x hx => ?turn, fun i => ⟨no_own rfl, fun v hv => by rw [List.mem_singleton.mp hv]; rfl⟩⟩ ⟨[], rfl, List.nil_sublist _⟩ (fun i ds ⟨ms, e, hs⟩ => ?len) (by omega) (fun ds ⟨ms, e, hs⟩ => ?_) rfl)
  case turn =>
    have hi : i < ns.length := (List.getElem?_eq_some_iff.mp hx).1
    obtain ⟨m, hm⟩ : ∃ m, 4 - i = m + 1 := ⟨3 - i, by omega⟩
    have hm2 : 4 - (i + 1) = m := by omega
    refine ⟨_, _, [.ur (5 + m), .va (encNs ns), .va (.int top), .va (.int low), .un, .va (.str x), .un], [.ur (5 + m), .va (encNs ns), .va (.int top), .va (.int low), .un, .va (.str x), .un], fun _ => True, fun d => d = .str x, by decide, fun _ _ _ _ _ => ⟨eg_name 5 nd rfl (.inl rfl), etsx_one (etx_eq (f := fun x => 0 ≤ x ∧ x < 3) hr.units ?t (ex_int (f := anyI) True.intro)), ex_of (ev_var 5 rfl (.inl rfl) rfl) rfl⟩, fun _ => ⟨by simp only [hm2]; rfl, fun ds ⟨ms, e, hs⟩ => ⟨ms, e, hs.trans (by rw [take_next hx]; exact List.sublist_append_left _ _)⟩⟩, by simp only [hm2]; rfl, fun ds d ⟨ms, e, hs⟩ hd => ⟨ms ++ [x], by rw [e, hd, List.map_append]; rfl, by rw [take_next hx]; exact hs.append (List.Sublist.refl _)⟩⟩
    case t =>
      simp only [hm]
      show EvX (ca c.K) _ _ [Sl.ur (5 + (m + 1)), .va (encNs ns), .va (.int top), .va (.int low), .un, .va (.str x), .un] ([Sl.ur (5 + (m + 1)), .va (encNs ns), .va (.int top), .va (.int low), .un, .va (.str x), .un].set 0 (.ur (5 + m))) _
      exact take_x (h := h) (X := BlkX _ _ _ _ _ _ _) (ρ := [Sl.ur (5 + (m + 1)), .va (encNs ns), .va (.int top), .va (.int low), .un, .va (.str x), .un]) (ρ1 := [Sl.ur (5 + (m + 1)), .va (encNs ns), .va (.int top), .va (.int low), .un, .va (.str x), .un]) rfl (hr.mono (by decide)) (n := (5 + m)) (m := 5 + (m + 1)) (low := 3) rfl (.inr (.inl rfl)) rfl (ea_of (ea_cons ev_int ea_nil) rfl) (ur0 rfl) rfl h3
  case len =>
    have := hs.length_le
    rw [e, List.length_map]
    exact Nat.le_trans this (List.length_take_le _ _)
  subst e
  rw [List.take_length] at hs
  refine wb_cons (w_set 6 nd rfl (.inl rfl) (d := .lst ([Stp.cut top, Stp.unw ms false].map encL)) (EvN.toE (en_lst (ea_cons (ev_tup (ea_cons ev_str (ea_cons (ev_var 2 rfl (.inl rfl) rfl) ea_nil))) (ea_cons (ev_tup (ea_cons ev_str (ea_cons (ev_tup (ea_cons (ev_tupleL h.f_tuple (ev_var 4 rfl (.inl rfl) rfl) (.inl rfl)) (ea_cons ev_bl ea_nil))) ea_nil))) ea_nil)))) ?_)
  obtain ⟨m, hm⟩ : ∃ m, 5 + (4 - ns.length) = m + 5 := ⟨4 - ns.length, by omega⟩
  simp only [hm]
  refine wb_retX (ex_catL (P1 := fun xs => xs = [Stp.cut top, Stp.unw ms false].map encL) (P2 := fun xs => ∃ so r, xs = [Stp.cut low, Stp.drop so r].map encL ∧ so.Sublist ns) (P3 := fun xs => ∃ mat, xs = mat.map encL ∧ Wide ns mat) (ex_of (ev_var 6 rfl (.inl rfl) rfl) ⟨_, rfl, rfl⟩) (ex_lst (Ps := fun ds => ∃ so r, ds = [Stp.cut low, Stp.drop so r].map encL ∧ so.Sublist ns) (ea_consX (ex_of (P := fun d => d = encL (.cut low)) (ev_tup (ea_cons ev_str (ea_cons (ev_var 3 rfl (.inl rfl) rfl) ea_nil))) rfl) fun d e => ea_consX (ex_tup (P := fun d => ∃ so r, d = encL (.drop so r) ∧ so.Sublist ns) (Ps := fun ds => ∃ so r, ds = [.str "drop", .tup [encNt so, .bl r]] ∧ so.Sublist ns) (ea_consX (ex_of (P := fun d => d = .str "drop") ev_str rfl) fun d e => ea_consX (ex_call 0 (n := m) (m := m + 5) (g_lot h) rfl (hr.mono (by decide)) rfl (.inr (.inl rfl)) rfl (ea_of (ea_cons (ev_var 1 rfl (.inl rfl) rfl) ea_nil) (Ps := fun ds => ds = [encNs ns]) rfl) (ur0 rfl) rfl fun ds e => ⟨ns, e, hn, fun d pd => pd⟩) fun d2 ⟨so, r, e2, hso⟩ => ea_of ea_nil ⟨so, r, by rw [e, e2], hso⟩) (fun ds ⟨so, r, e, _⟩ => by rw [e]; exact (by decide : 2 ≤ 1000)) (fun ds ⟨so, r, e, hso⟩ => ⟨so, r, by rw [e]; rfl, hso⟩)) fun d2 ⟨so, r, e2, hso⟩ => ea_of ea_nil ⟨so, r, by rw [e, e2]; rfl, hso⟩) (fun ds ⟨so, r, e, _⟩ => by rw [e]; exact (by decide : 2 ≤ 1000)) (fun ds ⟨so, r, e, hso⟩ => ⟨_, rfl, so, r, e, hso⟩)) (fun xs ys e1 ⟨so, r, e2, _⟩ => by rw [e1, e2]; exact (by decide : 2 + 2 ≤ 100000)) (fun xs ys e1 ⟨so, r, e2, hso⟩ => ⟨[.cut top, .unw ms false, .cut low, .drop so r], by rw [e1, e2]; rfl, top, low, ms, so, r, rfl, l0, l1, t1, hs, hso⟩)) fun d ⟨xs, e, mat, e2, w⟩ => ⟨mat, by rw [e, e2], w⟩
end
end PL
/-! LW5: the law's own reading of a row of steps -/
namespace PL
open PySem PySem.Spec PyProof.Rows L2
def normM : Stp → Stp
  | .cut n => .cut n
  | .drop ns r => .drop (ssetS ns) r
  | .unw ns r => .unw (ssetS ns) r
def lotLen : Stp → Nat
  | .cut _ => 0
  | .drop ns _ => ns.length
  | .unw ns _ => ns.length
def hostM (mat : List Stp) : Fm := formStepsM (mat.map normM)
theorem eqBl (a b : Bool) : Eqable (.bl a) (.bl b) := eqbl rfl rfl (by rw [dp_bl]; decide) (by rw [dp_bl]; decide)
section
variable {T : CA} {X : Cx} {ρ : List Sl} {a b : Expr} {ds : List D} {i : Int} {pos p : Pos}
/-- [..] * n -/
theorem en_rep (ha : EvE T X a ρ (.lst ds)) (hb : EvE T X b ρ (.int i)) (h0 : 0 ≤ i) (h1 : i ≤ 1000) (hl : ds.length ≤ 100) : EvN T X (.BinOp a .Mult b pos) ρ (List.replicate i.toNat ds).flatten := fun _ _ _ _ hρ Q q =>
  we (pe_op op_rep pe_we pe_we) (ha _ _ _ _ hρ _ fun _ _ _ g1 r1 => hb _ _ _ _ (hρ.gr g1) _ fun _ B2 H2 g2 r2 => by
    have r1' := r1.mono g2.b
    cases r2
    cases r1' with
    | @lst l vs _ h1' q1 =>
      refine ⟨_, _, _, rfl, rfl, g2.s _ _ h1', by omega, by omega, ?_, fun p hp => ?_⟩
      · have e := q1.length
        have : vs.length * i.toNat ≤ 100 * 1000 := Nat.mul_le_mul (by omega) (by omega)
        rw [sizeLine_eq]
        omega
      · have g := g1.trans g2
        have rr : ∀ n : Nat, Reps X.K T B2 (List.replicate n ds).flatten (List.replicate n vs).flatten := by
          intro n
          induction n with
          | zero => exact .nil
          | succ n ih =>
            rw [List.replicate_succ, List.replicate_succ, List.flatten_cons, List.flatten_cons]
            exact q1.append ih
        exact q _ _ _ _ (g.trans (.own g2.s hp)) (g.h.none hp) (g2.s.none hp) upd_same (rr _))
theorem ei_zipT {xs ys : List D} {elts : List Expr} {kk : Nat} {tpos : Pos} (hm : X.mg "zip" = none) (ha : EvE T X a ρ (.tup xs)) (hb : EvE T X b ρ (.tup ys)) (hg : Gl X "zip" := by rfl)
    (hs : starEach [a, b] X.env = (false, eval a X.env) :: starEach [b] X.env := by rfl) (hs2 : starEach [b] X.env = (false, eval b X.env) :: starEach [] X.env := by rfl) (hpi : ∀ ta, X.mg "zip" = none → PA X [a, b] ta → PI X (.Tuple elts kk tpos) (.Call (.Name "zip" p) [a, b] [] pos) (RZ.iZipA X.K ta) := by exact fun ta hm h => RZ.pi_zipA rfl hm h) :
    EvI T X (.Tuple elts kk tpos) (.Call (.Name "zip" p) [a, b] [] pos) ρ (zipD xs ys) := fun _ _ _ _ hρ R q =>
  wi (hpi _ hm pa_wa) (ea_cons ha (ea_cons hb ea_nil hs2) hs _ _ _ _ hρ _ fun _ B1 H1 g r => by
    cases r with
    | cons r1 r2 =>
      cases r2 with
      | cons r2 r3 =>
        cases r3
        cases r1 with
        | tup h1 q1 =>
          cases r2 with
          | tup h2 q2 =>
            refine ⟨_, _, _, _, rfl, .inr ⟨exT g.s h1, exT g.s h2, q _ _ _ g fun B2 H2 e s => ⟨fun k d hd => ?_, ?_⟩⟩⟩
            · obtain ⟨x, y, hx, hy, rfl⟩ := zipD_get hd
              obtain ⟨v, hv, rv⟩ := q1.getD hx
              obtain ⟨w, hw, rw'⟩ := q2.getD hy
              refine ⟨⟨_, _, v, w, exT s (exT e h1), exT s (exT e h2), hv, hw⟩, fun z H' y => ?_⟩
              obtain ⟨t, v', w', rfl, hn, rfl, e1, e2⟩ := y
              have e1' := e1 _ (exT s (exT e h1))
              have e2' := e2 _ (exT s (exT e h2))
              rw [hv] at e1'
              rw [hw] at e2'
              cases e1'
              cases e2'
              exact ⟨_, .new s hn, .tup (.of upd_same) (.cons ((rv.mono e).mono (.new (s.none hn))) (.one ((rw'.mono e).mono (.new (s.none hn)))))⟩
            · refine ⟨_, _, exT s (exT e h1), exT s (exT e h2), ?_⟩
              rw [zipD_len, ← q1.length, ← q2.length]
              omega)
end
theorem fate_split (t : List Str → Bool → Bool) (ss : List Stp) (k : Nat) : fateT t ss = (ss.drop k).foldl (fstep t) (fateT t (ss.take k)) := by
  unfold fateT
  rw [← List.foldl_append, List.take_append_drop]
theorem fate_next {t : List Str → Bool → Bool} {ss : List Stp} {k : Nat} {s : Stp} (h : ss[k]? = some s) : fateT t (ss.take (k + 1)) = fstep t (fateT t (ss.take k)) s := by
  rw [take_next h, fate_snoc]
theorem fate_end {t : List Str → Bool → Bool} {ss : List Stp} {k : Nat} {s : Stp} {x : Rm} (h : ss[k]? = some s) (hd : fstep t (fateT t (ss.take k)) s = (false, x)) : fateT t ss = (false, x) := by
  rw [fate_split t ss (k + 1), fate_next h, hd, fate_dead]
def rowM (mat : List Stp) (tags : List Str) : List (Bool × Rm) := if (tags.all fun n => !(fateM mat n).1) = true then tags.map fun _ => (false, some 0) else tags.map (fateM mat)
section
variable {c : Cn}
theorem g_host (h : Hd c) : Good c "_law_host" 9 ["_law_mat"] (SpP c.K (ca c.K) (fun y : List Stp => [.lst (y.map encL)]) (fun y => StepsOk (y.map normM) ∧ ∀ s ∈ y, s.ok ∧ lotLen s < 64) (fun y => encPip (hostM y))) := by
  refine good_def (N := ["_law_mat", "_law_found", "_law_kind_so", "_law_what_so", "_law_fine"]) h.d__law_host ⟨rfl, rfl, rfl, by decide +kernel, rfl, by decide +kernel, by decide +kernel⟩ (fun _ _ _ _ _ _ us hl => match us, hl with | [_], _ => rfl) (fun _ => rfl) (by decide) ?_
  rintro f cdv A outer s H E hr mat ⟨hy, hk⟩
  have hy : StepsOk (mat.map normM) := hy
  have hl : mat.length ≤ 1000 := by
    have := hy.len
    rwa [List.length_map] at this
  have nd : (["_law_mat", "_law_found", "_law_kind_so", "_law_what_so", "_law_fine"] : List Str).Nodup := by decide +kernel
  refine wb_cons (w_setN 1 nd rfl (.inl rfl) (en_lst ea_nil) ?_)
  refine wb_cons (w_for (fun _ _ h => h.elim) rfl (ei_lst (ev_var 0 rfl (.inl rfl) rfl)) (fun k ρ1 => ∃ s1 s2 s3 : Sl, ρ1 = [.va (.lst (mat.map encL)), .ow ((mat.take k).map fun s => (normM s).enc), s1, s2, s3]) ⟨.un, .un, .un, rfl⟩ ?_ ?_)
  · rintro k d ρ1 hd ⟨s1, s2, s3, rfl⟩
    obtain ⟨s, hs, rfl⟩ := map_at hd
    have hm : s ∈ mat := List.mem_of_getElem? hs
    obtain ⟨ho, hlen⟩ := hk s hm
    have hkl : k < mat.length := (List.getElem?_eq_some_iff.mp hs).1
    have nx : (mat.take (k + 1)).map (fun s => (normM s).enc) = (mat.take k).map (fun s => (normM s).enc) ++ [(normM s).enc] := by
      rw [take_next hs, List.map_append]
      rfl
    have zl : ((mat.take k).map fun s => (normM s).enc).length < 100000 := by
      rw [List.length_map, List.length_take]
      omega
    rw [nx]
    cases s with
    | cut n =>
      refine ⟨_, _, (eg_tup rfl (egs_cons (eg_name 2 nd rfl (.inl rfl)) (egs_cons (eg_name 3 nd rfl (.inl rfl)) egs_nil))), wb_cons (w_set 4 nd rfl (.inl rfl) (d := .bl true) (EvE.to (ev_in (v := .str "cut") (vs := [.str "cut", .str "rename"]) (ev_var 2 rfl (.inl rfl) rfl) (ev_tup (ea_cons ev_str (ea_cons ev_str ea_nil))) rfl (.inr rfl) rfl) (congrArg D.bl (show inV (.str "cut") [.str "cut", .str "rename"] = true by decide +kernel))) (wb_cons (w_append 1 rfl (.inl rfl) rfl (ev_make (i_step h) h.g_Step (fun _ => .nil) (Stp.cut n) rfl (hr.mono (by decide)) (ea_cons (ev_var 2 rfl (.inl rfl) rfl) (ea_cons (ev_ifT (et_val (ev_var 4 rfl (.inl rfl) rfl)) (ev_var 3 rfl (.inl rfl) rfl)) ea_nil)) rfl ho) zl (wb_nil ⟨_, _, _, rfl⟩))))⟩
    | drop ns r =>
      refine ⟨_, _, (eg_tup rfl (egs_cons (eg_name 2 nd rfl (.inl rfl)) (egs_cons (eg_name 3 nd rfl (.inl rfl)) egs_nil))), wb_cons (w_set 4 nd rfl (.inl rfl) (d := .bl false) (EvE.to (ev_in (v := .str "drop") (vs := [.str "cut", .str "rename"]) (ev_var 2 rfl (.inl rfl) rfl) (ev_tup (ea_cons ev_str (ea_cons ev_str ea_nil))) rfl (.inr rfl) rfl) (congrArg D.bl (show inV (.str "drop") [.str "cut", .str "rename"] = false by decide +kernel))) (wb_cons (w_append 1 rfl (.inl rfl) rfl (ev_make (i_step h) h.g_Step (fun _ => .nil) (Stp.drop (ssetS ns) r) rfl (hr.mono (by decide)) (ea_cons (ev_var 2 rfl (.inl rfl) rfl) (ea_cons (ev_ifF (et_val (ev_var 4 rfl (.inl rfl) rfl)) (ev_make (i_labels2 h) h.g_Labels (fun _ => .nil) (false, ns, r) rfl (hr.mono (by decide)) (ea_cons (ev_ixT (ev_var 3 rfl (.inl rfl) rfl) ev_int rfl) (ea_cons (ev_ixT (ev_var 3 rfl (.inl rfl) rfl) ev_int rfl) ea_nil)) rfl hlen)) ea_nil)) rfl True.intro) zl (wb_nil ⟨_, _, _, rfl⟩))))⟩
    | unw ns r =>
      refine ⟨_, _, (eg_tup rfl (egs_cons (eg_name 2 nd rfl (.inl rfl)) (egs_cons (eg_name 3 nd rfl (.inl rfl)) egs_nil))), wb_cons (w_set 4 nd rfl (.inl rfl) (d := .bl false) (EvE.to (ev_in (v := .str "unwrap") (vs := [.str "cut", .str "rename"]) (ev_var 2 rfl (.inl rfl) rfl) (ev_tup (ea_cons ev_str (ea_cons ev_str ea_nil))) rfl (.inr rfl) rfl) (congrArg D.bl (show inV (.str "unwrap") [.str "cut", .str "rename"] = false by decide +kernel))) (wb_cons (w_append 1 rfl (.inl rfl) rfl (ev_make (i_step h) h.g_Step (fun _ => .nil) (Stp.unw (ssetS ns) r) rfl (hr.mono (by decide)) (ea_cons (ev_var 2 rfl (.inl rfl) rfl) (ea_cons (ev_ifF (et_val (ev_var 4 rfl (.inl rfl) rfl)) (ev_make (i_labels2 h) h.g_Labels (fun _ => .nil) (false, ns, r) rfl (hr.mono (by decide)) (ea_cons (ev_ixT (ev_var 3 rfl (.inl rfl) rfl) ev_int rfl) (ea_cons (ev_ixT (ev_var 3 rfl (.inl rfl) rfl) ev_int rfl) ea_nil)) rfl hlen)) ea_nil)) rfl True.intro) zl (wb_nil ⟨_, _, _, rfl⟩))))⟩
  · rintro ρ1 ⟨s1, s2, s3, rfl⟩
    rw [List.length_map, List.take_length]
    refine wb_frz 1 rfl (wb_ret (ev_make (i_pip1 h) h.g_Pipeline (fun _ => .nil) (true, mat.map normM) rfl (hr.mono (by decide)) (ea_cons (ev_var 1 rfl (.inl rfl) rfl) ea_nil) ?_ hy) rfl)
    show [D.lst ((mat.map normM).map Stp.enc)] = [D.lst (mat.map fun s => (normM s).enc)] ++ []
    rw [List.map_map]
    rfl
theorem g_has_ (h : Hd c) : Good c "_law_has" 1 ["_law_lot_so", "_law_tag"] (SpP c.K (ca c.K) (fun y : List Str × Bool × Str => [.tup [encNt y.1, .bl y.2.1], .str y.2.2]) (fun _ => True) (fun y => .bl (inLot y.1 y.2.1 y.2.2))) := by
  refine good_def (N := ["_law_lot_so", "_law_tag"]) h.d__law_has ⟨rfl, rfl, rfl, by decide +kernel, rfl, by decide +kernel, by decide +kernel⟩ (fun _ _ _ _ _ _ us hl => match us, hl with | [_, _], _ => rfl) (fun _ => rfl) (by decide) ?_
  rintro f cdv A outer s H E hr ⟨ns, r, n⟩ -
  refine wb_ret (ev_ne hr.units (EvE.to (ev_in (v := .str n) (vs := ns.map V.str) (ev_var 1 rfl (.inl rfl) rfl) (ev_ixT (ev_var 0 rfl (.inl rfl) rfl) ev_int rfl) rfl (.inr rfl) (fvs_strs _)) (by rw [inV_strs])) (ev_ixT (ev_var 0 rfl (.inl rfl) rfl) ev_int rfl) (eqBl _ _)) ?_
  show D.bl _ = D.bl (inLot ns r n)
  rw [bl_py]
  unfold inLot
  congr 1
theorem g_at_most (h : Hd c) : Good c "_law_at_most" 1 ["_law_one", "_law_two"] (SpP c.K (ca c.K) (fun y : Rm × Rm => [encO y.1, encO y.2]) (fun _ => True) (fun y => .bl (mostM y.1 y.2))) := by
  refine good_def (N := ["_law_one", "_law_two"]) h.d__law_at_most ⟨rfl, rfl, rfl, by decide +kernel, rfl, by decide +kernel, by decide +kernel⟩ (fun _ _ _ _ _ _ us hl => match us, hl with | [_, _], _ => rfl) (fun _ => rfl) (by decide) ?_
  rintro f cdv A outer s H E hr ⟨a, b⟩ -
  cases b with
  | none => exact wb_ret (ev_or (ev_isN (ev_var 1 rfl (.inl rfl) rfl)) (fun h => nomatch h) (z2 := false)) (by cases a <;> rfl)
  | some b =>
    cases a with
    | none => exact wb_ret (ev_or (ev_isN (ev_var 1 rfl (.inl rfl) rfl)) fun _ => ev_one (ev_and (ev_notN (ev_var 0 rfl (.inl rfl) rfl)) (fun h => nomatch h) (z2 := false))) rfl
    | some a => exact wb_ret (ev_or (ev_isN (ev_var 1 rfl (.inl rfl) rfl)) fun _ => ev_one (ev_and (ev_notN (ev_var 0 rfl (.inl rfl) rfl)) fun _ => ev_one (ev_le (ev_var 0 rfl (.inl rfl) rfl) (ev_var 1 rfl (.inl rfl) rfl)))) rfl
theorem g_fate (h : Hd c) : Good c "_law_fate" 2 ["_law_mat", "_law_tag"] (SpP c.K (ca c.K) (fun y : List Stp × Str => [.lst (y.1.map encL), .str y.2]) (fun _ => True) (fun y => encT (fateE y.2 (fateM y.1 y.2)))) := by
  refine good_def (N := ["_law_mat", "_law_tag", "_law_called_so", "_law_least_so", "_law_kind_so", "_law_what_so", "_law_room_so"]) h.d__law_fate ⟨rfl, rfl, rfl, by decide +kernel, rfl, by decide +kernel, by decide +kernel⟩ (fun _ _ _ _ _ _ us hl => match us, hl with | [_, _], _ => rfl) (fun _ => rfl) (by decide) ?_
  rintro f cdv A outer s H E hr ⟨mat, tag⟩ -
  have nd : (["_law_mat", "_law_tag", "_law_called_so", "_law_least_so", "_law_kind_so", "_law_what_so", "_law_room_so"] : List Str).Nodup := by decide +kernel
  refine wb_cons (w_par 2 3 rfl nd rfl rfl (by decide) rfl rfl (ea_cons (ev_var 1 rfl (.inl rfl) rfl) (ea_cons ev_non ea_nil)) ?_)
  refine wb_cons (w_for (fun _ _ h => h.elim) rfl (ei_lst (ev_var 0 rfl (.inl rfl) rfl)) (fun k ρ1 => ∃ (r : Rm) (s1 s2 s3 : Sl), ρ1 = [.va (.lst (mat.map encL)), .va (.str tag), .va (.str tag), .va (encO (r.map (· + 1))), s1, s2, s3] ∧ fateT (fun ns r => inLot ns r tag) (mat.take k) = (true, r)) ⟨none, .un, .un, .un, rfl, rfl⟩ ?_ ?_)
  · rintro k d ρ1 hd ⟨r, s1, s2, s3, rfl, hf⟩
    obtain ⟨s, hs, rfl⟩ := map_at hd
    have nx := fate_next (t := fun ns r => inLot ns r tag) hs
    rw [hf] at nx
    have en : ∀ {x : Rm}, fstep (fun ns r => inLot ns r tag) (true, r) s = (false, x) → fateM mat tag = (false, x) := fun e => fate_end hs (by rw [hf]; exact e)
    have ew : (encO (r.map (· + 1))).isNon = r.isNone := by
      cases r <;> rfl
    cases s with
    | cut n =>
      refine ⟨_, _, (eg_tup rfl (egs_cons (eg_name 4 nd rfl (.inl rfl)) (egs_cons (eg_name 5 nd rfl (.inl rfl)) egs_nil))), wb_cons (w_if (EvT.to (et_eq hr.units (ev_var 4 rfl (.inl rfl) rfl) ev_str (eqStr _ _)) ((str_py _ _).trans (show decide (("cut" : Str) = "cut") = true by decide +kernel))) (fun _ => wb_cons (w_set 3 nd rfl (.inl rfl) (d := encO ((lesserM r (some (n - 1))).map (· + 1))) ?val (wb_nil (wb_nil ⟨lesserM r (some (n - 1)), _, _, _, rfl, nx⟩)))) fun h1 => nomatch h1)⟩
      cases r with
      | none => exact EvE.to (ev_ifT (EvT.to (et_isN (ev_var 3 rfl (.inl rfl) rfl)) rfl) (ev_var 5 rfl (.inl rfl) rfl)) (show D.int n = D.int (n - 1 + 1) by congr 1; omega)
      | some x =>
        refine ev_ifF (EvT.to (et_isN (ev_var 3 rfl (.inl rfl) rfl)) rfl) (EvE.to (ev_min2 rfl h.f_min (i := x + 1) (j := n) (ev_var 3 rfl (.inl rfl) rfl) (ev_var 5 rfl (.inl rfl) rfl)) ?_)
        show D.int (min (x + 1) n) = D.int (min x (n - 1) + 1)
        congr 1
        omega
    | drop ns rr =>
      refine ⟨_, _, (eg_tup rfl (egs_cons (eg_name 4 nd rfl (.inl rfl)) (egs_cons (eg_name 5 nd rfl (.inl rfl)) egs_nil))), wb_cons (w_if (EvT.to (et_eq hr.units (ev_var 4 rfl (.inl rfl) rfl) ev_str (eqStr _ _)) ((str_py _ _).trans (show decide (("drop" : Str) = "cut") = false by decide +kernel))) (fun h1 => nomatch h1) fun _ => wb_cons (w_if (EvT.to (et_eq hr.units (ev_var 4 rfl (.inl rfl) rfl) ev_str (eqStr _ _)) ((str_py _ _).trans (show decide (("drop" : Str) = "rename") = false by decide +kernel))) (fun h1 => nomatch h1) fun _ => wb_cons (w_if (et_val (ev_call (g_has_ h) (ns, rr, tag) rfl (hr.mono (by decide)) (ea_cons (ev_var 5 rfl (.inl rfl) rfl) (ea_cons (ev_var 2 rfl (.inl rfl) rfl) ea_nil)) trivial)) (fun h1 => ?yes) fun h1 => wb_nil (wb_nil (wb_nil (wb_nil ⟨r, _, _, _, rfl, ?no⟩))))))⟩
      case no =>
        rw [nx]
        show (if (true && inLot ns rr tag) = true then _ else _) = _
        rw [show inLot ns rr tag = false from h1]
        rfl
      case yes =>
        have h1 : inLot ns rr tag = true := h1
        have ee := en (x := some 0) (by
          show (if (true && inLot ns rr tag) = true then _ else _) = _
          rw [h1]
          rfl)
        refine wb_cons (w_set 6 nd rfl (.inl rfl) (d := encO r) ?val2 (wb_ret (ev_tup (ea_cons ev_non (ea_cons (ev_ifT (EvT.to (et_eq hr.units (ev_var 4 rfl (.inl rfl) rfl) ev_str (eqStr _ _)) ((str_py _ _).trans (show decide (("drop" : Str) = "drop") = true by decide +kernel))) ev_int) ea_nil))) ?ret))
        case val2 =>
          cases r with
          | none => exact ev_ifT (EvT.to (et_isN (ev_var 3 rfl (.inl rfl) rfl)) rfl) ev_non
          | some x => exact ev_ifF (EvT.to (et_isN (ev_var 3 rfl (.inl rfl) rfl)) rfl) (EvE.to (ev_sub (i := x + 1) (j := 1) (ev_var 3 rfl (.inl rfl) rfl) ev_int) (show D.int (x + 1 - 1) = D.int x by congr 1; omega))
        case ret =>
          show _ = encT (fateE tag (fateM mat tag))
          rw [ee]
          rfl
    | unw ns rr =>
      refine ⟨_, _, (eg_tup rfl (egs_cons (eg_name 4 nd rfl (.inl rfl)) (egs_cons (eg_name 5 nd rfl (.inl rfl)) egs_nil))), wb_cons (w_if (EvT.to (et_eq hr.units (ev_var 4 rfl (.inl rfl) rfl) ev_str (eqStr _ _)) ((str_py _ _).trans (show decide (("unwrap" : Str) = "cut") = false by decide +kernel))) (fun h1 => nomatch h1) fun _ => wb_cons (w_if (EvT.to (et_eq hr.units (ev_var 4 rfl (.inl rfl) rfl) ev_str (eqStr _ _)) ((str_py _ _).trans (show decide (("unwrap" : Str) = "rename") = false by decide +kernel))) (fun h1 => nomatch h1) fun _ => wb_cons (w_if (et_val (ev_call (g_has_ h) (ns, rr, tag) rfl (hr.mono (by decide)) (ea_cons (ev_var 5 rfl (.inl rfl) rfl) (ea_cons (ev_var 2 rfl (.inl rfl) rfl) ea_nil)) trivial)) (fun h1 => ?yes) fun h1 => wb_nil (wb_nil (wb_nil (wb_nil ⟨r, _, _, _, rfl, ?no⟩))))))⟩
      case no =>
        rw [nx]
        show (if (true && inLot ns rr tag) = true then _ else _) = _
        rw [show inLot ns rr tag = false from h1]
        rfl
      case yes =>
        have h1 : inLot ns rr tag = true := h1
        have ee := en (x := r) (by
          show (if (true && inLot ns rr tag) = true then _ else _) = _
          rw [h1]
          rfl)
        refine wb_cons (w_set 6 nd rfl (.inl rfl) (d := encO r) ?val2 (wb_ret (ev_tup (ea_cons ev_non (ea_cons (ev_ifF (EvT.to (et_eq hr.units (ev_var 4 rfl (.inl rfl) rfl) ev_str (eqStr _ _)) ((str_py _ _).trans (show decide (("unwrap" : Str) = "drop") = false by decide +kernel))) (ev_var 6 rfl (.inl rfl) rfl)) ea_nil))) ?ret))
        case val2 =>
          cases r with
          | none => exact ev_ifT (EvT.to (et_isN (ev_var 3 rfl (.inl rfl) rfl)) rfl) ev_non
          | some x => exact ev_ifF (EvT.to (et_isN (ev_var 3 rfl (.inl rfl) rfl)) rfl) (EvE.to (ev_sub (i := x + 1) (j := 1) (ev_var 3 rfl (.inl rfl) rfl) ev_int) (show D.int (x + 1 - 1) = D.int x by congr 1; omega))
        case ret =>
          show _ = encT (fateE tag (fateM mat tag))
          rw [ee]
          rfl
  · rintro ρ1 ⟨r, s1, s2, s3, rfl, hf⟩
    rw [List.length_map, List.take_length] at hf
    have e : encT (fateE tag (fateM mat tag)) = .tup [.str tag, encO r] := by
      unfold fateM
      rw [hf]
      rfl
    refine wb_ret (ev_tup (ea_cons (ev_var 2 rfl (.inl rfl) rfl) (ea_cons (d := encO r) ?_ ea_nil))) e.symm
    cases r with
    | none => exact ev_ifT (EvT.to (et_isN (ev_var 3 rfl (.inl rfl) rfl)) rfl) ev_non
    | some x => exact ev_ifF (EvT.to (et_isN (ev_var 3 rfl (.inl rfl) rfl)) rfl) (EvE.to (ev_sub (i := x + 1) (j := 1) (ev_var 3 rfl (.inl rfl) rfl) ev_int) (show D.int (x + 1 - 1) = D.int x by congr 1; omega))
end
end PL
/-! LW6: rows, keys -/
namespace PL
open PySem PySem.Spec PyProof.Rows L2
theorem lst_py (xs ys : List D) : PyData.eqv (D.lst xs).py (D.lst ys).py = PyData.eqvAll (D.pys xs) (D.pys ys) := rfl
theorem nil_py : ∀ xs : List D, PyData.eqvAll (D.pys xs) (D.pys []) = xs.isEmpty
  | [] => rfl
  | _ :: _ => rfl
theorem dp_lst (xs : List D) : (D.lst xs).py.depth = PyData.depthAll (D.pys xs) + 1 := by simp [D.py, PyData.depth]
theorem eqNil {α : Type} {enc : α → D} (h1 : ∀ a, (enc a).pl = true) (h2 : ∀ a, (enc a).py.depth ≤ 5) (xs : List α) : Eqable (.lst (xs.map enc)) (.lst []) := by
  refine eqbl (pls_map h1 xs) rfl ?_ ?_
  · rw [dp_lst]
    have := dps_map (n := 5) h2 xs
    omega
  · rw [dp_lst, dp_nil]
    decide
def liesM (xs ys : List (Bool × Rm)) : Bool := (xs.zip ys).all fun p => (!p.1.1 || p.2.1) && mostM p.1.2 p.2.2
theorem zip_encP : ∀ xs ys : List (Bool × Rm), zipD (xs.map encP) (ys.map encP) = (xs.zip ys).map encPP
  | [], _ => by simp [zipD]
  | _ :: _, [] => by simp [zipD]
  | x :: xs, y :: ys => by
    simp only [List.map_cons, List.zip_cons_cons, zipD, zip_encP xs ys]
    rfl
def enumL : Nat → List Str → List (Nat × Str)
  | _, [] => []
  | k, n :: ns => (k, n) :: enumL (k + 1) ns
theorem enum_map : ∀ (k : Nat) (ns : List Str), enumD k (ns.map D.str) = (enumL k ns).map fun p => D.tup [.int (p.1 : Int), .str p.2]
  | _, [] => rfl
  | k, n :: ns => by
    simp only [List.map_cons, enumD, enumL, enum_map (k + 1) ns]
theorem enum_at : ∀ {k : Nat} {ns : List Str} {p : Nat × Str}, p ∈ enumL k ns → k ≤ p.1 ∧ ns[p.1 - k]? = some p.2
  | k, n :: ns, p, h => by
    rcases List.mem_cons.mp h with e | h
    · subst e
      simp
    · obtain ⟨h1, h2⟩ := enum_at h
      refine ⟨by omega, ?_⟩
      have e : p.1 - k = (p.1 - (k + 1)) + 1 := by omega
      rw [e, List.getElem?_cons_succ]
      exact h2
theorem enum_len : ∀ (k : Nat) (ns : List Str), (enumL k ns).length = ns.length
  | _, [] => rfl
  | k, n :: ns => congrArg Nat.succ (enum_len (k + 1) ns)
theorem enum_keep (q : Str → Bool) : ∀ (k : Nat) (ns : List Str), keepF (fun p : Nat × Str => q p.2) (fun p => D.str p.2) (enumL k ns) = (ns.filter q).map D.str
  | _, [] => rfl
  | k, n :: ns => by
    have ih := enum_keep q (k + 1) ns
    unfold keepF at ih ⊢
    show List.map _ (List.filter _ ((k, n) :: enumL (k + 1) ns)) = _
    rw [List.filter_cons, List.filter_cons]
    show (if q n = true then _ else _ : List (Nat × Str)).map _ = _
    split
    · rw [List.map_cons, List.map_cons, ih]
    · exact ih
theorem rep_none : ∀ ts : List Str, (List.replicate ts.length [encP (false, some 0)]).flatten = ts.map (encP ∘ fun _ => (false, some 0))
  | [] => rfl
  | t :: ts => by
    rw [List.length_cons, List.replicate_succ, List.flatten_cons, rep_none ts]
    rfl
def encB (p : Bool × Int) : D := encP (p.1, some p.2)
section
variable {c : Cn}
theorem g_row (h : Hd c) : Good c "_law_row" 3 ["_law_mat", "_law_tags_here"] (SpP c.K (ca c.K) (fun y : List Stp × List Str => [.lst (y.1.map encL), encNs y.2]) (fun y => y.2.length ≤ 8) (fun y => .tup ((rowM y.1 y.2).map encP))) := by
  refine good_def (N := ["_law_mat", "_law_tags_here", "_law_found", "_law_own"]) h.d__law_row ⟨rfl, rfl, rfl, by decide +kernel, rfl, by decide +kernel, by decide +kernel⟩ (fun _ _ _ _ _ _ us hl => match us, hl with | [_, _], _ => rfl) (fun _ => rfl) (by decide) ?_
  rintro f cdv A outer s H E hr ⟨mat, tags⟩ hl
  have hl : tags.length ≤ 8 := hl
  have nd : (["_law_mat", "_law_tags_here", "_law_found", "_law_own"] : List Str).Nodup := by decide +kernel
  refine wb_cons (w_lcN (enc := (D.str)) (p := (fun _ => true)) (f := (fun n => encT (fateE n (fateM mat n)))) (xs := (tags)) 2 rfl nd [("_law_own", 3)] rfl rfl (blk_of rfl) (ei_lst (ev_var 1 rfl (.inl rfl) rfl)) ⟨fun x hx => ⟨_, _, by decide, fun _ _ _ _ _ => ⟨(eg_name 3 nd rfl (.inl rfl)), ets_nil, fun _ => (EvE.to (ev_call (g_fate h) ((mat, x)) rfl (hr.mono (by decide)) (ea_cons (ev_var 0 rfl (.inr (.inl rfl)) rfl) (ea_cons (ev_var 3 rfl (.inl rfl) rfl) ea_nil)) trivial) rfl)⟩⟩⟩ (by omega) (wb_frz 2 rfl ?_) rfl)
  rw [keep_all]
  have e2 : tags.map (fun n => encT (fateE n (fateM mat n))) = (tags.map fun n => fateE n (fateM mat n)).map encT := by
    rw [List.map_map]
    rfl
  rw [e2]
  have isn : ∀ n, (encS (fateE n (fateM mat n)).1).isNon = !(fateM mat n).1 := fun n => by
    unfold fateE
    cases (fateM mat n).1 <;> rfl
  have e3 : keepF (fun p : Option Str × Rm => p.1.isSome) encT (tags.map fun n => fateE n (fateM mat n)) = ((tags.map fun n => fateE n (fateM mat n)).filter fun p => p.1.isSome).map encT := rfl
  have e4 : ((tags.map fun n => fateE n (fateM mat n)).filter fun p : Option Str × Rm => p.1.isSome).isEmpty = tags.all fun n => !(fateM mat n).1 := by
    rw [List.filter_map, Bool.eq_iff_iff, List.isEmpty_iff, List.map_eq_nil_iff, List.filter_eq_nil_iff, List.all_eq_true]
    constructor
    · intro q n hn
      have := q n hn
      unfold fateE at this
      cases hf : (fateM mat n).1 with
      | false => rfl
      | true =>
        rw [show ((fun p : Option Str × Rm => p.1.isSome) ∘ fun n => (if (fateM mat n).1 = true then some n else none, (fateM mat n).2)) n = true from by simp [hf]] at this
        exact absurd rfl this
    · intro q n hn
      have := q n hn
      unfold fateE
      simp at this
      simp [this]
  refine wb_cons (w_if (z := tags.all fun n => !(fateM mat n).1) (EvT.to (et_eq hr.units (EvN.toE (EvN.to (en_lc (enc := (encT)) (p := (fun p => p.1.isSome)) (f := (encT)) (xs := (tags.map fun n => fateE n (fateM mat n))) rfl nd [("_law_own", 3)] (blk_of rfl) (ei_lst (ev_var 2 rfl (.inl rfl) rfl)) ⟨fun x hx => ⟨_, _, by decide, fun _ _ _ _ _ => ⟨(eg_name 3 nd rfl (.inl rfl)), (ets_one (EvT.to (et_notN (ev_ixT (ev_var 3 rfl (.inl rfl) rfl) ev_int rfl)) (by rw [encS_non]; cases x.1 <;> rfl))), fun _ => (EvE.to (ev_var 3 rfl (.inl rfl) rfl) rfl)⟩⟩⟩ (by rw [List.length_map]; omega)) e3)) (EvN.toE (en_lst ea_nil)) (eqNil encT_pl (fun a => Nat.le_trans (encT_dp a) (by decide)) _)) (by rw [lst_py, nil_py, List.isEmpty_map, e4])) (fun h1 => wb_ret (ev_tupleL h.f_tuple (EvN.toE (en_rep (i := (tags.length : Int)) (ds := [encP (false, some 0)]) (EvN.toE (en_lst (ea_cons (ev_tup (ea_cons ev_bl (ea_cons ev_int ea_nil))) ea_nil))) (EvE.to (ev_len h.f_len (ev_var 1 rfl (.inl rfl) rfl) (.inl rfl)) (by rw [List.length_map])) (by omega) (by omega) (by decide))) (.inl rfl)) ?r1) fun h1 => wb_nil (wb_ret (EvE.to (ev_tupleL h.f_tuple (EvN.toE (EvN.to (en_lc (enc := (encT)) (p := (fun _ => true)) (f := (fun p => encP (p.1.isSome, p.2))) (xs := (tags.map fun n => fateE n (fateM mat n))) rfl nd [("_law_own", 3)] (blk_of rfl) (ei_lst (ev_var 2 rfl (.inl rfl) rfl)) ⟨fun x hx => ⟨_, _, by decide, fun _ _ _ _ _ => ⟨(eg_name 3 nd rfl (.inl rfl)), ets_nil, fun _ => (EvE.to (ev_tup (ea_cons (ev_notN (ev_ixT (ev_var 3 rfl (.inl rfl) rfl) ev_int rfl)) (ea_cons (ev_ixT (ev_var 3 rfl (.inl rfl) rfl) ev_int rfl) ea_nil))) (by unfold encP; rw [encS_non]; cases x.1 <;> rfl))⟩⟩⟩ (by rw [List.length_map]; omega)) rfl)) (.inl rfl)) rfl) ?r2))
  case r1 =>
    show _ = D.tup ((rowM mat tags).map encP)
    unfold rowM
    rw [if_pos h1, List.map_map, Int.toNat_natCast]
    exact congrArg D.tup (rep_none tags)
  case r2 =>
    show _ = D.tup ((rowM mat tags).map encP)
    unfold rowM
    rw [if_neg (by rw [h1]; exact Bool.false_ne_true), keep_all, List.map_map, List.map_map]
    congr 1
    refine List.map_congr_left fun n _ => ?_
    show encP ((fateE n (fateM mat n)).1.isSome, (fateE n (fateM mat n)).2) = encP (fateM mat n)
    unfold fateE
    congr 1
    cases hf : (fateM mat n).1 <;> exact Prod.ext hf.symm rfl
theorem g_host_row (h : Hd c) : Good c "_law_host_row" 4 ["_law_host_here", "_law_tags_here"] (SpP c.K (ca c.K) (fun y : Fm × List Str => [encPip y.1, encNs y.2]) (fun y => entryM y.1 "strange" = (none, some 0) ∧ (∀ n ∈ y.2, (entryM y.1 n).1 = none ∨ (entryM y.1 n).1 = some n) ∧ y.2.length ≤ 8) (fun y => .tup (y.2.map fun n => encP (sideM y.1 n)))) := by
  refine good_def (N := ["_law_host_here", "_law_tags_here", "_law_own"]) h.d__law_host_row ⟨rfl, rfl, rfl, by decide +kernel, rfl, by decide +kernel, by decide +kernel⟩ (fun _ _ _ _ _ _ us hl => match us, hl with | [_, _], _ => rfl) (fun _ => rfl) (by decide) ?_
  rintro f cdv A outer s H E hr ⟨F, tags⟩ ⟨h1, h2, hl⟩
  have h1 : entryM F "strange" = (none, some 0) := h1
  have h2 : ∀ n ∈ tags, (entryM F n).1 = none ∨ (entryM F n).1 = some n := h2
  have hl : tags.length ≤ 8 := hl
  have nd : (["_law_host_here", "_law_tags_here", "_law_own"] : List Str).Nodup := by decide +kernel
  refine wb_cons (w_if (z := false) (EvT.to (EvW.t (ew_or (et_notN (ev_meth (g_pip_final h) h.c_Pipeline ((F, "strange")) rfl (hr.mono (by decide)) (ev_var 0 rfl (.inr (.inl rfl)) rfl) (.pip ..) (by decide +kernel) (ea_cons ev_str ea_nil) rfl trivial)) fun _ => ew_or1 (et_ne hr.units (ev_meth (g_pip_room h) h.c_Pipeline ((F, "strange")) rfl (hr.mono (by decide)) (ev_var 0 rfl (.inr (.inl rfl)) rfl) (.pip ..) (by decide +kernel) (ea_cons ev_str ea_nil) rfl trivial) ev_int (eqO (entryM F "strange").2 (some 0))))) (by show (!(encS (entryM F "strange").1).isNon || !PyData.eqv (encO (entryM F "strange").2).py (encO (some 0)).py) = false; rw [h1, encO_py]; rfl)) (fun z => nomatch z) fun _ => wb_nil ?_)
  have e1 : keepF (fun _ : Str => false) D.str tags = ([] : List Str).map D.str := by
    unfold keepF
    rw [List.filter_eq_nil_iff.mpr fun _ _ => Bool.false_ne_true]
  refine wb_cons (w_if (z := false) (EvT.to (et_ne hr.units (EvN.toE (EvN.to (en_lc (enc := D.str) (p := fun _ => false) (f := D.str) (xs := tags) rfl nd [("_law_own", 2)] (blk_of rfl) (ei_lst (ev_var 1 rfl (.inl rfl) rfl)) ⟨fun x hx => ?turn⟩ (by omega)) e1)) (EvN.toE (en_lst ea_nil)) (eqNil (fun _ => rfl) (fun a => by rw [dp_str]; decide) _)) (by rw [lst_py, nil_py]; rfl)) (fun z => nomatch z) fun _ => wb_nil ?_)
  case turn =>
    refine ⟨_, _, by decide, fun _ _ _ _ _ => ⟨eg_name 2 nd rfl (.inl rfl), ets_one ?tt, fun z => nomatch z⟩⟩
    rcases h2 x hx with q | q
    · exact EvT.to (et_notIn (v := .non) (vs := [.non, .str x]) (EvE.to (ev_meth (g_pip_final h) h.c_Pipeline (F, x) rfl (hr.mono (by decide)) (ev_var 0 rfl (.inr (.inl rfl)) rfl) (.pip ..) (by decide +kernel) (ea_cons (ev_var 2 rfl (.inl rfl) rfl) ea_nil) rfl trivial) (show encS (entryM F x).1 = .non by rw [q]; rfl)) (ev_tup (ea_cons ev_non (ea_cons (ev_var 2 rfl (.inl rfl) rfl) ea_nil))) rfl (.inr rfl) rfl) rfl
    · exact EvT.to (et_notIn (v := .str x) (vs := [.non, .str x]) (EvE.to (ev_meth (g_pip_final h) h.c_Pipeline (F, x) rfl (hr.mono (by decide)) (ev_var 0 rfl (.inr (.inl rfl)) rfl) (.pip ..) (by decide +kernel) (ea_cons (ev_var 2 rfl (.inl rfl) rfl) ea_nil) rfl trivial) (show encS (entryM F x).1 = .str x by rw [q]; rfl)) (ev_tup (ea_cons ev_non (ea_cons (ev_var 2 rfl (.inl rfl) rfl) ea_nil))) rfl (.inr rfl) rfl) (by simp [inV, eqV])
  refine wb_ret (ev_tupleL h.f_tuple (EvN.toE (en_lc (enc := (D.str)) (p := (fun _ => true)) (f := (fun n => encP (sideM F n))) (xs := (tags)) rfl nd [("_law_own", 2)] (blk_of rfl) (ei_lst (ev_var 1 rfl (.inl rfl) rfl)) ⟨fun x hx => ⟨_, _, by decide, fun _ _ _ _ _ => ⟨(eg_name 2 nd rfl (.inl rfl)), ets_nil, fun _ => (EvE.to (ev_tup (ea_cons (ev_notN (ev_meth (g_pip_final h) h.c_Pipeline ((F, x)) rfl (hr.mono (by decide)) (ev_var 0 rfl (.inr (.inl rfl)) rfl) (.pip ..) (by decide +kernel) (ea_cons (ev_var 2 rfl (.inl rfl) rfl) ea_nil) rfl trivial)) (ea_cons (ev_meth (g_pip_room h) h.c_Pipeline ((F, x)) rfl (hr.mono (by decide)) (ev_var 0 rfl (.inr (.inl rfl)) rfl) (.pip ..) (by decide +kernel) (ea_cons (ev_var 2 rfl (.inl rfl) rfl) ea_nil) rfl trivial) ea_nil))) (by unfold encP sideM; rw [encS_non]; cases (entryM F x).1 <;> rfl))⟩⟩⟩ (by omega))) (.inl rfl)) ?_
  rw [keep_all]
theorem g_lies_in (h : Hd c) : Good c "_law_lies_in" 2 ["_law_one", "_law_two"] (SpP c.K (ca c.K) (fun y : List (Bool × Rm) × List (Bool × Rm) => [.tup (y.1.map encP), .tup (y.2.map encP)]) (fun _ => True) (fun y => .bl (liesM y.1 y.2))) := by
  refine good_def (N := ["_law_one", "_law_two", "_law_own", "_law_its"]) h.d__law_lies_in ⟨rfl, rfl, rfl, by decide +kernel, rfl, by decide +kernel, by decide +kernel⟩ (fun _ _ _ _ _ _ us hl => match us, hl with | [_, _], _ => rfl) (fun _ => rfl) (by decide) ?_
  rintro f cdv A outer s H E hr ⟨xs, ys⟩ -
  have nd : (["_law_one", "_law_two", "_law_own", "_law_its"] : List Str).Nodup := by decide +kernel
  refine wb_cons (w_for (ds := (xs.zip ys).map encPP) (fun _ _ h => h.elim) rfl (EvI.to (ei_zipT h.f_zip (ev_var 0 rfl (.inl rfl) rfl) (ev_var 1 rfl (.inl rfl) rfl)) (zip_encP xs ys)) (fun k ρ1 => ∃ s1 s2 : Sl, ρ1 = [.va (.tup (xs.map encP)), .va (.tup (ys.map encP)), s1, s2] ∧ ((xs.zip ys).take k).all (fun p => (!p.1.1 || p.2.1) && mostM p.1.2 p.2.2) = true) ⟨.un, .un, rfl, rfl⟩ ?_ ?_)
  · rintro k d ρ1 hd ⟨s1, s2, rfl, hk⟩
    obtain ⟨p, hp, rfl⟩ := map_at hd
    have nx : ((xs.zip ys).take (k + 1)).all (fun p => (!p.1.1 || p.2.1) && mostM p.1.2 p.2.2) = ((!p.1.1 || p.2.1) && mostM p.1.2 p.2.2) := by
      rw [take_next hp, List.all_append, hk]
      simp
    refine ⟨_, _, (eg_tup rfl (egs_cons (eg_name 2 nd rfl (.inl rfl)) (egs_cons (eg_name 3 nd rfl (.inl rfl)) egs_nil))), wb_cons (w_if (z := (p.1.1 && !p.2.1) || !mostM p.1.2 p.2.2) (EvW.t (ew_or (EvW.t (ew_and (et_val (ev_ixT (ev_var 2 rfl (.inl rfl) rfl) ev_int rfl)) fun _ => ew_and1 (et_not (et_val (ev_ixT (ev_var 3 rfl (.inl rfl) rfl) ev_int rfl))))) fun _ => ew_or1 (et_not (et_val (ev_call (g_at_most h) (p.1.2, p.2.2) rfl (hr.mono (by decide)) (ea_cons (ev_ixT (ev_var 2 rfl (.inl rfl) rfl) ev_int rfl) (ea_cons (ev_ixT (ev_var 3 rfl (.inl rfl) rfl) ev_int rfl) ea_nil)) trivial))))) (fun h1 => wb_ret ev_bl ?no) fun h1 => wb_nil (wb_nil ⟨_, _, rfl, ?yes⟩))⟩
    case no =>
      show D.bl false = D.bl (liesM xs ys)
      congr 1
      unfold liesM
      symm
      rw [List.all_eq_false]
      refine ⟨p, List.mem_of_getElem? hp, ?_⟩
      cases a : p.1.1 <;> cases b : p.2.1 <;> cases c : mostM p.1.2 p.2.2 <;> simp [a, b, c] at h1 ⊢
    case yes =>
      rw [nx]
      cases a : p.1.1 <;> cases b : p.2.1 <;> cases c : mostM p.1.2 p.2.2 <;> simp [a, b, c] at h1 ⊢
  · rintro ρ1 ⟨s1, s2, rfl, hk⟩
    rw [List.length_map, List.take_length] at hk
    refine wb_ret ev_bl ?_
    show D.bl true = D.bl (liesM xs ys)
    unfold liesM
    rw [hk]
theorem g_key (h : Hd c) : Good c "_law_key" 1 ["_law_row_so", "_law_tags_here"] (SpP c.K (ca c.K) (fun y : List Str × (Str → Bool × Int) => [.tup (y.1.map fun n => encB (y.2 n)), encNs y.1]) (fun y => y.1.length ≤ 8) (fun y => encK (keyM y.1 y.2))) := by
  refine good_def (N := ["_law_row_so", "_law_tags_here", "_law_here_so", "_law_k", "_law_own", "_law_far", "_law_rooms_so"]) h.d__law_key ⟨rfl, rfl, rfl, by decide +kernel, rfl, by decide +kernel, by decide +kernel⟩ (fun _ _ _ _ _ _ us hl => match us, hl with | [_, _], _ => rfl) (fun _ => rfl) (by decide) ?_
  rintro f cdv A outer s H E hr ⟨ns, S⟩ hl
  have hl : ns.length ≤ 8 := hl
  have nd : (["_law_row_so", "_law_tags_here", "_law_here_so", "_law_k", "_law_own", "_law_far", "_law_rooms_so"] : List Str).Nodup := by decide +kernel
  have e1 : D.tup (keepF (fun p : Nat × Str => (S p.2).1) (fun p => D.str p.2) (enumL 0 ns)) = encNt (ns.filter fun n => (S n).1) := congrArg D.tup (enum_keep (fun n => (S n).1) 0 ns)
  refine wb_cons (w_set 2 nd rfl (.inl rfl) (EvE.to (ev_tupleL h.f_tuple (EvN.toE (en_lc (enc := fun p : Nat × Str => D.tup [.int (p.1 : Int), .str p.2]) (p := fun p => (S p.2).1) (f := fun p => .str p.2) (xs := enumL 0 ns) rfl nd [("_law_k", 3), ("_law_own", 4)] (blk_of rfl) (EvI.to (ei_enum h.f_enumerate (ev_var 1 rfl (.inl rfl) rfl)) (enum_map 0 ns)) ⟨fun x hx => ?turn⟩ (by rw [enum_len]; omega))) (.inl rfl)) e1) ?_)
  case turn =>
    obtain ⟨_, hx2⟩ := enum_at hx
    have hx2 : ns[x.1]? = some x.2 := hx2
    have ha : atI (ns.map fun n => encB (S n)) (x.1 : Int) = some (encB (S x.2)) := by
      rw [atI_nat (by rw [List.length_map]; exact (List.getElem?_eq_some_iff.mp hx2).1), List.getElem?_map, hx2]
      rfl
    exact ⟨_, _, by decide, fun _ _ _ _ _ => ⟨(eg_tup rfl (egs_cons (eg_name 3 nd rfl (.inl rfl)) (egs_cons (eg_name 4 nd rfl (.inl rfl)) egs_nil))), ets_one (et_val (ev_ixT (ev_ixT (ev_var 0 rfl (.inr (.inl rfl)) rfl) (ev_var 3 rfl (.inl rfl) rfl) ha) ev_int rfl)), fun _ => ev_var 4 rfl (.inl rfl) rfl⟩⟩
  have e2 : keepF (fun n => (S n).1) (fun n => D.int (S n).2) ns = ((ns.filter fun n => (S n).1).map fun n => (S n).2).map D.int := by
    unfold keepF
    rw [List.map_map]
    rfl
  have e3 : keepF (fun n => !(S n).1) (fun n => D.int (S n).2) ns = ((ns.filter fun n => !(S n).1).map fun n => (S n).2).map D.int := by
    unfold keepF
    rw [List.map_map]
    rfl
  refine wb_cons (w_lcN (enc := fun n => encB (S n)) (p := fun n => (S n).1) (f := fun n => .int (S n).2) (xs := ns) 5 rfl nd [("_law_own", 4)] rfl rfl (blk_of rfl) (ei_tup (ev_var 0 rfl (.inr (.inl rfl)) rfl)) ⟨fun x hx => ⟨_, _, by decide, fun _ _ _ _ _ => ⟨eg_name 4 nd rfl (.inl rfl), ets_one (et_val (ev_ixT (ev_var 4 rfl (.inl rfl) rfl) ev_int rfl)), fun _ => ev_ifF (EvT.to (et_isN (ev_ixT (ev_var 4 rfl (.inl rfl) rfl) ev_int rfl)) rfl) (ev_ixT (ev_var 4 rfl (.inl rfl) rfl) ev_int rfl)⟩⟩⟩ (by omega) (wb_frz 5 rfl ?_) rfl)
  rw [e2]
  refine wb_cons (w_lcN (enc := fun n => encB (S n)) (p := fun n => !(S n).1) (f := fun n => .int (S n).2) (xs := ns) 6 rfl nd [("_law_own", 4)] rfl rfl (blk_of rfl) (ei_tup (ev_var 0 rfl (.inr (.inl rfl)) rfl)) ⟨fun x hx => ⟨_, _, by decide, fun _ _ _ _ _ => ⟨eg_name 4 nd rfl (.inl rfl), ets_one (et_not (et_val (ev_ixT (ev_var 4 rfl (.inl rfl) rfl) ev_int rfl))), fun _ => ev_ifF (EvT.to (et_isN (ev_ixT (ev_var 4 rfl (.inl rfl) rfl) ev_int rfl)) rfl) (ev_ixT (ev_var 4 rfl (.inl rfl) rfl) ev_int rfl)⟩⟩⟩ (by omega) (wb_frz 6 rfl ?_) rfl)
  rw [e3]
  refine wb_ret (d := encK (keyM ns S)) (ev_tup (ea_cons (ev_var 2 rfl (.inl rfl) rfl) (ea_cons (d := .int (keyM ns S).2.1) ?far (ea_cons (ev_tupleL h.f_tuple (ev_var 6 rfl (.inl rfl) rfl) (.inl rfl)) ea_nil)))) rfl
  show EvE _ _ _ _ (.int (((ns.filter fun n => (S n).1).map fun n => (S n).2).headD 0))
  generalize (ns.filter fun n => (S n).1).map (fun n => (S n).2) = fs
  cases fs with
  | nil => exact ev_ifF (EvT.to (et_ne hr.units (ev_var 5 rfl (.inl rfl) rfl) (EvN.toE (en_lst ea_nil)) (eqNil (fun _ => rfl) (fun a => by rw [dp_int]; decide) _)) (by rw [lst_py, nil_py]; rfl)) ev_int
  | cons v vs => exact ev_ifT (EvT.to (et_ne hr.units (ev_var 5 rfl (.inl rfl) rfl) (EvN.toE (en_lst ea_nil)) (eqNil (fun _ => rfl) (fun a => by rw [dp_int]; decide) _)) (by rw [lst_py, nil_py]; rfl)) (ev_ixL (ev_var 5 rfl (.inl rfl) rfl) ev_int atI_zero)
end
end PL
/-! LW7: same, box, cells -/
namespace PL
open PySem PySem.Spec PyProof.Rows L2
def D.flat1 : D → Bool
  | .int _ => true
  | .str _ => true
  | _ => false
theorem kit2 {K : PySem.W.Frag} {n t u : String} {a b : Bool} (h1 : kitB n t = some a) (h2 : kitB n u = some b) : PySem.W.kitAny K (.type n) [.type t, .type u] = some (a || b) := by
  cases a with
  | true => exact kitAny_cons (kit_ty h1) (fun z => nomatch z) (fun _ => rfl)
  | false => exact kitAny_cons (kit_ty h1) (fun _ => kitAny_cons (kit_ty h2) (fun z => by subst z; rfl) (fun z => by subst z; rfl)) (fun z => nomatch z)
section
variable {c : Cn}
theorem g_same1 (h : Hd c) : Good c "_law_same" 1 ["_law_got", "_law_goal"] (SpP c.K (ca c.K) (fun d : D => [d, d]) (fun d => d.flat1 = true) (fun _ => .bl true)) := by
  refine good_def (N := ["_law_got", "_law_goal", "_law_mine_so", "_law_own"]) h.d__law_same ⟨rfl, rfl, rfl, by decide +kernel, rfl, by decide +kernel, by decide +kernel⟩ (fun _ _ _ _ _ _ us hl => match us, hl with | [_, _], _ => rfl) (fun _ => rfl) (by decide) ?_
  rintro f cdv A outer s H E hr d hd
  cases d with
  | int i =>
    refine wb_cons (w_if (et_val (ev_isi2 (t := "list") (u := "tuple") h.f_isinstance h.f_list h.f_tuple (by decide +kernel) (by decide +kernel) (ev_var 1 rfl (.inl rfl) rfl) (n := "int") rfl (kit2 (a := false) (b := false) (by decide +kernel) (by decide +kernel)))) (fun z => nomatch z) fun _ => wb_nil ?_)
    refine wb_cons (w_if (EvT.to (et_isN (ev_var 1 rfl (.inl rfl) rfl)) rfl) (fun z => nomatch z) fun _ => wb_nil ?_)
    refine wb_cons (w_if (et_val (ev_isi2 (t := "bool") (u := "str") h.f_isinstance h.f_bool h.f_str (by decide +kernel) (by decide +kernel) (ev_var 1 rfl (.inl rfl) rfl) (n := "int") rfl (kit2 (a := false) (b := false) (by decide +kernel) (by decide +kernel)))) (fun z => nomatch z) fun _ => wb_nil ?_)
    refine wb_ret (ev_and (z := true) (z2 := true) (ev_isi (n := "int") (t := "int") (z := true) h.f_isinstance h.f_int (by decide +kernel) (ev_var 0 rfl (.inl rfl) rfl) rfl (by decide +kernel)) fun _ => ev_and (z := true) (z2 := true) (ev_not (ev_isi (n := "int") (t := "bool") (z := false) h.f_isinstance h.f_bool (by decide +kernel) (ev_var 0 rfl (.inl rfl) rfl) rfl (by decide +kernel))) fun _ => ev_one (EvE.to (ev_eq hr.units (ev_var 0 rfl (.inl rfl) rfl) (ev_var 1 rfl (.inl rfl) rfl) (eqInt _ _)) (by rw [int_py]; exact congrArg D.bl (decide_eq_true rfl)))) rfl
  | str x =>
    refine wb_cons (w_if (et_val (ev_isi2 (t := "list") (u := "tuple") h.f_isinstance h.f_list h.f_tuple (by decide +kernel) (by decide +kernel) (ev_var 1 rfl (.inl rfl) rfl) (n := "str") rfl (kit2 (a := false) (b := false) (by decide +kernel) (by decide +kernel)))) (fun z => nomatch z) fun _ => wb_nil ?_)
    refine wb_cons (w_if (EvT.to (et_isN (ev_var 1 rfl (.inl rfl) rfl)) rfl) (fun z => nomatch z) fun _ => wb_nil ?_)
    refine wb_cons (w_if (et_val (ev_isi2 (t := "bool") (u := "str") h.f_isinstance h.f_bool h.f_str (by decide +kernel) (by decide +kernel) (ev_var 1 rfl (.inl rfl) rfl) (n := "str") rfl (kit2 (a := false) (b := true) (by decide +kernel) (by decide +kernel)))) (fun _ => ?_) (fun z => nomatch z))
    refine wb_ret (ev_and (z := true) (z2 := true) (EvE.to (ev_eq hr.units (ev_var 0 rfl (.inl rfl) rfl) (ev_var 1 rfl (.inl rfl) rfl) (eqStr _ _)) (by rw [str_py]; exact congrArg D.bl (decide_eq_true rfl))) fun _ => ev_one (EvE.to (ev_eq hr.units (ev_isi (n := "str") (t := "bool") (z := false) h.f_isinstance h.f_bool (by decide +kernel) (ev_var 0 rfl (.inl rfl) rfl) rfl (by decide +kernel)) (ev_isi (n := "str") (t := "bool") (z := false) h.f_isinstance h.f_bool (by decide +kernel) (ev_var 1 rfl (.inl rfl) rfl) rfl (by decide +kernel)) (eqBl _ _)) (by rw [bl_py]; exact congrArg D.bl (decide_eq_true rfl)))) rfl
  | _ => cases hd
theorem zip_self : ∀ ds : List D, zipD ds ds = ds.map fun d => .tup [d, d]
  | [] => rfl
  | d :: ds => by rw [zipD, zip_self ds]; rfl
theorem g_same2 (h : Hd c) : Good c "_law_same" 2 ["_law_got", "_law_goal"] (SpP c.K (ca c.K) (fun ds : List D => [.lst ds, .lst ds]) (fun ds => ds.length ≤ 100 ∧ ∀ d ∈ ds, d.flat1 = true) (fun _ => .bl true)) := by
  refine good_def (N := ["_law_got", "_law_goal", "_law_mine_so", "_law_own"]) h.d__law_same ⟨rfl, rfl, rfl, by decide +kernel, rfl, by decide +kernel, by decide +kernel⟩ (fun _ _ _ _ _ _ us hl => match us, hl with | [_, _], _ => rfl) (fun _ => rfl) (by decide) ?_
  rintro f cdv A outer s H E hr ds ⟨hl, hd⟩
  have hl : ds.length ≤ 100 := hl
  have hd : ∀ d ∈ ds, d.flat1 = true := hd
  have nd : (["_law_got", "_law_goal", "_law_mine_so", "_law_own"] : List Str).Nodup := by decide +kernel
  refine wb_cons (w_if (et_val (ev_isi2 (t := "list") (u := "tuple") h.f_isinstance h.f_list h.f_tuple (by decide +kernel) (by decide +kernel) (ev_var 1 rfl (.inl rfl) rfl) (n := "list") rfl (kit2 (a := true) (b := false) (by decide +kernel) (by decide +kernel)))) (fun _ => ?_) (fun z => nomatch z))
  refine wb_cons (w_if (z := false) (EvT.to (EvW.t (ew_or (et_ne hr.units (ev_isi (n := "list") (t := "list") (z := true) h.f_isinstance h.f_list (by decide +kernel) (ev_var 0 rfl (.inl rfl) rfl) rfl (by decide +kernel)) (ev_isi (n := "list") (t := "list") (z := true) h.f_isinstance h.f_list (by decide +kernel) (ev_var 1 rfl (.inl rfl) rfl) rfl (by decide +kernel)) (eqBl _ _)) fun _ => ew_or1 (et_ne hr.units (ev_isi (n := "list") (t := "tuple") (z := false) h.f_isinstance h.f_tuple (by decide +kernel) (ev_var 0 rfl (.inl rfl) rfl) rfl (by decide +kernel)) (ev_isi (n := "list") (t := "tuple") (z := false) h.f_isinstance h.f_tuple (by decide +kernel) (ev_var 1 rfl (.inl rfl) rfl) rfl (by decide +kernel)) (eqBl _ _)))) (by rw [bl_py, bl_py]; rfl)) (fun z => nomatch z) fun _ => wb_nil ?_)
  refine wb_ret (ev_and (z := true) (z2 := true) (EvE.to (ev_eq hr.units (ev_len h.f_len (ev_var 0 rfl (.inl rfl) rfl) (.inl rfl)) (ev_len h.f_len (ev_var 1 rfl (.inl rfl) rfl) (.inl rfl)) (eqInt _ _)) (by rw [int_py]; exact congrArg D.bl (decide_eq_true rfl))) fun _ => ev_one (EvE.to (ev_all (bs := ds.map fun _ => true) rfl h.f_all (EvE.to (EvN.toE (en_lc (enc := fun d : D => D.tup [d, d]) (p := fun _ => true) (f := fun _ => .bl true) (xs := ds) rfl nd [("_law_mine_so", 2), ("_law_own", 3)] (blk_of rfl) (EvI.to (ei_zip h.f_zip (ev_var 0 rfl (.inl rfl) rfl) (ev_var 1 rfl (.inl rfl) rfl)) (zip_self ds)) ⟨fun x hx => ⟨_, _, by decide, fun _ _ _ _ _ => ⟨(eg_tup rfl (egs_cons (eg_name 2 nd rfl (.inl rfl)) (egs_cons (eg_name 3 nd rfl (.inl rfl)) egs_nil))), ets_nil, fun _ => ev_call (g_same1 h) x rfl (hr.mono (by decide)) (ea_cons (ev_var 2 rfl (.inl rfl) rfl) (ea_cons (ev_var 3 rfl (.inl rfl) rfl) ea_nil)) (hd x hx)⟩⟩⟩ (by omega))) (by rw [keep_all, List.map_map]; rfl))) (by rw [all_map]; congr 1; simp))) rfl
def boxM (x : Int) (k : Nat) : List D := [.int ((if x < 0 then -x else x) * (if decide (10 ^ (18 : Int).toNat ≤ (if x < 0 then -x else x)) = true then 1 else 0)), .int (x % 2305843009213693951 + 39373 * (k : Int) + 8621045), .int 0]
theorem g_box (h : Hd c) : Good c "_law_box" 1 ["_law_script", "_law_k"] (SpN c.K (ca c.K) (fun y : List Int × Nat => [.lst (y.1.map D.int), .int (y.2 : Int)]) (fun y => y.2 < y.1.length) (fun y => boxM (y.1.getD y.2 0) y.2)) := by
  refine good_defN (N := ["_law_script", "_law_k", "_law_cell"]) h.d__law_box ⟨rfl, rfl, rfl, by decide +kernel, rfl, by decide +kernel, by decide +kernel⟩ (fun _ _ _ _ _ _ us hl => match us, hl with | [_, _], _ => rfl) (fun _ => rfl) (by decide) ?_
  rintro f cdv A outer s H0 E hr ⟨xs, k⟩ hk Q B H σ hρ q
  have hk : k < xs.length := hk
  have nd : (["_law_script", "_law_k", "_law_cell"] : List Str).Nodup := by decide +kernel
  have hx : atI (xs.map D.int) (k : Int) = some (.int (xs.getD k 0)) := by
    rw [atI_nat (by rw [List.length_map]; exact hk), List.getElem?_map, List.getElem?_eq_getElem hk, List.getD_eq_getElem?_getD, List.getElem?_eq_getElem hk]
    rfl
  have cm : ∀ z : Bool, -(2 ^ 64) < (if z = true then (1 : Int) else 0) ∧ (if z = true then (1 : Int) else 0) < 2 ^ 64 := fun z => by cases z <;> decide
  refine wi_cons hρ (w_set 2 nd rfl (.inl rfl) (d := .int (xs.getD k 0)) (ev_ifT (EvT.to (et_lt (ev_var 1 rfl (.inl rfl) rfl) (ev_len h.f_len (ev_var 0 rfl (.inl rfl) rfl) (.inl rfl))) (by rw [List.length_map]; exact decide_eq_true (by omega))) (ev_ixL (ev_var 0 rfl (.inl rfl) rfl) (ev_var 1 rfl (.inl rfl) rfl) hx)) rfl) fun σ' B' H' ρ' hρ' e1 => ?_
  subst e1
  refine wi_retN (st := .Pass ⟨0, 0, 0, 0⟩) (ds := boxM (xs.getD k 0) k) hρ' (en_lst (ea_cons (ev_mul (ev_abs h.f_abs (ev_var 2 rfl (.inl rfl) rfl)) (ev_intB h.f_int (ev_ge (ev_abs h.f_abs (ev_var 2 rfl (.inl rfl) rfl)) (ev_powW ev_int ev_int (pw _ (by decide) (by decide))))) (.inr (cm _))) (ea_cons (ev_add (ev_add (ev_mod (ev_intI h.f_int (ev_var 2 rfl (.inl rfl) rfl)) ev_int (by decide)) (ev_mul ev_int (ev_var 1 rfl (.inl rfl) rfl) (.inl (by decide)))) ev_int) (ea_cons ev_int ea_nil)))) fun l us B2 H2 g hl hb h2 r => ?_
  have fr := hρ'.fr
  have g0 : Gr B H B' H' := ⟨fr.b, fun a o ha => fr.h a o ha fun z => z, fr.s, fr.f⟩
  exact q l us B2 H2 (g0.trans g) (g0.h.none hl) hb h2 r
end
def cutG {α : Type} (xs : List α) (lo hi : Option Int) : List α := (xs.drop (HT.sIx xs.length 0 lo)).take (HT.sIx xs.length xs.length hi - HT.sIx xs.length 0 lo)
theorem cut_map {α : Type} (f : α → D) (xs : List α) (lo hi : Option Int) : cutD (xs.map f) lo hi = (cutG xs lo hi).map f := by
  unfold cutD cutG
  rw [List.length_map, List.map_take, List.map_drop]
def enumI : Nat → List Int → List (Nat × Int)
  | _, [] => []
  | k, n :: ns => (k, n) :: enumI (k + 1) ns
theorem enumI_map : ∀ (k : Nat) (ns : List Int), enumD k (ns.map D.int) = (enumI k ns).map fun p => D.tup [.int (p.1 : Int), .int p.2]
  | _, [] => rfl
  | k, n :: ns => by
    simp only [List.map_cons, enumD, enumI, enumI_map (k + 1) ns]
theorem enumI_len : ∀ (k : Nat) (ns : List Int), (enumI k ns).length = ns.length
  | _, [] => rfl
  | k, n :: ns => congrArg Nat.succ (enumI_len (k + 1) ns)
theorem enumI_at : ∀ {k : Nat} {ns : List Int} {p : Nat × Int}, p ∈ enumI k ns → p.1 < k + ns.length
  | k, n :: ns, p, h => by
    rcases List.mem_cons.mp h with e | h
    · subst e
      simp
    · have := enumI_at h
      simp only [List.length_cons]
      omega
def cellStep (cs : List Int) (p : Nat × Int) : List Int := cs.set (p.1 % 3) (cs.getD (p.1 % 3) 0 + p.2 * ((p.1 : Int) + 2))
def cells0 (xs : List Int) : List Int := if cutG xs none (some 3) = [] then [0] else cutG xs none (some 3)
def cellsM (xs : List Int) : List Int := (enumI 0 (cutG xs (some 3) (some 63))).foldl cellStep (cells0 xs)
theorem cellStep_len (cs : List Int) : ∀ ps : List (Nat × Int), (ps.foldl cellStep cs).length = cs.length
  | [] => rfl
  | p :: ps => by
    have gen : ∀ (ps : List (Nat × Int)) (cs : List Int), (ps.foldl cellStep cs).length = cs.length := by
      intro ps
      induction ps with
      | nil => exact fun _ => rfl
      | cons p ps ih =>
        intro cs
        rw [List.foldl_cons, ih]
        unfold cellStep
        rw [List.length_set]
    exact gen _ _
theorem cells_len (xs : List Int) : 1 ≤ (cellsM xs).length ∧ (cellsM xs).length ≤ 3 := by
  unfold cellsM
  rw [cellStep_len]
  unfold cells0
  split
  · exact ⟨Nat.le_refl _, by decide⟩
  · rename_i h
    have h1 : 0 < (cutG xs none (some 3)).length := List.length_pos_iff.mpr h
    refine ⟨h1, ?_⟩
    unfold cutG
    rw [List.length_take]
    have : HT.sIx xs.length xs.length (some 3) - HT.sIx xs.length 0 none ≤ 3 := by
      simp only [HT.sIx]
      split <;> omega
    omega
theorem cells_full {xs : List Int} (h : cutG xs (some 3) (some 63) ≠ []) : (cells0 xs).length = 3 := by
  have h0 : 0 < (cutG xs (some 3) (some 63)).length := List.length_pos_iff.mpr h
  have hx : 3 < xs.length := by
    unfold cutG at h0
    rw [List.length_take, List.length_drop] at h0
    simp only [HT.sIx] at h0
    split at h0 <;> split at h0 <;> omega
  have h3 : (cutG xs none (some 3)).length = 3 := by
    unfold cutG
    rw [List.length_take, List.length_drop]
    simp only [HT.sIx]
    split <;> omega
  unfold cells0
  rw [if_neg, h3]
  intro e
  rw [e] at h3
  cases h3
/-- a slice of a list that stands in the law's own hand -/
theorem en_sliceF {T : CA} {X : Cx} {ρ : List Sl} {a : Expr} {pos p2 : Pos} {ns : List Int} {lo hi : Option Expr} {x y : Option Int} (ha : EvE T X a ρ (.fls ns)) (hl : EvO T X lo ρ x) (hh : EvO T X hi ρ y) : EvN T X (.Subscript a (.Slice lo hi none p2) pos) ρ ((cutG ns x y).map D.int) := fun _ _ _ _ hρ Q q =>
  we (pe_slice sl_list pe_we po_wo po_wo) (ha _ _ _ _ hρ _ fun _ _ _ g1 r1 => hl _ _ _ _ (hρ.gr g1) _ fun _ _ g2 => hh _ _ _ _ (hρ.gr (g1.trans g2)) _ fun _ _ g3 => by
    have g := (g1.trans g2).trans g3
    cases (r1.mono (g2.trans g3).b) with
    | fls h1 =>
      refine ⟨_, _, rfl, exL g3.s h1, fun p hp => q _ _ _ _ (g.trans (.own g3.s hp)) (g.h.none hp) (g3.s.none hp) upd_same ?_⟩
      rw [← cut_map]
      unfold cutD cutV
      rw [List.length_map, List.length_map]
      exact ((reps_ints ns).drop _).take _)
section
variable {c : Cn}
theorem g_cells (h : Hd c) : Good c "_law_cells" 1 ["_law_script", "_law_top"] (SpP c.K (ca c.K) (fun y : List Int => [.fls y, .int 3]) (fun y => y.length ≤ 63) (fun y => .lst ((cellsM y).map D.int))) := by
  refine good_def (N := ["_law_script", "_law_top", "_law_cells_so", "_law_k", "_law_cell", "_law_at_so"]) h.d__law_cells ⟨rfl, rfl, rfl, by decide +kernel, rfl, by decide +kernel, by decide +kernel⟩ (fun _ _ _ _ _ _ us hl => match us, hl with | [_, _], _ => rfl) (fun _ => rfl) (by decide) ?_
  rintro f cdv A outer s H E hr xs hl
  have hl : xs.length ≤ 63 := hl
  have nd : (["_law_script", "_law_top", "_law_cells_so", "_law_k", "_law_cell", "_law_at_so"] : List Str).Nodup := by decide +kernel
  have e0 : (if (cutG xs none (some 3)).map D.int = [] then [D.int 0] else (cutG xs none (some 3)).map D.int) = (cells0 xs).map D.int := by
    unfold cells0
    by_cases q : cutG xs none (some 3) = []
    · rw [if_pos q, q]
      rfl
    · rw [if_neg q, if_neg (by simpa using q)]
  refine wb_cons (w_setN 2 nd rfl (.inl rfl) (EvN.to (en_or (en_list h.f_list (EvN.toE (en_sliceF (ev_var 0 rfl (.inl rfl) rfl) eo_none (eo_some (ev_var 1 rfl (.inl rfl) rfl)))) (.inl rfl)) (en_lst (ea_cons ev_int ea_nil))) e0) ?_)
  refine wb_cons (w_for (ds := (enumI 0 (cutG xs (some 3) (some 63))).map fun p => D.tup [.int (p.1 : Int), .int p.2]) (fun _ _ h => h.elim) rfl (EvI.to (ei_enum h.f_enumerate (EvN.toE (en_sliceF (ev_var 0 rfl (.inl rfl) rfl) (eo_some (ev_var 1 rfl (.inl rfl) rfl)) (eo_some ev_int)))) (enumI_map 0 _)) (fun k ρ1 => ∃ s1 s2 s3 : Sl, ρ1 = [.va (.fls xs), .va (.int 3), .ow ((((enumI 0 (cutG xs (some 3) (some 63))).take k).foldl cellStep (cells0 xs)).map D.int), s1, s2, s3]) ⟨.un, .un, .un, rfl⟩ ?_ ?_)
  · rintro k d ρ1 hd ⟨s1, s2, s3, rfl⟩
    obtain ⟨p, hp, rfl⟩ := map_at hd
    have hm : p ∈ enumI 0 (cutG xs (some 3) (some 63)) := List.mem_of_getElem? hp
    have hne : cutG xs (some 3) (some 63) ≠ [] := fun e => by
      rw [e] at hm
      cases hm
    have hpl : p.1 < 100 := by
      have q := enumI_at hm
      have : (cutG xs (some 3) (some 63)).length ≤ xs.length := by
        unfold cutG
        rw [List.length_take, List.length_drop]
        omega
      omega
    have nx : ((enumI 0 (cutG xs (some 3) (some 63))).take (k + 1)).foldl cellStep (cells0 xs) = cellStep (((enumI 0 (cutG xs (some 3) (some 63))).take k).foldl cellStep (cells0 xs)) p := by
      rw [take_next hp, List.foldl_append]
      rfl
    have cl : (((enumI 0 (cutG xs (some 3) (some 63))).take k).foldl cellStep (cells0 xs)).length = 3 := by
      rw [cellStep_len, cells_full hne]
    rw [nx]
    generalize ((enumI 0 (cutG xs (some 3) (some 63))).take k).foldl cellStep (cells0 xs) = cs at cl ⊢
    have hk3 : p.1 % 3 < 3 := Nat.mod_lt _ (by decide)
    have ha : atI (cs.map D.int) (((p.1 % 3 : Nat)) : Int) = some (.int (cs.getD (p.1 % 3) 0)) := by
      rw [atI_nat (by rw [List.length_map]; omega), List.getElem?_map, List.getD_eq_getElem?_getD, List.getElem?_eq_getElem (by omega)]
      rfl
    refine ⟨_, _, (eg_tup rfl (egs_cons (eg_name 3 nd rfl (.inl rfl)) (egs_cons (eg_name 4 nd rfl (.inl rfl)) egs_nil))), wb_cons (w_set 5 nd rfl (.inl rfl) (d := .int ((p.1 % 3 : Nat) : Int)) (EvE.to (ev_mod (ev_intI h.f_int (ev_var 3 rfl (.inl rfl) rfl)) (ev_var 1 rfl (.inl rfl) rfl) (by decide)) (by congr 1)) (wb_cons (w_setIx 2 (k := p.1 % 3) rfl (.inl rfl) rfl (ev_add (ev_ixO 2 rfl (.inl rfl) rfl (ev_var 5 rfl (.inl rfl) rfl) ha) (ev_mul (ev_var 4 rfl (.inl rfl) rfl) (ev_add (ev_var 3 rfl (.inl rfl) rfl) ev_int) (.inr (by omega)))) (ev_var 5 rfl (.inl rfl) rfl) (by rw [List.length_map, cl]; exact hk3) (wb_nil ⟨.va (.int (p.1 : Int)), .va (.int p.2), .va (.int ((p.1 % 3 : Nat) : Int)), ?_⟩))))⟩
    unfold cellStep
    show [_, _, Sl.ow ((cs.map D.int).set _ (D.int _)), _, _, _] = _
    rw [List.map_set]
  · rintro ρ1 ⟨s1, s2, s3, rfl⟩
    rw [List.length_map, List.take_length]
    exact wb_frz 2 rfl (wb_ret (ev_var 2 rfl (.inl rfl) rfl) rfl)
end
end PL
/-! MB1: what the law's rows of steps give -/
namespace PL
open PySem PySem.Spec PyProof.Rows L2
def MX : Int := 200000000000000000000000000000000000000000
def lotNd : Stp → Prop
  | .cut _ => True
  | .drop ns _ => ns.Nodup
  | .unw ns _ => ns.Nodup
structure MatOk (tags : List Str) (mat : List Stp) : Prop where
  len : mat.length ≤ 20
  ok : ∀ s ∈ mat, s.ok
  lot : ∀ s ∈ mat, lotIn tags s ∧ lotNd s
  bd : ∀ n, ∃ r : Int, (fateM mat n).2 = some r ∧ 0 ≤ r ∧ r ≤ MX
def PB (st : Bool × Rm) : Prop := ∃ r : Int, st.2 = some r ∧ 0 ≤ r ∧ r ≤ MX
theorem pb_step {t : List Str → Bool → Bool} {st : Bool × Rm} {s : Stp} (h : PB st) (ho : s.ok) : PB (fstep t st s) := by
  obtain ⟨a, x⟩ := st
  obtain ⟨r, e, h0, h1⟩ := h
  have e : x = some r := e
  subst e
  cases s with
  | cut c =>
    have ho : 1 ≤ c := ho
    cases a with
    | false => exact ⟨r, rfl, h0, h1⟩
    | true => exact ⟨min r (c - 1), rfl, by omega, by omega⟩
  | drop ns rr =>
    show PB (if (a && t ns rr) = true then (false, some 0) else (a, some r))
    split
    · exact ⟨0, rfl, Int.le_refl _, by decide⟩
    · exact ⟨r, rfl, h0, h1⟩
  | unw ns rr =>
    show PB (if (a && t ns rr) = true then (false, some r) else (a, some r))
    split
    · exact ⟨r, rfl, h0, h1⟩
    · exact ⟨r, rfl, h0, h1⟩
theorem pb_fold (t : List Str → Bool → Bool) : ∀ (ss : List Stp) (st : Bool × Rm), PB st → (∀ s ∈ ss, s.ok) → PB (ss.foldl (fstep t) st)
  | [], st, h, _ => h
  | s :: ss, st, h, ho => pb_fold t ss _ (pb_step h (ho s List.mem_cons_self)) fun q hq => ho q (List.mem_cons_of_mem _ hq)
theorem wide_steps {tags : List Str} (hs : SrtN tags) {mat : List Stp} (h : Wide tags mat) : mat.length = 4 ∧ (∀ s ∈ mat, s.ok) ∧ (∀ s ∈ mat, lotIn tags s ∧ lotNd s) ∧ ∃ c rest, mat = .cut c :: rest ∧ 1 ≤ c ∧ c ≤ MX := by
  obtain ⟨top, low, less, ns, r, rfl, h1, h2, h3, h4, h5⟩ := h
  have n4 := hs.nodup.sublist h4
  have n5 := hs.nodup.sublist h5
  refine ⟨rfl, fun s hm => ?_, fun s hm => ?_, top, _, rfl, by omega, Int.le_trans h3 (by decide)⟩
  · simp only [List.mem_cons, List.not_mem_nil, or_false] at hm
    rcases hm with rfl | rfl | rfl | rfl
    · exact (show 1 ≤ top by omega)
    · exact True.intro
    · exact h1
    · exact True.intro
  · simp only [List.mem_cons, List.not_mem_nil, or_false] at hm
    rcases hm with rfl | rfl | rfl | rfl
    · exact ⟨True.intro, True.intro⟩
    · exact ⟨fun n hn => h4.subset hn, n4⟩
    · exact ⟨True.intro, True.intro⟩
    · exact ⟨fun n hn => h5.subset hn, n5⟩
theorem mat_cut {tags : List Str} {c : Int} {rest : List Stp} (hl : rest.length ≤ 19) (h1 : 1 ≤ c) (h2 : c ≤ MX) (ok : ∀ s ∈ Stp.cut c :: rest, s.ok) (lot : ∀ s ∈ Stp.cut c :: rest, lotIn tags s ∧ lotNd s) : MatOk tags (.cut c :: rest) := by
  refine ⟨by simp only [List.length_cons]; omega, ok, lot, fun n => ?_⟩
  exact pb_fold _ rest (true, some (c - 1)) ⟨c - 1, rfl, by omega, by omega⟩ fun s hs => ok s (List.mem_cons_of_mem _ hs)
theorem wide_ok {tags : List Str} (hs : SrtN tags) {mat : List Stp} (h : Wide tags mat) : MatOk tags mat := by
  obtain ⟨hl, ho, hlot, c, rest, rfl, h1, h2⟩ := wide_steps hs h
  exact mat_cut (by simp only [List.length_cons] at hl; omega) h1 h2 ho hlot
theorem wide2_ok {tags : List Str} (hs : SrtN tags) {far mat : List Stp} (h : Wide tags far) (g : Wide tags mat) : MatOk tags (far ++ mat) := by
  obtain ⟨hl, ho, hlot, c, rest, rfl, h1, h2⟩ := wide_steps hs h
  obtain ⟨gl, go, glot, _⟩ := wide_steps hs g
  refine mat_cut (rest := rest ++ mat) (by simp only [List.length_cons] at hl; rw [List.length_append]; omega) h1 h2 (fun s hm => ?_) (fun s hm => ?_)
  · rcases List.mem_append.mp (show s ∈ (Stp.cut c :: rest) ++ mat from hm) with hm | hm
    · exact ho s hm
    · exact go s hm
  · rcases List.mem_append.mp (show s ∈ (Stp.cut c :: rest) ++ mat from hm) with hm | hm
    · exact hlot s hm
    · exact glot s hm
theorem drop_ok (tags : List Str) : MatOk tags [.drop [] true] := by
  refine ⟨by decide, fun s hm => ?_, fun s hm => ?_, fun n => ⟨0, ?_, Int.le_refl _, by decide⟩⟩
  · rw [List.mem_singleton.mp hm]
    exact True.intro
  · rw [List.mem_singleton.mp hm]
    exact ⟨fun n hn => (nomatch hn), List.nodup_nil⟩
  · show (if (true && inLot [] true n) = true then ((false, some 0) : Bool × Rm) else (true, none)).2 = some 0
    have : inLot [] true n = true := by simp [inLot]
    rw [this]
    rfl
/-! ### the rooms of what goes -/
theorem most_lesser {a b x : Rm} (h : mostM a x = true) : mostM (lesserM a b) x = true := by
  cases x with
  | none => cases a <;> cases b <;> rfl
  | some x =>
    cases a with
    | none => cases h
    | some a =>
      have h : a ≤ x := of_decide_eq_true h
      cases b with
      | none => exact decide_eq_true h
      | some b => exact decide_eq_true (by omega)
theorem most_self (x : Rm) : mostM x x = true := by
  cases x with
  | none => rfl
  | some x => exact decide_eq_true (Int.le_refl x)
theorem fate_gone (t : List Str → Bool → Bool) : ∀ ss : List Stp, (fateT t ss).1 = false → (fateT t ss).2 = some 0 ∨ mostM (leastM ss) (fateT t ss).2 = true := by
  intro ss
  induction ss using snocI with
  | h0 => exact fun h => nomatch h
  | h1 ss s ih =>
    have hl := fate_left t ss
    rw [fate_snoc, least_snoc]
    generalize fateT t ss = st at ih hl ⊢
    obtain ⟨a, x⟩ := st
    cases a with
    | true =>
      have hl : x = leastM ss := hl rfl
      subst hl
      cases s with
      | cut c => exact fun h => nomatch h
      | drop ns r =>
        have e : fstep t (true, leastM ss) (.drop ns r) = if t ns r = true then (false, some 0) else (true, leastM ss) := rfl
        rw [e]
        cases t ns r with
        | true => exact fun _ => .inl rfl
        | false => exact fun h => nomatch h
      | unw ns r =>
        have e : fstep t (true, leastM ss) (.unw ns r) = if t ns r = true then (false, leastM ss) else (true, leastM ss) := rfl
        rw [e]
        cases t ns r with
        | true => exact fun _ => .inr (most_self _)
        | false => exact fun h => nomatch h
    | false =>
      intro _
      have e : fstep t (false, x) s = (false, x) := by cases s <;> rfl
      rw [e]
      rcases ih rfl with ih | ih
      · exact .inl ih
      · right
        cases s with
        | cut c => exact most_lesser ih
        | drop ns r => exact ih
        | unw ns r => exact ih
/-! ### the sides of a row of steps -/
def noneM (mat : List Stp) (tags : List Str) : Bool := tags.all fun n => !(fateM mat n).1
def sdM (mat : List Stp) (tags : List Str) (n : Str) : Bool × Int := if noneM mat tags = true then (false, 0) else ((fateM mat n).1, (fateM mat n).2.getD 0)
def hM (mat : List Stp) (tags : List Str) : Int := if noneM mat tags = true then 0 else (leastM mat).getD 0
def rowE (p : Bool × Int) : Bool × Rm := (p.1, some p.2)
section
variable {tags : List Str} {mat : List Stp}
theorem sd_left (mat : List Stp) (tags : List Str) : left1 tags (sdM mat tags) = !noneM mat tags := by
  unfold left1 sdM
  cases h : noneM mat tags with
  | true =>
    simp only [if_true, Bool.not_true]
    rw [List.any_eq_false]
    exact fun _ _ => Bool.false_ne_true
  | false =>
    simp only [Bool.false_eq_true, if_false, Bool.not_false]
    unfold noneM at h
    obtain ⟨n, hn, hq⟩ := List.all_eq_false.mp h
    rw [List.any_eq_true]
    exact ⟨n, hn, by simpa using hq⟩
theorem row_sd (h : MatOk tags mat) : rowM mat tags = tags.map fun n => rowE (sdM mat tags n) := by
  unfold rowM sdM
  show (if noneM mat tags = true then _ else _) = _
  cases hz : noneM mat tags with
  | true => rfl
  | false =>
    simp only [Bool.false_eq_true, if_false]
    refine List.map_congr_left fun n _ => ?_
    obtain ⟨r, e, _⟩ := h.bd n
    unfold rowE
    refine Prod.ext rfl ?_
    show (fateM mat n).2 = some ((fateM mat n).2.getD 0)
    rw [e]
    rfl
theorem sd_row (h : MatOk tags mat) : RowS tags (sdM mat tags) (hM mat tags) := by
  unfold hM
  cases hz : noneM mat tags with
  | true =>
    have e : ∀ n, sdM mat tags n = (false, 0) := fun n => by
      unfold sdM
      rw [hz]
      rfl
    rw [if_pos rfl]
    refine ⟨Int.le_refl _, fun n _ q => ?_, fun n _ _ => ?_, fun _ => ⟨rfl, fun n _ => e n⟩⟩
    · rw [e] at q
      cases q
    · rw [e]
      exact .inl rfl
  | false =>
    have e : ∀ n, sdM mat tags n = ((fateM mat n).1, (fateM mat n).2.getD 0) := fun n => by
      unfold sdM
      rw [hz]
      rfl
    have g0 := least_ge h.ok
    obtain ⟨m, hm, hq⟩ : ∃ m ∈ tags, (fateM mat m).1 = true := by
      unfold noneM at hz
      obtain ⟨n, hn, hq⟩ := List.all_eq_false.mp hz
      exact ⟨n, hn, by simpa using hq⟩
    obtain ⟨x, hx, _⟩ := h.bd m
    have hl : leastM mat = some x := by
      rw [← hx]
      exact (fate_left _ mat hq).symm
    rw [if_neg Bool.false_ne_true, hl]
    rw [hl] at g0
    have g0 : 0 ≤ x := g0
    refine ⟨g0, fun n _ q => ?_, fun n _ q => ?_, fun q => ?_⟩
    · rw [e] at q ⊢
      have := fate_left (fun ns r => inLot ns r n) mat q
      show (fateM mat n).2.getD 0 = x
      rw [show (fateM mat n).2 = leastM mat from this, hl]
      rfl
    · rw [e] at q ⊢
      obtain ⟨r, hr, r0, _⟩ := h.bd n
      show (fateM mat n).2.getD 0 = 0 ∨ x ≤ (fateM mat n).2.getD 0 ∧ 1 ≤ (fateM mat n).2.getD 0
      rcases fate_gone (fun ns r => inLot ns r n) mat q with w | w
      · left
        rw [show (fateM mat n).2 = some 0 from w]
        rfl
      · have w : mostM (leastM mat) (fateM mat n).2 = true := w
        rw [hl, hr] at w
        have w : x ≤ r := of_decide_eq_true w
        rw [hr]
        show r = 0 ∨ x ≤ r ∧ 1 ≤ r
        omega
    · rw [sd_left, hz] at q
      cases q
theorem norm_ok {s : Stp} (h : s.ok) : (normM s).ok := by
  cases s <;> exact h
theorem norm_lot {s : Stp} (h : lotIn tags s) : lotIn tags (normM s) := by
  cases s with
  | cut c => exact True.intro
  | drop ns r => exact fun n hn => h n (ssetS_mem.mp hn)
  | unw ns r => exact fun n hn => h n (ssetS_mem.mp hn)
theorem norm_fate (mat : List Stp) (n : Str) : fateM (mat.map normM) n = fateM mat n := by
  unfold fateM fateT
  rw [List.foldl_map]
  congr 1
  funext st s
  have e : ∀ ns r, inLot (ssetS ns) r n = inLot ns r n := fun ns r => by
    unfold inLot
    congr 1
    rw [decide_eq_decide]
    exact ssetS_mem
  cases s with
  | cut c => rfl
  | drop ns r => simp only [normM, fstep, e]
  | unw ns r => simp only [normM, fstep, e]
/-- how long the lots of steps are, and their forms -/
theorem steps_ok {ss : List Stp} (ht : tags.length ≤ 8) (hl : ss.length ≤ 1000) (ho : ∀ s ∈ ss, s.ok) (hi : ∀ s ∈ ss, lotIn tags s ∧ lotNd s) : StepsOk ss := by
  have ll : ∀ s ∈ ss, lotLen s ≤ 8 := fun s hs => by
    obtain ⟨h1, h2⟩ := hi s hs
    cases s with
    | cut c => exact Nat.zero_le _
    | drop ns r => exact Nat.le_trans (nodup_len h2 h1) ht
    | unw ns r => exact Nat.le_trans (nodup_len h2 h1) ht
  have fl : ∀ {room : Rm} {ns : List Str} {r : Bool}, ns.length ≤ 8 → (lotForm room ns r).1.length ≤ 15 := fun {room ns r} hn => by
    have hc : Canon (lotForm room ns r) := by
      unfold lotForm
      split <;> exact formWith_canon (dks_nodup _)
    exact Nat.le_trans (canon_len hc fun e he => (lot_names e he).1) (by omega)
  refine ⟨hl, fun s hs => ?_, fun s hs => ?_, fun k => ?_⟩
  · have := ll s hs
    cases s with
    | cut c => exact True.intro
    | drop ns r =>
      show ns.length ≤ 15
      have : ns.length ≤ 8 := this
      omega
    | unw ns r =>
      show ns.length ≤ 15
      have : ns.length ≤ 8 := this
      omega
  · have := ll s hs
    cases s with
    | cut c => exact Nat.zero_le _
    | drop ns r => exact fl this
    | unw ns r => exact fl this
  · have SF := steps_form fun s hs => ho s (List.mem_of_mem_take (i := k) hs)
    have := canon_len SF.can (SF.nam tags fun s hs => (hi s (List.mem_of_mem_take hs)).1)
    omega
theorem host_ok (ht : tags.length ≤ 8) (h : MatOk tags mat) : StepsOk (mat.map normM) := by
  refine steps_ok ht (by rw [List.length_map]; have := h.len; omega) (fun s hs => ?_) (fun s hs => ?_)
  · obtain ⟨q, hq, rfl⟩ := List.mem_map.mp hs
    exact norm_ok (h.ok q hq)
  · obtain ⟨q, hq, rfl⟩ := List.mem_map.mp hs
    refine ⟨norm_lot (h.lot q hq).1, ?_⟩
    cases q with
    | cut c => exact True.intro
    | drop ns r => exact (ssetS_srt ns).nodup
    | unw ns r => exact (ssetS_srt ns).nodup
theorem host_len (ht : tags.length ≤ 8) (h : MatOk tags mat) : ∀ s ∈ mat, s.ok ∧ lotLen s < 64 := fun s hs => by
  refine ⟨h.ok s hs, ?_⟩
  obtain ⟨h1, h2⟩ := h.lot s hs
  cases s with
  | cut c => exact (by decide : 0 < 64)
  | drop ns r =>
    have := nodup_len h2 h1
    show ns.length < 64
    omega
  | unw ns r =>
    have := nodup_len h2 h1
    show ns.length < 64
    omega
theorem host_over (hs : SrtN tags) (h : MatOk tags mat) : overM (hostM mat) tags = fsM tags (sdM mat tags) := by
  have SF := steps_form (ss := mat.map normM) fun s hq => by
    obtain ⟨q, hq2, rfl⟩ := List.mem_map.mp hq
    exact norm_ok (h.ok q hq2)
  unfold overM
  rw [ssetS_id hs]
  rcases SF.alt with ⟨hn, hd, _⟩ | ⟨he, _, _⟩
  · have e : noneM mat tags = true := by
      unfold noneM
      rw [List.all_eq_true]
      intro n _
      rw [← norm_fate, hd]
      rfl
    have e1 : left1 tags (sdM mat tags) = false := by
      rw [sd_left, e]
      rfl
    rw [fs_none e1]
    unfold hostM formOfM
    rw [hn, if_pos]
    rw [List.any_map]
    show (!false && !(tags.any fun n => (sideM nothingM n).1)) = true
    rw [show (tags.any fun n => (sideM nothingM n).1) = false from List.any_eq_false.mpr fun _ _ => Bool.false_ne_true]
    rfl
  · have sd : ∀ n, sideM (hostM mat) n = ((fateM mat n).1, some ((fateM mat n).2.getD 0)) := fun n => by
      unfold sideM hostM
      rw [he, norm_fate]
      obtain ⟨r, e, _⟩ := h.bd n
      unfold fateE
      rw [e]
      cases (fateM mat n).1 <;> rfl
    have e0 : (tags.map fun n => ((n, sideM (hostM mat) n) : Mk2)) = tags.map fun n => (n, ((fateM mat n).1, some ((fateM mat n).2.getD 0))) := List.map_congr_left fun n _ => by rw [sd]
    rw [e0]
    cases hz : noneM mat tags with
    | true =>
      have e1 : left1 tags (sdM mat tags) = false := by
        rw [sd_left, hz]
        rfl
      rw [fs_none e1]
      unfold formOfM
      rw [if_pos]
      rw [List.any_map]
      show (!false && !(tags.any fun n => (fateM mat n).1)) = true
      rw [show (tags.any fun n => (fateM mat n).1) = false from List.any_eq_false.mpr fun n hn => by
        have := List.all_eq_true.mp hz n hn
        simpa using this]
      rfl
    | false =>
      unfold fsM
      congr 1
      refine List.map_congr_left fun n _ => ?_
      unfold sdM
      rw [hz]
      rfl
/-- no lot of the plain steps names one twice -/
theorem plain_nd (F : Fm) : ∀ s ∈ plainM F, lotNd s := fun s hs => by
  have sd : ∀ x, (goneLab F x).1.Nodup := fun x => (ssetS_srt _).nodup
  unfold plainM at hs
  split at hs
  · rw [List.mem_singleton.mp hs]
    exact (ssetS_srt _).nodup
  · rcases List.mem_append.mp hs with hs | hs
    · rcases List.mem_append.mp hs with hs | hs
      · unfold headSteps at hs
        rcases List.mem_append.mp hs with hs | hs
        · split at hs
          · rw [List.mem_singleton.mp hs]
            exact sd _
          · cases hs
        · split at hs
          · rw [List.mem_singleton.mp hs]
            exact sd _
          · cases hs
      · unfold cutSteps at hs
        obtain ⟨r, _, hs⟩ := List.mem_flatMap.mp hs
        rcases List.mem_cons.mp hs with e | hs
        · rw [e]
          exact True.intro
        · rw [List.mem_singleton.mp hs]
          exact sd _
    · unfold endSteps at hs
      split at hs
      · cases hs
      · split at hs
        · rw [List.mem_singleton.mp hs]
          exact True.intro
        · cases hs
theorem plain_good (hs : SrtN tags) (ht : tags.length ≤ 8) {S : Str → Bool × Int} {h : Int} (R : RowS tags S h) : Plain (fsM tags S) ∧ StepsOk (plainM (fsM tags S)) := by
  have hl := fs_len hs S
  refine ⟨⟨by omega, fun e he => ?_, fun x hx => ?_⟩, steps_ok ht ?_ (fun s hm => (plain_ok R s hm).1) fun s hm => ⟨(plain_ok R s hm).2, plain_nd _ s hm⟩⟩
  · obtain ⟨_, q⟩ := fs_names e he
    rw [q]
    unfold sideE
    split
    · exact .inr rfl
    · exact .inl rfl
  · rw [fs_height R.lf fun q => (R.nz q).1] at hx
    cases hx
    exact R.h0
  · have c1 := cut_len (fsM tags S) (by omega)
    have c2 := cuts_len (fsM tags S) (cutRooms (fsM tags S))
    have c3 := head_len (fsM tags S)
    unfold plainM
    split
    · exact (by decide : 1 ≤ 1000)
    · rw [List.length_append, List.length_append]
      have c4 : (endSteps (fsM tags S)).length ≤ 1 := by
        unfold endSteps
        split
        · exact Nat.zero_le _
        · split
          · exact Nat.le_refl _
          · exact Nat.zero_le _
      omega
end
end PL
/-! MB2: the table of two rows of steps -/
namespace PL
open PySem PySem.Spec PyProof.Rows L2
theorem mx_bd {x : Int} (h0 : 0 ≤ x) (h1 : x ≤ MX) : Bd 200 x := by
  unfold Bd
  have h : MX = 200000000000000000000000000000000000000000 := rfl
  exact Nat.lt_of_le_of_lt (show x.natAbs ≤ 200000000000000000000000000000000000000000 by omega) (by decide +kernel)
theorem bd_of {n : Nat} {x : Int} (h0 : 0 ≤ x) (h1 : x ≤ 2 ^ n - 1) : Bd n x := by
  unfold Bd
  have h2 : ((2 ^ n : Nat) : Int) = 2 ^ n := by push_cast; rfl
  omega
theorem Bd.up {n : Nat} {x : Int} (h : Bd n x) : x ≤ 2 ^ n := by
  unfold Bd at h
  have h2 : ((2 ^ n : Nat) : Int) = 2 ^ n := by push_cast; rfl
  omega
theorem many_bd {b : Bt} (ok : b.Ok) (hw : b.Ways) {lot : List Str} (hs : ∀ n ∈ lot, n ∈ b.ns) : Bd 5500 (manyM b lot b.top) := by
  have fb := first_bd ok hs lot.length (Nat.le_refl _)
  rw [List.take_length] at fb
  have tb := ok.hh.2
  by_cases h : firstM b lot ≤ b.top
  · unfold manyM
    rw [sumTo_sm _ h]
    have ro := (rowsM_ok ok lot).ok
    have rl := ro.1
    have each : ∀ t : Nat, t < (b.top - firstM b lot + 1).toNat → 0 ≤ waysAt (rowsM b lot) (firstM b lot + t) ∧ waysAt (rowsM b lot) (firstM b lot + t) ≤ 2 ^ 5100 := fun t ht => by
      have r1 : firstM b lot ≤ firstM b lot + t := by omega
      have r2 : firstM b lot + t ≤ b.top := by omega
      refine ⟨Int.le_of_lt (waysAt_pos hw lot r2), ?_⟩
      have q := waysAt_bd ro ((fb.mid tb r1 r2).mono (show 200 ≤ 250 by decide)) (rowsM b lot).length (Nat.le_refl _)
      rw [List.take_length] at q
      exact (q.mono (show _ ≤ 5100 by omega)).up
    have p0 : (0 : Int) ≤ 2 ^ 5100 := Int.pow_nonneg (by decide)
    obtain ⟨s0, s1⟩ := sm_bd p0 _ each
    have nb : Bd 201 ((b.top - firstM b lot + 1).toNat : Int) := by
      have := (tb.sub fb)
      unfold Bd at this tb fb ⊢
      rw [Int.natAbs_natCast]
      have e : 2 ^ 201 = 2 * 2 ^ 200 := by decide +kernel
      have f0 := first_nn b lot
      omega
    have pb : Bd 5101 ((2 : Int) ^ 5100) := by
      unfold Bd
      rw [Int.natAbs_pow]
      exact Nat.pow_lt_pow_right (by decide) (by decide)
    exact ((nb.mul pb).mono (show 201 + 5101 ≤ 5500 by decide)).le s0 s1
  · rw [many_zero (by omega)]
    exact Bd.zero
theorem inAll_bd {b : Bt} {L U : Str → Bool × Int} {hl hu : Int} (ok : b.Ok) (W : Bw b L U hl hu) (hwi : withinM b.lo b.hi = true) : Bd 6000 (inAllM b) := by
  have hw := W.ways hwi
  have key : ∀ ls : List (List Str), (∀ l ∈ ls, ∀ n ∈ l, n ∈ b.ns) → sumMany b ls ≤ (ls.length : Int) * 2 ^ 5500 := by
    intro ls
    induction ls with
    | nil => exact fun _ => by simp [sumMany]
    | cons l ls ih =>
      intro h
      have h1 := ih fun q hq => h q (List.mem_cons_of_mem _ hq)
      have h2 := (many_bd ok hw (h l List.mem_cons_self)).up
      unfold sumMany at h1 ⊢
      rw [List.map_cons, List.sum_cons, List.length_cons]
      have e : ((ls.length + 1 : Nat) : Int) * 2 ^ 5500 = (ls.length : Int) * 2 ^ 5500 + 2 ^ 5500 := by
        rw [Int.natCast_add, Int.add_mul]
        simp
      rw [e]
      omega
  have h1 := key (lotsM b) fun l hl => lots_sub l hl
  have h2 := lotsM_len ok
  have h3 := sumMany_nn hw (lotsM b)
  have h4 := inAll_eq hwi
  have p0 : (0 : Int) ≤ 2 ^ 5500 := Int.pow_nonneg (by decide)
  have h5 : ((lotsM b).length : Int) * 2 ^ 5500 ≤ 256 * 2 ^ 5500 := Int.mul_le_mul_of_nonneg_right (by omega) p0
  have h6 : (256 : Int) * 2 ^ 5500 + 1 ≤ 2 ^ 6000 - 1 := by decide +kernel
  refine bd_of ?_ ?_
  · rw [h4]
    split <;> omega
  · rw [h4]
    split <;> omega
section
variable {tags : List Str} {mat far : List Stp}
theorem tb_eq (hs : SrtN tags) (h : MatOk tags mat) (g : MatOk tags far) : tbM (hostM mat) (hostM far) tags = ⟨fsM tags (sdM mat tags), fsM tags (sdM far tags), tags⟩ := by
  unfold tbM
  rw [host_over hs h, host_over hs g, ssetS_id hs]
theorem tb_bw (hs : SrtN tags) (h : MatOk tags mat) (g : MatOk tags far) : Bw (tbM (hostM mat) (hostM far) tags) (sdM mat tags) (sdM far tags) (hM mat tags) (hM far tags) := by
  rw [tb_eq hs h g]
  exact ⟨hs, rfl, rfl, sd_row h, sd_row g⟩
theorem sd_bd (h : MatOk tags mat) (n : Str) : Bd 200 (sdM mat tags n).2 := by
  unfold sdM
  split
  · exact Bd.zero
  · obtain ⟨r, e, h0, h1⟩ := h.bd n
    rw [e]
    exact mx_bd h0 h1
theorem hM_bd (h : MatOk tags mat) : Bd 200 (hM mat tags) := by
  unfold hM
  cases hz : noneM mat tags with
  | true => exact Bd.zero
  | false =>
    rw [if_neg Bool.false_ne_true]
    unfold noneM at hz
    obtain ⟨n, hn, hq⟩ := List.all_eq_false.mp hz
    obtain ⟨r, e, h0, h1⟩ := h.bd n
    have hq : (fateM mat n).1 = true := by simpa using hq
    have q := fate_left (fun ns r => inLot ns r n) mat hq
    rw [← q]
    show Bd 200 ((fateM mat n).2.getD 0)
    rw [e]
    exact mx_bd h0 h1
theorem tb_ok (hs : SrtN tags) (ht : tags.length ≤ 8) (h : MatOk tags mat) (g : MatOk tags far) : (tbM (hostM mat) (hostM far) tags).Ok := by
  have W := tb_bw hs h g
  have e := tb_eq hs h g
  have l1 := fs_len hs (sdM mat tags)
  have l2 := fs_len hs (sdM far tags)
  refine ⟨?_, ?_, ?_, fun n hn => ?_, fun n hn => ?_, ⟨some (hM mat tags) |>.getD 0, ?_⟩, ?_⟩
  · rw [e]
    show (fsM tags (sdM mat tags)).1.length ≤ 15
    omega
  · rw [e]
    show (fsM tags (sdM far tags)).1.length ≤ 15
    omega
  · rw [e]
    exact ht
  · rw [W.l hn]
    refine ⟨?_, sd_bd h n⟩
    rw [e] at hn ⊢
    show (entryM (fsM tags (sdM mat tags)) n).2 = _
    rw [fs_entry hs (sd_row h).Nz hn]
    rfl
  · rw [W.u hn]
    refine ⟨?_, sd_bd g n⟩
    rw [e] at hn ⊢
    show (entryM (fsM tags (sdM far tags)) n).2 = _
    rw [fs_entry hs (sd_row g).Nz hn]
    rfl
  · rw [e]
    exact fs_height (sd_row h).lf fun q => ((sd_row h).nz q).1
  · rw [W.top]
    refine ⟨?_, hM_bd g⟩
    rw [e]
    exact fs_height (sd_row g).lf fun q => ((sd_row g).nz q).1
theorem lies_map (f g : Str → Bool × Int) : ∀ ns : List Str, liesM (ns.map fun n => rowE (f n)) (ns.map fun n => rowE (g n)) = true ↔ ∀ n ∈ ns, ((f n).1 = true → (g n).1 = true) ∧ (f n).2 ≤ (g n).2
  | [] => by simp [liesM]
  | n :: ns => by
    have ih := lies_map f g ns
    unfold liesM at ih ⊢
    rw [List.map_cons, List.map_cons, List.zip_cons_cons, List.all_cons, Bool.and_eq_true, ih, List.forall_mem_cons]
    refine and_congr ?_ Iff.rfl
    simp only [rowE, mostM, Bool.and_eq_true, Bool.or_eq_true, Bool.not_eq_true', decide_eq_true_eq]
    refine and_congr ?_ Iff.rfl
    cases (f n).1 <;> simp
theorem lies_eq (hs : SrtN tags) (h : MatOk tags mat) (g : MatOk tags far) : liesM (rowM mat tags) (rowM far tags) = withinM (tbM (hostM mat) (hostM far) tags).lo (tbM (hostM mat) (hostM far) tags).hi := by
  rw [row_sd h, row_sd g, tb_eq hs h g, Bool.eq_iff_iff, lies_map]
  exact (within_fs hs (sd_row h).Nz (sd_row g).Nz).symm
/-- the sides of the one with number k -/
noncomputable def Sk (b : Bt) (k : Int) : Str → Bool × Int := by
  classical exact if h : ∃ S hh, AtOut b k S hh then h.choose else fun _ => (false, 0)
theorem sk_at (hs : SrtN tags) (ht : tags.length ≤ 8) (h : MatOk tags mat) (g : MatOk tags far) {k : Int} (h0 : 0 ≤ k) (h1 : k < inAllM (tbM (hostM mat) (hostM far) tags)) : withinM (tbM (hostM mat) (hostM far) tags).lo (tbM (hostM mat) (hostM far) tags).hi = true ∧ ∃ hh, AtOut (tbM (hostM mat) (hostM far) tags) k (Sk (tbM (hostM mat) (hostM far) tags) k) hh := by
  have hwi : withinM (tbM (hostM mat) (hostM far) tags).lo (tbM (hostM mat) (hostM far) tags).hi = true := by
    cases q : withinM (tbM (hostM mat) (hostM far) tags).lo (tbM (hostM mat) (hostM far) tags).hi with
    | true => rfl
    | false =>
      unfold inAllM at h1
      rw [q, if_neg Bool.false_ne_true] at h1
      omega
  refine ⟨hwi, ?_⟩
  have ex := at_main (tb_ok hs ht h g) (tb_bw hs h g) hwi h0 h1
  unfold Sk
  rw [dif_pos ex]
  exact ex.choose_spec
/-- all that is asked of the one with number k -/
structure Told (tags : List Str) (mat far : List Stp) (k : Int) (S : Str → Bool × Int) : Prop where
  row : ∃ hh, RowS tags S hh
  at_ : atM (tbM (hostM mat) (hostM far) tags) k = some (fsM tags S)
  nth : nthM (hostM mat) (hostM far) tags k = fsM tags S
  low : liesM (rowM mat tags) (tags.map fun n => rowE (S n)) = true
  hig : liesM (tags.map fun n => rowE (S n)) (rowM far tags) = true
  rank : rankM (tbM (hostM mat) (hostM far) tags) (fsM tags S) = k
  fmi : FmI (tbM (hostM mat) (hostM far) tags) (fsM tags S)
  over : overM (fsM tags S) tags = fsM tags S
  w1 : withinM (tbM (hostM mat) (hostM far) tags).lo (fsM tags S) = true
  w2 : withinM (fsM tags S) (tbM (hostM mat) (hostM far) tags).hi = true
  pl : Plain (fsM tags S) ∧ StepsOk (plainM (fsM tags S))
  pos : PosK (tbM (hostM mat) (hostM far) tags) k S
theorem told (hs : SrtN tags) (ht : tags.length ≤ 8) (h : MatOk tags mat) (g : MatOk tags far) {k : Int} (h0 : 0 ≤ k) (h1 : k < inAllM (tbM (hostM mat) (hostM far) tags)) : Told tags mat far k (Sk (tbM (hostM mat) (hostM far) tags) k) := by
  obtain ⟨hwi, hh, A⟩ := sk_at hs ht h g h0 h1
  have W := tb_bw hs h g
  have ens : (tbM (hostM mat) (hostM far) tags).ns = tags := by rw [tb_eq hs h g]
  have elo : (tbM (hostM mat) (hostM far) tags).lo = fsM tags (sdM mat tags) := by rw [tb_eq hs h g]
  have ehi : (tbM (hostM mat) (hostM far) tags).hi = fsM tags (sdM far tags) := by rw [tb_eq hs h g]
  have at_ := A.at_
  have row := A.row
  have low := A.low
  have hig := A.hig
  have rank := A.rank
  have fmi := A.fmi
  rw [ens] at at_ row low hig rank fmi
  have low2 : ∀ n ∈ tags, ((sdM mat tags n).1 = true → (Sk (tbM (hostM mat) (hostM far) tags) k n).1 = true) ∧ (sdM mat tags n).2 ≤ (Sk (tbM (hostM mat) (hostM far) tags) k n).2 := fun n hn => by
    have q := low n hn
    have hn' : n ∈ (tbM (hostM mat) (hostM far) tags).ns := by rw [ens]; exact hn
    rwa [W.il hn', W.l hn'] at q
  have hig2 : ∀ n ∈ tags, ((Sk (tbM (hostM mat) (hostM far) tags) k n).1 = true → (sdM far tags n).1 = true) ∧ (Sk (tbM (hostM mat) (hostM far) tags) k n).2 ≤ (sdM far tags n).2 := fun n hn => by
    have q := hig n hn
    have hn' : n ∈ (tbM (hostM mat) (hostM far) tags).ns := by rw [ens]; exact hn
    rwa [W.iu hn', W.u hn'] at q
  refine ⟨⟨hh, row⟩, at_, ?_, ?_, ?_, rank, fmi, over_fs hs row.Nz, ?_, ?_, plain_good hs ht row, A.pos⟩
  · unfold nthM
    rw [at_]
    exact plain_back hs row
  · rw [row_sd h, lies_map]
    exact low2
  · rw [row_sd g, lies_map]
    exact hig2
  · rw [elo, within_fs hs (sd_row h).Nz row.Nz]
    exact low2
  · rw [ehi, within_fs hs row.Nz (sd_row g).Nz]
    exact hig2
theorem told_key (hs : SrtN tags) (h : MatOk tags mat) (g : MatOk tags far) {k k2 : Int} {S S2 : Str → Bool × Int} (p : Told tags mat far k S) (q : Told tags mat far k2 S2) (hwi : withinM (tbM (hostM mat) (hostM far) tags).lo (tbM (hostM mat) (hostM far) tags).hi = true) (hk : k < k2) : PySem.W.dataLt (encK (keyM tags S)).py (encK (keyM tags S2)).py = true := by
  have W := tb_bw hs h g
  have ens : (tbM (hostM mat) (hostM far) tags).ns = tags := by rw [tb_eq hs h g]
  have := pos_key W.srt (W.ways hwi) p.pos q.pos hk
  rwa [ens] at this
end
end PL
/-! LW8: one pair -/
namespace PL
open PySem PySem.Spec PyProof.Rows L2
theorem encK_pl (k : List Str × Int × List Int) : (encK k).pl = true := by
  show D.pls [_, _, _] = true
  have h1 : D.pls (k.2.2.map D.int) = true := pls_map (fun _ => rfl) k.2.2
  simp only [D.pls, encNt_pl, D.pl, h1, Bool.and_self]
theorem encK_dp (k : List Str × Int × List Int) : (encK k).py.depth ≤ 2 := by
  unfold encK
  rw [dp_tup, dp_cons, dp_cons, dp_cons, dp_nil, dp_int, dp_tup]
  have h1 := encNt_dp k.1
  have h2 := dps_map (enc := D.int) (n := 0) (fun a => Nat.le_of_eq (dp_int a)) k.2.2
  omega
theorem encK_py (a b : List Str × Int × List Int) : PyData.eqv (encK a).py (encK b).py = decide (a = b) := by
  obtain ⟨a1, a2, a3⟩ := a
  obtain ⟨b1, b2, b3⟩ := b
  show PyData.eqvAll (D.pys [encNt a1, D.int a2, D.tup (a3.map D.int)]) (D.pys [encNt b1, D.int b2, D.tup (b3.map D.int)]) = _
  rw [cons_py, cons_py, cons_py, encNt_py, int_py, tup_py, map_py int_py, Bool.eq_iff_iff]
  simp [D.pys, PyData.eqvAll]
theorem at_last {α : Type} (xs : List α) (x : α) : atI (xs ++ [x]) (-1) = some x := by
  unfold atI ixN
  rw [List.length_append, List.length_singleton]
  rw [if_neg (by omega), if_pos (by omega)]
  show (xs ++ [x])[((-1 : Int) + ((xs.length + 1 : Nat) : Int)).toNat]? = some x
  have e : ((-1 : Int) + ((xs.length + 1 : Nat) : Int)).toNat = xs.length := by omega
  rw [e, List.getElem?_append_right (Nat.le_refl _), Nat.sub_self]
  rfl
theorem spot_bd {M t : Int} (hM : 1 ≤ M) (h0 : 0 ≤ t) (h1 : t < 1000) : 0 ≤ M * t / 1000 ∧ M * t / 1000 < M := by
  refine ⟨Int.ediv_nonneg (Int.mul_nonneg (by omega) h0) (by decide), ?_⟩
  refine Int.ediv_lt_of_lt_mul (by decide) ?_
  exact Int.mul_lt_mul_of_pos_left h1 (by omega)
structure PairOk (tags : List Str) (mat far : List Stp) : Prop where
  srt : SrtN tags
  len : tags.length ≤ 4
  no : ("strange" : Str) ∉ tags
  m : MatOk tags mat
  f : MatOk tags far
section
variable {c : Cn}
theorem g_pair (h : Hd c) : Good c "_law_pair_right" 11 ["_law_urn", "_law_tags_here", "_law_mat", "_law_far"] (SpU c.K (ca c.K) 4 (fun y : List Str × List Stp × List Stp => [encNs y.1, .lst (y.2.1.map encL), .lst (y.2.2.map encL)]) (fun y => PairOk y.1 y.2.1 y.2.2) (fun _ d => d = .bl true)) := by
  refine good_defU (n0 := "_law_urn") (N' := ["_law_tags_here", "_law_mat", "_law_far", "_law_host_here", "_law_mate", "_law_many_so", "_law_spots_so", "_law_turn", "_law_keys_so", "_law_k", "_law_told", "_law_row_so", "_law_after_so"]) h.d__law_pair_right ⟨rfl, rfl, rfl, by decide +kernel, rfl, by decide +kernel, by decide +kernel⟩ (fun _ _ _ _ _ _ us hl => match us, hl with | [_, _, _, _], _ => rfl) (fun _ => rfl) (by decide) ?_
  rintro f cdv A outer s H E hr ⟨tags, mat, far⟩ hy
  have hy : PairOk tags mat far := hy
  obtain ⟨hs, ht4, hno, hm, hf⟩ := hy
  have ht : tags.length ≤ 8 := by omega
  have nd : (["_law_urn", "_law_tags_here", "_law_mat", "_law_far", "_law_host_here", "_law_mate", "_law_many_so", "_law_spots_so", "_law_turn", "_law_keys_so", "_law_k", "_law_told", "_law_row_so", "_law_after_so"] : List Str).Nodup := by decide +kernel
  have okT := tb_ok hs ht hm hf
  have bwT := tb_bw hs hm hf
  have tol := fun {k : Int} (h0 : 0 ≤ k) (h1 : k < inAllM (tbM (hostM mat) (hostM far) tags)) => told hs ht hm hf h0 h1
  have lie := lies_eq hs hm hf
  have bdM := fun hwi => inAll_bd okT bwT hwi
  have pos1 := fun hwi => inAll_pos bwT hwi
  have zero := fun (q : withinM (tbM (hostM mat) (hostM far) tags).lo (tbM (hostM mat) (hostM far) tags).hi = false) => (show inAllM (tbM (hostM mat) (hostM far) tags) = 0 by unfold inAllM; rw [q]; exact if_neg Bool.false_ne_true)
  have wayT := fun hwi => bwT.ways hwi
  have tkey := fun {k k2 : Int} {S S2 : Str → Bool × Int} (p : Told tags mat far k S) (q : Told tags mat far k2 S2) hwi hk => told_key hs hm hf p q hwi hk
  have Qok : (⟨hostM mat, hostM far, true, tags⟩ : Q3).ns.length < 64 := by
    show tags.length < 64
    omega
  refine wb_cons (w_par 4 5 rfl nd rfl rfl (by decide) rfl rfl (ea_cons (ev_call (g_host h) (mat) rfl (hr.mono (by decide)) (ea_cons (ev_var 2 rfl (.inl rfl) rfl) ea_nil) (⟨host_ok ht hm, host_len ht hm⟩)) (ea_cons (ev_call (g_host h) (far) rfl (hr.mono (by decide)) (ea_cons (ev_var 3 rfl (.inl rfl) rfl) ea_nil) (⟨host_ok ht hf, host_len ht hf⟩)) ea_nil)) ?_)
  refine wb_cons (w_set 6 nd rfl (.inr rfl) (d := .int (inAllM (tbM (hostM mat) (hostM far) tags))) (ev_call (g_many_between h) (⟨hostM mat, hostM far, true, tags⟩) rfl (hr.mono (by decide)) (ea_cons (ev_var 4 rfl (.inl rfl) rfl) (ea_cons (ev_var 5 rfl (.inl rfl) rfl) (ea_cons (ev_var 1 rfl (.inl rfl) rfl) ea_nil))) (⟨Qok, okT⟩)) ?_)
  have eT : (⟨hostM mat, hostM far, true, tags⟩ : Q3).t = tbM (hostM mat) (hostM far) tags := rfl
  generalize hM : inAllM (tbM (hostM mat) (hostM far) tags) = M at *
  refine wb_cons (w_if (EvT.to (et_eq hr.units (ev_var 6 rfl (.inr (.inl rfl)) rfl) ev_int (eqInt _ _)) (int_py M 0)) (fun h1 => wb_ret (ev_not (ev_call (g_lies_in h) ((rowM mat tags, rowM far tags)) rfl (hr.mono (by decide)) (ea_cons (ev_call (g_row h) ((mat, tags)) rfl (hr.mono (by decide)) (ea_cons (ev_var 2 rfl (.inl rfl) rfl) (ea_cons (ev_var 1 rfl (.inl rfl) rfl) ea_nil)) (ht)) (ea_cons (ev_call (g_row h) ((far, tags)) rfl (hr.mono (by decide)) (ea_cons (ev_var 3 rfl (.inl rfl) rfl) (ea_cons (ev_var 1 rfl (.inl rfl) rfl) ea_nil)) (ht)) ea_nil)) trivial)) ?r0) fun h1 => wb_nil ?_)
  case r0 =>
    have h1 : M = 0 := of_decide_eq_true h1
    show D.bl (!liesM (rowM mat tags) (rowM far tags)) = .bl true
    rw [lie]
    cases q : withinM (tbM (hostM mat) (hostM far) tags).lo (tbM (hostM mat) (hostM far) tags).hi with
    | false => rfl
    | true =>
      have := pos1 q
      omega
  have h1 : M ≠ 0 := of_decide_eq_false h1
  have hwi : withinM (tbM (hostM mat) (hostM far) tags).lo (tbM (hostM mat) (hostM far) tags).hi = true := by
    cases q : withinM (tbM (hostM mat) (hostM far) tags).lo (tbM (hostM mat) (hostM far) tags).hi with
    | true => rfl
    | false => exact absurd (zero q) h1
  have M1 : 1 ≤ M := pos1 hwi
  have MB : Bd 6000 M := bdM hwi
  have wT := wayT hwi
  have h1000 : 0 < (1000 : Int) ∧ (1000 : Int).natAbs.log2 < 9000 := ⟨by decide, by decide +kernel⟩
  refine wb_cons (w_setX 7 (P := fun d => ∃ xs, d = .lst xs ∧ ∃ ks : List Int, xs = ks.map D.int ∧ ks.length ≤ 6 ∧ ∀ k ∈ ks, 0 ≤ k ∧ k < M) nd rfl (.inl rfl) (ex_catL (P1 := fun xs => xs = [0, M - 1].map D.int) (P2 := fun xs => ∃ ks : List Int, xs = ks.map D.int ∧ ks.length ≤ 4 ∧ ∀ k ∈ ks, 0 ≤ k ∧ k < M) (P3 := fun xs => ∃ ks : List Int, xs = ks.map D.int ∧ ks.length ≤ 6 ∧ ∀ k ∈ ks, 0 ≤ k ∧ k < M) (ex_of (EvN.toE (en_lst (ea_cons ev_int (ea_cons (ev_sub (ev_var 6 rfl (.inr (.inl rfl)) rfl) ev_int) ea_nil)))) ⟨_, rfl, rfl⟩) (ex_lc (R := fun i => [.ur (4 - i), .va (encNs tags), .va (.lst (mat.map encL)), .va (.lst (far.map encL)), .va (encPip (hostM mat)), .va (encPip (hostM far)), .va (.int M), .un, .un, .un, .un, .un, .un, .un]) (enc := fun k : Nat => .int (k : Int)) (Qi := fun i ds => ∃ ks : List Int, ds = ks.map D.int ∧ ks.length = i ∧ ∀ k ∈ ks, 0 ≤ k ∧ k < M) (xs := List.range 4) rfl nd [("_law_turn", 8)] (blk_of rfl) rfl (ei_rng h.f_range ev_int (by decide) (by decide)) ⟨fun i x hx => ?turn, fun i => ⟨no_own rfl, fun v hv => by rw [List.mem_singleton.mp hv]; rfl⟩⟩ ⟨[], rfl, rfl, fun k hk => (nomatch hk)⟩ (fun i ds ⟨ks, e, hl, _⟩ => by rw [e, List.length_map, hl]; exact Nat.le_refl _) (by decide) (fun ds ⟨ks, e, hl, hb⟩ => ⟨ks, e, Nat.le_of_eq hl, hb⟩)) (fun xs ys e1 ⟨ks, e2, hl, _⟩ => by rw [e1, e2, List.length_map, List.length_map]; simp only [List.length_cons, List.length_nil]; omega) (fun xs ys e1 ⟨ks, e2, hl, hb⟩ => ⟨[0, M - 1] ++ ks, by rw [e1, e2, List.map_append], by rw [List.length_append]; simp only [List.length_cons, List.length_nil]; omega, fun k hk => ?inb⟩)) fun d ⟨xs, e, ks, e2, hl, hb⟩ => ?_)
  case inb =>
    rcases List.mem_append.mp hk with hk | hk
    · simp only [List.mem_cons, List.not_mem_nil, or_false] at hk
      rcases hk with rfl | rfl <;> omega
    · exact hb k hk
  case turn =>
    have hi : i < 4 := by
      have := (List.getElem?_eq_some_iff.mp hx).1
      rwa [List.length_range] at this
    obtain ⟨m, hm4⟩ : ∃ m, 4 - i = m + 1 := ⟨3 - i, by omega⟩
    have hm2 : 4 - (i + 1) = m := by omega
    refine ⟨_, _, [.ur (4 - i), .va (encNs tags), .va (.lst (mat.map encL)), .va (.lst (far.map encL)), .va (encPip (hostM mat)), .va (encPip (hostM far)), .va (.int M), .un, .va (.int (x : Int)), .un, .un, .un, .un, .un], [.ur m, .va (encNs tags), .va (.lst (mat.map encL)), .va (.lst (far.map encL)), .va (encPip (hostM mat)), .va (encPip (hostM far)), .va (.int M), .un, .va (.int (x : Int)), .un, .un, .un, .un, .un], fun z => z = true, IntP fun v => 0 ≤ v ∧ v < M, by decide, fun _ _ _ _ _ => ⟨eg_name 8 nd rfl (.inl rfl), etsx_nil, ex_opI op_fdivW (ex_opI op_mulW (ex_ev (f := fun v => v = M) (ev_var 6 rfl (.inr (.inl rfl)) rfl) rfl) ?tk (g := fun t => 0 ≤ t ∧ t < 1000) (h := fun v => ∃ t, v = M * t ∧ 0 ≤ t ∧ t < 1000) (fun a b ha hb => by subst ha; exact MB.wide (b := 10) (bd_of hb.1 (by omega)) (by decide) (by decide) (by decide)) fun a b ha hb => ⟨b, by rw [ha], hb.1, hb.2⟩) (ex_int (f := fun v => v = 1000) rfl) (fun a b _ hb => by rw [hb]; exact ⟨by decide, by decide +kernel⟩) fun a b ⟨t, e, t0, t1⟩ hb => by rw [e, hb]; exact spot_bd M1 t0 t1⟩, fun z => (nomatch z), by simp only [hm2]; rfl, fun ds d ⟨ks, e, hl, hb⟩ ⟨v, ev, v0, v1⟩ => ⟨ks ++ [v], by rw [e, ev, List.map_append]; rfl, by rw [List.length_append, hl]; rfl, fun k hk => ?_⟩⟩
    case tk =>
      simp only [hm4]
      show EvX (ca c.K) _ _ [.ur (m + 1), .va (encNs tags), .va (.lst (mat.map encL)), .va (.lst (far.map encL)), .va (encPip (hostM mat)), .va (encPip (hostM far)), .va (.int M), .un, .va (.int (x : Int)), .un, .un, .un, .un, .un] (([.ur (m + 1), .va (encNs tags), .va (.lst (mat.map encL)), .va (.lst (far.map encL)), .va (encPip (hostM mat)), .va (encPip (hostM far)), .va (.int M), .un, .va (.int (x : Int)), .un, .un, .un, .un, .un] : List Sl).set 0 (.ur m)) _
      exact take_x (h := h) (X := BlkX _ _ _ _ _ _ _) (ρ := [.ur (m + 1), .va (encNs tags), .va (.lst (mat.map encL)), .va (.lst (far.map encL)), .va (encPip (hostM mat)), .va (encPip (hostM far)), .va (.int M), .un, .va (.int (x : Int)), .un, .un, .un, .un, .un]) (ρ1 := [.ur (m + 1), .va (encNs tags), .va (.lst (mat.map encL)), .va (.lst (far.map encL)), .va (encPip (hostM mat)), .va (encPip (hostM far)), .va (.int M), .un, .va (.int (x : Int)), .un, .un, .un, .un, .un]) rfl (hr.mono (by decide)) (n := m) (m := m + 1) (low := 1000) rfl (.inr (.inl rfl)) rfl (ea_of (ea_cons ev_int ea_nil) rfl) (ur0 rfl) rfl h1000
    · rcases List.mem_append.mp hk with hk | hk
      · exact hb k hk
      · rw [List.mem_singleton.mp hk]
        exact ⟨v0, v1⟩
  subst e e2
  refine wb_cons (w_setN 7 nd rfl (.inl rfl) (en_ssetI rfl hr.units h.f_sorted h.f_set (ev_var 7 rfl (.inl rfl) rfl) (.inl rfl) (by omega)) (wb_frz 7 rfl ?_))
  have sl := ssetI_len ks
  have sb : ∀ k ∈ ssetI ks, 0 ≤ k ∧ k < M := fun k hk => hb k (ssetI_mem.mp hk)
  have sp := ssetI_lt ks
  generalize ssetI ks = sp_ at sl sb sp
  refine wb_cons (w_setN 9 nd rfl (.inl rfl) (en_lst ea_nil) ?_)
  have kd : ∀ k : Int, True := fun _ => True.intro
  refine wb_cons (w_for (fun _ _ h => h.elim) rfl (ei_lst (ev_var 7 rfl (.inl rfl) rfl)) (fun j ρ1 => ∃ s10 s11 s12 s13 : Sl, ρ1 = [.ur 0, .va (encNs tags), .va (.lst (mat.map encL)), .va (.lst (far.map encL)), .va (encPip (hostM mat)), .va (encPip (hostM far)), .va (.int M), .va (.lst (sp_.map D.int)), .un, .ow (((sp_.take j).map fun k => keyM tags (Sk (tbM (hostM mat) (hostM far) tags) k)).map encK), s10, s11, s12, s13]) ⟨.un, .un, .un, .un, rfl⟩ ?_ ?_)
  · rintro j d ρ1 hd ⟨s10, s11, s12, s13, rfl⟩
    obtain ⟨k, hk, rfl⟩ := map_at hd
    obtain ⟨k0, k1⟩ := sb k (List.mem_of_getElem? hk)
    have hjl : j < sp_.length := (List.getElem?_eq_some_iff.mp hk).1
    have TD := tol k0 k1
    have nx : ((sp_.take (j + 1)).map fun k => keyM tags (Sk (tbM (hostM mat) (hostM far) tags) k)).map encK = ((sp_.take j).map fun k => keyM tags (Sk (tbM (hostM mat) (hostM far) tags) k)).map encK ++ [encK (keyM tags (Sk (tbM (hostM mat) (hostM far) tags) k))] := by
      rw [take_next hk, List.map_append, List.map_append]
      rfl
    have zl : (((sp_.take j).map fun k => keyM tags (Sk (tbM (hostM mat) (hostM far) tags) k)).map encK).length < 100000 := by
      rw [List.length_map, List.length_map, List.length_take]
      omega
    have rowOf : ∀ {S : Str → Bool × Int}, (∃ hh, RowS tags S hh) → (tags.map fun n => encP (sideM (fsM tags S) n)) = tags.map fun n => encB (S n) := fun {S} ⟨hh, R⟩ => List.map_congr_left fun n hn => by
      rw [fs_side hs R.Nz hn]
      rfl
    have rowEn : ∀ {S : Str → Bool × Int}, (tags.map fun n => encB (S n)) = (tags.map fun n => rowE (S n)).map encP := fun {S} => by
      rw [List.map_map]
      rfl
    have hostPre : ∀ {S : Str → Bool × Int}, (∃ hh, RowS tags S hh) → entryM (fsM tags S) "strange" = (none, some 0) ∧ (∀ n ∈ tags, (entryM (fsM tags S) n).1 = none ∨ (entryM (fsM tags S) n).1 = some n) ∧ tags.length ≤ 8 := fun {S} ⟨hh, R⟩ => by
      refine ⟨fs_other hno, fun n hn => ?_, ht⟩
      rw [fs_entry hs R.Nz hn]
      unfold sideE
      cases (S n).1
      · exact .inl rfl
      · exact .inr rfl
    rw [nx]
    have nxt := fun (h : k + 1 < M) => tol (k := k + 1) (by omega) h
    have tk2 := fun (h : k + 1 < M) => tkey TD (nxt h) hwi (by omega)
    generalize hS : Sk (tbM (hostM mat) (hostM far) tags) k = S at TD tk2
    refine ⟨_, _, (eg_name 10 nd rfl (.inl rfl)), wb_cons (w_set 11 nd rfl (.inl rfl) (d := encPip (fsM tags S)) (EvE.to (ev_call (g_nth_between h) ((⟨hostM mat, hostM far, true, tags⟩, k)) rfl (hr.mono (by decide)) (ea_cons (ev_var 4 rfl (.inl rfl) rfl) (ea_cons (ev_var 5 rfl (.inl rfl) rfl) (ea_cons (ev_var 1 rfl (.inl rfl) rfl) (ea_cons (ev_var 10 rfl (.inl rfl) rfl) ea_nil)))) (⟨Qok, okT, fun _ => wT, fsM tags S, TD.at_, TD.pl⟩)) (congrArg encPip TD.nth)) ?_)⟩
    refine wb_cons (w_set 12 nd rfl (.inl rfl) (d := .tup (tags.map fun n => encB (S n))) (EvE.to (ev_call (g_host_row h) ((fsM tags S, tags)) rfl (hr.mono (by decide)) (ea_cons (ev_var 11 rfl (.inl rfl) rfl) (ea_cons (ev_var 1 rfl (.inl rfl) rfl) ea_nil)) (hostPre TD.row)) (congrArg D.tup (rowOf TD.row))) ?_)
    refine wb_cons (w_if (z := false) (EvT.to (EvW.t (ew_or (et_isN (ev_var 12 rfl (.inl rfl) rfl)) fun _ => ew_or1 (et_not (et_val (ev_call (g_same1 h) (.int k) rfl (hr.mono (by decide)) (ea_cons (EvE.to (ev_call (g_rank_between h) ((⟨hostM mat, hostM far, true, tags⟩, fsM tags S)) rfl (hr.mono (by decide)) (ea_cons (ev_var 4 rfl (.inl rfl) rfl) (ea_cons (ev_var 5 rfl (.inl rfl) rfl) (ea_cons (ev_var 1 rfl (.inl rfl) rfl) (ea_cons (ev_var 11 rfl (.inl rfl) rfl) ea_nil)))) (⟨Qok, okT, TD.fmi, TD.over, TD.w1, TD.w2⟩)) (congrArg D.int TD.rank)) (ea_cons (ev_var 10 rfl (.inl rfl) rfl) ea_nil)) rfl))))) rfl) (fun z => nomatch z) fun _ => wb_nil ?_)
    refine wb_cons (w_if (z := false) (EvT.to (EvW.t (ew_or (et_not (et_val (ev_call (g_lies_in h) (rowM mat tags, tags.map fun n => rowE (S n)) rfl (hr.mono (by decide)) (ea_cons (ev_call (g_row h) ((mat, tags)) rfl (hr.mono (by decide)) (ea_cons (ev_var 2 rfl (.inl rfl) rfl) (ea_cons (ev_var 1 rfl (.inl rfl) rfl) ea_nil)) (ht)) (ea_cons (EvE.to (ev_var 12 rfl (.inl rfl) rfl) (congrArg D.tup rowEn)) ea_nil)) trivial))) fun _ => ew_or1 (et_not (et_val (ev_call (g_lies_in h) (tags.map fun n => rowE (S n), rowM far tags) rfl (hr.mono (by decide)) (ea_cons (EvE.to (ev_var 12 rfl (.inl rfl) rfl) (congrArg D.tup rowEn)) (ea_cons (ev_call (g_row h) ((far, tags)) rfl (hr.mono (by decide)) (ea_cons (ev_var 3 rfl (.inl rfl) rfl) (ea_cons (ev_var 1 rfl (.inl rfl) rfl) ea_nil)) (ht)) ea_nil)) trivial))))) (by show (!liesM (rowM mat tags) (tags.map fun n => rowE (S n)) || !liesM (tags.map fun n => rowE (S n)) (rowM far tags)) = false; rw [TD.low, TD.hig]; rfl)) (fun z => nomatch z) fun _ => wb_nil ?_)
    refine wb_cons (w_append 9 rfl (.inl rfl) rfl (ev_call (g_key h) (tags, S) rfl (hr.mono (by decide)) (ea_cons (ev_var 12 rfl (.inl rfl) rfl) (ea_cons (ev_var 1 rfl (.inl rfl) rfl) ea_nil)) ht) zl ?_)
    refine wb_cons (w_if (et_lt (ev_add (ev_var 10 rfl (.inl rfl) rfl) ev_int) (ev_var 6 rfl (.inr (.inl rfl)) rfl)) (fun h2 => ?more) fun h2 => wb_nil (wb_nil ⟨_, _, _, _, rfl⟩))
    case more =>
      have h2 : k + 1 < M := of_decide_eq_true h2
      have T2 := nxt h2
      have tk3 := tk2 h2
      generalize Sk (tbM (hostM mat) (hostM far) tags) (k + 1) = S2 at T2 tk3
      refine wb_cons (w_set 13 nd rfl (.inl rfl) (d := .tup (tags.map fun n => encB (S2 n))) (EvE.to (ev_call (g_host_row h) (fsM tags S2, tags) rfl (hr.mono (by decide)) (ea_cons (EvE.to (ev_call (g_nth_between h) ((⟨hostM mat, hostM far, true, tags⟩, k + 1)) rfl (hr.mono (by decide)) (ea_cons (ev_var 4 rfl (.inl rfl) rfl) (ea_cons (ev_var 5 rfl (.inl rfl) rfl) (ea_cons (ev_var 1 rfl (.inl rfl) rfl) (ea_cons (ev_add (ev_var 10 rfl (.inl rfl) rfl) ev_int) ea_nil)))) (⟨Qok, okT, fun _ => wT, fsM tags S2, T2.at_, T2.pl⟩)) (congrArg encPip T2.nth)) (ea_cons (ev_var 1 rfl (.inl rfl) rfl) ea_nil)) (hostPre T2.row)) (congrArg D.tup (rowOf T2.row))) ?_)
      refine wb_cons (w_if (z := false) (EvT.to (EvW.t (ew_or (et_isN (ev_var 13 rfl (.inl rfl) rfl)) fun _ => ew_or1 (et_not (et_ltD (da := encK (keyM tags S)) (db := encK (keyM tags S2)) hr.units (ev_ixO 9 rfl (.inl rfl) rfl (ev_neg ev_int) (at_last _ _)) (ev_call (g_key h) (tags, S2) rfl (hr.mono (by decide)) (ea_cons (ev_var 13 rfl (.inl rfl) rfl) (ea_cons (ev_var 1 rfl (.inl rfl) rfl) ea_nil)) ht) (encK_pl _) (encK_pl _) (alike_encK _ _) (fun e => nomatch e) (Nat.le_trans (encK_dp _) (by decide)))))) (by show (false || !PySem.W.dataLt (encK (keyM tags S)).py (encK (keyM tags S2)).py) = false; rw [tk3]; rfl)) (fun z => nomatch z) fun _ => wb_nil (wb_nil (wb_nil ⟨_, _, _, _, rfl⟩)))
  · rintro ρ1 ⟨s10, s11, s12, s13, rfl⟩
    rw [List.length_map, List.take_length]
    have kp : (sp_.map fun k => keyM tags (Sk (tbM (hostM mat) (hostM far) tags) k)).Pairwise fun a b => PySem.W.dataLt (encK a).py (encK b).py = true := by
      rw [List.pairwise_map]
      refine List.Pairwise.imp_of_mem (fun {a b} ha hb' hlt => ?_) sp
      exact tkey (tol (sb a ha).1 (sb a ha).2) (tol (sb b hb').1 (sb b hb').2) hwi hlt
    have zl : (sp_.map fun k => keyM tags (Sk (tbM (hostM mat) (hostM far) tags) k)).length ≤ 6 := by
      rw [List.length_map]
      omega
    generalize (sp_.map fun k => keyM tags (Sk (tbM (hostM mat) (hostM far) tags) k)) = kl at kp zl
    have so : (kl.map encK).mergeSort leD = kl.map encK := by
      refine List.mergeSort_of_pairwise ?_
      rw [List.pairwise_map]
      refine kp.imp fun {a b} hab => ?_
      rw [leD_eq, dlt_asym hab]
      rfl
    refine wb_frz 9 rfl (wb_ret (ev_eq hr.units (ev_var 9 rfl (.inl rfl) rfl) (EvE.to (EvN.toE (en_sorted rfl hr.units h.f_sorted (ev_var 9 rfl (.inl rfl) rfl) ?pl ?al ?so2 ?dp (by rw [List.length_map]; omega))) (congrArg D.lst so)) ?eqa) ?fin)
    case pl =>
      intro d hd
      obtain ⟨x, _, rfl⟩ := List.mem_map.mp hd
      exact encK_pl x
    case al =>
      intro d hd d' hd'
      obtain ⟨x, hx, rfl⟩ := List.mem_map.mp hd
      obtain ⟨y, hy, rfl⟩ := List.mem_map.mp hx
      obtain ⟨x', hx', rfl⟩ := List.mem_map.mp hd'
      obtain ⟨y', hy', rfl⟩ := List.mem_map.mp hx'
      exact alike_encK y y'
    case so2 =>
      refine .inl fun d hd => ?_
      obtain ⟨x, hx, rfl⟩ := List.mem_map.mp hd
      obtain ⟨y, hy, rfl⟩ := List.mem_map.mp hx
      exact ⟨_, _, rfl⟩
    case dp =>
      intro d hd
      obtain ⟨x, _, rfl⟩ := List.mem_map.mp hd
      exact Nat.le_trans (encK_dp x) (by decide)
    case eqa =>
      refine eqbl (pls_map encK_pl kl) (pls_map encK_pl kl) ?_ ?_
      · rw [dp_lst]
        have := dps_map encK_dp kl
        omega
      · rw [dp_lst]
        have := dps_map encK_dp kl
        omega
    case fin =>
      show D.bl _ = .bl true
      rw [lst_py, map_py encK_py]
      exact congrArg D.bl (decide_eq_true rfl)
end
end PL
/-! LW9: four pairs of a box; the law -/
namespace PL
open PySem PySem.Spec PyProof.Rows L2
theorem leD_str (a b : Str) : leS a b = leD (.str a) (.str b) := by
  rw [leD_eq]
  show _ = !PySem.W.dataLt (.str b) (.str a)
  rw [PySem.W.dataLt_str, PySem.W.not_lt_str]
  rfl
theorem alike_str : ∀ ns : List Str, PySem.W.AllAlike ((ns.map D.str).map D.py) := fun ns d hd d' hd' => by
  obtain ⟨x, hx, rfl⟩ := List.mem_map.mp hd
  obtain ⟨y, _, rfl⟩ := List.mem_map.mp hx
  obtain ⟨x', hx', rfl⟩ := List.mem_map.mp hd'
  obtain ⟨y', _, rfl⟩ := List.mem_map.mp hx'
  show PySem.W.alike (.str y) (.str y') = true
  simp [PySem.W.alike]
theorem sortable_strs (ns : List Str) : ∀ d ∈ (ns.map D.str).map D.py, d ≠ .none ∧ ∀ xs, d ≠ .tuple xs := fun d hd => by
  obtain ⟨x, hx, rfl⟩ := List.mem_map.mp hd
  obtain ⟨y, _, rfl⟩ := List.mem_map.mp hx
  refine ⟨fun e => ?_, fun xs e => ?_⟩
  · cases e
  · cases e
theorem ex_sortedS {T : CA} {X : Cx} {ρ ρ' : List Sl} {a : Expr} {pos p : Pos} {P Q0 : List Str → Prop} (hc : X.calm = true) (hu : X.A.units + 64 < cLine) (hm : X.mg "sorted" = none) (ha : EvX T X a ρ ρ' (fun d => ∃ ns, d = .lst (ns.map D.str) ∧ P ns)) (hl : ∀ ns, P ns → ns.length ≤ 1000) (hst : ∀ ns : List Str, PySem.W.Sortable ((ns.map D.str).map D.py)) (q : ∀ ns, P ns → Q0 (ns.mergeSort leS)) (hg : Gl X "sorted" := by rfl)
    (he : starEach [a] X.env = (false, eval a X.env) :: starEach [] X.env := by rfl) : EvX T X (.Call (.Name "sorted" p) [a] [] pos) ρ ρ' (fun d => ∃ ns, d = .lst (ns.map D.str) ∧ Q0 ns) :=
  ex_callB (cr_sortD (T := T) hc hu) hm (by decide +kernel) (ea_oneX ha he) (fun ds B H vs Q pd s r k => by
    obtain ⟨d, rfl, ns, rfl, hp⟩ := pd
    cases r with
    | cons r1 r2 =>
      cases r2
      cases r1 with
      | lst h1 q1 =>
        refine ⟨_, _, B, ns.map D.str, rfl, .of (s _ _ h1), s, q1, fun d hd => ?_, alike_str ns, hst ns, fun d hd => ?_, by rw [List.length_map]; have := hl ns hp; omega, fun p ys hp2 hr => k (.ref p) (upd B p (.lst ys)) (upd H p (.lst ys)) _ (.new s hp2) (.lst upd_same (hr.mono (.new (s.none hp2)))) ⟨ns.mergeSort leS, ?_, q ns hp⟩⟩
        · obtain ⟨x, _, rfl⟩ := List.mem_map.mp hd
          rfl
        · obtain ⟨x, _, rfl⟩ := List.mem_map.mp hd
          rw [dp_str]
          decide
        · rw [List.map_mergeSort (r := leS) (s := leD) (f := D.str) (fun a _ b _ => leD_str a b)]) hg (by decide) (by decide) he rfl
section
variable {c : Cn}
theorem g_right (h : Hd c) : Good c "_law_right" 13 ["_law_urn"] (SpU c.K (ca c.K) 150 (fun _ : Unit => []) (fun _ => True) (fun _ d => d = .bl true)) := by
  refine good_defU (n0 := "_law_urn") (N' := ["_law_turn", "_law_tags_here", "_law_far", "_law_mat"]) h.d__law_right ⟨rfl, rfl, rfl, by decide +kernel, rfl, by decide +kernel, by decide +kernel⟩ (fun _ _ _ _ _ _ us hl => match us, hl with | [_], _ => rfl) (fun _ => rfl) (by decide) ?_
  rintro f cdv A outer s H E hr _ _
  have nd : (["_law_urn", "_law_turn", "_law_tags_here", "_law_far", "_law_mat"] : List Str).Nodup := by decide +kernel
  have h4 : 0 < (4 : Int) ∧ (4 : Int).natAbs.log2 < 9000 := ⟨by decide, by decide +kernel⟩
  refine wb_cons (w_for (ds := rngD 4) (fun _ _ h => h.elim) rfl (ei_rng h.f_range ev_int (by decide) (by decide)) (fun k ρ1 => ∃ s1 s2 s3 s4 : Sl, ρ1 = [.ur (150 - 37 * k), s1, s2, s3, s4] ∧ ([s1, s2, s3, s4].all fun s => !isUr s) = true) ⟨.un, .un, .un, .un, rfl, rfl⟩ ?_ ?_)
  · rintro k d ρ1 hd ⟨s1, s2, s3, s4, rfl, hu⟩
    rw [rngD_get] at hd
    split at hd
    · rename_i hk
      cases hd
      obtain ⟨m, hm⟩ : ∃ m, 150 - 37 * k = m + 37 := ⟨150 - 37 * k - 37, by omega⟩
      have hm2 : 150 - 37 * (k + 1) = m := by omega
      rw [hm, hm2]
      have hu2 : ([Sl.va (.int (k : Int)), s2, s3, s4].all fun s => !isUr s) = true := by
        simp only [List.all_cons, List.all_nil, Bool.and_true, Bool.and_eq_true] at hu ⊢
        exact ⟨rfl, hu.2⟩
      refine ⟨_, _, (eg_name 1 nd rfl (.inl rfl)), ?_⟩
      show WB _ _ _ [.ur (m + 37), .va (.int (k : Int)), s2, s3, s4] _
      refine wb_cons (w_setX 2 nd rfl (.inl rfl) (ex_sortedS (P := fun ns => ∃ n, n ≤ 4 ∧ Tags n ns) (Q0 := fun ns => SrtN ns ∧ ns.length ≤ 4 ∧ ("strange" : Str) ∉ ns) rfl hr.units h.f_sorted (ex_call 0 (n := m + 32) (m := m + 37) (g_tags h) rfl (hr.mono (by decide)) rfl (.inl rfl) rfl (ea_consX (Ps := fun ds => ∃ i : Int, ds = [.int i] ∧ 1 ≤ i ∧ i ≤ 4) (ex_add (f := fun x => x = 1) (g := fun x => 0 ≤ x ∧ x < 4) (h := fun x => 1 ≤ x ∧ x ≤ 4) (ex_int rfl) (take_x (h := h) rfl (hr.mono (by decide)) (n := m + 36) (m := m + 37) (low := 4) rfl (.inl rfl) rfl (ea_of (ea_cons ev_int ea_nil) rfl) (ur0 hu2) rfl h4) fun i j hi hj => by omega) fun d ⟨i, e, i0, i1⟩ => ea_of ea_nil ⟨i, by rw [e], i0, i1⟩) (ur0 hu2) rfl fun ds ⟨i, e, i0, i1⟩ => ⟨i.toNat, by rw [e]; congr 2; omega, by omega, fun d ⟨ns, e2, ht⟩ => ⟨ns, e2, i.toNat, by omega, ht⟩⟩) (fun ns ⟨n, hn, ht⟩ => by rw [ht.2.1]; omega) (fun ns => .inr (sortable_strs ns)) fun ns ⟨n, hn, ht⟩ => ⟨srt_of ht.1, by rw [(List.mergeSort_perm _ _).length_eq, ht.2.1]; exact hn, fun q => ?no⟩) fun d ⟨tags, e, hs, hl, hno⟩ => ?_)
      case no =>
        have q2 := ht.2.2 _ ((List.mergeSort_perm _ _).mem_iff.mp q)
        exact absurd q2 (by decide +kernel)
      subst e
      have hu3 : ([Sl.va (.int (k : Int)), .va (encNs tags), s3, s4].all fun s => !isUr s) = true := by
        simp only [List.all_cons, List.all_nil, Bool.and_true, Bool.and_eq_true] at hu ⊢
        exact ⟨rfl, rfl, hu.2.2⟩
      show WB _ _ _ [.ur (m + 32), .va (.int (k : Int)), .va (encNs tags), s3, s4] _
      refine wb_cons (w_setX 3 nd rfl (.inl rfl) (ex_call 0 (n := m + 19) (m := m + 32) (g_wide h) rfl (hr.mono (by decide)) rfl (.inl rfl) rfl (ea_of (ea_cons (ev_var 2 rfl (.inl rfl) rfl) ea_nil) (Ps := fun ds => ds = [encNs tags]) rfl) (ur0 hu3) rfl fun ds e => ⟨tags, e, hl, fun d pd => pd⟩) fun d ⟨far, e, hfar⟩ => ?_)
      subst e
      have hu4 : ([Sl.va (.int (k : Int)), .va (encNs tags), .va (.lst (far.map encL)), s4].all fun s => !isUr s) = true := by
        simp only [List.all_cons, List.all_nil, Bool.and_true, Bool.and_eq_true] at hu ⊢
        exact ⟨rfl, rfl, rfl, hu.2.2.2⟩
      show WB _ _ _ [.ur (m + 19), .va (.int (k : Int)), .va (encNs tags), .va (.lst (far.map encL)), s4] _
      have hf := wide_ok hs hfar
      refine wb_cons (w_setX (P := fun d => ∃ xs, d = .lst xs ∧ ∃ mat, xs = mat.map encL ∧ MatOk tags mat) 4 nd rfl (.inl rfl) (ex_ifX (etx_gt (take_x (h := h) rfl (hr.mono (by decide)) (n := m + 18) (m := m + 19) (low := 4) rfl (.inl rfl) rfl (ea_of (ea_cons ev_int ea_nil) rfl) (ur0 hu4) rfl h4) (ex_int (f := anyI) True.intro)) (ex_catL (P1 := fun xs => xs = far.map encL) (P2 := fun xs => ∃ w, xs = w.map encL ∧ Wide tags w) (P3 := fun xs => ∃ mat, xs = mat.map encL ∧ MatOk tags mat) (ex_of (ev_var 3 rfl (.inl rfl) rfl) ⟨_, rfl, rfl⟩) (ex_call 0 (n := m + 5) (m := m + 18) (g_wide h) rfl (hr.mono (by decide)) rfl (.inl rfl) rfl (ea_of (ea_cons (ev_var 2 rfl (.inl rfl) rfl) ea_nil) (Ps := fun ds => ds = [encNs tags]) rfl) (ur0 hu4) rfl fun ds e => ⟨tags, e, hl, fun d ⟨w, e2, hw⟩ => ⟨_, e2, w, rfl, hw⟩⟩) (fun xs ys e1 ⟨w, e2, hw⟩ => by rw [e1, e2, List.length_map, List.length_map, (wide_steps hs hfar).1, (wide_steps hs hw).1]; decide) fun xs ys e1 ⟨w, e2, hw⟩ => ⟨far ++ w, by rw [e1, e2, List.map_append], wide2_ok hs hfar hw⟩) (ex_call 0 (n := m + 5) (m := m + 18) (g_wide h) rfl (hr.mono (by decide)) rfl (.inl rfl) rfl (ea_of (ea_cons (ev_var 2 rfl (.inl rfl) rfl) ea_nil) (Ps := fun ds => ds = [encNs tags]) rfl) (ur0 hu4) rfl fun ds e => ⟨tags, e, hl, fun d ⟨w, e2, hw⟩ => ⟨_, e2, w, rfl, wide_ok hs hw⟩⟩)) fun d ⟨xs, e, mat, e2, hmat⟩ => ?_)
      subst e e2
      show WB _ _ _ [.ur (m + 5), .va (.int (k : Int)), .va (encNs tags), .va (.lst (far.map encL)), .va (.lst (mat.map encL))] _
      refine wb_cons (W1.imp (Po' := { nx := fun ρ' => ∃ mat', MatOk tags mat' ∧ ρ' = [.ur (m + 4), .va (.int (k : Int)), .va (encNs tags), .va (.lst (far.map encL)), .va (.lst (mat'.map encL))], rt := _, bk := _, ct := _ }) (w_ifX (etx_eq hr.units (take_x (h := h) rfl (hr.mono (by decide)) (n := m + 4) (m := m + 5) (low := 4) rfl (.inl rfl) rfl (ea_of (ea_cons ev_int ea_nil) rfl) (ur0 rfl) rfl h4) (ex_int (f := anyI) True.intro)) (fun _ => wb_cons (w_set 4 nd rfl (.inl rfl) (d := .lst ([Stp.drop [] true].map encL)) (EvN.toE (en_lst (ea_cons (ev_tup (ea_cons ev_str (ea_cons (ev_tup (ea_cons (ev_tup ea_nil) (ea_cons ev_bl ea_nil))) ea_nil))) ea_nil))) (wb_nil ⟨[.drop [] true], drop_ok tags, rfl⟩))) fun _ => wb_nil ⟨mat, hmat, rfl⟩) (fun ρ ⟨mat', hm', e⟩ => ?rest) (fun _ z => z) (fun _ z => z) (fun _ z => z))
      case rest =>
        subst e
        refine wb_cons (w_ifX (Pz := fun z => z = false) (etx_not (Pz := fun z => z = true) (etx_val (ex_call 0 (n := m) (m := m + 4) (g_pair h) rfl (hr.mono (by decide)) rfl (.inl rfl) rfl (ea_of (ea_cons (ev_var 2 rfl (.inl rfl) rfl) (ea_cons (ev_var 4 rfl (.inl rfl) rfl) (ea_cons (ev_var 3 rfl (.inl rfl) rfl) ea_nil))) (Ps := fun ds => ds = [encNs tags, .lst (mat'.map encL), .lst (far.map encL)]) rfl) (ur0 rfl) rfl fun ds e => ⟨(tags, mat', far), e, ⟨hs, hl, hno, hm', hf⟩, fun d pd => ⟨true, pd, rfl⟩⟩)) fun z hz => by rw [hz]; rfl) (fun z => nomatch z) fun _ => wb_nil (wb_nil ⟨.va (.int (k : Int)), .va (encNs tags), .va (.lst (far.map encL)), .va (.lst (mat'.map encL)), rfl, rfl⟩))
    · cases hd
  · rintro ρ1 ⟨s1, s2, s3, s4, rfl, hu⟩
    exact wb_ret ev_bl rfl
theorem law_body (h : Hd c) (hb : Good c "_law_by_hand_right" 13 [] (SpP c.K (ca c.K) (fun _ : Unit => []) (fun _ => True) (fun _ => .bl true))) : BodyOk c "law" (top 108) ["_law_script", "_law_cells_so", "_law_k"] 13 (fun xs : List Int => [.fls xs]) (fun xs => xs.length ≤ 63) (fun _ => .bl true) := by
  rintro f cdv A outer s H E hr xs hl
  have hl : xs.length ≤ 63 := hl
  have nd : (["_law_script", "_law_cells_so", "_law_k"] : List Str).Nodup := by decide +kernel
  refine wb_cons (w_if (z := false) (EvT.to (et_not (et_val (ev_call0 hb () rfl (hr.mono (by decide)) rfl trivial))) rfl) (fun z => nomatch z) fun _ => wb_nil ?_)
  refine wb_cons (w_set 1 nd rfl (.inr rfl) (ev_call (g_cells h) (xs) rfl (hr.mono (by decide)) (ea_cons (ev_var 0 rfl (.inl rfl) rfl) (ea_cons ev_int ea_nil)) (hl)) ?_)
  obtain ⟨c1, c2⟩ := cells_len xs
  have er : rngD ((cellsM xs).length : Int).toNat = (List.range (cellsM xs).length).map fun k : Nat => D.int (k : Int) := by
    unfold rngD
    rw [Int.toNat_natCast]
  refine wb_ret (ev_all (bs := (List.range (cellsM xs).length).map fun _ => true) rfl h.f_all (EvE.to (EvN.toE (en_lc (enc := fun k : Nat => .int (k : Int)) (p := fun _ => true) (f := fun _ => .bl true) (xs := List.range (cellsM xs).length) rfl nd [("_law_k", 2)] (blk_of rfl) (EvI.to (ei_rng (i := ((cellsM xs).length : Int)) h.f_range (EvE.to (ev_len h.f_len (ev_var 1 rfl (.inr (.inl rfl)) rfl) (.inl rfl)) (by rw [List.length_map])) (by omega) (by omega)) er) ⟨fun k hk => ⟨_, _, by decide, fun _ _ _ _ _ => ⟨eg_name 2 nd rfl (.inl rfl), ets_nil, fun _ => ev_callBox (g_right h) (g_box h) rfl (hr.mono (by decide)) (hr.mono (by decide)) () rfl True.intro (fun d e => e) (cellsM xs, k) (ea_cons (ev_var 1 rfl (.inr (.inl rfl)) rfl) (ea_cons (ev_var 2 rfl (.inl rfl) rfl) ea_nil)) (List.mem_range.mp hk) ⟨_, _, rfl⟩ (by decide)⟩⟩⟩ (by rw [List.length_range]; omega))) (by rw [keep_all, List.map_map]; rfl))) ?_
  rw [all_map]
  congr 1
  simp
end
end PL
/-! MB3: counts that the kernel can compute -/
namespace PL
open PySem PySem.Spec PyProof.Rows L2
section
variable {α : Type} (le : α → α → Bool)
def ins (x : α) : List α → List α
  | [] => [x]
  | y :: ys => if le x y = true then x :: y :: ys else y :: ins x ys
def isort : List α → List α
  | [] => []
  | x :: xs => ins le x (isort xs)
theorem ins_perm (x : α) : ∀ ys : List α, (ins le x ys).Perm (x :: ys)
  | [] => .refl _
  | y :: ys => by
    unfold ins
    split
    · exact .refl _
    · exact ((ins_perm x ys).cons y).trans (.swap x y ys)
theorem isort_perm : ∀ xs : List α, (isort le xs).Perm xs
  | [] => .refl _
  | x :: xs => (ins_perm le x _).trans ((isort_perm xs).cons x)
variable {le} (tr : ∀ a b c, le a b = true → le b c = true → le a c = true) (tot : ∀ a b, (le a b || le b a) = true) (anti : ∀ a b, le a b = true → le b a = true → a = b)
include tr tot
theorem ins_pair (x : α) : ∀ ys : List α, ys.Pairwise (fun a b => le a b = true) → (ins le x ys).Pairwise (fun a b => le a b = true)
  | [], _ => by simp [ins]
  | y :: ys, h => by
    obtain ⟨h1, h2⟩ := List.pairwise_cons.mp h
    unfold ins
    split
    · rename_i hx
      exact List.pairwise_cons.mpr ⟨fun z hz => by
        rcases List.mem_cons.mp hz with e | hz
        · rw [e]
          exact hx
        · exact tr _ _ _ hx (h1 z hz), h⟩
    · rename_i hx
      have hy : le y x = true := by
        have := tot x y
        rw [Bool.or_eq_true] at this
        rcases this with q | q
        · exact absurd q hx
        · exact q
      refine List.pairwise_cons.mpr ⟨fun z hz => ?_, ins_pair x ys h2⟩
      rcases List.mem_cons.mp ((ins_perm le x ys).mem_iff.mp hz) with e | hz
      · rw [e]
        exact hy
      · exact h1 z hz
theorem isort_pair : ∀ xs : List α, (isort le xs).Pairwise (fun a b => le a b = true)
  | [] => .nil
  | x :: xs => ins_pair tr tot x _ (isort_pair xs)
include anti
theorem merge_isort (xs : List α) : xs.mergeSort le = isort le xs :=
  List.Perm.eq_of_pairwise (le := fun a b => le a b = true) (fun a b _ _ h1 h2 => anti a b h1 h2) (List.pairwise_mergeSort tr tot _) (isort_pair tr tot _) ((List.mergeSort_perm _ _).trans (isort_perm le xs).symm)
end
def leL2 (x y : List Str) : Bool := !PySem.W.listLt y x
theorem leL_eq : leL = leL2 := by
  funext x y
  show (!ltL y x) = _
  rw [ltL_eq]
  rfl
def places2 (rows : List (Int × Int)) (first last : Int) : List Int := isort leI ([first, last + 1] ++ rows.flatMap (stopsM first last)).eraseDups
def sumTo2 (rows : List (Int × Int)) (first last : Int) : Int := if first ≤ last then (((places2 rows first last).zip (places2 rows first last).tail).map fun p => sumOfM rows p.1 (p.2 - 1)).sum else 0
theorem sumTo2_eq : sumToM = sumTo2 := by
  funext rows first last
  unfold sumToM sumTo2 placesM places2 ssetI ssort
  rw [merge_isort leI_tr leI_tot leI_anti]
def many2 (b : Bt) (lot : List Str) (last : Int) : Int := sumTo2 (rowsM b lot) (firstM b lot) last
theorem many2_eq (b : Bt) : manyM b = many2 b := by
  funext lot last
  unfold manyM many2
  rw [sumTo2_eq]
def lots2 (b : Bt) : List (List Str) := isort leL2 ((lots0 b b.ns).filter fun x => decide (0 < (x.length : Int)))
theorem lots2_eq (b : Bt) : lotsM b = lots2 b := by
  unfold lotsM lots2
  rw [leL_eq]
  refine merge_isort (fun a b c h1 h2 => ?_) (fun a b => ?_) (fun a b h1 h2 => ?_) _
  · rw [← leL_eq] at h1 h2 ⊢
    exact leD_tot.trans (encNt a) (encNt b) (encNt c) h1 h2
  · rw [← leL_eq, Bool.or_eq_true]
    exact leD_tot.total (encNt a) (encNt b)
  · unfold leL2 at h1 h2
    exact ltL_tri a b (by simpa using h2) (by simpa using h1)
def count2 (b : Bt) : Int := (if b.lo = nothingM then 1 else 0) + ((lots2 b).map fun lot => many2 b lot b.top).sum
theorem count2_eq {b : Bt} (hwi : withinM b.lo b.hi = true) : inAllM b = count2 b := by
  unfold inAllM count2
  rw [if_pos hwi, lots2_eq, many2_eq]
def roomFor2 (b : Bt) (lot : List Str) (x : Int) : Int := bsearchM (many2 b lot) x (b.top - firstM b lot).toNat (firstM b lot) b.top
def atGo2 (b : Bt) : List (List Str) → Int → Option Fm
  | [], _ => none
  | lot :: r, left => if left < many2 b lot b.top then some (fsM b.ns (sideOf b lot (roomFor2 b lot left) (left - many2 b lot (roomFor2 b lot left - 1)))) else atGo2 b r (left - many2 b lot b.top)
theorem atGo2_eq {b : Bt} (hs : SrtN b.ns) : ∀ (ls : List (List Str)) (left : Int), (∀ l ∈ ls, LotOk b l) → atGo b ls left = atGo2 b ls left
  | [], _, _ => rfl
  | lot :: ls, left, h => by
    unfold atGo atGo2 roomForM roomFor2
    rw [many2_eq, made_fs hs (h lot List.mem_cons_self), atGo2_eq hs ls _ fun l hl => h l (List.mem_cons_of_mem _ hl)]
def at2 (b : Bt) (number : Int) : Option Fm := if number - (if b.lo = nothingM then 1 else 0) < 0 then some nothingM else atGo2 b (lots2 b) (number - (if b.lo = nothingM then 1 else 0))
theorem at2_eq {b : Bt} (hs : SrtN b.ns) (hwi : withinM b.lo b.hi = true) {k : Int} (h0 : 0 ≤ k) : atM b k = at2 b k := by
  unfold atM at2
  rw [if_neg (by rw [hwi]; simp; omega), atGo2_eq hs _ _ (lots_ok hs.nodup).2, lots2_eq]
/-- the table of two rows of steps, plainly -/
def tb2 (mat far : List Stp) (tags : List Str) : Bt := ⟨fsM tags (sdM mat tags), fsM tags (sdM far tags), tags⟩
theorem tb2_eq {tags : List Str} {mat far : List Stp} (hs : SrtN tags) (h : MatOk tags mat) (g : MatOk tags far) : tbM (hostM mat) (hostM far) tags = tb2 mat far tags := tb_eq hs h g
def lies2 (mat far : List Stp) (tags : List Str) : Bool := tags.all fun n => (!(sdM mat tags n).1 || (sdM far tags n).1) && decide ((sdM mat tags n).2 ≤ (sdM far tags n).2)
theorem lies2_ok {tags : List Str} {mat far : List Stp} (hs : SrtN tags) (h : MatOk tags mat) (g : MatOk tags far) (q : lies2 mat far tags = true) : withinM (tb2 mat far tags).lo (tb2 mat far tags).hi = true := by
  show withinM (fsM tags (sdM mat tags)) (fsM tags (sdM far tags)) = true
  rw [within_fs hs (sd_row h).Nz (sd_row g).Nz]
  intro n hn
  have := List.all_eq_true.mp q n hn
  rw [Bool.and_eq_true, decide_eq_true_eq] at this
  refine ⟨fun w => ?_, this.2⟩
  have t1 := this.1
  rw [w] at t1
  simpa using t1
/-! ### by hand -/
def bareM : List Stp := [.drop [] true]
def topM (m : Int) : List Stp := [.cut (m + 1)]
def lowM : List Stp := [.drop ["h"] true, .cut 1]
def higM : List Stp := [.cut 11, .unw ["a", "b", "c", "d", "e", "f", "g"] false, .cut 1]
def nsA : List Str := ["a"]
def nsAB : List Str := ["a", "b"]
def ns8 : List Str := ["a", "b", "c", "d", "e", "f", "g", "h"]
def mosts : List Int := [1, 2, 7, 1000000000000, 1000000000000000000000000000000000000000]
theorem srtA : SrtN nsA := by
  unfold SrtN LtN
  decide +kernel
theorem srtAB : SrtN nsAB := by
  unfold SrtN LtN
  decide +kernel
theorem srt8 : SrtN ns8 := by
  unfold SrtN LtN
  decide +kernel
theorem cntA : ∀ m ∈ mosts, count2 (tb2 bareM (topM m) nsA) = m + 2 ∧ lies2 bareM (topM m) nsA = true := by decide +kernel
theorem cntAB : ∀ m ∈ mosts, count2 (tb2 bareM (topM m) nsAB) = m ^ 2 + 6 * m + 4 ∧ lies2 bareM (topM m) nsAB = true := by decide +kernel
theorem cnt8 : count2 (tb2 lowM higM ns8) = 19487171 ∧ lies2 lowM higM ns8 = true := by decide +kernel
theorem at8a : (at2 (tb2 lowM higM ns8) 19487170).map (fun F => ((entryM F "a").2, (entryM F "h").2, (entryM F "h").1)) = some (((some 10 : Rm), (some 0 : Rm), (some ("h" : Str))) : Rm × Rm × Option Str) := by decide +kernel
theorem at8b : (at2 (tb2 lowM higM ns8) 1771561).map (fun F => (entryM F "a").2) = some (some 1 : Rm) := by decide +kernel
theorem at8c : at2 (tb2 lowM higM ns8) 0 = some (fsM ns8 (sdM lowM ns8)) := by decide +kernel
end PL
/-! TX1: rules on texts -/
namespace PL
open PySem PySem.Spec PyProof.Rows L2
/-- the signs of a text, each a text -/
def signsM (x : Str) : List Str := x.cps.toList.map fun c => ⟨#[c]⟩
section
variable {T : CA} {X : Cx} {ρ : List Sl} {a b c e o : Expr} {es : List Expr} {d da db : D} {ds : List D} {i j : Int} {x y : Str} {pos p p1 p2 apos : Pos}
theorem sok_sign {c : Nat} {x : Str} (ok : SOk x) (h : c ∈ x.cps.toList) : SOk ⟨#[c]⟩ := by
  have h2 : decide (c < 0x110000) = true := Array.all_eq_true'.mp ok c (Array.mem_toList_iff.mp h)
  show (#[c] : Array Nat).all _ = true
  simpa using h2
/-- for c in text -/
theorem ei_str {tg : Expr} (ha : EvE T X e ρ (.str x)) : EvI T X tg e ρ ((signsM x).map D.str) := fun _ _ _ _ hρ R q => wi (pi_str pe_we) (ha _ _ _ _ hρ _ fun _ _ _ g r => by
  cases r with
  | str _ ok =>
    refine ⟨x, rfl, q _ _ _ g fun B2 H2 e s => ⟨fun k d hd => ?_, ?_⟩⟩
    · rw [List.getElem?_map] at hd
      unfold signsM at hd
      rw [List.getElem?_map] at hd
      cases hc : x.cps.toList[k]? with
      | none =>
        rw [hc] at hd
        cases hd
      | some c =>
        rw [hc] at hd
        cases hd
        have hk : k < x.cps.size := by
          have := (List.getElem?_eq_some_iff.mp hc).1
          rwa [Array.length_toList] at this
        refine ⟨hk, fun z H' yl => ?_⟩
        obtain ⟨e1, c', hc', rfl⟩ := yl
        subst e1
        rw [Array.getElem?_toList] at hc
        rw [hc] at hc'
        cases hc'
        exact ⟨B2, .refl s, .str _ (sok_sign ok (List.mem_of_getElem? (by rw [Array.getElem?_toList]; exact hc)))⟩
    · show x.cps.size ≤ _
      unfold signsM
      rw [List.length_map, List.length_map, Array.length_toList]
      exact Nat.le_refl _)
/-- sign in text -/
theorem ev_inSign {k : Nat} (ha : EvE T X a ρ (.str ⟨#[k]⟩)) (hb : EvE T X b ρ (.str y)) (hm : behindInMarks .In b = false := by rfl) : EvE T X (.Compare a [.In] [b] pos) ρ (.bl (decide (k ∈ y.cps.toList))) := ev_cmp op_in_sign ha hb hm fun _ _ _ _ _ s hx hy q => by
  cases hx
  cases hy
  exact ⟨k, y, rfl, rfl, q _ _ _ (.refl s) (.bl _)⟩
/-- text.split(sep): new -/
theorem en_split (ho : EvE T X o ρ (.str x)) (he : EvE T X e ρ (.str y)) (h0 : (y.length == 0) = false) (hl : x.length ≤ 1000) (hok : ∀ n ∈ Txt.split x y, SOk n) (hs : starEach [e] X.env = [(false, eval e X.env)] := by rfl) (hbase : attributeBase o "split" X.env (eval o X.env) = eval o X.env := by rfl) (hline : (apos.endLine == pos.line) = true := by rfl) :
    EvN T X (.Call (.Attribute o "split" apos) [e] [] pos) ρ ((Txt.split x y).map D.str) := fun _ _ _ _ hρ Q q =>
  we (pe_split pe_we pe_we hs hbase hline) (ho _ _ _ _ hρ _ fun _ _ _ g1 r1 => by
    cases r1
    refine ⟨⟨x, rfl⟩, he _ _ _ _ (hρ.gr g1) _ fun _ _ _ g2 r2 => ?_⟩
    cases r2
    refine ⟨x, y, rfl, rfl, h0, by rw [sizeLine_eq]; omega, fun p hp => ?_⟩
    have g := g1.trans g2
    exact q _ _ _ _ (g.trans (.own g2.s hp)) (g.h.none hp) (g2.s.none hp) upd_same (reps_strs _ hok))
theorem ev_startswith (ho : EvE T X o ρ (.str x)) (he : EvE T X e ρ (.str y)) (hs : starEach [e] X.env = [(false, eval e X.env)] := by rfl) (hbase : attributeBase o "startswith" X.env (eval o X.env) = eval o X.env := by rfl) (hline : (apos.endLine == pos.line) = true := by rfl) :
    EvE T X (.Call (.Attribute o "startswith" apos) [e] [] pos) ρ (.bl (Txt.startswith x y)) := fun _ _ _ _ hρ Q q =>
  we (pe_m1 F.slot_str_startswith F.type_str_startswith mt_startswith pe_we pe_we hs hbase hline) (ho _ _ _ _ hρ _ fun _ _ _ g1 r1 => by
    cases r1
    refine ⟨⟨x, rfl⟩, he _ _ _ _ (hρ.gr g1) _ fun _ _ _ g2 r2 => ?_⟩
    cases r2
    exact ⟨x, y, rfl, rfl, q _ _ _ (g1.trans g2) (.bl _)⟩)
/-- text[a:b] -/
theorem ev_sliceS {lo hi : Option Expr} {u v : Option Int} (ha : EvE T X a ρ (.str x)) (hl : EvO T X lo ρ u) (hh : EvO T X hi ρ v) (hz : x.length ≤ 1000) (hok : SOk (Txt.slice x u v)) : EvE T X (.Subscript a (.Slice lo hi none p2) pos) ρ (.str (Txt.slice x u v)) := fun _ _ _ _ hρ Q q =>
  we (pe_slice C8.sl_txt pe_we po_wo po_wo) (ha _ _ _ _ hρ _ fun _ _ _ g1 r1 => hl _ _ _ _ (hρ.gr g1) _ fun _ _ g2 => hh _ _ _ _ (hρ.gr (g1.trans g2)) _ fun _ _ g3 => by
    cases r1
    exact ⟨x, rfl, Nat.le_trans hz (by decide), q _ _ _ ((g1.trans g2).trans g3) (.str _ hok)⟩)
theorem ev_intS {n : Int} (hm : X.mg "int" = none) (ha : EvE T X a ρ (.str x)) (hn : PySem.intText? x = some n) (hl : x.length ≤ 640) (hg : Gl X "int" := by rfl) (he : starEach [a] X.env = (false, eval a X.env) :: starEach [] X.env := by rfl) : EvE T X (.Call (.Name "int" p) [a] [] pos) ρ (.int n) := by
  refine ev_callTy call_int_str hm (by decide +kernel) (ea_cons ha ea_nil he) (fun B H vs Q s r q => ?_) hg (by decide) (by decide) he rfl
  cases r with
  | cons r1 r2 =>
    cases r2
    cases r1
    exact ⟨x, n, rfl, hn, hl, q _ _ _ (.refl s) (.int _)⟩
theorem call_tupleS (hc : X.calm = true) : CallR X (.type "tuple") (fun xs H Q => ∃ x : Str, xs = [.str x] ∧ x.cps.size ≤ 1000 ∧ ∀ p, H p = none → Q (.ref p) (upd H p (.tup ((signsM x).map V.str)))) := by
  intro pins s σ H xs us Q I r h
  obtain ⟨x, rfl, hl, q⟩ := h
  obtain ⟨u, rfl, t, rfl⟩ := vals1 r
  have hz : x.cps.size ≤ sizeLine := by
    rw [sizeLine_eq]
    omega
  refine call_tuple_str (I.ok.hd hc) x t (fun h' tk acc hk hacc => ?_) hz
  have I1 : Inv X pins σ H { s with heap := h', toks := tk } := I.kept hk
  have va : Vals ((signsM x).map V.str) acc.toList := by
    obtain ⟨e1, e2⟩ := hacc
    have gen : ∀ (cs : List Nat) (vs : List Value), cs.length = vs.length → (∀ (j : Nat) v, vs[j]? = some v → ∃ c u, cs[j]? = some c ∧ v = .str ⟨#[c]⟩ u) → Vals ((cs.map fun c => (⟨#[c]⟩ : Str)).map V.str) vs := by
      intro cs
      induction cs with
      | nil =>
        intro vs hl _
        cases vs with
        | nil => exact .nil
        | cons v vs => cases hl
      | cons c cs ih =>
        intro vs hl hv
        cases vs with
        | nil => cases hl
        | cons v vs =>
          obtain ⟨c', u, h1, h2⟩ := hv 0 v rfl
          have h1 : c = c' := by simpa using h1
          subst h1
          refine .cons ⟨u, h2⟩ (ih vs (by simpa using hl) fun j w hw => ?_)
          obtain ⟨c2, u2, g1, g2⟩ := hv (j + 1) w hw
          exact ⟨c2, u2, by simpa using g1, g2⟩
    refine gen x.cps.toList acc.toList (by rw [Array.length_toList, Array.length_toList, e1]) fun j v hv => ?_
    rw [Array.getElem?_toList] at hv
    obtain ⟨c, u, g1, g2⟩ := e2 j v hv
    exact ⟨c, u, by rw [Array.getElem?_toList]; exact g1, g2⟩
  have zl : ((signsM x).map V.str).length ≤ sizeLine := by
    unfold signsM
    rw [List.length_map, List.length_map, Array.length_toList]
    exact hz
  obtain ⟨its⟩ := acc
  have I2 : Inv X pins σ (upd H h'.objs.size (.tup ((signsM x).map V.str))) { s with heap := h'.push { cls := .type "tuple", data := .seq its.toArray }, toks := tk } :=
    I1.laid (t' := tk) (fun b o e => Heap.get?_push_of_some _ e) (Nat.le_refl _) (show ObjOk X.prog X.w _ _ _ (.tup ((signsM x).map V.str)) from ⟨zl, its, va, IsTup.new _ _⟩)
  exact ⟨.ref h'.objs.size, _, I2, rfl, q _ (I1.hok.fresh (Nat.le_refl _))⟩
theorem ev_tupleS (hc : X.calm = true) (hm : X.mg "tuple" = none) (ha : EvE T X a ρ (.str x)) (hl : x.cps.size ≤ 1000) (hg : Gl X "tuple" := by rfl) (he : starEach [a] X.env = (false, eval a X.env) :: starEach [] X.env := by rfl) : EvE T X (.Call (.Name "tuple" p) [a] [] pos) ρ (encNt (signsM x)) := by
  refine ev_callTy (call_tupleS hc) hm (by decide +kernel) (ea_cons ha ea_nil he) (fun B H vs Q s r q => ?_) hg (by decide) (by decide) he rfl
  cases r with
  | cons r1 r2 =>
    cases r2
    cases r1 with
    | str _ ok =>
      refine ⟨x, rfl, hl, fun l hl => q _ _ _ (.new s hl) (.tup (.of upd_same) (reps_strs _ fun n hn => ?_))⟩
      unfold signsM at hn
      obtain ⟨c, hc, rfl⟩ := List.mem_map.mp hn
      exact sok_sign ok hc
end
/-- a staticmethod's contract -/
theorem good_stat {c : Cn} {C : Addr} {x q : Str} {st : Stmt} {N ps : List Str} {k : Nat} {α : Type} {args : α → List D} {pre : α → Prop} {res : α → D} (h : StatAt c C x q st) (S : FnScope N ps (defScope st)) (hb : BindN x q st ps) (hl : ∀ y, (args y).length = ps.length) (hps : ps.length ≤ N.length) (body : BodyOk c q st N k args pre res) :
    GoodS c C x (k + 1) ps (SpP c.K (ca c.K) args pre res) := by
  obtain ⟨p, f, fd, sm, F⟩ := h
  exact ⟨p, f, fd, sm, F.kp, F.bindsN hb, fn_good F S hl hps (body f)⟩
end PL
/-! TX2: the defs that read texts, at the texts that occur -/
namespace PL
open PySem PySem.Spec PyProof.Rows L2
def abc : Str := "abcdefghijklmnopqrstuvwxyz"
def digs10 : Str := "0123456789"
def nameB (n : Str) : Bool := decide (0 < n.length) && (decide (n.length ≤ 8) && (n.cps.toList.all (fun c => decide (c ∈ abc.cps.toList)) && PyData.strOk n))
def names7 : List Str := ["a", "b", "c", "d", "e", "f", "g"]
/-- what the texts of labels tell -/
def labTexts : List (Str × List Str × Bool) := [("*", [], true), ("* - h", ["h"], true), ("a b c d e f g", names7, false)]
/-- what the texts of steps tell, and their text behind the kind -/
def stTexts : List (Str × Str × Stp) := [("drop *", "*", .drop [] true), ("drop * - h", "* - h", .drop ["h"] true), ("cut 1", "1", .cut 1), ("cut 11", "11", .cut 11), ("unwrap a b c d e f g", "a b c d e f g", .unw names7 false)]
def nmTexts : List (Str × List Str) := [("h", ["h"]), ("a b c d e f g", names7)]
def numTexts : List (Str × Nat) := [("1", 1), ("11", 11)]
def stB (y : Str × Str × Stp) : Bool := decide ((Txt.split y.1 " ").head? = some y.2.2.kind) && (decide (Txt.slice y.1 (some ((y.2.2.kind.length : Int) + 1)) none = y.2.1) && (decide (y.1 ≠ y.2.2.kind) && (decide (y.1.length ≤ 100) && ((Txt.split y.1 " ").all PyData.strOk && (PyData.strOk y.1 && PyData.strOk y.2.1)))))
theorem st_facts : ∀ y ∈ stTexts, stB y = true := by decide +kernel
theorem nm_facts : ∀ y ∈ nmTexts, (decide (Txt.split y.1 " " = y.2) && (y.2.all nameB && (decide (y.1.length ≤ 100) && decide (y.2.length ≤ 20)))) = true := by decide +kernel
theorem nm_srt : ∀ y ∈ nmTexts, SrtN y.2 := by
  unfold SrtN LtN
  decide +kernel
theorem str_len0 (x : Str) : x.length = x.cps.toList.length := by
  show x.cps.size = _
  rw [Array.length_toList]
section
variable {c : Cn}
theorem g_is_name (h : Hd c) : Good c "is_name" 1 ["thing"] (SpP c.K (ca c.K) (fun x : Str => [.str x]) (fun x => nameB x = true) (fun _ => .bl true)) := by
  refine good_def (N := ["thing", "sign"]) h.d_is_name ⟨rfl, rfl, rfl, by decide +kernel, rfl, by decide +kernel, by decide +kernel⟩ (fun _ _ _ _ _ _ us hl => match us, hl with | [_], _ => rfl) (fun _ => rfl) (by decide) ?_
  rintro f cdv A outer s H E hr x hx
  have hx : nameB x = true := hx
  obtain ⟨h1, hx⟩ := Bool.and_eq_true_iff.mp hx
  obtain ⟨h2, hx⟩ := Bool.and_eq_true_iff.mp hx
  obtain ⟨h3, h4⟩ := Bool.and_eq_true_iff.mp hx
  have h1 := of_decide_eq_true h1
  have h2 := of_decide_eq_true h2
  have nd : (["thing", "sign"] : List Str).Nodup := by decide +kernel
  refine wb_cons (w_if (z := false) (EvT.to (EvW.t (ew_or (et_not (et_val (ev_isi (n := "str") (t := "str") (z := true) h.f_isinstance h.f_str (by decide +kernel) (ev_var 0 rfl (.inl rfl) rfl) rfl (by decide +kernel)))) fun _ => ew_or1 (et_not (et_chain op_lt' op_le' ev_int (ev_lenS h.f_len (ev_var 0 rfl (.inl rfl) rfl) (by omega)) (ev_gint rfl h.k_LONGEST.choose_spec))))) (by show (false || !(decide (0 < (x.length : Int)) && decide ((x.length : Int) ≤ 8))) = false; rw [decide_eq_true (by omega : (0 : Int) < (x.length : Int)), decide_eq_true (by omega : (x.length : Int) ≤ 8)]; rfl)) (fun z => nomatch z) fun _ => wb_nil ?_)
  refine wb_ret (ev_all (bs := (signsM x).map fun _ => true) rfl h.f_all (EvE.to (EvN.toE (en_lc (enc := D.str) (p := fun _ => true) (f := fun _ => .bl true) (xs := signsM x) rfl nd [("sign", 1)] (blk_of rfl) (ei_str (ev_var 0 rfl (.inl rfl) rfl)) ⟨fun y hy => ?turn⟩ ?len)) (by rw [keep_all, List.map_map]; rfl))) ?fin
  case turn =>
    unfold signsM at hy
    obtain ⟨k, hk, rfl⟩ := List.mem_map.mp hy
    have hm := List.all_eq_true.mp h3 k hk
    exact ⟨_, _, by decide, fun _ _ _ _ _ => ⟨eg_name 1 nd rfl (.inl rfl), ets_nil, fun _ => EvE.to (ev_inSign (ev_var 1 rfl (.inl rfl) rfl) (ev_gstr (z := abc) rfl h.k_LETTERS.choose_spec)) (congrArg D.bl hm)⟩⟩
  case len =>
    unfold signsM
    rw [List.length_map, ← str_len0]
    omega
  case fin =>
    rw [all_map]
    congr 1
    simp
theorem g_names_in (h : Hd c) : Good c "names_in" 2 ["text"] (SpP c.K (ca c.K) (fun y : Str × List Str => [.str y.1]) (fun y => y ∈ nmTexts) (fun y => encNt y.2)) := by
  refine good_def (N := ["text", "found", "name"]) h.d_names_in ⟨rfl, rfl, rfl, by decide +kernel, rfl, by decide +kernel, by decide +kernel⟩ (fun _ _ _ _ _ _ us hl => match us, hl with | [_], _ => rfl) (fun _ => rfl) (by decide) ?_
  rintro f cdv A outer s H E hr ⟨x, ns⟩ hy
  have hs : SrtN ns := nm_srt _ hy
  obtain ⟨h1, h2⟩ := Bool.and_eq_true_iff.mp (nm_facts _ hy)
  obtain ⟨h2, h3⟩ := Bool.and_eq_true_iff.mp h2
  obtain ⟨h3, h4⟩ := Bool.and_eq_true_iff.mp h3
  have h1 : Txt.split x " " = ns := of_decide_eq_true h1
  have h3 : x.length ≤ 100 := of_decide_eq_true h3
  have h4 : ns.length ≤ 20 := of_decide_eq_true h4
  have h2 : ∀ n ∈ ns, nameB n = true := fun n hn => List.all_eq_true.mp h2 n hn
  have nd : (["text", "found", "name"] : List Str).Nodup := by decide +kernel
  refine wb_cons (w_setN 1 nd rfl (.inl rfl) (EvN.to (en_split (y := " ") (ev_var 0 rfl (.inl rfl) rfl) ev_str (by decide +kernel) (show x.length ≤ 1000 by omega) (fun n hn => ?ok)) (by rw [h1])) (wb_frz 1 rfl ?_))
  case ok =>
    rw [h1] at hn
    have q := h2 n hn
    exact (Bool.and_eq_true_iff.mp (Bool.and_eq_true_iff.mp (Bool.and_eq_true_iff.mp q).2).2).2
  refine wb_cons (w_if (z := false) (EvT.to (EvW.t (ew_or (et_not (et_val (ev_all (bs := ns.map fun _ => true) rfl h.f_all (EvE.to (EvN.toE (en_lc (enc := (D.str)) (p := (fun _ => true)) (f := (fun _ => .bl true)) (xs := (ns)) rfl nd [("name", 2)] (blk_of rfl) (ei_lst (ev_var 1 rfl (.inl rfl) rfl)) ⟨fun n hn => ⟨_, _, by decide, fun _ _ _ _ _ => ⟨(eg_name 2 nd rfl (.inl rfl)), ets_nil, fun _ => (EvE.to (ev_call (g_is_name h) (n) rfl (hr.mono (by decide)) (ea_cons (ev_var 2 rfl (.inl rfl) rfl) ea_nil) (h2 n hn)) rfl)⟩⟩⟩ (by omega))) (by rw [keep_all, List.map_map]; rfl))))) fun _ => ew_or1 (et_ne hr.units (ev_var 1 rfl (.inl rfl) rfl) (EvN.toE (en_ssetS rfl hr.units h.f_sorted h.f_set (ev_var 1 rfl (.inl rfl) rfl) (.inl rfl) (by omega))) ?eqa))) ?zz) (fun z => nomatch z) fun _ => wb_nil (wb_ret (ev_tupleL h.f_tuple (ev_var 1 rfl (.inl rfl) rfl) (.inl rfl)) rfl))
  case eqa =>
    rw [ssetS_id hs]
    refine eqbl (pls_map (fun _ => rfl) ns) (pls_map (fun _ => rfl) ns) ?_ ?_ <;>
    · rw [dp_lst]
      have := dps_map (enc := D.str) (n := 0) (fun a => Nat.le_of_eq (dp_str a)) ns
      omega
  case zz =>
    show (!((ns.map fun _ => true).all id) || !PyData.eqv (D.lst (ns.map D.str)).py (D.lst ((ssetS ns).map D.str)).py) = false
    rw [ssetS_id hs, lst_py, map_py str_py, all_map, decide_eq_true rfl]
    simp
theorem g_number_in (h : Hd c) : Good c "number_in" 1 ["text"] (SpP c.K (ca c.K) (fun y : Str × Nat => [.str y.1]) (fun y => y ∈ numTexts) (fun y => .int (y.2 : Int))) := by
  refine good_def (N := ["text", "sign"]) h.d_number_in ⟨rfl, rfl, rfl, by decide +kernel, rfl, by decide +kernel, by decide +kernel⟩ (fun _ _ _ _ _ _ us hl => match us, hl with | [_], _ => rfl) (fun _ => rfl) (by decide) ?_
  rintro f cdv A outer s H E hr ⟨x, n⟩ hy
  have fa : (decide (x ≠ "") && (x.cps.toList.all (fun c => decide (c ∈ digs10.cps.toList)) && (decide (x.length ≤ 100) && (decide (PySem.intText? x = some (n : Int)) && (x.cps.toList.head?.any fun k => decide ((⟨#[k]⟩ : Str) ≠ "0")))))) = true := (show ∀ y ∈ numTexts, (decide (y.1 ≠ "") && (y.1.cps.toList.all (fun c => decide (c ∈ digs10.cps.toList)) && (decide (y.1.length ≤ 100) && (decide (PySem.intText? y.1 = some (y.2 : Int)) && (y.1.cps.toList.head?.any fun k => decide ((⟨#[k]⟩ : Str) ≠ "0")))))) = true by decide +kernel) _ hy
  obtain ⟨h1, fa⟩ := Bool.and_eq_true_iff.mp fa
  obtain ⟨h2, fa⟩ := Bool.and_eq_true_iff.mp fa
  obtain ⟨h3, fa⟩ := Bool.and_eq_true_iff.mp fa
  obtain ⟨h4, h5⟩ := Bool.and_eq_true_iff.mp fa
  have h1 : x ≠ "" := of_decide_eq_true h1
  have h3 : x.length ≤ 100 := of_decide_eq_true h3
  have h4 : PySem.intText? x = some (n : Int) := of_decide_eq_true h4
  have nd : (["text", "sign"] : List Str).Nodup := by decide +kernel
  refine wb_cons (w_if (z := false) (EvT.to (EvW.t (ew_or (et_eq hr.units (ev_var 0 rfl (.inl rfl) rfl) ev_str (eqStr _ _)) fun _ => ew_or1 (et_not (et_val (ev_all (bs := (signsM x).map fun _ => true) rfl h.f_all (EvE.to (EvN.toE (en_lc (enc := D.str) (p := fun _ => true) (f := fun _ => .bl true) (xs := signsM x) rfl nd [("sign", 1)] (blk_of rfl) (ei_str (ev_var 0 rfl (.inl rfl) rfl)) ⟨fun y hy => ?turn⟩ ?len)) (by rw [keep_all, List.map_map]; rfl))))))) ?zz) (fun z => nomatch z) fun _ => wb_nil ?_)
  case turn =>
    unfold signsM at hy
    obtain ⟨k, hk, rfl⟩ := List.mem_map.mp hy
    have hm := List.all_eq_true.mp h2 k hk
    exact ⟨_, _, by decide, fun _ _ _ _ _ => ⟨eg_name 1 nd rfl (.inl rfl), ets_nil, fun _ => EvE.to (ev_inSign (y := digs10) (ev_var 1 rfl (.inl rfl) rfl) ev_str) (congrArg D.bl hm)⟩⟩
  case len =>
    unfold signsM
    rw [List.length_map, ← str_len0]
    omega
  case zz =>
    show (PyData.eqv (D.str x).py (D.str "").py || !((signsM x).map fun _ => true).all id) = false
    rw [str_py, decide_eq_false h1, all_map]
    simp
  cases hk : x.cps.toList with
  | nil =>
    rw [hk] at h5
    cases h5
  | cons k ks =>
    rw [hk] at h5
    have h5 : (⟨#[k]⟩ : Str) ≠ "0" := of_decide_eq_true h5
    refine wb_ret (ev_ifF (EvT.to (EvW.t (ew_and (z := false) (z2 := false) (EvT.to (et_eq hr.units (ev_ixS (x := x) (k := k) (ev_var 0 rfl (.inl rfl) rfl) ev_int (show x.length ≤ 100000 by omega) (by rw [hk]; exact atI_zero)) ev_str (eqStr _ _)) ((str_py _ _).trans (decide_eq_false h5))) fun z => nomatch z)) rfl) (ev_intS h.f_int (ev_var 0 rfl (.inl rfl) rfl) h4 (show x.length ≤ 640 by omega))) rfl
end
end PL
/-! TX3: texts of labels, steps, pipelines; the part by hand -/
namespace PL
open PySem PySem.Spec PyProof.Rows L2
def pipTexts : List (Str × List (Str × Str × Stp)) := [("drop *", [("drop *", "*", .drop [] true)]), ("drop * - h; cut 1", [("drop * - h", "* - h", .drop ["h"] true), ("cut 1", "1", .cut 1)]), ("cut 11; unwrap a b c d e f g; cut 1", [("cut 11", "11", .cut 11), ("unwrap a b c d e f g", "a b c d e f g", .unw names7 false), ("cut 1", "1", .cut 1)])]
theorem pip_facts : ∀ y ∈ pipTexts, (decide (Txt.split y.1 "; " = y.2.map (·.1)) && (decide (y.1 ≠ "-") && (decide (y.1.length ≤ 100) && (y.2.map (·.1)).all PyData.strOk))) = true := by decide +kernel
theorem srt7 : SrtN names7 := by
  unfold SrtN LtN
  decide +kernel
theorem srtH : SrtN (["h"] : List Str) := List.pairwise_singleton _ _
theorem st_good : ∀ y ∈ stTexts, y.2.2.ok ∧ lotIn ns8 y.2.2 ∧ lotNd y.2.2 ∧ normM y.2.2 = y.2.2 := by
  intro y hy
  simp only [stTexts, List.mem_cons, List.not_mem_nil, or_false] at hy
  rcases hy with rfl | rfl | rfl | rfl | rfl
  · exact ⟨True.intro, fun n hn => (nomatch hn), List.nodup_nil, congrArg (fun z => Stp.drop z true) (ssetS_id List.Pairwise.nil)⟩
  · refine ⟨True.intro, fun n hn => ?_, srtH.nodup, congrArg (fun z => Stp.drop z true) (ssetS_id srtH)⟩
    rw [List.mem_singleton.mp hn]
    decide +kernel
  · exact ⟨(by decide : (1 : Int) ≤ 1), True.intro, True.intro, rfl⟩
  · exact ⟨(by decide : (1 : Int) ≤ 11), True.intro, True.intro, rfl⟩
  · exact ⟨True.intro, (show ∀ n ∈ names7, n ∈ ns8 by decide +kernel), srt7.nodup, congrArg (fun z => Stp.unw z false) (ssetS_id srt7)⟩
theorem pip_sub : ∀ y ∈ pipTexts, (∀ t ∈ y.2, t ∈ stTexts) ∧ y.2.length ≤ 3 := by
  intro y hy
  simp only [pipTexts, List.mem_cons, List.not_mem_nil, or_false] at hy
  rcases hy with rfl | rfl | rfl
  · exact ⟨fun t ht => by rw [List.mem_singleton.mp ht]; simp [stTexts], by decide⟩
  · refine ⟨fun t ht => ?_, by decide⟩
    simp only [List.mem_cons, List.not_mem_nil, or_false] at ht
    rcases ht with rfl | rfl <;> simp [stTexts]
  · refine ⟨fun t ht => ?_, by decide⟩
    simp only [List.mem_cons, List.not_mem_nil, or_false] at ht
    rcases ht with rfl | rfl | rfl <;> simp [stTexts]
section
variable {c : Cn}
theorem g_lab_of (h : Hd c) : GoodS c (CL c) "of" 4 ["text"] (SpP c.K (ca c.K) (fun y : Str × List Str × Bool => [.str y.1]) (fun y => y ∈ labTexts) (fun y => .lab y.2.1 y.2.2)) := by
  refine good_stat (N := ["text", "rest", "found"]) h.s_Labels_of ⟨rfl, rfl, rfl, by decide +kernel, rfl, by decide +kernel, by decide +kernel⟩ (fun _ _ _ _ _ _ us hl => match us, hl with | [_], _ => rfl) (fun _ => rfl) (by decide) ?_
  rintro f cdv A outer s H E hr y hy
  have nd : (["text", "rest", "found"] : List Str).Nodup := by decide +kernel
  have hy : y ∈ labTexts := hy
  simp only [labTexts, List.mem_cons, List.not_mem_nil, or_false] at hy
  rcases hy with rfl | rfl | rfl
  · refine wb_cons (w_if (z := true) (EvT.to (et_in (v := .str "*") (vs := [.str "-", .str "*"]) (ev_var 0 rfl (.inl rfl) rfl) (ev_tup (ea_cons (ev_gstr rfl h.k_NOTHING_labels.choose_spec) (ea_cons (ev_gstr rfl h.k_ALL.choose_spec) ea_nil))) rfl (.inr rfl) rfl) (by decide +kernel)) (fun _ => wb_ret (ev_make (i_labels2 h) h.g_Labels (fun _ => .nil) (false, [], true) rfl (hr.mono (by decide)) (ea_cons (ev_tup ea_nil) (ea_cons (EvE.to (ev_eq hr.units (ev_var 0 rfl (.inl rfl) rfl) (ev_gstr rfl h.k_ALL.choose_spec) (eqStr _ _)) (by rw [str_py]; exact congrArg D.bl (decide_eq_true rfl))) ea_nil)) rfl (by decide)) ?_) fun z => nomatch z)
    exact congrArg (fun z => D.lab z true) (ssetS_id List.Pairwise.nil)
  · refine wb_cons (w_if (z := false) (EvT.to (et_in (v := .str "* - h") (vs := [.str "-", .str "*"]) (ev_var 0 rfl (.inl rfl) rfl) (ev_tup (ea_cons (ev_gstr rfl h.k_NOTHING_labels.choose_spec) (ea_cons (ev_gstr rfl h.k_ALL.choose_spec) ea_nil))) rfl (.inr rfl) rfl) (by decide +kernel)) (fun z => nomatch z) fun _ => wb_nil ?_)
    refine wb_cons (w_set 1 nd rfl (.inl rfl) (d := .bl true) (EvE.to (ev_startswith (ev_var 0 rfl (.inl rfl) rfl) (ev_gstr rfl h.k_BUT.choose_spec)) (congrArg D.bl (show Txt.startswith "* - h" "* - " = true by decide +kernel))) ?_)
    refine wb_cons (w_set 2 nd rfl (.inl rfl) (ev_call (g_names_in h) ("h", ["h"]) rfl (hr.mono (by decide)) (ea_cons (ev_ifT (et_val (ev_var 1 rfl (.inl rfl) rfl)) (EvE.to (ev_sliceS (u := some 4) (v := none) (ev_var 0 rfl (.inl rfl) rfl) (eo_some (EvE.to (ev_lenS h.f_len (ev_gstr rfl h.k_BUT.choose_spec) (by decide +kernel)) (congrArg D.int (show ((("* - " : Str).length : Nat) : Int) = 4 by decide +kernel)))) eo_none (by decide +kernel) (by decide +kernel)) (congrArg D.str (show Txt.slice "* - h" (some 4) none = ("h" : Str) by decide +kernel)))) ea_nil) (by simp [nmTexts])) ?_)
    refine wb_cons (w_if (EvT.to (et_isN (ev_var 2 rfl (.inl rfl) rfl)) (show D.isNon (encNt ["h"]) = false from rfl)) (fun z => nomatch z) fun _ => wb_nil (wb_ret (ev_make (i_labels2 h) h.g_Labels (fun _ => .nil) (false, ["h"], true) rfl (hr.mono (by decide)) (ea_cons (ev_var 2 rfl (.inl rfl) rfl) (ea_cons (ev_var 1 rfl (.inl rfl) rfl) ea_nil)) rfl (by decide)) ?_))
    exact congrArg (fun z => D.lab z true) (ssetS_id srtH)
  · refine wb_cons (w_if (z := false) (EvT.to (et_in (v := .str "a b c d e f g") (vs := [.str "-", .str "*"]) (ev_var 0 rfl (.inl rfl) rfl) (ev_tup (ea_cons (ev_gstr rfl h.k_NOTHING_labels.choose_spec) (ea_cons (ev_gstr rfl h.k_ALL.choose_spec) ea_nil))) rfl (.inr rfl) rfl) (by decide +kernel)) (fun z => nomatch z) fun _ => wb_nil ?_)
    refine wb_cons (w_set 1 nd rfl (.inl rfl) (d := .bl false) (EvE.to (ev_startswith (ev_var 0 rfl (.inl rfl) rfl) (ev_gstr rfl h.k_BUT.choose_spec)) (congrArg D.bl (show Txt.startswith "a b c d e f g" "* - " = false by decide +kernel))) ?_)
    refine wb_cons (w_set 2 nd rfl (.inl rfl) (ev_call (g_names_in h) ("a b c d e f g", names7) rfl (hr.mono (by decide)) (ea_cons (ev_ifF (et_val (ev_var 1 rfl (.inl rfl) rfl)) (ev_var 0 rfl (.inl rfl) rfl)) ea_nil) (by simp [nmTexts])) ?_)
    refine wb_cons (w_if (EvT.to (et_isN (ev_var 2 rfl (.inl rfl) rfl)) (show D.isNon (encNt names7) = false from rfl)) (fun z => nomatch z) fun _ => wb_nil (wb_ret (ev_make (i_labels2 h) h.g_Labels (fun _ => .nil) (false, names7, false) rfl (hr.mono (by decide)) (ea_cons (ev_var 2 rfl (.inl rfl) rfl) (ea_cons (ev_var 1 rfl (.inl rfl) rfl) ea_nil)) rfl (by decide)) ?_))
    exact congrArg (fun z => D.lab z false) (ssetS_id srt7)
theorem g_what_in (h : Hd c) : Good c "what_in" 5 ["kind", "text"] (SpP c.K (ca c.K) (fun y : Str × Str × Stp => [.str y.2.2.kind, .str y.2.1]) (fun y => y ∈ stTexts) (fun y => y.2.2.what)) := by
  refine good_def (N := ["kind", "text"]) h.d_what_in ⟨rfl, rfl, rfl, by decide +kernel, rfl, by decide +kernel, by decide +kernel⟩ (fun _ _ _ _ _ _ us hl => match us, hl with | [_, _], _ => rfl) (fun _ => rfl) (by decide) ?_
  rintro f cdv A outer s H E hr y hy
  have hy : y ∈ stTexts := hy
  have kt : ∀ {X : Cx} {ρ : List Sl} {k v : Str} {nm : Str} {px p2 : Pos} {z : Bool}, X.A.units + 64 < cLine → EvE (ca c.K) X (.Name "kind" px) ρ (.str k) → EvE (ca c.K) X (.Name nm p2) ρ (.str v) → decide (k = v) = z → ∀ pos, EvT (ca c.K) X (.Compare (.Name "kind" px) [.Eq] [.Name nm p2] pos) ρ z := fun hu h1 h2 e pos => EvT.to (et_eq hu h1 h2 (eqStr _ _)) ((str_py _ _).trans e)
  have cutc : ∀ (y : Str × Str × Stp) (n : Nat), y.2.2 = .cut (n : Int) → (y.2.1, n) ∈ numTexts → WB (ca c.K) (bodyX c ["kind", "text"] "what_in" (defScope (top 35)) f cdv A outer s H E) (defBody (top 35)) (rho0 2 [.str y.2.2.kind, .str y.2.1]) { nx := fun _ => y.2.2.what = .non, rt := fun d => d = y.2.2.what } := fun y n e hn => by
    rw [e]
    exact wb_cons (w_if (EvT.to (et_eq hr.units (ev_var 0 rfl (.inl rfl) rfl) (ev_gstr rfl h.k_CUT.choose_spec) (eqStr _ _)) ((str_py _ _).trans (show decide (("cut" : Str) = "cut") = true by decide +kernel))) (fun _ => wb_ret (ev_call (g_number_in h) (y.2.1, n) rfl (hr.mono (by decide)) (ea_cons (ev_var 1 rfl (.inl rfl) rfl) ea_nil) hn) rfl) fun z => nomatch z)
  have dropc : ∀ (t : Str) (ns : List Str) (r : Bool), (t, ns, r) ∈ labTexts → WB (ca c.K) (bodyX c ["kind", "text"] "what_in" (defScope (top 35)) f cdv A outer s H E) (defBody (top 35)) (rho0 2 [.str "drop", .str t]) { nx := fun _ => D.lab ns r = .non, rt := fun d => d = .lab ns r } := fun t ns r hn => by
    refine wb_cons (w_if (EvT.to (et_eq hr.units (ev_var 0 rfl (.inl rfl) rfl) (ev_gstr rfl h.k_CUT.choose_spec) (eqStr _ _)) ((str_py _ _).trans (show decide (("drop" : Str) = "cut") = false by decide +kernel))) (fun z => nomatch z) fun _ => wb_nil ?_)
    refine wb_cons (w_if (EvT.to (et_eq hr.units (ev_var 0 rfl (.inl rfl) rfl) (ev_gstr rfl h.k_RENAME.choose_spec) (eqStr _ _)) ((str_py _ _).trans (show decide (("drop" : Str) = "rename") = false by decide +kernel))) (fun z => nomatch z) fun _ => wb_nil ?_)
    exact wb_ret (ev_stat (g_lab_of h) h.g_Labels (t, ns, r) rfl (hr.mono (by decide)) (ea_cons (ev_var 1 rfl (.inl rfl) rfl) ea_nil) hn) rfl
  have unwc : ∀ (t : Str) (ns : List Str) (r : Bool), (t, ns, r) ∈ labTexts → WB (ca c.K) (bodyX c ["kind", "text"] "what_in" (defScope (top 35)) f cdv A outer s H E) (defBody (top 35)) (rho0 2 [.str "unwrap", .str t]) { nx := fun _ => D.lab ns r = .non, rt := fun d => d = .lab ns r } := fun t ns r hn => by
    refine wb_cons (w_if (EvT.to (et_eq hr.units (ev_var 0 rfl (.inl rfl) rfl) (ev_gstr rfl h.k_CUT.choose_spec) (eqStr _ _)) ((str_py _ _).trans (show decide (("unwrap" : Str) = "cut") = false by decide +kernel))) (fun z => nomatch z) fun _ => wb_nil ?_)
    refine wb_cons (w_if (EvT.to (et_eq hr.units (ev_var 0 rfl (.inl rfl) rfl) (ev_gstr rfl h.k_RENAME.choose_spec) (eqStr _ _)) ((str_py _ _).trans (show decide (("unwrap" : Str) = "rename") = false by decide +kernel))) (fun z => nomatch z) fun _ => wb_nil ?_)
    exact wb_ret (ev_stat (g_lab_of h) h.g_Labels (t, ns, r) rfl (hr.mono (by decide)) (ea_cons (ev_var 1 rfl (.inl rfl) rfl) ea_nil) hn) rfl
  simp only [stTexts, List.mem_cons, List.not_mem_nil, or_false] at hy
  rcases hy with rfl | rfl | rfl | rfl | rfl
  · exact dropc "*" [] true (by simp [labTexts])
  · exact dropc "* - h" ["h"] true (by simp [labTexts])
  · exact cutc ("cut 1", "1", .cut 1) 1 rfl (by simp [numTexts])
  · exact cutc ("cut 11", "11", .cut 11) 11 rfl (by simp [numTexts])
  · exact unwc "a b c d e f g" names7 false (by simp [labTexts])
theorem g_step_of (h : Hd c) : GoodS c (CS c) "of" 8 ["text"] (SpP c.K (ca c.K) (fun y : Str × Str × Stp => [.str y.1]) (fun y => y ∈ stTexts) (fun y => y.2.2.enc)) := by
  refine good_stat (N := ["text", "kind", "what"]) h.s_Step_of ⟨rfl, rfl, rfl, by decide +kernel, rfl, by decide +kernel, by decide +kernel⟩ (fun _ _ _ _ _ _ us hl => match us, hl with | [_], _ => rfl) (fun _ => rfl) (by decide) ?_
  rintro f cdv A outer s H E hr ⟨x, t, s0⟩ hy
  have hy : (x, t, s0) ∈ stTexts := hy
  obtain ⟨h1, fa⟩ := Bool.and_eq_true_iff.mp (st_facts _ hy)
  obtain ⟨h2, fa⟩ := Bool.and_eq_true_iff.mp fa
  obtain ⟨h3, fa⟩ := Bool.and_eq_true_iff.mp fa
  obtain ⟨h4, fa⟩ := Bool.and_eq_true_iff.mp fa
  obtain ⟨h5, fa⟩ := Bool.and_eq_true_iff.mp fa
  obtain ⟨h6, h7⟩ := Bool.and_eq_true_iff.mp fa
  have h1 : (Txt.split x " ").head? = some s0.kind := of_decide_eq_true h1
  have h2 : Txt.slice x (some ((s0.kind.length : Int) + 1)) none = t := of_decide_eq_true h2
  have h3 : x ≠ s0.kind := of_decide_eq_true h3
  have h4 : x.length ≤ 100 := of_decide_eq_true h4
  have h5 : ∀ n ∈ Txt.split x " ", SOk n := fun n hn => List.all_eq_true.mp h5 n hn
  have h7 : SOk t := h7
  have hok := (st_good _ hy).1
  have nd : (["text", "kind", "what"] : List Str).Nodup := by decide +kernel
  have kl : s0.kind.length ≤ 10 := by
    cases s0 with
    | cut n => exact (show ("cut" : Str).length ≤ 10 by decide +kernel)
    | drop ns r => exact (show ("drop" : Str).length ≤ 10 by decide +kernel)
    | unw ns r => exact (show ("unwrap" : Str).length ≤ 10 by decide +kernel)
  have kin : inV (.str s0.kind) [.str "drop", .str "unwrap", .str "cut", .str "rename"] = true := by
    cases s0 with
    | cut n => exact (show inV (.str "cut") [.str "drop", .str "unwrap", .str "cut", .str "rename"] = true by decide +kernel)
    | drop ns r => exact (show inV (.str "drop") [.str "drop", .str "unwrap", .str "cut", .str "rename"] = true by decide +kernel)
    | unw ns r => exact (show inV (.str "unwrap") [.str "drop", .str "unwrap", .str "cut", .str "rename"] = true by decide +kernel)
  have wn : s0.what.isNon = false := by cases s0 <;> rfl
  have at0 : atI ((Txt.split x " ").map D.str) 0 = some (.str s0.kind) := by
    cases q : Txt.split x " " with
    | nil =>
      rw [q] at h1
      cases h1
    | cons z zs =>
      rw [q] at h1
      cases h1
      exact atI_zero
  refine wb_cons (w_set 1 nd rfl (.inl rfl) (ev_ixL (EvN.toE (en_split (x := x) (y := " ") (ev_var 0 rfl (.inl rfl) rfl) ev_str (by decide +kernel) (by omega) h5)) ev_int at0) ?_)
  refine wb_cons (w_if (z := false) (EvT.to (EvW.t (ew_or (et_notIn (v := .str s0.kind) (vs := [.str "drop", .str "unwrap", .str "cut", .str "rename"]) (ev_var 1 rfl (.inl rfl) rfl) (ev_tup (ea_cons (ev_gstr rfl h.k_DROP.choose_spec) (ea_cons (ev_gstr rfl h.k_UNWRAP.choose_spec) (ea_cons (ev_gstr rfl h.k_CUT.choose_spec) (ea_cons (ev_gstr rfl h.k_RENAME.choose_spec) ea_nil))))) rfl (.inr rfl) rfl) fun _ => ew_or1 (et_eq hr.units (ev_var 0 rfl (.inl rfl) rfl) (ev_var 1 rfl (.inl rfl) rfl) (eqStr x s0.kind)))) (by rw [kin, str_py, decide_eq_false h3]; rfl)) (fun z => nomatch z) fun _ => wb_nil ?_)
  refine wb_cons (w_set 2 nd rfl (.inl rfl) (ev_call (g_what_in h) (x, t, s0) rfl (hr.mono (by decide)) (ea_cons (ev_var 1 rfl (.inl rfl) rfl) (ea_cons (EvE.to (ev_sliceS (x := x) (u := some ((s0.kind.length : Int) + 1)) (v := none) (ev_var 0 rfl (.inl rfl) rfl) (eo_some (ev_add (ev_lenS h.f_len (ev_var 1 rfl (.inl rfl) rfl) (by omega)) ev_int)) eo_none (by omega) (by rw [h2]; exact h7)) (congrArg D.str h2)) ea_nil)) hy) ?_)
  refine wb_cons (w_if (z := false) (EvT.to (EvW.t (ew_or (et_isN (ev_var 2 rfl (.inl rfl) rfl)) fun _ => ew_or1 (et_not (et_val (ev_call (g_is_step h) s0 rfl (hr.mono (by decide)) (ea_cons (ev_var 1 rfl (.inl rfl) rfl) (ea_cons (ev_var 2 rfl (.inl rfl) rfl) ea_nil)) hok))))) (by show (s0.what.isNon || !true) = false; rw [wn]; rfl)) (fun z => nomatch z) fun _ => wb_nil ?_)
  exact wb_ret (ev_make (i_step h) h.g_Step (fun _ => .nil) s0 rfl (hr.mono (by decide)) (ea_cons (ev_var 1 rfl (.inl rfl) rfl) (ea_cons (ev_var 2 rfl (.inl rfl) rfl) ea_nil)) rfl hok) rfl
theorem g_pip_of (h : Hd c) : GoodS c (CP c) "of" 10 ["text"] (SpP c.K (ca c.K) (fun y : Str × List (Str × Str × Stp) => [.str y.1]) (fun y => y ∈ pipTexts) (fun y => encPip (hostM (y.2.map (·.2.2))))) := by
  refine good_stat (N := ["text", "part"]) h.s_Pipeline_of ⟨rfl, rfl, rfl, by decide +kernel, rfl, by decide +kernel, by decide +kernel⟩ (fun _ _ _ _ _ _ us hl => match us, hl with | [_], _ => rfl) (fun _ => rfl) (by decide) ?_
  rintro f cdv A outer s H E hr ⟨x, ts⟩ hy
  have hy : (x, ts) ∈ pipTexts := hy
  obtain ⟨h1, fa⟩ := Bool.and_eq_true_iff.mp (pip_facts _ hy)
  obtain ⟨h2, fa⟩ := Bool.and_eq_true_iff.mp fa
  obtain ⟨h3, h4⟩ := Bool.and_eq_true_iff.mp fa
  obtain ⟨h5, h6⟩ := pip_sub _ hy
  have h1 : Txt.split x "; " = ts.map (·.1) := of_decide_eq_true h1
  have h2 : x ≠ "-" := of_decide_eq_true h2
  have h3 : x.length ≤ 100 := of_decide_eq_true h3
  have h4 : ∀ n ∈ ts.map (·.1), SOk n := fun n hn => List.all_eq_true.mp h4 n hn
  have h5 : ∀ t ∈ ts, t ∈ stTexts := h5
  have h6 : ts.length ≤ 3 := h6
  have nd : (["text", "part"] : List Str).Nodup := by decide +kernel
  have nm : (ts.map (·.2.2)).map normM = ts.map (·.2.2) := by
    rw [List.map_map]
    exact List.map_congr_left fun t ht => (st_good t (h5 t ht)).2.2.2
  have sok : StepsOk (ts.map (·.2.2)) := steps_ok (tags := ns8) (by decide) (by rw [List.length_map]; omega) (fun s hs => by
    obtain ⟨t, ht, rfl⟩ := List.mem_map.mp hs
    exact (st_good t (h5 t ht)).1) fun s hs => by
    obtain ⟨t, ht, rfl⟩ := List.mem_map.mp hs
    exact ⟨(st_good t (h5 t ht)).2.1, (st_good t (h5 t ht)).2.2.1⟩
  refine wb_cons (w_if (z := false) (EvT.to (et_eq hr.units (ev_var 0 rfl (.inl rfl) rfl) (ev_gstr rfl h.k_NOTHING_labels.choose_spec) (eqStr _ _)) ((str_py _ _).trans (decide_eq_false h2))) (fun z => nomatch z) fun _ => wb_nil ?_)
  refine wb_ret (ev_make (i_pip1 h) h.g_Pipeline (fun _ => .nil) (true, ts.map (·.2.2)) rfl (hr.mono (by decide)) (ea_cons (EvN.toE (EvN.to (en_lc (enc := fun t : Str × Str × Stp => .str t.1) (p := fun _ => true) (f := fun t => t.2.2.enc) (xs := ts) rfl nd [("part", 1)] (blk_of rfl) (EvI.to (ei_lst (EvN.toE (en_split (x := x) (y := "; ") (ev_var 0 rfl (.inl rfl) rfl) (ev_gstr rfl h.k_BETWEEN.choose_spec) (by decide +kernel) (by omega) (by rw [h1]; exact h4)))) (by rw [h1, List.map_map]; rfl)) ⟨fun t ht => ⟨_, _, by decide, fun _ _ _ _ _ => ⟨eg_name 1 nd rfl (.inl rfl), ets_nil, fun _ => ev_stat (g_step_of h) h.g_Step t rfl (hr.mono (by decide)) (ea_cons (ev_var 1 rfl (.inl rfl) rfl) ea_nil) (h5 t ht)⟩⟩⟩ (by omega)) (show _ = (ts.map (·.2.2)).map Stp.enc by rw [keep_all, List.map_map]; rfl))) ea_nil) rfl sok) ?_
  show encPip (formStepsM (ts.map (·.2.2))) = encPip (hostM (ts.map (·.2.2)))
  unfold hostM
  rw [nm]
end
end PL
/-! HF: by hand, the facts -/
namespace PL
open PySem PySem.Spec PyProof.Rows L2
theorem most_bd : ∀ m ∈ mosts, 1 ≤ m ∧ m + 1 ≤ MX ∧ Builtin.Int.intBits m ≤ 200 := by decide +kernel
theorem bare_ok (tags : List Str) : MatOk tags bareM := drop_ok tags
theorem top_ok (tags : List Str) {m : Int} (h : m ∈ mosts) : MatOk tags (topM m) := by
  obtain ⟨h1, h2, _⟩ := most_bd m h
  refine mat_cut (rest := []) (by decide) (by omega) h2 (fun s hs => ?_) fun s hs => ?_
  · rw [List.mem_singleton.mp hs]
    show (1 : Int) ≤ m + 1
    omega
  · rw [List.mem_singleton.mp hs]
    exact ⟨True.intro, True.intro⟩
theorem pip_mat {y : Str × List (Str × Str × Stp)} (hy : y ∈ pipTexts) : (∀ s ∈ y.2.map (·.2.2), s.ok) ∧ (∀ s ∈ y.2.map (·.2.2), lotIn ns8 s ∧ lotNd s) ∧ (y.2.map (·.2.2)).map normM = y.2.map (·.2.2) := by
  have h5 := (pip_sub y hy).1
  refine ⟨fun s hs => ?_, fun s hs => ?_, ?_⟩
  · obtain ⟨t, ht, rfl⟩ := List.mem_map.mp hs
    exact (st_good t (h5 t ht)).1
  · obtain ⟨t, ht, rfl⟩ := List.mem_map.mp hs
    exact ⟨(st_good t (h5 t ht)).2.1, (st_good t (h5 t ht)).2.2.1⟩
  · rw [List.map_map]
    exact List.map_congr_left fun t ht => (st_good t (h5 t ht)).2.2.2
def pBare : Str × List (Str × Str × Stp) := ("drop *", [("drop *", "*", .drop [] true)])
def pLow : Str × List (Str × Str × Stp) := ("drop * - h; cut 1", [("drop * - h", "* - h", .drop ["h"] true), ("cut 1", "1", .cut 1)])
def pHig : Str × List (Str × Str × Stp) := ("cut 11; unwrap a b c d e f g; cut 1", [("cut 11", "11", .cut 11), ("unwrap a b c d e f g", "a b c d e f g", .unw names7 false), ("cut 1", "1", .cut 1)])
theorem pBare_in : pBare ∈ pipTexts := .head _
theorem pLow_in : pLow ∈ pipTexts := .tail _ (.head _)
theorem pHig_in : pHig ∈ pipTexts := .tail _ (.tail _ (.head _))
theorem inl_h (n : Str) : inLot ["h"] true n = decide (n ≠ "h") := by
  unfold inLot
  by_cases e : n = "h" <;> simp [e]
theorem fold_h : ∀ b : Bool, fstep (fun _ _ => b) (fstep (fun _ _ => b) (true, none) (.drop ["h"] true)) (.cut 1) = if b = true then (false, some 0) else (true, some 0) := by decide +kernel
theorem low_fate (n : Str) : fateM lowM n = if n = "h" then (true, some 0) else (false, some 0) := by
  have e := fold_h (inLot ["h"] true n)
  show fstep (fun _ _ => inLot ["h"] true n) (fstep (fun _ _ => inLot ["h"] true n) (true, none) (.drop ["h"] true)) (.cut 1) = _
  rw [e, inl_h]
  by_cases q : n = "h" <;> simp [q]
theorem low_ok : MatOk ns8 lowM := by
  obtain ⟨h1, h2, _⟩ := pip_mat pLow_in
  refine ⟨by decide, h1, h2, fun n => ⟨0, ?_, Int.le_refl _, by decide⟩⟩
  rw [low_fate]
  split <;> rfl
theorem hig_ok : MatOk ns8 higM := by
  obtain ⟨h1, h2, _⟩ := pip_mat pHig_in
  exact mat_cut (rest := [.unw names7 false, .cut 1]) (by decide) (by decide) (by decide) h1 h2
theorem h_in : ("h" : Str) ∈ ns8 := by decide +kernel
theorem low_form : hostM lowM = fsM ns8 (sdM lowM ns8) := by
  have e : hostM lowM = formStepsM lowM := by
    unfold hostM
    rw [show lowM.map normM = lowM from (pip_mat pLow_in).2.2]
  have SF := steps_form low_ok.ok
  have hz : noneM lowM ns8 = false := by
    unfold noneM
    refine List.all_eq_false.mpr ⟨"h", h_in, ?_⟩
    rw [low_fate]
    simp
  have sd : ∀ n, sdM lowM ns8 n = (decide (n = "h"), 0) := fun n => by
    unfold sdM
    rw [hz, low_fate]
    by_cases q : n = "h" <;> simp [q]
  rw [e]
  rcases SF.alt with ⟨_, hd, _⟩ | ⟨he, hr, _⟩
  · exfalso
    have := hd "h"
    rw [low_fate] at this
    cases this
  · refine canon_ext SF.can (fs_canon srt8 _) ?_ fun n => ?_
    · rw [hr, fs_rest]
      rfl
    · rw [he, low_fate]
      by_cases hn : n ∈ ns8
      · rw [fs_entry srt8 (sd_row low_ok).Nz hn, sd]
        by_cases q : n = "h" <;> simp [q, fateE, sideE]
      · rw [fs_other hn, if_neg fun q => hn (by rw [q]; exact h_in)]
        rfl
/-- how many, by hand -/
theorem manyA {m : Int} (h : m ∈ mosts) : (tbM (hostM bareM) (hostM (topM m)) nsA).Ok ∧ inAllM (tbM (hostM bareM) (hostM (topM m)) nsA) = m + 2 := by
  refine ⟨tb_ok srtA (by decide) (bare_ok _) (top_ok _ h), ?_⟩
  rw [tb2_eq srtA (bare_ok _) (top_ok _ h), count2_eq (lies2_ok srtA (bare_ok _) (top_ok _ h) (cntA m h).2)]
  exact (cntA m h).1
theorem manyAB {m : Int} (h : m ∈ mosts) : (tbM (hostM bareM) (hostM (topM m)) nsAB).Ok ∧ inAllM (tbM (hostM bareM) (hostM (topM m)) nsAB) = m ^ 2 + 6 * m + 4 := by
  refine ⟨tb_ok srtAB (by decide) (bare_ok _) (top_ok _ h), ?_⟩
  rw [tb2_eq srtAB (bare_ok _) (top_ok _ h), count2_eq (lies2_ok srtAB (bare_ok _) (top_ok _ h) (cntAB m h).2)]
  exact (cntAB m h).1
theorem wi8 : withinM (tb2 lowM higM ns8).lo (tb2 lowM higM ns8).hi = true := lies2_ok srt8 low_ok hig_ok cnt8.2
theorem many8 : (tbM (hostM lowM) (hostM higM) ns8).Ok ∧ inAllM (tbM (hostM lowM) (hostM higM) ns8) = 19487171 := by
  refine ⟨tb_ok srt8 (by decide) low_ok hig_ok, ?_⟩
  rw [tb2_eq srt8 low_ok hig_ok, count2_eq wi8]
  exact cnt8.1
theorem ways8 : (tbM (hostM lowM) (hostM higM) ns8).Ways := (tb_bw srt8 low_ok hig_ok).ways (by
  rw [tb2_eq srt8 low_ok hig_ok]
  exact wi8)
theorem told8 {k : Int} (h0 : 0 ≤ k) (h1 : k < 19487171) : ∃ S, Told ns8 lowM higM k S ∧ at2 (tb2 lowM higM ns8) k = some (fsM ns8 S) := by
  have T := told srt8 (by decide) low_ok hig_ok (k := k) h0 (by rw [many8.2]; exact h1)
  refine ⟨_, T, ?_⟩
  rw [← at2_eq (b := tb2 lowM higM ns8) srt8 wi8 h0]
  have := T.at_
  rwa [tb2_eq srt8 low_ok hig_ok] at this ⊢
theorem endA : ∃ S, Told ns8 lowM higM 19487170 S ∧ (entryM (fsM ns8 S) "a").2 = some 10 ∧ (entryM (fsM ns8 S) "h").2 = some 0 ∧ (entryM (fsM ns8 S) "h").1 = some "h" := by
  obtain ⟨S, T, e⟩ := told8 (k := 19487170) (by decide) (by decide)
  have q := at8a
  rw [e] at q
  have q := Option.some.inj q
  exact ⟨S, T, congrArg (·.1) q, congrArg (·.2.1) q, congrArg (·.2.2) q⟩
theorem endB : ∃ S, Told ns8 lowM higM 1771561 S ∧ (entryM (fsM ns8 S) "a").2 = some 1 := by
  obtain ⟨S, T, e⟩ := told8 (k := 1771561) (by decide) (by decide)
  have q := at8b
  rw [e] at q
  exact ⟨S, T, Option.some.inj q⟩
theorem endC : ∃ S, Told ns8 lowM higM 0 S ∧ hostM lowM = fsM ns8 S := by
  obtain ⟨S, T, e⟩ := told8 (k := 0) (by decide) (by decide)
  have q := at8c
  rw [e] at q
  exact ⟨S, T, by rw [low_form]; exact (Option.some.inj q).symm⟩
end PL
/-! TX4: by hand -/
namespace PL
open PySem PySem.Spec PyProof.Rows L2
theorem p12 : (10 : Int) ^ (12 : Int).toNat = 1000000000000 := by decide +kernel
theorem p39 : (10 : Int) ^ (39 : Int).toNat = 1000000000000000000000000000000000000000 := by decide +kernel
theorem p7 : (11 : Int) ^ (7 : Int).toNat = 19487171 := by decide +kernel
theorem p6 : (11 : Int) ^ (6 : Int).toNat = 1771561 := by decide +kernel
theorem pw11 (n : Int) (h0 : 0 ≤ n) (h1 : n ≤ 50) : 0 ≤ n ∧ (Builtin.Int.intBits 11 : Int) * n ≤ 2 ^ 27 := ⟨h0, by
  have : Builtin.Int.intBits 11 = 4 := by decide +kernel
  rw [this]
  omega⟩
theorem pw2 {m : Int} (h : m ∈ mosts) : 0 ≤ (2 : Int) ∧ (Builtin.Int.intBits m : Int) * 2 ≤ 2 ^ 27 := ⟨by decide, by
  have := (most_bd m h).2.2
  omega⟩
theorem signs8 : signsM "abcdefgh" = ns8 := by decide +kernel
theorem top_steps {m : Int} (h : m ∈ mosts) : StepsOk (topM m) := host_ok (tags := ns8) (mat := topM m) (by decide) (top_ok _ h)
section
variable {c : Cn}
theorem g_hand (h : Hd c) : Good c "_law_by_hand_right" 13 [] (SpP c.K (ca c.K) (fun _ : Unit => []) (fun _ => True) (fun _ => .bl true)) := by
  refine good_def (N := ["_law_bare_so", "_law_most_so", "_law_top_so", "_law_got", "_law_low_so", "_law_high_so", "_law_names_so", "_law_told"]) h.d__law_by_hand_right ⟨rfl, rfl, rfl, by decide +kernel, rfl, by decide +kernel, by decide +kernel⟩ (fun _ _ _ _ _ _ us hl => match us, hl with | [], _ => rfl) (fun _ => rfl) (by decide) ?_
  rintro f cdv A outer s H E hr _ _
  have nd : (["_law_bare_so", "_law_most_so", "_law_top_so", "_law_got", "_law_low_so", "_law_high_so", "_law_names_so", "_law_told"] : List Str).Nodup := by decide +kernel
  obtain ⟨SA, TA, qa, qh, qf⟩ := endA
  obtain ⟨SB, TB, qb⟩ := endB
  obtain ⟨SC, TC, qc⟩ := endC
  refine wb_cons (w_set 0 nd rfl (.inl rfl) (d := encPip (hostM bareM)) (ev_stat (g_pip_of h) h.g_Pipeline pBare rfl (hr.mono (by decide)) (ea_cons ev_str ea_nil) pBare_in) ?_)
  refine wb_cons (w_for (ds := mosts.map D.int) (fun _ _ h => h.elim) rfl (EvI.to (ei_tup (ev_tup (ea_cons ev_int (ea_cons ev_int (ea_cons ev_int (ea_cons (ev_powW ev_int ev_int (pw 12 (by decide) (by decide))) (ea_cons (ev_powW ev_int ev_int (pw 39 (by decide) (by decide))) ea_nil))))))) (by rw [p12, p39]; rfl)) (fun _ ρ1 => ∃ s1 s2 s3 : Sl, ρ1 = [.va (encPip (hostM bareM)), s1, s2, s3, .un, .un, .un, .un]) ⟨.un, .un, .un, rfl⟩ ?_ ?_)
  · rintro k d ρ1 hd ⟨s1, s2, s3, rfl⟩
    obtain ⟨m, hk, rfl⟩ := map_at hd
    have hm : m ∈ mosts := List.mem_of_getElem? hk
    have h1 := (most_bd m hm).1
    have hA := manyA hm
    have hB := manyAB hm
    have hT := top_steps hm
    have hP := pw2 hm
    refine ⟨_, _, (eg_name 1 nd rfl (.inl rfl)), ?_⟩
    refine wb_cons (w_set 2 nd rfl (.inl rfl) (d := encPip (hostM (topM m))) (ev_make (i_pip1 h) h.g_Pipeline (fun _ => .nil) (true, topM m) rfl (hr.mono (by decide)) (ea_cons (EvN.toE (en_lst (ea_cons (ev_make (i_step h) h.g_Step (fun _ => .nil) (.cut (m + 1)) rfl (hr.mono (by decide)) (ea_cons ev_str (ea_cons (ev_add (ev_var 1 rfl (.inl rfl) rfl) ev_int) ea_nil)) rfl (show (1 : Int) ≤ m + 1 by omega)) ea_nil))) ea_nil) rfl hT) ?_)
    refine wb_cons (w_set 3 nd rfl (.inl rfl) (d := .lst [.int (m + 2), .int (m ^ 2 + 6 * m + 4)]) (EvE.to (EvN.toE (en_lst (ea_cons (ev_call (g_many_between h) ⟨hostM bareM, hostM (topM m), false, nsA⟩ rfl (hr.mono (by decide)) (ea_cons (ev_var 0 rfl (.inl rfl) rfl) (ea_cons (ev_var 2 rfl (.inl rfl) rfl) (ea_cons (ev_tup (ea_cons ev_str ea_nil)) ea_nil))) ⟨(by decide : nsA.length < 64), hA.1⟩) (ea_cons (ev_call (g_many_between h) ⟨hostM bareM, hostM (topM m), false, nsAB⟩ rfl (hr.mono (by decide)) (ea_cons (ev_var 0 rfl (.inl rfl) rfl) (ea_cons (ev_var 2 rfl (.inl rfl) rfl) (ea_cons (ev_tup (ea_cons ev_str (ea_cons ev_str ea_nil))) ea_nil))) ⟨(by decide : nsAB.length < 64), hB.1⟩) ea_nil)))) ?gotE) ?_)
    case gotE =>
      show D.lst [.int (inAllM (tbM (hostM bareM) (hostM (topM m)) nsA)), .int (inAllM (tbM (hostM bareM) (hostM (topM m)) nsAB))] = _
      rw [hA.2, hB.2]
    refine wb_cons (w_if (z := false) (EvT.to (et_not (et_val (ev_call (g_same2 h) [.int (m + 2), .int (m ^ 2 + 6 * m + 4)] rfl (hr.mono (by decide)) (ea_cons (ev_var 3 rfl (.inl rfl) rfl) (ea_cons (EvN.toE (en_lst (ea_cons (ev_add (ev_var 1 rfl (.inl rfl) rfl) ev_int) (ea_cons (ev_add (ev_add (ev_powW (ev_var 1 rfl (.inl rfl) rfl) ev_int hP) (ev_mul ev_int (ev_var 1 rfl (.inl rfl) rfl) (.inl (by decide)))) ev_int) ea_nil)))) ea_nil)) ⟨by show 2 ≤ 100; decide, ?flat⟩))) rfl) (fun z => nomatch z) fun _ => wb_nil (wb_nil ⟨_, _, _, rfl⟩))
    case flat =>
      intro d hd
      simp only [List.mem_cons, List.not_mem_nil, or_false] at hd
      rcases hd with rfl | rfl <;> rfl
  · rintro ρ1 ⟨s1, s2, s3, rfl⟩
    refine wb_cons (w_par 4 5 (d1 := encPip (hostM lowM)) (d2 := encPip (hostM higM)) rfl nd rfl rfl (by decide) rfl rfl (ea_cons (ev_stat (g_pip_of h) h.g_Pipeline pLow rfl (hr.mono (by decide)) (ea_cons ev_str ea_nil) pLow_in) (ea_cons (ev_stat (g_pip_of h) h.g_Pipeline pHig rfl (hr.mono (by decide)) (ea_cons ev_str ea_nil) pHig_in) ea_nil)) ?_)
    refine wb_cons (w_set 6 nd rfl (.inl rfl) (d := encNt ns8) (EvE.to (ev_tupleS rfl h.f_tuple ev_str (by decide +kernel)) (congrArg encNt signs8)) ?_)
    refine wb_cons (w_set 7 nd rfl (.inl rfl) (d := encPip (fsM ns8 SA)) (EvE.to (ev_call (g_nth_between h) (⟨hostM lowM, hostM higM, false, ns8⟩, 19487170) rfl (hr.mono (by decide)) (ea_cons (ev_var 4 rfl (.inl rfl) rfl) (ea_cons (ev_var 5 rfl (.inl rfl) rfl) (ea_cons (ev_var 6 rfl (.inl rfl) rfl) (ea_cons (EvE.to (ev_sub (ev_powW ev_int ev_int (pw11 7 (by decide) (by decide))) ev_int) (by rw [p7]; rfl)) ea_nil)))) ⟨(by decide : ns8.length < 64), many8.1, fun _ => ways8, fsM ns8 SA, TA.at_, TA.pl⟩) (congrArg encPip TA.nth)) ?_)
    refine wb_cons (w_setN 3 (ds := [.int 19487171, .int 10, .int 0, .str "h"]) nd rfl (.inl rfl) (EvN.to (en_lst (ea_cons (ev_call (g_many_between h) ⟨hostM lowM, hostM higM, false, ns8⟩ rfl (hr.mono (by decide)) (ea_cons (ev_var 4 rfl (.inl rfl) rfl) (ea_cons (ev_var 5 rfl (.inl rfl) rfl) (ea_cons (ev_var 6 rfl (.inl rfl) rfl) ea_nil))) ⟨(by decide : ns8.length < 64), many8.1⟩) (ea_cons (ev_meth (g_pip_room h) h.c_Pipeline (fsM ns8 SA, "a") rfl (hr.mono (by decide)) (ev_var 7 rfl (.inl rfl) rfl) (.pip ..) (by decide +kernel) (ea_cons ev_str ea_nil) rfl trivial) (ea_cons (ev_meth (g_pip_room h) h.c_Pipeline (fsM ns8 SA, "h") rfl (hr.mono (by decide)) (ev_var 7 rfl (.inl rfl) rfl) (.pip ..) (by decide +kernel) (ea_cons ev_str ea_nil) rfl trivial) (ea_cons (ev_meth (g_pip_final h) h.c_Pipeline (fsM ns8 SA, "h") rfl (hr.mono (by decide)) (ev_var 7 rfl (.inl rfl) rfl) (.pip ..) (by decide +kernel) (ea_cons ev_str ea_nil) rfl trivial) ea_nil))))) ?gotE) ?_)
    case gotE =>
      show [D.int (inAllM (tbM (hostM lowM) (hostM higM) ns8)), encO (entryM (fsM ns8 SA) "a").2, encO (entryM (fsM ns8 SA) "h").2, encS (entryM (fsM ns8 SA) "h").1] = _
      rw [many8.2, qa, qh, qf]
      rfl
    refine wb_cons (w_append 3 (d := .int 1) rfl (.inl rfl) rfl (EvE.to (ev_meth (g_pip_room h) h.c_Pipeline (fsM ns8 SB, "a") rfl (hr.mono (by decide)) (EvE.to (ev_call (g_nth_between h) (⟨hostM lowM, hostM higM, false, ns8⟩, 1771561) rfl (hr.mono (by decide)) (ea_cons (ev_var 4 rfl (.inl rfl) rfl) (ea_cons (ev_var 5 rfl (.inl rfl) rfl) (ea_cons (ev_var 6 rfl (.inl rfl) rfl) (ea_cons (EvE.to (ev_powW ev_int ev_int (pw11 6 (by decide) (by decide))) (congrArg D.int p6)) ea_nil)))) ⟨(by decide : ns8.length < 64), many8.1, fun _ => ways8, fsM ns8 SB, TB.at_, TB.pl⟩) (congrArg encPip TB.nth)) (.pip ..) (by decide +kernel) (ea_cons ev_str ea_nil) rfl trivial) (by show encO (entryM (fsM ns8 SB) "a").2 = _; rw [qb]; rfl)) (by decide) ?_)
    refine wb_cons (w_append 3 (d := .int 0) rfl (.inl rfl) rfl (EvE.to (ev_call (g_rank_between h) (⟨hostM lowM, hostM higM, false, ns8⟩, fsM ns8 SC) rfl (hr.mono (by decide)) (ea_cons (ev_var 4 rfl (.inl rfl) rfl) (ea_cons (ev_var 5 rfl (.inl rfl) rfl) (ea_cons (ev_var 6 rfl (.inl rfl) rfl) (ea_cons (EvE.to (ev_var 4 rfl (.inl rfl) rfl) (congrArg encPip qc)) ea_nil)))) ⟨(by decide : ns8.length < 64), many8.1, TC.fmi, TC.over, TC.w1, TC.w2⟩) (congrArg D.int TC.rank)) (by decide) (wb_frz 3 rfl ?_))
    refine wb_ret (ev_call (g_same2 h) [.int 19487171, .int 10, .int 0, .str "h", .int 1, .int 0] rfl (hr.mono (by decide)) (ea_cons (ev_var 3 rfl (.inl rfl) rfl) (ea_cons (EvN.toE (en_lst (ea_cons (EvE.to (ev_powW ev_int ev_int (pw11 7 (by decide) (by decide))) (congrArg D.int p7)) (ea_cons ev_int (ea_cons ev_int (ea_cons ev_str (ea_cons ev_int (ea_cons ev_int ea_nil)))))))) ea_nil)) ⟨by show 6 ≤ 100; decide, ?flat⟩) rfl
    case flat =>
      intro d hd
      simp only [List.mem_cons, List.not_mem_nil, or_false] at hd
      rcases hd with rfl | rfl | rfl | rfl | rfl | rfl <;> rfl
theorem whole_body (h : Hd c) : BodyOk c "law" (top 108) ["_law_script", "_law_cells_so", "_law_k"] 13 (fun xs : List Int => [.fls xs]) (fun xs => xs.length ≤ 63) (fun _ => .bl true) := law_body h (g_hand h)
end
end PL
/-! FIN: the head and the law's body, joined -/
namespace PL
open PySem PySem.Spec PyProof.Rows L2
def spW (K : PySem.W.Frag) : Sp := SpP K (ca K) (fun xs : List Int => [.fls xs]) (fun xs => xs.length ≤ 63) (fun _ => .bl true)
theorem ok_whole {P : Program} {w : World} {K : PySem.W.Frag} {mg : Str → Option Value} {base : Heap} (h : Hd ⟨P, w, K, mg, base⟩) {f : Addr} {fd : FuncData} (F : FunD K "law" "law" (defArgs (top 108)) (defBody (top 108)) (defScope (top 108)) [] [] f fd) : FnOk P w K mg base CX0 14 f fd ["_law_script"] (spW K) :=
  fn_good (c := ⟨P, w, K, mg, base⟩) F ⟨rfl, rfl, rfl, by decide +kernel, rfl, by decide +kernel, by decide +kernel⟩ (fun _ => rfl) (by decide) (whole_body h f)
theorem facts {P : Program} {w : World} {K : PySem.W.Frag} {h : Heap} {mg : Str → Option Value} {f : Addr} (X : K.In h) (G : h.Ns mainGlobals mg) (hfa : mg ("law" : Str) = some (.ref f)) (c : SaysM K) :
    ∃ fd : FuncData, (∀ (s : Shared) (v : Value), BindsTo s fd ⟨[v], []⟩ [("_law_script", v)]) ∧ ∀ base : Heap, K.In base → base.Ns mainGlobals mg → FnOk P w K mg base CX0 14 f fd ["_law_script"] (spW K) := by
  obtain ⟨fd, F⟩ := c.def_ 60 rfl
  have e := hfa.symm.trans (He.glo_ok X G (c.fact 60 (f := .glo "law") rfl))
  cases e
  have b := FunD.bindsA (ps := ["_law_script"]) F fun _ _ _ _ _ _ us hl => match us, hl with | [_], _ => rfl
  exact ⟨fd, fun s v => b s [v] rfl, fun base KB GB => ok_whole (hd_of KB GB c) F⟩
theorem spw_ok {K : PySem.W.Frag} {H : Hp} {a : Addr} {ns : List Int} (hl : ns.length ≤ 63) (hS : SqL K H a (ns.map V.int)) : spW K [.ref a] H (fun v _ => v = .bl true) fun _ _ _ => False :=
  ⟨ns, H, .refl H, .one (.fls hS), hl, fun v _ _ _ r => by cases r; rfl⟩
end PL
open PySem PySem.W PySem.Calls PyProof.Rows
theorem PySem.Challenge.cw_deepcuts_k45_whole_great_rooms_between_holds : PySem.Challenge.rw_deepcuts_k45_whole_great_rooms_between.Holds := by
  w_on; o_law
  refine HandSHeadRun.head_any (r := H1.R) (q := H1.qv) (H := PL.hk) (ob := PL.ob) (M := 20000) (loose := H1.names) (d := HandSHeadRun.topDef H1.R.prog 108) (kwd := []) PL.ob_eq
    (by kernel_rfl) (fun s => by kernel_rfl) PL.run (by kernel_rfl) (by kernel_rfl) (by kernel_rfl) (by rfl) (by first | assumption | decide +kernel) (by decide +kernel) ⟨rfl, rfl, rfl, rfl, rfl, by decide +kernel⟩ ?hw ?hc
  case hw => w_witness2
  case hc =>
    refine L2.walk_ofE (l := PySem.Challenge.rw_deepcuts_k45_whole_great_rooms_between) (n := 63) (k := 14) (x := "_law_script") (CX := L2.CX0) rfl (by decide) (by kernel_rfl) ⟨rfl, by decide, by decide⟩ ?F (fun _ _ _ _ z => z)
    intro w mg fa h Y G hmg0
    obtain ⟨K, KX, c⟩ := Y
    have hmg : mg ("law" : PySem.Str) = some (.ref fa) := by
      have e : (HandSHeadRun.topDef H1.R.prog 108).name = ("law" : PySem.Str) := by kernel_rfl
      rw [← e]
      exact hmg0
    obtain ⟨fd, hb, hF⟩ := PL.facts (P := (PySem.Challenge.rw_deepcuts_k45_whole_great_rooms_between).prog) (w := w) KX G hmg c
    exact ⟨K, fd, PL.spW K, KX, hb, fun H a ns hl _ hS => PL.spw_ok hl hS, hF⟩
