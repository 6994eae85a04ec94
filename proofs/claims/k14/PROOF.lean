import PyProof.Rows.All
import Wide.All
import OpenK.AllK
import Wide.FinOn
import HandS.ForMost
import HandS.Style
import HandS.IsInst
import HandS.Wide
import HandS.Deep
import PyProof.Rows.EqBoolInt
import HandS.WideBits
import HandS.TupAny
import HandS.Comp
import HandS.Iter
import HandS.Replace
import PyProof.ReprRoads
import PyProof.ReprLen
import PyProof.StrBlock2
import HandS.TupLe
import HandS.FStr
import HandS.Small
import KE.KxField
import KE.IntTextLaws
import HandS.StrMore
import HandS.RaiseMore
import HandS.Codes
import PyProof.Rows.StrFirst
import HandS.Dict
import KE.KTab
import PyProof.Rows.StrDigitsNeg
import HandS.SetFor
import HandS.Strs
import HandS.IterVal
import PySem.Challenge.RW_stylobate_k14_kinds_of_expressions
set_option Elab.async false
set_option linter.all false
set_option maxRecDepth 100000 in
set_option maxHeartbeats 0 in
open_top headZ for PySem.Challenge.rw_stylobate_k14_kinds_of_expressions
set_option Elab.async false
set_option linter.all false
set_option maxRecDepth 100000
set_option maxHeartbeats 4000000
namespace Z
open PySem PySem.Spec PyProof.Rows L2
inductive D where
  | non | bl (b : Bool) | int (i : Int) | str (s : List Nat) | tup (l : List D) | lst (l : List D) | raw (v : V) | dic (ks : List (List Nat)) (vs : List D)
  deriving Inhabited
/-- a text as a dict's key -/
def kS (s : List Nat) : Key := .inr ⟨s.toArray⟩
mutual
inductive Dz (K : PySem.W.Frag) (H : Hp) : V → D → Prop
  | non : Dz K H .non .non
  | bl (b : Bool) : Dz K H (.bl b) (.bl b)
  | int (i : Int) : Dz K H (.int i) (.int i)
  | str (s : List Nat) : Dz K H (.str ⟨s.toArray⟩) (.str s)
  | tup {a : Addr} {xs : List V} {ds : List D} : SqT K H a xs → DzA K H xs ds → Dz K H (.ref a) (.tup ds)
  | lst {a : Addr} {xs : List V} {ds : List D} : SqL K H a xs → DzA K H xs ds → Dz K H (.ref a) (.lst ds)
  | raw (v : V) : Dz K H v (.raw v)
  | dic {a : Addr} {ks : List (List Nat)} {xs : List V} {ds : List D} : H a = some (.dK ((ks.map kS).zip xs)) → ks.length = xs.length → DzA K H xs ds → Dz K H (.ref a) (.dic ks ds)
inductive DzA (K : PySem.W.Frag) (H : Hp) : List V → List D → Prop
  | nil : DzA K H [] []
  | cons {v : V} {vs : List V} {d : D} {ds : List D} : Dz K H v d → DzA K H vs ds → DzA K H (v :: vs) (d :: ds)
end
theorem sameT {K : PySem.W.Frag} {H H' : Hp} {a : Addr} {xs : List V} (e : Same H H') (h : SqT K H a xs) : SqT K H' a xs := by
  rcases h with (h | ⟨o, h⟩) | h
  · exact .inl (.inl (e _ _ h))
  · exact .inl (.inr ⟨o, e _ _ h⟩)
  · exact .inr h
section
variable {K : PySem.W.Frag} {H H' : Hp}
mutual
theorem Dz.mono (e : Same H H') : ∀ {v : V} {d : D}, Dz K H v d → Dz K H' v d
  | _, _, .non => .non
  | _, _, .bl b => .bl b
  | _, _, .int i => .int i
  | _, _, .str s => .str s
  | _, _, .tup s a => .tup (sameT e s) (DzA.mono e a)
  | _, _, .lst s a => .lst (e.seq s) (DzA.mono e a)
  | _, _, .raw v => .raw v
  | _, _, .dic s n a => .dic (e _ _ s) n (DzA.mono e a)
theorem DzA.mono (e : Same H H') : ∀ {vs : List V} {ds : List D}, DzA K H vs ds → DzA K H' vs ds
  | _, _, .nil => .nil
  | _, _, .cons h t => .cons (Dz.mono e h) (DzA.mono e t)
end
theorem DzA.length : ∀ {vs : List V} {ds : List D}, DzA K H vs ds → vs.length = ds.length
  | _, _, .nil => rfl
  | _, _, .cons _ t => by rw [List.length_cons, List.length_cons, DzA.length t]
theorem DzA.get : ∀ {vs : List V} {ds : List D} {i : Nat} {d : D}, DzA K H vs ds → ds[i]? = some d → ∃ v, vs[i]? = some v ∧ Dz K H v d
  | _, _, _, _, .nil, e => by simp at e
  | _, _, 0, _, .cons h _, e => by simp at e; subst e; exact ⟨_, rfl, h⟩
  | _, _, i + 1, d, .cons _ t, e => by
    obtain ⟨v, h1, h2⟩ := DzA.get (i := i) t (by simpa using e)
    exact ⟨v, by simpa using h1, h2⟩
theorem DzA.getV : ∀ {vs : List V} {ds : List D} {i : Nat} {v : V}, DzA K H vs ds → vs[i]? = some v → ∃ d, ds[i]? = some d ∧ Dz K H v d
  | _, _, _, _, .nil, e => by simp at e
  | _, _, 0, _, .cons h _, e => by simp at e; subst e; exact ⟨_, rfl, h⟩
  | _, _, i + 1, d, .cons _ t, e => by
    obtain ⟨v, h1, h2⟩ := DzA.getV (i := i) t (by simpa using e)
    exact ⟨v, by simpa using h1, h2⟩
theorem DzA.append : ∀ {vs ws : List V} {ds es : List D}, DzA K H vs ds → DzA K H ws es → DzA K H (vs ++ ws) (ds ++ es)
  | _, _, _, _, .nil, s => s
  | _, _, _, _, .cons h t, s => .cons h (DzA.append t s)
theorem DzA.take : ∀ {vs : List V} {ds : List D} (n : Nat), DzA K H vs ds → DzA K H (vs.take n) (ds.take n)
  | _, _, 0, _ => .nil
  | _, _, _ + 1, .nil => .nil
  | _, _, n + 1, .cons h t => .cons h (DzA.take n t)
theorem DzA.drop : ∀ {vs : List V} {ds : List D} (n : Nat), DzA K H vs ds → DzA K H (vs.drop n) (ds.drop n)
  | _, _, 0, r => r
  | _, _, _ + 1, .nil => .nil
  | _, _, n + 1, .cons _ t => DzA.drop n t
theorem DzA.set {v : V} {d : D} (r : Dz K H v d) : ∀ {vs : List V} {ds : List D} (i : Nat), DzA K H vs ds → DzA K H (vs.set i v) (ds.set i d)
  | _, _, _, .nil => .nil
  | _, _, 0, .cons _ t => .cons r t
  | _, _, i + 1, .cons q t => .cons q (DzA.set r i t)
end
/-- no reference within: true in any heap -/
def D.scal : D → Bool
  | .non => true | .bl _ => true | .int _ => true | .str _ => true | .raw _ => true
  | _ => false
theorem Dz.any {K : PySem.W.Frag} {H H' : Hp} {v : V} {d : D} (s : d.scal = true) (h : Dz K H v d) : Dz K H' v d := by
  cases h with
  | non => exact .non
  | bl b => exact .bl b
  | int i => exact .int i
  | str z => exact .str z
  | raw v => exact .raw v
  | dic _ _ _ => exact absurd s (by simp [D.scal])
  | tup _ _ => exact absurd s (by simp [D.scal])
  | lst _ _ => exact absurd s (by simp [D.scal])
theorem DzA.any {K : PySem.W.Frag} {H H' : Hp} : ∀ {vs : List V} {ds : List D}, ds.all D.scal = true → DzA K H vs ds → DzA K H' vs ds
  | _, _, _, .nil => .nil
  | _, _, s, .cons h t => by
    rw [List.all_cons, Bool.and_eq_true] at s
    exact .cons (h.any s.1) (DzA.any s.2 t)
/-- what a container of the def's own holds -/
inductive Cn where
  | lst (l : List D)
  deriving Inhabited
def CnOk (K : PySem.W.Frag) (Hs : Hp) : Cn → HO → Prop
  | .lst ds, .lst vs => DzA K Hs vs ds
  | _, _ => False
def Cn.d : Cn → D
  | .lst l => .lst l
def Cn.scal : Cn → Bool
  | .lst l => l.all D.scal
theorem CnOk.mono {K : PySem.W.Frag} {H H' : Hp} (e : Same H H') {c : Cn} {o : HO} (h : CnOk K H c o) : CnOk K H' c o := by
  cases c with
  | lst l =>
    cases o with
    | lst vs => exact DzA.mono e (show DzA K H vs l from h)
    | _ => exact (show False from h).elim
theorem CnOk.any {K : PySem.W.Frag} {H H' : Hp} {c : Cn} {o : HO} (s : c.scal = true) (h : CnOk K H c o) : CnOk K H' c o := by
  cases c with
  | lst l =>
    cases o with
    | lst vs => exact DzA.any s (show DzA K H vs l from h)
    | _ => exact (show False from h).elim
theorem CnOk.dz {K : PySem.W.Frag} {H : Hp} {c : Cn} {o : HO} {a : Addr} (h : CnOk K H c o) (e : H a = some o) : Dz K H (.ref a) c.d := by
  cases c with
  | lst l =>
    cases o with
    | lst vs => exact .lst (SqL.of e) (show DzA K H vs l from h)
    | _ => exact (show False from h).elim
/-- a slot: nothing known; data; a container of the def's own (pin: a parameter's; lock: walked now); a container that is data from now on -/
inductive Sl where
  | un | dat (d : D) | own (c : Cn) (pin lock : Bool) | frz (d : D)
  deriving Inhabited
/-- an expression's value: data, or the container at a slot -/
inductive R where
  | dat (d : D) | bor (j : Nat)
  deriving Inhabited
/-- of a def: its names' number, the heap and the known heap at the entry, its parameters that it may change -/
structure Ct where
  K : PySem.W.Frag
  n : Nat
  H0 : Hp
  Hs0 : Hp
  pins : List (Nat × Addr)
  locks : List (Nat × Addr × Cn)
  plt : ∀ q ∈ pins, q.1 < n
  llt : ∀ q ∈ locks, q.1 < n
structure Ok (C : Ct) (Hs : Hp) (A : List Addr) (g : List Sl) (σ : L2.St) (H : Hp) : Prop where
  ln : σ.length = C.n
  lg : C.n ≤ g.length
  la : A.length = g.length
  base : Same C.Hs0 Hs
  same : Same Hs H
  dat : ∀ (i : Nat) (d : D), g[i]? = some (.dat d) → ∃ v, σ[i]? = some (some v) ∧ Dz C.K Hs v d
  frz : ∀ (i : Nat) (d : D), g[i]? = some (.frz d) → ∃ a, A[i]? = some a ∧ (i < C.n → σ[i]? = some (some (.ref a))) ∧ Dz C.K Hs (.ref a) d
  own : ∀ (i : Nat) (c : Cn) (p l : Bool), g[i]? = some (.own c p l) → ∃ a o, A[i]? = some a ∧ (i < C.n → σ[i]? = some (some (.ref a))) ∧ Hs a = none ∧ H a = some o ∧ CnOk C.K Hs c o ∧ (p = false → C.H0 a = none)
  inj : ∀ (i j : Nat) (c : Cn) (p l : Bool) (c' : Cn) (p' l' : Bool) (a : Addr), g[i]? = some (.own c p l) → g[j]? = some (.own c' p' l') → A[i]? = some a → A[j]? = some a → i = j
  grow : ∀ b o, Hs b = some o → C.Hs0 b = some o ∨ C.H0 b = none
  keep : ∀ b o, C.H0 b = some o → (∀ q ∈ C.pins, q.2 ≠ b) → H b = some o
  pinned : ∀ q ∈ C.pins, ∃ c l, g[q.1]? = some (.own c true l) ∧ A[q.1]? = some q.2
  pin1 : ∀ (i : Nat) (c : Cn) (l : Bool) (a : Addr), g[i]? = some (.own c true l) → A[i]? = some a → (i, a) ∈ C.pins
  locked : ∀ q ∈ C.locks, ∃ p, g[q.1]? = some (.own q.2.2 p true) ∧ A[q.1]? = some q.2.1
def RelR (K : PySem.W.Frag) (Hs : Hp) (A : List Addr) (v : V) : R → Prop
  | .dat d => Dz K Hs v d
  | .bor j => ∃ a, A[j]? = some a ∧ v = .ref a
def Pre (A A' : List Addr) : Prop := ∀ (j : Nat) (a : Addr), A[j]? = some a → A'[j]? = some a
theorem Pre.refl (A : List Addr) : Pre A A := fun _ _ h => h
theorem Pre.trans {A B C : List Addr} (a : Pre A B) (b : Pre B C) : Pre A C := fun j x h => b j x (a j x h)
theorem Pre.app (A B : List Addr) : Pre A (A ++ B) := fun j a h => by
  have hj := (List.getElem?_eq_some_iff.mp h).1
  rw [List.getElem?_append_left hj]
  exact h
theorem RelR.mono {K : PySem.W.Frag} {Hs Hs' : Hp} {A A' : List Addr} {v : V} {r : R} (s : Same Hs Hs') (p : Pre A A') (h : RelR K Hs A v r) : RelR K Hs' A' v r := by
  cases r with
  | dat d => exact Dz.mono s (show Dz K Hs v d from h)
  | bor j =>
    obtain ⟨a, h1, h2⟩ := (show ∃ a, A[j]? = some a ∧ v = .ref a from h)
    exact ⟨a, p j a h1, h2⟩
/-- what a value is as data -/
def rd (g : List Sl) : R → Option D
  | .dat d => some d
  | .bor j => match g[j]? with
    | some (.own c _ _) => some c.d
    | some (.frz d) => some d
    | _ => none
section
variable {C : Ct} {Hs : Hp} {A : List Addr} {g : List Sl} {σ : L2.St} {H : Hp}
theorem Ok.rd (ok : Ok C Hs A g σ H) {v : V} {r : R} {d : D} (h : RelR C.K Hs A v r) (e : Z.rd g r = some d) : Dz C.K H v d := by
  cases r with
  | dat d' =>
    have e' : d' = d := Option.some.inj e
    subst e'
    exact Dz.mono ok.same (show Dz C.K Hs v d' from h)
  | bor j =>
    obtain ⟨a, h1, rfl⟩ := (show ∃ a, A[j]? = some a ∧ v = .ref a from h)
    have e : (match g[j]? with
      | some (.own c _ _) => some c.d
      | some (.frz d) => some d
      | _ => none) = some d := e
    split at e
    · rename_i c p l hg
      obtain ⟨a', o, ha, _, _, ho, hc, _⟩ := ok.own j c p l hg
      rw [h1] at ha
      have e1 : a = a' := Option.some.inj ha
      subst e1
      have e2 : c.d = d := Option.some.inj e
      subst e2
      exact (hc.mono ok.same).dz ho
    · rename_i d' hg
      obtain ⟨a', ha, _, hd⟩ := ok.frz j d' hg
      rw [h1] at ha
      have e1 : a = a' := Option.some.inj ha
      subst e1
      have e2 : d' = d := Option.some.inj e
      subst e2
      exact hd.mono ok.same
    · cases e
theorem Ok.fresh0 (ok : Ok C Hs A g σ H) {a : Addr} (h : H a = none) : Hs a = none ∧ C.H0 a = none := by
  constructor
  · cases q : Hs a with
    | none => rfl
    | some o => rw [ok.same a o q] at h; cases h
  · cases q : C.H0 a with
    | none => rfl
    | some o =>
      have : H a = some o := by
        refine ok.keep a o q fun p hp e => ?_
        obtain ⟨c, l, h1, h2⟩ := ok.pinned p hp
        obtain ⟨a', o', ha, _, _, ho, _⟩ := ok.own _ _ _ _ h1
        rw [h2] at ha
        have e1 : p.2 = a' := Option.some.inj ha
        rw [← e1, e] at ho
        rw [ho] at h; cases h
      rw [this] at h; cases h
/-- a new container, held aside -/
theorem Ok.tmp (ok : Ok C Hs A g σ H) {a : Addr} {o : HO} {c : Cn} (h : H a = none) (hc : CnOk C.K Hs c o) : Ok C Hs (A ++ [a]) (g ++ [.own c false false]) σ (upd H a o) := by
  obtain ⟨f1, f2⟩ := ok.fresh0 h
  have old : ∀ (i : Nat) (s : Sl), (g ++ [Sl.own c false false])[i]? = some s → g[i]? = some s ∨ (i = g.length ∧ s = .own c false false) := fun i s e => by
    by_cases hi : i < g.length
    · rw [List.getElem?_append_left hi] at e; exact .inl e
    · rw [List.getElem?_append_right (by omega)] at e
      have : i - g.length = 0 := by
        have := (List.getElem?_eq_some_iff.mp e).1
        simp at this; omega
      rw [this] at e
      exact .inr ⟨by omega, (Option.some.inj e).symm⟩
  have neA : ∀ (i : Nat) (c' : Cn) (p l : Bool) (a' : Addr), g[i]? = some (.own c' p l) → A[i]? = some a' → a' ≠ a := fun i c' p l a' e ha z => by
    obtain ⟨a2, o2, ha2, _, _, ho, _⟩ := ok.own i c' p l e
    rw [ha] at ha2
    have := Option.some.inj ha2
    rw [← this, z, h] at ho; cases ho
  have pre := Pre.app A [a]
  have last : (A ++ [a])[g.length]? = some a := by rw [← ok.la]; simp
  have alt : ∀ (i : Nat), i < g.length → (A ++ [a])[i]? = A[i]? := fun i hi => List.getElem?_append_left (by rw [ok.la]; exact hi)
  refine ⟨ok.ln, by rw [List.length_append]; have := ok.lg; omega, by simp [ok.la], ok.base, fun b o' e => ?_, fun i d e => ?_, fun i d e => ?_, fun i c' p l e => ?_, fun i j c1 p1 l1 c2 p2 l2 a' e1 e2 h1 h2 => ?_, ok.grow, fun b o' e k => ?_, fun q hq => ?_, fun i c' l a' e ha => ?_, fun q hq => ?_⟩
  · rw [upd_ne (fun z => by rw [z, f1] at e; cases e)]
    exact ok.same b o' e
  · rcases old i _ e with e | ⟨_, e⟩
    · exact ok.dat i d e
    · cases e
  · rcases old i _ e with e | ⟨_, e⟩
    · obtain ⟨a', q1, q2, q3⟩ := ok.frz i d e
      exact ⟨a', pre _ _ q1, q2, q3⟩
    · cases e
  · rcases old i _ e with e | ⟨ei, e⟩
    · obtain ⟨a', o', q1, q2, q3, q4, q5, q6⟩ := ok.own i c' p l e
      exact ⟨a', o', pre _ _ q1, q2, q3, by rw [upd_ne (neA _ _ _ _ _ e q1)]; exact q4, q5, q6⟩
    · cases e
      subst ei
      exact ⟨a, o, last, fun hi => absurd hi (by have := ok.lg; omega), f1, upd_same, hc, fun _ => f2⟩
  · rcases old i _ e1 with e1 | ⟨ei, e1⟩ <;> rcases old j _ e2 with e2 | ⟨ej, e2⟩
    · have hi := (List.getElem?_eq_some_iff.mp e1).1
      have hj := (List.getElem?_eq_some_iff.mp e2).1
      rw [alt i hi] at h1
      rw [alt j hj] at h2
      exact ok.inj i j _ _ _ _ _ _ a' e1 e2 h1 h2
    · have hi := (List.getElem?_eq_some_iff.mp e1).1
      rw [alt i hi] at h1
      subst ej
      rw [last] at h2
      exact absurd (Option.some.inj h2).symm (neA _ _ _ _ _ e1 h1)
    · have hj := (List.getElem?_eq_some_iff.mp e2).1
      rw [alt j hj] at h2
      subst ei
      rw [last] at h1
      exact absurd (Option.some.inj h1).symm (neA _ _ _ _ _ e2 h2)
    · omega
  · rw [upd_ne (fun z => by rw [z, f2] at e; cases e)]
    exact ok.keep b o' e k
  · obtain ⟨c', l, h1, h2⟩ := ok.pinned q hq
    have hi := (List.getElem?_eq_some_iff.mp h1).1
    exact ⟨c', l, by rw [List.getElem?_append_left hi]; exact h1, pre _ _ h2⟩
  · rcases old i _ e with e | ⟨ei, e⟩
    · have hi := (List.getElem?_eq_some_iff.mp e).1
      rw [alt i hi] at ha
      exact ok.pin1 i c' l a' e ha
    · cases e
  · obtain ⟨p, h1, h2⟩ := ok.locked q hq
    have hi := (List.getElem?_eq_some_iff.mp h1).1
    exact ⟨p, by rw [List.getElem?_append_left hi]; exact h1, pre _ _ h2⟩
/-- a new object that is data from now on -/
theorem Ok.lay (ok : Ok C Hs A g σ H) {a : Addr} {o : HO} (h : H a = none) : Ok C (upd Hs a o) A g σ (upd H a o) ∧ Same Hs (upd Hs a o) := by
  obtain ⟨f1, f2⟩ := ok.fresh0 h
  have sm : Same Hs (upd Hs a o) := fun b o' e => by
    rw [upd_ne (fun z => by rw [z, f1] at e; cases e)]
    exact e
  refine ⟨⟨ok.ln, ok.lg, ok.la, ok.base.trans sm, fun b o' e => ?_, fun i d e => ?_, fun i d e => ?_, fun i c' p l e => ?_, ok.inj, fun b o' e => ?_, fun b o' e k => ?_, ok.pinned, ok.pin1, ok.locked⟩, sm⟩
  · by_cases z : b = a
    · subst z
      rw [upd_same] at e ⊢
      exact e
    · rw [upd_ne z] at e ⊢
      exact ok.same b o' e
  · obtain ⟨v, q1, q2⟩ := ok.dat i d e
    exact ⟨v, q1, q2.mono sm⟩
  · obtain ⟨v, q1, q2, q3⟩ := ok.frz i d e
    exact ⟨v, q1, q2, q3.mono sm⟩
  · obtain ⟨a', o', q1, q2, q3, q4, q5, q6⟩ := ok.own i c' p l e
    have ne : a' ≠ a := fun z => by rw [z, h] at q4; cases q4
    exact ⟨a', o', q1, q2, by rw [upd_ne ne]; exact q3, by rw [upd_ne ne]; exact q4, q5.mono sm, q6⟩
  · by_cases z : b = a
    · subst z; exact .inr f2
    · rw [upd_ne z] at e; exact ok.grow b o' e
  · rw [upd_ne (fun z => by rw [z, f2] at e; cases e)]
    exact ok.keep b o' e k
/-- the heap grew by things that nobody knows -/
theorem Ok.more (ok : Ok C Hs A g σ H) {H' : Hp} (s : Same H H') : Ok C Hs A g σ H' :=
  ⟨ok.ln, ok.lg, ok.la, ok.base, ok.same.trans s, ok.dat, ok.frz, fun i c p l e => by
    obtain ⟨a, o, q1, q2, q3, q4, q5, q6⟩ := ok.own i c p l e
    exact ⟨a, o, q1, q2, q3, s _ _ q4, q5, q6⟩, ok.inj, ok.grow, fun b o e k => s _ _ (ok.keep b o e k), ok.pinned, ok.pin1, ok.locked⟩
/-- .. and by known things -/
theorem Ok.moreS (ok : Ok C Hs A g σ H) {Hs' H' : Hp} (s : Same H H') (s1 : Same Hs Hs') (s2 : Same Hs' H') (gr : ∀ b o, Hs' b = some o → Hs b = some o ∨ H b = none) : Ok C Hs' A g σ H' := by
  refine ⟨ok.ln, ok.lg, ok.la, ok.base.trans s1, s2, fun i d e => ?_, fun i d e => ?_, fun i c p l e => ?_, ok.inj, fun b o e => ?_, fun b o e k => s _ _ (ok.keep b o e k), ok.pinned, ok.pin1, ok.locked⟩
  · obtain ⟨v, q1, q2⟩ := ok.dat i d e
    exact ⟨v, q1, q2.mono s1⟩
  · obtain ⟨v, q1, q2, q3⟩ := ok.frz i d e
    exact ⟨v, q1, q2, q3.mono s1⟩
  · obtain ⟨a, o, q1, q2, q3, q4, q5, q6⟩ := ok.own i c p l e
    refine ⟨a, o, q1, q2, ?_, s _ _ q4, q5.mono s1, q6⟩
    cases z : Hs' a with
    | none => rfl
    | some o' =>
      rcases gr a o' z with w | w
      · rw [q3] at w; cases w
      · rw [q4] at w; cases w
  · rcases gr b o e with w | w
    · exact ok.grow b o w
    · exact .inr (ok.fresh0 w).2
end
/-- the container at slot j becomes data -/
def frzAt (j : Nat) (g : List Sl) : Option (D × List Sl) := match g[j]? with
  | some (.own c false false) => some (c.d, g.set j (.frz c.d))
  | some (.frz d) => some (d, g)
  | _ => none
def frzR (r : R) (g : List Sl) : Option (D × List Sl) := match r with
  | .dat d => some (d, g)
  | .bor j => frzAt j g
section
variable {C : Ct} {Hs : Hp} {A : List Addr} {g g' : List Sl} {σ : L2.St} {H : Hp} {j : Nat} {d : D} {v : V} {r : R}
/-- slots are changed one by one: a helper -/
theorem set_some {α : Type} {g : List α} {i j : Nat} {s t : α} (e : (g.set j t)[i]? = some s) : (i = j ∧ s = t ∧ j < g.length) ∨ (i ≠ j ∧ g[i]? = some s) := by
  by_cases h : i = j
  · subst h
    by_cases hl : i < g.length
    · rw [List.getElem?_set_self hl] at e
      exact .inl ⟨rfl, (Option.some.inj e).symm, hl⟩
    · have := (List.getElem?_eq_some_iff.mp e).1
      rw [List.length_set] at this
      exact absurd this hl
  · rw [List.getElem?_set_ne (Ne.symm h)] at e
    exact .inr ⟨h, e⟩
theorem Ok.frzAt (ok : Ok C Hs A g σ H) (e : frzAt j g = some (d, g')) : ∃ Hs' a, Same Hs Hs' ∧ Ok C Hs' A g' σ H ∧ A[j]? = some a ∧ Dz C.K Hs' (.ref a) d := by
  unfold Z.frzAt at e
  split at e
  · rename_i c hg
    cases e
    obtain ⟨a, o, q1, q2, q3, q4, q5, q6⟩ := ok.own j c _ _ hg
    have sm : Same Hs (upd Hs a o) := fun b o' e => by
      rw [upd_ne (fun z => by rw [z, q3] at e; cases e)]
      exact e
    have dz : Dz C.K (upd Hs a o) (.ref a) c.d := (q5.mono sm).dz upd_same
    refine ⟨upd Hs a o, a, sm, ⟨ok.ln, by rw [List.length_set]; exact ok.lg, by rw [List.length_set]; exact ok.la, ok.base.trans sm, fun b o' e => ?_, fun i d e => ?_, fun i d e => ?_, fun i c' p l e => ?_, fun i k c1 p1 l1 c2 p2 l2 a' e1 e2 h1 h2 => ?_, fun b o' e => ?_, ok.keep, fun q hq => ?_, fun i c' l a' e ha => ?_, fun q hq => ?_⟩, q1, dz⟩
    · by_cases z : b = a
      · subst z
        rw [upd_same] at e; cases e; exact q4
      · rw [upd_ne z] at e
        exact ok.same b o' e
    · rcases set_some e with ⟨_, e, _⟩ | ⟨_, e⟩
      · cases e
      · obtain ⟨v, w1, w2⟩ := ok.dat i d e
        exact ⟨v, w1, w2.mono sm⟩
    · rcases set_some e with ⟨ei, e, _⟩ | ⟨_, e⟩
      · cases e
        subst ei
        exact ⟨a, q1, q2, dz⟩
      · obtain ⟨v, w1, w2, w3⟩ := ok.frz i d e
        exact ⟨v, w1, w2, w3.mono sm⟩
    · rcases set_some e with ⟨_, e, _⟩ | ⟨ne, e⟩
      · cases e
      · obtain ⟨a', o', w1, w2, w3, w4, w5, w6⟩ := ok.own i c' p l e
        have na : a' ≠ a := fun z => by
          subst z
          exact ne (ok.inj i j _ _ _ _ _ _ a' e hg w1 q1)
        exact ⟨a', o', w1, w2, by rw [upd_ne na]; exact w3, w4, w5.mono sm, w6⟩
    · rcases set_some e1 with ⟨_, e1, _⟩ | ⟨_, e1⟩
      · cases e1
      · rcases set_some e2 with ⟨_, e2, _⟩ | ⟨_, e2⟩
        · cases e2
        · exact ok.inj i k _ _ _ _ _ _ a' e1 e2 h1 h2
    · by_cases z : b = a
      · subst z; exact .inr (q6 rfl)
      · rw [upd_ne z] at e; exact ok.grow b o' e
    · obtain ⟨c', l, h1, h2⟩ := ok.pinned q hq
      refine ⟨c', l, ?_, h2⟩
      rw [List.getElem?_set_ne]
      · exact h1
      · intro z
        subst z
        rw [hg] at h1; cases h1
    · rcases set_some e with ⟨_, e, _⟩ | ⟨_, e⟩
      · cases e
      · exact ok.pin1 i c' l a' e ha
    · obtain ⟨p, h1, h2⟩ := ok.locked q hq
      refine ⟨p, ?_, h2⟩
      rw [List.getElem?_set_ne]
      · exact h1
      · intro z
        subst z
        rw [hg] at h1; cases h1
  · rename_i d' hg
    cases e
    obtain ⟨a, q1, q2, q3⟩ := ok.frz j d hg
    exact ⟨Hs, a, Same.refl _, ok, q1, q3⟩
  · cases e
theorem Ok.frzR (ok : Ok C Hs A g σ H) (h : RelR C.K Hs A v r) (e : frzR r g = some (d, g')) : ∃ Hs', Same Hs Hs' ∧ Ok C Hs' A g' σ H ∧ Dz C.K Hs' v d := by
  cases r with
  | dat d' =>
    have e' : some (d', g) = some (d, g') := e
    cases e'
    exact ⟨Hs, Same.refl _, ok, h⟩
  | bor j =>
    obtain ⟨a, h1, rfl⟩ := (show ∃ a, A[j]? = some a ∧ v = .ref a from h)
    obtain ⟨Hs', a', s, ok', h2, dz⟩ := ok.frzAt e
    rw [h1] at h2
    have e1 : a = a' := Option.some.inj h2
    subst e1
    exact ⟨Hs', s, ok', dz⟩
/-- the slot j may be overwritten -/
def freeAt (j : Nat) (g : List Sl) : Bool := match g[j]? with
  | some (.own _ true _) => false
  | some (.own _ _ true) => false
  | some _ => true
  | none => false
def setDat (i : Nat) (d : D) (g : List Sl) : Option (List Sl) := if freeAt i g = true then some (g.set i (.dat d)) else none
theorem freeAt_lt (e : freeAt j g = true) : j < g.length := by
  unfold freeAt at e
  by_cases h : j < g.length
  · exact h
  · rw [List.getElem?_eq_none_iff.mpr (by omega)] at e
    cases e
theorem freeAt_pin (e : freeAt j g = true) {c : Cn} {l : Bool} (h : g[j]? = some (.own c true l)) : False := by
  unfold freeAt at e
  rw [h] at e
  cases e
theorem freeAt_lock (e : freeAt j g = true) {c : Cn} {p : Bool} (h : g[j]? = some (.own c p true)) : False := by
  unfold freeAt at e
  rw [h] at e
  cases p <;> cases e
/-- a slot forgotten, or filled with data; σ may change there -/
theorem Ok.put (ok : Ok C Hs A g σ H) {s : Sl} {σ' : L2.St} (hf : freeAt j g = true) (hl : σ'.length = σ.length) (hσ : ∀ (i : Nat), i ≠ j → σ'[i]? = σ[i]?) (hs : s = .un ∨ ∃ d v, s = .dat d ∧ σ'[j]? = some (some v) ∧ Dz C.K Hs v d) : Ok C Hs A (g.set j s) σ' H := by
  have no : ∀ {i : Nat} {c : Cn} {p l : Bool}, (g.set j s)[i]? = some (.own c p l) → i ≠ j ∧ g[i]? = some (.own c p l) := fun {i c p l} e => by
    rcases set_some e with ⟨_, e, _⟩ | ⟨ne, e⟩
    · rcases hs with z | ⟨_, _, z, _⟩ <;> rw [z] at e <;> cases e
    · exact ⟨ne, e⟩
  refine ⟨hl.trans ok.ln, by rw [List.length_set]; exact ok.lg, by rw [List.length_set]; exact ok.la, ok.base, ok.same, fun i d e => ?_, fun i d e => ?_, fun i c' p l e => ?_, fun i k c1 p1 l1 c2 p2 l2 a' e1 e2 h1 h2 => ok.inj i k _ _ _ _ _ _ a' (no e1).2 (no e2).2 h1 h2, ok.grow, ok.keep, fun q hq => ?_, fun i c' l a' e ha => ok.pin1 i c' l a' (no e).2 ha, fun q hq => ?_⟩
  · rcases set_some e with ⟨ei, e3, _⟩ | ⟨ne, e3⟩
    · subst ei
      rcases hs with z | ⟨d', v, z, w1, w2⟩
      · rw [z] at e3; cases e3
      · rw [z] at e3; cases e3; exact ⟨v, w1, w2⟩
    · rw [hσ i ne]; exact ok.dat i d e3
  · rcases set_some e with ⟨ei, e3, _⟩ | ⟨ne, e3⟩
    · rcases hs with z | ⟨d', v, z, w1, w2⟩ <;> rw [z] at e3 <;> cases e3
    · rw [hσ i ne]; exact ok.frz i d e3
  · obtain ⟨ne, e⟩ := no e
    rw [hσ i ne]; exact ok.own i c' p l e
  · obtain ⟨c', l, h1, h2⟩ := ok.pinned q hq
    refine ⟨c', l, ?_, h2⟩
    rw [List.getElem?_set_ne]
    · exact h1
    · intro z
      subst z
      exact freeAt_pin hf h1
  · obtain ⟨p, h1, h2⟩ := ok.locked q hq
    refine ⟨p, ?_, h2⟩
    rw [List.getElem?_set_ne]
    · exact h1
    · intro z
      subst z
      exact freeAt_lock hf h1
theorem Ok.set (ok : Ok C Hs A g σ H) (e : setDat j d g = some g') (hj : j < C.n) (h : Dz C.K Hs v d) : Ok C Hs A g' (σ.set j (some v)) H := by
  unfold setDat at e
  split at e
  · rename_i hf
    cases e
    refine ok.put hf (by rw [List.length_set]) (fun i ne => List.getElem?_set_ne (Ne.symm ne)) (.inr ⟨d, v, rfl, ?_, h⟩)
    exact List.getElem?_set_self (by rw [ok.ln]; exact hj)
  · cases e
/-- a container held aside becomes the slot's own -/
theorem Ok.move (ok : Ok C Hs A g σ H) {t : Nat} {c : Cn} {a : Addr} (hf : freeAt j g = true) (hj : j < C.n) (ht : C.n ≤ t) (e : g[t]? = some (.own c false false)) (ha : A[t]? = some a) :
    Ok C Hs (A.set j a) ((g.set j (.own c false false)).set t .un) (σ.set j (some (.ref a))) H := by
  have htl := (List.getElem?_eq_some_iff.mp e).1
  have hjl := freeAt_lt hf
  have jt : j ≠ t := by omega
  have oc : ∀ {i : Nat} {s : Sl}, ((g.set j (.own c false false)).set t .un)[i]? = some s → (i = t ∧ s = .un) ∨ (i = j ∧ s = .own c false false) ∨ (i ≠ t ∧ i ≠ j ∧ g[i]? = some s) := fun {i s} e => by
    rcases set_some e with ⟨ei, e, _⟩ | ⟨ne, e⟩
    · exact .inl ⟨ei, e⟩
    · rcases set_some e with ⟨ei, e, _⟩ | ⟨ne2, e⟩
      · exact .inr (.inl ⟨ei, e⟩)
      · exact .inr (.inr ⟨ne, ne2, e⟩)
  have A1 : (A.set j a)[j]? = some a := List.getElem?_set_self (by rw [ok.la]; exact hjl)
  have A2 : ∀ (i : Nat), i ≠ j → (A.set j a)[i]? = A[i]? := fun i ne => List.getElem?_set_ne (Ne.symm ne)
  have S2 : ∀ (i : Nat), i ≠ j → (σ.set j (some (V.ref a)))[i]? = σ[i]? := fun i ne => List.getElem?_set_ne (Ne.symm ne)
  obtain ⟨a0, o, q1, q2, q3, q4, q5, q6⟩ := ok.own t c _ _ e
  rw [ha] at q1
  have ea : a = a0 := Option.some.inj q1
  subst ea
  have neo : ∀ {i : Nat} {c' : Cn} {p l : Bool} {a' : Addr}, i ≠ t → g[i]? = some (.own c' p l) → A[i]? = some a' → a' ≠ a := fun {i c' p l a'} ne e' h z => by
    subst z
    exact ne (ok.inj i t _ _ _ _ _ _ a' e' e h ha)
  refine ⟨by rw [List.length_set]; exact ok.ln, by rw [List.length_set, List.length_set]; exact ok.lg, by rw [List.length_set, List.length_set, List.length_set]; exact ok.la, ok.base, ok.same, fun i d e => ?_, fun i d e => ?_, fun i c' p l e => ?_, fun i k c1 p1 l1 c2 p2 l2 a' e1' e2' h1 h2 => ?_, ok.grow, ok.keep, fun q hq => ?_, fun i c' l a' e ha => ?_, fun q hq => ?_⟩
  · rcases oc e with ⟨_, e⟩ | ⟨_, e⟩ | ⟨_, ne, e⟩
    · cases e
    · cases e
    · rw [S2 i ne]; exact ok.dat i d e
  · rcases oc e with ⟨_, e⟩ | ⟨_, e⟩ | ⟨_, ne, e⟩
    · cases e
    · cases e
    · rw [S2 i ne, A2 i ne]; exact ok.frz i d e
  · rcases oc e with ⟨_, e⟩ | ⟨ei, e⟩ | ⟨_, ne, e⟩
    · cases e
    · cases e
      subst ei
      exact ⟨a, o, A1, fun _ => List.getElem?_set_self (by rw [ok.ln]; exact hj), q3, q4, q5, fun _ => q6 rfl⟩
    · rw [S2 i ne, A2 i ne]; exact ok.own i c' p l e
  · rcases oc e1' with ⟨_, e1⟩ | ⟨ei, e1⟩ | ⟨nt, ne, e1⟩
    · cases e1
    · rcases oc e2' with ⟨_, e2⟩ | ⟨ek, e2⟩ | ⟨nt2, ne2, e2⟩
      · cases e2
      · omega
      · subst ei
        rw [A1] at h1
        rw [A2 k ne2] at h2
        exact absurd (Option.some.inj h1).symm (neo nt2 e2 h2)
    · rcases oc e2' with ⟨_, e2⟩ | ⟨ek, e2⟩ | ⟨nt2, ne2, e2⟩
      · cases e2
      · subst ek
        rw [A1] at h2
        rw [A2 i ne] at h1
        exact absurd (Option.some.inj h2).symm (neo nt e1 h1)
      · rw [A2 i ne] at h1
        rw [A2 k ne2] at h2
        exact ok.inj i k _ _ _ _ _ _ a' e1 e2 h1 h2
  · obtain ⟨c', l, h1, h2⟩ := ok.pinned q hq
    have n1 : q.1 ≠ j := fun z => by rw [z] at h1; exact freeAt_pin hf h1
    have n2 : q.1 ≠ t := fun z => by rw [z, e] at h1; cases h1
    refine ⟨c', l, ?_, by rw [A2 _ n1]; exact h2⟩
    rw [List.getElem?_set_ne (Ne.symm n2), List.getElem?_set_ne (Ne.symm n1)]
    exact h1
  · rcases oc e with ⟨_, e⟩ | ⟨ei, e⟩ | ⟨_, ne, e⟩
    · cases e
    · cases e
    · rw [A2 i ne] at ha
      exact ok.pin1 i c' l a' e ha
  · obtain ⟨p, h1, h2⟩ := ok.locked q hq
    have n1 : q.1 ≠ j := fun z => by rw [z] at h1; exact freeAt_lock hf h1
    have n2 : q.1 ≠ t := fun z => by rw [z, e] at h1; cases h1
    refine ⟨p, ?_, by rw [A2 _ n1]; exact h2⟩
    rw [List.getElem?_set_ne (Ne.symm n2), List.getElem?_set_ne (Ne.symm n1)]
    exact h1
/-- what was held aside is dropped -/
theorem Ok.cut (ok : Ok C Hs A g σ H) : Ok C Hs (A.take C.n) (g.take C.n) σ H := by
  have tk : ∀ {α : Type} {l : List α} {i : Nat} {s : α}, (l.take C.n)[i]? = some s → i < C.n ∧ l[i]? = some s := fun {α l i s} e => by
    by_cases h : i < C.n
    · rw [List.getElem?_take_of_lt h] at e; exact ⟨h, e⟩
    · have := (List.getElem?_eq_some_iff.mp e).1
      rw [List.length_take] at this; omega
  have kt : ∀ {α : Type} {l : List α} {i : Nat} {s : α}, i < C.n → l[i]? = some s → (l.take C.n)[i]? = some s := fun {α l i s} h e => by
    rw [List.getElem?_take_of_lt h]; exact e
  refine ⟨ok.ln, by rw [List.length_take]; have := ok.lg; omega, by rw [List.length_take, List.length_take, ok.la], ok.base, ok.same, fun i d e => ok.dat i d (tk e).2, fun i d e => ?_, fun i c' p l e => ?_, fun i k c1 p1 l1 c2 p2 l2 a' e1 e2 h1 h2 => ok.inj i k _ _ _ _ _ _ a' (tk e1).2 (tk e2).2 (tk h1).2 (tk h2).2, ok.grow, ok.keep, fun q hq => ?_, fun i c' l a' e ha => ok.pin1 i c' l a' (tk e).2 (tk ha).2, fun q hq => ?_⟩
  · obtain ⟨a, q1, q2⟩ := ok.frz i d (tk e).2
    exact ⟨a, kt (tk e).1 q1, q2⟩
  · obtain ⟨a, o, q1, q2⟩ := ok.own i c' p l (tk e).2
    exact ⟨a, o, kt (tk e).1 q1, q2⟩
  · obtain ⟨c', l, h1, h2⟩ := ok.pinned q hq
    exact ⟨c', l, kt (C.plt q hq) h1, kt (C.plt q hq) h2⟩
  · obtain ⟨p, h1, h2⟩ := ok.locked q hq
    exact ⟨p, kt (C.llt q hq) h1, kt (C.llt q hq) h2⟩
/-- the container at j is written -/
theorem Ok.wr (ok : Ok C Hs A g σ H) {c c' : Cn} {p : Bool} {a : Addr} {o : HO} (e : g[j]? = some (.own c p false)) (ha : A[j]? = some a) (hc : CnOk C.K Hs c' o) : Ok C Hs A (g.set j (.own c' p false)) σ (upd H a o) := by
  obtain ⟨a0, o0, q1, q2, q3, q4, q5, q6⟩ := ok.own j c _ _ e
  rw [ha] at q1
  have ea : a = a0 := Option.some.inj q1
  subst ea
  have hj := (List.getElem?_eq_some_iff.mp e).1
  have oc : ∀ {i : Nat} {s : Sl}, (g.set j (.own c' p false))[i]? = some s → (i = j ∧ s = .own c' p false) ∨ (i ≠ j ∧ g[i]? = some s) := fun {i s} e => by
    rcases set_some e with ⟨ei, e, _⟩ | ⟨ne, e⟩
    · exact .inl ⟨ei, e⟩
    · exact .inr ⟨ne, e⟩
  have ow : ∀ {i : Nat} {c1 : Cn} {p1 l1 : Bool}, (g.set j (.own c' p false))[i]? = some (.own c1 p1 l1) → ∃ c2, g[i]? = some (.own c2 p1 l1) := fun {i c1 p1 l1} e' => by
    rcases oc e' with ⟨ei, e'⟩ | ⟨_, e'⟩
    · cases e'; subst ei; exact ⟨c, e⟩
    · exact ⟨c1, e'⟩
  refine ⟨ok.ln, by rw [List.length_set]; exact ok.lg, by rw [List.length_set]; exact ok.la, ok.base, fun b o' e => ?_, fun i d e => ?_, fun i d e => ?_, fun i c1 p1 l1 e1 => ?_, fun i k c1 p1 l1 c2 p2 l2 a' e1 e2 h1 h2 => ?_, ok.grow, fun b o' e2 k => ?_, fun q hq => ?_, fun i c1 l1 a' e1 ha' => ?_, fun q hq => ?_⟩
  · rw [upd_ne (fun z => by rw [z, q3] at e; cases e)]
    exact ok.same b o' e
  · rcases oc e with ⟨_, e⟩ | ⟨_, e⟩
    · cases e
    · exact ok.dat i d e
  · rcases oc e with ⟨_, e⟩ | ⟨_, e⟩
    · cases e
    · exact ok.frz i d e
  · rcases oc e1 with ⟨ei, e1⟩ | ⟨ne, e1⟩
    · cases e1
      subst ei
      exact ⟨a, o, ha, q2, q3, upd_same, hc, q6⟩
    · obtain ⟨a', o', w1, w2, w3, w4, w5, w6⟩ := ok.own i c1 p1 l1 e1
      have na : a' ≠ a := fun z => by
        subst z
        exact ne (ok.inj i j _ _ _ _ _ _ a' e1 e w1 ha)
      exact ⟨a', o', w1, w2, w3, by rw [upd_ne na]; exact w4, w5, w6⟩
  · obtain ⟨x, hx⟩ := ow e1
    obtain ⟨y, hy⟩ := ow e2
    exact ok.inj i k _ _ _ _ _ _ a' hx hy h1 h2
  · have nb : b ≠ a := fun z => by
      subst z
      cases p with
      | true => exact k _ (ok.pin1 j c false b e ha) rfl
      | false => rw [q6 rfl] at e2; cases e2
    rw [upd_ne nb]
    exact ok.keep b o' e2 k
  · obtain ⟨c1, l, h1, h2⟩ := ok.pinned q hq
    by_cases z : q.1 = j
    · rw [z, e] at h1
      cases h1
      exact ⟨c', false, by rw [z]; exact List.getElem?_set_self hj, h2⟩
    · exact ⟨c1, l, by rw [List.getElem?_set_ne (Ne.symm z)]; exact h1, h2⟩
  · rcases oc e1 with ⟨ei, e1⟩ | ⟨ne, e1⟩
    · cases e1
      subst ei
      exact ok.pin1 i c false a' e ha'
    · exact ok.pin1 i c1 l1 a' e1 ha'
  · obtain ⟨p', h1, h2⟩ := ok.locked q hq
    have n1 : q.1 ≠ j := fun z => by rw [z, e] at h1; cases h1
    exact ⟨p', by rw [List.getElem?_set_ne (Ne.symm n1)]; exact h1, h2⟩
/-- locked and unlocked: C' has other locks -/
theorem Ok.lk {C' : Ct} (ok : Ok C Hs A g σ H) {c : Cn} {p l l' : Bool} (e : g[j]? = some (.own c p l)) (hK : C'.K = C.K) (hn : C'.n = C.n) (h0 : C'.H0 = C.H0) (hs0 : C'.Hs0 = C.Hs0) (hp : C'.pins = C.pins)
    (hl : ∀ q ∈ C'.locks, (q.1 = j ∧ q.2.2 = c ∧ l' = true ∧ A[j]? = some q.2.1) ∨ (q.1 ≠ j ∧ q ∈ C.locks)) : Ok C' Hs A (g.set j (.own c p l')) σ H := by
  have hj := (List.getElem?_eq_some_iff.mp e).1
  have oc : ∀ {i : Nat} {s : Sl}, (g.set j (.own c p l'))[i]? = some s → (i = j ∧ s = .own c p l') ∨ (i ≠ j ∧ g[i]? = some s) := fun {i s} e => by
    rcases set_some e with ⟨ei, e, _⟩ | ⟨ne, e⟩
    · exact .inl ⟨ei, e⟩
    · exact .inr ⟨ne, e⟩
  have ow : ∀ {i : Nat} {c1 : Cn} {p1 l1 : Bool}, (g.set j (.own c p l'))[i]? = some (.own c1 p1 l1) → ∃ l2, g[i]? = some (.own c1 p1 l2) := fun {i c1 p1 l1} e' => by
    rcases oc e' with ⟨ei, e'⟩ | ⟨_, e'⟩
    · cases e'; subst ei; exact ⟨l, e⟩
    · exact ⟨l1, e'⟩
  refine ⟨by rw [hn]; exact ok.ln, by rw [List.length_set, hn]; exact ok.lg, by rw [List.length_set]; exact ok.la, by rw [hs0]; exact ok.base, ok.same, fun i d e => ?_, fun i d e => ?_, fun i c1 p1 l1 e1 => ?_, fun i k c1 p1 l1 c2 p2 l2 a' e1 e2 h1 h2 => ?_, by rw [hs0, h0]; exact ok.grow, by rw [h0, hp]; exact ok.keep, fun q hq => ?_, fun i c1 l1 a' e1 ha => ?_, fun q hq => ?_⟩
  · rcases oc e with ⟨_, e⟩ | ⟨_, e⟩
    · cases e
    · rw [hK]; exact ok.dat i d e
  · rcases oc e with ⟨_, e⟩ | ⟨_, e⟩
    · cases e
    · rw [hK, hn]; exact ok.frz i d e
  · obtain ⟨l2, h⟩ := ow e1
    rw [hK, hn, h0]
    exact ok.own i c1 p1 l2 h
  · obtain ⟨x, hx⟩ := ow e1
    obtain ⟨y, hy⟩ := ow e2
    exact ok.inj i k _ _ _ _ _ _ a' hx hy h1 h2
  · obtain ⟨c1, l1, h1, h2⟩ := ok.pinned q (by rw [← hp]; exact hq)
    by_cases z : q.1 = j
    · rw [z, e] at h1
      cases h1
      exact ⟨c, l', by rw [z]; exact List.getElem?_set_self hj, h2⟩
    · exact ⟨c1, l1, by rw [List.getElem?_set_ne (Ne.symm z)]; exact h1, h2⟩
  · obtain ⟨l2, h⟩ := ow e1
    rw [hp]
    exact ok.pin1 i c1 l2 a' h ha
  · rcases hl q hq with ⟨e1, e2, e3, e4⟩ | ⟨ne, hq⟩
    · exact ⟨p, by rw [e1, List.getElem?_set_self hj, e2, e3], by rw [e1]; exact e4⟩
    · obtain ⟨p', h1, h2⟩ := ok.locked q hq
      exact ⟨p', by rw [List.getElem?_set_ne (Ne.symm ne)]; exact h1, h2⟩
end
end Z
set_option Elab.async false
set_option linter.all false
set_option maxRecDepth 100000
set_option maxHeartbeats 4000000
namespace Z
open PySem PySem.Spec PyProof.Rows L2
abbrev G := List Sl
abbrev ZM := G → Option (R × G)
abbrev ZT := G → Option (Bool × G)
abbrev ZAr := G → Option (List R × G)
def RelRs (K : PySem.W.Frag) (Hs : Hp) (A : List Addr) : List V → List R → Prop
  | [], [] => True
  | v :: vs, r :: rs => RelR K Hs A v r ∧ RelRs K Hs A vs rs
  | _, _ => False
theorem RelRs.mono {K : PySem.W.Frag} {Hs Hs' : Hp} {A A' : List Addr} (s : Same Hs Hs') (p : Pre A A') : ∀ {vs : List V} {rs : List R}, RelRs K Hs A vs rs → RelRs K Hs' A' vs rs
  | [], [], _ => trivial
  | _ :: _, _ :: _, h => ⟨h.1.mono s p, RelRs.mono s p h.2⟩
  | [], _ :: _, h => h.elim
  | _ :: _, [], h => h.elim
/-- readings by data: n the number of the def's names -/
def tZ (K : PySem.W.Frag) (n : Nat) (m : ZM) : TE := fun σ H Q => ∃ (C : Ct) (Hs : Hp) (A : List Addr) (g : G) (r : R) (g' : G), C.K = K ∧ C.n = n ∧ Ok C Hs A g σ H ∧ m g = some (r, g') ∧
  ∀ (Hs' : Hp) (A' : List Addr) (v : V) (H' : Hp), Same Hs Hs' → Pre A A' → Ok C Hs' A' g' σ H' → RelR C.K Hs' A' v r → Q v H'
def tZT (K : PySem.W.Frag) (n : Nat) (m : ZT) : TT := fun σ H Q => ∃ (C : Ct) (Hs : Hp) (A : List Addr) (g : G) (b : Bool) (g' : G), C.K = K ∧ C.n = n ∧ Ok C Hs A g σ H ∧ m g = some (b, g') ∧
  ∀ (Hs' : Hp) (A' : List Addr) (H' : Hp), Same Hs Hs' → Pre A A' → Ok C Hs' A' g' σ H' → Q b H'
def tZA (K : PySem.W.Frag) (n : Nat) (m : ZAr) : TA := fun σ H Q => ∃ (C : Ct) (Hs : Hp) (A : List Addr) (g : G) (rs : List R) (g' : G), C.K = K ∧ C.n = n ∧ Ok C Hs A g σ H ∧ m g = some (rs, g') ∧
  ∀ (Hs' : Hp) (A' : List Addr) (vs : List V) (H' : Hp), Same Hs Hs' → Pre A A' → Ok C Hs' A' g' σ H' → RelRs C.K Hs' A' vs rs → Q vs H'
theorem PE.of {X : Cx} {e : Expr} {t t' : TE} (h : PE X e t) (w : ∀ σ H Q, t' σ H Q → t σ H Q) : PE X e t' := ⟨fun pins s σ H Q I q => h.run pins s σ H Q I (w σ H Q q)⟩
theorem PT.of {X : Cx} {e : Expr} {t t' : TT} (h : PT X e t) (w : ∀ σ H Q, t' σ H Q → t σ H Q) : PT X e t' := ⟨fun pins s σ H Q I q => h.run pins s σ H Q I (w σ H Q q)⟩
theorem PW.of {X : Cx} {e : Expr} {t t' : TT} (h : PW X e t) (w : ∀ σ H Q, t' σ H Q → t σ H Q) : PW X e t' := ⟨fun wh pins s σ H Q I q => h.run wh pins s σ H Q I (w σ H Q q)⟩
theorem PA.of {X : Cx} {es : List Expr} {t t' : TA} (h : PA X es t) (w : ∀ σ H Q, t' σ H Q → t σ H Q) : PA X es t' := ⟨fun pos pins s σ H Q I q => h.run pos pins s σ H Q I (w σ H Q q)⟩
theorem PS.of {X : Cx} {st : Stmt} {t t' : TS} (h : PS X st t) (w : ∀ D σ H, t' D σ H → t D σ H) : PS X st t' := ⟨fun pins s σ H D I q => h.run pins s σ H D I (w D σ H q)⟩
theorem PSs.of {X : Cx} {st : List Stmt} {t t' : TS} (h : PSs X st t) (w : ∀ D σ H, t' D σ H → t D σ H) : PSs X st t' := ⟨fun pins s σ H D I q => h.run pins s σ H D I (w D σ H q)⟩
abbrev ZE (X : Cx) (e : Expr) (m : ZM) : Prop := PE X e (tZ X.K X.N.length m)
abbrev ZTe (X : Cx) (e : Expr) (m : ZT) : Prop := PT X e (tZT X.K X.N.length m)
abbrev ZW (X : Cx) (e : Expr) (m : ZT) : Prop := PW X e (tZT X.K X.N.length m)
abbrev ZAs (X : Cx) (es : List Expr) (m : ZAr) : Prop := PA X es (tZA X.K X.N.length m)
def D.v : D → V
  | .non => .non | .bl b => .bl b | .int i => .int i | .str s => .str ⟨s.toArray⟩ | .raw v => v
  | _ => .non
theorem D.vz {K : PySem.W.Frag} {H : Hp} {z : D} (h : z.scal = true) : Dz K H z.v z := by
  cases z with
  | non => exact .non
  | bl b => exact .bl b
  | int i => exact .int i
  | str s => exact .str s
  | raw v => exact .raw v
  | dic _ _ => exact absurd h (by simp [D.scal])
  | tup _ => exact absurd h (by simp [D.scal])
  | lst _ => exact absurd h (by simp [D.scal])
theorem Dz.v {K : PySem.W.Frag} {H : Hp} {v : V} {z : D} (s : z.scal = true) (h : Dz K H v z) : v = z.v := by
  cases h with
  | non => rfl
  | bl b => rfl
  | int i => rfl
  | str z => rfl
  | raw v => rfl
  | dic _ _ _ => exact absurd s (by simp [D.scal])
  | tup _ _ => exact absurd s (by simp [D.scal])
  | lst _ _ => exact absurd s (by simp [D.scal])
def zVar (i : Nat) : ZM := fun g => match g[i]? with
  | some (.dat d) => some (.dat d, g)
  | some (.frz d) => some (.dat d, g)
  | some (.own _ _ _) => some (.bor i, g)
  | _ => none
def zC (d : D) : ZM := fun g => some (.dat d, g)
section
variable {X : Cx} {pos : Pos}
theorem ze_var {i : Nat} {x : Str} (hN : X.N[i]? = some x) (h : PE X (.Name x pos) (tVar i)) : ZE X (.Name x pos) (zVar i) := by
  refine PE.of h fun σ H Q ⟨C, Hs, A, g, r, g', hK, hn, ok, e, q⟩ => ?_
  have hi : i < C.n := by rw [hn]; exact (List.getElem?_eq_some_iff.mp hN).1
  unfold zVar at e
  split at e
  · rename_i d hg
    cases e
    obtain ⟨v, h1, h2⟩ := ok.dat i d hg
    exact ⟨v, h1, q Hs A v H (Same.refl _) (Pre.refl _) ok h2⟩
  · rename_i d hg
    cases e
    obtain ⟨a, h1, h2, h3⟩ := ok.frz i d hg
    exact ⟨_, h2 hi, q Hs A _ H (Same.refl _) (Pre.refl _) ok h3⟩
  · rename_i c p l hg
    cases e
    obtain ⟨a, o, h1, h2, _⟩ := ok.own i c p l hg
    exact ⟨_, h2 hi, q Hs A _ H (Same.refl _) (Pre.refl _) ok ⟨a, h1, rfl⟩⟩
  · cases e
theorem ze_const {e : Expr} {v : V} {d : D} (h : PE X e (tC v)) (hd : ∀ H, Dz X.K H v d) : ZE X e (zC d) := by
  refine PE.of h fun σ H Q ⟨C, Hs, A, g, r, g', hK, hn, ok, e, q⟩ => ?_
  cases e
  exact q Hs A v H (Same.refl _) (Pre.refl _) ok (by rw [hK]; exact hd Hs)
theorem ze_int {i j} : ZE X (.Constant (.int i) j pos) (zC (.int i)) := ze_const pe_int fun _ => .int i
theorem ze_bl {b j} : ZE X (.Constant (.bool b) j pos) (zC (.bl b)) := ze_const pe_bl fun _ => .bl b
theorem ze_non {j} : ZE X (.Constant .none j pos) (zC .non) := ze_const pe_non fun _ => .non
theorem ze_str {x j} {s : List Nat} (hs : x = (⟨s.toArray⟩ : Str) := by decide +kernel) : ZE X (.Constant (.str x) j pos) (zC (.str s)) := by
  subst hs
  exact ze_const pe_str fun _ => .str s
/-- a name of the module -/
theorem ze_glob {x : Str} {u : Value} {v : V} {d : D} (hg : Gl X x) (hm : X.mg x = some u) (r : RelV v u) (hd : ∀ H, Dz X.K H v d) (hdb : (x == ("__debug__" : Str)) = false := by decide) : ZE X (.Name x pos) (zC d) := ze_const (pe_glob hg hm r hdb) hd
theorem ze_bltn {x : Str} {u : Value} {v : V} (hg : Gl X x) (hm : X.mg x = none) (hv : bootBuiltins x = some u) (r : RelV v u) (hn : x ≠ "__name__" := by decide) (hdb : (x == ("__debug__" : Str)) = false := by decide) : ZE X (.Name x pos) (zC (.raw v)) :=
  ze_const (pe_bltn hg hm hv r hn hdb) fun _ => .raw v
/-- r does on values what f does on data -/
def OpS (K : PySem.W.Frag) (r : R2) (f : D → D → Option D) : Prop := ∀ (H : Hp) (x y : V) (d e z : D) (Q : VK), Dz K H x d → Dz K H y e → f d e = some z → Q z.v H → r x y H Q
def zOp (f : D → D → Option D) (ma mb : ZM) : ZM := fun g => do
  let (r1, g1) ← ma g
  let (r2, g2) ← mb g1
  let d ← rd g2 r1
  let e ← rd g2 r2
  let z ← f d e
  if z.scal = true then some (.dat z, g2) else none
theorem zOp_some {f : D → D → Option D} {ma mb : ZM} {g g' : G} {r : R} (e : zOp f ma mb g = some (r, g')) :
    ∃ r1 g1 r2 d1 d2 z, ma g = some (r1, g1) ∧ mb g1 = some (r2, g') ∧ rd g' r1 = some d1 ∧ rd g' r2 = some d2 ∧ f d1 d2 = some z ∧ z.scal = true ∧ r = .dat z := by
  unfold zOp at e
  simp only [Option.bind_eq_bind, Option.bind_eq_some_iff] at e
  obtain ⟨⟨r1, g1⟩, h1, ⟨r2, g2⟩, h2, d1, h3, d2, h4, z, h5, e⟩ := e
  split at e
  · rename_i hs
    cases e
    exact ⟨r1, g1, r2, d1, d2, z, h1, h2, h3, h4, h5, hs, rfl⟩
  · cases e
variable {a b c : Expr} {ma mb mc : ZM}
/-- two in a row, then what is done with both -/
theorem tZ2 {σ : L2.St} {H : Hp} {K : PySem.W.Frag} {n : Nat} {R2' : V → V → Hp → Prop} {C : Ct} {Hs : Hp} {A : List Addr} {g g1 g2 : G} {r1 r2 : R} (hK : C.K = K) (hn : C.n = n) (ok : Ok C Hs A g σ H) (e1 : ma g = some (r1, g1)) (e2 : mb g1 = some (r2, g2))
    (q : ∀ Hs2 A2 v1 v2 H2, Same Hs Hs2 → Pre A A2 → Ok C Hs2 A2 g2 σ H2 → RelR C.K Hs2 A2 v1 r1 → RelR C.K Hs2 A2 v2 r2 → R2' v1 v2 H2) : tZ K n ma σ H fun x H1 => tZ K n mb σ H1 fun y H2 => R2' x y H2 :=
  ⟨C, Hs, A, g, r1, g1, hK, hn, ok, e1, fun Hs1 A1 v1 H1 s1 p1 ok1 rel1 => ⟨C, Hs1, A1, g1, r2, g2, hK, hn, ok1, e2, fun Hs2 A2 v2 H2 s2 p2 ok2 rel2 => q Hs2 A2 v1 v2 H2 (s1.trans s2) (p1.trans p2) ok2 (rel1.mono s2 p2) rel2⟩⟩
theorem zop_of {r : R2} {f : D → D → Option D} {e : Expr} (h : PE X e (tOp r (tZ X.K X.N.length ma) (tZ X.K X.N.length mb))) (hf : OpS X.K r f) : ZE X e (zOp f ma mb) := by
  refine PE.of h fun σ H Q ⟨C, Hs, A, g, r, g', hK, hn, ok, e, q⟩ => ?_
  obtain ⟨r1, g1, r2, d1, d2, z, h1, h2, h3, h4, h5, h6, rfl⟩ := zOp_some e
  refine tZ2 hK hn ok h1 h2 fun Hs2 A2 v1 v2 H2 s p ok2 w1 w2 => ?_
  have x1 := ok2.rd w1 h3
  have x2 := ok2.rd w2 h4
  rw [hK] at x1 x2
  exact hf H2 v1 v2 d1 d2 z Q x1 x2 h5 (q Hs2 A2 z.v H2 s p ok2 (D.vz h6))
theorem ze_op {op : Operator} {r : R2} {f : D → D → Option D} (ho : OpR X (binaryOp op) r) (hf : OpS X.K r f) (ha : ZE X a ma) (hb : ZE X b mb) : ZE X (.BinOp a op b pos) (zOp f ma mb) := zop_of (pe_op ho ha hb) hf
theorem ze_cmp {op : CmpOp} {r : R2} {f : D → D → Option D} (ho : OpR X (compareOp op) r) (hf : OpS X.K r f) (ha : ZE X a ma) (hb : ZE X b mb) (hm : behindInMarks op b = false) : ZE X (.Compare a [op] [b] pos) (zOp f ma mb) := zop_of (pe_cmpR ho ha hb hm) hf
def isB : R → Option Bool
  | .dat (.bl b) => some b
  | _ => none
theorem isB_some {r : R} {b : Bool} (h : isB r = some b) : r = .dat (.bl b) := by
  unfold isB at h
  split at h
  · cases h; rfl
  · cases h
/-- a value that is a bool, as a test -/
def zTst (m : ZM) : ZT := fun g => do
  let (r, g1) ← m g
  let b ← isB r
  some (b, g1)
theorem zTst_some {m : ZM} {g g' : G} {b : Bool} (e : zTst m g = some (b, g')) : m g = some (.dat (.bl b), g') := by
  unfold zTst at e
  simp only [Option.bind_eq_bind, Option.bind_eq_some_iff] at e
  obtain ⟨⟨r, g1⟩, h1, b', h2, e⟩ := e
  cases e
  have h3 : r = .dat (.bl b) := isB_some h2
  rw [h3] at h1
  exact h1
theorem tst_of {m : ZM} {σ : L2.St} {H : Hp} {K : PySem.W.Frag} {n : Nat} {Q : Bool → Hp → Prop} (h : tZT K n (zTst m) σ H Q) : tZ K n m σ H fun x H1 => ∃ k, x = .bl k ∧ Q k H1 := by
  obtain ⟨C, Hs, A, g, b, g', hK, hn, ok, e, q⟩ := h
  refine ⟨C, Hs, A, g, _, _, hK, hn, ok, zTst_some e, fun Hs1 A1 v1 H1 s1 p1 ok1 rel1 => ?_⟩
  have e1 : v1 = .bl b := (show Dz C.K Hs1 v1 (.bl b) from rel1).v rfl
  exact ⟨b, e1, q Hs1 A1 H1 s1 p1 ok1⟩
theorem zt_cmp {op : CmpOp} {r : R2} {f : D → D → Option D} (ho : OpR X (compareOp op) r) (hf : OpS X.K r f) (ha : ZE X a ma) (hb : ZE X b mb) (hm : behindInMarks op b = false) : ZTe X (.Compare a [op] [b] pos) (zTst (zOp f ma mb)) := by
  refine PT.of (pt_cmpR (r := fun x y H Q => r x y H Q) ho ha hb hm) fun σ H Q h => ?_
  have h2 := tst_of h
  obtain ⟨C, Hs, A, g, r, g', hK, hn, ok, e, q⟩ := h2
  obtain ⟨r1, g1, r2, d1, d2, z, h1, h2, h3, h4, h5, h6, rfl⟩ := zOp_some e
  refine tZ2 (R2' := fun x y H2 => _) hK hn ok h1 h2 fun Hs2 A2 v1 v2 H2 s p ok2 w1 w2 => ?_
  have x1 := ok2.rd w1 h3
  have x2 := ok2.rd w2 h4
  rw [hK] at x1 x2
  exact hf H2 v1 v2 d1 d2 z _ x1 x2 h5 (q Hs2 A2 z.v H2 s p ok2 (D.vz h6))
def tru : D → Option Bool
  | .non => some false
  | .bl b => some b
  | .int i => some (i != 0)
  | .str s => if s.length ≤ sizeLine then some ((s.length : Int) != 0) else none
  | .lst l => some (!l.isEmpty)
  | .tup l => some (!l.isEmpty)
  | .raw _ => none
  | .dic _ _ => none
theorem DzA.empty {K : PySem.W.Frag} {H : Hp} {vs : List V} {ds : List D} (h : DzA K H vs ds) : vs.isEmpty = ds.isEmpty := by cases h <;> rfl
theorem tru_of {K : PySem.W.Frag} {H : Hp} {v : V} {d : D} {b : Bool} (h : Dz K H v d) (e : tru d = some b) : TruV K v H b := by
  cases h with
  | non => cases e; rfl
  | bl c => cases e; rfl
  | int i => cases e; rfl
  | str s =>
    have e : (if s.length ≤ sizeLine then some ((s.length : Int) != 0) else none) = some b := e
    split at e
    · rename_i hs
      cases e
      exact ⟨by simpa [Str.length] using hs, by simp [Str.length]⟩
    · cases e
  | lst hs ha => cases e; exact .inl ⟨_, hs, by rw [ha.empty]⟩
  | tup hs ha => cases e; exact .inr (.inl ⟨_, hs, by rw [ha.empty]⟩)
  | raw v => cases e
  | dic _ _ _ => cases e
def zTru (m : ZM) : ZT := fun g => do
  let (r, g1) ← m g
  let d ← rd g1 r
  let b ← tru d
  some (b, g1)
theorem zt_truth {e : Expr} {m : ZM} (h : ZE X e m) (he : ∀ whole, isTrue e X.env whole = (do let v ← whole; standAt e.pos; holding [v] (truthy v)) := by intro _; rfl) : ZTe X e (zTru m) := by
  refine PT.of (pt_truth h he) fun σ H Q ⟨C, Hs, A, g, b, g', hK, hn, ok, e, q⟩ => ?_
  unfold zTru at e
  simp only [Option.bind_eq_bind, Option.bind_eq_some_iff] at e
  obtain ⟨⟨r, g1⟩, h1, d, h2, b', h3, e⟩ := e
  cases e
  refine ⟨C, Hs, A, g, _, _, hK, hn, ok, h1, fun Hs1 A1 v1 H1 s1 p1 ok1 rel1 => ?_⟩
  have x := ok1.rd rel1 h2
  rw [hK] at x
  exact ⟨b, tru_of x h3, q Hs1 A1 H1 s1 p1 ok1⟩
def zAndT (s t : ZT) : ZT := fun g => do
  let (b, g1) ← s g
  if b = true then t g1 else some (false, g1)
def zOrT (s t : ZT) : ZT := fun g => do
  let (b, g1) ← s g
  if b = true then some (true, g1) else t g1
def zNotT (s : ZT) : ZT := fun g => do
  let (b, g1) ← s g
  some (!b, g1)
variable {sA sB : ZT} {rest : List Expr}
theorem zw_and1 (ha : ZTe X a sA) : ZW X (.BoolOp .And [a] pos) sA := pw_and1 ha
theorem zw_or1 (ha : ZTe X a sA) : ZW X (.BoolOp .Or [a] pos) sA := pw_or1 ha
theorem zw_and (ha : ZTe X a sA) (hb : ZW X (.BoolOp .And (b :: rest) pos) sB) : ZW X (.BoolOp .And (a :: b :: rest) pos) (zAndT sA sB) := by
  refine PW.of (pw_and ha hb) fun σ H Q ⟨C, Hs, A, g, b, g', hK, hn, ok, e, q⟩ => ?_
  unfold zAndT at e
  simp only [Option.bind_eq_bind, Option.bind_eq_some_iff] at e
  obtain ⟨⟨b1, g1⟩, h1, e⟩ := e
  refine ⟨C, Hs, A, g, b1, g1, hK, hn, ok, h1, fun Hs1 A1 H1 s1 p1 ok1 => ?_⟩
  cases b1 with
  | true => exact ⟨C, Hs1, A1, g1, b, g', hK, hn, ok1, e, fun Hs2 A2 H2 s2 p2 ok2 => q Hs2 A2 H2 (s1.trans s2) (p1.trans p2) ok2⟩
  | false =>
    cases e
    exact q Hs1 A1 H1 s1 p1 ok1
theorem zw_or (ha : ZTe X a sA) (hb : ZW X (.BoolOp .Or (b :: rest) pos) sB) : ZW X (.BoolOp .Or (a :: b :: rest) pos) (zOrT sA sB) := by
  refine PW.of (pw_or ha hb) fun σ H Q ⟨C, Hs, A, g, b, g', hK, hn, ok, e, q⟩ => ?_
  unfold zOrT at e
  simp only [Option.bind_eq_bind, Option.bind_eq_some_iff] at e
  obtain ⟨⟨b1, g1⟩, h1, e⟩ := e
  refine ⟨C, Hs, A, g, b1, g1, hK, hn, ok, h1, fun Hs1 A1 H1 s1 p1 ok1 => ?_⟩
  cases b1 with
  | false => exact ⟨C, Hs1, A1, g1, b, g', hK, hn, ok1, e, fun Hs2 A2 H2 s2 p2 ok2 => q Hs2 A2 H2 (s1.trans s2) (p1.trans p2) ok2⟩
  | true =>
    cases e
    exact q Hs1 A1 H1 s1 p1 ok1
theorem zt_w {e : Expr} (h : ZW X e sA) : ZTe X e sA := h.pt
theorem zt_not (ha : ZTe X a sA) : ZTe X (.UnaryOp .Not a pos) (zNotT sA) := by
  refine PT.of (pt_not ha) fun σ H Q ⟨C, Hs, A, g, b, g', hK, hn, ok, e, q⟩ => ?_
  unfold zNotT at e
  simp only [Option.bind_eq_bind, Option.bind_eq_some_iff] at e
  obtain ⟨⟨b1, g1⟩, h1, e⟩ := e
  cases e
  exact ⟨C, Hs, A, g, b1, _, hK, hn, ok, h1, fun Hs1 A1 H1 s1 p1 ok1 => q Hs1 A1 H1 s1 p1 ok1⟩
/-- .. as values -/
def zAndV (ma mb : ZM) : ZM := fun g => do
  let (r, g1) ← ma g
  let b ← isB r
  if b = true then mb g1 else some (.dat (.bl false), g1)
def zOrV (ma mb : ZM) : ZM := fun g => do
  let (r, g1) ← ma g
  let b ← isB r
  if b = true then some (.dat (.bl true), g1) else mb g1
def zNotV (ma : ZM) : ZM := fun g => do
  let (r, g1) ← ma g
  let b ← isB r
  some (.dat (.bl (!b)), g1)
theorem ze_one {op} (h : ZE X a ma) : ZE X (.BoolOp op [a] pos) ma := pe_one h
theorem ze_and (ha : ZE X a ma) (hb : ZE X (.BoolOp .And (b :: rest) pos) mb) : ZE X (.BoolOp .And (a :: b :: rest) pos) (zAndV ma mb) := by
  refine PE.of (pe_and ha hb) fun σ H Q ⟨C, Hs, A, g, r, g', hK, hn, ok, e, q⟩ => ?_
  unfold zAndV at e
  simp only [Option.bind_eq_bind, Option.bind_eq_some_iff] at e
  obtain ⟨⟨r1, g1⟩, h1, b1, h2, e⟩ := e
  have := isB_some h2
  subst this
  refine ⟨C, Hs, A, g, _, g1, hK, hn, ok, h1, fun Hs1 A1 v1 H1 s1 p1 ok1 rel1 => ⟨b1, (show Dz C.K Hs1 v1 (.bl b1) from rel1).v rfl, ?_⟩⟩
  cases b1 with
  | true => exact ⟨C, Hs1, A1, g1, r, g', hK, hn, ok1, e, fun Hs2 A2 v2 H2 s2 p2 ok2 => q Hs2 A2 v2 H2 (s1.trans s2) (p1.trans p2) ok2⟩
  | false =>
    cases e
    exact q Hs1 A1 _ H1 s1 p1 ok1 (.bl false)
theorem ze_or (ha : ZE X a ma) (hb : ZE X (.BoolOp .Or (b :: rest) pos) mb) : ZE X (.BoolOp .Or (a :: b :: rest) pos) (zOrV ma mb) := by
  refine PE.of (pe_or ha hb) fun σ H Q ⟨C, Hs, A, g, r, g', hK, hn, ok, e, q⟩ => ?_
  unfold zOrV at e
  simp only [Option.bind_eq_bind, Option.bind_eq_some_iff] at e
  obtain ⟨⟨r1, g1⟩, h1, b1, h2, e⟩ := e
  have := isB_some h2
  subst this
  refine ⟨C, Hs, A, g, _, g1, hK, hn, ok, h1, fun Hs1 A1 v1 H1 s1 p1 ok1 rel1 => ⟨b1, (show Dz C.K Hs1 v1 (.bl b1) from rel1).v rfl, ?_⟩⟩
  cases b1 with
  | false => exact ⟨C, Hs1, A1, g1, r, g', hK, hn, ok1, e, fun Hs2 A2 v2 H2 s2 p2 ok2 => q Hs2 A2 v2 H2 (s1.trans s2) (p1.trans p2) ok2⟩
  | true =>
    cases e
    exact q Hs1 A1 _ H1 s1 p1 ok1 (.bl true)
/-- a if t else b -/
def zIf (t : ZT) (ma mb : ZM) : ZM := fun g => do
  let (b, g1) ← t g
  if b = true then ma g1 else mb g1
theorem ze_if (hc : ZTe X c sA) (ha : ZE X a ma) (hb : ZE X b mb) : ZE X (.IfExp c a b pos) (zIf sA ma mb) := by
  refine PE.of (pe_ifExp hc ha hb) fun σ H Q ⟨C, Hs, A, g, r, g', hK, hn, ok, e, q⟩ => ?_
  unfold zIf at e
  simp only [Option.bind_eq_bind, Option.bind_eq_some_iff] at e
  obtain ⟨⟨b1, g1⟩, h1, e⟩ := e
  refine ⟨C, Hs, A, g, b1, g1, hK, hn, ok, h1, fun Hs1 A1 H1 s1 p1 ok1 => ?_⟩
  cases b1 with
  | true => exact ⟨C, Hs1, A1, g1, r, g', hK, hn, ok1, e, fun Hs2 A2 v2 H2 s2 p2 ok2 => q Hs2 A2 v2 H2 (s1.trans s2) (p1.trans p2) ok2⟩
  | false => exact ⟨C, Hs1, A1, g1, r, g', hK, hn, ok1, e, fun Hs2 A2 v2 H2 s2 p2 ok2 => q Hs2 A2 v2 H2 (s1.trans s2) (p1.trans p2) ok2⟩
/-- a one-place operation -/
def zUn (f : D → Option D) (ma : ZM) : ZM := fun g => do
  let (r1, g1) ← ma g
  let d ← rd g1 r1
  let z ← f d
  if z.scal = true then some (.dat z, g1) else none
/-- a op1 b op2 c -/
def zChain (f f' : D → D → Option D) (ma mb mc : ZM) : ZM := fun g => do
  let (r1, g1) ← ma g
  let (r2, g2) ← mb g1
  let d ← rd g2 r1
  let e ← rd g2 r2
  let z ← f d e
  match z with
  | .bl true => do
    let (r3, g3) ← mc g2
    let e2 ← rd g3 r2
    let h ← rd g3 r3
    let z2 ← f' e2 h
    if z2.scal = true then some (.dat z2, g3) else none
  | .bl false => some (.dat (.bl false), g2)
  | _ => none
def zNil : ZAr := fun g => some ([], g)
def zCons (ma : ZM) (mr : ZAr) : ZAr := fun g => do
  let (r, g1) ← ma g
  let (rs, g2) ← mr g1
  some (r :: rs, g2)
theorem za_nil : ZAs X [] zNil := by
  refine PA.of pa_nil fun σ H Q ⟨C, Hs, A, g, rs, g', hK, hn, ok, e, q⟩ => ?_
  cases e
  exact q Hs A [] H (Same.refl _) (Pre.refl _) ok trivial
variable {es : List Expr} {mr : ZAr}
theorem za_cons (ha : ZE X a ma) (hr : ZAs X es mr) (hs : starEach (a :: es) X.env = (false, eval a X.env) :: starEach es X.env := by rfl) : ZAs X (a :: es) (zCons ma mr) := by
  refine PA.of (pa_cons ha hr hs) fun σ H Q ⟨C, Hs, A, g, rs, g', hK, hn, ok, e, q⟩ => ?_
  unfold zCons at e
  simp only [Option.bind_eq_bind, Option.bind_eq_some_iff] at e
  obtain ⟨⟨r1, g1⟩, h1, ⟨rs2, g2⟩, h2, e⟩ := e
  cases e
  exact ⟨C, Hs, A, g, r1, g1, hK, hn, ok, h1, fun Hs1 A1 v1 H1 s1 p1 ok1 rel1 => ⟨C, Hs1, A1, g1, rs2, _, hK, hn, ok1, h2, fun Hs2 A2 vs H2 s2 p2 ok2 rel2 =>
    q Hs2 A2 (v1 :: vs) H2 (s1.trans s2) (p1.trans p2) ok2 ⟨rel1.mono s2 p2, rel2⟩⟩⟩
/-- all are read as data -/
def rdAll (g : G) : List R → Option (List D)
  | [] => some []
  | r :: rs => do
    let d ← rd g r
    let ds ← rdAll g rs
    some (d :: ds)
theorem rdAll_ok {C : Ct} {Hs : Hp} {A : List Addr} {g : G} {σ : L2.St} {H : Hp} (ok : Ok C Hs A g σ H) : ∀ {vs : List V} {rs : List R} {ds : List D}, RelRs C.K Hs A vs rs → rdAll g rs = some ds → DzA C.K H vs ds
  | [], [], ds, _, e => by cases e; exact .nil
  | v :: vs, r :: rs, ds, h, e => by
    unfold rdAll at e
    simp only [Option.bind_eq_bind, Option.bind_eq_some_iff] at e
    obtain ⟨d, h1, ds', h2, e⟩ := e
    cases e
    exact .cons (ok.rd h.1 h1) (rdAll_ok ok h.2 h2)
  | [], _ :: _, _, h, _ => h.elim
  | _ :: _, [], _, h, _ => h.elim
/-- all become data -/
def frzAll : List R → G → Option (List D × G)
  | [], g => some ([], g)
  | r :: rs, g => do
    let (d, g1) ← frzR r g
    let (ds, g2) ← frzAll rs g1
    some (d :: ds, g2)
theorem frzAll_ok {C : Ct} {A : List Addr} {σ : L2.St} {H : Hp} : ∀ {g g' : G} {Hs : Hp} {vs : List V} {rs : List R} {ds : List D}, Ok C Hs A g σ H → RelRs C.K Hs A vs rs → frzAll rs g = some (ds, g') → ∃ Hs', Same Hs Hs' ∧ Ok C Hs' A g' σ H ∧ DzA C.K Hs' vs ds
  | g, g', Hs, [], [], ds, ok, _, e => by cases e; exact ⟨Hs, Same.refl _, ok, .nil⟩
  | g, g', Hs, v :: vs, r :: rs, ds, ok, h, e => by
    unfold frzAll at e
    simp only [Option.bind_eq_bind, Option.bind_eq_some_iff] at e
    obtain ⟨⟨d, g1⟩, h1, ⟨ds', g2⟩, h2, e⟩ := e
    cases e
    obtain ⟨Hs1, s1, ok1, z1⟩ := ok.frzR h.1 h1
    obtain ⟨Hs2, s2, ok2, z2⟩ := frzAll_ok ok1 (h.2.mono s1 (Pre.refl _)) h2
    exact ⟨Hs2, s1.trans s2, ok2, .cons (z1.mono s2) z2⟩
  | _, _, _, [], _ :: _, _, _, h, _ => h.elim
  | _, _, _, _ :: _, [], _, _, h, _ => h.elim
def zTup (ma : ZAr) : ZM := fun g => do
  let (rs, g1) ← ma g
  let (ds, g2) ← frzAll rs g1
  if ds.length ≤ sizeLine then some (.dat (.tup ds), g2) else none
def zLst (ma : ZAr) : ZM := fun g => do
  let (rs, g1) ← ma g
  let (ds, g2) ← frzAll rs g1
  if ds.length ≤ sizeLine then some (.bor g2.length, g2 ++ [.own (.lst ds) false false]) else none
theorem ze_tup {x1} {mr : ZAr} (h : ZAs X es mr) : ZE X (.Tuple es x1 pos) (zTup mr) := by
  refine PE.of (pe_tup h) fun σ H Q ⟨C, Hs, A, g, r, g', hK, hn, ok, e, q⟩ => ?_
  unfold zTup at e
  simp only [Option.bind_eq_bind, Option.bind_eq_some_iff] at e
  obtain ⟨⟨rs, g1⟩, h1, ⟨ds, g2⟩, h2, e⟩ := e
  split at e
  · rename_i hz
    cases e
    refine ⟨C, Hs, A, g, rs, g1, hK, hn, ok, h1, fun Hs1 A1 vs H1 s1 p1 ok1 rel1 => ?_⟩
    obtain ⟨Hs2, s2, ok2, z2⟩ := frzAll_ok ok1 rel1 h2
    refine ⟨by rw [z2.length]; exact hz, fun p hp => ?_⟩
    obtain ⟨ok3, s3⟩ := ok2.lay (o := .tup vs) hp
    exact q _ A1 (.ref p) _ ((s1.trans s2).trans s3) p1 ok3 (.tup (SqT.of upd_same) (z2.mono s3))
  · cases e
theorem Ok.tmpR {C : Ct} {Hs : Hp} {A : List Addr} {g : G} {σ : L2.St} {H : Hp} (ok : Ok C Hs A g σ H) (p : Addr) : RelR C.K Hs (A ++ [p]) (.ref p) (.bor g.length) := ⟨p, by rw [← ok.la]; simp, rfl⟩
theorem ze_lst {mr : ZAr} (h : ZAs X es mr) : ZE X (.List es pos) (zLst mr) := by
  refine PE.of (pe_lst h) fun σ H Q ⟨C, Hs, A, g, r, g', hK, hn, ok, e, q⟩ => ?_
  unfold zLst at e
  simp only [Option.bind_eq_bind, Option.bind_eq_some_iff] at e
  obtain ⟨⟨rs, g1⟩, h1, ⟨ds, g2⟩, h2, e⟩ := e
  split at e
  · rename_i hz
    cases e
    refine ⟨C, Hs, A, g, rs, g1, hK, hn, ok, h1, fun Hs1 A1 vs H1 s1 p1 ok1 rel1 => ?_⟩
    obtain ⟨Hs2, s2, ok2, z2⟩ := frzAll_ok ok1 rel1 h2
    refine ⟨by rw [z2.length]; exact hz, fun p hp => ?_⟩
    exact q _ (A1 ++ [p]) (.ref p) _ (s1.trans s2) (p1.trans (Pre.app _ _)) (ok2.tmp (o := .lst vs) (c := .lst ds) hp z2) (ok2.tmpR p)
  · cases e
def CallS (K : PySem.W.Frag) (r : List V → Hp → VK → Prop) (f : List D → Option D) : Prop := ∀ (H : Hp) (vs : List V) (ds : List D) (z : D) (Q : VK), DzA K H vs ds → f ds = some z → Q z.v H → r vs H Q
def zCallS (f : List D → Option D) (ma : ZAr) : ZM := fun g => do
  let (rs, g1) ← ma g
  let ds ← rdAll g1 rs
  let z ← f ds
  if z.scal = true then some (.dat z, g1) else none
theorem zcallS_of {r : List V → Hp → VK → Prop} {f : List D → Option D} {mr : ZAr} {e : Expr} (h : PE X e (tCB r (tZA X.K X.N.length mr))) (hf : CallS X.K r f) : ZE X e (zCallS f mr) := by
  refine PE.of h fun σ H Q ⟨C, Hs, A, g, r, g', hK, hn, ok, e, q⟩ => ?_
  unfold zCallS at e
  simp only [Option.bind_eq_bind, Option.bind_eq_some_iff] at e
  obtain ⟨⟨rs, g1⟩, h1, ds, h2, z, h3, e⟩ := e
  split at e
  · rename_i hs
    cases e
    refine ⟨C, Hs, A, g, rs, _, hK, hn, ok, h1, fun Hs1 A1 vs H1 s1 p1 ok1 rel1 => ?_⟩
    have x := rdAll_ok ok1 rel1 h2
    rw [hK] at x
    exact hf H1 vs ds z Q x h3 (q Hs1 A1 z.v H1 s1 p1 ok1 (D.vz hs))
  · cases e
theorem ze_callB {x : Str} {p : Pos} {id : String} {r : List V → Hp → VK → Prop} {f : List D → Option D} {mr : ZAr} (hc : CallR X (.builtin id) r) (hf : CallS X.K r f) (hg : Gl X x) (hm : X.mg x = none) (hv : bootBuiltins x = some (.builtin id)) (ha : ZAs X (a :: es) mr)
    (hn : x ≠ "__name__" := by decide) (hdb : (x == ("__debug__" : Str)) = false := by decide) (he : starEach (a :: es) X.env = (false, eval a X.env) :: starEach es X.env := by rfl) (hpl : (backTo pos (starEach es X.env)).any (·.1) = false := by rfl) :
    ZE X (.Call (.Name x p) (a :: es) [] pos) (zCallS f mr) := zcallS_of (pe_callB hc hg hm hv ha hn hdb he hpl) hf
theorem ze_callTy {x : Str} {p : Pos} {T : String} {r : List V → Hp → VK → Prop} {f : List D → Option D} {mr : ZAr} (hc : CallR X (.type T) r) (hf : CallS X.K r f) (hg : Gl X x) (hm : X.mg x = none) (hv : bootBuiltins x = some (.type T)) (ha : ZAs X (a :: es) mr)
    (hn : x ≠ "__name__" := by decide) (hdb : (x == ("__debug__" : Str)) = false := by decide) (he : starEach (a :: es) X.env = (false, eval a X.env) :: starEach es X.env := by rfl) (hpl : (backTo pos (starEach es X.env)).any (·.1) = false := by rfl) :
    ZE X (.Call (.Name x p) (a :: es) [] pos) (zCallS f mr) := zcallS_of (pe_callTy hc hg hm hv ha hn hdb he hpl) hf
/-- methods of texts with a plain answer -/
def MtS (K : PySem.W.Frag) (r : V → List V → Hp → VK → Prop) (f : D → List D → Option D) : Prop := ∀ (H : Hp) (x : V) (vs : List V) (d : D) (ds : List D) (z : D) (Q : VK), Dz K H x d → DzA K H vs ds → f d ds = some z → Q z.v H → r x vs H Q
def tyD (T : String) : D → Bool
  | .str _ => T == "str"
  | .int _ => T == "int"
  | .lst _ => T == "list"
  | _ => false
theorem tyD_of {K : PySem.W.Frag} {H : Hp} {T : String} {x : V} {d : D} (h : Dz K H x d) (e : tyD T d = true) : tyV K T x H := by
  cases h with
  | str s => exact (beq_iff_eq.mp e : T = "str")
  | int i => exact (beq_iff_eq.mp e : T = "int")
  | lst hs ha => exact .inl ⟨beq_iff_eq.mp e, _, hs⟩
  | non => exact absurd e (by simp [tyD])
  | bl _ => exact absurd e (by simp [tyD])
  | tup _ _ => exact absurd e (by simp [tyD])
  | raw _ => exact absurd e (by simp [tyD])
  | dic _ _ _ => exact absurd e (by simp [tyD])
def zMt (T : String) (f : D → List D → Option D) (mo : ZM) (ma : ZAr) : ZM := fun g => do
  let (r, g1) ← mo g
  let d ← rd g1 r
  if tyD T d = true then do
    let (rs, g2) ← ma g1
    let d2 ← rd g2 r
    let ds ← rdAll g2 rs
    let z ← f d2 ds
    if z.scal = true then some (.dat z, g2) else none
  else none
theorem zmt_of {T : String} {r : V → List V → Hp → VK → Prop} {f : D → List D → Option D} {mo : ZM} {mr : ZAr} (hf : MtS X.K r f) {σ : L2.St} {H : Hp} {Q : VK} (h : tZ X.K X.N.length (zMt T f mo mr) σ H Q) :
    tBM X.K T r (tZ X.K X.N.length mo) (tZA X.K X.N.length mr) σ H Q := by
  obtain ⟨C, Hs, A, g, r, g', hK, hn, ok, e, q⟩ := h
  unfold zMt at e
  simp only [Option.bind_eq_bind, Option.bind_eq_some_iff] at e
  obtain ⟨⟨r1, g1⟩, h1, d, h2, e⟩ := e
  split at e
  · rename_i ht
    simp only [Option.bind_eq_some_iff] at e
    obtain ⟨⟨rs, g2⟩, h3, d2, h4, ds, h5, z, h6, e⟩ := e
    split at e
    · rename_i hs
      cases e
      refine ⟨C, Hs, A, g, r1, g1, hK, hn, ok, h1, fun Hs1 A1 v1 H1 s1 p1 ok1 rel1 => ?_⟩
      have x := ok1.rd rel1 h2
      rw [hK] at x
      refine ⟨tyD_of x ht, C, Hs1, A1, g1, rs, _, hK, hn, ok1, h3, fun Hs2 A2 vs H2 s2 p2 ok2 rel2 => ?_⟩
      have y := ok2.rd (rel1.mono s2 p2) h4
      have w := rdAll_ok ok2 rel2 h5
      rw [hK] at y w
      exact hf H2 v1 vs d2 ds z Q y w h6 (q Hs2 A2 z.v H2 (s1.trans s2) (p1.trans p2) ok2 (D.vz hs))
    · cases e
  · cases e
theorem ze_mt {o : Expr} {name : Str} {apos : Pos} {T id : String} {r : V → List V → Hp → VK → Prop} {f : D → List D → Option D} {mo : ZM} {mr : ZAr} (pa : PlainAttrs T) (slot : Slot T name id) (hty : typeOf (.builtin id) = pure (.type "method_descriptor")) (hm : MtR X id r) (hf : MtS X.K r f)
    (ho : ZE X o mo) (ha : ZAs X (a :: es) mr)
    (hbase : attributeBase o name X.env (eval o X.env) = eval o X.env := by rfl)
    (hfew : ((backTo pos (starEach (a :: es) X.env)).all (fun x => !x.1) && (backToKw pos (keywordEach [] X.env)).all (fun x => x.1.isSome)
      && decide ((a :: es).length + ([] : List Keyword).length + (if ([] : List Keyword).isEmpty then 0 else 1) < 30)) = true := by rfl)
    (hline : (apos.endLine == pos.line) = true := by rfl) (hs : starEach (a :: es) X.env = (false, eval a X.env) :: starEach es X.env := by rfl) (hplain : (backTo pos (starEach es X.env)).any (·.1) = false := by rfl) :
    ZE X (.Call (.Attribute o name apos) (a :: es) [] pos) (zMt T f mo mr) :=
  PE.of (pe_bm pa slot hty hm ho ha hbase hfew hline hs hplain) fun σ H Q h => zmt_of hf h
end
end Z
set_option Elab.async false
set_option linter.all false
set_option maxRecDepth 100000
set_option maxHeartbeats 4000000
namespace Z
open PySem PySem.Spec PyProof.Rows L2
theorem relB {K : PySem.W.Frag} {Hs : Hp} {A : List Addr} {a : Addr} {j : Nat} (h : A[j]? = some a) : RelR K Hs A (.ref a) (.bor j) := ⟨a, h, rfl⟩
inductive Fl where
  | nx | ret (r : R) | bk | ct
  deriving Inhabited
abbrev SM := G → Option (Fl × G)
def FlP (C : Ct) (Hs : Hp) (g' : G) (D : Ends) : Fl → Prop
  | .nx => ∀ (Hs' : Hp) (A' : List Addr) (σ' : L2.St) (H' : Hp), Same Hs Hs' → Ok C Hs' A' g' σ' H' → D.nx σ' H'
  | .bk => ∀ (Hs' : Hp) (A' : List Addr) (σ' : L2.St) (H' : Hp), Same Hs Hs' → Ok C Hs' A' g' σ' H' → D.bk σ' H'
  | .ct => ∀ (Hs' : Hp) (A' : List Addr) (σ' : L2.St) (H' : Hp), Same Hs Hs' → Ok C Hs' A' g' σ' H' → D.ct σ' H'
  | .ret r => ∀ (Hs' : Hp) (A' : List Addr) (σ' : L2.St) (H' : Hp) (v : V), Same Hs Hs' → Ok C Hs' A' g' σ' H' → RelR C.K Hs' A' v r → D.rt v H'
theorem FlP.mono {C : Ct} {Hs Hs1 : Hp} {g' : G} {D : Ends} {fl : Fl} (s : Same Hs Hs1) (h : FlP C Hs g' D fl) : FlP C Hs1 g' D fl := by
  cases fl with
  | nx => exact fun Hs' A' σ' H' s1 ok => h Hs' A' σ' H' (s.trans s1) ok
  | bk => exact fun Hs' A' σ' H' s1 ok => h Hs' A' σ' H' (s.trans s1) ok
  | ct => exact fun Hs' A' σ' H' s1 ok => h Hs' A' σ' H' (s.trans s1) ok
  | ret r => exact fun Hs' A' σ' H' v s1 ok => h Hs' A' σ' H' v (s.trans s1) ok
def tZS (K : PySem.W.Frag) (n : Nat) (s : SM) : TS := fun D σ H => ∃ (C : Ct) (Hs : Hp) (A : List Addr) (g : G) (fl : Fl) (g' : G), C.K = K ∧ C.n = n ∧ Ok C Hs A g σ H ∧ s g = some (fl, g') ∧ FlP C Hs g' D fl
abbrev ZS (X : Cx) (st : Stmt) (s : SM) : Prop := PS X st (tZS X.K X.N.length s)
abbrev ZSs (X : Cx) (st : List Stmt) (s : SM) : Prop := PSs X st (tZS X.K X.N.length s)
def zNx : SM := fun g => some (.nx, g)
def zBk : SM := fun g => some (.bk, g)
def zCt : SM := fun g => some (.ct, g)
def zSeq (s t : SM) : SM := fun g => do
  let (fl, g1) ← s g
  match fl with
  | .nx => t g1
  | fl => some (fl, g1)
def zRet (m : ZM) : SM := fun g => do
  let (r, g1) ← m g
  some (.ret r, g1)
def zIfS (n : Nat) (t : ZT) (s1 s2 : SM) : SM := fun g => do
  let (b, g1) ← t g
  if b = true then s1 (g1.take n) else s2 (g1.take n)
/-- a value goes to the slot i -/
def setR (n i : Nat) (r : R) (g : G) : Option G := match r with
  | .dat d => setDat i d g
  | .bor j => if n ≤ j then
      match g[j]? with
      | some (.own c false false) => if freeAt i g = true then some ((g.set i (.own c false false)).set j .un) else none
      | some (.frz d) => setDat i d g
      | _ => none
    else do
      let (d, g1) ← frzAt j g
      setDat i d g1
def zSet (n i : Nat) (m : ZM) : SM := fun g => do
  let (r, g1) ← m g
  let g2 ← setR n i r g1
  some (.nx, g2.take n)
section
variable {X : Cx} {pos : Pos} {st : Stmt} {rest : List Stmt} {s t : SM} {m : ZM}
theorem zss_nil : ZSs X [] zNx := by
  refine PSs.of pss_nil fun D σ H ⟨C, Hs, A, g, fl, g', hK, hn, ok, e, q⟩ => ?_
  cases e
  exact q Hs A σ H (Same.refl _) ok
theorem seq_of {D : Ends} {σ : L2.St} {H : Hp} {K : PySem.W.Frag} {n : Nat} (h : tZS K n (zSeq s t) D σ H) : tSeq (tZS K n s) (tZS K n t) D σ H := by
  obtain ⟨C, Hs, A, g, fl, g', hK, hn, ok, e, q⟩ := h
  unfold zSeq at e
  simp only [Option.bind_eq_bind, Option.bind_eq_some_iff] at e
  obtain ⟨⟨fl1, g1⟩, h1, e⟩ := e
  refine ⟨C, Hs, A, g, fl1, g1, hK, hn, ok, h1, ?_⟩
  cases fl1 with
  | nx => exact fun Hs' A' σ' H' s1 ok1 => ⟨C, Hs', A', g1, fl, g', hK, hn, ok1, e, q.mono s1⟩
  | bk => cases e; exact q
  | ct => cases e; exact q
  | ret r => cases e; exact q
theorem zss_cons (h1 : ZS X st s) (h2 : ZSs X rest t) : ZSs X (st :: rest) (zSeq s t) := PSs.of (pss_cons h1 h2) fun D σ H h => seq_of h
theorem zss_one (h1 : ZS X st s) : ZSs X [st] s := pss_one h1
theorem zs_ret {e : Expr} (he : ZE X e m) : ZS X (.Return (some e) pos) (zRet m) := by
  refine PS.of (ps_ret he) fun D σ H ⟨C, Hs, A, g, fl, g', hK, hn, ok, e, q⟩ => ?_
  unfold zRet at e
  simp only [Option.bind_eq_bind, Option.bind_eq_some_iff] at e
  obtain ⟨⟨r1, g1⟩, h1, e⟩ := e
  cases e
  exact ⟨C, Hs, A, g, r1, _, hK, hn, ok, h1, fun Hs1 A1 v1 H1 s1 p1 ok1 rel1 => q Hs1 A1 σ H1 v1 s1 ok1 rel1⟩
theorem zs_if {c : Expr} {a b : List Stmt} {tc : ZT} (hc : ZTe X c tc) (ha : ZSs X a s) (hb : ZSs X b t) : ZS X (.If c a b pos) (zIfS X.N.length tc s t) := by
  refine PS.of (ps_if hc ha hb) fun D σ H ⟨C, Hs, A, g, fl, g', hK, hn, ok, e, q⟩ => ?_
  unfold zIfS at e
  simp only [Option.bind_eq_bind, Option.bind_eq_some_iff] at e
  obtain ⟨⟨b1, g1⟩, h1, e⟩ := e
  refine ⟨C, Hs, A, g, b1, g1, hK, hn, ok, h1, fun Hs1 A1 H1 s1 p1 ok1 => ?_⟩
  have ok2 := ok1.cut
  rw [hn] at ok2
  cases b1 with
  | true => exact ⟨C, Hs1, _, _, fl, g', hK, hn, ok2, e, q.mono s1⟩
  | false => exact ⟨C, Hs1, _, _, fl, g', hK, hn, ok2, e, q.mono s1⟩
theorem Ok.setR {C : Ct} {Hs : Hp} {A : List Addr} {g g' : G} {σ : L2.St} {H : Hp} {i : Nat} {v : V} {r : R} (ok : Ok C Hs A g σ H) (hi : i < C.n) (h : RelR C.K Hs A v r) (e : setR C.n i r g = some g') :
    ∃ Hs' A', Same Hs Hs' ∧ Ok C Hs' A' g' (σ.set i (some v)) H := by
  unfold Z.setR at e
  cases r with
  | dat d => exact ⟨Hs, A, Same.refl _, ok.set e hi h⟩
  | bor j =>
    obtain ⟨a, ha, rfl⟩ := (show ∃ a, A[j]? = some a ∧ v = .ref a from h)
    simp only at e
    split at e
    · rename_i hj
      split at e
      · rename_i c hg
        split at e
        · rename_i hf
          cases e
          exact ⟨Hs, _, Same.refl _, ok.move hf hi hj hg ha⟩
        · cases e
      · rename_i d hg
        obtain ⟨a', h1, _, h3⟩ := ok.frz j d hg
        rw [ha] at h1
        have e1 : a = a' := Option.some.inj h1
        subst e1
        exact ⟨Hs, A, Same.refl _, ok.set e hi h3⟩
      · cases e
    · simp only [Option.bind_eq_bind, Option.bind_eq_some_iff] at e
      obtain ⟨⟨d, g1⟩, h1, e⟩ := e
      obtain ⟨Hs', a', s, ok', h2, dz⟩ := ok.frzAt h1
      rw [ha] at h2
      have e1 : a = a' := Option.some.inj h2
      subst e1
      exact ⟨Hs', A, s, ok'.set e hi dz⟩
theorem set_of {i : Nat} {D : Ends} {σ : L2.St} {H : Hp} {K : PySem.W.Frag} {n : Nat} (hi : i < n) (h : tZS K n (zSet n i m) D σ H) : tAsg (tZ K n m) (gName i) D σ H := by
  obtain ⟨C, Hs, A, g, fl, g', hK, hn, ok, e, q⟩ := h
  unfold zSet at e
  simp only [Option.bind_eq_bind, Option.bind_eq_some_iff] at e
  obtain ⟨⟨r1, g1⟩, h1, g2, h2, e⟩ := e
  cases e
  refine ⟨C, Hs, A, g, r1, g1, hK, hn, ok, h1, fun Hs1 A1 v1 H1 s1 p1 ok1 rel1 => ?_⟩
  rw [← hn] at h2
  obtain ⟨Hs2, A2, s2, ok2⟩ := ok1.setR (by rw [hn]; exact hi) rel1 h2
  have ok3 := ok2.cut
  rw [hn] at ok3
  exact q Hs2 _ _ H1 (s1.trans s2) ok3
/-- name = value -/
theorem zs_set {i : Nat} {x : Str} {e : Expr} {pos' : Pos} (hN : X.N.Nodup) (hi : X.N[i]? = some x) (hx : Loc X.env.scope x) (he : ZE X e m) (hs : swapsWith e (some (.Name x pos')) pos.line X.env = pure false := by rfl) (hf : X.fn x = true ∨ X.env.scope.names.lookup x = some .local := by first | exact .inl rfl | exact .inr rfl | assumption) :
    ZS X (.Assign [.Name x pos'] e pos) (zSet X.N.length i m) :=
  PS.of (ps_set hN hi hx he hs hf) fun D σ H h => set_of (List.getElem?_eq_some_iff.mp hi).1 h
def zAug (n i : Nat) (f : D → D → Option D) (m : ZM) : SM := fun g => do
  let (r0, _) ← zVar i g
  let d ← rd g r0
  if d.scal = true then do
    let (r, g1) ← m g
    let e ← rd g1 r
    let z ← f d e
    if z.scal = true then do
      let g2 ← setDat i z g1
      some (.nx, g2.take n)
    else none
  else none
abbrev TD := D → G → Option G
def tZG (K : PySem.W.Frag) (n : Nat) (tg : TD) : TG := fun v σ H Q => ∃ (C : Ct) (Hs : Hp) (A : List Addr) (g : G) (d : D) (g' : G), C.K = K ∧ C.n = n ∧ Ok C Hs A g σ H ∧ Dz K Hs v d ∧ tg d g = some g' ∧
  ∀ (σ' : L2.St), Ok C Hs A g' σ' H → Q σ' H
abbrev ZG (X : Cx) (e : Expr) (tg : TD) : Prop := PG X e (tZG X.K X.N.length tg)
abbrev TDs := List D → G → Option G
def tZGs (K : PySem.W.Frag) (n : Nat) (tg : TDs) : TGs := fun vs σ H Q => ∃ (C : Ct) (Hs : Hp) (A : List Addr) (g : G) (ds : List D) (g' : G), C.K = K ∧ C.n = n ∧ Ok C Hs A g σ H ∧ DzA K Hs vs ds ∧ tg ds g = some g' ∧
  ∀ (σ' : L2.St), Ok C Hs A g' σ' H → Q σ' H
abbrev ZGs (X : Cx) (es : List Expr) (tg : TDs) : Prop := PGs X es (tZGs X.K X.N.length tg)
theorem PG.of {e : Expr} {t t' : TG} (h : PG X e t) (w : ∀ v σ H Q, t' v σ H Q → t v σ H Q) : PG X e t' := ⟨fun pins s σ H v u Q I r q => h.run pins s σ H v u Q I r (w v σ H Q q)⟩
theorem PGs.of {es : List Expr} {t t' : TGs} (h : PGs X es t) (w : ∀ v σ H Q, t' v σ H Q → t v σ H Q) : PGs X es t' := ⟨fun pins s σ H v u Q I r q => h.run pins s σ H v u Q I r (w v σ H Q q)⟩
def gN (i : Nat) : TD := fun d g => setDat i d g
theorem zg_name {i : Nat} {x : Str} (hN : X.N.Nodup) (hi : X.N[i]? = some x) (hx : Loc X.env.scope x) (hf : X.fn x = true ∨ X.env.scope.names.lookup x = some .local := by first | exact .inl rfl | exact .inr rfl | assumption) : ZG X (.Name x pos) (gN i) := by
  refine PG.of (pg_name hN hi hx hf) fun v σ H Q ⟨C, Hs, A, g, d, g', hK, hn, ok, hd, e, q⟩ => ?_
  rw [← hK] at hd
  exact q _ (ok.set e (by rw [hn]; exact (List.getElem?_eq_some_iff.mp hi).1) hd)
def gNil' : TDs := fun ds g => match ds with
  | [] => some g
  | _ => none
def gCons' (t : TD) (u : TDs) : TDs := fun ds g => match ds with
  | d :: ds => do
    let g1 ← t d g
    u ds g1
  | [] => none
theorem zgs_nil : ZGs X [] gNil' := by
  refine PGs.of pgs_nil fun vs σ H Q ⟨C, Hs, A, g, ds, g', hK, hn, ok, hd, e, q⟩ => ?_
  cases ds with
  | nil =>
    cases hd
    cases e
    exact ⟨rfl, q σ ok⟩
  | cons _ _ => cases e
theorem zgs_cons {e : Expr} {es : List Expr} {t : TD} {u : TDs} (h1 : ZG X e t) (h2 : ZGs X es u)
    (hs : (assignEach (e :: es) X.env).map (·.2) = assign e X.env :: (assignEach es X.env).map (·.2) := by rfl) : ZGs X (e :: es) (gCons' t u) := by
  refine PGs.of (pgs_cons h1 h2 hs) fun vs σ H Q ⟨C, Hs, A, g, ds, g', hK, hn, ok, hd, e, q⟩ => ?_
  cases hd with
  | nil => cases e
  | cons h1 h2 =>
    simp only [gCons', Option.bind_eq_bind, Option.bind_eq_some_iff] at e
    obtain ⟨g1, e1, e2⟩ := e
    exact ⟨_, _, rfl, C, Hs, A, g, _, g1, hK, hn, ok, h1, e1, fun σ1 ok1 => ⟨C, Hs, A, g1, _, g', hK, hn, ok1, h2, e2, q⟩⟩
def gT (k : Nat) (u : TDs) : TD := fun d g => match d with
  | .tup ds => if ds.length = k then u ds g else none
  | _ => none
theorem zg_tup {es : List Expr} {j : Nat} {t : TDs} {k : Nat} (hc : X.calm = true) (h : ZGs X es t)
    (hn : (assignEach es X.env).length = k := by rfl) (hst : (assignEach es X.env).findIdx? (·.1) = none := by rfl) : ZG X (.Tuple es j pos) (gT k t) := by
  refine PG.of (pg_tup hc h hn hst) fun v σ H Q ⟨C, Hs, A, g, d, g', hK, hn, ok, hd, e, q⟩ => ?_
  cases hd with
  | tup hs ha =>
    simp only [gT] at e
    split at e
    · rename_i hl
      exact ⟨_, _, rfl, sameT ok.same hs, by rw [ha.length]; exact hl, C, Hs, A, g, _, g', hK, hn, ok, ha, e, q⟩
    · cases e
  | _ => cases e
/-- target = value -/
def zAsg (n : Nat) (m : ZM) (tg : TD) : SM := fun g => do
  let (r, g1) ← m g
  let (d, g2) ← frzR r g1
  let g3 ← tg d g2
  some (.nx, g3.take n)
def zApp (n : Nat) (mo me : ZM) : SM := fun g => do
  let (ro, g1) ← mo g
  match ro with
  | .bor j => match g1[j]? with
    | some (.own (.lst _) _ _) => do
      let (re, g2) ← me g1
      let (d, g3) ← frzR re g2
      match g3[j]? with
      | some (.own (.lst ds) p false) => if ds.length < sizeLine then some (.nx, (g3.set j (.own (.lst (ds ++ [d])) p false)).take n) else none
      | _ => none
    | _ => none
  | _ => none
theorem CnOk.lst_inv {K : PySem.W.Frag} {H : Hp} {ds : List D} {o : HO} (h : CnOk K H (.lst ds) o) : ∃ vs, o = .lst vs ∧ DzA K H vs ds := by
  cases o with
  | lst vs => exact ⟨vs, rfl, h⟩
  | _ => exact (show False from h).elim
/-- what stands at a borrowed list -/
theorem Ok.bor {C : Ct} {Hs : Hp} {A : List Addr} {g : G} {σ : L2.St} {H : Hp} {v : V} {j : Nat} {ds : List D} {p l : Bool} (ok : Ok C Hs A g σ H) (h : RelR C.K Hs A v (.bor j)) (e : g[j]? = some (.own (.lst ds) p l)) :
    ∃ a vs, v = .ref a ∧ A[j]? = some a ∧ H a = some (.lst vs) ∧ DzA C.K Hs vs ds := by
  obtain ⟨a, ha, rfl⟩ := (show ∃ a, A[j]? = some a ∧ v = .ref a from h)
  obtain ⟨a', o, w1, _, _, w4, w5, _⟩ := ok.own j _ _ _ e
  rw [ha] at w1
  have e1 : a = a' := Option.some.inj w1
  subst e1
  obtain ⟨vs, rfl, z⟩ := w5.lst_inv
  exact ⟨a, vs, rfl, ha, w4, z⟩
theorem zs_app {o e : Expr} {apos cpos : Pos} {mo me : ZM} (ho : ZE X o mo) (he : ZE X e me)
    (hbase : attributeBase o "append" X.env (eval o X.env) = eval o X.env := by rfl)
    (hfew : ((backTo cpos (starEach [e] X.env)).all (fun x => !x.1) && (backToKw cpos (keywordEach [] X.env)).all (fun x => x.1.isSome)
      && decide ([e].length + ([] : List Keyword).length + (if ([] : List Keyword).isEmpty then 0 else 1) < 30)) = true := by rfl)
    (hline : (apos.endLine == cpos.line) = true := by rfl) (hs : starEach [e] X.env = (false, eval e X.env) :: starEach [] X.env := by rfl) (hplain : (backTo cpos (starEach [] X.env)).any (·.1) = false := by rfl)
    (hsw : swapsWith (.Call (.Attribute o "append" apos) [e] [] cpos) none pos.line X.env = pure false := by rfl) :
    ZS X (.Expr (.Call (.Attribute o "append" apos) [e] [] cpos) pos) (zApp X.N.length mo me) := by
  refine PS.of (ps_expr (pe_bm PySem.F.plainAttrs_list PySem.F.slot_list_append PySem.F.type_list_append mt_append ho (pa_cons he pa_nil hs) hbase hfew hline hs hplain) hsw) fun D σ H ⟨C, Hs, A, g, fl, g', hK, hn, ok, e, q⟩ => ?_
  unfold zApp at e
  simp only [Option.bind_eq_bind, Option.bind_eq_some_iff] at e
  obtain ⟨⟨ro, g1⟩, h1, e⟩ := e
  cases ro with
  | dat d => cases e
  | bor j =>
    simp only at e
    split at e
    · rename_i ds0 p0 l0 hg0
      simp only [Option.bind_eq_some_iff] at e
      obtain ⟨⟨re, g2⟩, h2, ⟨d, g3⟩, h3, e⟩ := e
      split at e
      · rename_i ds p hg
        split at e
        · rename_i hz
          cases e
          refine ⟨C, Hs, A, g, _, g1, hK, hn, ok, h1, fun Hs1 A1 v1 H1 s1 p1 ok1 rel1 => ?_⟩
          obtain ⟨a, ys, ev, _, hH, _⟩ := ok1.bor rel1 hg0
          subst ev
          refine ⟨.inl ⟨rfl, ys, SqL.of hH⟩, C, Hs1, A1, g1, re, g2, hK, hn, ok1, h2, fun Hs2 A2 v2 H2 s2 p2 ok2 rel2 => ?_⟩
          obtain ⟨Hs3, s3, ok3, dz⟩ := ok2.frzR rel2 h3
          obtain ⟨a', vs, ea, hA, hH3, hz3⟩ := ok3.bor (rel1.mono (s2.trans s3) p2) hg
          cases ea
          refine ⟨a, vs, v2, rfl, rfl, hH3, by rw [hz3.length]; exact hz, ?_⟩
          have ok4 := (ok3.wr (o := .lst (vs ++ [v2])) (c' := .lst (ds ++ [d])) hg hA (show DzA C.K Hs3 (vs ++ [v2]) (ds ++ [d]) from hz3.append (.cons dz .nil))).cut
          rw [hn] at ok4
          exact q Hs3 _ σ _ ((s1.trans s2).trans s3) ok4
        · cases e
      · cases e
    · cases e
def isI : R → Option Int
  | .dat (.int i) => some i
  | _ => none
theorem isI_some {r : R} {b : Int} (h : isI r = some b) : r = .dat (.int b) := by
  unfold isI at h
  split at h
  · cases h; rfl
  · cases h
/-- xs[i] = e -/
def zSto (n : Nat) (mo mi me : ZM) : SM := fun g => do
  let (re, g1) ← me g
  let (d, g2) ← frzR re g1
  let (ro, g3) ← mo g2
  match ro with
  | .bor j => do
    let (ri, g4) ← mi g3
    let k ← isI ri
    match g4[j]? with
    | some (.own (.lst ds) p false) => match ixN ds.length k with
      | some m => some (.nx, (g4.set j (.own (.lst (ds.set m d)) p false)).take n)
      | none => none
    | _ => none
  | _ => none
end
end Z
set_option Elab.async false
set_option linter.all false
set_option maxRecDepth 100000
set_option maxHeartbeats 4000000
namespace Z
open PySem PySem.Spec PyProof.Rows L2
/-- the source of a walk still stands -/
def Src (K : PySem.W.Frag) (Hs0 : Hp) : Option (Addr × Cn) → Hp → Hp → Prop
  | none, Hs, H => Same Hs0 Hs ∧ Same Hs H
  | some (a, c), Hs, H => ∃ o, H a = some o ∧ CnOk K Hs c o
structure JW (K : PySem.W.Frag) (J : It) (L : List D) (St : Hp → Hp → Prop) : Prop where
  stop : ∀ Hs H (i : Nat), St Hs H → L.length ≤ i → J.stop i H
  go : ∀ Hs H (i : Nat), St Hs H → i < L.length → J.go i H
  yld : ∀ (C : Ct) (Hs : Hp) (A : List Addr) (g : G) (σ : L2.St) (H : Hp) (i : Nat) (x : V) (H' : Hp), C.K = K → Ok C Hs A g σ H → St Hs H → i < L.length → J.yld i H x H' →
    ∃ d Hs', L[i]? = some d ∧ Same Hs Hs' ∧ Ok C Hs' A g σ H' ∧ Dz K Hs' x d
def LkOk (n : Nat) (A : List Addr) (g : G) : Option Nat → Option (Addr × Cn) → Prop
  | none, none => True
  | some j, some (a, c) => A[j]? = some a ∧ (∃ p l, g[j]? = some (.own c p l)) ∧ j < n
  | _, _ => False
abbrev MI := G → Option (List D × Option Nat × G)
def tZI (K : PySem.W.Frag) (n : Nat) (mi : MI) : TI := fun σ H Rr => ∃ (C : Ct) (Hs : Hp) (A : List Addr) (g : G) (L : List D) (lk : Option Nat) (g' : G), C.K = K ∧ C.n = n ∧ Ok C Hs A g σ H ∧ mi g = some (L, lk, g') ∧
  ∀ (Hs' : Hp) (A' : List Addr) (H' : Hp) (J : It) (lk' : Option (Addr × Cn)), Same Hs Hs' → Pre A A' → Ok C Hs' A' g' σ H' → LkOk n A' g' lk lk' → JW K J L (Src K Hs' lk') → Rr J H'
abbrev ZI (X : Cx) (tg iter : Expr) (mi : MI) : Prop := PI X tg iter (tZI X.K X.N.length mi)
theorem PI.of {X : Cx} {tg iter : Expr} {t t' : TI} (h : PI X tg iter t) (w : ∀ σ H Rr, t' σ H Rr → t σ H Rr) : PI X tg iter t' := ⟨fun pins s σ H Rr I q => h.run pins s σ H Rr I (w σ H Rr q)⟩
def ziB (n j : Nat) (g1 : G) : Option (List D × Option Nat × G) := if j < n then
    (match g1[j]? with
    | some (.own (.lst L) _ _) => some (L, some j, g1)
    | some (.frz (.lst L)) => some (L, none, g1)
    | _ => none)
  else (match frzAt j g1 with
    | some (.lst L, g2) => some (L, none, g2)
    | _ => none)
def ziL (n : Nat) (m : ZM) : MI := fun g => do
  let (r, g1) ← m g
  match r with
  | .dat (.lst L) => some (L, none, g1)
  | .bor j => ziB n j g1
  | _ => none
theorem jw_list {K : PySem.W.Frag} {Hs0 : Hp} {a : Addr} {vs : List V} {L : List D} (h : SqL K Hs0 a vs) (hz : DzA K Hs0 vs L) : JW K (Itl K a) L (Src K Hs0 none) where
  stop := fun Hs H i st hi => ⟨vs, (st.1.trans st.2).seq h, by rw [hz.length]; exact hi⟩
  go := fun Hs H i st hi => by
    have hv : i < vs.length := by rw [hz.length]; exact hi
    exact ⟨vs, vs[i], (st.1.trans st.2).seq h, List.getElem?_eq_getElem hv⟩
  yld := fun C Hs A g σ H i x H' hK ok st hi y => by
    obtain ⟨rfl, y⟩ := y
    obtain ⟨d, h1, h2⟩ := (hz.mono st.1).getV (y vs ((st.1.trans st.2).seq h))
    exact ⟨d, Hs, h1, Same.refl _, ok, h2⟩
theorem jw_own {K : PySem.W.Frag} {Hs0 : Hp} {a : Addr} {L : List D} : JW K (Itl K a) L (Src K Hs0 (some (a, .lst L))) where
  stop := fun Hs H i st hi => by
    obtain ⟨o, h1, h2⟩ := st
    obtain ⟨vs, rfl, hz⟩ := h2.lst_inv
    exact ⟨vs, SqL.of h1, by rw [hz.length]; exact hi⟩
  go := fun Hs H i st hi => by
    obtain ⟨o, h1, h2⟩ := st
    obtain ⟨vs, rfl, hz⟩ := h2.lst_inv
    have hv : i < vs.length := by rw [hz.length]; exact hi
    exact ⟨vs, vs[i], SqL.of h1, List.getElem?_eq_getElem hv⟩
  yld := fun C Hs A g σ H i x H' hK ok st hi y => by
    obtain ⟨o, h1, h2⟩ := st
    obtain ⟨vs, rfl, hz⟩ := h2.lst_inv
    obtain ⟨rfl, y⟩ := y
    obtain ⟨d, w1, w2⟩ := hz.getV (y vs (SqL.of h1))
    exact ⟨d, Hs, w1, Same.refl _, ok, w2⟩
section
variable {X : Cx} {pos : Pos} {tg : Expr} {m : ZM}
theorem zi_list {l : Expr} (hl : ZE X l m) : ZI X tg l (ziL X.N.length m) := by
  refine PI.of (pi_list hl) fun σ H Rr ⟨C, Hs, A, g, L, lk, g', hK, hn, ok, e, q⟩ => ?_
  unfold ziL at e
  simp only [Option.bind_eq_bind, Option.bind_eq_some_iff] at e
  obtain ⟨⟨r, g1⟩, h1, e⟩ := e
  refine ⟨C, Hs, A, g, r, g1, hK, hn, ok, h1, fun Hs1 A1 v1 H1 s1 p1 ok1 rel1 => ?_⟩
  cases r with
  | dat d =>
    cases d with
    | lst L' =>
      cases e
      have hd : Dz C.K Hs1 v1 (.lst L) := rel1
      rw [hK] at hd
      cases hd with
      | lst hs ha => exact ⟨_, rfl, ⟨_, ok1.same.seq hs⟩, q Hs1 A1 H1 _ none s1 p1 ok1 trivial (jw_list hs ha)⟩
    | _ => cases e
  | bor j =>
    obtain ⟨a, ha, rfl⟩ := (show ∃ a, A1[j]? = some a ∧ v1 = .ref a from rel1)
    simp only [ziB] at e
    split at e
    · rename_i hj
      split at e
      · rename_i L' p l hg
        cases e
        obtain ⟨a', vs, ev, hA, hH, hz⟩ := ok1.bor rel1 hg
        cases ev
        refine ⟨a, rfl, ⟨vs, SqL.of hH⟩, q Hs1 A1 H1 _ (some (a, .lst L)) s1 p1 ok1 ⟨ha, ⟨p, l, hg⟩, hj⟩ jw_own⟩
      · rename_i L' hg
        cases e
        obtain ⟨a', w1, _, hd⟩ := ok1.frz j _ hg
        rw [ha] at w1
        cases w1
        rw [hK] at hd
        cases hd with
        | lst hs hz => exact ⟨a, rfl, ⟨_, ok1.same.seq hs⟩, q Hs1 A1 H1 _ none s1 p1 ok1 trivial (jw_list hs hz)⟩
      · cases e
    · split at e
      · rename_i L' g2 h2
        cases e
        obtain ⟨Hs2, a', s2, ok2, w1, hd⟩ := ok1.frzAt h2
        rw [ha] at w1
        cases w1
        rw [hK] at hd
        cases hd with
        | lst hs hz => exact ⟨a, rfl, ⟨_, ok2.same.seq hs⟩, q Hs2 A1 H1 _ none (s1.trans s2) p1 ok2 trivial (jw_list hs hz)⟩
      · cases e
def ziT (m : ZM) : MI := fun g => do
  let (r, g1) ← m g
  match r with
  | .dat (.tup L) => some (L, none, g1)
  | _ => none
theorem zi_tup {l : Expr} (hl : ZE X l m) : ZI X tg l (ziT m) := by
  refine PI.of (pi_tup hl) fun σ H Rr ⟨C, Hs, A, g, L, lk, g', hK, hn, ok, e, q⟩ => ?_
  unfold ziT at e
  simp only [Option.bind_eq_bind, Option.bind_eq_some_iff] at e
  obtain ⟨⟨r, g1⟩, h1, e⟩ := e
  refine ⟨C, Hs, A, g, r, g1, hK, hn, ok, h1, fun Hs1 A1 v1 H1 s1 p1 ok1 rel1 => ?_⟩
  cases r with
  | bor j => cases e
  | dat d =>
    cases d with
    | tup L' =>
      cases e
      have hd : Dz C.K Hs1 v1 (.tup L) := rel1
      rw [hK] at hd
      cases hd with
      | tup hs ha =>
        rename_i a vs
        refine ⟨a, rfl, ⟨vs, sameT ok1.same hs⟩, q Hs1 A1 H1 _ none s1 p1 ok1 trivial ⟨fun Hs H i st hi => ⟨vs, sameT (st.1.trans st.2) hs, by rw [ha.length]; exact hi⟩, fun Hs H i st hi => ?_, fun C Hs A g σ H i x H' hK ok st hi y => ?_⟩⟩
        · have hv : i < vs.length := by rw [ha.length]; exact hi
          exact ⟨vs, vs[i], sameT (st.1.trans st.2) hs, List.getElem?_eq_getElem hv⟩
        · obtain ⟨rfl, y⟩ := y
          obtain ⟨d, h1, h2⟩ := (ha.mono st.1).getV (y vs (sameT (st.1.trans st.2) hs))
          exact ⟨d, Hs, h1, Same.refl _, ok, h2⟩
    | _ => cases e
/-- lo, lo + 1, .. -/
def rgD (lo : Int) (n : Nat) : List D := (List.range n).map fun (i : Nat) => D.int (lo + (i : Int))
theorem rgD_len (lo : Int) (n : Nat) : (rgD lo n).length = n := by simp [rgD]
theorem rgD_get {lo : Int} {n i : Nat} (h : i < n) : (rgD lo n)[i]? = some (.int (lo + (i : Int))) := by simp [rgD, h]
theorem jw_range {K : PySem.W.Frag} {lo : Int} {n : Nat} {St : Hp → Hp → Prop} : JW K (Itr lo n) (rgD lo n) St where
  stop := fun Hs H i _ hi => by rw [rgD_len] at hi; exact hi
  go := fun Hs H i _ hi => by rw [rgD_len] at hi; exact hi
  yld := fun C Hs A g σ H i x H' hK ok st hi y => by
    rw [rgD_len] at hi
    obtain ⟨rfl, rfl⟩ := y
    exact ⟨_, Hs, rgD_get hi, Same.refl _, ok, .int _⟩
def rgOk (i : Int) : Bool := decide (-(2 ^ 62) ≤ i) && decide (i < 2 ^ 62)
def ziR1 (ma : ZAr) : MI := fun g => do
  let (rs, g1) ← ma g
  match rs with
  | [.dat (.int j)] => if rgOk j = true then some (rgD 0 j.toNat, none, g1) else none
  | _ => none
theorem rgOk_ok {i : Int} (h : rgOk i = true) : -(2 ^ 62) ≤ i ∧ i < 2 ^ 62 := by
  unfold rgOk at h
  rw [Bool.and_eq_true] at h
  exact ⟨of_decide_eq_true h.1, of_decide_eq_true h.2⟩
theorem relRs1 {K : PySem.W.Frag} {Hs : Hp} {A : List Addr} {vs : List V} {r : R} (h : RelRs K Hs A vs [r]) : ∃ v, vs = [v] ∧ RelR K Hs A v r := by
  cases vs with
  | nil => exact h.elim
  | cons v vs =>
    cases vs with
    | nil => exact ⟨v, rfl, h.1⟩
    | cons _ _ => exact h.2.elim
theorem relRs2 {K : PySem.W.Frag} {Hs : Hp} {A : List Addr} {vs : List V} {r r' : R} (h : RelRs K Hs A vs [r, r']) : ∃ v v', vs = [v, v'] ∧ RelR K Hs A v r ∧ RelR K Hs A v' r' := by
  cases vs with
  | nil => exact h.elim
  | cons v vs =>
    obtain ⟨v', rfl, h2⟩ := relRs1 h.2
    exact ⟨v, v', rfl, h.1, h2⟩
variable {a b : Expr} {ma : ZAr} {p : Pos}
theorem zi_range1 (hg : Gl X "range") (hm : X.mg "range" = none) (ha : ZAs X [a] ma) (hs : starEach [a] X.env = [(false, eval a X.env)] := by rfl) : ZI X tg (.Call (.Name "range" p) [a] [] pos) (ziR1 ma) := by
  refine PI.of (pi_range1 hg hm ha hs) fun σ H Rr ⟨C, Hs, A, g, L, lk, g', hK, hn, ok, e, q⟩ => ?_
  unfold ziR1 at e
  simp only [Option.bind_eq_bind, Option.bind_eq_some_iff] at e
  obtain ⟨⟨rs, g1⟩, h1, e⟩ := e
  refine ⟨C, Hs, A, g, rs, g1, hK, hn, ok, h1, fun Hs1 A1 vs H1 s1 p1 ok1 rel1 => ?_⟩
  simp only at e
  split at e
  · rename_i j
    split at e
    · rename_i hj
      cases e
      obtain ⟨v, rfl, w⟩ := relRs1 rel1
      have ev : v = .int j := (show Dz C.K Hs1 v (.int j) from w).v rfl
      subst ev
      exact ⟨j, rfl, (rgOk_ok hj).1, (rgOk_ok hj).2, q Hs1 A1 H1 _ none s1 p1 ok1 trivial jw_range⟩
    · cases e
  · cases e
def ziR2 (ma : ZAr) : MI := fun g => do
  let (rs, g1) ← ma g
  match rs with
  | [.dat (.int i), .dat (.int j)] => if (rgOk i && rgOk j) = true then some (rgD i (j - i).toNat, none, g1) else none
  | _ => none
theorem zi_range2 (hg : Gl X "range") (hm : X.mg "range" = none) (ha : ZAs X [a, b] ma) (hs : starEach [a, b] X.env = [(false, eval a X.env), (false, eval b X.env)] := by rfl) (hs2 : starEach [b] X.env = [(false, eval b X.env)] := by rfl) :
    ZI X tg (.Call (.Name "range" p) [a, b] [] pos) (ziR2 ma) := by
  refine PI.of (pi_range2 hg hm ha hs hs2) fun σ H Rr ⟨C, Hs, A, g, L, lk, g', hK, hn, ok, e, q⟩ => ?_
  unfold ziR2 at e
  simp only [Option.bind_eq_bind, Option.bind_eq_some_iff] at e
  obtain ⟨⟨rs, g1⟩, h1, e⟩ := e
  refine ⟨C, Hs, A, g, rs, g1, hK, hn, ok, h1, fun Hs1 A1 vs H1 s1 p1 ok1 rel1 => ?_⟩
  simp only at e
  split at e
  · rename_i i j
    split at e
    · rename_i hj
      cases e
      rw [Bool.and_eq_true] at hj
      obtain ⟨v, v', rfl, w, w'⟩ := relRs2 rel1
      have ev : v = .int i := (show Dz C.K Hs1 v (.int i) from w).v rfl
      have ev' : v' = .int j := (show Dz C.K Hs1 v' (.int j) from w').v rfl
      subst ev ev'
      exact ⟨i, j, rfl, ⟨(rgOk_ok hj.1).1, (rgOk_ok hj.1).2, (rgOk_ok hj.2).1, (rgOk_ok hj.2).2⟩, q Hs1 A1 H1 _ none s1 p1 ok1 trivial jw_range⟩
    · cases e
  · cases e
def forL (tg : TD) (body : SM) : List D → SM
  | [], g => some (.nx, g)
  | x :: xs, g => do
    let g1 ← tg x g
    let (fl, g2) ← body g1
    match fl with
    | .nx => forL tg body xs g2
    | .ct => forL tg body xs g2
    | .bk => some (.nx, g2)
    | .ret r => some (.ret r, g2)
def unlk (j : Nat) (l : Bool) (g : G) : G := match g[j]? with
  | some (.own c p _) => g.set j (.own c p l)
  | _ => g
def zFor (n : Nat) (mi : MI) (tg : TD) (body : SM) : SM := fun g => do
  let (L, lk, g1) ← mi g
  match lk with
  | none => forL tg body L (g1.take n)
  | some j => match (g1.take n)[j]? with
    | some (.own c p l) => do
      let (fl, g3) ← forL tg body L ((g1.take n).set j (.own c p true))
      some (fl, unlk j l g3)
    | _ => none
def Ct.lock (C : Ct) (q : Nat × Addr × Cn) (h : q.1 < C.n) : Ct := { C with
  locks := q :: C.locks
  llt := fun r hr => by
    rcases List.mem_cons.mp hr with rfl | hr
    · exact h
    · exact C.llt r hr }
/-- the walk itself -/
theorem for_of {tgd : TD} {body : SM} {W : Ends} {C : Ct} {Hs1 : Hp} {A1 : List Addr} {g2 g3 : G} {σ : L2.St} {H1 : Hp} {L : List D} {J : It} {lk' : Option (Addr × Cn)} {fl : Fl} {K : PySem.W.Frag} {n : Nat} (hK : C.K = K) (hn : C.n = n)
    (ok : Ok C Hs1 A1 g2 σ H1) (jw : JW K J L (Src K Hs1 lk')) (hl : ∀ a c, lk' = some (a, c) → ∃ j, (j, a, c) ∈ C.locks) (e : forL tgd body L g2 = some (fl, g3)) (q : FlP C Hs1 g3 W fl) :
    ∃ Wi : Nat → Nat → L2.St → Hp → Prop, (∃ m, Wi 0 m σ H1) ∧ ∀ i m σ H, Wi i m σ H →
      (J.stop i H ∧ W.nx σ H) ∨ (J.go i H ∧ ∃ N : L2.St → Hp → Prop, (∀ σ' H', N σ' H' → ∃ m', m' < m ∧ Wi (i + 1) m' σ' H') ∧ ∀ x H', J.yld i H x H' → tZG K n tgd x σ H' fun σ2 H2 => tZS K n body { W with nx := N, ct := N, bk := W.nx } σ2 H2) := by
  have src : ∀ {Hs A g σ H}, Same Hs1 Hs → Ok C Hs A g σ H → Src K Hs1 lk' Hs H := fun {Hs A g σ H} s ok => by
    cases lk' with
    | none => exact ⟨s, ok.same⟩
    | some ac =>
      obtain ⟨a, c⟩ := ac
      obtain ⟨j, hj⟩ := hl a c rfl
      obtain ⟨p, h1, h2⟩ := ok.locked _ hj
      obtain ⟨a', o, w1, _, _, w4, w5, _⟩ := ok.own j c p true h1
      have : some a = some a' := h2.symm.trans w1
      cases this
      exact ⟨o, w4, by rw [← hK]; exact w5⟩
  refine ⟨fun i m σ H => m = L.length - i ∧ i ≤ L.length ∧ ∃ Hs A g, Same Hs1 Hs ∧ Ok C Hs A g σ H ∧ forL tgd body (L.drop i) g = some (fl, g3), ⟨L.length, by simp, Nat.zero_le _, Hs1, A1, g2, Same.refl _, ok, by simpa using e⟩, ?_⟩
  rintro i m σ H ⟨rfl, hi, Hs, A, g, s, ok, e⟩
  by_cases hlt : i < L.length
  · refine .inr ⟨jw.go Hs H i (src s ok) hlt, ?_⟩
    rw [List.drop_eq_getElem_cons hlt] at e
    simp only [forL, Option.bind_eq_bind, Option.bind_eq_some_iff] at e
    obtain ⟨ga, e1, ⟨flb, gb⟩, e2, e3⟩ := e
    have fin : ∀ (N : L2.St → Hp → Prop), (∀ Hs', Same Hs Hs' → FlP C Hs' gb { W with nx := N, ct := N, bk := W.nx } flb) → ∀ x H', J.yld i H x H' → tZG K n tgd x σ H' fun σ2 H2 => tZS K n body { W with nx := N, ct := N, bk := W.nx } σ2 H2 := fun N hf x H' y => by
      obtain ⟨d, Hs', hd, s', ok', dz⟩ := jw.yld C Hs A g σ H i x H' hK ok (src s ok) hlt y
      rw [List.getElem?_eq_getElem hlt] at hd
      cases hd
      exact ⟨C, Hs', A, g, _, ga, hK, hn, ok', dz, e1, fun σ2 ok2 => ⟨C, Hs', A, ga, flb, gb, hK, hn, ok2, e2, hf Hs' s'⟩⟩
    cases flb with
    | nx =>
      refine ⟨fun σ' H' => ∃ Hs' A', Same Hs1 Hs' ∧ Ok C Hs' A' gb σ' H', fun σ' H' ⟨Hs', A', s', ok'⟩ => ⟨L.length - (i + 1), by omega, rfl, hlt, Hs', A', gb, s', ok', e3⟩, fin _ fun Hs' s' => ?_⟩
      exact fun Hs2 A2 σ2 H2 s2 ok2 => ⟨Hs2, A2, (s.trans s').trans s2, ok2⟩
    | ct =>
      refine ⟨fun σ' H' => ∃ Hs' A', Same Hs1 Hs' ∧ Ok C Hs' A' gb σ' H', fun σ' H' ⟨Hs', A', s', ok'⟩ => ⟨L.length - (i + 1), by omega, rfl, hlt, Hs', A', gb, s', ok', e3⟩, fin _ fun Hs' s' => ?_⟩
      exact fun Hs2 A2 σ2 H2 s2 ok2 => ⟨Hs2, A2, (s.trans s').trans s2, ok2⟩
    | bk =>
      refine ⟨fun _ _ => False, fun _ _ z => z.elim, fin _ fun Hs' s' => ?_⟩
      cases e3
      exact fun Hs2 A2 σ2 H2 s2 ok2 => q Hs2 A2 σ2 H2 ((s.trans s').trans s2) ok2
    | ret r =>
      refine ⟨fun _ _ => False, fun _ _ z => z.elim, fin _ fun Hs' s' => ?_⟩
      cases e3
      exact fun Hs2 A2 σ2 H2 v s2 ok2 => q Hs2 A2 σ2 H2 v ((s.trans s').trans s2) ok2
  · have ei : i = L.length := by omega
    subst ei
    rw [List.drop_length] at e
    cases e
    exact .inl ⟨jw.stop Hs H _ (src s ok) (Nat.le_refl _), q Hs A σ H s ok⟩
theorem FlP.of {C C' : Ct} {Hs : Hp} {g g' : G} {W : Ends} {fl : Fl} (hK : C'.K = C.K) (h : ∀ Hs' A' σ' H', Ok C' Hs' A' g' σ' H' → Ok C Hs' A' g σ' H') (q : FlP C Hs g W fl) : FlP C' Hs g' W fl := by
  cases fl with
  | nx => exact fun Hs' A' σ' H' s ok => q Hs' A' σ' H' s (h _ _ _ _ ok)
  | bk => exact fun Hs' A' σ' H' s ok => q Hs' A' σ' H' s (h _ _ _ _ ok)
  | ct => exact fun Hs' A' σ' H' s ok => q Hs' A' σ' H' s (h _ _ _ _ ok)
  | ret r => exact fun Hs' A' σ' H' v s ok rel => q Hs' A' σ' H' v s (h _ _ _ _ ok) (by rw [← hK]; exact rel)
theorem zs_for {iter : Expr} {body : List Stmt} {mi : MI} {g : TD} {s : SM} (hp : PassesOwn (model X.prog X.w) X.A X.env X.xe) (hc : X.calm = true) (hi : ZI X tg iter mi) (hg : ZG X tg g) (hb : ZSs X body s)
    (hs : ∀ x, foldedSetIterable iter X.env x = pure x := by intro _; rfl) : ZS X (.For tg iter body [] pos) (zFor X.N.length mi g s) := by
  refine PS.of (ps_for hp hc hi hg hb hs) fun W σ H ⟨C, Hs, A, g, fl, g', hK, hn, ok, e, q⟩ => ?_
  unfold zFor at e
  simp only [Option.bind_eq_bind, Option.bind_eq_some_iff] at e
  obtain ⟨⟨L, lk, g1⟩, h1, e⟩ := e
  refine ⟨C, Hs, A, g, L, lk, g1, hK, hn, ok, h1, fun Hs1 A1 H1 J lk' s1 _p1 ok1 hl jw => ?_⟩
  have okc := ok1.cut
  rw [hn] at okc
  cases lk with
  | none =>
    cases lk' with
    | some _ => exact hl.elim
    | none =>
      exact for_of hK hn okc jw (fun _ _ z => by cases z) e (q.mono s1)
  | some j =>
    cases lk' with
    | none => exact hl.elim
    | some ac =>
      obtain ⟨a, c⟩ := ac
      obtain ⟨ha, ⟨p0, l0, hgj⟩, hj⟩ := hl
      simp only at e
      split at e
      · rename_i c' p l hg2
        rw [List.getElem?_take_of_lt hj, hgj] at hg2
        cases hg2
        simp only [Option.bind_eq_some_iff] at e
        obtain ⟨⟨fl1, g3⟩, e1, e2⟩ := e
        cases e2
        have hgc : (g1.take X.N.length)[j]? = some (.own c p0 l0) := by rw [List.getElem?_take_of_lt hj]; exact hgj
        have hac : (A1.take X.N.length)[j]? = some a := by rw [List.getElem?_take_of_lt hj]; exact ha
        have hjn : j < C.n := by rw [hn]; exact hj
        have okl : Ok (C.lock (j, a, c) hjn) Hs1 (A1.take X.N.length) ((g1.take X.N.length).set j (.own c p0 true)) σ H1 := by
          refine okc.lk hgc rfl rfl rfl rfl rfl fun r hr => ?_
          rcases List.mem_cons.mp hr with rfl | hr
          · exact .inl ⟨rfl, rfl, rfl, hac⟩
          · by_cases z : r.1 = j
            · obtain ⟨p', w1, w2⟩ := okc.locked r hr
              rw [z, hgc] at w1
              cases w1
              rw [z] at w2
              exact .inl ⟨z, rfl, rfl, w2⟩
            · exact .inr ⟨z, hr⟩
        refine for_of (C := C.lock (j, a, c) hjn) hK hn okl jw (fun a' c' z => ⟨j, by cases z; exact List.mem_cons_self⟩) e1 ?_
        refine (q.mono s1).of (C := C) rfl fun Hs' A' σ' H' ok' => ?_
        obtain ⟨p', w1, w2⟩ := ok'.locked (j, a, c) List.mem_cons_self
        unfold unlk
        rw [show g3[j]? = some (.own c p' true) from w1]
        refine ok'.lk (C' := C) w1 rfl rfl rfl rfl rfl fun r hr => ?_
        by_cases z : r.1 = j
        · obtain ⟨p2, y1, y2⟩ := okc.locked r hr
          rw [z, hgc] at y1
          have e3 : some (Sl.own c p0 l0) = some (.own r.2.2 p2 true) := y1
          cases e3
          obtain ⟨p3, x1, x2⟩ := ok'.locked r (List.mem_cons_of_mem _ hr)
          rw [z] at x2
          exact .inl ⟨z, rfl, rfl, x2⟩
        · exact .inr ⟨z, List.mem_cons_of_mem _ hr⟩
      · cases e
end
end Z
set_option Elab.async false
set_option linter.all false
set_option maxRecDepth 100000
set_option maxHeartbeats 4000000
namespace Z
open PySem PySem.Spec PyProof.Rows L2
/-- what a def hands back: data, or a new container -/
inductive FR where
  | dat (d : D) | new (c : Cn)
  deriving Inhabited
def RelF (K : PySem.W.Frag) (Hs' H H' : Hp) (v : V) : FR → Prop
  | .dat d => Dz K Hs' v d
  | .new c => ∃ a o, v = .ref a ∧ H a = none ∧ Hs' a = none ∧ H' a = some o ∧ CnOk K Hs' c o
/-- the promise of a def that changes nothing -/
def spP (K : PySem.W.Frag) (f : List D → Option FR) : Sp := fun vs H Q _ => ∃ (Hs : Hp) (ds : List D) (fr : FR), Same Hs H ∧ DzA K Hs vs ds ∧ f ds = some fr ∧
  ∀ (v : V) (Hs' H' : Hp), Same Hs Hs' → Same H H' → Same Hs' H' → (∀ b o, Hs' b = some o → Hs b = some o ∨ H b = none) → RelF K Hs' H H' v fr → Q v H'
def fin (g : G) : R → Option FR
  | .dat d => some (.dat d)
  | .bor j => match g[j]? with
    | some (.own c false false) => some (.new c)
    | some (.frz d) => some (.dat d)
    | _ => none
def start0 (n : Nat) (ds : List D) : G := ds.map Sl.dat ++ List.replicate (n - ds.length) .un
def runP (n np : Nat) (s : SM) : List D → Option FR := fun ds => if ds.length = np then
    (match s (start0 n ds) with
    | some (.ret r, g) => fin g r
    | some (.nx, _) => some (.dat .non)
    | _ => none)
  else none
theorem start_len {N : List Str} {vs : List V} (h : vs.length ≤ N.length) : (L2.start N vs).length = N.length := by
  unfold L2.start
  rw [List.length_append, List.length_map, List.length_replicate]
  omega
theorem ok_start {K : PySem.W.Frag} {N : List Str} {Hs H : Hp} {vs : List V} {ds : List D} (h : ds.length ≤ N.length) (s : Same Hs H) (hz : DzA K Hs vs ds) :
    Ok { K := K, n := N.length, H0 := H, Hs0 := Hs, pins := [], locks := [], plt := fun _ h => (List.not_mem_nil h).elim, llt := fun _ h => (List.not_mem_nil h).elim } Hs (List.replicate N.length 0) (start0 N.length ds) (L2.start N vs) H := by
  have hvl := hz.length
  have old : ∀ (i : Nat) (t : Sl), (start0 N.length ds)[i]? = some t → (∃ d, ds[i]? = some d ∧ t = .dat d) ∨ t = .un := fun i t e => by
    unfold start0 at e
    by_cases hi : i < ds.length
    · rw [List.getElem?_append_left (by simpa using hi), List.getElem?_map] at e
      rw [List.getElem?_eq_getElem hi] at e
      exact .inl ⟨ds[i], List.getElem?_eq_getElem hi, (Option.some.inj e).symm⟩
    · rw [List.getElem?_append_right (by simpa using hi), List.getElem?_replicate] at e
      split at e
      · exact .inr (Option.some.inj e).symm
      · cases e
  refine ⟨start_len (by omega), by unfold start0; simp; omega, by unfold start0; simp; omega, Same.refl _, s, fun i d e => ?_, fun i d e => ?_, fun i c p l e => ?_, fun i j c p l c' p' l' a e _ _ _ => ?_, fun b o e => .inl e, fun b o e _ => e, fun _ h => (List.not_mem_nil h).elim, fun i c l a e _ => ?_, fun _ h => (List.not_mem_nil h).elim⟩
  · rcases old i _ e with ⟨d', h1, h2⟩ | z
    · cases h2
      obtain ⟨v, w1, w2⟩ := hz.get h1
      refine ⟨v, ?_, w2⟩
      have hi := (List.getElem?_eq_some_iff.mp w1).1
      unfold L2.start
      rw [List.getElem?_append_left (by simpa using hi), List.getElem?_map, w1]
      rfl
    · cases z
  · rcases old i _ e with ⟨d', h1, h2⟩ | z
    · cases h2
    · cases z
  · rcases old i _ e with ⟨d', h1, h2⟩ | z
    · cases h2
    · cases z
  · rcases old i _ e with ⟨d', h1, h2⟩ | z
    · cases h2
    · cases z
  · rcases old i _ e with ⟨d', h1, h2⟩ | z
    · cases h2
    · cases z
theorem fin_ok {C : Ct} {Hs H' : Hp} {A : List Addr} {g : G} {σ : L2.St} {v : V} {r : R} {fr : FR} (ok : Ok C Hs A g σ H') (h : RelR C.K Hs A v r) (e : fin g r = some fr) : RelF C.K Hs C.H0 H' v fr := by
  cases r with
  | dat d => cases e; exact h
  | bor j =>
    obtain ⟨a, ha, rfl⟩ := (show ∃ a, A[j]? = some a ∧ v = .ref a from h)
    simp only [fin] at e
    split at e
    · rename_i c hg
      cases e
      obtain ⟨a', o, w1, _, w3, w4, w5, w6⟩ := ok.own j _ _ _ hg
      rw [ha] at w1
      cases w1
      exact ⟨a, o, rfl, w6 rfl, w3, w4, w5⟩
    · rename_i d hg
      cases e
      obtain ⟨a', w1, _, w3⟩ := ok.frz j _ hg
      rw [ha] at w1
      cases w1
      exact w3
    · cases e
section
variable {P : Program} {w : World} {K : PySem.W.Frag} {mg : Str → Option Value} {base : Heap}
/-- THE RULE for a def that changes nothing -/
theorem okP {x qual : Str} {st : Stmt} {f : Addr} {fd : FuncData} {N ps : List Str} {k : Nat} {s : SM} (F : Fun K x qual st f fd) (S : FnScope N ps (defScope st))
    (hbody : ∀ (cdv : Value) (A : Around) (outer : List Env) (s0 : Shared) (H : Hp) (E : XK), Room k (A.deeper (envOfC qual (defScope st) s0.heap.objs.size f cdv)) →
      ZSs (cxOf CX0 P w K mg base N qual (defScope st) f cdv A outer s0 H E).nox (defBody st) s) : FnOk P w K mg base CX0 (k + 1) f fd ps (spP K (runP N.length ps.length s)) := by
  have arity : ∀ vs H Q E, spP K (runP N.length ps.length s) vs H Q E → vs.length = ps.length := fun vs H Q E ⟨Hs, ds, fr, _, hz, e, _⟩ => by
    unfold runP at e
    split at e
    · rename_i h
      rw [hz.length]
      exact h
    · cases e
  refine F.ok S arity (fun cdv A outer s0 H vs Q E hr h => ⟨_, hbody cdv A outer s0 H E hr, ?_⟩)
  have hal := arity vs H Q E h
  obtain ⟨Hs, ds, fr, sm, hz, e, q⟩ := h
  have hpl : ps.length ≤ N.length := by
    have := congrArg List.length S.pre
    rw [List.length_take] at this
    omega
  have hdl : ds.length ≤ N.length := by rw [← hz.length]; omega
  unfold runP at e
  rw [if_pos (by rw [← hz.length]; exact hal)] at e
  split at e
  · rename_i r g' hs
    refine ⟨_, Hs, _, start0 N.length ds, .ret r, g', rfl, rfl, ok_start hdl sm hz, hs, ?_⟩
    exact fun Hs' A' σ' H' v s1 ok1 rel1 => q v Hs' H' s1 (fun b o e => ok1.keep b o e (fun _ h => (List.not_mem_nil h).elim)) ok1.same ok1.grow (fin_ok ok1 rel1 e)
  · rename_i g' hs
    cases e
    refine ⟨_, Hs, _, start0 N.length ds, .nx, g', rfl, rfl, ok_start hdl sm hz, hs, ?_⟩
    exact fun Hs' A' σ' H' s1 ok1 => q .non Hs' H' s1 (fun b o e => ok1.keep b o e (fun _ h => (List.not_mem_nil h).elim)) ok1.same ok1.grow .non
  · cases e
/-- the def that the module's name x holds keeps a promise, by at most level k -/
def Cal (P : Program) (w : World) (K : PySem.W.Frag) (mg : Str → Option Value) (base : Heap) (k : Nat) (x : Str) (sp : Sp) : Prop :=
  ∃ (f : Addr) (fd : FuncData) (ps : List Str), mg x = some (.ref f) ∧ PySem.W.keepIn K (.ref f) = true ∧ Binds K fd ps [] ∧ FnOk P w K mg base CX0 k f fd ps sp
theorem Cal.mono {j k : Nat} {x : Str} {sp : Sp} (c : Cal P w K mg base j x sp) (h : j ≤ k) : Cal P w K mg base k x sp :=
  let ⟨f, fd, ps, h1, h2, h3, h4⟩ := c
  ⟨f, fd, ps, h1, h2, h3, h4.mono h⟩
end
theorem Ok.adopt {C : Ct} {Hs : Hp} {A : List Addr} {g : G} {σ : L2.St} {H H' : Hp} (ok : Ok C Hs A g σ H) {a : Addr} {o : HO} {c : Cn} (h : H a = none) (s : Same H H') (e : H' a = some o) (hc : CnOk C.K Hs c o) : Ok C Hs (A ++ [a]) (g ++ [.own c false false]) σ H' :=
  (ok.tmp h hc).more fun b u q => by
    by_cases z : b = a
    · subst z
      rw [upd_same] at q
      cases q
      exact e
    · rw [upd_ne z] at q
      exact s b u q
/-- .. where the known things grew too -/
theorem Ok.adoptS {C : Ct} {Hs Hs' : Hp} {A : List Addr} {g : G} {σ : L2.St} {H H' : Hp} (ok : Ok C Hs A g σ H) (s : Same H H') (s1 : Same Hs Hs') (s2 : Same Hs' H') (gr : ∀ b o, Hs' b = some o → Hs b = some o ∨ H b = none) {a : Addr} {o : HO} {c : Cn} (h : H a = none) (ha : Hs' a = none) (e : H' a = some o) (hc : CnOk C.K Hs' c o) :
    Ok C Hs' (A ++ [a]) (g ++ [.own c false false]) σ H' := by
  -- first without a
  have ok1 : Ok C Hs' A g σ (fun b => if b = a then none else H' b) := by
    refine ok.moreS (fun b u q => ?_) s1 (fun b u q => ?_) gr
    · have z : b ≠ a := fun z => by rw [z, h] at q; cases q
      show (if b = a then none else H' b) = some u
      rw [if_neg z]
      exact s b u q
    · have z : b ≠ a := fun z => by rw [z, ha] at q; cases q
      show (if b = a then none else H' b) = some u
      rw [if_neg z]
      exact s2 b u q
  refine (ok1.adopt (H' := H') (a := a) (o := o) (by show (if a = a then none else H' a) = none; rw [if_pos rfl]) (fun b u q => ?_) e hc)
  have q' : (if b = a then none else H' b) = some u := q
  split at q'
  · cases q'
  · exact q'
def zCall (f : List D → Option FR) (ma : ZAr) : ZM := fun g => do
  let (rs, g1) ← ma g
  let ds ← rdAll g1 rs
  let fr ← f ds
  match fr with
  | .dat d => if d.scal = true then some (.dat d, g1) else do
    let (ds2, g2) ← frzAll rs g1
    let fr2 ← f ds2
    match fr2 with
    | .dat d2 => some (.dat d2, g2)
    | .new _ => none
  | .new c => if c.scal = true then some (.bor g1.length, g1 ++ [.own c false false]) else do
    let (ds2, g2) ← frzAll rs g1
    let fr2 ← f ds2
    match fr2 with
    | .new c2 => some (.bor g2.length, g2 ++ [.own c2 false false])
    | .dat _ => none
section
variable {X : Cx} {f : List D → Option FR} {ma : ZAr}
theorem call_of {σ : L2.St} {H : Hp} {Q : VK} {E : XK} (h : tZ X.K X.N.length (zCall f ma) σ H Q) : tCall (spP X.K f) [] E (tZA X.K X.N.length ma) σ H Q := by
  obtain ⟨C, Hs, A, g, r, g', hK, hn, ok, e, q⟩ := h
  unfold zCall at e
  simp only [Option.bind_eq_bind, Option.bind_eq_some_iff] at e
  obtain ⟨⟨rs, g1⟩, h1, ds, h2, fr, h3, e⟩ := e
  refine ⟨C, Hs, A, g, rs, g1, hK, hn, ok, h1, fun Hs1 A1 vs H1 s1 p1 ok1 rel1 => ?_⟩
  show spP X.K f (vs ++ []) H1 Q E
  rw [List.append_nil]
  have plain : DzA X.K H1 vs ds := by
    have x := rdAll_ok ok1 rel1 h2
    rw [hK] at x
    exact x
  cases fr with
  | dat d =>
    simp only at e
    split at e
    · rename_i hs
      cases e
      refine ⟨H1, ds, .dat d, Same.refl _, plain, h3, fun v Hs' H' _ sH _ _ rf => ?_⟩
      exact q Hs1 A1 v H' s1 p1 (ok1.more sH) (show Dz C.K Hs1 v d from by rw [hK]; exact (show Dz X.K Hs' v d from rf).any hs)
    · simp only [Option.bind_eq_some_iff] at e
      obtain ⟨⟨ds2, g2⟩, h4, fr2, h5, e⟩ := e
      obtain ⟨Hs2, s2, ok2, z2⟩ := frzAll_ok ok1 rel1 h4
      cases fr2 with
      | new _ => cases e
      | dat d2 =>
        cases e
        refine ⟨Hs2, ds2, .dat d2, ok2.same, by rw [← hK]; exact z2, h5, fun v Hs' H' sS sH sP gr rf => ?_⟩
        exact q Hs' A1 v H' ((s1.trans s2).trans sS) p1 (ok2.moreS sH sS sP gr) (show Dz C.K Hs' v d2 from by rw [hK]; exact rf)
  | new c =>
    simp only at e
    split at e
    · rename_i hs
      cases e
      refine ⟨H1, ds, .new c, Same.refl _, plain, h3, fun v Hs' H' _ sH _ _ rf => ?_⟩
      obtain ⟨a, o, rfl, w1, w2, w3, w4⟩ := rf
      have w5 : CnOk C.K Hs1 c o := by rw [hK]; exact w4.any hs
      exact q Hs1 (A1 ++ [a]) _ H' s1 (p1.trans (Pre.app _ _)) (ok1.adopt w1 sH w3 w5) (ok1.tmpR a)
    · simp only [Option.bind_eq_some_iff] at e
      obtain ⟨⟨ds2, g2⟩, h4, fr2, h5, e⟩ := e
      obtain ⟨Hs2, s2, ok2, z2⟩ := frzAll_ok ok1 rel1 h4
      cases fr2 with
      | dat _ => cases e
      | new c2 =>
        cases e
        refine ⟨Hs2, ds2, .new c2, ok2.same, by rw [← hK]; exact z2, h5, fun v Hs' H' sS sH sP gr rf => ?_⟩
        obtain ⟨a, o, rfl, w1, w2, w3, w4⟩ := rf
        exact q Hs' (A1 ++ [a]) _ H' ((s1.trans s2).trans sS) (p1.trans (Pre.app _ _)) (ok2.adoptS sH sS sP gr w1 w2 w3 (by rw [hK]; exact w4)) (ok2.tmpR a)
theorem ze_call {k : Nat} {x : Str} {p pos : Pos} {e : Expr} {es : List Expr} (c : Cal X.prog X.w X.K X.mg X.base k x (spP X.K f)) (hr : Room k X.A) (ha : ZAs X (e :: es) ma) (hg : Gl X x := by rfl)
    (hdb : (x == ("__debug__" : Str)) = false := by decide) (he : starEach (e :: es) X.env = (false, eval e X.env) :: starEach es X.env := by rfl) (hpl : (backTo pos (starEach es X.env)).any (·.1) = false := by rfl) :
    ZE X (.Call (.Name x p) (e :: es) [] pos) (zCall f ma) := by
  obtain ⟨fa, fd, ps, h1, h2, h3, h4⟩ := c
  exact PE.of (pe_call (E := E0) h4 hr hg h1 h2 h3 .nil pass0 ha hdb he hpl) fun σ H Q h => call_of h
theorem ze_call0 {k : Nat} {x : Str} {p pos : Pos} (c : Cal X.prog X.w X.K X.mg X.base k x (spP X.K f)) (hr : Room k X.A) (hg : Gl X x := by rfl) (hdb : (x == ("__debug__" : Str)) = false := by decide) : ZE X (.Call (.Name x p) [] [] pos) (zCall f zNil) := by
  obtain ⟨fa, fd, ps, h1, h2, h3, h4⟩ := c
  refine PE.of (pe_call0 (E := E0) h4 hr hg h1 h2 h3 .nil pass0 hdb) fun σ H Q h => ?_
  have h2 := call_of (E := E0) h
  obtain ⟨C, Hs, A, g, rs, g1, hK, hn, ok, e, q⟩ := h2
  cases e
  exact q Hs A [] H (Same.refl _) (Pre.refl _) ok trivial
end
end Z
set_option Elab.async false
set_option linter.all false
set_option maxRecDepth 100000
set_option maxHeartbeats 4000000
namespace Z
open PySem PySem.Spec PyProof.Rows L2
theorem OpR.or {X : Cx} {f : Value → Value → Sem Value} {r r' : R2} (h : OpR X f r) (h' : OpR X f r') : OpR X f (fun x y H Q => r x y H Q ∨ r' x y H Q) := by
  intro pins s σ H x y v u Q I rx ry q
  rcases q with q | q
  · exact h pins s σ H x y v u Q I rx ry q
  · exact h' pins s σ H x y v u Q I rx ry q
theorem OpR.of {X : Cx} {f : Value → Value → Sem Value} {r r' : R2} (h : OpR X f r) (w : ∀ x y H Q, r' x y H Q → r x y H Q) : OpR X f r' := fun pins s σ H x y v u Q I rx ry q => h pins s σ H x y v u Q I rx ry (w _ _ _ _ q)
def subD : D → D → Option D
  | .int i, .int j => some (.int (i - j))
  | _, _ => none
theorem s_int {K : PySem.W.Frag} {g : Int → Int → D} {f : D → D → Option D} (hg : ∀ i j, (g i j).scal = true) (hf : ∀ d e z, f d e = some z → ∃ i j, d = .int i ∧ e = .int j ∧ z = g i j) : OpS K (rI0 fun i j => (g i j).v) f := by
  intro H x y d e z Q hx hy e1 q
  obtain ⟨i, j, rfl, rfl, rfl⟩ := hf d e z e1
  cases hx
  cases hy
  exact ⟨i, j, rfl, rfl, q⟩
theorem s_intC {K : PySem.W.Frag} {C : Int → Int → Prop} {g : Int → Int → D} {f : D → D → Option D} (hf : ∀ d e z, f d e = some z → ∃ i j, d = .int i ∧ e = .int j ∧ C i j ∧ z = g i j) : OpS K (rI C fun i j => (g i j).v) f := by
  intro H x y d e z Q hx hy e1 q
  obtain ⟨i, j, rfl, rfl, hc, rfl⟩ := hf d e z e1
  cases hx
  cases hy
  exact ⟨i, j, rfl, rfl, hc, q⟩
theorem s_sub {K : PySem.W.Frag} : OpS K (rI0 fun i j => .int (i - j)) subD := s_int (g := fun i j => .int (i - j)) (fun _ _ => rfl) fun d e z h => by
  unfold subD at h
  split at h
  · cases h; exact ⟨_, _, rfl, rfl, rfl⟩
  · cases h
/-- the product of two ints that the model reckons -/
def mulOk (i j : Int) : Bool := decide (i.natAbs < 2 ^ 64) || decide (j.natAbs < 2 ^ 64) || decide (i.natAbs.log2 + j.natAbs.log2 < 1000000)
theorem mulOk_ok {i j : Int} (h : mulOk i j = true) : IntMulOk i j := by
  unfold mulOk at h
  rw [Bool.or_eq_true, Bool.or_eq_true] at h
  rcases h with (h | h) | h
  · exact (show CMul i j from .inl (by have := of_decide_eq_true h; omega)).ok
  · exact (show CMul i j from .inr (by have := of_decide_eq_true h; omega)).ok
  · have h2 : i.natAbs.log2 + j.natAbs.log2 < 1000000 := of_decide_eq_true h
    exact CMulW.ok h2
def mulD : D → D → Option D
  | .int i, .int j => if mulOk i j = true then some (.int (i * j)) else none
  | _, _ => none
theorem o_mul {X : Cx} : OpR X (binaryOp .Mult) (rI (fun i j => mulOk i j = true) fun i j => .int (i * j)) := opI fun _ _ _ _ _ _ _ hc q => mul_int q (mulOk_ok hc)
theorem s_mul {K : PySem.W.Frag} : OpS K (rI (fun i j => mulOk i j = true) fun i j => .int (i * j)) mulD := s_intC (g := fun i j => .int (i * j)) fun d e z h => by
  unfold mulD at h
  split at h
  · split at h
    · cases h; exact ⟨_, _, rfl, rfl, by assumption, rfl⟩
    · cases h
  · cases h
def divOk (j : Int) : Bool := decide (j ≠ 0) && decide (j.natAbs.log2 < 9000)
def fdivV (i j : Int) : Int := if 0 < j then i / j else i.fdiv j
def fmodV (i j : Int) : Int := if 0 < j then i % j else i.fmod j
theorem fdivV_eq (i j : Int) : fdivV i j = i.fdiv j := by
  unfold fdivV
  split
  · rw [Int.fdiv_eq_ediv_of_nonneg i (by omega)]
  · rfl
theorem fmodV_eq (i j : Int) : fmodV i j = i.fmod j := by
  unfold fmodV
  split
  · rw [Int.fmod_eq_emod_of_nonneg i (by omega)]
  · rfl
def divD : D → D → Option D
  | .int i, .int j => if divOk j = true then some (.int (fdivV i j)) else none
  | _, _ => none
theorem o_div {X : Cx} : OpR X (binaryOp .FloorDiv) (rI (fun _ j => divOk j = true) fun i j => .int (fdivV i j)) := opI fun i j _ _ _ _ _ hc q => by
  have h : divOk j = true := hc
  unfold divOk at h
  rw [Bool.and_eq_true] at h
  exact floordiv_int (of_decide_eq_true h.1) (by rw [← fdivV_eq]; exact q) (.inl (PyProof.noPylong_of_log2 (of_decide_eq_true h.2)))
theorem s_div {K : PySem.W.Frag} : OpS K (rI (fun _ j => divOk j = true) fun i j => .int (fdivV i j)) divD := s_intC (g := fun i j => .int (fdivV i j)) fun d e z h => by
  unfold divD at h
  split at h
  · split at h
    · cases h; exact ⟨_, _, rfl, rfl, by assumption, rfl⟩
    · cases h
  · cases h
def modD : D → D → Option D
  | .int i, .int j => if j ≠ 0 then some (.int (fmodV i j)) else none
  | _, _ => none
theorem o_mod {X : Cx} : OpR X (binaryOp .Mod) (rI (fun _ j => j ≠ 0) fun i j => .int (fmodV i j)) := opI fun i j _ _ _ _ _ hc q => mod_int' hc (by rw [← fmodV_eq]; exact q)
theorem s_mod {K : PySem.W.Frag} : OpS K (rI (fun _ j => j ≠ 0) fun i j => .int (fmodV i j)) modD := s_intC (g := fun i j => .int (fmodV i j)) fun d e z h => by
  unfold modD at h
  split at h
  · split at h
    · cases h; exact ⟨_, _, rfl, rfl, by assumption, rfl⟩
    · cases h
  · cases h
def ltD : D → D → Option D
  | .int i, .int j => some (.bl (decide (i < j)))
  | .str a, .str b => some (.bl (decide (a < b)))
  | _, _ => none
def rLtU : R2 := fun x y H Q => (∃ i j, x = .int i ∧ y = .int j ∧ Q (.bl (decide (i < j))) H) ∨ (∃ i j, x = .str i ∧ y = .str j ∧ Q (.bl (decide (i.cps.toList < j.cps.toList))) H)
theorem o_lt {X : Cx} : OpR X (compareOp .Lt) rLtU := OpR.or op_lt op_lt_str
theorem s_lt {K : PySem.W.Frag} : OpS K rLtU ltD := by
  intro H x y d e z Q hx hy e1 q
  unfold ltD at e1
  split at e1
  · cases e1; cases hx; cases hy; exact .inl ⟨_, _, rfl, rfl, q⟩
  · cases e1; cases hx; cases hy; exact .inr ⟨_, _, rfl, rfl, q⟩
  · cases e1
def leD : D → D → Option D
  | .int i, .int j => some (.bl (decide (i ≤ j)))
  | .str a, .str b => some (.bl (!decide (b < a)))
  | _, _ => none
def rLeU : R2 := fun x y H Q => (∃ i j, x = .int i ∧ y = .int j ∧ Q (.bl (decide (i ≤ j))) H) ∨ (∃ i j, x = .str i ∧ y = .str j ∧ Q (.bl (!decide (j.cps.toList < i.cps.toList))) H)
theorem o_le {X : Cx} : OpR X (compareOp .LtE) rLeU := OpR.or op_le op_le_str
theorem s_le {K : PySem.W.Frag} : OpS K rLeU leD := by
  intro H x y d e z Q hx hy e1 q
  unfold leD at e1
  split at e1
  · cases e1; cases hx; cases hy; exact .inl ⟨_, _, rfl, rfl, q⟩
  · cases e1; cases hx; cases hy; exact .inr ⟨_, _, rfl, rfl, q⟩
  · cases e1
def gtD : D → D → Option D
  | .int i, .int j => some (.bl (decide (j < i)))
  | .str a, .str b => some (.bl (decide (b < a)))
  | _, _ => none
def rGtU : R2 := fun x y H Q => (∃ i j, x = .int i ∧ y = .int j ∧ Q (.bl (decide (j < i))) H) ∨ (∃ i j, x = .str i ∧ y = .str j ∧ Q (.bl (decide (j.cps.toList < i.cps.toList))) H)
theorem o_gt {X : Cx} : OpR X (compareOp .Gt) rGtU := OpR.or op_gt op_gt_str
theorem s_gt {K : PySem.W.Frag} : OpS K rGtU gtD := by
  intro H x y d e z Q hx hy e1 q
  unfold gtD at e1
  split at e1
  · cases e1; cases hx; cases hy; exact .inl ⟨_, _, rfl, rfl, q⟩
  · cases e1; cases hx; cases hy; exact .inr ⟨_, _, rfl, rfl, q⟩
  · cases e1
def geD : D → D → Option D
  | .int i, .int j => some (.bl (decide (j ≤ i)))
  | .str a, .str b => some (.bl (!decide (a < b)))
  | _, _ => none
def rGeU : R2 := fun x y H Q => (∃ i j, x = .int i ∧ y = .int j ∧ Q (.bl (decide (j ≤ i))) H) ∨ (∃ i j, x = .str i ∧ y = .str j ∧ Q (.bl (!decide (i.cps.toList < j.cps.toList))) H)
theorem o_ge {X : Cx} : OpR X (compareOp .GtE) rGeU := OpR.or op_ge op_ge_str
theorem s_ge {K : PySem.W.Frag} : OpS K rGeU geD := by
  intro H x y d e z Q hx hy e1 q
  unfold geD at e1
  split at e1
  · cases e1; cases hx; cases hy; exact .inl ⟨_, _, rfl, rfl, q⟩
  · cases e1; cases hx; cases hy; exact .inr ⟨_, _, rfl, rfl, q⟩
  · cases e1
mutual
def D.eqv : D → D → Bool
  | .non, .non => true
  | .bl a, .bl b => a == b
  | .bl a, .int j => (if a then 1 else 0) == j
  | .int i, .bl b => i == (if b then 1 else 0)
  | .int i, .int j => i == j
  | .str a, .str b => a == b
  | .tup a, .tup b => D.eqvA a b
  | .lst a, .lst b => D.eqvA a b
  | _, _ => false
def D.eqvA : List D → List D → Bool
  | [], [] => true
  | x :: xs, y :: ys => D.eqv x y && D.eqvA xs ys
  | _, _ => false
end
mutual
def D.py : D → PyData
  | .non => .none | .bl b => .bool b | .int i => .int i | .str s => .str ⟨s.toArray⟩
  | .tup l => .tuple (D.pyA l) | .lst l => .list (D.pyA l) | .raw _ => .dict [] | .dic _ _ => .dict []
def D.pyA : List D → List PyData
  | [] => []
  | x :: xs => x.py :: D.pyA xs
end
theorem str_beq (a b : List Nat) : ((⟨a.toArray⟩ : Str) == ⟨b.toArray⟩) = (a == b) := by
  rw [Bool.eq_iff_iff]
  simp
mutual
theorem D.py_eqv : ∀ d e : D, PyData.eqv d.py e.py = D.eqv d e
  | .non, e => by cases e <;> simp [D.py, D.eqv, PyData.eqv]
  | .bl b, e => by cases e <;> simp [D.py, D.eqv, PyData.eqv]
  | .int i, e => by cases e <;> simp [D.py, D.eqv, PyData.eqv]
  | .str s, e => by
    cases e with
    | str t => simp only [D.py, D.eqv, PyData.eqv, str_beq]
    | _ => simp [D.py, D.eqv, PyData.eqv]
  | .tup l, e => by
    cases e with
    | tup m => simp only [D.py, D.eqv, PyData.eqv]; exact D.py_eqvA l m
    | _ => simp [D.py, D.eqv, PyData.eqv]
  | .lst l, e => by
    cases e with
    | lst m => simp only [D.py, D.eqv, PyData.eqv]; exact D.py_eqvA l m
    | _ => simp [D.py, D.eqv, PyData.eqv]
  | .raw v, e => by cases e <;> simp [D.py, D.eqv, PyData.eqv]
  | .dic _ _, e => by cases e <;> simp [D.py, D.eqv, PyData.eqv]
theorem D.py_eqvA : ∀ l m : List D, PyData.eqvAll (D.pyA l) (D.pyA m) = D.eqvA l m
  | [], [] => rfl
  | [], _ :: _ => rfl
  | _ :: _, [] => rfl
  | x :: xs, y :: ys => by simp only [D.pyA, PyData.eqvAll, D.eqvA, D.py_eqv x y, D.py_eqvA xs ys]
end
/-- what == can look through -/
def D.shp (d : D) : Bool := SeqAt.shaped d.py
mutual
theorem Dz.dp {K : PySem.W.Frag} {H : Hp} : ∀ {v : V} {d : D}, Dz K H v d → d.py.canLay0 = true → Dp K H v d.py
  | _, _, .non, _ => .non
  | _, _, .bl b, _ => .bl b
  | _, _, .int i, _ => .int i
  | _, _, .str s, _ => .str _
  | _, _, .tup hs ha, h => .tup hs (DzA.dp ha (by simpa [D.py, PyData.canLay0] using h))
  | _, _, .lst hs ha, h => .lst hs (DzA.dp ha (by simpa [D.py, PyData.canLay0] using h))
  | _, _, .raw v, h => by simp [D.py, PyData.canLay0] at h
  | _, _, .dic _ _ _, h => by simp [D.py, PyData.canLay0] at h
theorem DzA.dp {K : PySem.W.Frag} {H : Hp} : ∀ {vs : List V} {ds : List D}, DzA K H vs ds → PyData.canLayAll0 (D.pyA ds) = true → DpAll K H vs (D.pyA ds)
  | _, _, .nil, _ => .nil
  | _, _, .cons h t, q => by
    simp only [D.pyA, PyData.canLayAll0, Bool.and_eq_true] at q
    exact .cons (Dz.dp h q.1) (DzA.dp t q.2)
end
/-- plain and no object -/
def D.pl : D → Bool
  | .non => true | .bl _ => true | .int _ => true | .str _ => true
  | _ => false
def eqOk (d e : D) : Bool := (d.pl && e.pl) || (d.shp && e.shp)
def eqD (d e : D) : Option D := if eqOk d e = true then some (.bl (D.eqv d e)) else none
def rEqU (K : PySem.W.Frag) : R2 := fun x y H Q => rEq x y H Q ∨ ((∃ b j, x = .bl b ∧ y = .int j ∧ Q (.bl ((if b then 1 else 0) == j)) H) ∨ ((∃ i b, x = .int i ∧ y = .bl b ∧ Q (.bl (i == (if b then 1 else 0))) H) ∨ rEqD K x y H Q))
theorem o_eq {X : Cx} {k : Nat} (hr : Room k X.A) : OpR X (compareOp .Eq) (rEqU X.K) := by
  refine OpR.or op_eq (OpR.or ?_ (OpR.or ?_ (op_eqD hr.units)))
  · intro pins s σ H x y v u Q I rx ry h
    obtain ⟨b, j, rfl, rfl, q⟩ := h
    cases rx
    obtain ⟨t, rfl⟩ := ry
    exact PySem.EqBoolInt.eq_bool_int (fin_bl I q rfl)
  · intro pins s σ H x y v u Q I rx ry h
    obtain ⟨i, b, rfl, rfl, q⟩ := h
    obtain ⟨t, rfl⟩ := rx
    cases ry
    exact PySem.EqBoolInt.eq_int_bool (fin_bl I q rfl)
theorem s_eq {K : PySem.W.Frag} : OpS K (rEqU K) eqD := by
  intro H x y d e z Q hx hy e1 q
  unfold eqD at e1
  split at e1
  · rename_i ho
    cases e1
    unfold eqOk at ho
    rw [Bool.or_eq_true, Bool.and_eq_true, Bool.and_eq_true] at ho
    rcases ho with ⟨p1, p2⟩ | ⟨p1, p2⟩
    · cases hx <;> cases hy <;> simp [D.pl] at p1 p2
      · exact .inl ⟨rfl, q⟩
      · exact .inl ⟨rfl, q⟩
      · exact .inl ⟨rfl, q⟩
      · exact .inl ⟨rfl, q⟩
      · exact .inl ⟨rfl, q⟩
      · exact .inl ⟨rfl, by rw [dec_bl]; exact q⟩
      · exact .inr (.inl ⟨_, _, rfl, rfl, q⟩)
      · exact .inl ⟨rfl, q⟩
      · exact .inl ⟨rfl, q⟩
      · exact .inr (.inr (.inl ⟨_, _, rfl, rfl, q⟩))
      · exact .inl ⟨rfl, by rw [dec_int]; exact q⟩
      · exact .inl ⟨rfl, q⟩
      · exact .inl ⟨rfl, q⟩
      · exact .inl ⟨rfl, q⟩
      · exact .inl ⟨rfl, q⟩
      · exact .inl ⟨rfl, by rw [dec_str, str_beq]; exact q⟩
    · refine .inr (.inr (.inr ⟨d.py, e.py, hx.dp (SeqAt.canLay_of_shaped p1), hy.dp (SeqAt.canLay_of_shaped p2), p1, p2, ?_⟩))
      rw [D.py_eqv]
      exact q
  · cases e1
def rNeU (K : PySem.W.Frag) : R2 := fun x y H Q => rNe x y H Q ∨ rNeD K x y H Q
theorem o_ne {X : Cx} {k : Nat} (hr : Room k X.A) : OpR X (compareOp .NotEq) (rNeU X.K) := OpR.or op_ne (op_neD hr.units)
/-- != asks for plain values of kinds that are told apart, or for shaped data -/
def D.kin : D → D → Bool
  | .bl _, .int _ => false
  | .int _, .bl _ => false
  | _, _ => true
def neOk (d e : D) : Bool := (d.pl && e.pl && D.kin d e) || (d.shp && e.shp)
def neqD (d e : D) : Option D := if neOk d e = true then some (.bl (!D.eqv d e)) else none
theorem s_ne {K : PySem.W.Frag} : OpS K (rNeU K) neqD := by
  intro H x y d e z Q hx hy e1 q
  unfold neqD at e1
  split at e1
  · rename_i ho
    cases e1
    unfold neOk at ho
    rw [Bool.or_eq_true, Bool.and_eq_true, Bool.and_eq_true, Bool.and_eq_true] at ho
    rcases ho with ⟨⟨p1, p2⟩, p3⟩ | ⟨p1, p2⟩
    · cases hx <;> cases hy <;> simp [D.pl, D.kin] at p1 p2 p3
      · exact .inl ⟨rfl, q⟩
      · exact .inl ⟨rfl, q⟩
      · exact .inl ⟨rfl, q⟩
      · exact .inl ⟨rfl, q⟩
      · exact .inl ⟨rfl, q⟩
      · exact .inl ⟨rfl, by rw [dec_bl]; exact q⟩
      · exact .inl ⟨rfl, q⟩
      · exact .inl ⟨rfl, q⟩
      · exact .inl ⟨rfl, by rw [dec_int]; exact q⟩
      · exact .inl ⟨rfl, q⟩
      · exact .inl ⟨rfl, q⟩
      · exact .inl ⟨rfl, q⟩
      · exact .inl ⟨rfl, q⟩
      · exact .inl ⟨rfl, by rw [dec_str, str_beq]; exact q⟩
    · refine .inr ⟨d.py, e.py, hx.dp (SeqAt.canLay_of_shaped p1), hy.dp (SeqAt.canLay_of_shaped p2), p1, p2, ?_⟩
      rw [D.py_eqv]
      exact q
  · cases e1
def isD : D → D → Option D
  | d, .non => (match d with
    | .non => some (.bl true)
    | .raw _ => none
    | _ => some (.bl false))
  | d, .bl b => (match d with
    | .bl c => some (.bl (decide (c = b)))
    | .raw _ => none
    | _ => some (.bl false))
  | _, _ => none
def isntD (d e : D) : Option D := match isD d e with
  | some (.bl b) => some (.bl (!b))
  | _ => none
def rIsU (neg : Bool) : R2 := fun x y H Q => (y = .non ∧ Q (.bl (if neg then !decide (x = .non) else decide (x = .non))) H) ∨ ∃ b, y = .bl b ∧ Q (.bl (if neg then !decide (x = .bl b) else decide (x = .bl b))) H
theorem RelV.ne_bl {x : V} {v : Value} {b : Bool} (r : RelV x v) (h : x ≠ .bl b) : v ≠ Value.bool b := by
  intro z
  subst z
  cases x with
  | bl c => cases r; exact h rfl
  | non => cases r
  | int _ => obtain ⟨t, e⟩ := r; cases e
  | str _ => obtain ⟨t, e⟩ := r; cases e
  | byt _ => obtain ⟨t, e⟩ := r; cases e
  | flt _ => obtain ⟨t, e⟩ := r; cases e
  | ref _ => cases r
  | ty _ => cases r
theorem plainB {x : V} {v : Value} {b : Bool} (r : RelV x v) : plainIs v (.bool b) = true := by
  cases x with
  | bl c => cases r; rfl
  | non => cases r; rfl
  | int _ => obtain ⟨t, e⟩ := r; subst e; rfl
  | str _ => obtain ⟨t, e⟩ := r; subst e; rfl
  | byt _ => obtain ⟨t, e⟩ := r; subst e; rfl
  | flt _ => obtain ⟨t, e⟩ := r; subst e; rfl
  | ref _ => cases r; rfl
  | ty _ => cases r; rfl
theorem o_is {X : Cx} : OpR X (compareOp .Is) (rIsU false) := by
  intro pins s σ H x y v u Q I rx ry h
  rcases h with h | ⟨b, rfl, q⟩
  · exact op_isN pins s σ H x y v u Q I rx ry h
  · cases ry
    have q' : Q (.bl (decide (x = .bl b))) H := q
    by_cases e : x = .bl b
    · subst e
      cases rx
      exact wpAny_is_self rfl ⟨.bl true, H, I, rfl, by simpa using q'⟩
    · exact wpAny_is_other (plainB rx) (RelV.ne_bl rx e) ⟨.bl false, H, I, rfl, by simpa [e] using q'⟩
theorem o_isnt {X : Cx} : OpR X (compareOp .IsNot) (rIsU true) := by
  intro pins s σ H x y v u Q I rx ry h
  rcases h with h | ⟨b, rfl, q⟩
  · exact op_notN pins s σ H x y v u Q I rx ry h
  · cases ry
    have q' : Q (.bl (!decide (x = .bl b))) H := q
    by_cases e : x = .bl b
    · subst e
      cases rx
      exact wpAny_isNot_self rfl ⟨.bl false, H, I, rfl, by simpa using q'⟩
    · exact wpAny_isNot_other (plainB rx) (RelV.ne_bl rx e) ⟨.bl true, H, I, rfl, by simpa [e] using q'⟩
theorem isD_ok {K : PySem.W.Frag} {H : Hp} {x : V} {d e : D} {b : Bool} (hx : Dz K H x d) (h : isD d e = some (.bl b)) : (e = .non ∧ b = decide (x = .non)) ∨ ∃ c, e = .bl c ∧ b = decide (x = .bl c) := by
  cases e with
  | non =>
    refine .inl ⟨rfl, ?_⟩
    cases hx <;> simp [isD] at h ⊢ <;> exact h
  | bl c =>
    refine .inr ⟨c, rfl, ?_⟩
    cases hx <;> simp [isD] at h ⊢ <;> first | exact h | exact h.symm
  | _ => cases d <;> simp [isD] at h
theorem isD_bl {d e z : D} (h : isD d e = some z) : ∃ b, z = .bl b := by
  unfold isD at h
  split at h
  · split at h <;> cases h <;> exact ⟨_, rfl⟩
  · split at h <;> cases h <;> exact ⟨_, rfl⟩
  · cases h
theorem s_is {K : PySem.W.Frag} : OpS K (rIsU false) isD := by
  intro H x y d e z Q hx hy e1 q
  obtain ⟨b, rfl⟩ := isD_bl e1
  rcases isD_ok hx e1 with ⟨rfl, rfl⟩ | ⟨c, rfl, rfl⟩
  · cases hy; exact .inl ⟨rfl, q⟩
  · cases hy; exact .inr ⟨c, rfl, q⟩
theorem s_isnt {K : PySem.W.Frag} : OpS K (rIsU true) isntD := by
  intro H x y d e z Q hx hy e1 q
  unfold isntD at e1
  split at e1
  · rename_i b e2
    cases e1
    rcases isD_ok hx e2 with ⟨rfl, rfl⟩ | ⟨c, rfl, rfl⟩
    · cases hy; exact .inl ⟨rfl, q⟩
    · cases hy; exact .inr ⟨c, rfl, q⟩
  · cases e1
end Z
set_option Elab.async false
set_option linter.all false
set_option maxRecDepth 100000
set_option maxHeartbeats 4000000
namespace Z
open PySem PySem.Spec PyProof.Rows L2
/-- a list or tuple by what is read of it -/
theorem Ok.rdL {C : Ct} {Hs : Hp} {A : List Addr} {g : G} {σ : L2.St} {H : Hp} (ok : Ok C Hs A g σ H) {v : V} {r : R} {ds : List D} (h : RelR C.K Hs A v r) (e : Z.rd g r = some (.lst ds)) : ∃ a vs, v = .ref a ∧ SqL C.K H a vs ∧ DzA C.K Hs vs ds := by
  cases r with
  | dat d =>
    cases e
    have hd : Dz C.K Hs v (.lst ds) := h
    cases hd with
    | lst hs ha => exact ⟨_, _, rfl, ok.same.seq hs, ha⟩
  | bor j =>
    obtain ⟨a, h1, rfl⟩ := (show ∃ a, A[j]? = some a ∧ v = .ref a from h)
    have e : (match g[j]? with
      | some (.own c _ _) => some c.d
      | some (.frz d) => some d
      | _ => none) = some (.lst ds) := e
    split at e
    · rename_i c p l hg
      cases c with
      | lst L =>
        cases e
        obtain ⟨a', vs, ev, w1, w2, w3⟩ := ok.bor (relB h1) hg
        cases ev
        exact ⟨a, vs, rfl, SqL.of w2, w3⟩
    · rename_i d hg
      cases e
      obtain ⟨a', w1, _, hd⟩ := ok.frz j _ hg
      rw [h1] at w1
      cases w1
      cases hd with
      | lst hs ha => exact ⟨_, _, rfl, ok.same.seq hs, ha⟩
    · cases e
theorem Ok.rdT {C : Ct} {Hs : Hp} {A : List Addr} {g : G} {σ : L2.St} {H : Hp} (ok : Ok C Hs A g σ H) {v : V} {r : R} {ds : List D} (h : RelR C.K Hs A v r) (e : Z.rd g r = some (.tup ds)) : ∃ a vs, v = .ref a ∧ SqT C.K Hs a vs ∧ DzA C.K Hs vs ds := by
  cases r with
  | dat d =>
    cases e
    have hd : Dz C.K Hs v (.tup ds) := h
    cases hd with
    | tup hs ha => exact ⟨_, _, rfl, hs, ha⟩
  | bor j =>
    obtain ⟨a, h1, rfl⟩ := (show ∃ a, A[j]? = some a ∧ v = .ref a from h)
    have e : (match g[j]? with
      | some (.own c _ _) => some c.d
      | some (.frz d) => some d
      | _ => none) = some (.tup ds) := e
    split at e
    · rename_i c p l hg
      cases c with
      | lst L => cases e
    · rename_i d hg
      cases e
      obtain ⟨a', w1, _, hd⟩ := ok.frz j _ hg
      rw [h1] at w1
      cases w1
      cases hd with
      | tup hs ha => exact ⟨_, _, rfl, hs, ha⟩
    · cases e
def rCatL (K : PySem.W.Frag) : R2 := fun x y H Q => ∃ l b xs zs, x = .ref l ∧ y = .ref b ∧ SqL K H l xs ∧ SqL K H b zs ∧ xs.length + zs.length ≤ sizeLine ∧ ∀ p, H p = none → Q (.ref p) (upd H p (.lst (xs ++ zs)))
theorem add_plain {prog : Program} {w : World} {A : Around} {E : Value → Shared → Prop} {s : Shared} {l b : Addr} {xs ys : Array Value} {Q : Value → Shared → Prop} (hl : PlainL s.heap l xs) (hb : PlainL s.heap b ys)
    (h : Q (.ref s.heap.objs.size) { s with heap := s.heap.push { cls := .type "list", data := .seq (xs ++ ys) } }) (hz : xs.size + ys.size ≤ sizeLine) : wpAny (model prog w) A (binaryOp .Add (.ref l) (.ref b)) Q E s := by
  obtain ⟨⟨cls, dd, data, sl⟩, ho, hc, n, hd⟩ := id hl.isList
  obtain ⟨⟨cls2, dd2, data2, sl2⟩, ho2, hc2, n2, hd2⟩ := id hb.isList
  simp only at hc hd hc2 hd2
  subst hc hd hc2 hd2
  exact concat_meets ⟨_, ho, rfl⟩ ⟨_, ho2, rfl⟩ noFill_list_add seq_list_add PySem.F.slot_list_add PySem.F.entry_list_add (PySem.F.args_list_add_2 _ _) (list_addW l b xs ys n n2 dd dd2 sl sl2 hz) ⟨ho, ho2, h⟩
theorem op_catL {X : Cx} : OpR X (binaryOp .Add) (rCatL X.K) := by
  intro pins s σ H x y v u Q I rx ry h
  obtain ⟨l, b, xs, zs, rfl, rfl, hH, hB, hz, q⟩ := h
  cases rx
  cases ry
  obtain ⟨its, r, pl, z⟩ := I.list hH
  obtain ⟨its2, r2, pl2, z2⟩ := I.list hB
  have h1 := r.length
  have h2 := r2.length
  refine add_plain pl pl2 ?_ (by rw [List.size_toArray, List.size_toArray]; omega)
  have ea : its.toArray ++ its2.toArray = (its ++ its2).toArray := by simp
  rw [ea]
  refine ⟨.ref s.heap.objs.size, _, I.laid (t' := s.toks) (o := .lst (xs ++ zs)) (fun b o e => Heap.get?_push_of_some _ e) (Nat.le_refl _) ?_, rfl, q _ (I.hok.fresh (Nat.le_refl _))⟩
  exact ⟨by rw [List.length_append]; exact hz, _, 0, r.append r2, Heap.get?_push_size _ rfl⟩
def catOk (n m : Nat) : Bool := decide (n + m ≤ sizeLine)
def addS : D → D → Option D
  | .int i, .int j => some (.int (i + j))
  | .int i, .bl b => some (.int (i + b2i b))
  | .str a, .str b => if catOk a.length b.length = true then some (.str (a ++ b)) else none
  | _, _ => none
def rAddS : R2 := fun x y H Q => rI0 (fun i j => .int (i + j)) x y H Q ∨ (∃ i k, x = .int i ∧ y = .bl k ∧ Q (.int (i + b2i k)) H) ∨ (∃ i j, x = .str i ∧ y = .str j ∧ i.length + j.length ≤ sizeLine ∧ Q (.str (i ++ j)) H)
theorem o_add {X : Cx} : OpR X (binaryOp .Add) rAddS := OpR.or op_add (OpR.or op_add_ib op_add_str)
theorem str_app (a b : List Nat) : (⟨a.toArray⟩ : Str) ++ ⟨b.toArray⟩ = ⟨(a ++ b).toArray⟩ := by
  show Str.append _ _ = _
  simp [Str.append]
theorem s_add {K : PySem.W.Frag} : OpS K rAddS addS := by
  intro H x y d e z Q hx hy e1 q
  unfold addS at e1
  split at e1
  · cases e1; cases hx; cases hy; exact .inl ⟨_, _, rfl, rfl, q⟩
  · cases e1; cases hx; cases hy; exact .inr (.inl ⟨_, _, rfl, rfl, q⟩)
  · split at e1
    · rename_i h
      cases e1; cases hx; cases hy
      exact .inr (.inr ⟨_, _, rfl, rfl, by have := of_decide_eq_true h; simpa [Str.length] using this, by rw [str_app]; exact q⟩)
    · cases e1
  · cases e1
/-- o[i] -/
def ixD (d : D) (k : Int) : Option D := match d with
  | .lst l => atI l k
  | .tup l => atI l k
  | .str s => if s.length ≤ sizeLine then (atI s k).map fun c => .str [c] else none
  | _ => none
def zIx (ma mb : ZM) : ZM := fun g => do
  let (r1, g1) ← ma g
  let (r2, g2) ← mb g1
  let d ← rd g2 r1
  let k ← isI r2
  let z ← ixD d k
  some (.dat z, g2)
theorem atI_dz {K : PySem.W.Frag} {H : Hp} {vs : List V} {ds : List D} {k : Int} {z : D} (h : DzA K H vs ds) (e : atI ds k = some z) : ∃ v, atI vs k = some v ∧ Dz K H v z := by
  unfold atI at e ⊢
  rw [h.length]
  cases q : ixN ds.length k with
  | none => rw [q] at e; cases e
  | some j =>
    rw [q] at e
    obtain ⟨v, h1, h2⟩ := h.get (show ds[j]? = some z from e)
    exact ⟨v, h1, h2⟩
section
variable {X : Cx} {pos : Pos} {a b : Expr} {ma mb : ZM}
theorem ze_ix (ha : ZE X a ma) (hb : ZE X b mb) (hs : PlainIx b := by exact fun _ _ => rfl) : ZE X (.Subscript a b pos) (zIx ma mb) := by
  refine PE.of (pe_ix ix_seq ha hb hs) fun σ H Q ⟨C, Hs, A, g, r, g', hK, hn, ok, e, q⟩ => ?_
  unfold zIx at e
  simp only [Option.bind_eq_bind, Option.bind_eq_some_iff] at e
  obtain ⟨⟨r1, g1⟩, h1, ⟨r2, g2⟩, h2, d, h3, k, h4, z, h5, e⟩ := e
  cases e
  have er : r2 = .dat (.int k) := isI_some h4
  subst er
  refine tZ2 hK hn ok h1 h2 fun Hs2 A2 v1 v2 H2 s p ok2 w1 w2 => ?_
  have e2 : v2 = .int k := (show Dz C.K Hs2 v2 (.int k) from w2).v rfl
  subst e2
  cases d with
  | lst l =>
    obtain ⟨a', vs, rfl, y1, y2⟩ := ok2.rdL w1 h3
    obtain ⟨v, x1, x2⟩ := atI_dz y2 h5
    exact .inl ⟨a', vs, k, v, rfl, rfl, by rw [← hK]; exact y1, x1, q Hs2 A2 v H2 s p ok2 x2⟩
  | tup l =>
    obtain ⟨a', vs, rfl, y1, y2⟩ := ok2.rdT w1 h3
    obtain ⟨v, x1, x2⟩ := atI_dz y2 h5
    exact .inr (.inl ⟨a', vs, k, v, rfl, rfl, by rw [← hK]; exact sameT ok2.same y1, x1, q Hs2 A2 v H2 s p ok2 x2⟩)
  | str t =>
    have hd := ok2.rd w1 h3
    cases hd
    simp only [ixD] at h5
    split at h5
    · rename_i hl
      cases ec : atI t k with
      | none => rw [ec] at h5; cases h5
      | some c =>
        rw [ec] at h5
        cases h5
        exact .inr (.inr ⟨_, k, c, rfl, rfl, by simpa [Str.length] using hl, by simpa using ec, q Hs2 A2 _ H2 s p ok2 (.str [c])⟩)
    · cases h5
  | _ => cases h5
theorem len_codes (t : List Nat) : (⟨t.toArray⟩ : Str).length = t.length := by simp [Str.length]
def lenD : List D → Option D
  | [.lst l] => some (.int l.length)
  | [.tup l] => some (.int l.length)
  | [.str s] => if s.length ≤ sizeLine then some (.int s.length) else none
  | _ => none
def rLen (K : PySem.W.Frag) : List V → Hp → VK → Prop := fun xs H Q => ∃ x n, xs = [x] ∧ LenV K x H n ∧ Q (.int n) H
theorem s_len {K : PySem.W.Frag} : CallS K (rLen K) lenD := by
  intro H vs ds z Q hz e q
  unfold lenD at e
  split at e
  · cases e
    cases hz with
    | cons h t =>
      cases t
      cases h with
      | lst hs ha => exact ⟨_, _, rfl, .inl ⟨_, hs, rfl⟩, by rw [ha.length]; exact q⟩
  · cases e
    cases hz with
    | cons h t =>
      cases t
      cases h with
      | tup hs ha => exact ⟨_, _, rfl, .inr ⟨_, hs, rfl⟩, by rw [ha.length]; exact q⟩
  · split at e
    · rename_i hl
      cases e
      cases hz with
      | cons h t =>
        cases t
        cases h with
        | str s => exact ⟨_, _, rfl, ⟨by simpa [Str.length] using hl, rfl⟩, by rw [len_codes]; exact q⟩
    · cases e
  · cases e
def absD : List D → Option D
  | [.int i] => some (.int (if i < 0 then -i else i))
  | _ => none
/-- the texts of a list -/
def txsD : List D → Option (List (List Nat))
  | [] => some []
  | .str s :: r => do
    let t ← txsD r
    some (s :: t)
  | _ :: _ => none
theorem strs_map : ∀ {ds : List D} {ts : List (List Nat)}, txsD ds = some ts → ds = ts.map D.str
  | [], ts, e => by cases e; rfl
  | d :: r, ts, e => by
    cases d with
    | str s =>
      simp only [txsD, Option.bind_eq_bind, Option.bind_eq_some_iff] at e
      obtain ⟨t, h1, e⟩ := e
      cases e
      rw [strs_map h1]
      rfl
    | _ => cases e
theorem dzA_strs {K : PySem.W.Frag} {H : Hp} : ∀ {vs : List V} {ts : List (List Nat)}, DzA K H vs (ts.map D.str) → vs = (ts.map fun t => (⟨t.toArray⟩ : Str)).map V.str
  | [], [], _ => rfl
  | _ :: _, [], h => by cases h
  | [], _ :: _, h => by cases h
  | v :: vs, t :: ts, h => by
    cases h with
    | cons h1 h2 =>
      cases h1
      rw [dzA_strs h2]
      rfl
def joinD : D → List D → Option D
  | .str sep, [.lst l] => do
    let ts ← txsD l
    if (ts.map List.length).sum + ts.length * sep.length ≤ 16777216 then some (.str (TL.joinL sep ts)) else none
  | .str sep, [.tup l] => do
    let ts ← txsD l
    if (ts.map List.length).sum + ts.length * sep.length ≤ 16777216 then some (.str (TL.joinL sep ts)) else none
  | _, _ => none
def rJoin (K : PySem.W.Frag) : V → List V → Hp → VK → Prop := fun x xs H Q => ∃ a p, ∃ ys : List Str, x = .str a ∧ xs = [.ref p] ∧ (SqL K H p (ys.map V.str) ∨ SqT K H p (ys.map V.str)) ∧
    (ys.map (·.length)).sum + ys.length * a.length ≤ 16777216 ∧ Q (.str (Txt.join a ys)) H
theorem join_codes (sep : List Nat) (ts : List (List Nat)) : Txt.join ⟨sep.toArray⟩ (ts.map fun t => (⟨t.toArray⟩ : Str)) = ⟨(TL.joinL sep ts).toArray⟩ := by
  refine TL.ext_tl ?_
  rw [TL.join_eq, TL.tl_join]
  show TL.joinL (TL.tl ⟨sep.toArray⟩) ((ts.map fun t => (⟨t.toArray⟩ : Str)).map TL.tl) = TL.joinL sep ts
  rw [List.map_map, TL.tl_mk]
  congr 1
  exact List.map_id' ts
theorem s_join {K : PySem.W.Frag} : MtS K (rJoin K) joinD := by
  intro H x vs d ds z Q hx hz e q
  unfold joinD at e
  have key : ∀ (sep : List Nat) (ts : List (List Nat)), (ts.map List.length).sum + ts.length * sep.length ≤ 16777216 → ((ts.map fun t => (⟨t.toArray⟩ : Str)).map (·.length)).sum + (ts.map fun t => (⟨t.toArray⟩ : Str)).length * (⟨sep.toArray⟩ : Str).length ≤ 16777216 := fun sep ts h => by
    rw [List.map_map, List.length_map]
    have e1 : ((fun x : Str => x.length) ∘ fun t : List Nat => (⟨t.toArray⟩ : Str)) = List.length := by funext t; simp [Str.length]
    rw [e1]
    simpa [Str.length] using h
  split at e
  · simp only [Option.bind_eq_bind, Option.bind_eq_some_iff] at e
    obtain ⟨ts, h1, e⟩ := e
    split at e
    · rename_i hl
      cases e
      cases hx
      cases hz with
      | cons h t =>
        cases t
        cases h with
        | lst hs ha =>
          rw [strs_map h1] at ha
          have ev := dzA_strs ha
          subst ev
          exact ⟨_, _, _, rfl, rfl, .inl hs, key _ _ hl, by rw [join_codes]; exact q⟩
    · cases e
  · simp only [Option.bind_eq_bind, Option.bind_eq_some_iff] at e
    obtain ⟨ts, h1, e⟩ := e
    split at e
    · rename_i hl
      cases e
      cases hx
      cases hz with
      | cons h t =>
        cases t
        cases h with
        | tup hs ha =>
          rw [strs_map h1] at ha
          have ev := dzA_strs ha
          subst ev
          exact ⟨_, _, _, rfl, rfl, .inr hs, key _ _ hl, by rw [join_codes]; exact q⟩
    · cases e
  · cases e
end
end Z
set_option Elab.async false
set_option linter.all false
set_option maxRecDepth 100000
set_option maxHeartbeats 4000000
namespace Z
open PySem PySem.Spec PyProof.Rows L2
/-- a def of the top stands at its name -/
def DefAt (K : PySem.W.Frag) (mg : Str → Option Value) (x : Str) (st : Stmt) : Prop := ∃ (a : Addr) (fd : FuncData), mg x = some (.ref a) ∧ Fun K x x st a fd
/-- a constant of the top -/
def ConstAt (K : PySem.W.Frag) (mg : Str → Option Value) (x : Str) (v : V) (d : D) : Prop := (∃ u, mg x = some u ∧ RelV v u) ∧ ∀ H, Dz K H v d
theorem ze_gc {X : Cx} {pos : Pos} {x : Str} {v : V} {d : D} (h : ConstAt X.K X.mg x v d) (hg : Gl X x := by rfl) (hdb : (x == ("__debug__" : Str)) = false := by decide) : ZE X (.Name x pos) (zC d) := by
  obtain ⟨⟨u, h1, h2⟩, h3⟩ := h
  exact ze_glob hg h1 h2 h3 hdb
/-- int(x): of an int, a bool, a text -/
def intU : List D → Option D
  | [.int i] => some (.int i)
  | [.bl b] => some (.int (if b then 1 else 0))
  | [.str s] => match PySem.intText? ⟨s.toArray⟩ with
    | some n => if s.length ≤ 640 then some (.int n) else none
    | none => none
  | _ => none
def rIntU : List V → Hp → VK → Prop := fun xs H Q => ((∃ i, xs = [.int i] ∧ Q (.int i) H) ∨ ∃ k, xs = [.bl k] ∧ Q (.int (if k then 1 else 0)) H) ∨ (∃ a n, xs = [.str a] ∧ PySem.intText? a = some n ∧ a.length ≤ 640 ∧ Q (.int n) H)
theorem call_intU {X : Cx} : CallR X (.type "int") rIntU := CallR.or call_int1 call_int_str
theorem s_intU {K : PySem.W.Frag} : CallS K rIntU intU := by
  intro H vs ds z Q hz e q
  unfold intU at e
  split at e
  · cases e
    cases hz with
    | cons h t =>
      cases t
      cases h
      exact .inl (.inl ⟨_, rfl, q⟩)
  · cases e
    cases hz with
    | cons h t =>
      cases t
      cases h
      exact .inl (.inr ⟨_, rfl, q⟩)
  · split at e
    · rename_i n hn
      split at e
      · rename_i hl
        cases e
        cases hz with
        | cons h t =>
          cases t
          cases h
          exact .inr ⟨_, n, rfl, hn, by rw [len_codes]; exact hl, q⟩
      · cases e
    · cases e
  · cases e
/-- the script as data -/
def scriptD (ns : List Int) : D := .lst (ns.map .int)
theorem dzA_ints {K : PySem.W.Frag} {H : Hp} : ∀ ns : List Int, DzA K H (ns.map V.int) (ns.map D.int)
  | [] => .nil
  | n :: r => .cons (.int n) (dzA_ints r)
/-- the law's promise from its function -/
theorem law_sp {K : PySem.W.Frag} {H : Hp} {a : Addr} {ns : List Int} {f : List D → Option FR} (h : SqL K H a (ns.map V.int)) (e : f [scriptD ns] = some (.dat (.bl true))) : spP K f [.ref a] H (fun v _ => v = .bl true) fun _ _ _ => False := by
  refine ⟨H, [scriptD ns], .dat (.bl true), Same.refl _, .cons (.lst h (dzA_ints ns)) .nil, e, fun v Hs' H' _ _ _ _ rf => ?_⟩
  exact (show Dz K Hs' v (.bl true) from rf).v rfl
end Z
set_option Elab.async false
set_option linter.all false
set_option maxRecDepth 100000
set_option maxHeartbeats 4000000
namespace Z
open PySem PySem.Spec PyProof.Rows L2
section
variable {g g1 g2 g3 : G} {r r1 r2 : R} {d e z : D} {ma mb mc m : ZM} {mr : ZAr} {rs : List R} {ds : List D} {b b1 b2 : Bool} {t s : ZT} {n i j : Nat}
theorem er_op {f : D → D → Option D} (h1 : ma g = some (r1, g1)) (h2 : mb g1 = some (r2, g2)) (h3 : rd g2 r1 = some d) (h4 : rd g2 r2 = some e) (h5 : f d e = some z) (h6 : z.scal = true) : zOp f ma mb g = some (.dat z, g2) := by
  unfold zOp; simp only [h1, h2, h3, h4, h5, h6, Option.bind_eq_bind, Option.bind_some, if_true]
theorem er_un {f : D → Option D} (h1 : ma g = some (r1, g1)) (h3 : rd g1 r1 = some d) (h5 : f d = some z) (h6 : z.scal = true) : zUn f ma g = some (.dat z, g1) := by
  unfold zUn; simp only [h1, h3, h5, h6, Option.bind_eq_bind, Option.bind_some, if_true]
theorem er_chain {f f' : D → D → Option D} {r3 : R} {h : D} (h1 : ma g = some (r1, g1)) (h2 : mb g1 = some (r2, g)) (h3 : rd g r1 = some d) (h4 : rd g r2 = some e) (h5 : f d e = some (.bl b1)) (h6 : b1 = true → mc g = some (r3, g)) (h7 : rd g r3 = some h) (h8 : f' e h = some (.bl b2)) :
    zChain f f' ma mb mc g = some (.dat (.bl (b1 && b2)), g) := by
  unfold zChain; simp only [h1, h2, h3, h4, h5, Option.bind_eq_bind, Option.bind_some]
  cases b1 with
  | true => simp only [h6 rfl, h4, h7, h8, Option.bind_some, D.scal, if_true, Bool.true_and]
  | false => rfl
theorem er_tst (h1 : m g = some (.dat (.bl b), g1)) : zTst m g = some (b, g1) := by
  unfold zTst; simp only [h1, isB, Option.bind_eq_bind, Option.bind_some]
theorem er_tru (h1 : m g = some (r, g1)) (h2 : rd g1 r = some d) (h3 : tru d = some b) : zTru m g = some (b, g1) := by
  unfold zTru; simp only [h1, h2, h3, Option.bind_eq_bind, Option.bind_some]
theorem er_andT (h1 : s g = some (b1, g)) (h2 : b1 = true → t g = some (b2, g)) : zAndT s t g = some (b1 && b2, g) := by
  unfold zAndT; simp only [h1, Option.bind_eq_bind, Option.bind_some]
  cases b1 with
  | true => simp only [h2 rfl, if_true, Bool.true_and]
  | false => rfl
theorem er_orT (h1 : s g = some (b1, g)) (h2 : b1 = false → t g = some (b2, g)) : zOrT s t g = some (b1 || b2, g) := by
  unfold zOrT; simp only [h1, Option.bind_eq_bind, Option.bind_some]
  cases b1 with
  | true => rfl
  | false =>
    rw [if_neg Bool.false_ne_true, h2 rfl]
    rfl
theorem er_notT (h1 : s g = some (b, g1)) : zNotT s g = some (!b, g1) := by
  unfold zNotT; simp only [h1, Option.bind_eq_bind, Option.bind_some]
theorem er_andV (h1 : ma g = some (.dat (.bl b1), g)) (h2 : b1 = true → mb g = some (.dat (.bl b2), g)) : zAndV ma mb g = some (.dat (.bl (b1 && b2)), g) := by
  unfold zAndV; simp only [h1, isB, Option.bind_eq_bind, Option.bind_some]
  cases b1 with
  | true => simp only [h2 rfl, if_true, Bool.true_and]
  | false => rfl
theorem er_orV (h1 : ma g = some (.dat (.bl b1), g)) (h2 : b1 = false → mb g = some (.dat (.bl b2), g)) : zOrV ma mb g = some (.dat (.bl (b1 || b2)), g) := by
  unfold zOrV; simp only [h1, isB, Option.bind_eq_bind, Option.bind_some]
  cases b1 with
  | true => rfl
  | false =>
    rw [if_neg Bool.false_ne_true, h2 rfl]
    rfl
theorem er_notV (h1 : ma g = some (.dat (.bl b), g1)) : zNotV ma g = some (.dat (.bl (!b)), g1) := by
  unfold zNotV; simp only [h1, isB, Option.bind_eq_bind, Option.bind_some]
theorem er_ifT (h1 : t g = some (true, g1)) (h2 : ma g1 = some (r, g2)) : zIf t ma mb g = some (r, g2) := by
  unfold zIf; simp only [h1, h2, Option.bind_eq_bind, Option.bind_some, if_true]
theorem er_ifF (h1 : t g = some (false, g1)) (h2 : mb g1 = some (r, g2)) : zIf t ma mb g = some (r, g2) := by
  unfold zIf; simp only [h1, Option.bind_eq_bind, Option.bind_some]
  rw [if_neg Bool.false_ne_true]
  exact h2
theorem er_cons (h1 : ma g = some (r, g1)) (h2 : mr g1 = some (rs, g2)) : zCons ma mr g = some (r :: rs, g2) := by
  unfold zCons; simp only [h1, h2, Option.bind_eq_bind, Option.bind_some]
theorem er_callS {f : List D → Option D} (h1 : mr g = some (rs, g1)) (h2 : rdAll g1 rs = some ds) (h3 : f ds = some z) (h4 : z.scal = true) : zCallS f mr g = some (.dat z, g1) := by
  unfold zCallS; simp only [h1, h2, h3, h4, Option.bind_eq_bind, Option.bind_some, if_true]
theorem er_callV {f : List D → Option FR} (h1 : mr g = some (rs, g1)) (h2 : rdAll g1 rs = some ds) (h3 : f ds = some (.dat d)) (h4 : d.scal = true) : zCall f mr g = some (.dat d, g1) := by
  unfold zCall; simp only [h1, h2, h3, h4, Option.bind_eq_bind, Option.bind_some, if_true]
theorem frzAll_dat : ∀ (ds : List D) (g : G), frzAll (ds.map R.dat) g = some (ds, g)
  | [], _ => rfl
  | d :: ds, g => by
    simp only [List.map_cons, frzAll, frzR, frzAll_dat ds g, Option.bind_eq_bind, Option.bind_some]
/-- all arguments data: no matter what comes back -/
theorem rdAll_dat : ∀ (ds : List D) (g : G), rdAll g (ds.map R.dat) = some ds
  | [], _ => rfl
  | d :: ds, g => by
    simp only [List.map_cons, rdAll, rd, rdAll_dat ds g, Option.bind_eq_bind, Option.bind_some]
theorem er_call {f : List D → Option FR} (h1 : mr g = some (ds.map R.dat, g1)) (h3 : f ds = some (.dat d)) : zCall f mr g = some (.dat d, g1) := by
  unfold zCall; simp only [h1, rdAll_dat, frzAll_dat, h3, Option.bind_eq_bind, Option.bind_some]
  split
  · rfl
  · rfl
theorem er_callL {f : List D → Option FR} {c : Cn} (h1 : mr g = some (ds.map R.dat, g1)) (h3 : f ds = some (.new c)) : zCall f mr g = some (.bor g1.length, g1 ++ [.own c false false]) := by
  unfold zCall; simp only [h1, rdAll_dat, frzAll_dat, h3, Option.bind_eq_bind, Option.bind_some]
  split
  · rfl
  · rfl
/-- a call whose arguments are data, or whose answer is plain -/
theorem er_callG {f : List D → Option FR} (h1 : mr g = some (rs, g1)) (h2 : rdAll g1 rs = some ds) (h2' : frzAll rs g1 = some (ds, g2)) (h3 : f ds = some (.dat d)) (h4 : g2 = g1) : zCall f mr g = some (.dat d, g1) := by
  subst h4
  unfold zCall; simp only [h1, h2, h2', h3, Option.bind_eq_bind, Option.bind_some]
  split
  · rfl
  · rfl
theorem er_callH {f : List D → Option FR} {c : Cn} (h1 : mr g = some (rs, g1)) (h2 : rdAll g1 rs = some ds) (h2' : frzAll rs g1 = some (ds, g2)) (h3 : f ds = some (.new c)) (h4 : g2 = g1) : zCall f mr g = some (.bor g1.length, g1 ++ [.own c false false]) := by
  subst h4
  unfold zCall; simp only [h1, h2, h2', h3, Option.bind_eq_bind, Option.bind_some]
  split
  · rfl
  · rfl
theorem er_ix {k : Int} (h1 : ma g = some (r1, g1)) (h2 : mb g1 = some (.dat (.int k), g2)) (h3 : rd g2 r1 = some d) (h4 : ixD d k = some z) : zIx ma mb g = some (.dat z, g2) := by
  unfold zIx; simp only [h1, h2, h3, h4, isI, Option.bind_eq_bind, Option.bind_some]
theorem er_mt {T : String} {f : D → List D → Option D} (h1 : ma g = some (r, g1)) (h2 : rd g1 r = some d) (h3 : tyD T d = true) (h4 : mr g1 = some (rs, g2)) (h5 : rd g2 r = some e) (h6 : rdAll g2 rs = some ds) (h7 : f e ds = some z) (h8 : z.scal = true) : zMt T f ma mr g = some (.dat z, g2) := by
  unfold zMt; simp only [h1, h2, h3, h4, h5, h6, h7, h8, Option.bind_eq_bind, Option.bind_some, if_true]
theorem er_tup (h1 : mr g = some (rs, g1)) (h2 : frzAll rs g1 = some (ds, g2)) (h3 : ds.length ≤ sizeLine) : zTup mr g = some (.dat (.tup ds), g2) := by
  unfold zTup; simp only [h1, h2, h3, Option.bind_eq_bind, Option.bind_some, if_true]
theorem er_lst (h1 : mr g = some (rs, g1)) (h2 : frzAll rs g1 = some (ds, g2)) (h3 : ds.length ≤ sizeLine) : zLst mr g = some (.bor g2.length, g2 ++ [.own (.lst ds) false false]) := by
  unfold zLst; simp only [h1, h2, h3, Option.bind_eq_bind, Option.bind_some, if_true]
def ap {β : Type} (kk : Option (Fl × G) → β) (o : Option (Fl × G)) : β := kk o
variable {β : Type} {kk : Option (Fl × G) → β} {OUT : β} {st st1 st2 rest : SM} {c : Cn}
theorem sr_nx (k : ap kk (rest g) = OUT) : ap kk (zSeq zNx rest g) = OUT := k
theorem sr_assoc {s1 s2 s3 : SM} (k : ap kk (zSeq s1 (zSeq s2 s3) g) = OUT) : ap kk (zSeq (zSeq s1 s2) s3 g) = OUT := by
  have e : zSeq (zSeq s1 s2) s3 g = zSeq s1 (zSeq s2 s3) g := by
    unfold zSeq
    simp only [Option.bind_eq_bind]
    cases s1 g with
    | none => rfl
    | some o =>
      obtain ⟨fl, g1⟩ := o
      cases fl <;> rfl
  rw [e]; exact k
theorem set_dat (h1 : m g = some (.dat d, g1)) (hf : freeAt i g1 = true) (hg : (g1.set i (.dat d)).take n = g2) : zSet n i m g = some (.nx, g2) := by
  unfold zSet; simp only [h1, setR, setDat, hf, hg, Option.bind_eq_bind, Option.bind_some, if_true]
theorem set_own (h1 : m g = some (.bor j, g1)) (hj : n ≤ j) (ho : g1[j]? = some (.own c false false)) (hf : freeAt i g1 = true) (hg : ((g1.set i (.own c false false)).set j .un).take n = g2) : zSet n i m g = some (.nx, g2) := by
  unfold zSet; simp only [h1, setR, if_pos hj, ho, hf, hg, Option.bind_eq_bind, Option.bind_some, if_true]
theorem app_run (h1 : ma g = some (.bor j, g1)) {ds0 : List D} {p0 l0 p : Bool} (h0 : g1[j]? = some (.own (.lst ds0) p0 l0)) (h2 : mb g1 = some (r, g2)) (h3 : frzR r g2 = some (d, g3)) (h4 : g3[j]? = some (.own (.lst ds) p false)) (hz : ds.length < sizeLine) {g4 : G} (hg : (g3.set j (.own (.lst (ds ++ [d])) p false)).take n = g4) :
    zApp n ma mb g = some (.nx, g4) := by
  unfold zApp; simp only [h1, h0, h2, h3, h4, if_pos hz, hg, Option.bind_eq_bind, Option.bind_some]
theorem seq_nx (h : st g = some (.nx, g1)) (k : ap kk (rest g1) = OUT) : ap kk (zSeq st rest g) = OUT := by
  unfold zSeq; simp only [h, Option.bind_eq_bind, Option.bind_some]; exact k
theorem one_nx (h : st g = some (.nx, g1)) (k : ap kk (some (.nx, g1)) = OUT) : ap kk (st g) = OUT := by rw [h]; exact k
theorem sr_if (h1 : t g = some (b, g1)) (hg : g1.take n = g2) (k1 : b = true → ap kk (zSeq st1 rest g2) = OUT) (k2 : b = false → ap kk (zSeq st2 rest g2) = OUT) : ap kk (zSeq (zIfS n t st1 st2) rest g) = OUT := by
  have e : zSeq (zIfS n t st1 st2) rest g = if b = true then zSeq st1 rest g2 else zSeq st2 rest g2 := by
    unfold zSeq zIfS
    simp only [h1, hg, Option.bind_eq_bind, Option.bind_some]
    cases b with
    | true => rfl
    | false => rfl
  rw [e]
  cases b with
  | true => exact k1 rfl
  | false => exact k2 rfl
theorem sr_if1 (h1 : t g = some (b, g1)) (hg : g1.take n = g2) (k1 : b = true → ap kk (st1 g2) = OUT) (k2 : b = false → ap kk (st2 g2) = OUT) : ap kk (zIfS n t st1 st2 g) = OUT := by
  have e : zIfS n t st1 st2 g = if b = true then st1 g2 else st2 g2 := by
    unfold zIfS
    simp only [h1, hg, Option.bind_eq_bind, Option.bind_some]
  rw [e]
  cases b with
  | true => exact k1 rfl
  | false => exact k2 rfl
theorem sr_ret (h : m g = some (r, g1)) (k : ap kk (some (.ret r, g1)) = OUT) : ap kk (zRet m g) = OUT := by
  unfold zRet; simp only [h, Option.bind_eq_bind, Option.bind_some]; exact k
theorem sr_retS (h : m g = some (r, g1)) (k : ap kk (some (.ret r, g1)) = OUT) : ap kk (zSeq (zRet m) rest g) = OUT := by
  unfold zSeq zRet; simp only [h, Option.bind_eq_bind, Option.bind_some]; exact k
theorem of_ap {o OUT : Option (Fl × G)} (k : ap id o = OUT) : o = OUT := k
/-- what runP does with the end -/
def finK : Option (Fl × G) → Option FR
  | some (.ret r, g) => fin g r
  | some (.nx, _) => some (.dat .non)
  | _ => none
theorem runP_ap {np : Nat} {s : SM} {OUT : Option FR} (hl : ds.length = np) (hg : start0 n ds = g) (k : ap finK (s g) = OUT) : runP n np s ds = OUT := by
  unfold runP
  rw [if_pos hl, hg]
  exact k
/-- .. where only something is said of what comes back -/
theorem runP_post {np : Nat} {s : SM} {post : FR → Prop} (hl : ds.length = np) (hg : start0 n ds = g) (k : ap (fun o => ∃ fr, finK o = some fr ∧ post fr) (s g) = True) : ∃ fr, runP n np s ds = some fr ∧ post fr := by
  have h : ∃ fr, finK (s g) = some fr ∧ post fr := by
    have h1 : (∃ fr, finK (s g) = some fr ∧ post fr) = True := k
    rw [h1]
    trivial
  obtain ⟨fr, h1, h2⟩ := h
  exact ⟨fr, runP_ap hl hg h1, h2⟩
theorem end_post {post : FR → Prop} {o : Option (Fl × G)} {fr : FR} (h : finK o = some fr) (h2 : post fr) : ap (fun o => ∃ fr, finK o = some fr ∧ post fr) o = True := eq_true ⟨fr, h, h2⟩
/-- loops -/
theorem for_none {mi : MI} {tg : TD} {L : List D} (h1 : mi g = some (L, none, g1)) (hg : g1.take n = g2) {o : Option (Fl × G)} (h2 : forL tg st L g2 = o) : zFor n mi tg st g = o := by
  unfold zFor; simp only [h1, hg, h2, Option.bind_eq_bind, Option.bind_some]
theorem mi_R1 {k : Int} (h1 : mr g = some ([.dat (.int k)], g1)) (h2 : rgOk k = true) : ziR1 mr g = some (rgD 0 k.toNat, none, g1) := by
  unfold ziR1; simp only [h1, h2, Option.bind_eq_bind, Option.bind_some, if_true]
theorem mi_R2 {k l : Int} (h1 : mr g = some ([.dat (.int k), .dat (.int l)], g1)) (h2 : (rgOk k && rgOk l) = true) : ziR2 mr g = some (rgD k (l - k).toNat, none, g1) := by
  unfold ziR2; simp only [h1, h2, Option.bind_eq_bind, Option.bind_some, if_true]
theorem mi_Lb {L : List D} {p l : Bool} (h1 : m g = some (.bor j, g1)) (hj : j < n) (h2 : g1[j]? = some (.own (.lst L) p l)) : ziL n m g = some (L, some j, g1) := by
  unfold ziL; simp only [h1, ziB, if_pos hj, h2, Option.bind_eq_bind, Option.bind_some]
/-- a loop by an invariant that only says something of the slots -/
theorem forL_inv {tg : TD} : ∀ {L : List D} (I : Nat → G → Prop) (k : Nat) (g : G), I k g → (∀ i d g, L[i]? = some d → I (k + i) g → ∃ g1 g2, tg d g = some g1 ∧ (st g1 = some (.nx, g2) ∨ st g1 = some (.ct, g2)) ∧ I (k + i + 1) g2) → ∃ g2, forL tg st L g = some (.nx, g2) ∧ I (k + L.length) g2
  | [], I, k, g, h0, _ => ⟨g, rfl, h0⟩
  | d :: L, I, k, g, h0, h => by
    obtain ⟨g1, g2, h1, h2, h3⟩ := h 0 d g rfl h0
    obtain ⟨g3, e3, i3⟩ := forL_inv (L := L) I (k + 1) g2 h3 fun i d' g' hd hi => by
      have := h (i + 1) d' g' (by simpa using hd) (by rw [show k + (i + 1) = k + 1 + i by omega]; exact hi)
      rw [show k + (i + 1) = k + 1 + i by omega] at this
      exact this
    refine ⟨g3, ?_, by rw [show k + (d :: L).length = k + 1 + L.length by simp; omega]; exact i3⟩
    simp only [forL, Option.bind_eq_bind]
    rw [h1]
    simp only [Option.bind_some]
    rcases h2 with h2 | h2
    · rw [h2]; exact e3
    · rw [h2]; exact e3
/-- the size of a number -/
def iabs (i : Int) : Int := if i < 0 then -i else i
theorem dr_div {i j : Int} (h : 0 < j) (h2 : j.natAbs.log2 < 9000) : divD (.int i) (.int j) = some (.int (i / j)) := by
  have h0 : j ≠ 0 := by omega
  simp [divD, divOk, fdivV, h, h0, h2]
theorem dr_divB {i j : Int} (h : 0 < j) (h2 : j < 2 ^ 256) : divD (.int i) (.int j) = some (.int (i / j)) := by
  refine dr_div h (Nat.lt_of_lt_of_le (PySem.Flt.log2_lt_of (k := 256) (by decide) (by omega)) (by decide))
theorem dr_mod {i j : Int} (h : 0 < j) : modD (.int i) (.int j) = some (.int (i % j)) := by
  have h0 : j ≠ 0 := by omega
  simp [modD, fmodV, h, h0]
theorem dr_mulr {i j : Int} (h : decide (j.natAbs < 2 ^ 64) = true) : mulD (.int i) (.int j) = some (.int (i * j)) := by
  simp only [mulD, mulOk, h, Bool.or_true, Bool.true_or, if_true]
theorem dr_mull {i j : Int} (h : decide (i.natAbs < 2 ^ 64) = true) : mulD (.int i) (.int j) = some (.int (i * j)) := by
  simp only [mulD, mulOk, h, Bool.or_true, Bool.true_or, if_true]
theorem dr_mulrB {i j : Int} (h : -(2 ^ 64) < j) (h2 : j < 2 ^ 64) : mulD (.int i) (.int j) = some (.int (i * j)) := dr_mulr (decide_eq_true (by omega))
theorem dr_mullB {i j : Int} (h : -(2 ^ 64) < i) (h2 : i < 2 ^ 64) : mulD (.int i) (.int j) = some (.int (i * j)) := dr_mull (decide_eq_true (by omega))
theorem dr_mulC {i j : Int} (h : -(2 ^ 256) < i) (h2 : i < 2 ^ 256) (h3 : -(2 ^ 256) < j) (h4 : j < 2 ^ 256) : mulD (.int i) (.int j) = some (.int (i * j)) := by
  have a : i.natAbs.log2 < 256 := PySem.Flt.log2_lt_of (by decide) (by omega)
  have b : j.natAbs.log2 < 256 := PySem.Flt.log2_lt_of (by decide) (by omega)
  have c : i.natAbs.log2 + j.natAbs.log2 < 1000000 := by omega
  simp only [mulD, mulOk, decide_eq_true c, Bool.or_true, if_true]
theorem dr_neB {a b : Bool} : neqD (.bl a) (.bl b) = some (.bl (!(a == b))) := rfl
theorem dr_eqB {a b : Bool} : eqD (.bl a) (.bl b) = some (.bl (a == b)) := rfl
theorem dr_abs {i : Int} : absD [.int i] = some (.int (iabs i)) := rfl
theorem dr_eqI {i j : Int} : eqD (.int i) (.int j) = some (.bl (i == j)) := rfl
theorem dr_eqS {a b : List Nat} : eqD (.str a) (.str b) = some (.bl (a == b)) := rfl
theorem dr_neI {i j : Int} : neqD (.int i) (.int j) = some (.bl (!(i == j))) := rfl
theorem dr_neS {a b : List Nat} : neqD (.str a) (.str b) = some (.bl (!(a == b))) := rfl
theorem dr_cat {a b : List Nat} (h : a.length + b.length ≤ sizeLine) : addS (.str a) (.str b) = some (.str (a ++ b)) := by
  simp only [addS, catOk, decide_eq_true h, if_true]
theorem dr_ixS {a : List Nat} {k : Int} {c : Nat} (h : a.length ≤ sizeLine) (h2 : atI a k = some c) : ixD (.str a) k = some (.str [c]) := by
  unfold ixD
  simp only [if_pos h, h2, Option.map_some]
end
theorem rgD_at {lo : Int} {n i : Nat} {d : D} (h : (rgD lo n)[i]? = some d) : i < n ∧ d = .int (lo + (i : Int)) := by
  have hi := (List.getElem?_eq_some_iff.mp h).1
  rw [rgD_len] at hi
  rw [rgD_get hi] at h
  exact ⟨hi, (Option.some.inj h).symm⟩
theorem atI_lt {α : Type} {xs : List α} {k : Int} (h0 : 0 ≤ k) (h1 : k < xs.length) : ∃ x, atI xs k = some x ∧ x ∈ xs := by
  have hk : k.toNat < xs.length := by omega
  refine ⟨xs[k.toNat], ?_, List.getElem_mem hk⟩
  have := atI_nat (xs := xs) (j := k.toNat) (List.getElem?_eq_getElem hk)
  rw [Int.toNat_of_nonneg h0] at this
  exact this
theorem atI_map {α β : Type} {f : α → β} {xs : List α} {k : Int} {x : α} (h : atI xs k = some x) : atI (xs.map f) k = some (f x) := by
  unfold atI at h ⊢
  rw [List.length_map]
  cases e : ixN xs.length k with
  | none => rw [e] at h; cases h
  | some j =>
    rw [e] at h
    show (xs.map f)[j]? = _
    rw [List.getElem?_map, show xs[j]? = some x from h]
    rfl
/-- the cell that k means, taken round -/
theorem round_in {k n : Int} (h0 : 0 ≤ k) (hn : 0 < n) : 0 ≤ k - k / n * n ∧ k - k / n * n < n := by
  have h1 := Int.emod_nonneg k (show n ≠ 0 by omega)
  have h2 := Int.emod_lt_of_pos k hn
  have h3 := Int.emod_add_mul_ediv k n
  have h4 : k / n * n = n * (k / n) := Int.mul_comm _ _
  omega
theorem rgOk_of {k : Int} (h : -(2 ^ 62) ≤ k) (h2 : k < 2 ^ 62) : rgOk k = true := by
  unfold rgOk
  rw [decide_eq_true h, decide_eq_true h2]
  rfl
end Z
set_option Elab.async false
set_option linter.all false
set_option maxRecDepth 100000
set_option maxHeartbeats 4000000
namespace Z
open PySem PySem.Spec PyProof.Rows L2
def tyNm : D → Option String
  | .non => some "NoneType" | .bl _ => some "bool" | .int _ => some "int" | .str _ => some "str" | .lst _ => some "list" | .tup _ => some "tuple" | .raw _ => none | .dic _ _ => none
theorem tyNm_ok {K : PySem.W.Frag} {H : Hp} {v : V} {d : D} {t : String} (h : Dz K H v d) (e : tyNm d = some t) : TyX K H v (.type t) := by
  cases h with
  | non => cases e; exact .base .non
  | bl b => cases e; exact .base (.bl b)
  | int i => cases e; exact .base (.int i)
  | str s => cases e; exact .base (.str _)
  | lst hs ha =>
    cases e
    rcases hs with (hs | ⟨o, hs⟩) | ⟨o, its, n, h1, h2, _⟩
    · exact .base (.lst hs)
    · exact .base (.frz hs)
    · exact .kList h1 h2
  | tup hs ha =>
    cases e
    rcases hs with (hs | ⟨o, hs⟩) | ⟨o, its, n, h1, h2, _⟩
    · exact .base (.tup hs)
    · exact .fTuple hs
    · exact .kTuple h1 h2
  | raw v => cases e
  | dic _ _ _ => cases e
def isiD : List D → Option D
  | [d, .raw (.ty n)] => do
    let t ← tyNm d
    let b ← kitB t n
    some (.bl b)
  | _ => none
theorem call_isiU {X : Cx} : CallR X (.builtin "isinstance") (rIsi X.K) := call_isi
theorem s_isi {K : PySem.W.Frag} : CallS K (rIsi K) isiD := by
  intro H vs ds z Q hz e q
  unfold isiD at e
  split at e
  · rename_i d n
    simp only [Option.bind_eq_bind, Option.bind_eq_some_iff] at e
    obtain ⟨t, h1, b, h2, e⟩ := e
    cases e
    cases hz with
    | cons h r =>
      cases r with
      | cons h3 r =>
        cases r
        cases h3
        exact ⟨_, .ty n, .type t, .type n, b, rfl, .ty n, tyNm_ok h h1, kit_ty h2, q⟩
  · cases e
theorem isi_of {d : D} {t n : String} {b : Bool} (h : tyNm d = some t) (h2 : kitB t n = some b) : isiD [d, .raw (.ty n)] = some (.bl b) := by
  simp only [isiD, h, h2, Option.bind_eq_bind, Option.bind_some]
theorem kb_int_int : kitB "int" "int" = some true := by decide +kernel
theorem kb_int_bool : kitB "int" "bool" = some false := by decide +kernel
theorem kb_bool_bool : kitB "bool" "bool" = some true := by decide +kernel
theorem kb_bool_int : kitB "bool" "int" = some true := by decide +kernel
theorem kb_str_int : kitB "str" "int" = some false := by decide +kernel
theorem kb_str_bool : kitB "str" "bool" = some false := by decide +kernel
theorem kb_str_str : kitB "str" "str" = some true := by decide +kernel
theorem kb_int_str : kitB "int" "str" = some false := by decide +kernel
theorem kb_bool_str : kitB "bool" "str" = some false := by decide +kernel
theorem kb_non_int : kitB "NoneType" "int" = some false := by decide +kernel
theorem kb_non_bool : kitB "NoneType" "bool" = some false := by decide +kernel
theorem kb_non_str : kitB "NoneType" "str" = some false := by decide +kernel
theorem kb_list_list : kitB "list" "list" = some true := by decide +kernel
theorem kb_tuple_tuple : kitB "tuple" "tuple" = some true := by decide +kernel
theorem kb_list_tuple : kitB "list" "tuple" = some false := by decide +kernel
theorem kb_tuple_list : kitB "tuple" "list" = some false := by decide +kernel
end Z
set_option Elab.async false
set_option linter.all false
set_option maxRecDepth 100000
set_option maxHeartbeats 4000000
namespace Z
open PySem PySem.Spec PyProof.Rows L2
def absP : Value → Option D
  | .none => some .non
  | .bool b => some (.bl b)
  | .int i _ => some (.int i)
  | .str x _ => some (.str x.cps.toList)
  | _ => none
def absPs : List Value → Option (List D)
  | [] => some []
  | u :: us => do
    let d ← absP u
    let ds ← absPs us
    some (d :: ds)
theorem absP_ok {u : Value} {d : D} (h : absP u = some d) : ∃ v, RelV v u ∧ ∀ (K : PySem.W.Frag) (H : Hp), Dz K H v d := by
  cases u with
  | none => cases h; exact ⟨.non, rfl, fun _ _ => .non⟩
  | bool b => cases h; exact ⟨.bl b, rfl, fun _ _ => .bl b⟩
  | int i t => cases h; exact ⟨.int i, ⟨t, rfl⟩, fun _ _ => .int i⟩
  | str x t =>
    cases h
    refine ⟨.str x, ⟨t, rfl⟩, fun K H => ?_⟩
    have : x = ⟨x.cps.toList.toArray⟩ := by cases x; simp
    conv => arg 3; rw [this]
    exact .str _
  | _ => cases h
theorem absPs_ok : ∀ {us : List Value} {ds : List D}, absPs us = some ds → ∃ vs, Vals vs us ∧ ∀ (K : PySem.W.Frag) (H : Hp), DzA K H vs ds
  | [], ds, h => by cases h; exact ⟨[], .nil, fun _ _ => .nil⟩
  | u :: us, ds, h => by
    unfold absPs at h
    simp only [Option.bind_eq_bind, Option.bind_eq_some_iff] at h
    obtain ⟨d, h1, ds', h2, h⟩ := h
    cases h
    obtain ⟨v, r, z⟩ := absP_ok h1
    obtain ⟨vs, rs, zs⟩ := absPs_ok h2
    exact ⟨v :: vs, .cons r rs, fun K H => .cons (z K H) (zs K H)⟩
section
variable {K : PySem.W.Frag} {h : Heap} {mg : Str → Option Value} {x : Str}
def ConstD (K : PySem.W.Frag) (mg : Str → Option Value) (x : Str) (d : D) : Prop := ∃ v, ConstAt K mg x v d
theorem constT {a : Addr} {dd : Option Addr} {its : Array Value} {n : Nat} {sl : Array (Option Value)} {ds : List D} (X : K.In h) (G : h.Ns mainGlobals mg) (e : PySem.W.nsIn K mainGlobals x = some (some (.ref a))) (l : K.lookup a = some ⟨.type "tuple", dd, .seq its n, sl⟩) (hd : absPs its.toList = some ds) (hz : Nat.ble its.size 1000 = true) : ConstD K mg x (.tup ds) := by
  obtain ⟨vs, r, z⟩ := absPs_ok hd
  refine ⟨.ref a, ⟨_, PySem.W.mg_of X G e, rfl⟩, fun H => .tup (.inr ⟨_, its, n, l, rfl, rfl, Nat.le_trans (Nat.le_of_ble_eq_true hz) (by decide), r⟩) (z K H)⟩
theorem ze_cd {X : Cx} {pos : Pos} {x : Str} {d : D} (h : ConstD X.K X.mg x d) (hg : Gl X x := by rfl) (hdb : (x == ("__debug__" : Str)) = false := by decide) : ZE X (.Name x pos) (zC d) := by
  obtain ⟨v, h⟩ := h
  exact ze_gc h hg hdb
end
def inL (x : D) (l : List D) : Bool := l.any fun y => D.eqv y x
def inB (x y : D) : Option Bool := match y with
  | .lst l => if (x.pl && l.all D.pl) = true then some (inL x l) else if (x.shp && (D.lst l).shp) = true then some (inL x l) else none
  | .tup l => if (x.pl && l.all D.pl) = true then some (inL x l) else if (x.shp && (D.tup l).shp) = true then some (inL x l) else none
  | .str t => match x with
    | .str [c] => some (decide (c ∈ t))
    | _ => none
  | _ => none
def inD (x y : D) : Option D := (inB x y).map D.bl
def rInT (K : PySem.W.Frag) (neg : Bool) : R2 := fun x y H Q => ∃ d ds, Dp K H x d ∧ Dp K H y (.tuple ds) ∧ SeqAt.shaped d = true ∧ SeqAt.shaped (.tuple ds) = true ∧ Q (.bl (if neg then !(ds.any fun z => PyData.eqv z d) else ds.any fun z => PyData.eqv z d)) H
theorem op_inT {X : Cx} (hu : X.A.units + 65 < cLine) : OpR X (compareOp .In) (rInT X.K false) := by
  intro pins s σ H x y v u Q I rx ry h
  obtain ⟨d, ds, hd, he, sd, se, q⟩ := h
  obtain ⟨as, r1⟩ := Dp.reads I d x v hd rx
  obtain ⟨bs, r2⟩ := Dp.reads I (.tuple ds) y u he ry
  exact SeqAt.in_tuple_reads r2 r1 (SeqAt.canLay_of_shaped se) (SeqAt.canLay_of_shaped sd) (room_in_shaped sd hu) ⟨.bl _, H, I, rfl, q⟩
def rInU (K : PySem.W.Frag) : R2 := fun x y H Q => rIn K false x y H Q ∨ rInD K x y H Q ∨ rInT K false x y H Q ∨ (∃ (c : Nat) (z : Str), x = .str ⟨#[c]⟩ ∧ y = .str z ∧ Q (.bl (decide (c ∈ z.cps.toList))) H)
theorem o_in {X : Cx} {k : Nat} (hr : Room k X.A) : OpR X (compareOp .In) (rInU X.K) := OpR.or op_in_seq (OpR.or (op_inD (by have := hr.un; omega)) (OpR.or (op_inT (by have := hr.un; omega)) op_in_sign))
theorem eqV_eqv {K : PySem.W.Frag} {H : Hp} {v w : V} {d e : D} (h : Dz K H v d) (h' : Dz K H w e) (p : d.pl = true) (q : e.pl = true) : eqV v w = D.eqv d e := by
  cases h <;> cases h' <;> simp [D.pl] at p q <;> simp [eqV, D.eqv, str_beq]
theorem flat_pl {K : PySem.W.Frag} {H : Hp} {v : V} {d : D} (h : Dz K H v d) (p : d.pl = true) : flatV v = true := by
  cases h <;> simp [D.pl] at p <;> rfl
theorem flats_pl {K : PySem.W.Frag} {H : Hp} : ∀ {vs : List V} {ds : List D}, DzA K H vs ds → ds.all D.pl = true → vs.all flatV = true
  | _, _, .nil, _ => rfl
  | _, _, .cons h t, p => by
    rw [List.all_cons, Bool.and_eq_true] at p
    rw [List.all_cons, flat_pl h p.1, flats_pl t p.2]
    rfl
theorem inV_inL {K : PySem.W.Frag} {H : Hp} {v : V} {d : D} (h : Dz K H v d) (p : d.pl = true) : ∀ {vs : List V} {ds : List D}, DzA K H vs ds → ds.all D.pl = true → inV v vs = inL d ds
  | _, _, .nil, _ => rfl
  | _, _, .cons h2 t, q => by
    rw [List.all_cons, Bool.and_eq_true] at q
    unfold inV inL
    rw [List.any_cons, List.any_cons, eqV_eqv h2 h q.1 p]
    have := inV_inL h p t q.2
    unfold inV inL at this
    rw [this]
theorem pyA_map : ∀ l : List D, D.pyA l = l.map D.py
  | [] => rfl
  | d :: l => by rw [D.pyA, List.map_cons, pyA_map l]
theorem shp_lay {d : D} (h : d.shp = true) : d.py.canLay0 = true := SeqAt.canLay_of_shaped h
theorem s_in {K : PySem.W.Frag} : OpS K (rInU K) inD := by
  intro H x y d e z Q hx hy e1 q
  unfold inD at e1
  rw [Option.map_eq_some_iff] at e1
  obtain ⟨b, e1, rfl⟩ := e1
  have deep : ∀ {l : List D}, d.shp = true → (D.lst l).shp = true → Dz K H y (.lst l) → b = inL d l → rInD K x y H Q := fun {l} p1 p2 hy eb => by
    have hl : Dp K H y (PyData.list (D.pyA l)) := Dz.dp hy (shp_lay p2)
    refine ⟨d.py, D.pyA l, Dz.dp hx (shp_lay p1), hl, p1, p2, ?_⟩
    rw [pyA_map, List.any_map]
    have : ((fun z => PyData.eqv z d.py) ∘ D.py) = fun y => D.eqv y d := by funext y; exact D.py_eqv y d
    rw [this]
    rw [eb] at q
    exact q
  have deepT : ∀ {l : List D}, d.shp = true → (D.tup l).shp = true → Dz K H y (.tup l) → b = inL d l → rInT K false x y H Q := fun {l} p1 p2 hy eb => by
    have hl : Dp K H y (PyData.tuple (D.pyA l)) := Dz.dp hy (shp_lay p2)
    refine ⟨d.py, D.pyA l, Dz.dp hx (shp_lay p1), hl, p1, p2, ?_⟩
    rw [if_neg Bool.false_ne_true, pyA_map, List.any_map]
    have : ((fun z => PyData.eqv z d.py) ∘ D.py) = fun y => D.eqv y d := by funext y; exact D.py_eqv y d
    rw [this]
    rw [eb] at q
    exact q
  cases e with
  | lst l =>
    simp only [inB] at e1
    split at e1
    · rename_i hp
      cases e1
      rw [Bool.and_eq_true] at hp
      cases hy with
      | lst hs ha => exact .inl ⟨_, _, rfl, .inl hs, flat_pl hx hp.1, flats_pl ha hp.2, by rw [if_neg Bool.false_ne_true, inV_inL hx hp.1 ha hp.2]; exact q⟩
    · split at e1
      · rename_i hp
        cases e1
        rw [Bool.and_eq_true] at hp
        exact .inr (.inl (deep hp.1 hp.2 hy rfl))
      · cases e1
  | tup l =>
    simp only [inB] at e1
    split at e1
    · rename_i hp
      cases e1
      rw [Bool.and_eq_true] at hp
      cases hy with
      | tup hs ha => exact .inl ⟨_, _, rfl, .inr hs, flat_pl hx hp.1, flats_pl ha hp.2, by rw [if_neg Bool.false_ne_true, inV_inL hx hp.1 ha hp.2]; exact q⟩
    · split at e1
      · rename_i hp
        cases e1
        rw [Bool.and_eq_true] at hp
        exact .inr (.inr (.inl (deepT hp.1 hp.2 hy rfl)))
      · cases e1
  | str t =>
    simp only [inB] at e1
    split at e1
    · rename_i c
      cases e1
      cases hx
      cases hy
      exact .inr (.inr (.inr ⟨c, _, rfl, rfl, q⟩))
    · cases e1
  | _ => cases e1
/-- the items of a list or a tuple -/
def seqD : D → Option (List D)
  | .lst l => some l
  | .tup l => some l
  | _ => none
def z_list (ma : ZAr) : ZM := fun g => do
  let (rs, g1) ← ma g
  match rs with
  | [r] => do
    let d ← rd g1 r
    let l ← seqD d
    some (.bor g1.length, g1 ++ [.own (.lst l) false false])
  | _ => none
def z_tuple (ma : ZAr) : ZM := fun g => do
  let (rs, g1) ← ma g
  match rs with
  | [r] => do
    let d ← rd g1 r
    match d with
    | .lst l => some (.dat (.tup l), g1)
    | .tup l => match r with
      | .dat _ => some (.dat (.tup l), g1)
      | _ => none
    | _ => none
  | _ => none
section
variable {X : Cx} {pos : Pos} {a b : Expr} {ma mb : ZM} {mr : ZAr} {es : List Expr}
theorem ze_list {x : Str} {p : Pos} {k : Nat} (hr : Room k X.A) (hg : Gl X x) (hm : X.mg x = none) (ha : ZAs X (a :: es) mr) (hv : bootBuiltins x = some (.type "list") := by decide +kernel)
    (hn : x ≠ "__name__" := by decide) (hdb : (x == ("__debug__" : Str)) = false := by decide) (he : starEach (a :: es) X.env = (false, eval a X.env) :: starEach es X.env := by rfl) (hpl : (backTo pos (starEach es X.env)).any (·.1) = false := by rfl) :
    ZE X (.Call (.Name x p) (a :: es) [] pos) (z_list mr) := by
  refine PE.of (pe_callTy call_list_of hg hm hv ha hn hdb he hpl) fun σ H Q ⟨C, Hs, A, g, r, g', hK, hn, ok, e, q⟩ => ?_
  unfold z_list at e
  simp only [Option.bind_eq_bind, Option.bind_eq_some_iff] at e
  obtain ⟨⟨rs, g1⟩, h1, e⟩ := e
  refine ⟨C, Hs, A, g, rs, g1, hK, hn, ok, h1, fun Hs1 A1 vs H1 s1 p1 ok1 rel1 => ?_⟩
  simp only at e
  split at e
  · rename_i r1
    simp only [Option.bind_eq_some_iff] at e
    obtain ⟨d, h2, l, h3, e⟩ := e
    cases e
    obtain ⟨v, rfl, w⟩ := relRs1 rel1
    cases d with
    | lst l' =>
      cases h3
      obtain ⟨a, xs, rfl, y1, y2⟩ := ok1.rdL w h2
      exact ⟨a, xs, rfl, .inl (by rw [← hK]; exact y1), fun p hp => q Hs1 (A1 ++ [p]) _ _ s1 (p1.trans (Pre.app _ _)) (ok1.tmp (o := .lst xs) (c := .lst l) hp y2) (ok1.tmpR p)⟩
    | tup l' =>
      cases h3
      obtain ⟨a, xs, rfl, y1, y2⟩ := ok1.rdT w h2
      exact ⟨a, xs, rfl, .inr (by rw [← hK]; exact sameT ok1.same y1), fun p hp => q Hs1 (A1 ++ [p]) _ _ s1 (p1.trans (Pre.app _ _)) (ok1.tmp (o := .lst xs) (c := .lst l) hp y2) (ok1.tmpR p)⟩
    | _ => cases h3
  · cases e
theorem ze_tuple {x : Str} {p : Pos} {k : Nat} (hr : Room k X.A) (hg : Gl X x) (hm : X.mg x = none) (ha : ZAs X (a :: es) mr) (hv : bootBuiltins x = some (.type "tuple") := by decide +kernel)
    (hn : x ≠ "__name__" := by decide) (hdb : (x == ("__debug__" : Str)) = false := by decide) (he : starEach (a :: es) X.env = (false, eval a X.env) :: starEach es X.env := by rfl) (hpl : (backTo pos (starEach es X.env)).any (·.1) = false := by rfl) :
    ZE X (.Call (.Name x p) (a :: es) [] pos) (z_tuple mr) := by
  refine PE.of (pe_callTy call_tuple_of hg hm hv ha hn hdb he hpl) fun σ H Q ⟨C, Hs, A, g, r, g', hK, hn, ok, e, q⟩ => ?_
  unfold z_tuple at e
  simp only [Option.bind_eq_bind, Option.bind_eq_some_iff] at e
  obtain ⟨⟨rs, g1⟩, h1, e⟩ := e
  refine ⟨C, Hs, A, g, rs, g1, hK, hn, ok, h1, fun Hs1 A1 vs H1 s1 p1 ok1 rel1 => ?_⟩
  simp only at e
  split at e
  · rename_i r1
    simp only [Option.bind_eq_some_iff] at e
    obtain ⟨d, h2, e⟩ := e
    obtain ⟨v, rfl, w⟩ := relRs1 rel1
    split at e
    · cases e
      obtain ⟨a, xs, rfl, y1, y2⟩ := ok1.rdL w h2
      refine ⟨a, xs, rfl, .inl ⟨by rw [← hK]; exact y1, fun p hp => ?_⟩⟩
      obtain ⟨ok3, s3⟩ := ok1.lay (o := .tup xs) hp
      exact q _ A1 (.ref p) _ (s1.trans s3) p1 ok3 (.tup (SqT.of upd_same) (y2.mono s3))
    · split at e
      · cases e
        cases h2
        have w' : Dz C.K Hs1 v (.tup _) := w
        cases w' with
        | tup hs hz =>
          exact ⟨_, _, rfl, .inr ⟨by rw [← hK]; exact sameT ok1.same hs, q Hs1 A1 _ H1 s1 p1 ok1 (.tup hs hz)⟩⟩
      · cases e
    · cases e
  · cases e
abbrev ZO := G → Option (Option Int × G)
def tZO (K : PySem.W.Frag) (n : Nat) (m : ZO) : TO := fun σ H Q => ∃ (C : Ct) (Hs : Hp) (A : List Addr) (g : G) (o : Option Int) (g' : G), C.K = K ∧ C.n = n ∧ Ok C Hs A g σ H ∧ m g = some (o, g') ∧
  ∀ (Hs' : Hp) (A' : List Addr) (H' : Hp), Same Hs Hs' → Pre A A' → Ok C Hs' A' g' σ H' → Q o H'
abbrev ZPo (X : Cx) (e : Option Expr) (m : ZO) : Prop := PO X e (tZO X.K X.N.length m)
theorem PO.of {X : Cx} {e : Option Expr} {t t' : TO} (h : PO X e t) (w : ∀ σ H Q, t' σ H Q → t σ H Q) : PO X e t' := ⟨fun pins s σ H Q I q => h.run pins s σ H Q I (w σ H Q q)⟩
def zoN : ZO := fun g => some (none, g)
def zoS (m : ZM) : ZO := fun g => do
  let (r, g1) ← m g
  let k ← isI r
  some (some k, g1)
theorem zo_none : ZPo X none zoN := PO.of po_none fun σ H Q ⟨C, Hs, A, g, o, g', hK, hn, ok, e, q⟩ => by
  cases e
  exact q Hs A H (Same.refl _) (Pre.refl _) ok
theorem zo_some {e : Expr} {m : ZM} (h : ZE X e m) : ZPo X (some e) (zoS m) := by
  refine PO.of (po_some h) fun σ H Q ⟨C, Hs, A, g, o, g', hK, hn, ok, e, q⟩ => ?_
  unfold zoS at e
  simp only [Option.bind_eq_bind, Option.bind_eq_some_iff] at e
  obtain ⟨⟨r, g1⟩, h1, k, h2, e⟩ := e
  cases e
  have er := isI_some h2
  subst er
  refine ⟨C, Hs, A, g, _, _, hK, hn, ok, h1, fun Hs1 A1 v1 H1 s1 p1 ok1 rel1 => ?_⟩
  have ev : v1 = .int k := (show Dz C.K Hs1 v1 (.int k) from rel1).v rfl
  exact ⟨k, ev, q Hs1 A1 H1 s1 p1 ok1⟩
/-- the part of a list -/
def cutL {α : Type} (xs : List α) (lo hi : Option Int) : List α := (xs.drop (HT.sIx xs.length 0 lo)).take (HT.sIx xs.length xs.length hi - HT.sIx xs.length 0 lo)
theorem cutL_dz {K : PySem.W.Frag} {H : Hp} {vs : List V} {ds : List D} (h : DzA K H vs ds) (lo hi : Option Int) : DzA K H (cutV vs lo hi) (cutL ds lo hi) := by
  unfold cutV cutL
  rw [h.length]
  exact (h.drop _).take _
theorem cutL_whole {vs : List V} {ds : List D} {lo hi : Option Int} (hl : vs.length = ds.length) (e1 : HT.sIx vs.length 0 lo = 0) (e2 : HT.sIx vs.length vs.length hi = vs.length) : cutL ds lo hi = ds := by
  unfold cutL
  rw [← hl, e1, e2, hl]
  simp
def zSl (ma : ZM) (ml mh : ZO) : ZM := fun g => do
  let (r, g1) ← ma g
  let (lo, g2) ← ml g1
  let (hi, g3) ← mh g2
  let d ← rd g3 r
  match d with
  | .lst l => some (.bor g3.length, g3 ++ [.own (.lst (cutL l lo hi)) false false])
  | .str t => if t.length ≤ sizeLine then some (.dat (.str (cutL t lo hi)), g3) else none
  | .tup l => match r with
    | .dat _ => some (.dat (.tup (cutL l lo hi)), g3)
    | _ => none
  | _ => none
def rSlU (K : PySem.W.Frag) : V → Option Int → Option Int → Hp → VK → Prop := fun x lo hi H Q => rSlL K x lo hi H Q ∨ rSlS x lo hi H Q ∨ rSlA K x lo hi H Q
theorem sl_U : SlR X (rSlU X.K) := SlR.or sl_list (SlR.or sl_str sl_tupA)
theorem cutS_codes (t : List Nat) (lo hi : Option Int) : cutS ⟨t.toArray⟩ lo hi = ⟨(cutL t lo hi).toArray⟩ := by
  unfold cutS cutL
  simp [Str.length]
theorem ze_sl {lo hi : Option Expr} {p2 : Pos} {ml mh : ZO} (ha : ZE X a ma) (hl : ZPo X lo ml) (hh : ZPo X hi mh) : ZE X (.Subscript a (.Slice lo hi none p2) pos) (zSl ma ml mh) := by
  refine PE.of (pe_slice sl_U ha hl hh) fun σ H Q ⟨C, Hs, A, g, r, g', hK, hn, ok, e, q⟩ => ?_
  unfold zSl at e
  simp only [Option.bind_eq_bind, Option.bind_eq_some_iff] at e
  obtain ⟨⟨r1, g1⟩, h1, ⟨lo', g2⟩, h2, ⟨hi', g3⟩, h3, d, h4, e⟩ := e
  refine ⟨C, Hs, A, g, r1, g1, hK, hn, ok, h1, fun Hs1 A1 v1 H1 s1 p1 ok1 rel1 => ?_⟩
  refine ⟨C, Hs1, A1, g1, lo', g2, hK, hn, ok1, h2, fun Hs2 A2 H2 s2 p2 ok2 => ?_⟩
  refine ⟨C, Hs2, A2, g2, hi', g3, hK, hn, ok2, h3, fun Hs3 A3 H3 s3 p3 ok3 => ?_⟩
  have rel3 := rel1.mono (s2.trans s3) (p2.trans p3)
  have S := (s1.trans s2).trans s3
  have PP := (p1.trans p2).trans p3
  dsimp only at e h4
  split at e
  · cases e
    obtain ⟨a, xs, rfl, y1, y2⟩ := ok3.rdL rel3 h4
    exact .inl ⟨a, xs, rfl, by rw [← hK]; exact y1, fun p hp => q Hs3 (A3 ++ [p]) _ _ S (PP.trans (Pre.app _ _)) (ok3.tmp (o := .lst (cutV xs lo' hi')) (c := .lst (cutL _ lo' hi')) hp (cutL_dz y2 lo' hi')) (ok3.tmpR p)⟩
  · split at e
    · rename_i hz
      cases e
      have hd := ok3.rd rel3 h4
      cases hd
      exact .inr (.inl ⟨_, rfl, by simpa [Str.length] using hz, by rw [cutS_codes]; exact q Hs3 A3 _ H3 S PP ok3 (.str _)⟩)
    · cases e
  · split at e
    · cases e
      cases h4
      have w' : Dz C.K Hs3 v1 (.tup _) := rel3
      cases w' with
      | tup hs hz =>
        rename_i a xs
        refine .inr (.inr ⟨a, xs, rfl, by rw [← hK]; exact sameT ok3.same hs, fun ee => ?_, fun _ p hp => ?_⟩)
        · obtain ⟨e1, e2⟩ := ee
          refine q Hs3 A3 _ H3 S PP ok3 (.tup hs ?_)
          have : cutL _ lo' hi' = _ := cutL_whole hz.length e1 e2
          rw [this]
          exact hz
        · obtain ⟨ok4, s4⟩ := ok3.lay (o := .tup (cutV xs lo' hi')) hp
          exact q _ A3 (.ref p) _ (S.trans s4) PP ok4 (.tup (SqT.of upd_same) ((cutL_dz hz lo' hi').mono s4))
    · cases e
  · cases e
end
end Z
set_option Elab.async false
set_option linter.all false
set_option maxRecDepth 100000
set_option maxHeartbeats 4000000
namespace Z
open PySem PySem.Spec PyProof.Rows L2
section
variable {g g1 g2 g3 : G} {r r1 r2 : R} {d e z : D} {ma mb mc m : ZM} {mr : ZAr} {rs : List R} {ds : List D} {b b1 b2 : Bool} {n i j : Nat}
theorem asg_run {tg : TD} (h1 : m g = some (.dat d, g1)) (h2 : tg d g1 = some g2) (hg : g2.take n = g3) : zAsg n m tg g = some (.nx, g3) := by
  unfold zAsg; simp only [h1, frzR, h2, hg, Option.bind_eq_bind, Option.bind_some]
theorem aug_run {f : D → D → Option D} (h0 : zVar i g = some (.dat d, g)) (hs : d.scal = true) (h1 : m g = some (r, g1)) (h2 : rd g1 r = some e) (h3 : f d e = some z) (hz : z.scal = true) (hf : freeAt i g1 = true) (hg : (g1.set i (.dat z)).take n = g2) : zAug n i f m g = some (.nx, g2) := by
  have h00 : rd g (.dat d) = some d := rfl
  have h4 : setDat i z g1 = some (g1.set i (.dat z)) := by unfold setDat; rw [if_pos hf]
  unfold zAug
  simp only [h0, h00, hs, h1, h2, h3, hz, h4, hg, Option.bind_eq_bind, Option.bind_some, if_true]
theorem sto_run {k : Int} {q : Nat} {p : Bool} (h1 : mc g = some (.dat d, g1)) (h2 : ma g1 = some (.bor j, g2)) (h3 : mb g2 = some (.dat (.int k), g3)) (h4 : g3[j]? = some (.own (.lst ds) p false)) (h5 : ixN ds.length k = some q) {g4 : G} (hg : (g3.set j (.own (.lst (ds.set q d)) p false)).take n = g4) : zSto n ma mb mc g = some (.nx, g4) := by
  unfold zSto; simp only [h1, h2, h3, h4, h5, hg, frzR, isI, Option.bind_eq_bind, Option.bind_some]
theorem er_list {l : List D} (h1 : mr g = some ([r], g1)) (h2 : rd g1 r = some d) (h3 : seqD d = some l) : z_list mr g = some (.bor g1.length, g1 ++ [.own (.lst l) false false]) := by
  unfold z_list; simp only [h1, h2, h3, Option.bind_eq_bind, Option.bind_some]
theorem er_tupL {l : List D} (h1 : mr g = some ([r], g1)) (h2 : rd g1 r = some (.lst l)) : z_tuple mr g = some (.dat (.tup l), g1) := by
  unfold z_tuple; simp only [h1, h2, Option.bind_eq_bind, Option.bind_some]
theorem er_zoN : zoN g = some (none, g) := rfl
theorem er_zoS {k : Int} (h : m g = some (.dat (.int k), g1)) : zoS m g = some (some k, g1) := by
  unfold zoS; simp only [h, isI, Option.bind_eq_bind, Option.bind_some]
theorem er_slS {ml mh : ZO} {lo hi : Option Int} {t : List Nat} (h1 : ma g = some (r, g1)) (h2 : ml g1 = some (lo, g2)) (h3 : mh g2 = some (hi, g3)) (h4 : rd g3 r = some (.str t)) (hz : t.length ≤ sizeLine) : zSl ma ml mh g = some (.dat (.str (cutL t lo hi)), g3) := by
  unfold zSl; simp only [h1, h2, h3, h4, if_pos hz, Option.bind_eq_bind, Option.bind_some]
theorem er_slL {ml mh : ZO} {lo hi : Option Int} {l : List D} (h1 : ma g = some (r, g1)) (h2 : ml g1 = some (lo, g2)) (h3 : mh g2 = some (hi, g3)) (h4 : rd g3 r = some (.lst l)) : zSl ma ml mh g = some (.bor g3.length, g3 ++ [.own (.lst (cutL l lo hi)) false false]) := by
  unfold zSl; simp only [h1, h2, h3, h4, Option.bind_eq_bind, Option.bind_some]
theorem er_C : zC d g = some (.dat d, g) := rfl
theorem er_nil : zNil g = some ([], g) := rfl
theorem er_varD (h : g[i]? = some (.dat d)) : zVar i g = some (.dat d, g) := by unfold zVar; rw [h]
theorem er_varO {c : Cn} {p l : Bool} (h : g[i]? = some (.own c p l)) : zVar i g = some (.bor i, g) := by unfold zVar; rw [h]
theorem er_varF (h : g[i]? = some (.frz d)) : zVar i g = some (.dat d, g) := by unfold zVar; rw [h]
theorem mi_T {L : List D} (h1 : m g = some (.dat (.tup L), g1)) : ziT m g = some (L, none, g1) := by
  unfold ziT; simp only [h1, Option.bind_eq_bind, Option.bind_some]
end
end Z
set_option Elab.async false
set_option linter.all false
set_option maxRecDepth 100000
set_option maxHeartbeats 4000000
namespace Z
open PySem PySem.Spec PyProof.Rows L2
def FR.scal : FR → Bool
  | .dat d => d.scal
  | .new c => c.scal
def noB (j : Nat) : R → Bool
  | .bor i => i != j
  | .dat _ => true
/-- what comes back, put by -/
def putFR (fr : FR) (g : G) : R × G := match fr with
  | .dat d => (.dat d, g)
  | .new c => (.bor g.length, g ++ [.own c false false])
def zCallM (kk : Nat) (f : Cn → List D → Option (FR × Cn)) (ma : ZAr) : ZM := fun g => do
  let (rs, g1) ← ma g
  match rs[kk]? with
  | some (.bor j) => match g1[j]? with
    | some (.own c p false) =>
      if (rs.eraseIdx kk).all (noB j) = true then do
        let ds ← rdAll g1 (rs.eraseIdx kk)
        let (fr, c') ← f c ds
        if (c'.scal && fr.scal) = true then some (putFR fr (g1.set j (.own c' p false))) else do
          let (ds2, g2) ← frzAll (rs.eraseIdx kk) g1
          match g2[j]? with
          | some (.own c2 p2 false) => do
            let (fr2, c2') ← f c2 ds2
            some (putFR fr2 (g2.set j (.own c2' p2 false)))
          | _ => none
      else none
    | _ => none
  | _ => none
theorem RelRs.get {K : PySem.W.Frag} {Hs : Hp} {A : List Addr} : ∀ {vs : List V} {rs : List R} {i : Nat} {r : R}, RelRs K Hs A vs rs → rs[i]? = some r → ∃ v, vs[i]? = some v ∧ RelR K Hs A v r
  | [], [], _, _, _, e => by simp at e
  | v :: vs, r :: rs, 0, _, h, e => by simp at e; subst e; exact ⟨v, rfl, h.1⟩
  | v :: vs, r :: rs, i + 1, _, h, e => by
    obtain ⟨x, h1, h2⟩ := RelRs.get (i := i) h.2 (by simpa using e)
    exact ⟨x, by simpa using h1, h2⟩
  | [], _ :: _, _, _, h, _ => h.elim
  | _ :: _, [], _, _, h, _ => h.elim
end Z
set_option Elab.async false
set_option linter.all false
set_option maxRecDepth 100000
set_option maxHeartbeats 4000000
namespace Z
open PySem PySem.Spec PyProof.Rows L2
theorem wipe_get (σ : L2.St) : ∀ (vs : List Nat) (i : Nat), (wipe σ vs)[i]? = if i ∈ vs ∧ i < σ.length then some none else σ[i]?
  | [], i => by simp [wipe]
  | v :: vs, i => by
    unfold wipe
    by_cases h : i = v
    · subst h
      by_cases hl : i < σ.length
      · rw [List.getElem?_set_self (by rw [wipe_length]; exact hl), if_pos ⟨List.mem_cons_self, hl⟩]
      · rw [List.getElem?_eq_none (by rw [List.length_set, wipe_length]; omega), if_neg (by omega), List.getElem?_eq_none (by omega)]
    · rw [List.getElem?_set_ne (Ne.symm h), wipe_get σ vs i]
      have : (i ∈ v :: vs) ↔ i ∈ vs := by simp [h]
      simp only [this]
theorem wipe_set {σ : L2.St} {vs : List Nat} {i : Nat} {x : Option V} (h : i ∈ vs) : wipe (σ.set i x) vs = wipe σ vs := by
  refine List.ext_getElem? fun j => ?_
  rw [wipe_get, wipe_get, List.length_set]
  by_cases hj : j ∈ vs ∧ j < σ.length
  · rw [if_pos hj, if_pos hj]
  · rw [if_neg hj, if_neg hj]
    by_cases e : i = j
    · subst e
      have : ¬ i < σ.length := fun z => hj ⟨h, z⟩
      rw [List.getElem?_eq_none (by rw [List.length_set]; omega), List.getElem?_eq_none (by omega)]
    · rw [List.getElem?_set_ne e]
theorem wipe_out {σ : L2.St} {vs : List Nat} {i : Nat} (h : i ∉ vs) : (wipe σ vs)[i]? = σ[i]? := by rw [wipe_get, if_neg (fun z => h z.1)]
def wipeG (g : G) : List Nat → G
  | [] => g
  | v :: vs => (wipeG g vs).set v .un
theorem wipeG_len (g : G) : ∀ vs : List Nat, (wipeG g vs).length = g.length
  | [] => rfl
  | v :: vs => by unfold wipeG; rw [List.length_set, wipeG_len g vs]
theorem wipeG_some {g : G} : ∀ {vs : List Nat} {i : Nat} {s : Sl}, (wipeG g vs)[i]? = some s → s = .un ∨ (i ∉ vs ∧ g[i]? = some s)
  | [], i, s, h => .inr ⟨by simp, h⟩
  | v :: vs, i, s, h => by
    unfold wipeG at h
    rcases set_some h with ⟨_, e, _⟩ | ⟨ne, h⟩
    · exact .inl e
    · rcases wipeG_some h with e | ⟨e1, e2⟩
      · exact .inl e
      · exact .inr ⟨by simp [ne, e1], e2⟩
theorem wipeG_out {g : G} : ∀ {vs : List Nat} {i : Nat}, i ∉ vs → (wipeG g vs)[i]? = g[i]?
  | [], i, _ => rfl
  | v :: vs, i, h => by
    unfold wipeG
    simp only [List.mem_cons, not_or] at h
    rw [List.getElem?_set_ne (Ne.symm h.1), wipeG_out h.2]
def freeAll (g : G) (vs : List Nat) : Bool := vs.all fun v => freeAt v g
theorem freeAll_at {g : G} {vs : List Nat} (h : freeAll g vs = true) {v : Nat} (hv : v ∈ vs) : freeAt v g = true := List.all_eq_true.mp h v hv
/-- slots forgotten; σ may change there -/
theorem Ok.puts {C : Ct} {Hs : Hp} {A : List Addr} {g : G} {σ σ' : L2.St} {H : Hp} {vs : List Nat} (ok : Ok C Hs A g σ H) (hf : freeAll g vs = true) (hl : σ'.length = σ.length) (hσ : ∀ i, i ∉ vs → σ'[i]? = σ[i]?) : Ok C Hs A (wipeG g vs) σ' H := by
  have no : ∀ {i : Nat} {c : Cn} {p l : Bool}, (wipeG g vs)[i]? = some (.own c p l) → i ∉ vs ∧ g[i]? = some (.own c p l) := fun {i c p l} e => by
    rcases wipeG_some e with z | z
    · cases z
    · exact z
  refine ⟨hl.trans ok.ln, by rw [wipeG_len]; exact ok.lg, by rw [wipeG_len]; exact ok.la, ok.base, ok.same, fun i d e => ?_, fun i d e => ?_, fun i c p l e => ?_, fun i k c1 p1 l1 c2 p2 l2 a' e1 e2 h1 h2 => ok.inj i k _ _ _ _ _ _ a' (no e1).2 (no e2).2 h1 h2, ok.grow, ok.keep, fun q hq => ?_, fun i c' l a' e ha => ok.pin1 i c' l a' (no e).2 ha, fun q hq => ?_⟩
  · rcases wipeG_some e with z | ⟨z1, z2⟩
    · cases z
    · rw [hσ i z1]; exact ok.dat i d z2
  · rcases wipeG_some e with z | ⟨z1, z2⟩
    · cases z
    · rw [hσ i z1]; exact ok.frz i d z2
  · obtain ⟨z1, z2⟩ := no e
    rw [hσ i z1]; exact ok.own i c p l z2
  · obtain ⟨c', l, h1, h2⟩ := ok.pinned q hq
    refine ⟨c', l, ?_, h2⟩
    rw [wipeG_out (fun z => freeAt_pin (freeAll_at hf z) h1)]
    exact h1
  · obtain ⟨p, h1, h2⟩ := ok.locked q hq
    refine ⟨p, ?_, h2⟩
    rw [wipeG_out (fun z => freeAt_lock (freeAll_at hf z) h1)]
    exact h1
/-- what was held aside beyond m is dropped -/
theorem Ok.cutM {C : Ct} {Hs : Hp} {A : List Addr} {g : G} {σ : L2.St} {H : Hp} {m : Nat} (ok : Ok C Hs A g σ H) (hm : C.n ≤ m) : Ok C Hs (A.take m) (g.take m) σ H := by
  have tk : ∀ {α : Type} {l : List α} {i : Nat} {s : α}, (l.take m)[i]? = some s → i < m ∧ l[i]? = some s := fun {α l i s} e => by
    by_cases h : i < m
    · rw [List.getElem?_take_of_lt h] at e; exact ⟨h, e⟩
    · have := (List.getElem?_eq_some_iff.mp e).1
      rw [List.length_take] at this; omega
  have kt : ∀ {α : Type} {l : List α} {i : Nat} {s : α}, i < m → l[i]? = some s → (l.take m)[i]? = some s := fun {α l i s} h e => by
    rw [List.getElem?_take_of_lt h]; exact e
  refine ⟨ok.ln, by rw [List.length_take]; have := ok.lg; omega, by rw [List.length_take, List.length_take, ok.la], ok.base, ok.same, fun i d e => ok.dat i d (tk e).2, fun i d e => ?_, fun i c' p l e => ?_, fun i k c1 p1 l1 c2 p2 l2 a' e1 e2 h1 h2 => ok.inj i k _ _ _ _ _ _ a' (tk e1).2 (tk e2).2 (tk h1).2 (tk h2).2, ok.grow, ok.keep, fun q hq => ?_, fun i c' l a' e ha => ok.pin1 i c' l a' (tk e).2 (tk ha).2, fun q hq => ?_⟩
  · obtain ⟨a, q1, q2⟩ := ok.frz i d (tk e).2
    exact ⟨a, kt (tk e).1 q1, q2⟩
  · obtain ⟨a, o, q1, q2⟩ := ok.own i c' p l (tk e).2
    exact ⟨a, o, kt (tk e).1 q1, q2⟩
  · obtain ⟨c', l, h1, h2⟩ := ok.pinned q hq
    have := C.plt q hq
    exact ⟨c', l, kt (by omega) h1, kt (by omega) h2⟩
  · obtain ⟨p, h1, h2⟩ := ok.locked q hq
    have := C.llt q hq
    exact ⟨p, kt (by omega) h1, kt (by omega) h2⟩
def tZGw (K : PySem.W.Frag) (n : Nat) (vs : List Nat) (tg : TD) : TG := fun v σ H Q => ∃ (C : Ct) (Hs : Hp) (A : List Addr) (g : G) (d : D) (g' : G), C.K = K ∧ C.n = n ∧ Ok C Hs A g σ H ∧ Dz K Hs v d ∧ tg d g = some g' ∧
  ∀ (σ' : L2.St), wipe σ' vs = wipe σ vs → Ok C Hs A g' σ' H → Q σ' H
abbrev ZGw (X : Cx) (vs : List Nat) (e : Expr) (tg : TD) : Prop := PG X e (tZGw X.K X.N.length vs tg)
section
variable {X : Cx} {pos : Pos} {vs : List Nat}
theorem zgw_name {i : Nat} {x : Str} (hN : X.N.Nodup) (hi : X.N[i]? = some x) (hx : Loc X.env.scope x) (hv : i ∈ vs) (hf : X.fn x = true ∨ X.env.scope.names.lookup x = some .local := by first | exact .inl rfl | exact .inr rfl | assumption) : ZGw X vs (.Name x pos) (gN i) := by
  refine PG.of (pg_name hN hi hx hf) fun v σ H Q ⟨C, Hs, A, g, d, g', hK, hn, ok, hd, e, q⟩ => ?_
  rw [← hK] at hd
  exact q _ (wipe_set hv) (ok.set e (by rw [hn]; exact (List.getElem?_eq_some_iff.mp hi).1) hd)
def zYes : ZT := fun g => some (true, g)
abbrev ZTs (X : Cx) (es : List Expr) (m : ZT) : Prop := PTs X es (tZT X.K X.N.length m)
theorem zts_nil : ZTs X [] zYes := ⟨fun pins s σ H Q I ⟨C, Hs, A, g, b, g', hK, hn, ok, e, q⟩ => pts_nil.run pins s σ H Q I (by
  cases e
  exact q Hs A H (Same.refl _) (Pre.refl _) ok)⟩
theorem zts_one {c : Expr} {t : ZT} (h : ZTe X c t) : ZTs X [c] t := ⟨fun pins s σ H Q I q => (pts_one h).run pins s σ H Q I q⟩
end
def lcL (tg : TD) (tt : ZT) (el : ZM) (vs : List Nat) (t : Nat) : List D → G → Option G
  | [], g => if freeAll g vs = true then some g else none
  | x :: xs, g => if freeAll g vs = true then do
      let g1 ← tg x (wipeG g vs)
      let (b, g2) ← tt g1
      if b = true then do
        let (r, g3) ← el g2
        let (d, g4) ← frzR r g3
        match g4[t]? with
        | some (.own (.lst acc) false false) => if acc.length < sizeLine then lcL tg tt el vs t xs ((g4.set t (.own (.lst (acc ++ [d])) false false)).take (t + 1)) else none
        | _ => none
      else lcL tg tt el vs t xs (g2.take (t + 1))
    else none
def zLc (mi : MI) (tg : TD) (tt : ZT) (el : ZM) (vs : List Nat) : ZM := fun g => do
  let (L, lk, g1) ← mi g
  match lk with
  | none => do
    let g3 ← lcL tg tt el vs g1.length L (g1 ++ [Sl.own (.lst []) false false])
    some (.bor g1.length, wipeG g3 vs)
  | some j => match g1[j]? with
    | some (.own c p l) => do
      let g3 ← lcL tg tt el vs g1.length L ((g1 ++ [Sl.own (.lst []) false false]).set j (.own c p true))
      some (.bor g1.length, unlk j l (wipeG g3 vs))
    | _ => none
theorem lc_of {tgd : TD} {tt : ZT} {el : ZM} {vs : List Nat} {C : Ct} {Hs1 : Hp} {A1 : List Addr} {g1 g3 : G} {σ : L2.St} {H1 : Hp} {L : List D} {J : It} {lk' : Option (Addr × Cn)} {K : PySem.W.Frag} {n t : Nat} {D0 : Addr} {Qd : Hp → Prop} (hK : C.K = K) (hn : C.n = n) (ht : C.n ≤ t)
    (ok : Ok C Hs1 A1 g1 σ H1) (hA : A1[t]? = some D0) (hAl : A1.length = t + 1) (jw : JW K J L (Src K Hs1 lk')) (hl : ∀ a c, lk' = some (a, c) → ∃ j, (j, a, c) ∈ C.locks) (e : lcL tgd tt el vs t L g1 = some g3)
    (q : ∀ Hs A H, Same Hs1 Hs → Ok C Hs A (wipeG g3 vs) σ H → Pre A1 A → Qd H) :
    ∃ W : Nat → Nat → Hp → Prop, (∃ m, W 0 m H1) ∧ ∀ i m H, W i m H → (J.stop i H ∧ Qd H) ∨ (J.go i H ∧ ∃ Nx : Hp → Prop, (∀ H', Nx H' → ∃ m', m' < m ∧ W (i + 1) m' H') ∧ ∀ x H', J.yld i H x H' → tZGw K n vs tgd x (wipe σ vs) H' fun σ2 H2 => wipe σ2 vs = wipe σ vs ∧ tZT K n tt σ2 H2 fun b H3 =>
      if b = true then tZ K n el σ2 H3 fun y H4 => ∃ acc, H4 D0 = some (.lst acc) ∧ acc.length < sizeLine ∧ Nx (upd H4 D0 (.lst (acc ++ [y]))) else Nx H3) := by
  have src : ∀ {Hs A g σ H}, Same Hs1 Hs → Ok C Hs A g σ H → Src K Hs1 lk' Hs H := fun {Hs A g σ H} s ok => by
    cases lk' with
    | none => exact ⟨s, ok.same⟩
    | some ac =>
      obtain ⟨a, c⟩ := ac
      obtain ⟨j, hj⟩ := hl a c rfl
      obtain ⟨p, h1, h2⟩ := ok.locked _ hj
      obtain ⟨a', o, w1, _, _, w4, w5, _⟩ := ok.own j c p true h1
      have : some a = some a' := h2.symm.trans w1
      cases this
      exact ⟨o, w4, by rw [← hK]; exact w5⟩
  have ptk : ∀ {A : List Addr}, Pre A1 A → Pre A1 (A.take (t + 1)) := fun {A} h j a e => by
    have := (List.getElem?_eq_some_iff.mp e).1
    rw [List.getElem?_take_of_lt (by omega)]
    exact h j a e
  refine ⟨fun i m H => m = L.length - i ∧ i ≤ L.length ∧ ∃ Hs A g σ', wipe σ' vs = wipe σ vs ∧ σ'.length = σ.length ∧ Same Hs1 Hs ∧ Ok C Hs A g σ' H ∧ Pre A1 A ∧ lcL tgd tt el vs t (L.drop i) g = some g3, ⟨L.length, by simp, Nat.zero_le _, Hs1, A1, g1, σ, rfl, rfl, Same.refl _, ok, Pre.refl _, by simpa using e⟩, ?_⟩
  rintro i m H ⟨rfl, hi, Hs, A, g, σ', hw, hlen, s, ok, hP, e⟩
  by_cases hlt : i < L.length
  · refine .inr ⟨jw.go Hs H i (src s ok) hlt, ?_⟩
    rw [List.drop_eq_getElem_cons hlt] at e
    simp only [lcL] at e
    split at e
    · rename_i hfr
      simp only [Option.bind_eq_bind, Option.bind_eq_some_iff] at e
      obtain ⟨ga, e1, ⟨b, gb⟩, e2, e3⟩ := e
      have okw : Ok C Hs A (wipeG g vs) (wipe σ vs) H := ok.puts hfr (by rw [wipe_length, hlen]) (fun i hi => by rw [← hw]; exact wipe_out hi)
      refine ⟨fun H' => ∃ Hs' A' g' σ2, wipe σ2 vs = wipe σ vs ∧ σ2.length = σ.length ∧ Same Hs1 Hs' ∧ Ok C Hs' A' g' σ2 H' ∧ Pre A1 A' ∧ lcL tgd tt el vs t (L.drop (i + 1)) g' = some g3, fun H' ⟨Hs', A', g', σ2, w1, w2, w3, w4, w5, w6⟩ => ⟨L.length - (i + 1), by omega, rfl, hlt, Hs', A', g', σ2, w1, w2, w3, w4, w5, w6⟩, fun x H' y => ?_⟩
      obtain ⟨d, Hs', hd, s', ok', dz⟩ := jw.yld C Hs A _ _ H i x H' hK okw (src s ok) hlt y
      rw [List.getElem?_eq_getElem hlt] at hd
      cases hd
      refine ⟨C, Hs', A, _, _, ga, hK, hn, ok', dz, e1, fun σ2 hw2 ok2 => ?_⟩
      have hw3 : wipe σ2 vs = wipe σ vs := by
        rw [hw2]
        refine List.ext_getElem? fun j => ?_
        rw [wipe_get, wipe_get, wipe_length]
        by_cases hj : j ∈ vs ∧ j < σ.length
        · simp only [if_pos hj]
        · simp only [if_neg hj]
      have hl2 : σ2.length = σ.length := by have := ok2.ln; have := ok.ln; omega
      refine ⟨hw3, C, Hs', A, ga, b, gb, hK, hn, ok2, e2, fun Hs3 A3 H3 s3 p3 ok3 => ?_⟩
      cases b with
      | false =>
        show if false = true then _ else _
        rw [if_neg Bool.false_ne_true]
        have e3 : lcL tgd tt el vs t (L.drop (i + 1)) (gb.take (t + 1)) = some g3 := e3
        exact ⟨Hs3, A3.take (t + 1), _, σ2, hw3, hl2, (s.trans s').trans s3, ok3.cutM (by omega), ptk (hP.trans p3), e3⟩
      | true =>
        show if true = true then _ else _
        rw [if_pos rfl]
        simp only [if_true, Option.bind_eq_some_iff] at e3
        obtain ⟨⟨r, gc⟩, e4, ⟨dd, gd⟩, e5, e6⟩ := e3
        refine ⟨C, Hs3, A3, gb, r, gc, hK, hn, ok3, e4, fun Hs4 A4 v4 H4 s4 p4 ok4 rel4 => ?_⟩
        obtain ⟨Hs5, s5, ok5, dz5⟩ := ok4.frzR rel4 e5
        dsimp only at e6
        split at e6
        · rename_i acc hgt
          split at e6
          · rename_i hsz
            have hA4 : A4[t]? = some D0 := p4 _ _ (p3 _ _ (hP _ _ hA))
            obtain ⟨a', vs', ev, w1, w2, w3⟩ := ok5.bor (relB hA4) hgt
            cases ev
            refine ⟨vs', w2, by rw [w3.length]; exact hsz, Hs5, A4.take (t + 1), _, σ2, hw3, hl2, (((s.trans s').trans s3).trans s4).trans s5, (ok5.wr (o := .lst (vs' ++ [v4])) (c' := .lst (acc ++ [dd])) hgt hA4 (show DzA C.K Hs5 (vs' ++ [v4]) (acc ++ [dd]) from w3.append (.cons dz5 .nil))).cutM (by omega), ptk ((hP.trans p3).trans p4), e6⟩
          · cases e6
        · cases e6
    · cases e
  · have ei : i = L.length := by omega
    subst ei
    rw [List.drop_length] at e
    simp only [lcL] at e
    split at e
    · rename_i hfr
      cases e
      refine .inl ⟨jw.stop Hs H _ (src s ok) (Nat.le_refl _), q Hs A H s (ok.puts hfr hlen.symm fun i hi => ?_) hP⟩
      have h1 := wipe_out (σ := σ') hi
      have h2 := wipe_out (σ := σ) hi
      rw [← h1, hw, h2]
    · cases e
section
variable {X : Cx} {pos : Pos}
theorem zlc_of {mi : MI} {tgd : TD} {tt : ZT} {el : ZM} {vs : List Nat} {σ : L2.St} {H : Hp} {Q : VK} (h : tZ X.K X.N.length (zLc mi tgd tt el vs) σ H Q) :
    tLc (tZI X.K X.N.length mi) (tZGw X.K X.N.length vs tgd) (tZT X.K X.N.length tt) (tZ X.K X.N.length el) vs σ H Q := by
  obtain ⟨C, Hs, A, g, r, g', hK, hn, ok, e, q⟩ := h
  unfold zLc at e
  simp only [Option.bind_eq_bind, Option.bind_eq_some_iff] at e
  obtain ⟨⟨L, lk, g1⟩, h1, e⟩ := e
  refine ⟨C, Hs, A, g, L, lk, g1, hK, hn, ok, h1, fun Hs1 A1 H1 J lk' s1 PRE ok1 hl jw D0 hD => ?_⟩
  have ok2 := ok1.tmp (a := D0) (o := .lst []) (c := .lst []) hD (show DzA C.K Hs1 [] [] from .nil)
  have hA2 : (A1 ++ [D0])[g1.length]? = some D0 := by rw [← ok1.la]; simp
  have hAl : (A1 ++ [D0]).length = g1.length + 1 := by rw [List.length_append, ok1.la]; rfl
  cases lk with
  | none =>
    cases lk' with
    | some _ => exact hl.elim
    | none =>
      simp only [Option.bind_eq_some_iff] at e
      obtain ⟨g3, e1, e2⟩ := e
      cases e2
      exact lc_of hK hn ok1.lg ok2 hA2 hAl jw (fun _ _ z => by cases z) e1 fun Hs2 A2 H2 s2 ok3 pre => q Hs2 A2 (.ref D0) H2 (s1.trans s2) (fun j a h => pre j a (Pre.app _ _ j a (PRE j a h))) ok3 ⟨D0, pre _ _ hA2, rfl⟩
  | some j =>
    cases lk' with
    | none => exact hl.elim
    | some ac =>
      obtain ⟨a, c⟩ := ac
      obtain ⟨ha, ⟨p0, l0, hgj⟩, hj⟩ := hl
      simp only at e
      split at e
      · rename_i c' p l hg2
        rw [hgj] at hg2
        cases hg2
        simp only [Option.bind_eq_some_iff] at e
        obtain ⟨g3, e1, e2⟩ := e
        cases e2
        have hjl := (List.getElem?_eq_some_iff.mp hgj).1
        have hgc : (g1 ++ [Sl.own (.lst []) false false])[j]? = some (.own c p0 l0) := by rw [List.getElem?_append_left hjl]; exact hgj
        have hac : (A1 ++ [D0])[j]? = some a := Pre.app _ _ _ _ ha
        have hjn : j < C.n := by rw [hn]; exact hj
        have okl : Ok (C.lock (j, a, c) hjn) Hs1 (A1 ++ [D0]) ((g1 ++ [Sl.own (.lst []) false false]).set j (.own c p0 true)) σ (upd H1 D0 (.lst [])) := by
          refine ok2.lk hgc rfl rfl rfl rfl rfl fun r hr => ?_
          rcases List.mem_cons.mp hr with rfl | hr
          · exact .inl ⟨rfl, rfl, rfl, hac⟩
          · by_cases z : r.1 = j
            · obtain ⟨p', w1, w2⟩ := ok2.locked r hr
              rw [z, hgc] at w1
              cases w1
              rw [z] at w2
              exact .inl ⟨z, rfl, rfl, w2⟩
            · exact .inr ⟨z, hr⟩
        refine lc_of (C := C.lock (j, a, c) hjn) hK hn ok1.lg okl hA2 hAl jw (fun a' c' z => ⟨j, by cases z; exact List.mem_cons_self⟩) e1 fun Hs2 A2 H2 s2 ok' pre => ?_
        have okU : Ok C Hs2 A2 (unlk j l0 (wipeG g3 vs)) σ H2 := by
          obtain ⟨p', w1, w2⟩ := ok'.locked (j, a, c) List.mem_cons_self
          unfold unlk
          rw [show (wipeG g3 vs)[j]? = some (.own c p' true) from w1]
          refine ok'.lk (C' := C) w1 rfl rfl rfl rfl rfl fun r hr => ?_
          by_cases z : r.1 = j
          · obtain ⟨p2, y1, y2⟩ := ok2.locked r hr
            rw [z, hgc] at y1
            have e3 : some (Sl.own c p0 l0) = some (.own r.2.2 p2 true) := y1
            cases e3
            obtain ⟨p3, x1, x2⟩ := ok'.locked r (List.mem_cons_of_mem _ hr)
            rw [z] at x2
            exact .inl ⟨z, rfl, rfl, x2⟩
          · exact .inr ⟨z, List.mem_cons_of_mem _ hr⟩
        exact q Hs2 A2 (.ref D0) H2 (s1.trans s2) (fun j a h => pre j a (Pre.app _ _ j a (PRE j a h))) okU ⟨D0, pre _ _ hA2, rfl⟩
      · cases e
theorem ze_lc {elt tg iter : Expr} {ifs : List Expr} {scope : Scope} {own : List (Str × Nat)} {mi : MI} {g : TD} {tt : ZT} {el : ZM} (hc : X.calm = true) (hN : X.N.Nodup) (hi : ZI X tg iter mi) (ok : BlkOk X.N X.env.scope scope own)
    (hg : ∀ (s : Shared) (H : Hp) (C : Addr) (cl : List (Str × Addr)) (fp : List Addr), ZGw (X.blk s H scope (compEnvC scope cl C X.env) fp) (own.map (·.2)) tg g) (ht : ∀ (s : Shared) (H : Hp) (C : Addr) (cl : List (Str × Addr)) (fp : List Addr), ZTs (X.blk s H scope (compEnvC scope cl C X.env) fp) ifs tt)
    (he : ∀ (s : Shared) (H : Hp) (C : Addr) (cl : List (Str × Addr)) (fp : List Addr), ZE (X.blk s H scope (compEnvC scope cl C X.env) fp) elt el) (hs : ∀ x, foldedSetIterable iter X.env x = pure x := by intro _; rfl) :
    ZE X (.ListComp elt [⟨tg, iter, ifs, 0⟩] scope pos) (zLc mi g tt el (own.map (·.2))) :=
  PE.of (pe_lc hc hN hi ok hg ht he hs) fun σ H Q h => zlc_of h
theorem zs_setLc {i : Nat} {y : Str} {py spos : Pos} {elt tg iter : Expr} {ifs : List Expr} {scope : Scope} {own : List (Str × Nat)} {mi : MI} {g : TD} {tt : ZT} {el : ZM} (hy : X.N[i]? = some y) (hyl : X.env.scope.names.lookup y = some .local)
    (hsw : swapsWith (.ListComp elt [⟨tg, iter, ifs, 0⟩] scope pos) (some (.Name y py)) spos.line X.env = pure true) (hc : X.calm = true) (hN : X.N.Nodup) (hi : ZI X tg iter mi) (ok : BlkOk X.N X.env.scope scope own)
    (hg : ∀ (s : Shared) (H : Hp) (C : Addr) (cl : List (Str × Addr)) (fp : List Addr), ZGw (X.blk s H scope (compEnvC scope cl C X.env) fp) (own.map (·.2)) tg g) (ht : ∀ (s : Shared) (H : Hp) (C : Addr) (cl : List (Str × Addr)) (fp : List Addr), ZTs (X.blk s H scope (compEnvC scope cl C X.env) fp) ifs tt)
    (he : ∀ (s : Shared) (H : Hp) (C : Addr) (cl : List (Str × Addr)) (fp : List Addr), ZE (X.blk s H scope (compEnvC scope cl C X.env) fp) elt el) (hs : ∀ x, foldedSetIterable iter X.env x = pure x := by intro _; rfl) :
    ZS X (.Assign [.Name y py] (.ListComp elt [⟨tg, iter, ifs, 0⟩] scope pos) spos) (zSet X.N.length i (zLc mi g tt el (own.map (·.2)))) := by
  refine PS.of (ps_setLc (te := tZ X.K X.N.length el) (tt := tZT X.K X.N.length tt) (g := tZGw X.K X.N.length (own.map (·.2)) g) hc hN hy hyl hsw hi ok hg ht he hs) fun D σ H h => ?_
  obtain ⟨C, Hs, A, g, fl, g', hK, hn, ok, e, q⟩ := h
  have hin := (List.getElem?_eq_some_iff.mp hy).1
  have h2 := set_of (i := i) (D := D) hin ⟨C, Hs, A, g, fl, g', hK, hn, ok, e, q⟩
  exact zlc_of h2
end
end Z
set_option Elab.async false
set_option linter.all false
set_option maxRecDepth 100000
set_option maxHeartbeats 4000000
namespace Z
open PySem PySem.Spec PyProof.Rows L2
section
variable {X : Cx} {pos : Pos} {tg : Expr} {m : ZM} {ma : ZAr} {a b c : Expr} {p : Pos}
variable {ma' mb : ZM}
def zCatL (ma mb : ZM) : ZM := fun g => do
  let (r1, g1) ← ma g
  let (r2, g2) ← mb g1
  let d ← rd g2 r1
  let e ← rd g2 r2
  match d, e with
  | .lst l, .lst k => if l.length + k.length ≤ sizeLine then some (.bor g2.length, g2 ++ [.own (.lst (l ++ k)) false false]) else none
  | _, _ => none
theorem ze_catL (ha : ZE X a ma') (hb : ZE X b mb) : ZE X (.BinOp a .Add b pos) (zCatL ma' mb) := by
  refine PE.of (pe_op op_catL ha hb) fun σ H Q ⟨C, Hs, A, g, r, g', hK, hn, ok, e, q⟩ => ?_
  unfold zCatL at e
  simp only [Option.bind_eq_bind, Option.bind_eq_some_iff] at e
  obtain ⟨⟨r1, g1⟩, h1, ⟨r2, g2⟩, h2, d, h3, d2, h4, e⟩ := e
  dsimp only at e h3 h4
  split at e
  · split at e
    · rename_i hz
      cases e
      refine tZ2 hK hn ok h1 h2 fun Hs2 A2 v1 v2 H2 s p ok2 w1 w2 => ?_
      obtain ⟨x, xs, rfl, y1, y2⟩ := ok2.rdL w1 h3
      obtain ⟨x', xs', rfl, z1, z2⟩ := ok2.rdL w2 h4
      rw [hK] at y1 z1
      exact ⟨x, x', xs, xs', rfl, rfl, y1, z1, by rw [y2.length, z2.length]; exact hz, fun p' hp => q Hs2 (A2 ++ [p']) _ _ s (p.trans (Pre.app _ _)) (ok2.tmp (o := .lst (xs ++ xs')) (c := .lst _) hp (show DzA C.K Hs2 (xs ++ xs') _ from y2.append z2)) (ok2.tmpR p')⟩
    · cases e
  · cases e
end
section
variable {g g1 g2 g3 : G} {r r1 r2 : R} {d e z : D} {ma mb mc m : ZM} {mr : ZAr} {rs : List R} {ds : List D} {b b1 b2 : Bool} {n i j : Nat}
theorem er_catL {l k : List D} (h1 : ma g = some (r1, g1)) (h2 : mb g1 = some (r2, g2)) (h3 : rd g2 r1 = some (.lst l)) (h4 : rd g2 r2 = some (.lst k)) (hz : l.length + k.length ≤ sizeLine) : zCatL ma mb g = some (.bor g2.length, g2 ++ [.own (.lst (l ++ k)) false false]) := by
  unfold zCatL; simp only [h1, h2, h3, h4, if_pos hz, Option.bind_eq_bind, Option.bind_some]
/-- a call that changes its kk-th argument, the others data -/
theorem er_callM {kk : Nat} {f : Cn → List D → Option (FR × Cn)} {c c' : Cn} {p : Bool} (h1 : mr g = some (rs, g1)) (h2 : rs[kk]? = some (.bor j)) (h3 : g1[j]? = some (.own c p false)) (h4 : (rs.eraseIdx kk).all (noB j) = true) (h5 : rdAll g1 (rs.eraseIdx kk) = some ds) (h6 : frzAll (rs.eraseIdx kk) g1 = some (ds, g2)) (h8 : f c ds = some (.dat d, c')) (h7 : g2 = g1) :
    zCallM kk f mr g = some (.dat d, g1.set j (.own c' p false)) := by
  subst h7
  unfold zCallM
  simp only [h1, h2, h3, h4, h5, h6, h8, Option.bind_eq_bind, Option.bind_some, if_true]
  split
  · rfl
  · rfl
end
end Z
set_option Elab.async false
set_option linter.all false
set_option maxRecDepth 100000
set_option maxHeartbeats 4000000
namespace Z
open PySem PySem.Spec PyProof.Rows L2
/-- plain, and a text that can stand in a shaped thing -/
def D.okp : D → Bool
  | .str s => PyData.strOk ⟨s.toArray⟩
  | d => d.pl
theorem pl_lay {d : D} (h : d.okp = true) : d.py.canLay0 = true ∧ d.py.depth = 0 := by
  cases d with
  | str s => exact ⟨h, rfl⟩
  | non => exact ⟨rfl, rfl⟩
  | bl b => exact ⟨rfl, rfl⟩
  | int i => exact ⟨rfl, rfl⟩
  | _ => exact absurd h (by simp [D.okp, D.pl])
theorem pls_lay : ∀ {l : List D}, l.all D.okp = true → PyData.canLayAll0 (D.pyA l) = true ∧ PyData.depthAll (D.pyA l) = 0
  | [], _ => ⟨rfl, rfl⟩
  | d :: l, h => by
    rw [List.all_cons, Bool.and_eq_true] at h
    obtain ⟨a1, a2⟩ := pl_lay h.1
    obtain ⟨b1, b2⟩ := pls_lay h.2
    simp [D.pyA, PyData.canLayAll0, PyData.depthAll, a1, a2, b1, b2]
theorem shp_flat {l : List D} (h : l.all D.okp = true) : (D.lst l).shp = true := by
  obtain ⟨b1, b2⟩ := pls_lay h
  show ((D.lst l).py.canLay0 && decide ((D.lst l).py.depth ≤ 64)) = true
  have e1 : (D.lst l).py.canLay0 = true := by show PyData.canLay0 (.list (D.pyA l)) = true; simpa [PyData.canLay0] using b1
  have e2 : (D.lst l).py.depth ≤ 64 := by show PyData.depth (.list (D.pyA l)) ≤ 64; simp [PyData.depth, b2]
  rw [e1, decide_eq_true e2]
  rfl
theorem pl_ints (a : List Int) : (a.map D.int).all D.okp = true := by simp [D.okp, D.pl]
theorem eqvA_ints : ∀ a b : List Int, D.eqvA (a.map D.int) (b.map D.int) = (a == b)
  | [], [] => rfl
  | [], _ :: _ => rfl
  | _ :: _, [] => rfl
  | x :: a, y :: b => by
    show (D.eqv (.int x) (.int y) && D.eqvA (a.map D.int) (b.map D.int)) = _
    rw [eqvA_ints a b]
    rfl
theorem dr_neL (a b : List Int) : neqD (.lst (a.map D.int)) (.lst (b.map D.int)) = some (.bl (!(a == b))) := by
  have : neOk (.lst (a.map D.int)) (.lst (b.map D.int)) = true := by simp [neOk, shp_flat (pl_ints a), shp_flat (pl_ints b)]
  unfold neqD
  rw [if_pos this]
  show some (D.bl (!D.eqvA _ _)) = _
  rw [eqvA_ints]
/-- one turn of a comprehension that takes its item -/
theorem lcL_go {tg : TD} {tt : ZT} {el : ZM} {vs : List Nat} {t : Nat} {x : D} {xs : List D} {g g1 g2 g3 g4 g5 : G} {r : R} {d : D} {acc : List D} {o : Option G} (h0 : freeAll g vs = true) (h1 : tg x (wipeG g vs) = some g1) (h2 : tt g1 = some (true, g2)) (h3 : el g2 = some (r, g3)) (h4 : frzR r g3 = some (d, g4)) (h5 : g4[t]? = some (.own (.lst acc) false false)) (hz : acc.length < sizeLine)
    (hg : (g4.set t (.own (.lst (acc ++ [d])) false false)).take (t + 1) = g5) (k : lcL tg tt el vs t xs g5 = o) : lcL tg tt el vs t (x :: xs) g = o := by
  simp only [lcL, h0, h1, h2, h3, h4, h5, hz, hg, if_true, Option.bind_eq_bind, Option.bind_some]
  exact k
theorem lcL_no {tg : TD} {tt : ZT} {el : ZM} {vs : List Nat} {t : Nat} {x : D} {xs : List D} {g g1 g2 g5 : G} {o : Option G} (h0 : freeAll g vs = true) (h1 : tg x (wipeG g vs) = some g1) (h2 : tt g1 = some (false, g2)) (hg : g2.take (t + 1) = g5) (k : lcL tg tt el vs t xs g5 = o) : lcL tg tt el vs t (x :: xs) g = o := by
  simp only [lcL, h0, h1, h2, hg, if_true, Option.bind_eq_bind, Option.bind_some]
  exact k
theorem lcL_end {tg : TD} {tt : ZT} {el : ZM} {vs : List Nat} {t : Nat} {g : G} (h0 : freeAll g vs = true) : lcL tg tt el vs t [] g = some g := by
  simp only [lcL, h0, if_true]
theorem er_lc {mi : MI} {tg : TD} {tt : ZT} {el : ZM} {vs : List Nat} {g g1 g3 g4 : G} {L : List D} (h1 : mi g = some (L, none, g1)) (h2 : lcL tg tt el vs g1.length L (g1 ++ [Sl.own (.lst []) false false]) = some g3) (hg : wipeG g3 vs = g4) : zLc mi tg tt el vs g = some (.bor g1.length, g4) := by
  unfold zLc
  simp only [h1, h2, hg, Option.bind_eq_bind, Option.bind_some]
theorem er_orTF {s t : ZT} {g g1 g2 : G} {b1 b2 : Bool} (h1 : s g = some (b1, g1)) (hb : b1 = false) (h2 : t g1 = some (b2, g2)) : zOrT s t g = some (b2, g2) := by
  subst hb
  unfold zOrT; simp only [h1, Option.bind_eq_bind, Option.bind_some]
  rw [if_neg Bool.false_ne_true]
  exact h2
theorem er_andTT {s t : ZT} {g g1 g2 : G} {b1 b2 : Bool} (h1 : s g = some (b1, g1)) (hb : b1 = true) (h2 : t g1 = some (b2, g2)) : zAndT s t g = some (b2, g2) := by
  subst hb
  unfold zAndT; simp only [h1, Option.bind_eq_bind, Option.bind_some, if_true]
  exact h2
theorem sr_bk {β : Type} {kk : Option (Fl × G) → β} {OUT : β} {rest : SM} {g : G} (k : ap kk (some (.bk, g)) = OUT) : ap kk (zSeq zBk rest g) = OUT := k
end Z
set_option Elab.async false
set_option linter.all false
set_option maxRecDepth 100000
set_option maxHeartbeats 4000000
namespace Z
open PySem PySem.Spec PyProof.Rows L2
end Z
set_option Elab.async false
set_option linter.all false
set_option maxRecDepth 100000
set_option maxHeartbeats 4000000
namespace Z
open PySem PySem.Spec PyProof.Rows L2
def zFg (vs : List Nat) (s : SM) : SM := fun g => do
  let (fl, g1) ← s g
  match fl with
  | .ret r => some (.ret r, g1)
  | fl => if freeAll g1 vs = true then some (fl, wipeG g1 vs) else none
section
variable {X : Cx} {st : Stmt} {sts : List Stmt} {s : SM} {vs : List Nat}
theorem fg_of {D : Ends} {σ : L2.St} {H : Hp} {K : PySem.W.Frag} {n : Nat} (h : tZS K n (zFg vs s) D σ H) : tZS K n s D σ H := by
  obtain ⟨C, Hs, A, g, fl, g', hK, hn, ok, e, q⟩ := h
  unfold zFg at e
  simp only [Option.bind_eq_bind, Option.bind_eq_some_iff] at e
  obtain ⟨⟨fl1, g1⟩, h1, e⟩ := e
  refine ⟨C, Hs, A, g, fl1, g1, hK, hn, ok, h1, ?_⟩
  cases fl1 with
  | ret r => cases e; exact q
  | nx =>
    simp only at e
    split at e
    · rename_i hf; cases e; exact fun Hs' A' σ' H' s1 ok1 => q Hs' A' σ' H' s1 (ok1.puts hf rfl (fun _ _ => rfl))
    · cases e
  | bk =>
    simp only at e
    split at e
    · rename_i hf; cases e; exact fun Hs' A' σ' H' s1 ok1 => q Hs' A' σ' H' s1 (ok1.puts hf rfl (fun _ _ => rfl))
    · cases e
  | ct =>
    simp only at e
    split at e
    · rename_i hf; cases e; exact fun Hs' A' σ' H' s1 ok1 => q Hs' A' σ' H' s1 (ok1.puts hf rfl (fun _ _ => rfl))
    · cases e
theorem zss_fg (h : ZSs X sts s) : ZSs X sts (zFg vs s) := PSs.of h fun D σ H h => fg_of h
end
section
variable {g g1 g2 : G} {st s rest : SM} {r : R} {vs : List Nat}
theorem fg_nx (h : s g = some (.nx, g1)) (hf : freeAll g1 vs = true) (hg : wipeG g1 vs = g2) : zFg vs s g = some (.nx, g2) := by
  unfold zFg; simp only [h, hf, hg, if_true, Option.bind_eq_bind, Option.bind_some]
/-- what follows a forgetting, told as one's end -/
def fgK {β : Type} (vs : List Nat) (kk : Option (Fl × G) → β) : Option (Fl × G) → β := fun o => kk (o.bind fun q => match q.1 with
  | .ret r => some (.ret r, q.2)
  | fl => if freeAll q.2 vs = true then some (fl, wipeG q.2 vs) else none)
theorem ap_fg {β : Type} {kk : Option (Fl × G) → β} {OUT : β} (k : ap (fgK vs kk) (s g) = OUT) : ap kk (zFg vs s g) = OUT := by
  have e : zFg vs s g = (s g).bind fun q => match q.1 with
    | .ret r => some (.ret r, q.2)
    | fl => if freeAll q.2 vs = true then some (fl, wipeG q.2 vs) else none := by
    unfold zFg
    cases s g with
    | none => rfl
    | some q => rfl
  rw [e]; exact k
theorem fgK_nx {β : Type} {kk : Option (Fl × G) → β} {OUT : β} (hf : freeAll g vs = true) (hg : wipeG g vs = g2) (k : kk (some (.nx, g2)) = OUT) : ap (fgK vs kk) (some (.nx, g)) = OUT := by
  show kk (if freeAll g vs = true then some (.nx, wipeG g vs) else none) = OUT
  rw [if_pos hf, hg]; exact k
theorem fgK_ct {β : Type} {kk : Option (Fl × G) → β} {OUT : β} (hf : freeAll g vs = true) (hg : wipeG g vs = g2) (k : kk (some (.ct, g2)) = OUT) : ap (fgK vs kk) (some (.ct, g)) = OUT := by
  show kk (if freeAll g vs = true then some (.ct, wipeG g vs) else none) = OUT
  rw [if_pos hf, hg]; exact k
theorem fgK_bk {β : Type} {kk : Option (Fl × G) → β} {OUT : β} (hf : freeAll g vs = true) (hg : wipeG g vs = g2) (k : kk (some (.bk, g2)) = OUT) : ap (fgK vs kk) (some (.bk, g)) = OUT := by
  show kk (if freeAll g vs = true then some (.bk, wipeG g vs) else none) = OUT
  rw [if_pos hf, hg]; exact k
theorem fgK_ret {β : Type} {kk : Option (Fl × G) → β} {OUT : β} (k : kk (some (.ret r, g)) = OUT) : ap (fgK vs kk) (some (.ret r, g)) = OUT := k
theorem sr_ct {β : Type} {kk : Option (Fl × G) → β} {OUT : β} {rest : SM} {g : G} (k : ap kk (some (.ct, g)) = OUT) : ap kk (zSeq zCt rest g) = OUT := k
theorem sr_bk1 {β : Type} {kk : Option (Fl × G) → β} {OUT : β} {g : G} (k : ap kk (some (.bk, g)) = OUT) : ap kk (zBk g) = OUT := k
theorem sr_ct1 {β : Type} {kk : Option (Fl × G) → β} {OUT : β} {g : G} (k : ap kk (some (.ct, g)) = OUT) : ap kk (zCt g) = OUT := k
theorem sr_nx1 {β : Type} {kk : Option (Fl × G) → β} {OUT : β} {g : G} (k : ap kk (some (.nx, g)) = OUT) : ap kk (zNx g) = OUT := k
theorem wipeG_nil (g : G) : wipeG g [] = g := rfl
theorem wipeG_cons (g : G) (v : Nat) (vs : List Nat) : wipeG g (v :: vs) = (wipeG g vs).set v .un := rfl
theorem for_run {n : Nat} {mi : MI} {tg : TD} {L : List D} {o : Option (Fl × G)} (h1 : mi g = some (L, none, g)) (hg : g.take n = g) (h2 : forL tg st L g = o) : zFor n mi tg st g = o := for_none h1 hg h2
theorem er_andVT {ma mb : ZM} {g3 : G} {b1 b2 : Bool} (h1 : ma g = some (.dat (.bl b1), g1)) (hb : b1 = true) (h2 : mb g1 = some (.dat (.bl b2), g3)) : zAndV ma mb g = some (.dat (.bl b2), g3) := by
  subst hb
  unfold zAndV; simp only [h1, isB, h2, if_true, Option.bind_eq_bind, Option.bind_some]
theorem er_orVF {ma mb : ZM} {g3 : G} {b1 b2 : Bool} (h1 : ma g = some (.dat (.bl b1), g1)) (hb : b1 = false) (h2 : mb g1 = some (.dat (.bl b2), g3)) : zOrV ma mb g = some (.dat (.bl b2), g3) := by
  subst hb
  unfold zOrV; simp only [h1, isB, Option.bind_eq_bind, Option.bind_some]
  rw [if_neg Bool.false_ne_true]
  exact h2
/-- a call that hands out data with references within: what was handed in becomes data -/
theorem er_callGF {f : List D → Option FR} {mr : ZAr} {rs : List R} {ds : List D} {d : D} (h1 : mr g = some (rs, g1)) (h2 : rdAll g1 rs = some ds) (h2' : frzAll rs g1 = some (ds, g2)) (h3 : f ds = some (.dat d)) (hs : d.scal = false) : zCall f mr g = some (.dat d, g2) := by
  unfold zCall; simp only [h1, h2, h2', h3, hs, Option.bind_eq_bind, Option.bind_some]
  rfl
theorem er_callHF {f : List D → Option FR} {mr : ZAr} {rs : List R} {ds : List D} {c : Cn} (h1 : mr g = some (rs, g1)) (h2 : rdAll g1 rs = some ds) (h2' : frzAll rs g1 = some (ds, g2)) (h3 : f ds = some (.new c)) (hs : c.scal = false) : zCall f mr g = some (.bor g2.length, g2 ++ [.own c false false]) := by
  unfold zCall; simp only [h1, h2, h2', h3, hs, Option.bind_eq_bind, Option.bind_some]
  rfl
/-- a walk over a list held aside -/
theorem mi_Lt {m : ZM} {n j : Nat} {L : List D} (h1 : m g = some (.bor j, g1)) (hj : n ≤ j) (h2 : frzAt j g1 = some (.lst L, g2)) : ziL n m g = some (L, none, g2) := by
  unfold ziL; simp only [h1, ziB, if_neg (show ¬ j < n by omega), h2, Option.bind_eq_bind, Option.bind_some]
theorem er_orTt {s t : ZT} {b : Bool} (h1 : s g = some (b, g1)) (hb : b = true) : zOrT s t g = some (true, g1) := by
  subst hb
  unfold zOrT; simp only [h1, Option.bind_eq_bind, Option.bind_some, if_true]
/-- what an item does: b whether it is taken, f what it becomes; base the slots without the new list -/
structure LcItem (tg : TD) (tt : ZT) (el : ZM) (vs : List Nat) (t : Nat) (base : G) (x : D) (b : Bool) (y : D) : Prop where
  run : ∀ acc : List D, ∃ h : G, h.length = t ∧ freeAll (h ++ [.own (.lst acc) false false]) vs = true ∧ (∀ o : Sl, wipeG (h ++ [o]) vs = base ++ [o]) ∧ (∀ o : Sl, freeAll (h ++ [o]) vs = true) ∧ tg x (base ++ [.own (.lst acc) false false]) = some (h ++ [.own (.lst acc) false false]) ∧
    tt (h ++ [.own (.lst acc) false false]) = some (b, h ++ [.own (.lst acc) false false]) ∧
    (b = true → ∃ r g3 g4, el (h ++ [.own (.lst acc) false false]) = some (r, g3) ∧ frzR r g3 = some (y, g4) ∧ g4[t]? = some (.own (.lst acc) false false) ∧ ∀ o : Sl, (g4.set t o).take (t + 1) = h ++ [o])
theorem lcL_fm {tg : TD} {tt : ZT} {el : ZM} {vs : List Nat} {t : Nat} {base : G} {b : D → Bool} {f : D → D} : ∀ {L : List D} (acc : List D) (h : G), h.length = t → (∀ o : Sl, wipeG (h ++ [o]) vs = base ++ [o]) → (∀ o : Sl, freeAll (h ++ [o]) vs = true) → acc.length + L.length ≤ sizeLine → (∀ x ∈ L, LcItem tg tt el vs t base x (b x) (f x)) →
    ∃ g3, lcL tg tt el vs t L (h ++ [.own (.lst acc) false false]) = some g3 ∧ wipeG g3 vs = base ++ [.own (.lst (acc ++ (L.filter b).map f)) false false]
  | [], acc, h, hl, hw, hf, _, _ => ⟨_, lcL_end (hf _), by rw [hw]; simp⟩
  | x :: L, acc, h, hl, hw, hf, hz, hx => by
    obtain ⟨h', q1, q2, q3, q4, q5, q6, q7⟩ := (hx x List.mem_cons_self).run acc
    have hx' : ∀ x ∈ L, LcItem tg tt el vs t base x (b x) (f x) := fun x h => hx x (List.mem_cons_of_mem _ h)
    simp only [List.length_cons] at hz
    cases hb : b x with
    | true =>
      obtain ⟨r, g3, g4, w1, w2, w3, w4⟩ := q7 hb
      obtain ⟨g5, x1, x2⟩ := lcL_fm (L := L) (acc ++ [f x]) h' q1 q3 q4 (by simp; omega) hx'
      refine ⟨g5, lcL_go (hf _) (by rw [hw]; exact q5) (by rw [q6, hb]) w1 w2 w3 (by omega) (w4 _) x1, ?_⟩
      rw [x2, List.filter_cons, hb, if_pos rfl]
      simp
    | false =>
      obtain ⟨g5, x1, x2⟩ := lcL_fm (L := L) acc h' q1 q3 q4 (by omega) hx'
      refine ⟨g5, lcL_no (hf _) (by rw [hw]; exact q5) (by rw [q6, hb]) (by rw [List.take_of_length_le (by simp [q1])]) x1, ?_⟩
      rw [x2, List.filter_cons, hb, if_neg Bool.false_ne_true]
/-- an item whose value is data -/
theorem lc_dat {tg : TD} {tt : ZT} {el : ZM} {vs : List Nat} {t : Nat} {base h : G} {x : D} {b : Bool} {y : D} (hl : h.length = t) (hw : ∀ o : Sl, wipeG (h ++ [o]) vs = base ++ [o]) (hf : ∀ o : Sl, freeAll (h ++ [o]) vs = true) (h1 : ∀ o : Sl, tg x (base ++ [o]) = some (h ++ [o])) (h2 : ∀ o : Sl, tt (h ++ [o]) = some (b, h ++ [o]))
    (h3 : b = true → ∀ o : Sl, el (h ++ [o]) = some (.dat y, h ++ [o])) : LcItem tg tt el vs t base x b y :=
  ⟨fun acc => ⟨h, hl, hf _, hw, hf, h1 _, h2 _, fun hb => ⟨_, _, _, h3 hb _, rfl, by rw [← hl]; simp, fun o => by rw [← hl, List.set_append_right _ _ (Nat.le_refl _)]; simp [List.take_of_length_le]⟩⟩⟩
theorem er_lc1 {mi : MI} {tg : TD} {tt : ZT} {el : ZM} {vs : List Nat} {g : G} {L : List D} {base h : G} {b : D → Bool} {f : D → D} (h1 : mi g = some (L, none, h)) (hw : ∀ o : Sl, wipeG (h ++ [o]) vs = base ++ [o]) (hf : ∀ o : Sl, freeAll (h ++ [o]) vs = true) (hz : L.length ≤ sizeLine) (hx : ∀ x ∈ L, LcItem tg tt el vs h.length base x (b x) (f x)) :
    zLc mi tg tt el vs g = some (.bor h.length, base ++ [.own (.lst ((L.filter b).map f)) false false]) := by
  obtain ⟨g3, x1, x2⟩ := lcL_fm (L := L) [] h rfl hw hf (by simpa using hz) hx
  rw [List.nil_append] at x2
  exact er_lc h1 x1 x2
theorem er_lcO {mi : MI} {tg : TD} {tt : ZT} {el : ZM} {vs : List Nat} {g g1 : G} {L : List D} {base h : G} {b : D → Bool} {f : D → D} {j : Nat} {c : Cn} {p l : Bool} (h1 : mi g = some (L, some j, g1)) (hj : g1[j]? = some (.own c p l)) (hh : g1.set j (.own c p true) = h) (hw : ∀ o : Sl, wipeG (h ++ [o]) vs = base ++ [o]) (hf : ∀ o : Sl, freeAll (h ++ [o]) vs = true) (hz : L.length ≤ sizeLine) (hx : ∀ x ∈ L, LcItem tg tt el vs h.length base x (b x) (f x)) :
    zLc mi tg tt el vs g = some (.bor h.length, unlk j l (base ++ [.own (.lst ((L.filter b).map f)) false false])) := by
  have hjl := (List.getElem?_eq_some_iff.mp hj).1
  obtain ⟨g3, x1, x2⟩ := lcL_fm (L := L) [] h rfl hw hf (by simpa using hz) hx
  rw [List.nil_append] at x2
  unfold zLc
  have e : (g1 ++ [Sl.own (.lst []) false false]).set j (.own c p true) = h ++ [Sl.own (.lst []) false false] := by
    rw [List.set_append, if_pos hjl, hh]
  have el : g1.length = h.length := by rw [← hh, List.length_set]
  simp only [h1, hj, Option.bind_eq_bind, Option.bind_some]
  rw [e, el, x1]
  simp only [Option.bind_some, x2]
end
theorem inL_ints (n : Int) : ∀ R : List Int, inL (.int n) (R.map D.int) = decide (n ∈ R)
  | [] => rfl
  | z :: R => by
    have := inL_ints n R
    unfold inL at this ⊢
    rw [List.map_cons, List.any_cons, this]
    show ((z == n) || _) = _
    by_cases h : z = n
    · subst h; simp
    · have : ¬ n = z := fun e => h e.symm
      simp [h, this]
theorem in_ints (n : Int) (R : List Int) : inD (.int n) (.lst (R.map D.int)) = some (.bl (decide (n ∈ R))) := by
  unfold inD
  show Option.map D.bl (if _ then _ else _) = _
  rw [if_pos (by simp [D.pl]), inL_ints]
  rfl
end Z
set_option Elab.async false
set_option linter.all false
set_option maxRecDepth 100000
set_option maxHeartbeats 4000000
namespace Z
open PySem PySem.Spec PyProof.Rows L2
structure FnA (P : Program) (w : World) (K : PySem.W.Frag) (mg : Str → Option Value) (base : Heap) (A : Around) (f : Addr) (fd : FuncData) (ps : List Str) (sp : Sp) : Prop where
  run : ∀ (out : List Env) (s : Shared) (H : Hp) (ar : Args) (us : List Value) (vs : List V) (Q : VK) (E : XK), Env0 P w K mg base A out s H → BindsTo s fd ar (ps.zip us) → Vals vs us → sp vs H Q E →
    codeAny (model P w) A (.call (.ref f) ar) (CR CX0 out P w H s Q E) s
section
variable {P : Program} {w : World} {K : PySem.W.Frag} {mg : Str → Option Value} {base : Heap}
/-- the reading of a body by runP, wherever it is called -/
theorem runP_reads {N ps : List Str} {s : SM} {vs : List V} {H : Hp} {Q : VK} {E : XK} (hp : ps.length ≤ N.length) (hs : spP K (runP N.length ps.length s) vs H Q E) : tZS K N.length s { nx := fun _ H' => Q .non H', rt := Q } (L2.start N vs) H ∧ vs.length = ps.length := by
  obtain ⟨Hs, ds, fr, sm, hz, e, q⟩ := hs
  unfold runP at e
  split at e
  · rename_i hl
    have hd : ds.length ≤ N.length := by omega
    refine ⟨?_, by rw [hz.length]; exact hl⟩
    split at e
    · rename_i r g' hr
      refine ⟨_, Hs, _, start0 N.length ds, .ret r, g', rfl, rfl, ok_start hd sm hz, hr, ?_⟩
      exact fun Hs' A' σ' H' v s1 ok1 rel1 => q v Hs' H' s1 (fun b o e => ok1.keep b o e (fun _ h => (List.not_mem_nil h).elim)) ok1.same ok1.grow (fin_ok ok1 rel1 e)
    · rename_i g' hr
      cases e
      refine ⟨_, Hs, _, start0 N.length ds, .nx, g', rfl, rfl, ok_start hd sm hz, hr, ?_⟩
      exact fun Hs' A' σ' H' s1 ok1 => q .non Hs' H' s1 (fun b o e => ok1.keep b o e (fun _ h => (List.not_mem_nil h).elim)) ok1.same ok1.grow .non
    · cases e
  · cases e
theorem okA {x qual : Str} {st : Stmt} {f : Addr} {fd : FuncData} {N ps : List Str} {k : Nat} {s : SM} {A : Around} (F : Fun K x qual st f fd) (S : FnScope N ps (defScope st)) (hA : Room (k + 1) A)
    (body : ∀ (cdv : Value) (out : List Env) (s0 : Shared) (H : Hp) (E : XK), Room k (A.deeper (envOfC qual (defScope st) s0.heap.objs.size f cdv)) → ZSs (cxOf CX0 P w K mg base N qual (defScope st) f cdv A out s0 H E).nox (defBody st) s) :
    FnA P w K mg base A f fd ps (spP K (runP N.length ps.length s)) := by
  obtain ⟨oc, od, kV, doc, pm, an, cdv, ct, osl, rfl, atf, hcode⟩ := F.ex
  have hpN : ps.length ≤ N.length := by
    have := congrArg List.length S.pre
    rw [List.length_take] at this
    omega
  constructor
  intro out s0 H ar us vs Q E e0 hbd rel hs
  obtain ⟨reads, lv⟩ := runP_reads hpN hs
  have inK : K.In s0.heap := e0.mod.kin.keeps fun c u z => (e0.bs c u z).1
  have noL : s0.heap.NoLimit := e0.mod.nolimit.keeps fun c u z => (e0.bs c u z).1
  have kinds : ∀ y ∈ ps.zip us, (defScope st).names.lookup y.1 = some .local ∨ ((defScope st).names.lookup y.1 = some .cell ∧ ((cellsFrom (s0.heap.objs.size + 1) (defScope st).names []).lookup y.1).isSome = true) := by
    rintro ⟨n, u⟩ hy
    exact (S.par n (List.of_mem_zip hy).1).imp id fun c => ⟨c, PySem.W.cellsFrom_some _ _ _ (.inl c)⟩
  apply codeAny_call_function hA.depth (inK _ _ atf) rfl S.co S.gen rfl (PySem.W.codeRec_of inK hcode)
  apply hbd
  apply wpAny_newFunctionEnv_cells S.kind kinds
  rintro env rfl s1 new
  refine ⟨noL.keeps new.toInCall.keep, ?_⟩
  apply codeAny_func
  have I0 : Inv (cxOf CX0 P w K mg base N qual (defScope st) f cdv A out s0 H E) [] (L2.start N vs) H s1 := inv_start S hA.hd e0 lv rel new
  have B := (body cdv out s0 H E (hA.deeper _)).nox
  apply wpAny_mono (B.run [] s1 (L2.start N vs) H _ I0 reads)
  · intro fl s2 hfl
    cases fl with
    | ret u =>
      obtain ⟨v, σ2, H2, J, rv, q⟩ := hfl
      exact ⟨v, H2, J.os, J.bare, J.base, J.hok, rv, q⟩
    | next =>
      obtain ⟨σ2, H2, J, q⟩ := hfl
      exact ⟨V.non, H2, J.os, J.bare, J.base, J.hok, rfl, q⟩
    | brk => obtain ⟨_, _, _, q⟩ := hfl; cases q
    | cont => obtain ⟨_, _, _, q⟩ := hfl; cases q
  · exact fun e s2 z => z
end
theorem law_callA {P : Program} {w : World} {K : PySem.W.Frag} {mg mb : Str → Option Value} {fa a : Addr} {fd : FuncData} {x : Str} {f : List D → Option FR} {s1 : Shared} {vs : List Value} {ns : List Int}
    (kin : K.In s1.heap) (gns : s1.heap.Ns mainGlobals mg) (bns : s1.heap.Ns builtinsNs mb) (bbo : ∀ y : Str, y ≠ "__name__" → mb y = bootBuiltins y) (nol : s1.heap.NoLimit) (gens : s1.gens = #[])
    (obj : s1.heap.get? a = some { cls := .type "list", data := .seq vs.toArray }) (hint : IntsAre vs ns) (small : ns.length ≤ sizeLine)
    (nod : s1.heap.NoDigits) (F : ∀ base : Heap, K.In base → base.Ns mainGlobals mg → base.NoDigits → FnA P w K mg base callerA fa fd [x] (spP K f)) (bnd : ∀ (s : Shared) (u : Value), BindsTo s fd ⟨[u], []⟩ [(x, u)])
    (good : f [scriptD ns] = some (.dat (.bl true))) :
    codeAny (model P w) callerA (.call (.ref fa) ⟨[.ref a], []⟩) (fun r s2 => r = .ok (.ret (.bool true)) ∧ OldK s1.heap s2.heap ∧ s2.os = s1.os ∧ AllBare s2.gens) s1 := by
  have relV := vals_ints hint
  -- the heap that is known: nothing, or the script
  obtain ⟨H, only, seq, hok, atA, notK⟩ : ∃ H : Hp, Only H ∧ SqL K H a (ns.map V.int) ∧ HOk P w H s1.heap ∧ (∀ b, H b ≠ none → b = a) ∧ (H a ≠ none → K.lookup a = none) := by
    cases look : K.lookup a with
    | some o =>
      have same := kin a o look
      rw [obj] at same
      cases same
      exact ⟨fun _ => none, fun _ => .inl rfl, .inr ⟨_, vs.toArray, _, look, rfl, rfl, rfl, by rw [List.size_toArray, hint.length]; exact small, by simpa using relV⟩, fun b u z => by simp at z, fun b z => absurd rfl z, fun z => absurd rfl z⟩
    | none =>
      refine ⟨upd (fun _ => none) a (.frz { cls := .type "list", data := .seq vs.toArray } (.lst (ns.map V.int))), fun b => ?_, .inl (.inr ⟨_, upd_same⟩), fun b u z => ?_, fun b z => ?_, fun _ => rfl⟩
      · by_cases e : b = a
        · subst e; exact .inr ⟨_, _, upd_same⟩
        · exact .inl (upd_ne e)
      · by_cases e : b = a
        · subst e
          rw [upd_same] at z
          cases z
          exact ⟨obj, by rw [List.length_map]; exact small, vs, _, relV, obj⟩
        · rw [upd_ne e] at z; cases z
      · by_cases e : b = a
        · exact e
        · exact absurd (upd_ne e) z
  have stays : ∀ {b : Addr} {m : Str → Option Value}, s1.heap.Ns b m → (hidT s1.heap H).Ns b m := by
    rintro b m ⟨o, es, ep, e, d, r⟩
    refine ⟨o, es, ep, hidT_get e ?_, d, r⟩
    cases q : H b with
    | none => rfl
    | some u =>
      have := atA b (by simp [q])
      subst this
      rw [obj] at e
      cases e
      cases d
  have kin0 : K.In (hidT s1.heap H) := by
    intro b o e
    refine hidT_get (kin b o e) ?_
    cases q : H b with
    | none => rfl
    | some u =>
      have := atA b (by simp [q])
      subst this
      rw [notK (by simp [q])] at e
      cases e
  obtain ⟨ml, l1, l2⟩ := nol
  have env : Env0 P w K mg (hidT s1.heap H) callerA [] s1 H :=
    ⟨rfl, ⟨kin0, stays gns, ⟨mb, stays bns, bbo⟩, ⟨ml, stays l1, l2⟩⟩, fun b o e => of_hidT e, Nat.le_of_eq (hidT_size _ _), trivial, fun b hb => absurd (show b ∈ ([] : List Addr) from hb) List.not_mem_nil, hok, .of_eq gens⟩
  obtain ⟨md, d1, d2⟩ := nod
  have ran := (F _ kin0 (stays gns) ⟨md, stays d1, d2⟩).run [] s1 H ⟨[.ref a], []⟩ [.ref a] [.ref a] _ _ env (bnd s1 (.ref a)) (.cons rfl .nil) (law_sp seq good)
  apply codeAny_mono ran
  intro r s2 end2
  match r, end2 with
  | .ok (.ret u), end2 =>
    obtain ⟨v, H2, os, bare, un, hok2, rv, q⟩ := end2
    have ev : v = .bl true := q
    subst ev
    have eu : u = Value.bool true := rv
    subst eu
    refine ⟨rfl, OldK.of_keep ?_, os, bare⟩
    intro b o e
    rcases only b with z | ⟨ob, xs, z⟩
    · exact un.keep b o e z (fun y => absurd (show b ∈ ([] : List Addr) from y) List.not_mem_nil) List.not_mem_nil
    · obtain ⟨e1, _⟩ := hok b _ z
      obtain ⟨e2, _⟩ := hok2 b _ (un.frzs b ob _ z)
      rw [e] at e1
      cases e1
      exact e2
  | .ok .next, z => exact z.elim
  | .ok .brk, z => exact z.elim
  | .ok .cont, z => exact z.elim
  | .error e, z => exact z.elim
theorem walk_ofA {l : PySem.W.OpenLaw} {n : Nat} {q : Program} {loose : List Str} {XP : (Str → Option Value) → Heap → Prop} {YP : World → Heap → Prop} {d : DefRec} {K : Params → PySem.W.Frag} {f : List D → Option FR} {x : Str}
    (most : l.most = some n) (small : n ≤ sizeLine) (plain : d.params.defaults = []) (hY : ∀ (w : World) (h : Heap), YP w h → (K w.params).In h)
    (F : ∀ (w : World) (mg : Str → Option Value) (fa : Addr) (h : Heap), (K w.params).In h → h.Ns mainGlobals mg → mg d.name = some (.ref fa) →
      ∃ fd : FuncData, (∀ (s : Shared) (u : Value), BindsTo s fd ⟨[u], []⟩ [(x, u)]) ∧ ∀ base : Heap, (K w.params).In base → base.Ns mainGlobals mg → base.NoDigits → FnA l.prog w (K w.params) mg base callerA fa fd [x] (spP (K w.params) f))
    (good : ∀ ns : List Int, ns.length ≤ n → f [scriptD ns] = some (.dat (.bl true))) :
    PySem.W.WalkO q loose XP YP l.row.toRowW d [] (fun f vs => PySem.call f vs) := by
  apply Att.attach_call most plain
  intro w s0 s1 mg mb fa o pm cd doc a vs ns Gr Y ho hd hcd hmg hobj hints hlen hg
  obtain ⟨fd, hb, hF⟩ := F w mg fa _ (hY w _ Y) Gr.T.g hmg
  exact law_callA (hY w _ Y) Gr.T.g Gr.T.b Gr.T.builtins Gr.T.nolimit hg hobj hints (Nat.le_trans hlen small) Gr.T.nodigits hF hb (good ns hlen)
def isRef : D → Bool
  | .lst _ => true
  | .tup _ => true
  | _ => false
def shownD (d : D) : List Nat := d.py.shown.cps.toList
def reprOk (d : D) : Bool := isRef d && d.py.canLay0 && d.py.showable && decide (d.py.depth ≤ 64) && decide (d.py.shown.length ≤ sizeLine)
def reprD : List D → Option D
  | [d] => if reprOk d = true then some (.str (shownD d)) else none
  | _ => none
mutual
theorem D.noDict : ∀ d : D, d.py.canLay0 = true → d.py.hasDict = false
  | .non, _ => rfl
  | .bl _, _ => rfl
  | .int _, _ => rfl
  | .str _, _ => rfl
  | .raw _, h => by cases h
  | .dic _ _, h => by cases h
  | .tup l, h => D.noDictA l h
  | .lst l, h => D.noDictA l h
theorem D.noDictA : ∀ l : List D, PyData.canLayAll0 (D.pyA l) = true → PyData.hasDictAll (D.pyA l) = false
  | [], _ => rfl
  | d :: l, h => by
    have h : (PyData.canLay0 d.py && PyData.canLayAll0 (D.pyA l)) = true := h
    rw [Bool.and_eq_true] at h
    show (PyData.hasDict d.py || PyData.hasDictAll (D.pyA l)) = false
    rw [D.noDict d h.1, D.noDictA l h.2]
    rfl
end
def rRepr (K : PySem.W.Frag) : List V → Hp → VK → Prop := fun xs H Q => ∃ (a : Addr) (d : PyData), xs = [.ref a] ∧ Dp K H (.ref a) d ∧ d.showable = true ∧ d.hasDict = false ∧ d.depth ≤ 64 ∧ d.shown.length ≤ sizeLine ∧ Q (.str d.shown) H
theorem call_reprD {X : Cx} (free : X.A.guards = some []) (room : X.A.units + 100 < cLine) : CallR X (.builtin "repr") (rRepr X.K) := by
  intro pins s σ H xs us Q I r h
  obtain ⟨a, d, rfl, dp, sh, nd, dep, siz, q⟩ := h
  obtain ⟨u, rfl, ru⟩ := vals1 r
  obtain ⟨as, rd⟩ := Dp.reads I d _ u dp ru
  have eu : u = .ref a := ru
  subst eu
  exact repr_of_reads' rd sh (PyData.noDict_hsm nd) free (by omega) (fun _ _ e => e) (fun h' u tk hk => ⟨.str _, H, I.kept hk, ⟨_, rfl⟩, q⟩) siz
theorem call_reprR {X : Cx} {k : Nat} (free : X.A.guards = some []) (room : Room k X.A) : CallR X (.builtin "repr") (rRepr X.K) := call_reprD free (by have := room.un; omega)
theorem s_repr {K : PySem.W.Frag} : CallS K (rRepr K) reprD := by
  intro H vs ds z Q hz e q
  unfold reprD at e
  split at e
  · rename_i d
    split at e
    · rename_i ok
      cases e
      unfold reprOk at ok
      simp only [Bool.and_eq_true, decide_eq_true_eq] at ok
      obtain ⟨⟨⟨⟨o1, o2⟩, o3⟩, o4⟩, o5⟩ := ok
      cases hz with
      | cons h t =>
        cases t
        have dp := h.dp o2
        have ref : ∃ a, ‹V› = V.ref a := by
          cases h with
          | lst _ _ => exact ⟨_, rfl⟩
          | tup _ _ => exact ⟨_, rfl⟩
          | _ => cases o1
        obtain ⟨a, rfl⟩ := ref
        refine ⟨a, d.py, rfl, dp, o3, D.noDict d o2, o4, o5, ?_⟩
        have : (D.str (shownD d)).v = V.str d.py.shown := by
          show V.str ⟨d.py.shown.cps.toList.toArray⟩ = _
          rw [Array.toArray_toList]
        rw [← this]
        exact q
    · cases e
  · cases e
end Z
set_option Elab.async false
set_option linter.all false
set_option maxRecDepth 100000
set_option maxHeartbeats 4000000
namespace Z
open PySem PySem.Spec PyProof.Rows L2
local macro_rules | `(tactic| walk_at "l") => `(tactic| first | (simp only [wipeG_nil, wipeG_cons, List.set_cons_succ, List.set_cons_zero, List.take_succ_cons, List.take_zero, List.take_nil, List.cons_append, List.nil_append, List.length_cons, List.length_nil, List.set_nil, List.getElem?_cons_zero, List.getElem?_cons_succ, Nat.zero_add, Nat.reduceAdd]; first | done | exact rfl) | exact rfl)
local macro_rules | `(tactic| walk_at "d") => `(tactic| first
  | with_reducible assumption
  | (with_reducible apply dr_div) <;> decide
  | (with_reducible apply dr_mod) <;> decide
  | (with_reducible apply dr_mulr); decide
  | (with_reducible apply dr_mull); decide
  | (with_reducible apply dr_divB) <;> omega
  | (with_reducible apply dr_mulrB) <;> omega
  | (with_reducible apply dr_mullB) <;> omega
  | (with_reducible apply dr_mulC) <;> omega
  | (with_reducible apply dr_mod) <;> omega
  | (with_reducible refine isi_of ?_ ?_); (exact rfl); (first | exact kb_int_int | exact kb_int_bool | exact kb_bool_bool | exact kb_bool_int | exact kb_str_int | exact kb_str_bool | exact kb_str_str | exact kb_int_str | exact kb_bool_str | exact kb_non_int | exact kb_non_bool | exact kb_non_str | exact kb_list_list | exact kb_tuple_tuple | exact kb_list_tuple | exact kb_tuple_list)
  | with_reducible exact dr_abs
  | (with_reducible exact dr_neL _ _)
  | (simp only [Cn.d]; with_reducible assumption)
  | (simp only [Cn.d]; with_reducible exact dr_neL _ _)
  | with_reducible exact in_ints _ _
  | (simp only [Cn.d]; with_reducible exact in_ints _ _)
  | ((with_reducible apply dr_cat); (try simp only [List.length_append, List.length_cons, List.length_nil]); omega)
  | with_reducible exact dr_eqI
  | with_reducible exact dr_eqB
  | with_reducible exact dr_neB
  | with_reducible exact dr_eqS
  | with_reducible exact dr_neI
  | with_reducible exact dr_neS
  | exact rfl)
local macro_rules | `(tactic| walk_at "c") => `(tactic| first | with_reducible assumption | (simp only [Cn.d]; with_reducible assumption))
local macro_rules | `(tactic| walk_at "e") => `(tactic| first
  | with_reducible exact er_C
  | with_reducible exact er_nil
  | (with_reducible apply er_varD); exact rfl
  | (with_reducible apply er_varO); exact rfl
  | (with_reducible apply er_varF); exact rfl
  | (with_reducible apply er_op); walk_at "e"; walk_at "e"; exact rfl; exact rfl; walk_at "d"; exact rfl
  | (with_reducible apply er_chain); walk_at "e"; walk_at "e"; exact rfl; exact rfl; walk_at "d"; (intro _h; walk_at "e"); exact rfl; walk_at "d"
  | (with_reducible apply er_slS); walk_at "e"; walk_at "o"; walk_at "o"; exact rfl; walk_at "z"
  | (with_reducible apply er_slL); walk_at "e"; walk_at "o"; walk_at "o"; exact rfl
  | (with_reducible apply er_list); walk_at "e"; exact rfl; exact rfl
  | (with_reducible apply er_tupL); walk_at "e"; exact rfl
  | (with_reducible apply er_un); walk_at "e"; exact rfl; exact rfl; exact rfl
  | (with_reducible apply er_tst); walk_at "e"
  | (with_reducible apply er_tru); walk_at "e"; exact rfl; exact rfl
  | (with_reducible apply er_andT); walk_at "e"; (intro _h; walk_at "e")
  | (with_reducible apply er_orT); walk_at "e"; (intro _h; walk_at "e")
  | (with_reducible apply er_andTT); walk_at "e"; exact rfl; walk_at "e"
  | (with_reducible apply er_orTF); walk_at "e"; exact rfl; walk_at "e"
  | (with_reducible apply er_notT); walk_at "e"
  | (with_reducible apply er_andV); walk_at "e"; (intro _h; walk_at "e")
  | (with_reducible apply er_orV); walk_at "e"; (intro _h; walk_at "e")
  | (with_reducible apply er_notV); walk_at "e"
  | (with_reducible apply er_andVT); walk_at "e"; exact rfl; walk_at "e"
  | (with_reducible apply er_orVF); walk_at "e"; exact rfl; walk_at "e"
  | (with_reducible apply er_ix); walk_at "e"; walk_at "e"; exact rfl; walk_at "x"
  | (with_reducible apply er_callS); walk_at "e"; exact rfl; walk_at "d"; exact rfl
  | (with_reducible apply er_cons); walk_at "e"; walk_at "e"
  | (with_reducible apply er_callG); walk_at "e"; exact rfl; exact rfl; walk_at "c"; exact rfl
  | (with_reducible apply er_callH); walk_at "e"; exact rfl; exact rfl; walk_at "c"; exact rfl
  | (with_reducible apply er_callV); walk_at "e"; exact rfl; walk_at "c"; exact rfl
  | (with_reducible apply er_callGF); walk_at "e"; exact rfl; exact rfl; walk_at "c"; exact rfl
  | (with_reducible apply er_callHF); walk_at "e"; exact rfl; exact rfl; walk_at "c"; exact rfl
  | (with_reducible apply er_callM); walk_at "e"; exact rfl; exact rfl; exact rfl; exact rfl; exact rfl; walk_at "c"; exact rfl
  | (with_reducible apply er_catL); walk_at "e"; walk_at "e"; exact rfl; exact rfl; walk_at "z"
  | (with_reducible apply er_mt); walk_at "e"; exact rfl; exact rfl; walk_at "e"; exact rfl; exact rfl; walk_at "m"; exact rfl
  | (with_reducible apply er_tup); walk_at "e"; exact rfl; walk_at "z" 
  | (with_reducible apply er_lst); walk_at "e"; exact rfl; walk_at "z")
local macro_rules | `(tactic| walk_at "o") => `(tactic| first | exact er_zoN | ((with_reducible apply er_zoS); walk_at "e"))
local macro_rules | `(tactic| walk_at "x") => `(tactic| first | with_reducible assumption | (simp only [Cn.d]; with_reducible assumption) | exact rfl)
local macro_rules | `(tactic| walk_at "m") => `(tactic| first | with_reducible assumption | (simp only [Cn.d]; with_reducible assumption) | exact rfl)
local macro_rules | `(tactic| walk_at "st") => `(tactic| first
  | ((with_reducible apply set_dat); (walk_at "e"); (exact rfl); walk_at "l")
  | ((with_reducible apply set_own); (walk_at "e"); (exact Nat.le_of_ble_eq_true rfl); (exact rfl); (exact rfl); walk_at "l")
  | ((with_reducible apply asg_run); (walk_at "e"); (exact rfl); walk_at "l")
  | ((with_reducible apply aug_run); (exact rfl); (exact rfl); (walk_at "e"); (exact rfl); (walk_at "d"); (exact rfl); (exact rfl); walk_at "l")
  | ((with_reducible apply sto_run); (walk_at "e"); (walk_at "e"); (walk_at "e"); (exact rfl); (walk_at "x"); walk_at "l")
  | ((with_reducible apply app_run); (walk_at "e"); (exact rfl); (walk_at "e"); (exact rfl); (exact rfl); (walk_at "z"); walk_at "l"))
local macro_rules | `(tactic| walk_at "z") => `(tactic| first | assumption | exact Nat.le_of_ble_eq_true rfl | (simp; omega))
local macro_rules | `(tactic| walk_at "s") => `(tactic| first
  | with_reducible apply sr_nx
  | with_reducible apply sr_assoc
  | with_reducible apply ap_fg
  | ((with_reducible apply fgK_nx); (exact rfl); (walk_at "l"); skip)
  | ((with_reducible apply fgK_ct); (exact rfl); (walk_at "l"); skip)
  | ((with_reducible apply fgK_bk); (exact rfl); (walk_at "l"); skip)
  | with_reducible apply fgK_ret
  | with_reducible apply sr_bk1
  | with_reducible apply sr_ct1
  | with_reducible apply sr_nx1
  | with_reducible apply sr_ct
  | with_reducible apply sr_bk
  | (with_reducible apply sr_retS); (walk_at "e"); skip
  | (with_reducible apply sr_ret); (walk_at "e"); skip
  | (with_reducible apply sr_if); (walk_at "e"); (walk_at "l")
  | (with_reducible apply sr_if1); (walk_at "e"); (walk_at "l")
  | (with_reducible apply seq_nx); (walk_at "st")
  | (with_reducible apply one_nx); (walk_at "st"))
local macro_rules | `(tactic| walk_at "r") => `(tactic| repeat' (first | (intro _) | walk_at "s"))
local macro_rules | `(tactic| walk_at "k") => `(tactic| (intro q; (try simp only [decide_eq_true_eq, decide_eq_false_iff_not, beq_iff_eq, beq_eq_false_iff_ne, ne_eq, Bool.not_eq_true', Bool.not_eq_false', Bool.and_eq_true, Bool.or_eq_true, Bool.and_eq_false_iff, Bool.or_eq_false_iff, Int.not_lt, Int.not_le, List.cons.injEq, and_true, reduceCtorEq, beq_self_eq_true, Bool.not_true, Bool.not_false, Bool.or_false, Bool.false_or, Bool.or_true, Bool.true_or, Bool.and_false, Bool.false_and, Bool.and_true, Bool.true_and, not_true_eq_false, Bool.false_eq_true] at q) <;> (try (exfalso; first | (cases q; done) | omega | contradiction))))
local macro_rules | `(tactic| walk_at "w") => `(tactic| repeat' (first | (walk_at "k") | walk_at "s"))
mutual
def D.rok : D → Bool
  | .non => true
  | .bl _ => true
  | .int i => decide (i.natAbs < 10 ^ 60)
  | .str s => s.all fun c => decide (c < 1114112)
  | .raw _ => false
  | .dic _ _ => false
  | .tup l => D.rokA l
  | .lst l => D.rokA l
def D.rokA : List D → Bool
  | [] => true
  | d :: l => d.rok && D.rokA l
end
mutual
def D.wt : D → Nat
  | .str s => s.length
  | .int _ => 200
  | .tup l => D.wtA l
  | .lst l => D.wtA l
  | _ => 0
def D.wtA : List D → Nat
  | [] => 0
  | d :: l => d.wt + 1 + D.wtA l
end
mutual
def D.dp : D → Nat
  | .tup l => D.dpA l + 1
  | .lst l => D.dpA l + 1
  | _ => 0
def D.dpA : List D → Nat
  | [] => 0
  | d :: l => max d.dp (D.dpA l)
end
theorem big60 {i : Int} (h : i.natAbs < 10 ^ 60) : i.natAbs.log2 < 200 := by
  by_cases z : i.natAbs = 0
  · rw [z]; decide
  · rw [Nat.log2_lt z]
    exact Nat.lt_trans h (by decide)
mutual
theorem rok_lay : ∀ d : D, d.rok = true → d.py.canLay0 = true ∧ d.py.showable = true ∧ d.py.intsShort 61 = true ∧ d.py.depth = d.dp ∧ d.py.weight ≤ d.wt
  | .non, _ => ⟨rfl, rfl, rfl, rfl, Nat.le_refl _⟩
  | .bl _, _ => ⟨rfl, rfl, rfl, rfl, Nat.le_refl _⟩
  | .int i, h => by
    have h : i.natAbs < 10 ^ 60 := of_decide_eq_true h
    have l := big60 h
    refine ⟨rfl, decide_eq_true (by omega), decide_eq_true ?_, rfl, ?_⟩
    · have e := int_text_length_le10 (k := 60) (by decide) h
      show (Str.ofString (toString i)).length ≤ 61
      rw [PySem.ofString_length]
      exact e
    · show (if (i == 0) = true then 0 else i.natAbs.log2 + 1) ≤ 200
      split <;> omega
  | .str s, h => by
    have h : (s.all fun c => decide (c < 1114112)) = true := h
    refine ⟨?_, rfl, rfl, rfl, ?_⟩
    · show PyData.strOk ⟨s.toArray⟩ = true
      simpa [PyData.strOk] using h
    · show s.toArray.size ≤ s.length
      simp
  | .raw _, h => by cases h
  | .dic _ _, h => by cases h
  | .tup l, h => by
    obtain ⟨a, b, c, d, e⟩ := rok_layA l h
    exact ⟨a, b, c, by show PyData.depthAll _ + 1 = D.dpA l + 1; rw [d], e⟩
  | .lst l, h => by
    obtain ⟨a, b, c, d, e⟩ := rok_layA l h
    exact ⟨a, b, c, by show PyData.depthAll _ + 1 = D.dpA l + 1; rw [d], e⟩
theorem rok_layA : ∀ l : List D, D.rokA l = true → PyData.canLayAll0 (D.pyA l) = true ∧ PyData.showableAll (D.pyA l) = true ∧ PyData.intsShortAll 61 (D.pyA l) = true ∧ PyData.depthAll (D.pyA l) = D.dpA l ∧ PyData.weightAll (D.pyA l) ≤ D.wtA l
  | [], _ => ⟨rfl, rfl, rfl, rfl, Nat.le_refl _⟩
  | d :: l, h => by
    have h : (d.rok && D.rokA l) = true := h
    rw [Bool.and_eq_true] at h
    obtain ⟨a1, b1, c1, d1, e1⟩ := rok_lay d h.1
    obtain ⟨a2, b2, c2, d2, e2⟩ := rok_layA l h.2
    refine ⟨?_, ?_, ?_, ?_, ?_⟩
    · show (PyData.canLay0 d.py && PyData.canLayAll0 (D.pyA l)) = true
      rw [a1, a2]; rfl
    · show (PyData.showable d.py && PyData.showableAll (D.pyA l)) = true
      rw [b1, b2]; rfl
    · show (PyData.intsShort 61 d.py && PyData.intsShortAll 61 (D.pyA l)) = true
      rw [c1, c2]; rfl
    · show max (PyData.depth d.py) (PyData.depthAll (D.pyA l)) = max d.dp (D.dpA l)
      rw [d1, d2]
    · show PyData.weight d.py + 1 + PyData.weightAll (D.pyA l) ≤ d.wt + 1 + D.wtA l
      omega
end
theorem rok_shp {d : D} (h : d.rok = true) (h2 : d.dp ≤ 60) : d.shp = true := by
  obtain ⟨a, _, _, e, _⟩ := rok_lay d h
  show (d.py.canLay0 && decide (d.py.depth ≤ 64)) = true
  rw [a, e, decide_eq_true (by omega)]
  rfl
theorem rok_repr {d : D} (r : isRef d = true) (h : d.rok = true) (h2 : d.dp ≤ 60) (h3 : d.wt ≤ 100000) : reprOk d = true := by
  obtain ⟨a, b, c, e, w⟩ := rok_lay d h
  have s := PyData.shown_le 61 (by decide) d.py (PyData.leavesShort_of_canLay0 61 d.py a c)
  have m : (61 + 2) * d.py.weight ≤ (61 + 2) * 100000 := Nat.mul_le_mul_left _ (by omega)
  have z : (7000000 : Nat) ≤ sizeLine := by decide
  unfold reprOk
  rw [r, a, b, decide_eq_true (show d.py.depth ≤ 64 by omega), decide_eq_true (show d.py.shown.length ≤ sizeLine by omega)]
  rfl
theorem dr_repr {d : D} (h : reprOk d = true) : reprD [d] = some (.str (shownD d)) := by
  unfold reprD
  simp only [h, if_true]
/-- equal shapes compare -/
theorem dr_eqR {d e : D} (h : d.rok = true) (h2 : d.dp ≤ 60) (k : e.rok = true) (k2 : e.dp ≤ 60) : eqD d e = some (.bl (D.eqv d e)) := by
  unfold eqD eqOk
  rw [rok_shp h h2, rok_shp k k2]
  simp
theorem dr_neR {d e : D} (h : d.rok = true) (h2 : d.dp ≤ 60) (k : e.rok = true) (k2 : e.dp ≤ 60) : neqD d e = some (.bl (!D.eqv d e)) := by
  unfold neqD neOk
  rw [rok_shp h h2, rok_shp k k2]
  simp
theorem txs_signs' : ∀ acc : List Nat, txsD (acc.map fun c => D.str [c]) = some (acc.map fun c => [c])
  | [] => rfl
  | c :: r => by simp only [List.map_cons, txsD, txs_signs' r, Option.bind_eq_bind, Option.bind_some]
theorem join_signs' : ∀ acc : List Nat, TL.joinL [] (acc.map fun c => [c]) = acc
  | [] => rfl
  | [c] => rfl
  | c :: d :: r => by
    have := join_signs' (d :: r)
    simp only [List.map_cons, TL.joinL, List.nil_append] at this ⊢
    rw [this]
    rfl
theorem sum_signs' : ∀ acc : List Nat, ((acc.map fun c => [c]).map List.length).sum = acc.length
  | [] => rfl
  | c :: r => by
    have := sum_signs' r
    simp only [List.map_cons, List.sum_cons, List.length_cons, List.length_nil] at this ⊢
    omega
theorem dr_joinS (acc : List Nat) (h : acc.length ≤ 100000) : joinD (.str []) [.lst (acc.map fun c => D.str [c])] = some (.str acc) := by
  have : (100000 : Nat) ≤ sizeLine := by decide
  simp only [joinD, txs_signs', Option.bind_eq_bind, Option.bind_some, sum_signs', join_signs', List.length_nil, Nat.mul_zero, Nat.add_zero]
  rw [if_pos (by omega)]
end Z
set_option Elab.async false
set_option linter.all false
set_option maxRecDepth 100000
set_option maxHeartbeats 4000000
namespace Z
open PySem PySem.Spec PyProof.Rows L2
end Z
set_option Elab.async false
set_option linter.all false
set_option maxRecDepth 100000
set_option maxHeartbeats 4000000
namespace Z
open PySem PySem.Spec PyProof.Rows L2
section
open PySem.SeqAt PySem.MeetsSeq PySem.MeetsSeq2 PySem.MeetsSeq3 Ob
open PySem.AutoSeq1 (wpAny_loadPart')
theorem tup_meet (p q : Addr) (us ws : Array Value) (n m : Nat) (c1 c2 : Option Addr) (t1 t2 : Array (Option Value)) (e r : Nat → Bool) :
    Meets (Builtin.«tuple.__lt__» ⟨[.ref p, .ref q], []⟩)
      (fun A R s => s.heap.get? p = some { cls := .type "tuple", dict := c1, data := .seq us n, slots := t1 } ∧ s.heap.get? q = some { cls := .type "tuple", dict := c2, data := .seq ws m, slots := t2 } ∧
        (∀ j (h1 : j < us.size) (h2 : j < ws.size), EqAt A.in1 s us[j] ws[j] (e j)) ∧
        (∀ j (h1 : j < us.size) (h2 : j < ws.size), (∀ i, i < j → e i = true) → e j = false → RcOp .Lt A.in1 s us[j] ws[j] (r j)) ∧
        R (.ok (.ret (.bool (lexAt e r (decide (us.size < ws.size)) 0 (min us.size ws.size))))) s) := by
  refine .of_wp fun prog w A R s hyp => ?_
  obtain ⟨hp, gg, dd, tk, os⟩ := s
  obtain ⟨atp, atq, eqs, lts, goal⟩ := hyp
  have subs := AutoSeq1.sub_tuple_tuple
  have zl : (us.toList.zip ws.toList).length = min us.size ws.size := by simp
  wp_walk using wpAny_loadPart' atp, wpAny_loadPart' atq, wpAny_forIn_list _ (fun left acc st => acc.1 = none ∧ st = ⟨hp, gg, dd, tk, os⟩ ∧ ∃ k, left = (us.toList.zip ws.toList).drop k ∧ (∀ i, i < k → e i = true) ∧
    R (.ok (.ret (.bool (lexAt e r (decide (us.size < ws.size)) k (min us.size ws.size - k))))) ⟨hp, gg, dd, tk, os⟩) _
  case turn =>
    rintro ⟨u1, w1⟩ left acc st ⟨_, rfl, k, hz, before, hR⟩
    have hk : k < (us.toList.zip ws.toList).length := by
      by_cases c : k < (us.toList.zip ws.toList).length
      · exact c
      · rw [List.drop_of_length_le (by omega)] at hz
        cases hz
    have hm : k < min us.size ws.size := zl ▸ hk
    have k1 : k < us.size := by omega
    have k2 : k < ws.size := by omega
    rw [List.drop_eq_getElem_cons hk] at hz
    injection hz with pair others
    have eu : u1 = us[k] := by simpa using congrArg Prod.fst pair
    have ew : w1 = ws[k] := by simpa using congrArg Prod.snd pair
    subst eu ew
    rw [show min us.size ws.size - k = (min us.size ws.size - (k + 1)) + 1 by omega, lexAt_succ] at hR
    refine wpAny_bind (eqs k k1 k2 prog w _ _ ?_)
    cases hek : e k with
    | true =>
      rw [hek, if_pos rfl] at hR
      wp_walk
      refine ⟨rfl, rfl, k + 1, others, fun i hi => ?_, hR⟩
      by_cases c : i = k
      · rw [c]; exact hek
      · exact before i (by omega)
    | false =>
      rw [hek, if_neg Bool.false_ne_true] at hR
      have now := lts k k1 k2 before hek prog w
      wp_walk using now
      exact ⟨_, rfl, by simpa using hR⟩
  case fin =>
    rintro ⟨a1, a2⟩ st ⟨ha, rfl, k, hz, _, hR⟩
    simp only at ha
    subst ha
    have over : min us.size ws.size ≤ k := by
      by_cases c : k < (us.toList.zip ws.toList).length
      · rw [List.drop_eq_getElem_cons c] at hz
        cases hz
      · omega
    rw [Nat.sub_eq_zero_of_le over, lexAt_zero] at hR
    wp_walk
    exact ⟨_, rfl, by simpa [Builtin.Tuple.tupleCompareSizes] using hR⟩
  case h =>
    exact ⟨rfl, rfl, 0, rfl, fun i hi => absurd hi (Nat.not_lt_zero i), by simpa using goal⟩
theorem tup_lt {A : Around} {s : Shared} {p q : Addr} {us ws : Array Value} {e r : Nat → Bool} (atp : s.heap.IsTuple p us) (atq : s.heap.IsTuple q ws) (room : A.units < cLine)
    (eqs : ∀ j (h1 : j < us.size) (h2 : j < ws.size), EqAt A.in1 s us[j] ws[j] (e j))
    (lts : ∀ j (h1 : j < us.size) (h2 : j < ws.size), (∀ i, i < j → e i = true) → e j = false → RcOp .Lt A.in1 s us[j] ws[j] (r j)) :
    RcOp .Lt A s (.ref p) (.ref q) (lexAt e r (decide (us.size < ws.size)) 0 (min us.size ws.size)) := by
  intro prog w E Q h
  obtain ⟨⟨k1, c1, d1, t1⟩, o1, rfl, n, rfl⟩ := id atp
  obtain ⟨⟨k2, c2, d2, t2⟩, o2, rfl, m, rfl⟩ := id atq
  exact richCompare_meets_room (op := .Lt) ⟨_, o1, rfl⟩ ⟨_, o2, rfl⟩ F.slot_tuple_lt F.entry_tuple_lt (F.args_tuple_lt_2 _ _) (tup_meet p q us ws n m c1 c2 t1 t2 e r) ⟨o1, o2, eqs, lts, ⟨nofun, h⟩⟩ room
mutual
def ltP : PyData → PyData → Option Bool
  | .int a, .int b => some (decide (a < b))
  | .str x, .str y => some (decide (x.cps.toList < y.cps.toList))
  | .tuple xs, .tuple ys => ltPs xs ys
  | _, _ => none
def ltPs : List PyData → List PyData → Option Bool
  | [], [] => some false
  | [], _ :: _ => some true
  | _ :: _, [] => some false
  | x :: xs, y :: ys => if PyData.eqv x y = true then ltPs xs ys else ltP x y
end
theorem reads_get {h : Heap} : ∀ {vs : List Value} {ds : List PyData} {as : List Addr}, ReadsAll h vs ds as → ∀ {j : Nat} (h1 : j < vs.length) (h2 : j < ds.length), ∃ bs, Reads h vs[j] ds[j] bs
  | _, _, _, .nil, j, h1, _ => absurd h1 (Nat.not_lt_zero j)
  | _, _, _, .cons r _, 0, _, _ => ⟨_, r⟩
  | _, _, _, .cons _ t, j + 1, h1, h2 => reads_get t (Nat.lt_of_succ_lt_succ h1) (Nat.lt_of_succ_lt_succ h2)
theorem reads_len {h : Heap} : ∀ {vs : List Value} {ds : List PyData} {as : List Addr}, ReadsAll h vs ds as → vs.length = ds.length
  | _, _, _, .nil => rfl
  | _, _, _, .cons _ t => congrArg Nat.succ (reads_len t)
theorem first_ne {b : Bool} : ∀ {xs ys : List PyData} {j : Nat} (h1 : j < xs.length) (h2 : j < ys.length), ltPs xs ys = some b → (∀ i (i1 : i < xs.length) (i2 : i < ys.length), i < j → PyData.eqv xs[i] ys[i] = true) → PyData.eqv xs[j] ys[j] = false → ltP xs[j] ys[j] = some b
  | x :: xs, y :: ys, 0, _, _, h, _, ne => by
    have ne : PyData.eqv x y = false := ne
    simp only [ltPs, ne, Bool.false_eq_true, if_false] at h
    exact h
  | x :: xs, y :: ys, j + 1, h1, h2, h, eqs, ne => by
    have e0 : PyData.eqv x y = true := eqs 0 (by simp) (by simp) (by omega)
    simp only [ltPs, e0, if_true] at h
    exact first_ne (xs := xs) (ys := ys) (j := j) (Nat.lt_of_succ_lt_succ h1) (Nat.lt_of_succ_lt_succ h2) h (fun i i1 i2 hi => eqs (i + 1) (Nat.succ_lt_succ i1) (Nat.succ_lt_succ i2) (by omega)) ne
theorem all_eq : ∀ {xs ys : List PyData}, (∀ i (i1 : i < xs.length) (i2 : i < ys.length), PyData.eqv xs[i] ys[i] = true) → ltPs xs ys = some (decide (xs.length < ys.length))
  | [], [], _ => rfl
  | [], _ :: _, _ => by simp [ltPs]
  | _ :: _, [], _ => by simp [ltPs]
  | x :: xs, y :: ys, eqs => by
    have e0 : PyData.eqv x y = true := eqs 0 (by simp) (by simp)
    have ih := all_eq (xs := xs) (ys := ys) fun i i1 i2 => eqs (i + 1) (Nat.succ_lt_succ i1) (Nat.succ_lt_succ i2)
    simp only [ltPs, e0, if_true, ih]
    simp
theorem lexAt_const {e : Nat → Bool} {z b : Bool} : ∀ (k i : Nat), (z = b ∨ ∃ j, i ≤ j ∧ j < i + k ∧ e j = false) → lexAt e (fun _ => b) z i k = b
  | 0, i, h => by
    rcases h with h | ⟨j, h1, h2, _⟩
    · exact h
    · omega
  | k + 1, i, h => by
    rw [lexAt_succ]
    cases he : e i with
    | false => rfl
    | true =>
      rw [if_pos rfl]
      refine lexAt_const k (i + 1) (h.imp id fun ⟨j, h1, h2, h3⟩ => ⟨j, ?_, by omega, h3⟩)
      have : j ≠ i := fun z => by rw [z, he] at h3; cases h3
      omega
theorem depth_mem {x : PyData} : ∀ {xs : List PyData} {j : Nat} (h : j < xs.length), xs[j].depth ≤ PyData.depthAll xs
  | y :: ys, 0, _ => by show PyData.depth y ≤ max (PyData.depth y) (PyData.depthAll ys); omega
  | y :: ys, j + 1, h => by
    have := depth_mem (x := x) (xs := ys) (j := j) (Nat.lt_of_succ_lt_succ h)
    show (ys[j]'(Nat.lt_of_succ_lt_succ h)).depth ≤ max (PyData.depth y) (PyData.depthAll ys)
    omega
theorem lay_mem : ∀ {xs : List PyData} {j : Nat} (h : j < xs.length), PyData.canLayAll0 xs = true → xs[j].canLay0 = true
  | y :: ys, 0, _, hl => by
    have hl : (PyData.canLay0 y && PyData.canLayAll0 ys) = true := hl
    exact (Bool.and_eq_true_iff.mp hl).1
  | y :: ys, j + 1, h, hl => by
    have hl : (PyData.canLay0 y && PyData.canLayAll0 ys) = true := hl
    exact lay_mem (xs := ys) (Nat.lt_of_succ_lt_succ h) (Bool.and_eq_true_iff.mp hl).2
theorem rc_lt : ∀ (n : Nat) (d e : PyData) (b : Bool) (A : Around) (s : Shared) (u v : Value) (as bs : List Addr), d.depth ≤ n → ltP d e = some b → Reads s.heap u d as → Reads s.heap v e bs → d.canLay0 = true → e.canLay0 = true → A.units + n < cLine → RcOp .Lt A s u v b := by
  intro n
  induction n with
  | zero =>
    intro d e b A s u v as bs hn h ru rv ld le room
    cases ru with
    | int i t =>
      cases rv with
      | int j t' => cases h; exact .lt_int i j t t'
      | _ => cases h
    | str x t =>
      cases rv with
      | str y t' => cases h; exact fun prog w E Q q => PySem.P.lt_str q
      | _ => cases h
    | tuple _ _ _ _ =>
      have hn : PyData.depthAll _ + 1 ≤ 0 := hn
      omega
    | _ => cases rv <;> cases h
  | succ n ih =>
    intro d e b A s u v as bs hn h ru rv ld le room
    cases ru with
    | int i t =>
      cases rv with
      | int j t' => cases h; exact .lt_int i j t t'
      | _ => cases h
    | str x t =>
      cases rv with
      | str y t' => cases h; exact fun prog w E Q q => PySem.P.lt_str q
      | _ => cases h
    | tuple h1 h2 h3 h4 =>
      rename_i p o vs n1 xs
      cases rv with
      | tuple g1 g2 g3 g4 =>
        rename_i q o' ws n2 ys
        have h : ltPs xs ys = some b := h
        have hn : PyData.depthAll xs + 1 ≤ n + 1 := hn
        have ld : PyData.canLayAll0 xs = true := by simpa only [PyData.canLay0] using ld
        have le : PyData.canLayAll0 ys = true := by simpa only [PyData.canLay0] using le
        have lx : vs.size = xs.length := by rw [← reads_len h4, Array.length_toList]
        have ly : ws.size = ys.length := by rw [← reads_len g4, Array.length_toList]
        have tp : s.heap.IsTuple p vs := ⟨o, h1, h2, n1, h3⟩
        have tq : s.heap.IsTuple q ws := ⟨o', g1, g2, n2, g3⟩
        have key := tup_lt (A := A) (s := s) (e := fun j => PyData.eqv (xs[j]?.getD .none) (ys[j]?.getD .none)) (r := fun _ => b) tp tq (by omega) (fun j j1 j2 => by
          have a1 : j < xs.length := by omega
          have a2 : j < ys.length := by omega
          obtain ⟨r1, w1⟩ := reads_get h4 (j := j) (by rw [Array.length_toList]; exact j1) a1
          obtain ⟨r2, w2⟩ := reads_get g4 (j := j) (by rw [Array.length_toList]; exact j2) a2
          have dep := depth_mem (x := .none) a1
          simp only [List.getElem?_eq_getElem a1, List.getElem?_eq_getElem a2, Option.getD_some]
          rw [Array.getElem_toList] at w1 w2
          exact eqAt_reads _ _ _ _ _ _ _ _ w1 w2 (lay_mem a1 ld) (lay_mem a2 le) (by show A.units + 1 + _ < cLine; omega)) (fun j j1 j2 bef ne => by
          have a1 : j < xs.length := by omega
          have a2 : j < ys.length := by omega
          obtain ⟨r1, w1⟩ := reads_get h4 (j := j) (by rw [Array.length_toList]; exact j1) a1
          obtain ⟨r2, w2⟩ := reads_get g4 (j := j) (by rw [Array.length_toList]; exact j2) a2
          have dep := depth_mem (x := .none) a1
          rw [Array.getElem_toList] at w1 w2
          simp only [List.getElem?_eq_getElem a1, List.getElem?_eq_getElem a2, Option.getD_some] at ne
          have lt := first_ne a1 a2 h (fun i i1 i2 hi => by
            have := bef i hi
            simpa only [List.getElem?_eq_getElem i1, List.getElem?_eq_getElem i2, Option.getD_some] using this) ne
          exact ih _ _ b _ _ _ _ _ _ (by omega) lt w1 w2 (lay_mem a1 ld) (lay_mem a2 le) (by show A.units + 1 + n < cLine; omega))
        have val : lexAt (fun j => PyData.eqv (xs[j]?.getD .none) (ys[j]?.getD .none)) (fun _ => b) (decide (vs.size < ws.size)) 0 (min vs.size ws.size) = b := by
          apply lexAt_const
          by_cases c : ∀ i (i1 : i < xs.length) (i2 : i < ys.length), PyData.eqv xs[i] ys[i] = true
          · left
            rw [lx, ly]
            have := all_eq c
            rw [h] at this
            exact (Option.some.inj this).symm
          · right
            simp only [Classical.not_forall] at c
            obtain ⟨i, i1, i2, c⟩ := c
            exact ⟨i, Nat.zero_le _, by omega, by simp only [List.getElem?_eq_getElem i1, List.getElem?_eq_getElem i2, Option.getD_some]; exact Bool.eq_false_iff.mpr c⟩
        rw [val] at key
        exact key
      | _ => cases h
    | _ => cases rv <;> cases h
end
mutual
def ltT : D → D → Option Bool
  | .int a, .int b => some (decide (a < b))
  | .str x, .str y => some (decide (x < y))
  | .tup xs, .tup ys => ltTs xs ys
  | _, _ => none
def ltTs : List D → List D → Option Bool
  | [], [] => some false
  | [], _ :: _ => some true
  | _ :: _, [] => some false
  | x :: xs, y :: ys => if D.eqv x y = true then ltTs xs ys else ltT x y
end
mutual
theorem ltT_py : ∀ d e : D, ∀ b, ltT d e = some b → ltP d.py e.py = some b
  | .int a, .int b, _, h => h
  | .str x, .str y, _, h => h
  | .tup xs, .tup ys, b, h => ltTs_py xs ys b h
  | .int _, .non, _, h | .int _, .bl _, _, h | .int _, .str _, _, h | .int _, .tup _, _, h | .int _, .lst _, _, h | .int _, .raw _, _, h | .int _, .dic _ _, _, h => by cases h
  | .str _, .non, _, h | .str _, .bl _, _, h | .str _, .int _, _, h | .str _, .tup _, _, h | .str _, .lst _, _, h | .str _, .raw _, _, h | .str _, .dic _ _, _, h => by cases h
  | .tup _, .non, _, h | .tup _, .bl _, _, h | .tup _, .int _, _, h | .tup _, .str _, _, h | .tup _, .lst _, _, h | .tup _, .raw _, _, h | .tup _, .dic _ _, _, h => by cases h
  | .non, _, _, h | .bl _, _, _, h | .lst _, _, _, h | .raw _, _, _, h | .dic _ _, _, _, h => by cases h
theorem ltTs_py : ∀ l m : List D, ∀ b, ltTs l m = some b → ltPs (D.pyA l) (D.pyA m) = some b
  | [], [], _, h => h
  | [], _ :: _, _, h => h
  | _ :: _, [], _, h => h
  | x :: xs, y :: ys, b, h => by
    show (if PyData.eqv x.py y.py = true then ltPs (D.pyA xs) (D.pyA ys) else ltP x.py y.py) = some b
    rw [D.py_eqv]
    simp only [ltTs] at h
    split at h
    · rename_i c; rw [if_pos c]; exact ltTs_py xs ys b h
    · rename_i c; rw [if_neg c]; exact ltT_py x y b h
end
def ltX (d e : D) : Option D := match d, e with
  | .int i, .int j => some (.bl (decide (i < j)))
  | .str i, .str j => some (.bl (decide (i < j)))
  | .tup l, .tup m => if ((D.tup l).shp && (D.tup m).shp) = true then (ltTs l m).map D.bl else none
  | _, _ => none
def rLtD (K : PySem.W.Frag) : R2 := fun x y H Q => ∃ d e b, Dp K H x d ∧ Dp K H y e ∧ SeqAt.shaped d = true ∧ SeqAt.shaped e = true ∧ ltP d e = some b ∧ Q (.bl b) H
theorem op_ltD {X : Cx} (room : X.A.units + 64 < cLine) : OpR X (compareOp .Lt) (rLtD X.K) := by
  intro pins s σ H x y v u Q I rx ry h
  obtain ⟨d, e, b, hd, he, sd, se, lt, q⟩ := h
  obtain ⟨as, r1⟩ := Dp.reads I d x v hd rx
  obtain ⟨bs, r2⟩ := Dp.reads I e y u he ry
  have key := rc_lt 64 d e b X.A s _ _ _ _ (SeqAt.depth_of_shaped sd) lt r1 r2 (SeqAt.canLay_of_shaped sd) (SeqAt.canLay_of_shaped se) room
  exact key X.prog X.w _ _ ⟨.bl _, H, I, rfl, q⟩
theorem o_ltX {X : Cx} {k : Nat} (hr : Room k X.A) : OpR X (compareOp .Lt) (fun x y H Q => rLtU x y H Q ∨ rLtD X.K x y H Q) := OpR.or o_lt (op_ltD hr.units)
theorem s_ltX {K : PySem.W.Frag} : OpS K (fun x y H Q => rLtU x y H Q ∨ rLtD K x y H Q) ltX := by
  intro H x y d e z Q hx hy h q
  unfold ltX at h
  split at h
  · rename_i i j
    exact .inl (s_lt H x y _ _ z Q hx hy (show ltD (.int i) (.int j) = some z from h) q)
  · rename_i i j
    exact .inl (s_lt H x y _ _ z Q hx hy (show ltD (.str i) (.str j) = some z from h) q)
  · rename_i l m
    split at h
    · rename_i c
      rw [Bool.and_eq_true] at c
      rw [Option.map_eq_some_iff] at h
      obtain ⟨b, hb, rfl⟩ := h
      exact .inr ⟨_, _, b, hx.dp (SeqAt.canLay_of_shaped c.1), hy.dp (SeqAt.canLay_of_shaped c.2), c.1, c.2, ltTs_py l m b hb, q⟩
    · cases h
  · cases h
end Z
set_option Elab.async false
set_option linter.all false
set_option maxRecDepth 100000
set_option maxHeartbeats 4000000
namespace Z
open PySem PySem.Spec PyProof.Rows L2
local macro_rules | `(tactic| walk_at "l") => `(tactic| first | (simp only [wipeG_nil, wipeG_cons, List.set_cons_succ, List.set_cons_zero, List.take_succ_cons, List.take_zero, List.take_nil, List.cons_append, List.nil_append, List.length_cons, List.length_nil, List.set_nil, List.getElem?_cons_zero, List.getElem?_cons_succ, Nat.zero_add, Nat.reduceAdd]; first | done | exact rfl) | exact rfl)
local macro_rules | `(tactic| walk_at "d") => `(tactic| first
  | with_reducible assumption
  | (with_reducible apply dr_div) <;> decide
  | (with_reducible apply dr_mod) <;> decide
  | (with_reducible apply dr_mulr); decide
  | (with_reducible apply dr_mull); decide
  | (with_reducible apply dr_divB) <;> omega
  | (with_reducible apply dr_mulrB) <;> omega
  | (with_reducible apply dr_mullB) <;> omega
  | (with_reducible apply dr_mulC) <;> omega
  | (with_reducible apply dr_mod) <;> omega
  | (with_reducible refine isi_of ?_ ?_); (exact rfl); (first | exact kb_int_int | exact kb_int_bool | exact kb_bool_bool | exact kb_bool_int | exact kb_str_int | exact kb_str_bool | exact kb_str_str | exact kb_int_str | exact kb_bool_str | exact kb_non_int | exact kb_non_bool | exact kb_non_str | exact kb_list_list | exact kb_tuple_tuple | exact kb_list_tuple | exact kb_tuple_list)
  | with_reducible exact dr_abs
  | (with_reducible exact dr_neL _ _)
  | (simp only [Cn.d]; with_reducible assumption)
  | (simp only [Cn.d]; with_reducible exact dr_neL _ _)
  | with_reducible exact in_ints _ _
  | (simp only [Cn.d]; with_reducible exact in_ints _ _)
  | ((with_reducible apply dr_cat); (try simp only [List.length_append, List.length_cons, List.length_nil]); omega)
  | with_reducible exact dr_eqI
  | with_reducible exact dr_eqB
  | with_reducible exact dr_neB
  | with_reducible exact dr_eqS
  | with_reducible exact dr_neI
  | with_reducible exact dr_neS
  | exact rfl)
local macro_rules | `(tactic| walk_at "c") => `(tactic| first | with_reducible assumption | (simp only [Cn.d]; with_reducible assumption))
local macro_rules | `(tactic| walk_at "e") => `(tactic| first
  | with_reducible exact er_C
  | with_reducible exact er_nil
  | (with_reducible apply er_varD); exact rfl
  | (with_reducible apply er_varO); exact rfl
  | (with_reducible apply er_varF); exact rfl
  | (with_reducible apply er_op); walk_at "e"; walk_at "e"; exact rfl; exact rfl; walk_at "d"; exact rfl
  | (with_reducible apply er_chain); walk_at "e"; walk_at "e"; exact rfl; exact rfl; walk_at "d"; (intro _h; walk_at "e"); exact rfl; walk_at "d"
  | (with_reducible apply er_slS); walk_at "e"; walk_at "o"; walk_at "o"; exact rfl; walk_at "z"
  | (with_reducible apply er_slL); walk_at "e"; walk_at "o"; walk_at "o"; exact rfl
  | (with_reducible apply er_list); walk_at "e"; exact rfl; exact rfl
  | (with_reducible apply er_tupL); walk_at "e"; exact rfl
  | (with_reducible apply er_un); walk_at "e"; exact rfl; exact rfl; exact rfl
  | (with_reducible apply er_tst); walk_at "e"
  | (with_reducible apply er_tru); walk_at "e"; exact rfl; exact rfl
  | (with_reducible apply er_andT); walk_at "e"; (intro _h; walk_at "e")
  | (with_reducible apply er_orT); walk_at "e"; (intro _h; walk_at "e")
  | (with_reducible apply er_andTT); walk_at "e"; exact rfl; walk_at "e"
  | (with_reducible apply er_orTF); walk_at "e"; exact rfl; walk_at "e"
  | (with_reducible apply er_notT); walk_at "e"
  | (with_reducible apply er_andV); walk_at "e"; (intro _h; walk_at "e")
  | (with_reducible apply er_orV); walk_at "e"; (intro _h; walk_at "e")
  | (with_reducible apply er_notV); walk_at "e"
  | (with_reducible apply er_andVT); walk_at "e"; exact rfl; walk_at "e"
  | (with_reducible apply er_orVF); walk_at "e"; exact rfl; walk_at "e"
  | (with_reducible apply er_ix); walk_at "e"; walk_at "e"; exact rfl; walk_at "x"
  | (with_reducible apply er_callS); walk_at "e"; exact rfl; walk_at "d"; exact rfl
  | (with_reducible apply er_cons); walk_at "e"; walk_at "e"
  | (with_reducible apply er_callG); walk_at "e"; exact rfl; exact rfl; walk_at "c"; exact rfl
  | (with_reducible apply er_callH); walk_at "e"; exact rfl; exact rfl; walk_at "c"; exact rfl
  | (with_reducible apply er_callV); walk_at "e"; exact rfl; walk_at "c"; exact rfl
  | (with_reducible apply er_callGF); walk_at "e"; exact rfl; exact rfl; walk_at "c"; exact rfl
  | (with_reducible apply er_callHF); walk_at "e"; exact rfl; exact rfl; walk_at "c"; exact rfl
  | (with_reducible apply er_callM); walk_at "e"; exact rfl; exact rfl; exact rfl; exact rfl; exact rfl; walk_at "c"; exact rfl
  | (with_reducible apply er_catL); walk_at "e"; walk_at "e"; exact rfl; exact rfl; walk_at "z"
  | (with_reducible apply er_mt); walk_at "e"; exact rfl; exact rfl; walk_at "e"; exact rfl; exact rfl; walk_at "m"; exact rfl
  | (with_reducible apply er_tup); walk_at "e"; exact rfl; walk_at "z" 
  | (with_reducible apply er_lst); walk_at "e"; exact rfl; walk_at "z")
local macro_rules | `(tactic| walk_at "o") => `(tactic| first | exact er_zoN | ((with_reducible apply er_zoS); walk_at "e"))
local macro_rules | `(tactic| walk_at "x") => `(tactic| first | with_reducible assumption | (simp only [Cn.d]; with_reducible assumption) | exact rfl)
local macro_rules | `(tactic| walk_at "m") => `(tactic| first | with_reducible assumption | (simp only [Cn.d]; with_reducible assumption) | exact rfl)
local macro_rules | `(tactic| walk_at "st") => `(tactic| first
  | ((with_reducible apply set_dat); (walk_at "e"); (exact rfl); walk_at "l")
  | ((with_reducible apply set_own); (walk_at "e"); (exact Nat.le_of_ble_eq_true rfl); (exact rfl); (exact rfl); walk_at "l")
  | ((with_reducible apply asg_run); (walk_at "e"); (exact rfl); walk_at "l")
  | ((with_reducible apply aug_run); (exact rfl); (exact rfl); (walk_at "e"); (exact rfl); (walk_at "d"); (exact rfl); (exact rfl); walk_at "l")
  | ((with_reducible apply sto_run); (walk_at "e"); (walk_at "e"); (walk_at "e"); (exact rfl); (walk_at "x"); walk_at "l")
  | ((with_reducible apply app_run); (walk_at "e"); (exact rfl); (walk_at "e"); (exact rfl); (exact rfl); (walk_at "z"); walk_at "l"))
local macro_rules | `(tactic| walk_at "z") => `(tactic| first | assumption | exact Nat.le_of_ble_eq_true rfl | (simp; omega))
local macro_rules | `(tactic| walk_at "s") => `(tactic| first
  | with_reducible apply sr_nx
  | with_reducible apply sr_assoc
  | with_reducible apply ap_fg
  | ((with_reducible apply fgK_nx); (exact rfl); (walk_at "l"); skip)
  | ((with_reducible apply fgK_ct); (exact rfl); (walk_at "l"); skip)
  | ((with_reducible apply fgK_bk); (exact rfl); (walk_at "l"); skip)
  | with_reducible apply fgK_ret
  | with_reducible apply sr_bk1
  | with_reducible apply sr_ct1
  | with_reducible apply sr_nx1
  | with_reducible apply sr_ct
  | with_reducible apply sr_bk
  | (with_reducible apply sr_retS); (walk_at "e"); skip
  | (with_reducible apply sr_ret); (walk_at "e"); skip
  | (with_reducible apply sr_if); (walk_at "e"); (walk_at "l")
  | (with_reducible apply sr_if1); (walk_at "e"); (walk_at "l")
  | (with_reducible apply seq_nx); (walk_at "st")
  | (with_reducible apply one_nx); (walk_at "st"))
local macro_rules | `(tactic| walk_at "r") => `(tactic| repeat' (first | (intro _) | walk_at "s"))
local macro_rules | `(tactic| walk_at "k") => `(tactic| (intro q; (try simp only [decide_eq_true_eq, decide_eq_false_iff_not, beq_iff_eq, beq_eq_false_iff_ne, ne_eq, Bool.not_eq_true', Bool.not_eq_false', Bool.and_eq_true, Bool.or_eq_true, Bool.and_eq_false_iff, Bool.or_eq_false_iff, Int.not_lt, Int.not_le, List.cons.injEq, and_true, reduceCtorEq, beq_self_eq_true, Bool.not_true, Bool.not_false, Bool.or_false, Bool.false_or, Bool.or_true, Bool.true_or, Bool.and_false, Bool.false_and, Bool.and_true, Bool.true_and, not_true_eq_false, Bool.false_eq_true] at q) <;> (try (exfalso; first | (cases q; done) | omega | contradiction))))
local macro_rules | `(tactic| walk_at "w") => `(tactic| repeat' (first | (walk_at "k") | walk_at "s"))
def kd : D → Nat
  | .non => 0
  | .bl _ => 1
  | .int _ => 2
  | _ => 3
def kx : D → D
  | .non => .int 0
  | .bl b => .int (if b then 1 else 0)
  | d => d
def rk (v : D) : D := .tup [.int (kd v : Nat), kx v]
end Z
set_option Elab.async false
set_option linter.all false
set_option maxRecDepth 100000
set_option maxHeartbeats 4000000
namespace Z
open PySem PySem.Spec PyProof.Rows L2
def isS : R → Option (List Nat)
  | .dat (.str t) => some t
  | _ => none
theorem isS_some {r : R} {t : List Nat} (h : isS r = some t) : r = .dat (.str t) := by
  unfold isS at h
  split at h
  · cases h; rfl
  · cases h
end Z
set_option Elab.async false
set_option linter.all false
set_option maxRecDepth 100000
set_option maxHeartbeats 4000000
namespace Z
open PySem PySem.Spec PyProof.Rows L2
local macro_rules | `(tactic| walk_at "l") => `(tactic| first | (simp only [wipeG_nil, wipeG_cons, List.set_cons_succ, List.set_cons_zero, List.take_succ_cons, List.take_zero, List.take_nil, List.cons_append, List.nil_append, List.length_cons, List.length_nil, List.set_nil, List.getElem?_cons_zero, List.getElem?_cons_succ, Nat.zero_add, Nat.reduceAdd]; first | done | exact rfl) | exact rfl)
local macro_rules | `(tactic| walk_at "d") => `(tactic| first
  | with_reducible assumption
  | (with_reducible apply dr_div) <;> decide
  | (with_reducible apply dr_mod) <;> decide
  | (with_reducible apply dr_mulr); decide
  | (with_reducible apply dr_mull); decide
  | (with_reducible apply dr_divB) <;> omega
  | (with_reducible apply dr_mulrB) <;> omega
  | (with_reducible apply dr_mullB) <;> omega
  | (with_reducible apply dr_mulC) <;> omega
  | (with_reducible apply dr_mod) <;> omega
  | (with_reducible refine isi_of ?_ ?_); (exact rfl); (first | exact kb_int_int | exact kb_int_bool | exact kb_bool_bool | exact kb_bool_int | exact kb_str_int | exact kb_str_bool | exact kb_str_str | exact kb_int_str | exact kb_bool_str | exact kb_non_int | exact kb_non_bool | exact kb_non_str | exact kb_list_list | exact kb_tuple_tuple | exact kb_list_tuple | exact kb_tuple_list)
  | with_reducible exact dr_abs
  | (with_reducible exact dr_neL _ _)
  | (simp only [Cn.d]; with_reducible assumption)
  | (simp only [Cn.d]; with_reducible exact dr_neL _ _)
  | with_reducible exact in_ints _ _
  | (simp only [Cn.d]; with_reducible exact in_ints _ _)
  | ((with_reducible apply dr_cat); (try simp only [List.length_append, List.length_cons, List.length_nil]); omega)
  | with_reducible exact dr_eqI
  | with_reducible exact dr_eqB
  | with_reducible exact dr_neB
  | with_reducible exact dr_eqS
  | with_reducible exact dr_neI
  | with_reducible exact dr_neS
  | exact rfl)
local macro_rules | `(tactic| walk_at "c") => `(tactic| first | with_reducible assumption | (simp only [Cn.d]; with_reducible assumption))
local macro_rules | `(tactic| walk_at "e") => `(tactic| first
  | with_reducible exact er_C
  | with_reducible exact er_nil
  | (with_reducible apply er_varD); exact rfl
  | (with_reducible apply er_varO); exact rfl
  | (with_reducible apply er_varF); exact rfl
  | (with_reducible apply er_op); walk_at "e"; walk_at "e"; exact rfl; exact rfl; walk_at "d"; exact rfl
  | (with_reducible apply er_chain); walk_at "e"; walk_at "e"; exact rfl; exact rfl; walk_at "d"; (intro _h; walk_at "e"); exact rfl; walk_at "d"
  | (with_reducible apply er_slS); walk_at "e"; walk_at "o"; walk_at "o"; exact rfl; walk_at "z"
  | (with_reducible apply er_slL); walk_at "e"; walk_at "o"; walk_at "o"; exact rfl
  | (with_reducible apply er_list); walk_at "e"; exact rfl; exact rfl
  | (with_reducible apply er_tupL); walk_at "e"; exact rfl
  | (with_reducible apply er_un); walk_at "e"; exact rfl; exact rfl; exact rfl
  | (with_reducible apply er_tst); walk_at "e"
  | (with_reducible apply er_tru); walk_at "e"; exact rfl; exact rfl
  | (with_reducible apply er_andT); walk_at "e"; (intro _h; walk_at "e")
  | (with_reducible apply er_orT); walk_at "e"; (intro _h; walk_at "e")
  | (with_reducible apply er_andTT); walk_at "e"; exact rfl; walk_at "e"
  | (with_reducible apply er_orTF); walk_at "e"; exact rfl; walk_at "e"
  | (with_reducible apply er_notT); walk_at "e"
  | (with_reducible apply er_andV); walk_at "e"; (intro _h; walk_at "e")
  | (with_reducible apply er_orV); walk_at "e"; (intro _h; walk_at "e")
  | (with_reducible apply er_notV); walk_at "e"
  | (with_reducible apply er_andVT); walk_at "e"; exact rfl; walk_at "e"
  | (with_reducible apply er_orVF); walk_at "e"; exact rfl; walk_at "e"
  | (with_reducible apply er_ix); walk_at "e"; walk_at "e"; exact rfl; walk_at "x"
  | (with_reducible apply er_callS); walk_at "e"; exact rfl; walk_at "d"; exact rfl
  | (with_reducible apply er_cons); walk_at "e"; walk_at "e"
  | (with_reducible apply er_callG); walk_at "e"; exact rfl; exact rfl; walk_at "c"; exact rfl
  | (with_reducible apply er_callH); walk_at "e"; exact rfl; exact rfl; walk_at "c"; exact rfl
  | (with_reducible apply er_callV); walk_at "e"; exact rfl; walk_at "c"; exact rfl
  | (with_reducible apply er_callGF); walk_at "e"; exact rfl; exact rfl; walk_at "c"; exact rfl
  | (with_reducible apply er_callHF); walk_at "e"; exact rfl; exact rfl; walk_at "c"; exact rfl
  | (with_reducible apply er_callM); walk_at "e"; exact rfl; exact rfl; exact rfl; exact rfl; exact rfl; walk_at "c"; exact rfl
  | (with_reducible apply er_catL); walk_at "e"; walk_at "e"; exact rfl; exact rfl; walk_at "z"
  | (with_reducible apply er_mt); walk_at "e"; exact rfl; exact rfl; walk_at "e"; exact rfl; exact rfl; walk_at "m"; exact rfl
  | (with_reducible apply er_tup); walk_at "e"; exact rfl; walk_at "z" 
  | (with_reducible apply er_lst); walk_at "e"; exact rfl; walk_at "z")
local macro_rules | `(tactic| walk_at "o") => `(tactic| first | exact er_zoN | ((with_reducible apply er_zoS); walk_at "e"))
local macro_rules | `(tactic| walk_at "x") => `(tactic| first | with_reducible assumption | (simp only [Cn.d]; with_reducible assumption) | exact rfl)
local macro_rules | `(tactic| walk_at "m") => `(tactic| first | with_reducible assumption | (simp only [Cn.d]; with_reducible assumption) | exact rfl)
local macro_rules | `(tactic| walk_at "st") => `(tactic| first
  | ((with_reducible apply set_dat); (walk_at "e"); (exact rfl); walk_at "l")
  | ((with_reducible apply set_own); (walk_at "e"); (exact Nat.le_of_ble_eq_true rfl); (exact rfl); (exact rfl); walk_at "l")
  | ((with_reducible apply asg_run); (walk_at "e"); (exact rfl); walk_at "l")
  | ((with_reducible apply aug_run); (exact rfl); (exact rfl); (walk_at "e"); (exact rfl); (walk_at "d"); (exact rfl); (exact rfl); walk_at "l")
  | ((with_reducible apply sto_run); (walk_at "e"); (walk_at "e"); (walk_at "e"); (exact rfl); (walk_at "x"); walk_at "l")
  | ((with_reducible apply app_run); (walk_at "e"); (exact rfl); (walk_at "e"); (exact rfl); (exact rfl); (walk_at "z"); walk_at "l"))
local macro_rules | `(tactic| walk_at "z") => `(tactic| first | assumption | exact Nat.le_of_ble_eq_true rfl | (simp; omega))
local macro_rules | `(tactic| walk_at "s") => `(tactic| first
  | with_reducible apply sr_nx
  | with_reducible apply sr_assoc
  | with_reducible apply ap_fg
  | ((with_reducible apply fgK_nx); (exact rfl); (walk_at "l"); skip)
  | ((with_reducible apply fgK_ct); (exact rfl); (walk_at "l"); skip)
  | ((with_reducible apply fgK_bk); (exact rfl); (walk_at "l"); skip)
  | with_reducible apply fgK_ret
  | with_reducible apply sr_bk1
  | with_reducible apply sr_ct1
  | with_reducible apply sr_nx1
  | with_reducible apply sr_ct
  | with_reducible apply sr_bk
  | (with_reducible apply sr_retS); (walk_at "e"); skip
  | (with_reducible apply sr_ret); (walk_at "e"); skip
  | (with_reducible apply sr_if); (walk_at "e"); (walk_at "l")
  | (with_reducible apply sr_if1); (walk_at "e"); (walk_at "l")
  | (with_reducible apply seq_nx); (walk_at "st")
  | (with_reducible apply one_nx); (walk_at "st"))
local macro_rules | `(tactic| walk_at "r") => `(tactic| repeat' (first | (intro _) | walk_at "s"))
local macro_rules | `(tactic| walk_at "k") => `(tactic| (intro q; (try simp only [decide_eq_true_eq, decide_eq_false_iff_not, beq_iff_eq, beq_eq_false_iff_ne, ne_eq, Bool.not_eq_true', Bool.not_eq_false', Bool.and_eq_true, Bool.or_eq_true, Bool.and_eq_false_iff, Bool.or_eq_false_iff, Int.not_lt, Int.not_le, List.cons.injEq, and_true, reduceCtorEq, beq_self_eq_true, Bool.not_true, Bool.not_false, Bool.or_false, Bool.false_or, Bool.or_true, Bool.true_or, Bool.and_false, Bool.false_and, Bool.and_true, Bool.true_and, not_true_eq_false, Bool.false_eq_true] at q) <;> (try (exfalso; first | (cases q; done) | omega | contradiction))))
local macro_rules | `(tactic| walk_at "w") => `(tactic| repeat' (first | (walk_at "k") | walk_at "s"))
end Z
set_option Elab.async false
set_option linter.all false
set_option maxRecDepth 100000
set_option maxHeartbeats 4000000
namespace Z
open PySem PySem.Spec PyProof.Rows L2
end Z
set_option Elab.async false
set_option linter.all false
set_option maxRecDepth 100000
set_option maxHeartbeats 4000000
namespace Z
open PySem PySem.Spec PyProof.Rows L2
end Z
set_option Elab.async false
set_option linter.all false
set_option maxRecDepth 100000
set_option maxHeartbeats 4000000
namespace Z
open PySem PySem.Spec PyProof.Rows L2
local macro_rules | `(tactic| walk_at "l") => `(tactic| first | (simp only [wipeG_nil, wipeG_cons, List.set_cons_succ, List.set_cons_zero, List.take_succ_cons, List.take_zero, List.take_nil, List.cons_append, List.nil_append, List.length_cons, List.length_nil, List.set_nil, List.getElem?_cons_zero, List.getElem?_cons_succ, Nat.zero_add, Nat.reduceAdd]; first | done | exact rfl) | exact rfl)
local macro_rules | `(tactic| walk_at "d") => `(tactic| first
  | with_reducible assumption
  | (with_reducible apply dr_div) <;> decide
  | (with_reducible apply dr_mod) <;> decide
  | (with_reducible apply dr_mulr); decide
  | (with_reducible apply dr_mull); decide
  | (with_reducible apply dr_divB) <;> omega
  | (with_reducible apply dr_mulrB) <;> omega
  | (with_reducible apply dr_mullB) <;> omega
  | (with_reducible apply dr_mulC) <;> omega
  | (with_reducible apply dr_mod) <;> omega
  | (with_reducible refine isi_of ?_ ?_); (exact rfl); (first | exact kb_int_int | exact kb_int_bool | exact kb_bool_bool | exact kb_bool_int | exact kb_str_int | exact kb_str_bool | exact kb_str_str | exact kb_int_str | exact kb_bool_str | exact kb_non_int | exact kb_non_bool | exact kb_non_str | exact kb_list_list | exact kb_tuple_tuple | exact kb_list_tuple | exact kb_tuple_list)
  | with_reducible exact dr_abs
  | (with_reducible exact dr_neL _ _)
  | (simp only [Cn.d]; with_reducible assumption)
  | (simp only [Cn.d]; with_reducible exact dr_neL _ _)
  | with_reducible exact in_ints _ _
  | (simp only [Cn.d]; with_reducible exact in_ints _ _)
  | ((with_reducible apply dr_cat); (try simp only [List.length_append, List.length_cons, List.length_nil]); omega)
  | with_reducible exact dr_eqI
  | with_reducible exact dr_eqB
  | with_reducible exact dr_neB
  | with_reducible exact dr_eqS
  | with_reducible exact dr_neI
  | with_reducible exact dr_neS
  | exact rfl)
local macro_rules | `(tactic| walk_at "c") => `(tactic| first | with_reducible assumption | (simp only [Cn.d]; with_reducible assumption))
local macro_rules | `(tactic| walk_at "e") => `(tactic| first
  | with_reducible exact er_C
  | with_reducible exact er_nil
  | (with_reducible apply er_varD); exact rfl
  | (with_reducible apply er_varO); exact rfl
  | (with_reducible apply er_varF); exact rfl
  | (with_reducible apply er_op); walk_at "e"; walk_at "e"; exact rfl; exact rfl; walk_at "d"; exact rfl
  | (with_reducible apply er_chain); walk_at "e"; walk_at "e"; exact rfl; exact rfl; walk_at "d"; (intro _h; walk_at "e"); exact rfl; walk_at "d"
  | (with_reducible apply er_slS); walk_at "e"; walk_at "o"; walk_at "o"; exact rfl; walk_at "z"
  | (with_reducible apply er_slL); walk_at "e"; walk_at "o"; walk_at "o"; exact rfl
  | (with_reducible apply er_list); walk_at "e"; exact rfl; exact rfl
  | (with_reducible apply er_tupL); walk_at "e"; exact rfl
  | (with_reducible apply er_un); walk_at "e"; exact rfl; exact rfl; exact rfl
  | (with_reducible apply er_tst); walk_at "e"
  | (with_reducible apply er_tru); walk_at "e"; exact rfl; exact rfl
  | (with_reducible apply er_andT); walk_at "e"; (intro _h; walk_at "e")
  | (with_reducible apply er_orT); walk_at "e"; (intro _h; walk_at "e")
  | (with_reducible apply er_andTT); walk_at "e"; exact rfl; walk_at "e"
  | (with_reducible apply er_orTF); walk_at "e"; exact rfl; walk_at "e"
  | (with_reducible apply er_notT); walk_at "e"
  | (with_reducible apply er_andV); walk_at "e"; (intro _h; walk_at "e")
  | (with_reducible apply er_orV); walk_at "e"; (intro _h; walk_at "e")
  | (with_reducible apply er_notV); walk_at "e"
  | (with_reducible apply er_andVT); walk_at "e"; exact rfl; walk_at "e"
  | (with_reducible apply er_orVF); walk_at "e"; exact rfl; walk_at "e"
  | (with_reducible apply er_ix); walk_at "e"; walk_at "e"; exact rfl; walk_at "x"
  | (with_reducible apply er_callS); walk_at "e"; exact rfl; walk_at "d"; exact rfl
  | (with_reducible apply er_cons); walk_at "e"; walk_at "e"
  | (with_reducible apply er_callG); walk_at "e"; exact rfl; exact rfl; walk_at "c"; exact rfl
  | (with_reducible apply er_callH); walk_at "e"; exact rfl; exact rfl; walk_at "c"; exact rfl
  | (with_reducible apply er_callV); walk_at "e"; exact rfl; walk_at "c"; exact rfl
  | (with_reducible apply er_callGF); walk_at "e"; exact rfl; exact rfl; walk_at "c"; exact rfl
  | (with_reducible apply er_callHF); walk_at "e"; exact rfl; exact rfl; walk_at "c"; exact rfl
  | (with_reducible apply er_callM); walk_at "e"; exact rfl; exact rfl; exact rfl; exact rfl; exact rfl; walk_at "c"; exact rfl
  | (with_reducible apply er_catL); walk_at "e"; walk_at "e"; exact rfl; exact rfl; walk_at "z"
  | (with_reducible apply er_mt); walk_at "e"; exact rfl; exact rfl; walk_at "e"; exact rfl; exact rfl; walk_at "m"; exact rfl
  | (with_reducible apply er_tup); walk_at "e"; exact rfl; walk_at "z" 
  | (with_reducible apply er_lst); walk_at "e"; exact rfl; walk_at "z")
local macro_rules | `(tactic| walk_at "o") => `(tactic| first | exact er_zoN | ((with_reducible apply er_zoS); walk_at "e"))
local macro_rules | `(tactic| walk_at "x") => `(tactic| first | with_reducible assumption | (simp only [Cn.d]; with_reducible assumption) | exact rfl)
local macro_rules | `(tactic| walk_at "m") => `(tactic| first | with_reducible assumption | (simp only [Cn.d]; with_reducible assumption) | exact rfl)
local macro_rules | `(tactic| walk_at "st") => `(tactic| first
  | ((with_reducible apply set_dat); (walk_at "e"); (exact rfl); walk_at "l")
  | ((with_reducible apply set_own); (walk_at "e"); (exact Nat.le_of_ble_eq_true rfl); (exact rfl); (exact rfl); walk_at "l")
  | ((with_reducible apply asg_run); (walk_at "e"); (exact rfl); walk_at "l")
  | ((with_reducible apply aug_run); (exact rfl); (exact rfl); (walk_at "e"); (exact rfl); (walk_at "d"); (exact rfl); (exact rfl); walk_at "l")
  | ((with_reducible apply sto_run); (walk_at "e"); (walk_at "e"); (walk_at "e"); (exact rfl); (walk_at "x"); walk_at "l")
  | ((with_reducible apply app_run); (walk_at "e"); (exact rfl); (walk_at "e"); (exact rfl); (exact rfl); (walk_at "z"); walk_at "l"))
local macro_rules | `(tactic| walk_at "z") => `(tactic| first | assumption | exact Nat.le_of_ble_eq_true rfl | (simp; omega))
local macro_rules | `(tactic| walk_at "s") => `(tactic| first
  | with_reducible apply sr_nx
  | with_reducible apply sr_assoc
  | with_reducible apply ap_fg
  | ((with_reducible apply fgK_nx); (exact rfl); (walk_at "l"); skip)
  | ((with_reducible apply fgK_ct); (exact rfl); (walk_at "l"); skip)
  | ((with_reducible apply fgK_bk); (exact rfl); (walk_at "l"); skip)
  | with_reducible apply fgK_ret
  | with_reducible apply sr_bk1
  | with_reducible apply sr_ct1
  | with_reducible apply sr_nx1
  | with_reducible apply sr_ct
  | with_reducible apply sr_bk
  | (with_reducible apply sr_retS); (walk_at "e"); skip
  | (with_reducible apply sr_ret); (walk_at "e"); skip
  | (with_reducible apply sr_if); (walk_at "e"); (walk_at "l")
  | (with_reducible apply sr_if1); (walk_at "e"); (walk_at "l")
  | (with_reducible apply seq_nx); (walk_at "st")
  | (with_reducible apply one_nx); (walk_at "st"))
local macro_rules | `(tactic| walk_at "r") => `(tactic| repeat' (first | (intro _) | walk_at "s"))
local macro_rules | `(tactic| walk_at "k") => `(tactic| (intro q; (try simp only [decide_eq_true_eq, decide_eq_false_iff_not, beq_iff_eq, beq_eq_false_iff_ne, ne_eq, Bool.not_eq_true', Bool.not_eq_false', Bool.and_eq_true, Bool.or_eq_true, Bool.and_eq_false_iff, Bool.or_eq_false_iff, Int.not_lt, Int.not_le, List.cons.injEq, and_true, reduceCtorEq, beq_self_eq_true, Bool.not_true, Bool.not_false, Bool.or_false, Bool.false_or, Bool.or_true, Bool.true_or, Bool.and_false, Bool.false_and, Bool.and_true, Bool.true_and, not_true_eq_false, Bool.false_eq_true] at q) <;> (try (exfalso; first | (cases q; done) | omega | contradiction))))
local macro_rules | `(tactic| walk_at "w") => `(tactic| repeat' (first | (walk_at "k") | walk_at "s"))
end Z
set_option Elab.async false
set_option linter.all false
set_option maxRecDepth 100000
set_option maxHeartbeats 4000000
namespace Z
open PySem PySem.Spec PyProof.Rows L2
section
variable {P : Program} {w : World} {K : PySem.W.Frag} {mg : Str → Option Value} {base : Heap}
theorem okN {k : Nat} {f : Addr} {fd : FuncData} {ps : List Str} : FnOk P w K mg base CX0 k f fd ps (spP K fun _ => none) :=
  ⟨fun _ _ _ _ ⟨_, _, _, _, _, e, _⟩ => (by cases e), fun _ _ _ _ _ _ _ _ _ _ _ _ _ ⟨_, _, _, _, _, e, _⟩ => (by cases e)⟩
end
end Z
set_option Elab.async false
set_option linter.all false
set_option maxRecDepth 100000
set_option maxHeartbeats 4000000
namespace Z
open PySem PySem.Spec PyProof.Rows L2
abbrev Tab := List (List Nat × (List D → Option FR))
def look : Tab → List Nat → Option (List D → Option FR)
  | [], _ => none
  | (k, F) :: t, s => if k = s then some F else look t s
def inE (es : Array DictEntry) (s : Str) : Option Value := findBy (fun k v => v.isStr k) es s
section
variable (P : Program) (w : World) (K : PySem.W.Frag) (mg : Str → Option Value) (base : Heap)
def FnAt (k : Nat) (f : Addr) (sp : Sp) : Prop := ∃ (fd : FuncData) (ps : List Str), PySem.W.keepIn K (.ref f) = true ∧ Binds K fd ps [] ∧ FnOk P w K mg base CX0 k f fd ps sp
end
section
variable {P : Program} {w : World} {K : PySem.W.Frag} {mg : Str → Option Value} {base : Heap}
theorem FnAt.mono {j k : Nat} {f : Addr} {sp : Sp} (h : FnAt P w K mg base j f sp) (le : j ≤ k) : FnAt P w K mg base k f sp :=
  let ⟨fd, ps, a, b, c⟩ := h
  ⟨fd, ps, a, b, c.mono le⟩
theorem tab_all {es : Array DictEntry} (h : (es.toList.all fun e => isExactStrKey e.key) = true) : (es.all fun e => isExactStrKey e.key) = true := by
  rw [← Array.all_toList]
  exact h
end
section
variable {X : Cx}
/-- what stands in the module's dict behind a text -/
theorem pe_fn {x : Str} {a : Addr} {es : Array DictEntry} {ep : Nat} {sl : Array (Option Value)} {p pos : Pos} {i : Expr} {ti : TE} (hx : X.mg x = some (.ref a)) (hl : X.K.lookup a = some ⟨.type "dict", none, .dict es ep, sl⟩)
    (hall : (es.all fun e => isExactStrKey e.key) = true) (hi : PE X i ti) (hg : Gl X x := by rfl) (hs : NoSl i := by intro _ _; rfl) (hdb : (x == ("__debug__" : Str)) = false := by decide) :
    PE X (.Subscript (.Name x p) i pos) (fun σ H Q => ti σ H fun y H1 => ∃ st f, y = .str st ∧ inE es st = some (.ref f) ∧ Q (.ref f) H1) := by
  refine ⟨fun pins s σ H Q I h => ?_⟩
  refine subD_of PySem.F.slot_dict_getitem.lookup hs (thn ((pe_glob (v := .ref a) (pos := p) hg hx rfl hdb).run pins s σ H (fun v H1 => v = .ref a ∧ H1 = H) I ⟨rfl, rfl⟩) fun u s1 ⟨x0, H1, I1, rx, q1⟩ => ?_)
  obtain ⟨rfl, rfl⟩ := q1
  cases rx
  refine thn (hi.run pins s1 σ H1 _ I1 h) fun iv s2 ⟨y, H2, I2, ry, st, f, ey, hf, q2⟩ => ?_
  subst ey
  obtain ⟨t, rfl⟩ : ∃ t, iv = Value.str st t := ry
  have ho := I2.kIn _ _ hl
  have ty : s2.TypeIs (.ref a) "dict" := ⟨_, ho, rfl⟩
  refine ⟨ty, ?_⟩
  unfold getItem
  try with_reducible refine wpAny_holding ?_
  refine wpAny_bind (wpAny_sequenceKey ty (by decide) ?_)
  refine wpAny_bind (wpAny_callSpecial?_slot (name := Str.ofString "__getitem__") ty PySem.F.slot_dict_getitem (wpAny_call_entry PySem.F.slot_dict_getitem ty PySem.F.entry_dict_getitem ?_ (PySem.args_dict_getitem _ _)))
  show wpAny _ _ (dictGet a (.str st t) >>= _) _ _ s2
  refine wpAny_bind ?_
  unfold dictGet
  try with_reducible refine wpAny_holding ?_
  refine wpAny_bind (wpAny_pyHash_str (wpAny_bind (KTD.kt_dictFind_strs (s := { s2 with toks := s2.toks + 1 }) ho rfl hall ?_)))
  unfold inE at hf
  rw [findBy_of_findIdx?] at hf
  have done : wpAny (model X.prog X.w) X.A (pure (Value.ref f)) (EP X pins σ Q) X.xe { s2 with toks := s2.toks + 1 } := wpAny_pure ⟨.ref f, H2, I2.tok _, rfl, q2⟩
  cases e : es.findIdx? fun e => e.key.isStr st with
  | none => rw [e] at hf; cases hf
  | some j =>
    rw [e] at hf
    refine wpAny_bind (wpAny_dictEntries (s := { s2 with toks := s2.toks + 1 }) ho rfl ?_)
    dsimp only at hf ⊢
    rw [hf]
    exact wpAny_pure (wpAny_pure ⟨_, rfl, done⟩)
end
end Z
set_option Elab.async false
set_option linter.all false
set_option maxRecDepth 100000
set_option maxHeartbeats 4000000
namespace Z
open PySem PySem.Spec PyProof.Rows L2
end Z
set_option Elab.async false
set_option linter.all false
set_option maxRecDepth 100000
set_option maxHeartbeats 4000000
namespace Z
open PySem PySem.Spec PyProof.Rows L2
/-- an object beside all slots, held as it is -/
def Ct.hold (C : Ct) (p : Addr) (o : HO) : Ct := { C with H0 := upd C.H0 p o }
section
variable {C : Ct} {Hs : Hp} {A : List Addr} {g : List Sl} {σ : L2.St} {H : Hp} {p : Addr} {o : HO}
theorem Ok.pinNe (ok : Ok C Hs A g σ H) (h : H p = none) : ∀ q ∈ C.pins, q.2 ≠ p := fun q hq e => by
  obtain ⟨c, l, h1, h2⟩ := ok.pinned q hq
  obtain ⟨a, o, ha, _, _, ho, _⟩ := ok.own _ _ _ _ h1
  rw [h2] at ha
  have e1 : q.2 = a := Option.some.inj ha
  rw [← e1, e, h] at ho
  cases ho
theorem Ok.hold (ok : Ok C Hs A g σ H) (h : H p = none) : Ok (C.hold p o) Hs A g σ (upd H p o) := by
  obtain ⟨f1, f2⟩ := ok.fresh0 h
  have up : ∀ b, upd C.H0 p o b = none → C.H0 b = none := fun b e => by
    by_cases z : b = p
    · rw [z]; exact f2
    · rwa [upd_ne z] at e
  refine ⟨ok.ln, ok.lg, ok.la, ok.base, fun b o' e => ?_, ok.dat, ok.frz, fun i c pn l e => ?_, ok.inj, fun b o' e => ?_, fun b o' e k => ?_, ok.pinned, ok.pin1, ok.locked⟩
  · rw [upd_ne (fun z => by rw [z, f1] at e; cases e)]
    exact ok.same b o' e
  · obtain ⟨a, o', q1, q2, q3, q4, q5, q6⟩ := ok.own i c pn l e
    have ne : a ≠ p := fun z => by rw [z, h] at q4; cases q4
    exact ⟨a, o', q1, q2, q3, by rw [upd_ne ne]; exact q4, q5, fun z => by show upd C.H0 p o a = none; rw [upd_ne ne]; exact q6 z⟩
  · rcases ok.grow b o' e with z | z
    · exact .inl z
    · refine .inr ?_
      show upd C.H0 p o b = none
      rw [upd_ne (fun y => by rw [y, f1] at e; cases e)]
      exact z
  · by_cases z : b = p
    · subst z
      have e : upd C.H0 b o b = some o' := e
      rw [upd_same] at e ⊢
      exact e
    · have e : upd C.H0 p o b = some o' := e
      rw [upd_ne z] at e ⊢
      exact ok.keep b o' e k
theorem Ok.held (hp : ∀ q ∈ C.pins, q.2 ≠ p) (ok : Ok (C.hold p o) Hs A g σ H) : H p = some o := ok.keep p o (show upd C.H0 p o p = some o from upd_same) hp
theorem Ok.heldN (hs0 : C.Hs0 p = none) (ok : Ok (C.hold p o) Hs A g σ H) : Hs p = none := by
  cases e : Hs p with
  | none => rfl
  | some u =>
    rcases ok.grow p u e with z | z
    · rw [show (C.hold p o).Hs0 p = C.Hs0 p from rfl, hs0] at z; cases z
    · rw [show (C.hold p o).H0 p = some o from upd_same] at z; cases z
theorem hold_dn {b : Addr} (e : (C.hold p o).H0 b = none) : b ≠ p ∧ C.H0 b = none := by
  have e : upd C.H0 p o b = none := e
  have ne : b ≠ p := fun z => by rw [z, upd_same] at e; cases e
  rw [upd_ne ne] at e
  exact ⟨ne, e⟩
theorem hold_up {b : Addr} {o' : HO} (e : (C.hold p o).H0 b = none) : (C.hold p o').H0 b = none := by
  show upd C.H0 p o' b = none
  rw [upd_ne (hold_dn e).1]
  exact (hold_dn e).2
/-- the held object changed -/
theorem Ok.rehold {o' : HO} (hs0 : C.Hs0 p = none) (hp : ∀ q ∈ C.pins, q.2 ≠ p) (ok : Ok (C.hold p o) Hs A g σ H) : Ok (C.hold p o') Hs A g σ (upd H p o') := by
  have f1 := ok.heldN hs0
  refine ⟨ok.ln, ok.lg, ok.la, ok.base, fun b u e => ?_, ok.dat, ok.frz, fun i c pn l e => ?_, ok.inj, fun b u e => ?_, fun b u e k => ?_, ok.pinned, ok.pin1, ok.locked⟩
  · rw [upd_ne (fun z => by rw [z, f1] at e; cases e)]
    exact ok.same b u e
  · obtain ⟨a, u, q1, q2, q3, q4, q5, q6⟩ := ok.own i c pn l e
    have ne : a ≠ p := by
      cases pn with
      | false => exact (hold_dn (q6 rfl)).1
      | true =>
        intro z
        exact hp _ (ok.pin1 i c l a e q1) z
    exact ⟨a, u, q1, q2, q3, by rw [upd_ne ne]; exact q4, q5, fun z => hold_up (q6 z)⟩
  · rcases ok.grow b u e with z | z
    · exact .inl z
    · exact .inr (hold_up z)
  · by_cases z : b = p
    · subst z
      have e : upd C.H0 b o' b = some u := e
      rw [upd_same] at e ⊢
      exact e
    · have e : upd C.H0 p o' b = some u := e
      rw [upd_ne z] at e ⊢
      exact ok.keep b u (show upd C.H0 p o b = some u by rw [upd_ne z]; exact e) k
/-- no more held -/
theorem Ok.unhold (h0 : C.H0 p = none) (ok : Ok (C.hold p o) Hs A g σ H) : Ok C Hs A g σ H := by
  refine ⟨ok.ln, ok.lg, ok.la, ok.base, ok.same, ok.dat, ok.frz, fun i c pn l e => ?_, ok.inj, fun b u e => ?_, fun b u e k => ?_, ok.pinned, ok.pin1, ok.locked⟩
  · obtain ⟨a, u, q1, q2, q3, q4, q5, q6⟩ := ok.own i c pn l e
    exact ⟨a, u, q1, q2, q3, q4, q5, fun z => (hold_dn (q6 z)).2⟩
  · rcases ok.grow b u e with z | z
    · exact .inl z
    · exact .inr (hold_dn z).2
  · refine ok.keep b u ?_ k
    show upd C.H0 p o b = some u
    rw [upd_ne (fun z => by rw [z, h0] at e; cases e)]
    exact e
end
theorem zip_sK : ∀ {ks : List (List Nat)} {vs : List V}, ks.length = vs.length → (ks.map fun k => V.str ⟨k.toArray⟩).zip vs = ((ks.map fun k => (Sum.inr ⟨k.toArray⟩ : Key)).zip vs).map fun kv => (kV kv.1, kv.2)
  | [], [], _ => rfl
  | k :: ks, v :: vs, h => by
    show (V.str ⟨k.toArray⟩, v) :: (ks.map fun k => V.str ⟨k.toArray⟩).zip vs = _
    rw [zip_sK (Nat.succ.inj h)]
    rfl
  | [], _ :: _, h => by cases h
  | _ :: _, [], h => by cases h
def zVals : List ZM → ZAr
  | [] => zNil
  | m :: ms => zCons m (zVals ms)
theorem zVals_len : ∀ {ms : List ZM} {rs : List R} {g g1 : G}, zVals ms g = some (rs, g1) → rs.length = ms.length
  | [], rs, g, g1, e => by cases e; rfl
  | m :: ms, rs, g, g1, e => by
    unfold zVals zCons at e
    simp only [Option.bind_eq_bind, Option.bind_eq_some_iff] at e
    obtain ⟨⟨r1, g2⟩, h1, ⟨rs2, g3⟩, h2, e⟩ := e
    cases e
    rw [List.length_cons, List.length_cons, zVals_len h2]
def lookD : List (List Nat) → List D → List Nat → Option D
  | k :: ks, d :: ds, s => if k = s then some d else lookD ks ds s
  | _, _, _ => none
abbrev sK (s : List Nat) : Key := .inr ⟨s.toArray⟩
def pTrs (K : PySem.W.Frag) (n : Nat) : List (List Nat) → List ZM → List (TE × TE)
  | k :: ks, m :: ms => (tC (.str ⟨k.toArray⟩), tZ K n m) :: pTrs K n ks ms
  | _, _ => []
theorem zz_pps_nil {X : Cx} {pos : Pos} {K : PySem.W.Frag} {n : Nat} : PPs X pos [] [] (pTrs K n [] []) := pps_nil
theorem zz_pps_cons {X : Cx} {pos p1 : Pos} {x : Str} {j : Nat} {v : Expr} {k : List Nat} {m : ZM} {ks : List (Option Expr)} {vs : List Expr} {kl : List (List Nat)} {ms : List ZM} (hv : ZE X v m) (hr : PPs X pos ks vs (pTrs X.K X.N.length kl ms)) (hs : x = (⟨k.toArray⟩ : Str) := by decide +kernel) :
    PPs X pos (some (.Constant (.str x) j p1) :: ks) (v :: vs) (pTrs X.K X.N.length (k :: kl) (m :: ms)) := by
  subst hs
  exact pps_cons pe_str hv hr
theorem pairs_of {K : PySem.W.Frag} {n : Nat} {σ : L2.St} {C : Ct} (hK : C.K = K) (hn : C.n = n) : ∀ {ks : List (List Nat)} {ms : List ZM} {Hs : Hp} {A : List Addr} {g g' : G} {rs : List R} {H : Hp} {Q : List (V × V) → Hp → Prop}, ks.length = ms.length → Ok C Hs A g σ H → zVals ms g = some (rs, g') →
    (∀ Hs' A' vs H', Same Hs Hs' → Pre A A' → Ok C Hs' A' g' σ H' → RelRs C.K Hs' A' vs rs → Q ((ks.map fun k => V.str ⟨k.toArray⟩).zip vs) H') → tPairs (pTrs K n ks ms) σ H Q
  | [], [], Hs, A, g, g', rs, H, Q, _, ok, e, q => by
    cases e
    exact q Hs A [] H (Same.refl _) (Pre.refl _) ok trivial
  | k :: ks, m :: ms, Hs, A, g, g', rs, H, Q, hl, ok, e, q => by
    unfold zVals zCons at e
    simp only [Option.bind_eq_bind, Option.bind_eq_some_iff] at e
    obtain ⟨⟨r1, g1⟩, h1, ⟨rs2, g2⟩, h2, e⟩ := e
    cases e
    show tZ K n m σ H _
    refine ⟨C, Hs, A, g, r1, g1, hK, hn, ok, h1, fun Hs1 A1 v1 H1 s1 p1 ok1 rel1 => ?_⟩
    refine pairs_of hK hn (Nat.succ.inj hl) ok1 h2 fun Hs2 A2 vs H2 s2 p2 ok2 rel2 => ?_
    exact q Hs2 A2 (v1 :: vs) H2 (s1.trans s2) (p1.trans p2) ok2 ⟨rel1.mono s2 p2, rel2⟩
  | [], _ :: _, _, _, _, _, _, _, _, hl, _, _, _ => by cases hl
  | _ :: _, [], _, _, _, _, _, _, _, hl, _, _, _ => by cases hl
theorem valV_lookD {K : PySem.W.Frag} {H : Hp} : ∀ {ks : List (List Nat)} {vs : List V} {ds : List D} {s : List Nat} {d : D}, DzA K H vs ds → lookD ks ds s = some d → ∃ v, valV ((ks.map sK).zip vs) (sK s) = some v ∧ Dz K H v d
  | [], _, _, _, _, _, e => by simp [lookD] at e
  | k :: ks, _, _, s, d, .nil, e => by simp [lookD] at e
  | k :: ks, _, _, s, d, .cons (v := v) (vs := vs) h t, e => by
    unfold lookD at e
    split at e
    · rename_i c
      cases e
      subst c
      exact ⟨v, valV_pos rfl, h⟩
    · rename_i c
      obtain ⟨u, h1, h2⟩ := valV_lookD t e
      refine ⟨u, ?_, h2⟩
      show valV ((sK k, v) :: (ks.map sK).zip vs) (sK s) = _
      rw [valV_neg (p := (sK k, v))]
      · exact h1
      · intro z
        have z : (⟨k.toArray⟩ : Str) = ⟨s.toArray⟩ := Sum.inr.inj z
        exact c (by injection z with z; simpa using congrArg Array.toList z)
end Z
set_option Elab.async false
set_option linter.all false
set_option maxRecDepth 100000
set_option maxHeartbeats 4000000
namespace Z
open PySem PySem.Spec PyProof.Rows L2
local macro_rules | `(tactic| walk_at "l") => `(tactic| first | (simp only [wipeG_nil, wipeG_cons, List.set_cons_succ, List.set_cons_zero, List.take_succ_cons, List.take_zero, List.take_nil, List.cons_append, List.nil_append, List.length_cons, List.length_nil, List.set_nil, List.getElem?_cons_zero, List.getElem?_cons_succ, Nat.zero_add, Nat.reduceAdd]; first | done | exact rfl) | exact rfl)
local macro_rules | `(tactic| walk_at "d") => `(tactic| first
  | with_reducible assumption
  | (with_reducible apply dr_div) <;> decide
  | (with_reducible apply dr_mod) <;> decide
  | (with_reducible apply dr_mulr); decide
  | (with_reducible apply dr_mull); decide
  | (with_reducible apply dr_divB) <;> omega
  | (with_reducible apply dr_mulrB) <;> omega
  | (with_reducible apply dr_mullB) <;> omega
  | (with_reducible apply dr_mulC) <;> omega
  | (with_reducible apply dr_mod) <;> omega
  | (with_reducible refine isi_of ?_ ?_); (exact rfl); (first | exact kb_int_int | exact kb_int_bool | exact kb_bool_bool | exact kb_bool_int | exact kb_str_int | exact kb_str_bool | exact kb_str_str | exact kb_int_str | exact kb_bool_str | exact kb_non_int | exact kb_non_bool | exact kb_non_str | exact kb_list_list | exact kb_tuple_tuple | exact kb_list_tuple | exact kb_tuple_list)
  | with_reducible exact dr_abs
  | (with_reducible exact dr_neL _ _)
  | (simp only [Cn.d]; with_reducible assumption)
  | (simp only [Cn.d]; with_reducible exact dr_neL _ _)
  | with_reducible exact in_ints _ _
  | (simp only [Cn.d]; with_reducible exact in_ints _ _)
  | ((with_reducible apply dr_cat); (try simp only [List.length_append, List.length_cons, List.length_nil]); omega)
  | with_reducible exact dr_eqI
  | with_reducible exact dr_eqB
  | with_reducible exact dr_neB
  | with_reducible exact dr_eqS
  | with_reducible exact dr_neI
  | with_reducible exact dr_neS
  | exact rfl)
local macro_rules | `(tactic| walk_at "c") => `(tactic| first | with_reducible assumption | (simp only [Cn.d]; with_reducible assumption))
local macro_rules | `(tactic| walk_at "e") => `(tactic| first
  | with_reducible exact er_C
  | with_reducible exact er_nil
  | (with_reducible apply er_varD); exact rfl
  | (with_reducible apply er_varO); exact rfl
  | (with_reducible apply er_varF); exact rfl
  | (with_reducible apply er_op); walk_at "e"; walk_at "e"; exact rfl; exact rfl; walk_at "d"; exact rfl
  | (with_reducible apply er_chain); walk_at "e"; walk_at "e"; exact rfl; exact rfl; walk_at "d"; (intro _h; walk_at "e"); exact rfl; walk_at "d"
  | (with_reducible apply er_slS); walk_at "e"; walk_at "o"; walk_at "o"; exact rfl; walk_at "z"
  | (with_reducible apply er_slL); walk_at "e"; walk_at "o"; walk_at "o"; exact rfl
  | (with_reducible apply er_list); walk_at "e"; exact rfl; exact rfl
  | (with_reducible apply er_tupL); walk_at "e"; exact rfl
  | (with_reducible apply er_un); walk_at "e"; exact rfl; exact rfl; exact rfl
  | (with_reducible apply er_tst); walk_at "e"
  | (with_reducible apply er_tru); walk_at "e"; exact rfl; exact rfl
  | (with_reducible apply er_andT); walk_at "e"; (intro _h; walk_at "e")
  | (with_reducible apply er_orT); walk_at "e"; (intro _h; walk_at "e")
  | (with_reducible apply er_andTT); walk_at "e"; exact rfl; walk_at "e"
  | (with_reducible apply er_orTF); walk_at "e"; exact rfl; walk_at "e"
  | (with_reducible apply er_notT); walk_at "e"
  | (with_reducible apply er_andV); walk_at "e"; (intro _h; walk_at "e")
  | (with_reducible apply er_orV); walk_at "e"; (intro _h; walk_at "e")
  | (with_reducible apply er_notV); walk_at "e"
  | (with_reducible apply er_andVT); walk_at "e"; exact rfl; walk_at "e"
  | (with_reducible apply er_orVF); walk_at "e"; exact rfl; walk_at "e"
  | (with_reducible apply er_ix); walk_at "e"; walk_at "e"; exact rfl; walk_at "x"
  | (with_reducible apply er_callS); walk_at "e"; exact rfl; walk_at "d"; exact rfl
  | (with_reducible apply er_cons); walk_at "e"; walk_at "e"
  | (with_reducible apply er_callG); walk_at "e"; exact rfl; exact rfl; walk_at "c"; exact rfl
  | (with_reducible apply er_callH); walk_at "e"; exact rfl; exact rfl; walk_at "c"; exact rfl
  | (with_reducible apply er_callV); walk_at "e"; exact rfl; walk_at "c"; exact rfl
  | (with_reducible apply er_callGF); walk_at "e"; exact rfl; exact rfl; walk_at "c"; exact rfl
  | (with_reducible apply er_callHF); walk_at "e"; exact rfl; exact rfl; walk_at "c"; exact rfl
  | (with_reducible apply er_callM); walk_at "e"; exact rfl; exact rfl; exact rfl; exact rfl; exact rfl; walk_at "c"; exact rfl
  | (with_reducible apply er_catL); walk_at "e"; walk_at "e"; exact rfl; exact rfl; walk_at "z"
  | (with_reducible apply er_mt); walk_at "e"; exact rfl; exact rfl; walk_at "e"; exact rfl; exact rfl; walk_at "m"; exact rfl
  | (with_reducible apply er_tup); walk_at "e"; exact rfl; walk_at "z" 
  | (with_reducible apply er_lst); walk_at "e"; exact rfl; walk_at "z")
local macro_rules | `(tactic| walk_at "o") => `(tactic| first | exact er_zoN | ((with_reducible apply er_zoS); walk_at "e"))
local macro_rules | `(tactic| walk_at "x") => `(tactic| first | with_reducible assumption | (simp only [Cn.d]; with_reducible assumption) | exact rfl)
local macro_rules | `(tactic| walk_at "m") => `(tactic| first | with_reducible assumption | (simp only [Cn.d]; with_reducible assumption) | exact rfl)
local macro_rules | `(tactic| walk_at "st") => `(tactic| first
  | ((with_reducible apply set_dat); (walk_at "e"); (exact rfl); walk_at "l")
  | ((with_reducible apply set_own); (walk_at "e"); (exact Nat.le_of_ble_eq_true rfl); (exact rfl); (exact rfl); walk_at "l")
  | ((with_reducible apply asg_run); (walk_at "e"); (exact rfl); walk_at "l")
  | ((with_reducible apply aug_run); (exact rfl); (exact rfl); (walk_at "e"); (exact rfl); (walk_at "d"); (exact rfl); (exact rfl); walk_at "l")
  | ((with_reducible apply sto_run); (walk_at "e"); (walk_at "e"); (walk_at "e"); (exact rfl); (walk_at "x"); walk_at "l")
  | ((with_reducible apply app_run); (walk_at "e"); (exact rfl); (walk_at "e"); (exact rfl); (exact rfl); (walk_at "z"); walk_at "l"))
local macro_rules | `(tactic| walk_at "z") => `(tactic| first | assumption | exact Nat.le_of_ble_eq_true rfl | (simp; omega))
local macro_rules | `(tactic| walk_at "s") => `(tactic| first
  | with_reducible apply sr_nx
  | with_reducible apply sr_assoc
  | with_reducible apply ap_fg
  | ((with_reducible apply fgK_nx); (exact rfl); (walk_at "l"); skip)
  | ((with_reducible apply fgK_ct); (exact rfl); (walk_at "l"); skip)
  | ((with_reducible apply fgK_bk); (exact rfl); (walk_at "l"); skip)
  | with_reducible apply fgK_ret
  | with_reducible apply sr_bk1
  | with_reducible apply sr_ct1
  | with_reducible apply sr_nx1
  | with_reducible apply sr_ct
  | with_reducible apply sr_bk
  | (with_reducible apply sr_retS); (walk_at "e"); skip
  | (with_reducible apply sr_ret); (walk_at "e"); skip
  | (with_reducible apply sr_if); (walk_at "e"); (walk_at "l")
  | (with_reducible apply sr_if1); (walk_at "e"); (walk_at "l")
  | (with_reducible apply seq_nx); (walk_at "st")
  | (with_reducible apply one_nx); (walk_at "st"))
local macro_rules | `(tactic| walk_at "r") => `(tactic| repeat' (first | (intro _) | walk_at "s"))
local macro_rules | `(tactic| walk_at "k") => `(tactic| (intro q; (try simp only [decide_eq_true_eq, decide_eq_false_iff_not, beq_iff_eq, beq_eq_false_iff_ne, ne_eq, Bool.not_eq_true', Bool.not_eq_false', Bool.and_eq_true, Bool.or_eq_true, Bool.and_eq_false_iff, Bool.or_eq_false_iff, Int.not_lt, Int.not_le, List.cons.injEq, and_true, reduceCtorEq, beq_self_eq_true, Bool.not_true, Bool.not_false, Bool.or_false, Bool.false_or, Bool.or_true, Bool.true_or, Bool.and_false, Bool.false_and, Bool.and_true, Bool.true_and, not_true_eq_false, Bool.false_eq_true] at q) <;> (try (exfalso; first | (cases q; done) | omega | contradiction))))
local macro_rules | `(tactic| walk_at "w") => `(tactic| repeat' (first | (walk_at "k") | walk_at "s"))
def VW (v : D) : Prop := match v with
  | .non => True
  | .bl _ => True
  | .int i => i.natAbs ≤ 10 ^ 15
  | .str t => t.length ≤ 10000 ∧ ∀ c ∈ t, c < 128
  | _ => False
theorem VW.scal {v : D} (h : VW v) : v.scal = true := by cases v <;> first | exact h.elim | rfl
theorem VW.rok {v : D} (h : VW v) : v.rok = true ∧ v.dp = 0 := by
  cases v with
  | non => exact ⟨rfl, rfl⟩
  | bl b => exact ⟨rfl, rfl⟩
  | int i => exact ⟨decide_eq_true (Nat.lt_of_le_of_lt (show i.natAbs ≤ 10 ^ 15 from h) (by decide)), rfl⟩
  | str t =>
    obtain ⟨h1, h2⟩ := (show t.length ≤ 10000 ∧ ∀ c ∈ t, c < 128 from h)
    refine ⟨?_, rfl⟩
    show (t.all fun c => decide (c < 1114112)) = true
    rw [List.all_eq_true]
    intro c hc
    exact decide_eq_true (Nat.lt_trans (h2 c hc) (by decide))
  | tup _ => exact h.elim
  | lst _ => exact h.elim
  | raw _ => exact h.elim
  | dic _ _ => exact h.elim
end Z
set_option Elab.async false
set_option linter.all false
set_option maxRecDepth 100000
set_option maxHeartbeats 4000000
namespace Z
open PySem PySem.Spec PyProof.Rows L2
end Z
set_option Elab.async false
set_option linter.all false
set_option maxRecDepth 100000
set_option maxHeartbeats 4000000
namespace Z
open PySem PySem.Spec PyProof.Rows L2
section
variable {mo me ma mb : ZM} {mr : ZAr} {g g1 g2 : G} {r : R} {rs : List R} {n : Nat}
theorem er_slT {ml mh : ZO} {lo hi : Option Int} {l : List D} {g3 : G} (h1 : ma g = some (.dat (.tup l), g1)) (h2 : ml g1 = some (lo, g2)) (h3 : mh g2 = some (hi, g3)) : zSl ma ml mh g = some (.dat (.tup (cutL l lo hi)), g3) := by
  unfold zSl; simp only [h1, h2, h3, rd, Option.bind_eq_bind, Option.bind_some]
end
end Z
set_option Elab.async false
set_option linter.all false
set_option maxRecDepth 100000
set_option maxHeartbeats 4000000
namespace Z
open PySem PySem.Spec PyProof.Rows L2
def SL (x : Str) : Prop := ∀ c ∈ x.cps.toList, c < 1114112
theorem sl_of (s : String) : SL (Str.ofString s) := fun c h => by
  rw [Str.ofString_eq_toList] at h
  have h : c ∈ s.toList.map Char.toNat := by simpa using h
  obtain ⟨ch, _, rfl⟩ := List.mem_map.mp h
  have := ch.valid
  unfold UInt32.isValidChar Nat.isValidChar at this
  show ch.val.toNat < 1114112
  omega
theorem sl_app {x y : Str} (h : SL x) (k : SL y) : SL (x ++ y) := fun c hc => by
  have hc : c ∈ (x.cps ++ y.cps).toList := hc
  rw [Array.toList_append] at hc
  rcases List.mem_append.mp hc with hc | hc
  · exact h c hc
  · exact k c hc
theorem sl_hex (w c : Nat) : ∀ d ∈ List.replicate (w - ((Nat.toDigits 16 c).map Char.toNat).length) 48 ++ (Nat.toDigits 16 c).map Char.toNat, d < 1114112 := fun d hd => by
  rcases List.mem_append.mp hd with hd | hd
  · rw [(List.mem_replicate.mp hd).2]; decide
  · obtain ⟨ch, _, rfl⟩ := List.mem_map.mp hd
    have := ch.valid
    unfold UInt32.isValidChar Nat.isValidChar at this
    show ch.val.toNat < 1114112
    omega
theorem sl_char {q c : Nat} (h : c < 1114112) : ∀ d ∈ Builtin.Str.reprChar q c, d < 1114112 := fun d hd => by
  unfold Builtin.Str.reprChar at hd
  dsimp only at hd
  have two : ∀ a : Nat, a < 1114112 → d ∈ [92, a] → d < 1114112 := fun a ha hm => by
    rcases List.mem_cons.mp hm with e | hm
    · omega
    · have := List.mem_singleton.mp hm; omega
  have more : ∀ (a w : Nat), a < 1114112 → d ∈ [92, a] ++ (List.replicate (w - ((Nat.toDigits 16 c).map Char.toNat).length) 48 ++ (Nat.toDigits 16 c).map Char.toNat) → d < 1114112 := fun a w ha hm => by
    rcases List.mem_append.mp hm with hm | hm
    · exact two a ha hm
    · exact sl_hex w c d hm
  split at hd
  · exact two c h hd
  · split at hd
    · exact two 110 (by decide) hd
    · split at hd
      · exact two 114 (by decide) hd
      · split at hd
        · exact two 116 (by decide) hd
        · split at hd
          · have := List.mem_singleton.mp hd; omega
          · split at hd
            · exact more 120 2 (by decide) hd
            · split at hd
              · exact more 117 4 (by decide) hd
              · exact more 85 8 (by decide) hd
theorem sl_repr {x : Str} (h : SL x) : SL (reprText x) := by
  have hq : reprQuote x < 1114112 := by unfold reprQuote; split <;> decide
  have key : ∀ (l : List Nat) (acc : Array Nat), (∀ c ∈ l, c < 1114112) → (∀ c ∈ acc.toList, c < 1114112) → ∀ c ∈ (l.foldl (fun out c => out ++ (Builtin.Str.reprChar (reprQuote x) c).toArray) acc).toList, c < 1114112 := by
    intro l
    induction l with
    | nil => intro acc _ h; exact h
    | cons d l ih =>
      intro acc hl ha
      refine ih _ (fun c hc => hl c (List.mem_cons_of_mem _ hc)) fun c hc => ?_
      rw [Array.toList_append] at hc
      rcases List.mem_append.mp hc with hc | hc
      · exact ha c hc
      · exact sl_char (hl d List.mem_cons_self) c (by simpa using hc)
  intro c hc
  unfold reprText at hc
  have hc : c ∈ ((x.cps.foldl (fun out c => out ++ (Builtin.Str.reprChar (reprQuote x) c).toArray) #[reprQuote x]).push (reprQuote x)).toList := hc
  rw [Array.toList_push] at hc
  rcases List.mem_append.mp hc with hc | hc
  · rw [← Array.foldl_toList] at hc
    exact key x.cps.toList _ h (fun c hc => by
      have : c = reprQuote x := by simpa using hc
      omega) c hc
  · have := List.mem_singleton.mp hc
    omega
theorem sl_join {s : Str} (hs : SL s) : ∀ {l : List Str}, (∀ x ∈ l, SL x) → SL (Str.join s l)
  | [], _ => fun c hc => by
    have hc : c ∈ ([] : List Nat) := hc
    cases hc
  | [x], h => h x List.mem_cons_self
  | x :: y :: r, h => sl_app (sl_app (h x List.mem_cons_self) hs) (sl_join hs fun z hz => h z (List.mem_cons_of_mem _ hz))
theorem sl_from : ∀ {l : List Str} {k : Nat} {acc : Str}, SL acc → (∀ x ∈ l, SL x) → SL (textFrom k acc l)
  | [], _, _, h, _ => h
  | t :: r, k, acc, h, hl => by
    refine sl_from (l := r) (sl_app (sl_app h ?_) (hl t List.mem_cons_self)) fun x hx => hl x (List.mem_cons_of_mem _ hx)
    exact sl_of _
mutual
theorem sl_shown : ∀ d : D, d.rok = true → SL d.py.shown
  | .non, _ => sl_of "None"
  | .bl b, _ => by cases b <;> exact sl_of _
  | .int i, _ => sl_of (toString i)
  | .str s, h => sl_repr fun c hc => of_decide_eq_true (List.all_eq_true.mp (show (s.all fun c => decide (c < 1114112)) = true from h) c (by simpa using hc))
  | .raw _, h => by cases h
  | .dic _ _, h => by cases h
  | .tup l, h => by
    have k := sl_shownA l h
    show SL (tupleText (PyData.shownAll (D.pyA l)))
    unfold tupleText
    exact sl_app (sl_app (sl_of _) (sl_join (sl_of _) k)) (sl_of _)
  | .lst l, h => by
    have k := sl_shownA l h
    show SL (listText (PyData.shownAll (D.pyA l)))
    unfold listText
    exact sl_app (sl_from (sl_of _) k) (sl_of _)
theorem sl_shownA : ∀ l : List D, D.rokA l = true → ∀ x ∈ PyData.shownAll (D.pyA l), SL x
  | [], _ => fun x hx => by cases hx
  | d :: l, h => by
    have h : (d.rok && D.rokA l) = true := h
    rw [Bool.and_eq_true] at h
    intro x hx
    rcases List.mem_cons.mp (show x ∈ d.py.shown :: PyData.shownAll (D.pyA l) from hx) with e | hx
    · rw [e]; exact sl_shown d h.1
    · exact sl_shownA l h.2 x hx
end
theorem shown_rok {d : D} (h : d.rok = true) : (D.str (shownD d)).rok = true := by
  show ((shownD d).all fun c => decide (c < 1114112)) = true
  rw [List.all_eq_true]
  intro c hc
  exact decide_eq_true (sl_shown d h c hc)
end Z
set_option Elab.async false
set_option linter.all false
set_option maxRecDepth 100000
set_option maxHeartbeats 4000000
namespace Z
open PySem PySem.Spec PyProof.Rows L2
end Z
set_option Elab.async false
set_option linter.all false
set_option maxRecDepth 100000
set_option maxHeartbeats 4000000
namespace Z
open PySem PySem.Spec PyProof.Rows L2
end Z
set_option Elab.async false
set_option linter.all false
set_option maxRecDepth 100000
set_option maxHeartbeats 4000000
namespace PySem
open Sem (wp)
section
variable {prog : Program} {w : World} {K : Type} [DecidableEq K] {knd : KeyKind prog w K} {A : Around} {E : Value → Shared → Prop} {s : Shared}
theorem zx_dictPut {d : Addr} {kvs : List (K × Value)} {k : K} {key v : Value} {Q : Unit → Shared → Prop} (hkey : knd.is k key = true) (hm : s.heap.DictOf knd d kvs)
    (hQ : ∀ h', h'.DictOf knd d (stored kvs k v) → Heap.SameBut d s.heap h' → Q () { s with heap := h' })
    (hsz : kvs.length ≤ sizeLine) :
    wpAny (model prog w) A (dictPut d (knd.hash k) key v) Q E s := by
  obtain ⟨o, es, ep, ho, hc, hd, hk, hp, hn⟩ := hm
  have hes : es.size ≤ sizeLine := by have e1 := hp.length; have e2 : es.toList.length = es.size := by simp
                                      omega
  unfold dictPut
  refine wpAny_bind (wpAny_dictFind_of hkey ho hd hk ?_)
  have hidx : (es.findIdx? fun e => knd.is k e.key) = kvs.findIdx? fun kv => decide (kv.1 = k) := by
    rw [← hp.findIdx k]; obtain ⟨l⟩ := es; simp
  cases hi : es.findIdx? fun e => knd.is k e.key with
  | some i =>
    refine wpAny_updateDict ho hd (hQ _ ⟨_, _, ep, Heap.get?_update_self _ ho (Obj.isFreed_of_dict (Obj.data_mapDict hd _)),
      hc.mapDict _, Obj.data_mapDict hd _, hk.modify _ _, ?_, ?_⟩ (Heap.SameBut.update ..))
    · rw [stored, if_pos (any_of_findIdx_some (hidx ▸ hi))]
      have hl : (es.toList.findIdx? fun e => knd.is k e.key) = some i := by rw [← hi]; obtain ⟨l⟩ := es; simp
      have := hp.modify hn hl v
      obtain ⟨l⟩ := es
      simpa using this
    · rw [stored, if_pos (any_of_findIdx_some (hidx ▸ hi)), keys_map_store]; exact hn
  | none =>
    have hnot : k ∉ kvs.map (·.1) := not_mem_of_findIdx_none (hidx ▸ hi)
    have hany : ¬ (kvs.any fun kv => decide (kv.1 = k)) = true := by
      rw [List.any_eq_true]; rintro ⟨kv, hkv, he⟩
      exact hnot (List.mem_map.mpr ⟨kv, hkv, of_decide_eq_true he⟩)
    refine wpAny_updateDictKeys (hz := hes) ho hd (hQ _ ⟨_, _, ep + 1, Heap.get?_update_self _ ho (Obj.isFreed_of_dict (Obj.data_mapDictKeys hd _)),
      hc.mapDictKeys _, Obj.data_mapDictKeys hd _, hk.push hkey _, ?_, ?_⟩ (Heap.SameBut.update ..))
    · rw [stored, if_neg hany]
      have := hp.append hkey (knd.hash k) v
      obtain ⟨l⟩ := es
      simpa using this
    · rw [stored, if_neg hany, List.map_append, List.nodup_append]
      refine ⟨hn, by simp, ?_⟩
      intro a ha b hb
      simp only [List.map_cons, List.map_nil, List.mem_singleton] at hb
      subst hb
      exact fun e => hnot (e ▸ ha)
theorem zx_merge {d o : Addr} {kvs more : List (K × Value)} {Q : Unit → Shared → Prop} (hdo : d ≠ o) (hoS : (o == sysModules) = false) (hne : kvs ≠ [])
    (hd : s.heap.DictOf knd d kvs) (ho : s.heap.DictOf knd o more)
    (hQ : ∀ h', h'.DictOf knd d (merged kvs more) → Heap.SameBut d s.heap h' → Q () { s with heap := h' })
    (hsz : kvs.length + more.length ≤ sizeLine) :
    wpAny (model prog w) A (mergeMapping d (.ref o) false) Q E s := by
  obtain ⟨od, esd, epd, hod, hcd, hdd, hkd, hpd, hnd⟩ := id hd
  obtain ⟨oo, eso, epo, hoo, hco, hdo', hko, hpo, hno⟩ := id ho
  have hlen : more.length = eso.size := by rw [← hpo.length]; simp
  unfold mergeMapping
  refine wpAny_bind (wpAny_isInstance ho.typeIs isSubtype_dict_dict ?_)
  simp only [if_true]
  refine wpAny_bind (wpAny_specialOf ho.typeIs F.slot_dict_iter.lookup (wpAny_bind (wpAny_pure ?_)))
  simp only [beq_self_eq_true, hoS, Bool.false_eq_true, if_false]
  refine wpAny_bind (wpAny_dictEntries hod hdd ?_)
  rw [if_neg (by
    intro he
    have h0 : esd = #[] := Array.isEmpty_iff.mp he
    have := hpd.length
    rw [h0] at this
    exact hne (List.length_eq_zero_iff.mp (by simpa using this.symm)))]
  refine wpAny_bind (wpAny_dictEntries hoo hdo' ?_)
  refine wpAny_bind (wpAny_dictEpoch hoo hdo' ?_)
  refine wpAny_bind ?_
  rw [List.range_eq_range']
  refine wpAny_forIn_list _
    (fun rest _ s' => ∃ h' i, s' = { s with heap := h' } ∧ rest = List.range' i (eso.size - i) ∧ i ≤ eso.size ∧ h'.DictOf knd d (merged kvs (more.take i)) ∧ h'.get? o = some oo ∧ Heap.SameBut d s.heap h')
    _ ?_ ?_ _ _ ⟨s.heap, 0, rfl, by simp, Nat.zero_le _, by simpa [merged] using hd, hoo, Heap.SameBut.refl _ _⟩
  · rintro x rest b s' ⟨h', i, rfl, hr, hi, hd', hoo', hs'⟩
    have hlt : i < eso.size := by
      rcases Nat.lt_or_ge i eso.size with h | h
      · exact h
      · rw [Nat.sub_eq_zero_of_le h] at hr; simp at hr
    obtain ⟨rfl, hrest⟩ : x = i ∧ rest = List.range' (i + 1) (eso.size - (i + 1)) := by
      have e : eso.size - i = (eso.size - (i + 1)) + 1 := by omega
      rw [e, List.range'_succ] at hr
      injection hr with h1 h2
      exact ⟨h1, h2⟩
    refine wpAny_bind (wpAny_dictEntries hoo' hdo' ?_)
    rw [Array.getElem?_eq_getElem hlt]
    obtain ⟨kv, hkv⟩ : ∃ kv, more[x]? = some kv := ⟨more[x]'(by rw [hlen]; exact hlt), List.getElem?_eq_getElem _⟩
    obtain ⟨k, v⟩ := kv
    obtain ⟨hkey, hval⟩ := hpo.get? (e := eso[x]) (by simp [hlt]) hkv
    obtain ⟨k', hkey', hhash⟩ := hko eso[x] (Array.getElem_mem hlt)
    obtain rfl : k' = k := knd.inj _ _ _ hkey' hkey
    show wpAny _ _ (holding [eso[x].key, eso[x].val] (dictPut d eso[x].hash eso[x].key eso[x].val) >>= _) _ _ _
    rw [hhash, hval]
    have hmx : (merged kvs (more.take x)).length ≤ sizeLine := by
      have e1 := merged_length_le kvs (more.take x)
      have e2 : (more.take x).length ≤ more.length := by rw [List.length_take]; omega
      omega
    refine wpAny_bind (wpAny_holding (zx_dictPut (hsz := hmx) hkey hd' fun h'' hd'' hs'' => ?_))
    have hoo'' : h''.get? o = some oo := (hs''.2 o (Ne.symm hdo)).trans hoo'
    refine wpAny_bind (wpAny_dictEpoch hoo'' hdo' ?_)
    rw [if_neg (by simp)]
    exact wpAny_pure ⟨h'', x + 1, rfl, hrest, hlt, by rw [merged_take_succ kvs more x (k', v) hkv]; exact hd'', hoo'', hs'.trans hs''⟩
  · rintro b s' ⟨h', i, rfl, hr, hi, hd', hoo', hs'⟩
    have hin : i = eso.size := by
      rcases Nat.lt_or_ge i eso.size with h | h
      · have e : eso.size - i = (eso.size - (i + 1)) + 1 := by omega
        rw [e, List.range'_succ] at hr; exact nomatch hr
      · exact Nat.le_antisymm hi h
    refine wpAny_pure (hQ h' ?_ hs')
    rw [hin, ← hlen, List.take_length] at hd'; exact hd'
end
section
theorem zx_gather (f : (Option (Sem Value) × Sem Value) → (Option Addr × List (Sem Value × Sem Value)) → Sem (ForInStep (Option Addr × List (Sem Value × Sem Value)))) (m : Option Addr)
    (hf : ∀ (p : Sem Value × Sem Value) (run : List (Sem Value × Sem Value)), run.length + 1 < 17 → f (some p.1, p.2) (m, run) = pure (.yield (m, run ++ [p]))) :
    ∀ (items : List (Sem Value × Sem Value)) (more : List (Option (Sem Value) × Sem Value)) (run : List (Sem Value × Sem Value)), run.length + items.length < 17 → forIn (items.map (fun p => (some p.1, p.2)) ++ more) (m, run) f = forIn more (m, run ++ items) f
  | [], more, run, _ => by simp
  | p :: rest, more, run, h => by
    rw [List.map_cons, List.cons_append, List.forIn_cons, hf p run (by simp at h; omega), pure_bind]
    have := zx_gather f m hf rest more (run ++ [p]) (by simp at h ⊢; omega)
    simpa using this
theorem zx_display (p1 : List (Sem Value × Sem Value)) (q : Sem Value × Sem Value) (p2 : List (Sem Value × Sem Value)) (h1 : p1.length = 16) (h2 : p2 ≠ []) (h3 : p2.length ≤ 15) :
    dictDisplay ((p1 ++ q :: p2).map fun p => (some p.1, p.2)) = (do
      let d ← subDict (p1 ++ [q])
      let sub ← holding [.ref d] (subDict p2)
      (holding [.ref d, .ref sub] (mergeMapping d (.ref sub) false)).onRaise fun x => do let _ ← holding [.ref d, x] (runValue (.builtin "proto.let_go" {}))
      pure (.ref d)) := by
  have g1 : ∀ (run : List (Sem Value × Sem Value)) (p : Sem Value × Sem Value), run.length + 1 < 17 → ((run ++ [(p.1, p.2)]).length == 17) = false := fun run p h => by simp; omega
  have e17 : ((p1 ++ [(q.1, q.2)]).length == 17) = true := by simp [h1]
  have n1 : (p1 ++ [(q.1, q.2)]).isEmpty = false := by simp
  have n2 : p2.isEmpty = false := by cases p2 with
    | nil => exact absurd rfl h2
    | cons a b => rfl
  unfold dictDisplay
  dsimp only
  rw [List.map_append, List.map_cons]
  rw [zx_gather _ none (fun p run h => by
    simp only [g1 run p h, Bool.false_eq_true, if_false]) p1 _ [] (by simp [h1])]
  rw [List.nil_append, List.forIn_cons]
  simp only [e17, if_true, n1, Bool.false_eq_true, if_false, bind_assoc, pure_bind]
  congr 1
  funext d
  rw [show List.map (fun p : Sem Value × Sem Value => (some p.1, p.2)) p2 = List.map (fun p : Sem Value × Sem Value => (some p.1, p.2)) p2 ++ [] from (List.append_nil _).symm]
  rw [zx_gather _ (some d) (fun p run h => by
    simp only [g1 run p h, Bool.false_eq_true, if_false]) p2 _ [] (by simp; omega)]
  rw [List.nil_append, List.forIn_nil]
  simp only [n2, Bool.false_eq_true, if_false, bind_assoc, pure_bind]
end
section
variable {prog : Program} {w : World} {A : Around} {E : Value → Shared → Prop} {s : Shared}
/-- a display of 18 to 32 pairs: two dicts, the second laid into the first -/
theorem zx_Dict_two {env : Env} {keys : List (Option Expr)} {values : List Expr} {pos : Pos} {p1 : List (Sem Value × Sem Value)} {q : Sem Value × Sem Value} {p2 : List (Sem Value × Sem Value)} {Q : Value → Shared → Prop}
    (hall : keys.all (·.isSome) = true) (hl : keys.length = values.length) (hp : pairTrees keys values env pos = p1 ++ q :: p2) (h1 : p1.length = 16) (h2 : p2 ≠ []) (h3 : p2.length ≤ 15)
    (h : wpAny (model prog w) A (subDict (p1 ++ [q])) (fun d s1 => wpAny (model prog w) A (subDict p2) (fun o s2 => ∀ E', wpAny (model prog w) A (mergeMapping d (.ref o) false) (fun _ s3 => Q (.ref d) s3) E' s2) E s1) E s) :
    wpAny (model prog w) A (eval (.Dict keys values pos) env) Q E s := by
  rw [arm_eval_Dict, zip_pairTrees keys values env pos hall hl, hp, zx_display p1 q p2 h1 h2 h3]
  refine wpAny_bind (wpAny_standAt (wpAny_bind (wpAny_mono h (fun d s1 h1 => ?_) fun _ _ e => e)))
  refine wpAny_bind (wpAny_holding (wpAny_mono h1 (fun o s2 h2 => ?_) fun _ _ e => e))
  exact wpAny_bind (wpAny_onRaise (wpAny_holding (wpAny_mono (h2 _) (fun _ s3 h3 => wpAny_pure h3) fun _ _ e => e)))
/-- the first of them, pair by pair -/
theorem zx_subLong {pairs : List (Sem Value × Sem Value)} {Q : Addr → Shared → Prop} (hlen : ¬ pairs.length ≤ 15)
    (h : wpAny (model prog w) A (forIn pairs PUnit.unit fun (x : Sem Value × Sem Value) (_ : PUnit) => (do
        let kv ← x.1
        let vv ← holding [kv] x.2
        holding [kv, vv] (dictSet s.heap.objs.size kv vv)
        pure (ForInStep.yield PUnit.unit) : Sem (ForInStep PUnit))) (fun _ s1 => Q s.heap.objs.size s1) E { s with heap := s.heap.push { cls := .type "dict", data := .dict #[] } }) :
    wpAny (model prog w) A (subDict pairs) Q E s := by
  unfold subDict
  refine wpAny_bind (wpAny_alloc ?_)
  refine wpAny_bind (wpAny_holding ?_)
  rw [if_neg hlen]
  refine wpAny_bind (wpAny_rule ?_)
  exact wpAny_bind (wpAny_mono h (fun _ s1 h1 => wpAny_pure (wpAny_pure h1)) fun _ _ e => e)
end
end PySem
namespace Z
open PySem PySem.Spec PyProof.Rows L2
inductive PCs (X : Cx) : List (Option Expr) → List Expr → List (Key × V) → Prop
  | nil : PCs X [] [] []
  | cons {k v : Expr} {q : Key} {y : V} {ks : List (Option Expr)} {vs : List Expr} {kvs : List (Key × V)} (hk : PE X k (tC (kV q))) (hv : PE X v (tC y)) (hr : PCs X ks vs kvs) : PCs X (some k :: ks) (v :: vs) ((q, y) :: kvs)
section
variable {X : Cx} {pos : Pos} {pins : List (Addr × Obj)} {σ : L2.St}
theorem PCs.pps {keys : List (Option Expr)} {values : List Expr} {kvs : List (Key × V)} (h : PCs X keys values kvs) : PPs X pos keys values (kvs.map fun kv => (tC (kV kv.1), tC kv.2)) := by
  induction h with
  | nil => exact pps_nil
  | cons hk hv _ ih => exact pps_cons hk hv ih
theorem tPairs_tC {σ : L2.St} : ∀ (kvs : List (Key × V)) (H : Hp) (Q : List (V × V) → Hp → Prop), Q (kvs.map fun kv => (kV kv.1, kv.2)) H → tPairs (kvs.map fun kv => (tC (kV kv.1), tC kv.2)) σ H Q
  | [], _, _, h => h
  | _ :: kvs, H, Q, h => tPairs_tC kvs H (fun ps H3 => Q (_ :: ps) H3) h
theorem PCs.lens {keys : List (Option Expr)} {values : List Expr} {kvs : List (Key × V)} (h : PCs X keys values kvs) : kvs.length = keys.length ∧ values.length = keys.length ∧ keys.all (·.isSome) = true := by
  induction h with
  | nil => exact ⟨rfl, rfl, rfl⟩
  | cons _ _ _ ih => exact ⟨by rw [List.length_cons, List.length_cons, ih.1], by rw [List.length_cons, List.length_cons, ih.2.1], by rw [List.all_cons, ih.2.2]; rfl⟩
theorem zx_short {keys : List (Option Expr)} {values : List Expr} {kvs : List (Key × V)} (h : PCs X keys values kvs) (hz : keys.length ≤ 15) {H : Hp} {s : Shared} {Q : Addr → Shared → Prop} (I : Inv X pins σ H s)
    (hQ : ∀ p s', H p = none → Inv X pins σ (upd H p (.dK (mergeK [] kvs))) s' → Q p s') : wpAny (model X.prog X.w) X.A (subDict (pairTrees keys values X.env pos)) Q X.xe s := by
  obtain ⟨l1, l2, l3⟩ := h.lens
  have hn := I.hok.fresh (Nat.le_refl s.heap.objs.size)
  have I1 := I.laid (a := s.heap.objs.size) (o := .dK []) (h' := s.heap.push { cls := .type "dict", data := .dict #[] }) (t' := s.toks) (fun _ _ q => Heap.get?_push_of_some _ q) (Nat.le_refl _) (dk_empty s.heap I.big)
  refine wpAny_subDict (knd := mixKind X.prog X.w) (by rw [pairTrees_length _ _ _ _ l3 l2.symm]; exact hz) (thn (h.pps.run pins _ σ _ (fun ps H2 => ps = kvs.map (fun kv => (kV kv.1, kv.2)) ∧ H2 = upd H s.heap.objs.size (.dK [])) I1 (tPairs_tC kvs _ _ ⟨rfl, rfl⟩)) fun ws s2 ⟨ps, H2, I2, rel, ep, eH⟩ => ?_)
  subst ep eH
  obtain ⟨rs, c, rk⟩ := carries_of (P := X.prog) (w := X.w) rel
  obtain ⟨z, hd, vs0, r0, dd⟩ := dk_of I2.hok (upd_same)
  cases r0
  refine ⟨rs, c, dd, fun h' dd' hs => hQ _ _ hn ?_⟩
  have hz2 : (mergeK [] kvs).length ≤ sizeLine := by
    have h1 := length_mergeK kvs []
    rw [List.length_nil] at h1
    rw [sizeLine_eq]; omega
  have he : ∃ q, h'.get? s.heap.objs.size = some q := let ⟨q, _, _, hq, _⟩ := dd'; ⟨q, hq⟩
  have w := d_write (ob := .dK (mergeK [] kvs)) (t' := s2.toks + ws.length) I2 (by rw [upd_same]; exact True.intro) hs he (dk_new hz2 hd (rk.merge .nil) dd')
  have e : upd (upd H s.heap.objs.size (.dK [])) s.heap.objs.size (.dK (mergeK [] kvs)) = upd H s.heap.objs.size (.dK (mergeK [] kvs)) := by
    funext b
    by_cases q : b = s.heap.objs.size
    · rw [q, upd_same, upd_same]
    · rw [upd_ne q, upd_ne q, upd_ne q]
  rw [e] at w
  exact w
theorem zx_long {p : Addr} {keys : List (Option Expr)} {values : List Expr} {kvs : List (Key × V)} (h : PCs X keys values kvs) : ∀ (acc : List (Key × V)) (H : Hp) (s : Shared) (Q : PUnit → Shared → Prop), Inv X pins σ H s → H p = some (.dK acc) → acc.length + kvs.length ≤ 100 →
    (∀ H' s', (∀ b, b ≠ p → H' b = H b) → H' p = some (.dK (mergeK acc kvs)) → Inv X pins σ H' s' → Q PUnit.unit s') →
    wpAny (model X.prog X.w) X.A (forIn (pairTrees keys values X.env pos) PUnit.unit fun (x : Sem Value × Sem Value) (_ : PUnit) => (do
        let kv ← x.1
        let vv ← holding [kv] x.2
        holding [kv, vv] (dictSet p kv vv)
        pure (ForInStep.yield PUnit.unit) : Sem (ForInStep PUnit))) Q X.xe s := by
  induction h with
  | nil =>
    intro acc H s Q I e _ hQ
    show wpAny _ _ (forIn [] _ _) _ _ _
    rw [List.forIn_nil]
    exact wpAny_pure (hQ H s (fun _ _ => rfl) e I)
  | @cons k v q y ks vs kvs hk hv _ ih =>
    intro acc H s Q I e hz hQ
    rw [List.length_cons] at hz
    show wpAny _ _ (forIn ((eval k X.env, (do let x ← eval v X.env; standAt pos; pure x)) :: pairTrees ks vs X.env pos) _ _) _ _ _
    rw [List.forIn_cons]
    refine wpAny_bind (wpAny_bind (thn (hk.run pins s σ H (fun x H1 => x = kV q ∧ H1 = H) I ⟨rfl, rfl⟩) fun u s1 ⟨x, H1, I1, rx, ex, eH⟩ => ?_))
    subst ex eH
    refine wpAny_bind (wpAny_holding (wpAny_bind (thn (hv.run pins s1 σ H1 (fun x H2 => x = y ∧ H2 = H1) I1 ⟨rfl, rfl⟩) fun u2 s2 ⟨x2, H2, I2, rx2, ex2, eH2⟩ => ?_)))
    subst ex2 eH2
    refine wpAny_bind (wpAny_standAt (wpAny_pure ?_))
    obtain ⟨z, hd, vs1, rel, dd⟩ := dk_of I2.hok e
    have lr := rel.length
    have hz1 : vs1.length ≤ sizeLine := by rw [← lr]; exact z
    have hl : (putK acc q x2).length ≤ sizeLine := by
      have := length_putK acc q x2
      rw [sizeLine_eq]; omega
    refine wpAny_bind (wpAny_holding (wpAny_dictSet_pairs (hsz := hz1) (kV_is rx) dd fun h' dd' hs => wpAny_pure ?_))
    have he : ∃ q, h'.get? p = some q := let ⟨q, _, _, hq, _⟩ := dd'; ⟨q, hq⟩
    have I3 := d_write (ob := .dK (putK acc q x2)) (t' := s2.toks + 1) I2 (by rw [e]; exact True.intro) hs he (dk_new hl hd (rel.put q rx2) dd')
    refine ih (putK acc q x2) _ _ Q I3 upd_same (by have := length_putK acc q x2; omega) fun H' s' k1 k2 k3 => hQ H' s' (fun b hb => by rw [k1 b hb, upd_ne hb]) k2 k3
theorem zx_mergeI {d o : Addr} {a b : List (Key × V)} {H : Hp} {s : Shared} {E : Value → Shared → Prop} (hdo : d ≠ o) (hne : a ≠ []) (I : Inv X pins σ H s) (h1 : H d = some (.dK a)) (h2 : H o = some (.dK b)) (hz : a.length + b.length ≤ 100) :
    wpAny (model X.prog X.w) X.A (mergeMapping d (.ref o) false) (fun _ s' => Inv X pins σ (upd H d (.dK (mergeK a b))) s') E s := by
  obtain ⟨z1, e1, vs1, r1, d1⟩ := dk_of I.hok h1
  obtain ⟨z2, e2, vs2, r2, d2⟩ := dk_of I.hok h2
  have l1 := r1.length
  have l2 := r2.length
  refine zx_merge (knd := mixKind X.prog X.w) hdo e2 (fun h => ?_) d1 d2 (fun h' dd' hs => ?_) (by rw [sizeLine_eq]; omega)
  · rw [h] at l1
    exact hne (List.length_eq_zero_iff.mp l1)
  · have hl : (mergeK a b).length ≤ sizeLine := by
      have := length_mergeK b a
      rw [sizeLine_eq]; omega
    have he : ∃ q, h'.get? d = some q := let ⟨q, _, _, hq, _⟩ := dd'; ⟨q, hq⟩
    exact d_write (ob := .dK (mergeK a b)) (t' := s.toks) I (by rw [h1]; exact True.intro) hs he (dk_new hl e1 (r2.merge r1) dd')
theorem putK_ne (acc : List (Key × V)) (k : Key) (v : V) : putK acc k v ≠ [] := fun e => by
  have h := valV_put acc k k v
  rw [e, if_pos rfl] at h
  cases h
theorem mergeK_ne : ∀ (l acc : List (Key × V)), acc ≠ [] → mergeK acc l ≠ []
  | [], _, h => h
  | y :: l, acc, _ => mergeK_ne l (putK acc y.1 y.2) (putK_ne _ _ _)
/-- a display of 18 to 32 literal pairs -/
def tDispL (k1 k2 : List (Key × V)) : TE := fun _ H Q => ∀ p o H2 u, H p = none → H o = none → p ≠ o → (∀ b, b ≠ p → b ≠ o → H2 b = H b) → H2 p = some (.dK (mergeK (mergeK [] k1) (mergeK [] k2))) → H2 o = some u → Q (.ref p) H2
theorem pairTrees_split : ∀ (n : Nat) (keys : List (Option Expr)) (values : List Expr) (env : Env), keys.all (·.isSome) = true → keys.length = values.length → pairTrees keys values env pos = pairTrees (keys.take n) (values.take n) env pos ++ pairTrees (keys.drop n) (values.drop n) env pos
  | 0, keys, values, env, _, _ => rfl
  | n + 1, [], [], env, _, _ => rfl
  | n + 1, [], _ :: _, env, _, h => by cases h
  | n + 1, _ :: _, [], env, _, h => by cases h
  | n + 1, none :: _, _ :: _, env, h, _ => by cases h
  | n + 1, some k :: ks, v :: vs, env, h, hl => by
    have := pairTrees_split n ks vs env (by simpa using h) (Nat.succ.inj hl)
    show _ :: pairTrees ks vs env pos = _ :: (pairTrees (ks.take n) (vs.take n) env pos ++ _)
    rw [this]
    rfl
theorem pe_dispL {keys : List (Option Expr)} {values : List Expr} {k1 k2 : List (Key × V)} (h1 : PCs X (keys.take 17) (values.take 17) k1) (h2 : PCs X (keys.drop 17) (values.drop 17) k2) (hl : keys.length = values.length) (hlo : 17 < keys.length) (hhi : keys.length ≤ 32) : PE X (.Dict keys values pos) (tDispL k1 k2) := by
  refine ⟨fun pins s σ H Q I q => ?_⟩
  obtain ⟨a1, a2, a3⟩ := h1.lens
  obtain ⟨b1, b2, b3⟩ := h2.lens
  have hall : keys.all (·.isSome) = true := by
    rw [← List.take_append_drop 17 keys, List.all_append, a3, b3]; rfl
  rw [List.length_take] at a1
  rw [List.length_drop] at b1
  have sp := pairTrees_split (pos := pos) 17 keys values X.env hall hl
  have n1 : (pairTrees (keys.take 17) (values.take 17) X.env pos).length = 17 := by
    rw [pairTrees_length _ _ _ _ a3 a2.symm, List.length_take]; omega
  have n2 : (pairTrees (keys.drop 17) (values.drop 17) X.env pos).length = keys.length - 17 := by
    rw [pairTrees_length _ _ _ _ b3 b2.symm, List.length_drop]
  obtain ⟨p1, x, ep⟩ : ∃ p1 x, pairTrees (keys.take 17) (values.take 17) X.env pos = p1 ++ [x] := by
    have hne : pairTrees (keys.take 17) (values.take 17) X.env pos ≠ [] := fun e => by rw [e] at n1; cases n1
    exact ⟨_, _, (List.dropLast_concat_getLast hne).symm⟩
  have m1 : p1.length = 16 := by rw [ep, List.length_append, List.length_singleton] at n1; omega
  refine zx_Dict_two (p1 := p1) (q := x) (p2 := pairTrees (keys.drop 17) (values.drop 17) X.env pos) hall hl (by rw [sp, ep]; simp) m1 (fun e => by rw [e] at n2; simp at n2; omega) (by omega) ?_
  rw [← ep]
  have hn := I.hok.fresh (Nat.le_refl s.heap.objs.size)
  have I1 := I.laid (a := s.heap.objs.size) (o := .dK []) (h' := s.heap.push { cls := .type "dict", data := .dict #[] }) (t' := s.toks) (fun _ _ q => Heap.get?_push_of_some _ q) (Nat.le_refl _) (dk_empty s.heap I.big)
  refine zx_subLong (by omega) (zx_long h1 [] _ _ (fun _ s1 => wpAny (model X.prog X.w) X.A (subDict (pairTrees (keys.drop 17) (values.drop 17) X.env pos)) (fun o s2 => ∀ E', wpAny (model X.prog X.w) X.A (mergeMapping s.heap.objs.size (.ref o) false) (fun _ s3 => ∃ v H', Inv X pins σ H' s3 ∧ RelV v (Value.ref s.heap.objs.size) ∧ Q v H') E' s2) X.xe s1) I1 upd_same (by simp only [List.length_nil]; omega) fun H1 s1 f1 f2 I2 => ?_)
  refine zx_short h2 (by rw [List.length_drop]; omega) I2 fun o s2 ho I3 E' => ?_
  have hpo : s.heap.objs.size ≠ o := fun e => by rw [← e, f2] at ho; cases ho
  have lm := length_mergeK k1 []
  have lm2 := length_mergeK k2 []
  simp only [List.length_nil] at lm lm2
  have ne : mergeK [] k1 ≠ [] := by
    cases k1 with
    | nil => simp at a1; omega
    | cons z zs =>
      exact mergeK_ne zs _ (putK_ne [] z.1 z.2)
  refine wpAny_mono (zx_mergeI hpo ne I3 (by rw [upd_ne hpo]; exact f2) upd_same (by omega)) (fun _ s3 I4 => ?_) fun _ _ e => e
  refine ⟨.ref s.heap.objs.size, _, I4, rfl, q s.heap.objs.size o _ (.dK (mergeK [] k2)) hn ?_ hpo (fun b hb hb2 => ?_) upd_same ?_⟩
  · rw [f1 o (Ne.symm hpo), upd_ne (Ne.symm hpo)] at ho; exact ho
  · rw [upd_ne hb, upd_ne hb2, f1 b hb, upd_ne hb]
  · rw [upd_ne (Ne.symm hpo), upd_same]
end
end Z
set_option Elab.async false
set_option linter.all false
set_option maxRecDepth 100000
set_option maxHeartbeats 4000000
namespace Z
open PySem PySem.Spec PyProof.Rows L2
section
variable {C : Ct} {Hs : Hp} {A : List Addr} {g : List Sl} {σ : L2.St} {H : Hp} {p : Addr} {o : HO}
/-- what was held is data from now on -/
theorem Ok.layHeld (h0 : C.H0 p = none) (hs0 : C.Hs0 p = none) (hp : ∀ q ∈ C.pins, q.2 ≠ p) (ok : Ok (C.hold p o) Hs A g σ H) : Ok C (upd Hs p o) A g σ H ∧ Same Hs (upd Hs p o) := by
  have f1 := ok.heldN hs0
  have f2 := ok.held hp
  have sm : Same Hs (upd Hs p o) := fun b o' e => by
    rw [upd_ne (fun z => by rw [z, f1] at e; cases e)]
    exact e
  refine ⟨⟨ok.ln, ok.lg, ok.la, ok.base.trans sm, fun b o' e => ?_, fun i d e => ?_, fun i d e => ?_, fun i c pn l e => ?_, ok.inj, fun b u e => ?_, fun b u e k => ?_, ok.pinned, ok.pin1, ok.locked⟩, sm⟩
  · by_cases z : b = p
    · subst z
      rw [upd_same] at e
      cases e
      exact f2
    · rw [upd_ne z] at e
      exact ok.same b o' e
  · obtain ⟨v, q1, q2⟩ := ok.dat i d e
    exact ⟨v, q1, q2.mono sm⟩
  · obtain ⟨a, q1, q2, q3⟩ := ok.frz i d e
    exact ⟨a, q1, q2, q3.mono sm⟩
  · obtain ⟨a, u, q1, q2, q3, q4, q5, q6⟩ := ok.own i c pn l e
    have ne : a ≠ p := by
      cases pn with
      | false => exact (hold_dn (q6 rfl)).1
      | true =>
        intro z
        exact hp _ (ok.pin1 i c l a e q1) z
    exact ⟨a, u, q1, q2, by rw [upd_ne ne]; exact q3, q4, q5.mono sm, fun z => (hold_dn (q6 z)).2⟩
  · by_cases z : b = p
    · exact .inr (by rw [z]; exact h0)
    · rw [upd_ne z] at e
      rcases ok.grow b u e with z | z
      · exact .inl z
      · exact .inr (hold_dn z).2
  · refine ok.keep b u ?_ k
    show upd C.H0 p o b = some u
    rw [upd_ne (fun z => by rw [z, h0] at e; cases e)]
    exact e
end
theorem merge_app : ∀ (l acc : List (Key × V)), ((acc ++ l).map (·.1)).Nodup → mergeK acc l = acc ++ l
  | [], acc, _ => by rw [List.append_nil]; rfl
  | y :: l, acc, h => by
    have hn : ¬ (acc.any fun kv => decide (kv.1 = y.1)) = true := by
      rw [List.any_eq_true]
      rintro ⟨a, h1, h2⟩
      rw [List.map_append, List.map_cons, List.nodup_append] at h
      exact h.2.2 a.1 (List.mem_map.mpr ⟨a, h1, rfl⟩) y.1 List.mem_cons_self (of_decide_eq_true h2)
    have e : putK acc y.1 y.2 = acc ++ [y] := by
      unfold putK
      rw [if_neg hn]
    show mergeK (putK acc y.1 y.2) l = _
    rw [e, merge_app l (acc ++ [y]) (by simpa using h)]
    simp
theorem kS_inj {a b : List Nat} (h : kS a = kS b) : a = b := by
  have z : (⟨a.toArray⟩ : Str) = ⟨b.toArray⟩ := Sum.inr.inj h
  injection z with z
  simpa using congrArg Array.toList z
theorem keys_nodup {ks : List (List Nat)} {vs : List V} (hl : ks.length = vs.length) (hn : ks.Nodup) : (((ks.map kS).zip vs).map (·.1)).Nodup := by
  rw [List.map_fst_zip (by rw [List.length_map]; omega)]
  exact List.Pairwise.map _ (fun a b h e => h (kS_inj e)) hn
theorem vz_all {K : PySem.W.Frag} {H : Hp} : ∀ {ds : List D}, ds.all D.scal = true → DzA K H (ds.map D.v) ds
  | [], _ => .nil
  | d :: ds, h => by
    rw [List.all_cons, Bool.and_eq_true] at h
    exact .cons (D.vz h.1) (vz_all h.2)
section
variable {X : Cx} {pos : Pos}
/-- a display of 18 to 32 literal pairs -/
theorem ze_dicL {keys : List (Option Expr)} {values : List Expr} {k1 k2 : List (Key × V)} (ks : List (List Nat)) (ds : List D) (h1 : PCs X (keys.take 17) (values.take 17) k1) (h2 : PCs X (keys.drop 17) (values.drop 17) k2)
    (he : k1 ++ k2 = (ks.map kS).zip (ds.map D.v)) (hsc : ds.all D.scal = true) (hnd : ks.Nodup) (hl : ks.length = ds.length) (hkv : keys.length = values.length) (hlo : 17 < keys.length) (hhi : keys.length ≤ 32) : ZE X (.Dict keys values pos) (zC (.dic ks ds)) := by
  refine PE.of (pe_dispL h1 h2 hkv hlo hhi) fun σ H Q ⟨C, Hs, A, g, r, g', hK, hn, ok, e, q⟩ => ?_
  cases e
  have lv : ks.length = (ds.map D.v).length := by rw [List.length_map]; exact hl
  have nd := keys_nodup lv hnd
  rw [← he] at nd
  have nd1 : ((([] : List (Key × V)) ++ k1).map (·.1)).Nodup := by
    rw [List.map_append, List.nodup_append] at nd
    exact nd.1
  have nd2 : ((([] : List (Key × V)) ++ k2).map (·.1)).Nodup := by
    rw [List.map_append, List.nodup_append] at nd
    exact nd.2.1
  intro p o H2 u hp ho hpo f1 f2 f3
  rw [merge_app k1 [] nd1, merge_app k2 [] nd2, List.nil_append, List.nil_append, merge_app k2 k1 nd, he] at f2
  obtain ⟨ok1, sm⟩ := ok.lay (o := .dK ((ks.map kS).zip (ds.map D.v))) hp
  have ho1 : upd H p (.dK ((ks.map kS).zip (ds.map D.v))) o = none := by rw [upd_ne (Ne.symm hpo)]; exact ho
  have ok2 := (ok1.hold (o := u) ho1).unhold (ok1.fresh0 ho1).2
  have eH : upd (upd H p (.dK ((ks.map kS).zip (ds.map D.v)))) o u = H2 := by
    funext b
    by_cases z : b = o
    · rw [z, upd_same, f3]
    · rw [upd_ne z]
      by_cases z2 : b = p
      · rw [z2, upd_same, f2]
      · rw [upd_ne z2, f1 b z2 z]
  rw [eH] at ok2
  exact q (upd Hs p (.dK ((ks.map kS).zip (ds.map D.v)))) A (.ref p) H2 sm (Pre.refl A) ok2 (Dz.dic upd_same lv (vz_all hsc))
/-- {'a': x, ..} of at most 15 pairs -/
def zDic (ks : List (List Nat)) (ms : List ZM) : ZM := fun g => do
  let (rs, g1) ← zVals ms g
  let (ds, g2) ← frzAll rs g1
  some (.dat (.dic ks ds), g2)
theorem ze_dic {keys : List (Option Expr)} {values : List Expr} {ks : List (List Nat)} {ms : List ZM} (h : PPs X pos keys values (pTrs X.K X.N.length ks ms)) (hl : ks.length = ms.length := by rfl) (hnd : ks.Nodup := by decide +kernel)
    (hall : keys.all (·.isSome) = true := by rfl) (hlen : keys.length = values.length := by rfl) (h0 : keys ≠ [] := by exact List.cons_ne_nil _ _) (h15 : keys.length ≤ 15 := by decide) (h15' : ks.length ≤ 15 := by decide) : ZE X (.Dict keys values pos) (zDic ks ms) := by
  refine PE.of (pe_disp h hall hlen h0 h15) fun σ H Q ⟨C, Hs, A, g, r, g', hK, hn, ok, e, q⟩ => ?_
  unfold zDic at e
  simp only [Option.bind_eq_bind, Option.bind_eq_some_iff] at e
  obtain ⟨⟨rs, g1⟩, h1, ⟨ds, g2⟩, h2, e⟩ := e
  cases e
  intro p hp
  obtain ⟨f1, f2⟩ := ok.fresh0 hp
  have f0 : C.Hs0 p = none := by
    cases e : C.Hs0 p with
    | none => rfl
    | some u => rw [ok.base p u e] at f1; cases f1
  refine pairs_of (C := C.hold p (.dK [])) hK hn hl (ok.hold hp) h1 fun Hs1 A1 vs H1 s1 p1 ok1 rel1 => ?_
  have hp' : ∀ q ∈ C.pins, q.2 ≠ p := ok.pinNe hp
  obtain ⟨Hs2, s2, ok2, dz⟩ := frzAll_ok ok1 rel1 h2
  have l1 := dz.length
  have l2 := zVals_len h1
  have l3 : rs.length = vs.length := by
    have key : ∀ {K : PySem.W.Frag} {Hs : Hp} {A : List Addr} (vs : List V) (rs : List R), RelRs K Hs A vs rs → rs.length = vs.length := by
      intro K Hs A vs
      induction vs with
      | nil => intro rs h; cases rs with | nil => rfl | cons _ _ => exact h.elim
      | cons v vs ih => intro rs h; cases rs with | nil => exact h.elim | cons r rs => rw [List.length_cons, List.length_cons, ih rs h.2]
    exact key vs rs rel1
  have lv : ks.length = vs.length := by omega
  refine ⟨ok1.held hp', (ks.map kS).zip vs, zip_sK lv, by rw [List.length_zip, List.length_map]; omega, ?_⟩
  have nd := keys_nodup lv hnd
  rw [merge_app _ [] (by rw [List.nil_append]; exact nd), List.nil_append]
  have ok3 := ok2.rehold (o' := .dK ((ks.map kS).zip vs)) f0 hp'
  obtain ⟨ok4, sm⟩ := ok3.layHeld f2 f0 hp'
  exact q (upd Hs2 p (.dK ((ks.map kS).zip vs))) A1 (.ref p) _ ((s1.trans s2).trans sm) p1 ok4 (Dz.dic upd_same lv (dz.mono sm))
end
theorem valV_has : ∀ {ks : List (List Nat)} {xs : List V} (s : List Nat), ks.length = xs.length → (valV ((ks.map kS).zip xs) (kS s)).isSome = ks.contains s
  | [], xs, s, _ => rfl
  | k :: ks, [], s, h => by cases h
  | k :: ks, x :: xs, s, h => by
    rw [List.contains_cons]
    by_cases e : k = s
    · subst e
      show (valV ((kS k, x) :: (ks.map kS).zip xs) (kS k)).isSome = _
      rw [valV_pos rfl]
      simp
    · show (valV ((kS k, x) :: (ks.map kS).zip xs) (kS s)).isSome = _
      rw [valV_neg (p := (kS k, x)) (fun z => e (kS_inj z)), valV_has s (Nat.succ.inj h)]
      have : (s == k) = false := by
        rw [beq_eq_false_iff_ne]
        exact fun z => e z.symm
      rw [this, Bool.false_or]
def rDIn (neg : Bool) : R2 := fun x y H Q => ∃ a o, y = .ref a ∧ DGet H a x o ∧ Q (.bl (if neg then !o.isSome else o.isSome)) H
theorem o_din {X : Cx} {k : Nat} (hr : Room k X.A) : OpR X (compareOp .In) (rDIn false) := by
  intro pins s σ H x y v u Q I rx ry h
  obtain ⟨a, o, rfl, g, q⟩ := h
  obtain rfl : u = Value.ref a := ry
  exact d_in (hu_of hr) I g rx fun s3 I3 => ⟨.bl o.isSome, H, I3, rfl, q⟩
def dinD : D → D → Option D
  | .str s, .dic ks _ => some (.bl (ks.contains s))
  | _, _ => none
theorem s_din {K : PySem.W.Frag} : OpS K (rDIn false) dinD := by
  intro H x y d e z Q hx hy e1 q
  unfold dinD at e1
  split at e1
  · cases e1
    cases hx
    cases hy with
    | dic h n a =>
      refine ⟨_, _, rfl, DGet.k (k := kS _) h, ?_⟩
      rw [if_neg Bool.false_ne_true, valV_has _ n]
      exact q
  · cases e1
def isDic : R → Option (List (List Nat) × List D)
  | .dat (.dic ks ds) => some (ks, ds)
  | _ => none
theorem isDic_some {r : R} {q : List (List Nat) × List D} (h : isDic r = some q) : r = .dat (.dic q.1 q.2) := by
  unfold isDic at h
  split at h
  · cases h; rfl
  · cases h
/-- d[k] of a dict that a name holds -/
def zDgt (md mk : ZM) : ZM := fun g => do
  let (r, g1) ← md g
  let q ← isDic r
  let (rk, g2) ← mk g1
  let s ← isS rk
  let d ← lookD q.1 q.2 s
  some (.dat d, g2)
theorem ze_dgt {X : Cx} {o i : Expr} {pos : Pos} {md mk : ZM} {k : Nat} (hr : Room k X.A) (ho : ZE X o md) (hi : ZE X i mk) (hs : NoSl i := by intro _ _; rfl) : ZE X (.Subscript o i pos) (zDgt md mk) := by
  refine PE.of (pe_dget (hu_of hr) ho hi hs) fun σ H Q ⟨C, Hs, A, g, r, g', hK, hn, ok, e, q⟩ => ?_
  unfold zDgt at e
  simp only [Option.bind_eq_bind, Option.bind_eq_some_iff] at e
  obtain ⟨⟨r0, g1⟩, h1, ⟨ks, ds⟩, h2, ⟨rk, g2⟩, h3, s, h4, d, h5, e⟩ := e
  cases e
  have e0 := isDic_some h2
  have e1 := isS_some h4
  subst e0 e1
  refine ⟨C, Hs, A, g, _, g1, hK, hn, ok, h1, fun Hs1 A1 v1 H1 s1 p1 ok1 rel1 => ?_⟩
  refine ⟨C, Hs1, A1, g1, _, g2, hK, hn, ok1, h3, fun Hs2 A2 v2 H2 s2 p2 ok2 rel2 => ?_⟩
  have ev : v2 = .str ⟨s.toArray⟩ := (show Dz C.K Hs2 v2 (.str s) from rel2).v rfl
  subst ev
  have dz : Dz C.K Hs2 v1 (.dic ks ds) := (show Dz C.K Hs1 v1 (.dic ks ds) from rel1).mono s2
  cases dz with
  | dic h n a =>
    obtain ⟨v, w1, w2⟩ := valV_lookD (H := Hs2) a h5
    refine ⟨_, v, rfl, ?_, q Hs2 A2 v H2 (s1.trans s2) (p1.trans p2) ok2 w2⟩
    rw [← w1]
    exact DGet.k (k := kS s) (ok2.same _ _ h)
theorem er_dgt {md mk : ZM} {ks : List (List Nat)} {ds : List D} {g g1 g2 : G} {s : List Nat} {d : D} (h1 : md g = some (.dat (.dic ks ds), g1)) (h2 : mk g1 = some (.dat (.str s), g2)) (h3 : lookD ks ds s = some d) : zDgt md mk g = some (.dat d, g2) := by
  simp only [zDgt, h1, h2, isDic, isS, h3, Option.bind_eq_bind, Option.bind_some]
end Z
namespace Z
open PySem PySem.Spec PyProof.Rows L2
theorem pcs_ss {X : Cx} {x y : Str} {j1 j2 : Nat} {p1 p2 : Pos} {k v : List Nat} {ks : List (Option Expr)} {vs : List Expr} {kvs : List (Key × V)} (hr : PCs X ks vs kvs) (hx : x = (⟨k.toArray⟩ : Str) := by decide +kernel) (hy : y = (⟨v.toArray⟩ : Str) := by decide +kernel) :
    PCs X (some (.Constant (.str x) j1 p1) :: ks) (.Constant (.str y) j2 p2 :: vs) ((kS k, .str ⟨v.toArray⟩) :: kvs) := by
  subst hx hy
  exact .cons (q := kS k) pe_str pe_str hr
end Z
set_option Elab.async false
set_option linter.all false
set_option maxRecDepth 100000
set_option maxHeartbeats 4000000
namespace Z
open PySem PySem.Spec PyProof.Rows L2
def absL (f : Value → Option D) : List Value → Option (List D)
  | [] => some []
  | u :: us => match f u with
    | some d => (match absL f us with
      | some ds => some (d :: ds)
      | none => none)
    | none => none
/-- a value that the module has made, as data: plain things and tuples of such, n deep -/
def absK (K : PySem.W.Frag) : Nat → Value → Option D
  | 0, u => absP u
  | n + 1, u => match u with
    | .ref a => (match K.lookup a with
      | some ⟨.type t, _, .seq its _, _⟩ => if (t == "tuple" && Nat.ble its.size 1000) = true then (absL (absK K n) its.toList).map D.tup else none
      | _ => none)
    | u => absP u
theorem absL_ok {K : PySem.W.Frag} {f : Value → Option D} (hf : ∀ u d, f u = some d → ∃ v, RelV v u ∧ ∀ H : Hp, Dz K H v d) : ∀ {us : List Value} {ds : List D}, absL f us = some ds → ∃ vs, Vals vs us ∧ ∀ H : Hp, DzA K H vs ds
  | [], ds, h => by cases h; exact ⟨[], .nil, fun _ => .nil⟩
  | u :: us, ds, h => by
    unfold absL at h
    split at h
    · rename_i d e1
      split at h
      · rename_i ds' e2
        cases h
        obtain ⟨v, r, z⟩ := hf u d e1
        obtain ⟨vs, rs, zs⟩ := absL_ok hf e2
        exact ⟨v :: vs, .cons r rs, fun H => .cons (z H) (zs H)⟩
      · cases h
    · cases h
theorem absK_ok {K : PySem.W.Frag} : ∀ (n : Nat) (u : Value) (d : D), absK K n u = some d → ∃ v, RelV v u ∧ ∀ H : Hp, Dz K H v d
  | 0, u, d, h => by
    obtain ⟨v, r, z⟩ := absP_ok (show absP u = some d from h)
    exact ⟨v, r, z K⟩
  | n + 1, u, d, h => by
    unfold absK at h
    split at h
    · rename_i a
      split at h
      · rename_i t dd its c sl l
        split at h
        · rename_i ht
          rw [Bool.and_eq_true] at ht
          obtain ⟨ht, hz⟩ := ht
          have et : t = "tuple" := eq_of_beq ht
          subst et
          rw [Option.map_eq_some_iff] at h
          obtain ⟨ds, h1, rfl⟩ := h
          obtain ⟨vs, r, z⟩ := absL_ok (absK_ok n) h1
          exact ⟨.ref a, rfl, fun H => .tup (.inr ⟨_, its, c, l, rfl, rfl, Nat.le_trans (Nat.le_of_ble_eq_true hz) (by decide), r⟩) (z H)⟩
        · cases h
      · cases h
    · obtain ⟨v, r, z⟩ := absP_ok h
      exact ⟨v, r, z K⟩
section
variable {K : PySem.W.Frag} {h : Heap} {mg : Str → Option Value} {x : Str}
/-- the values of a dict of the module behind some of its keys -/
def tabOf (K : PySem.W.Frag) (n : Nat) (es : Array DictEntry) : List (List Nat) → Option (List D)
  | [] => some []
  | k :: ks => match inE es ⟨k.toArray⟩ with
    | some (.ref f) => (match absK K n (.ref f) with
      | some d => (match tabOf K n es ks with
        | some ds => some (d :: ds)
        | none => none)
      | none => none)
    | _ => none
def TabK (K : PySem.W.Frag) (mg : Str → Option Value) (x : Str) (ks : List (List Nat)) (ds : List D) : Prop := ∃ (a : Addr) (es : Array DictEntry) (ep : Nat) (sl : Array (Option Value)),
  mg x = some (.ref a) ∧ K.lookup a = some ⟨.type "dict", none, .dict es ep, sl⟩ ∧ (es.all fun e => isExactStrKey e.key) = true ∧ ∀ s d, lookD ks ds s = some d → ∃ f, inE es ⟨s.toArray⟩ = some (.ref f) ∧ ∀ H : Hp, Dz K H (.ref f) d
theorem tabOf_ok {n : Nat} {es : Array DictEntry} : ∀ {ks : List (List Nat)} {ds : List D}, tabOf K n es ks = some ds → ∀ s d, lookD ks ds s = some d → ∃ f, inE es ⟨s.toArray⟩ = some (.ref f) ∧ ∀ H : Hp, Dz K H (.ref f) d
  | [], ds, h, s, d, e => by simp [lookD] at e
  | k :: ks, ds, h, s, d, e => by
    unfold tabOf at h
    split at h
    · rename_i f e1
      split at h
      · rename_i d1 e2
        split at h
        · rename_i ds1 e3
          cases h
          unfold lookD at e
          split at e
          · rename_i q
            cases e
            subst q
            obtain ⟨v, r, z⟩ := absK_ok n _ _ e2
            have : v = .ref f := by
              cases v with
              | ref b => cases (show Value.ref f = Value.ref b from r); rfl
              | _ => first | (cases r; done) | (obtain ⟨t, q⟩ := r; cases q)
            subst this
            exact ⟨f, e1, z⟩
          · exact tabOf_ok e3 s d e
        · cases h
      · cases h
    · cases h
theorem tabK_mk {n : Nat} {a : Addr} {es : Array DictEntry} {ep : Nat} {sl : Array (Option Value)} {ks : List (List Nat)} {ds : List D} (X : K.In h) (G : h.Ns mainGlobals mg) (e : PySem.W.nsIn K mainGlobals x = some (some (.ref a))) (l : K.lookup a = some ⟨.type "dict", none, .dict es ep, sl⟩)
    (hall : (es.toList.all fun e => isExactStrKey e.key) = true) (ht : tabOf K n es ks = some ds) : TabK K mg x ks ds := ⟨a, es, ep, sl, PySem.W.mg_of X G e, l, tab_all hall, tabOf_ok ht⟩
end
/-- DICT[k], a dict of the module -/
def zTab (ks : List (List Nat)) (ds : List D) (mk : ZM) : ZM := fun g => do
  let (rk, g1) ← mk g
  let s ← isS rk
  let d ← lookD ks ds s
  some (.dat d, g1)
theorem ze_tab {X : Cx} {x : Str} {i : Expr} {p pos : Pos} {ks : List (List Nat)} {ds : List D} {mk : ZM} (hT : TabK X.K X.mg x ks ds) (hi : ZE X i mk) (hg : Gl X x := by rfl) (hs : NoSl i := by intro _ _; rfl) (hdb : (x == ("__debug__" : Str)) = false := by decide) : ZE X (.Subscript (.Name x p) i pos) (zTab ks ds mk) := by
  obtain ⟨a, es, ep, sl, hm, hl, hall, ht⟩ := hT
  refine PE.of (pe_fn hm hl hall hi hg hs hdb) fun σ H Q ⟨C, Hs, A, g, r, g', hK, hn, ok, e, q⟩ => ?_
  unfold zTab at e
  simp only [Option.bind_eq_bind, Option.bind_eq_some_iff] at e
  obtain ⟨⟨rk, g1⟩, h3, s, h4, d, h5, e⟩ := e
  cases e
  have e1 := isS_some h4
  subst e1
  obtain ⟨f, f1, f2⟩ := ht s d h5
  refine ⟨C, Hs, A, g, _, g1, hK, hn, ok, h3, fun Hs1 A1 v1 H1 s1 p1 ok1 rel1 => ?_⟩
  have ev : v1 = .str ⟨s.toArray⟩ := (show Dz C.K Hs1 v1 (.str s) from rel1).v rfl
  subst ev
  exact ⟨_, f, rfl, f1, q Hs1 A1 (.ref f) H1 s1 p1 ok1 (show Dz C.K Hs1 (.ref f) d by rw [hK]; exact f2 Hs1)⟩
theorem er_tab {mk : ZM} {ks : List (List Nat)} {ds : List D} {g g1 : G} {s : List Nat} {d : D} (h2 : mk g = some (.dat (.str s), g1)) (h3 : lookD ks ds s = some d) : zTab ks ds mk g = some (.dat d, g1) := by
  simp only [zTab, h2, isS, h3, Option.bind_eq_bind, Option.bind_some]
end Z
set_option Elab.async false
set_option linter.all false
set_option maxRecDepth 100000
set_option maxHeartbeats 4000000
namespace Qk14
open PySem PySem.Spec PyProof.Rows L2 Z
def topS (i : Nat) : Stmt := PySem.Challenge.pw_stylobate_k14_kinds_of_expressions.main.body.getD i (.Pass ⟨0, 0, 0, 0⟩)
noncomputable section
variable {P : Program} {w : World} {K : PySem.W.Frag} {mg : Str → Option Value} {base : Heap}
abbrev c_KINDS : D := .tup [.str [98, 111, 111, 108], .str [105, 110, 116], .str [116, 101, 120, 116], .str [100, 97, 116, 101], .str [100, 101, 99, 105, 109, 97, 108]]
abbrev c_OPEN : D := .tup [.str [97, 115, 32, 100, 97, 116, 101], .str [116, 111, 32, 100, 101, 99, 105, 109, 97, 108], .str [116, 101, 120, 116, 32, 116, 111, 32, 105, 110, 116], .str [116, 101, 120, 116, 32, 116, 111, 32, 100, 97, 116, 101], .str [116, 101, 120, 116, 32, 116, 111, 32, 100, 101, 99, 105, 109, 97, 108], .str [97, 100, 100], .str [115, 117, 98, 116, 114, 97, 99, 116], .str [114, 101, 115, 116], .str [109, 117, 108, 116, 105, 112, 108, 121], .str [100, 105, 118, 105, 100, 101], .str [109, 117, 108, 116, 105, 112, 108, 121, 32, 100, 101, 99, 105, 109, 97, 108, 115], .str [100, 105, 118, 105, 100, 101, 32, 100, 101, 99, 105, 109, 97, 108, 115], .str [106, 111, 105, 110], .str [97, 100, 100, 32, 100, 97, 121, 115], .str [97, 100, 100, 32, 109, 111, 110, 116, 104, 115]]
abbrev c_UNARY : D := .tup [.str [110, 111, 116], .str [110, 101, 103, 97, 116, 101], .str [97, 98, 115], .str [115, 105, 103, 110], .str [105, 115, 32, 110, 117, 108, 108], .str [108, 111, 119, 101, 114], .str [117, 112, 112, 101, 114], .str [108, 101, 110, 103, 116, 104], .str [116, 114, 105, 109], .str [121, 101, 97, 114], .str [109, 111, 110, 116, 104], .str [100, 97, 121], .str [119, 101, 101, 107, 100, 97, 121], .str [109, 111, 110, 116, 104, 32, 115, 116, 97, 114, 116], .str [121, 101, 97, 114, 32, 115, 116, 97, 114, 116], .str [119, 101, 101, 107, 32, 115, 116, 97, 114, 116], .str [97, 115, 32, 100, 97, 116, 101], .str [97, 115, 32, 100, 101, 99, 105, 109, 97, 108], .str [116, 111, 32, 100, 101, 99, 105, 109, 97, 108], .str [116, 111, 32, 105, 110, 116], .str [105, 110, 116, 32, 116, 111, 32, 116, 101, 120, 116], .str [100, 101, 99, 105, 109, 97, 108, 32, 116, 111, 32, 116, 101, 120, 116], .str [100, 97, 116, 101, 32, 116, 111, 32, 116, 101, 120, 116], .str [116, 101, 120, 116, 32, 116, 111, 32, 105, 110, 116], .str [116, 101, 120, 116, 32, 116, 111, 32, 100, 101, 99, 105, 109, 97, 108], .str [116, 101, 120, 116, 32, 116, 111, 32, 100, 97, 116, 101]]
abbrev c_BINARY : D := .tup [.str [97, 110, 100], .str [111, 114], .str [101, 113, 117, 97, 108], .str [108, 101, 115, 115], .str [97, 116, 32, 109, 111, 115, 116], .str [115, 97, 109, 101], .str [108, 101, 97, 115, 116], .str [103, 114, 101, 97, 116, 101, 115, 116], .str [97, 100, 100], .str [115, 117, 98, 116, 114, 97, 99, 116], .str [109, 117, 108, 116, 105, 112, 108, 121], .str [100, 105, 118, 105, 100, 101], .str [114, 101, 115, 116], .str [109, 117, 108, 116, 105, 112, 108, 121, 32, 100, 101, 99, 105, 109, 97, 108, 115], .str [100, 105, 118, 105, 100, 101, 32, 100, 101, 99, 105, 109, 97, 108, 115], .str [106, 111, 105, 110], .str [108, 105, 107, 101], .str [112, 111, 115, 105, 116, 105, 111, 110], .str [99, 111, 97, 108, 101, 115, 99, 101], .str [97, 100, 100, 32, 100, 97, 121, 115], .str [97, 100, 100, 32, 109, 111, 110, 116, 104, 115]]
abbrev c_TERNARY : D := .tup [.str [112, 97, 114, 116], .str [115, 112, 108, 105, 116], .str [114, 101, 112, 108, 97, 99, 101], .str [112, 97, 100]]
abbrev st__law_numbers : Stmt := topS 17
theorem sc__law_numbers : FnScope ["_law_script", "_law_count", "_law_numbers_here", "_law_k", "_law_cell_here"] ["_law_script", "_law_count"] (defScope st__law_numbers) := ⟨rfl, rfl, rfl, by decide +kernel, rfl, by decide +kernel, by decide +kernel⟩
def lb__law_numbers_1 : SM := zFg [3, 4] (zSeq (zSet 5 4 (zC (.int 0))) (zSeq (zIfS 5 (zTst (zOp gtD (zCallS lenD (zCons (zVar 0) (zNil))) (zC (.int 0)))) (zSet 5 4 (zCallS intU (zCons (zIx (zVar 0) (zOp subD (zVar 3) (zOp mulD (zOp divD (zVar 3) (zCallS lenD (zCons (zVar 0) (zNil)))) (zCallS lenD (zCons (zVar 0) (zNil)))))) (zNil)))) (zNx)) (zSeq (zIfS 5 (zTst (zOp ltX (zVar 4) (zC (.int 0)))) (zSet 5 4 (zOp subD (zC (.int 1)) (zOp mulD (zC (.int 2)) (zVar 4)))) (zNx)) (zSeq (zIfS 5 (zOrT (zTst (zOp geD (zVar 3) (zCallS lenD (zCons (zVar 0) (zNil))))) (zTst (zOp ltX (zVar 4) (zC (.int 1000000000))))) (zSeq (zSet 5 4 (zOp modD (zCallS intU (zCons (zOp addS (zOp mulD (zOp addS (zOp addS (zVar 4) (zOp mulD (zC (.int 101)) (zVar 3))) (zC (.int 13))) (zC (.int 40692))) (zOp mulD (zOp mulD (zVar 3) (zVar 3)) (zC (.int 6271)))) (zNil))) (zC (.int 2147483399)))) (zSet 5 4 (zOp modD (zCallS intU (zCons (zOp mulD (zOp addS (zOp addS (zVar 4) (zOp mulD (zC (.int 29)) (zVar 3))) (zC (.int 5))) (zC (.int 3935559000370003845))) (zNil))) (zC (.int 18446744073709551533))))) (zNx)) (zApp 5 (zVar 2) (zVar 4))))))
def b__law_numbers : SM := zSeq (zSet 5 2 (zLst (zNil))) (zSeq (zFor 5 (ziR1 (zCons (zVar 1) (zNil))) (gN 3) (lb__law_numbers_1)) (zRet (zVar 2)))
def d__law_numbers : List D → Option FR := runP 5 2 b__law_numbers
set_option maxHeartbeats 4000000 in
theorem ok__law_numbers (h : DefAt K mg "_law_numbers" st__law_numbers) (m_int : mg "int" = none) (m_len : mg "len" = none) (m_range : mg "range" = none) : Cal P w K mg base 1 "_law_numbers" (spP K d__law_numbers) := by
  obtain ⟨a, fd, h1, F⟩ := h
  exact ⟨a, fd, _, h1, F.kp, F.binds (ps := ["_law_script", "_law_count"]) fun _ _ _ _ _ _ us hl => match us, hl with | [_, _], _ => rfl, okP F sc__law_numbers fun cdv A outer s0 H E hr =>
    zss_cons (zs_set (i := 2) sc__law_numbers.nd rfl (Or.inl rfl) (ze_lst (za_nil))) (zss_cons (zs_for PassesOwn.never rfl (zi_range1 (by rfl) m_range (za_cons (ze_var rfl (pv 1)) (za_nil))) (zg_name (i := 3) sc__law_numbers.nd rfl (Or.inl rfl)) (zss_fg (vs := [3, 4]) (zss_cons (zs_set (i := 4) sc__law_numbers.nd rfl (Or.inl rfl) (ze_int)) (zss_cons (zs_if (zt_cmp o_gt s_gt (ze_callB call_len s_len (by rfl) m_len PySem.boot_len (za_cons (ze_var rfl (pv 0)) (za_nil))) (ze_int) (nomark _)) (zss_one (zs_set (i := 4) sc__law_numbers.nd rfl (Or.inl rfl) (ze_callTy call_intU s_intU (by rfl) m_int (by decide +kernel) (za_cons (ze_ix (ze_var rfl (pv 0)) (ze_op op_sub s_sub (ze_var rfl (pv 3)) (ze_op o_mul s_mul (ze_op o_div s_div (ze_var rfl (pv 3)) (ze_callB call_len s_len (by rfl) m_len PySem.boot_len (za_cons (ze_var rfl (pv 0)) (za_nil)))) (ze_callB call_len s_len (by rfl) m_len PySem.boot_len (za_cons (ze_var rfl (pv 0)) (za_nil)))))) (za_nil))))) (zss_nil)) (zss_cons (zs_if (zt_cmp (o_ltX hr) s_ltX (ze_var rfl (pv 4)) (ze_int) (nomark _)) (zss_one (zs_set (i := 4) sc__law_numbers.nd rfl (Or.inl rfl) (ze_op op_sub s_sub (ze_int) (ze_op o_mul s_mul (ze_int) (ze_var rfl (pv 4)))))) (zss_nil)) (zss_cons (zs_if (zt_w (zw_or (zt_cmp o_ge s_ge (ze_var rfl (pv 3)) (ze_callB call_len s_len (by rfl) m_len PySem.boot_len (za_cons (ze_var rfl (pv 0)) (za_nil))) (nomark _)) (zw_or1 (zt_cmp (o_ltX hr) s_ltX (ze_var rfl (pv 4)) (ze_int) (nomark _))))) (zss_cons (zs_set (i := 4) sc__law_numbers.nd rfl (Or.inl rfl) (ze_op o_mod s_mod (ze_callTy call_intU s_intU (by rfl) m_int (by decide +kernel) (za_cons (ze_op o_add s_add (ze_op o_mul s_mul (ze_op o_add s_add (ze_op o_add s_add (ze_var rfl (pv 4)) (ze_op o_mul s_mul (ze_int) (ze_var rfl (pv 3)))) (ze_int)) (ze_int)) (ze_op o_mul s_mul (ze_op o_mul s_mul (ze_var rfl (pv 3)) (ze_var rfl (pv 3))) (ze_int))) (za_nil))) (ze_int))) (zss_one (zs_set (i := 4) sc__law_numbers.nd rfl (Or.inl rfl) (ze_op o_mod s_mod (ze_callTy call_intU s_intU (by rfl) m_int (by decide +kernel) (za_cons (ze_op o_mul s_mul (ze_op o_add s_add (ze_op o_add s_add (ze_var rfl (pv 4)) (ze_op o_mul s_mul (ze_int) (ze_var rfl (pv 3)))) (ze_int)) (ze_int)) (za_nil))) (ze_int))))) (zss_nil)) (zss_one (zs_app (ze_var rfl (pv 2)) (ze_var rfl (pv 4)))))))))) (zss_one (zs_ret (ze_var rfl (pv 2)))))⟩
abbrev st__law_columns_of : Stmt := topS 26
theorem sc__law_columns_of : FnScope ["_law_numbers_here", "_law_at", "_law_count", "_law_kinds", "_law_k"] ["_law_numbers_here", "_law_at", "_law_count"] (defScope st__law_columns_of) := ⟨rfl, rfl, rfl, by decide +kernel, rfl, by decide +kernel, by decide +kernel⟩
def b__law_columns_of : SM := zSeq (zSet 5 3 (zLst (zCons (zC (.str [98, 111, 111, 108])) (zCons (zC (.str [105, 110, 116])) (zCons (zC (.str [116, 101, 120, 116])) (zCons (zC (.str [100, 97, 116, 101])) (zCons (zC (.str [100, 101, 99, 105, 109, 97, 108])) (zNil)))))))) (zRet (zLc (ziR1 (zCons (zVar 2) (zNil))) (gN 4) (zYes) (zTup (zCons (zIx (zVar 3) (zOp modD (zCallS intU (zCons (zIx (zVar 0) (zOp addS (zVar 1) (zVar 4))) (zNil))) (zC (.int 5)))) (zCons (zOp eqD (zOp modD (zOp divD (zCallS intU (zCons (zIx (zVar 0) (zOp addS (zVar 1) (zVar 4))) (zNil))) (zC (.int 5))) (zC (.int 2))) (zC (.int 0))) (zNil)))) [4]))
def d__law_columns_of : List D → Option FR := runP 5 3 b__law_columns_of
set_option maxHeartbeats 4000000 in
theorem ok__law_columns_of (h : DefAt K mg "_law_columns_of" st__law_columns_of) (m_int : mg "int" = none) (m_range : mg "range" = none) : Cal P w K mg base 1 "_law_columns_of" (spP K d__law_columns_of) := by
  obtain ⟨a, fd, h1, F⟩ := h
  exact ⟨a, fd, _, h1, F.kp, F.binds (ps := ["_law_numbers_here", "_law_at", "_law_count"]) fun _ _ _ _ _ _ us hl => match us, hl with | [_, _, _], _ => rfl, okP F sc__law_columns_of fun cdv A outer s0 H E hr =>
    zss_cons (zs_set (i := 3) sc__law_columns_of.nd rfl (Or.inr rfl) (ze_lst (za_cons (ze_str) (za_cons (ze_str) (za_cons (ze_str) (za_cons (ze_str) (za_cons (ze_str) (za_nil)))))))) (zss_one (zs_ret (ze_lc (own := [("_law_k", 4)]) rfl sc__law_columns_of.nd (zi_range1 (by rfl) m_range (za_cons (ze_var rfl (pv 2)) (za_nil))) (blkOk_by (N := ["_law_numbers_here", "_law_at", "_law_count", "_law_kinds", "_law_k"]) (own := [("_law_k", 4)]) (sc := defScope st__law_columns_of) (by decide +kernel)) (fun _ _ _ _ _ => zgw_name (i := 4) sc__law_columns_of.nd rfl (Or.inl rfl) (by decide)) (fun _ _ _ _ _ => zts_nil) (fun _ _ _ _ _ => ze_tup (za_cons (ze_ix (ze_var rfl (pv 3)) (ze_op o_mod s_mod (ze_callTy call_intU s_intU (by rfl) m_int (by decide +kernel) (za_cons (ze_ix (ze_var rfl (pv 0)) (ze_op o_add s_add (ze_var rfl (pv 1)) (ze_var rfl (pv 4)))) (za_nil))) (ze_int))) (za_cons (ze_cmp (o_eq hr) s_eq (ze_op o_mod s_mod (ze_op o_div s_div (ze_callTy call_intU s_intU (by rfl) m_int (by decide +kernel) (za_cons (ze_ix (ze_var rfl (pv 0)) (ze_op o_add s_add (ze_var rfl (pv 1)) (ze_var rfl (pv 4)))) (za_nil))) (ze_int)) (ze_int)) (ze_int) (nomark _)) (za_nil)))))))⟩
abbrev st__law_choice_kind : Stmt := topS 30
theorem sc__law_choice_kind : FnScope ["_law_condition", "_law_one", "_law_other", "_law_nulls"] ["_law_condition", "_law_one", "_law_other", "_law_nulls"] (defScope st__law_choice_kind) := ⟨rfl, rfl, rfl, by decide +kernel, rfl, by decide +kernel, by decide +kernel⟩
def b__law_choice_kind : SM := zSeq (zIfS 4 (zOrT (zTst (zOp isD (zVar 0) (zC .non))) (zTst (zOp neqD (zIx (zVar 0) (zC (.int 0))) (zC (.str [98, 111, 111, 108]))))) (zRet (zC .non)) (zNx)) (zSeq (zIfS 4 (zAndT (zTst (zOp isntD (zVar 1) (zC .non))) (zTst (zOp isntD (zVar 2) (zC .non)))) (zSeq (zIfS 4 (zTst (zOp eqD (zIx (zVar 1) (zC (.int 0))) (zIx (zVar 2) (zC (.int 0))))) (zRet (zTup (zCons (zIx (zVar 1) (zC (.int 0))) (zCons (zOrV (zIx (zVar 1) (zC (.int 1))) (zIx (zVar 2) (zC (.int 1)))) (zNil))))) (zNx)) (zRet (zC .non))) (zNx)) (zSeq (zIfS 4 (zAndT (zTst (zOp isntD (zVar 1) (zC .non))) (zTru (zIx (zVar 3) (zC (.int 1))))) (zRet (zTup (zCons (zIx (zVar 1) (zC (.int 0))) (zCons (zC (.bl true)) (zNil))))) (zNx)) (zSeq (zIfS 4 (zAndT (zTst (zOp isntD (zVar 2) (zC .non))) (zTru (zIx (zVar 3) (zC (.int 0))))) (zRet (zTup (zCons (zIx (zVar 2) (zC (.int 0))) (zCons (zC (.bl true)) (zNil))))) (zNx)) (zRet (zC .non)))))
def d__law_choice_kind : List D → Option FR := runP 4 4 b__law_choice_kind
set_option maxHeartbeats 4000000 in
theorem ok__law_choice_kind (h : DefAt K mg "_law_choice_kind" st__law_choice_kind) : Cal P w K mg base 1 "_law_choice_kind" (spP K d__law_choice_kind) := by
  obtain ⟨a, fd, h1, F⟩ := h
  exact ⟨a, fd, _, h1, F.kp, F.binds (ps := ["_law_condition", "_law_one", "_law_other", "_law_nulls"]) fun _ _ _ _ _ _ us hl => match us, hl with | [_, _, _, _], _ => rfl, okP F sc__law_choice_kind fun cdv A outer s0 H E hr =>
    zss_cons (zs_if (zt_w (zw_or (zt_cmp o_is s_is (ze_var rfl (pv 0)) (ze_non) (nomark _)) (zw_or1 (zt_cmp (o_ne hr) s_ne (ze_ix (ze_var rfl (pv 0)) (ze_int)) (ze_str) (nomark _))))) (zss_one (zs_ret (ze_non))) (zss_nil)) (zss_cons (zs_if (zt_w (zw_and (zt_cmp o_isnt s_isnt (ze_var rfl (pv 1)) (ze_non) (nomark _)) (zw_and1 (zt_cmp o_isnt s_isnt (ze_var rfl (pv 2)) (ze_non) (nomark _))))) (zss_cons (zs_if (zt_cmp (o_eq hr) s_eq (ze_ix (ze_var rfl (pv 1)) (ze_int)) (ze_ix (ze_var rfl (pv 2)) (ze_int)) (nomark _)) (zss_one (zs_ret (ze_tup (za_cons (ze_ix (ze_var rfl (pv 1)) (ze_int)) (za_cons (ze_or (ze_ix (ze_var rfl (pv 1)) (ze_int)) (ze_one (ze_ix (ze_var rfl (pv 2)) (ze_int)))) (za_nil)))))) (zss_nil)) (zss_one (zs_ret (ze_non)))) (zss_nil)) (zss_cons (zs_if (zt_w (zw_and (zt_cmp o_isnt s_isnt (ze_var rfl (pv 1)) (ze_non) (nomark _)) (zw_and1 (zt_truth (ze_ix (ze_var rfl (pv 3)) (ze_int)))))) (zss_one (zs_ret (ze_tup (za_cons (ze_ix (ze_var rfl (pv 1)) (ze_int)) (za_cons (ze_bl) (za_nil)))))) (zss_nil)) (zss_cons (zs_if (zt_w (zw_and (zt_cmp o_isnt s_isnt (ze_var rfl (pv 2)) (ze_non) (nomark _)) (zw_and1 (zt_truth (ze_ix (ze_var rfl (pv 3)) (ze_int)))))) (zss_one (zs_ret (ze_tup (za_cons (ze_ix (ze_var rfl (pv 2)) (ze_int)) (za_cons (ze_bl) (za_nil)))))) (zss_nil)) (zss_one (zs_ret (ze_non))))))⟩
abbrev st__law_unary_kind : Stmt := topS 28
theorem sc__law_unary_kind : FnScope ["_law_name", "_law_kind_here", "_law_same", "_law_needs", "_law_gives", "_law_open_now"] ["_law_name", "_law_kind_here"] (defScope st__law_unary_kind) := ⟨rfl, rfl, rfl, by decide +kernel, rfl, by decide +kernel, by decide +kernel⟩
def b__law_unary_kind : SM := zSeq (zSet 6 2 (zDic [[110, 101, 103, 97, 116, 101], [97, 98, 115]] [(zC (.int 1)), (zC (.int 1))])) (zSeq (zIfS 6 (zTst (zOp eqD (zVar 0) (zC (.str [105, 115, 32, 110, 117, 108, 108])))) (zRet (zTup (zCons (zC (.str [98, 111, 111, 108])) (zCons (zC (.bl false)) (zNil))))) (zNx)) (zSeq (zIfS 6 (zTst (zOp dinD (zVar 0) (zVar 2))) (zSeq (zIfS 6 (zTst (zOp inD (zIx (zVar 1) (zC (.int 0))) (zTup (zCons (zC (.str [105, 110, 116])) (zCons (zC (.str [100, 101, 99, 105, 109, 97, 108])) (zNil)))))) (zRet (zVar 1)) (zNx)) (zRet (zC .non))) (zNx)) (zSeq (zIfS 6 (zTst (zOp eqD (zVar 0) (zC (.str [115, 105, 103, 110])))) (zSeq (zIfS 6 (zTst (zOp inD (zIx (zVar 1) (zC (.int 0))) (zTup (zCons (zC (.str [105, 110, 116])) (zCons (zC (.str [100, 101, 99, 105, 109, 97, 108])) (zNil)))))) (zRet (zTup (zCons (zC (.str [105, 110, 116])) (zCons (zIx (zVar 1) (zC (.int 1))) (zNil))))) (zNx)) (zRet (zC .non))) (zNx)) (zSeq (zSet 6 3 (zC (.dic [[110, 111, 116], [108, 111, 119, 101, 114], [117, 112, 112, 101, 114], [116, 114, 105, 109], [108, 101, 110, 103, 116, 104], [121, 101, 97, 114], [109, 111, 110, 116, 104], [100, 97, 121], [119, 101, 101, 107, 100, 97, 121], [109, 111, 110, 116, 104, 32, 115, 116, 97, 114, 116], [121, 101, 97, 114, 32, 115, 116, 97, 114, 116], [119, 101, 101, 107, 32, 115, 116, 97, 114, 116], [97, 115, 32, 100, 97, 116, 101], [97, 115, 32, 100, 101, 99, 105, 109, 97, 108], [116, 111, 32, 100, 101, 99, 105, 109, 97, 108], [116, 111, 32, 105, 110, 116], [105, 110, 116, 32, 116, 111, 32, 116, 101, 120, 116], [100, 97, 116, 101, 32, 116, 111, 32, 116, 101, 120, 116], [100, 101, 99, 105, 109, 97, 108, 32, 116, 111, 32, 116, 101, 120, 116], [116, 101, 120, 116, 32, 116, 111, 32, 105, 110, 116], [116, 101, 120, 116, 32, 116, 111, 32, 100, 97, 116, 101], [116, 101, 120, 116, 32, 116, 111, 32, 100, 101, 99, 105, 109, 97, 108]] [.str [98, 111, 111, 108], .str [116, 101, 120, 116], .str [116, 101, 120, 116], .str [116, 101, 120, 116], .str [116, 101, 120, 116], .str [100, 97, 116, 101], .str [100, 97, 116, 101], .str [100, 97, 116, 101], .str [100, 97, 116, 101], .str [100, 97, 116, 101], .str [100, 97, 116, 101], .str [100, 97, 116, 101], .str [105, 110, 116], .str [105, 110, 116], .str [105, 110, 116], .str [100, 101, 99, 105, 109, 97, 108], .str [105, 110, 116], .str [100, 97, 116, 101], .str [100, 101, 99, 105, 109, 97, 108], .str [116, 101, 120, 116], .str [116, 101, 120, 116], .str [116, 101, 120, 116]]))) (zSeq (zSet 6 4 (zC (.dic [[110, 111, 116], [108, 111, 119, 101, 114], [117, 112, 112, 101, 114], [116, 114, 105, 109], [108, 101, 110, 103, 116, 104], [121, 101, 97, 114], [109, 111, 110, 116, 104], [100, 97, 121], [119, 101, 101, 107, 100, 97, 121], [109, 111, 110, 116, 104, 32, 115, 116, 97, 114, 116], [121, 101, 97, 114, 32, 115, 116, 97, 114, 116], [119, 101, 101, 107, 32, 115, 116, 97, 114, 116], [97, 115, 32, 100, 97, 116, 101], [97, 115, 32, 100, 101, 99, 105, 109, 97, 108], [116, 111, 32, 100, 101, 99, 105, 109, 97, 108], [116, 111, 32, 105, 110, 116], [105, 110, 116, 32, 116, 111, 32, 116, 101, 120, 116], [100, 97, 116, 101, 32, 116, 111, 32, 116, 101, 120, 116], [100, 101, 99, 105, 109, 97, 108, 32, 116, 111, 32, 116, 101, 120, 116], [116, 101, 120, 116, 32, 116, 111, 32, 105, 110, 116], [116, 101, 120, 116, 32, 116, 111, 32, 100, 97, 116, 101], [116, 101, 120, 116, 32, 116, 111, 32, 100, 101, 99, 105, 109, 97, 108]] [.str [98, 111, 111, 108], .str [116, 101, 120, 116], .str [116, 101, 120, 116], .str [116, 101, 120, 116], .str [105, 110, 116], .str [105, 110, 116], .str [105, 110, 116], .str [105, 110, 116], .str [105, 110, 116], .str [100, 97, 116, 101], .str [100, 97, 116, 101], .str [100, 97, 116, 101], .str [100, 97, 116, 101], .str [100, 101, 99, 105, 109, 97, 108], .str [100, 101, 99, 105, 109, 97, 108], .str [105, 110, 116], .str [116, 101, 120, 116], .str [116, 101, 120, 116], .str [116, 101, 120, 116], .str [105, 110, 116], .str [100, 97, 116, 101], .str [100, 101, 99, 105, 109, 97, 108]]))) (zSeq (zIfS 6 (zTst (zOp neqD (zIx (zVar 1) (zC (.int 0))) (zDgt (zVar 3) (zVar 0)))) (zRet (zC .non)) (zNx)) (zSeq (zSet 6 5 (zOp inD (zVar 0) (zTup (zCons (zC (.str [97, 115, 32, 100, 97, 116, 101])) (zCons (zC (.str [116, 111, 32, 100, 101, 99, 105, 109, 97, 108])) (zCons (zC (.str [116, 101, 120, 116, 32, 116, 111, 32, 105, 110, 116])) (zCons (zC (.str [116, 101, 120, 116, 32, 116, 111, 32, 100, 97, 116, 101])) (zCons (zC (.str [116, 101, 120, 116, 32, 116, 111, 32, 100, 101, 99, 105, 109, 97, 108])) (zNil))))))))) (zRet (zTup (zCons (zDgt (zVar 4) (zVar 0)) (zCons (zOrV (zIx (zVar 1) (zC (.int 1))) (zVar 5)) (zNil))))))))))))
def d__law_unary_kind : List D → Option FR := runP 6 2 b__law_unary_kind
set_option maxHeartbeats 4000000 in
theorem ok__law_unary_kind (h : DefAt K mg "_law_unary_kind" st__law_unary_kind) : Cal P w K mg base 1 "_law_unary_kind" (spP K d__law_unary_kind) := by
  obtain ⟨a, fd, h1, F⟩ := h
  exact ⟨a, fd, _, h1, F.kp, F.binds (ps := ["_law_name", "_law_kind_here"]) fun _ _ _ _ _ _ us hl => match us, hl with | [_, _], _ => rfl, okP F sc__law_unary_kind fun cdv A outer s0 H E hr =>
    zss_cons (zs_set (i := 2) sc__law_unary_kind.nd rfl (Or.inl rfl) (ze_dic (zz_pps_cons (ze_int) (zz_pps_cons (ze_int) (zz_pps_nil))))) (zss_cons (zs_if (zt_cmp (o_eq hr) s_eq (ze_var rfl (pv 0)) (ze_str) (nomark _)) (zss_one (zs_ret (ze_tup (za_cons (ze_str) (za_cons (ze_bl) (za_nil)))))) (zss_nil)) (zss_cons (zs_if (zt_cmp (o_din hr) s_din (ze_var rfl (pv 0)) (ze_var rfl (pv 2)) (by rfl)) (zss_cons (zs_if (zt_cmp (o_in hr) s_in (ze_ix (ze_var rfl (pv 1)) (ze_int)) (ze_tup (za_cons (ze_str) (za_cons (ze_str) (za_nil)))) (by rfl)) (zss_one (zs_ret (ze_var rfl (pv 1)))) (zss_nil)) (zss_one (zs_ret (ze_non)))) (zss_nil)) (zss_cons (zs_if (zt_cmp (o_eq hr) s_eq (ze_var rfl (pv 0)) (ze_str) (nomark _)) (zss_cons (zs_if (zt_cmp (o_in hr) s_in (ze_ix (ze_var rfl (pv 1)) (ze_int)) (ze_tup (za_cons (ze_str) (za_cons (ze_str) (za_nil)))) (by rfl)) (zss_one (zs_ret (ze_tup (za_cons (ze_str) (za_cons (ze_ix (ze_var rfl (pv 1)) (ze_int)) (za_nil)))))) (zss_nil)) (zss_one (zs_ret (ze_non)))) (zss_nil)) (zss_cons (zs_set (i := 3) sc__law_unary_kind.nd rfl (Or.inl rfl) (ze_dicL [[110, 111, 116], [108, 111, 119, 101, 114], [117, 112, 112, 101, 114], [116, 114, 105, 109], [108, 101, 110, 103, 116, 104], [121, 101, 97, 114], [109, 111, 110, 116, 104], [100, 97, 121], [119, 101, 101, 107, 100, 97, 121], [109, 111, 110, 116, 104, 32, 115, 116, 97, 114, 116], [121, 101, 97, 114, 32, 115, 116, 97, 114, 116], [119, 101, 101, 107, 32, 115, 116, 97, 114, 116], [97, 115, 32, 100, 97, 116, 101], [97, 115, 32, 100, 101, 99, 105, 109, 97, 108], [116, 111, 32, 100, 101, 99, 105, 109, 97, 108], [116, 111, 32, 105, 110, 116], [105, 110, 116, 32, 116, 111, 32, 116, 101, 120, 116], [100, 97, 116, 101, 32, 116, 111, 32, 116, 101, 120, 116], [100, 101, 99, 105, 109, 97, 108, 32, 116, 111, 32, 116, 101, 120, 116], [116, 101, 120, 116, 32, 116, 111, 32, 105, 110, 116], [116, 101, 120, 116, 32, 116, 111, 32, 100, 97, 116, 101], [116, 101, 120, 116, 32, 116, 111, 32, 100, 101, 99, 105, 109, 97, 108]] [.str [98, 111, 111, 108], .str [116, 101, 120, 116], .str [116, 101, 120, 116], .str [116, 101, 120, 116], .str [116, 101, 120, 116], .str [100, 97, 116, 101], .str [100, 97, 116, 101], .str [100, 97, 116, 101], .str [100, 97, 116, 101], .str [100, 97, 116, 101], .str [100, 97, 116, 101], .str [100, 97, 116, 101], .str [105, 110, 116], .str [105, 110, 116], .str [105, 110, 116], .str [100, 101, 99, 105, 109, 97, 108], .str [105, 110, 116], .str [100, 97, 116, 101], .str [100, 101, 99, 105, 109, 97, 108], .str [116, 101, 120, 116], .str [116, 101, 120, 116], .str [116, 101, 120, 116]] (pcs_ss (k := [110, 111, 116]) (v := [98, 111, 111, 108]) (pcs_ss (k := [108, 111, 119, 101, 114]) (v := [116, 101, 120, 116]) (pcs_ss (k := [117, 112, 112, 101, 114]) (v := [116, 101, 120, 116]) (pcs_ss (k := [116, 114, 105, 109]) (v := [116, 101, 120, 116]) (pcs_ss (k := [108, 101, 110, 103, 116, 104]) (v := [116, 101, 120, 116]) (pcs_ss (k := [121, 101, 97, 114]) (v := [100, 97, 116, 101]) (pcs_ss (k := [109, 111, 110, 116, 104]) (v := [100, 97, 116, 101]) (pcs_ss (k := [100, 97, 121]) (v := [100, 97, 116, 101]) (pcs_ss (k := [119, 101, 101, 107, 100, 97, 121]) (v := [100, 97, 116, 101]) (pcs_ss (k := [109, 111, 110, 116, 104, 32, 115, 116, 97, 114, 116]) (v := [100, 97, 116, 101]) (pcs_ss (k := [121, 101, 97, 114, 32, 115, 116, 97, 114, 116]) (v := [100, 97, 116, 101]) (pcs_ss (k := [119, 101, 101, 107, 32, 115, 116, 97, 114, 116]) (v := [100, 97, 116, 101]) (pcs_ss (k := [97, 115, 32, 100, 97, 116, 101]) (v := [105, 110, 116]) (pcs_ss (k := [97, 115, 32, 100, 101, 99, 105, 109, 97, 108]) (v := [105, 110, 116]) (pcs_ss (k := [116, 111, 32, 100, 101, 99, 105, 109, 97, 108]) (v := [105, 110, 116]) (pcs_ss (k := [116, 111, 32, 105, 110, 116]) (v := [100, 101, 99, 105, 109, 97, 108]) (pcs_ss (k := [105, 110, 116, 32, 116, 111, 32, 116, 101, 120, 116]) (v := [105, 110, 116]) (.nil)))))))))))))))))) (pcs_ss (k := [100, 97, 116, 101, 32, 116, 111, 32, 116, 101, 120, 116]) (v := [100, 97, 116, 101]) (pcs_ss (k := [100, 101, 99, 105, 109, 97, 108, 32, 116, 111, 32, 116, 101, 120, 116]) (v := [100, 101, 99, 105, 109, 97, 108]) (pcs_ss (k := [116, 101, 120, 116, 32, 116, 111, 32, 105, 110, 116]) (v := [116, 101, 120, 116]) (pcs_ss (k := [116, 101, 120, 116, 32, 116, 111, 32, 100, 97, 116, 101]) (v := [116, 101, 120, 116]) (pcs_ss (k := [116, 101, 120, 116, 32, 116, 111, 32, 100, 101, 99, 105, 109, 97, 108]) (v := [116, 101, 120, 116]) (.nil)))))) rfl rfl (by decide +kernel) rfl rfl (by decide) (by decide))) (zss_cons (zs_set (i := 4) sc__law_unary_kind.nd rfl (Or.inl rfl) (ze_dicL [[110, 111, 116], [108, 111, 119, 101, 114], [117, 112, 112, 101, 114], [116, 114, 105, 109], [108, 101, 110, 103, 116, 104], [121, 101, 97, 114], [109, 111, 110, 116, 104], [100, 97, 121], [119, 101, 101, 107, 100, 97, 121], [109, 111, 110, 116, 104, 32, 115, 116, 97, 114, 116], [121, 101, 97, 114, 32, 115, 116, 97, 114, 116], [119, 101, 101, 107, 32, 115, 116, 97, 114, 116], [97, 115, 32, 100, 97, 116, 101], [97, 115, 32, 100, 101, 99, 105, 109, 97, 108], [116, 111, 32, 100, 101, 99, 105, 109, 97, 108], [116, 111, 32, 105, 110, 116], [105, 110, 116, 32, 116, 111, 32, 116, 101, 120, 116], [100, 97, 116, 101, 32, 116, 111, 32, 116, 101, 120, 116], [100, 101, 99, 105, 109, 97, 108, 32, 116, 111, 32, 116, 101, 120, 116], [116, 101, 120, 116, 32, 116, 111, 32, 105, 110, 116], [116, 101, 120, 116, 32, 116, 111, 32, 100, 97, 116, 101], [116, 101, 120, 116, 32, 116, 111, 32, 100, 101, 99, 105, 109, 97, 108]] [.str [98, 111, 111, 108], .str [116, 101, 120, 116], .str [116, 101, 120, 116], .str [116, 101, 120, 116], .str [105, 110, 116], .str [105, 110, 116], .str [105, 110, 116], .str [105, 110, 116], .str [105, 110, 116], .str [100, 97, 116, 101], .str [100, 97, 116, 101], .str [100, 97, 116, 101], .str [100, 97, 116, 101], .str [100, 101, 99, 105, 109, 97, 108], .str [100, 101, 99, 105, 109, 97, 108], .str [105, 110, 116], .str [116, 101, 120, 116], .str [116, 101, 120, 116], .str [116, 101, 120, 116], .str [105, 110, 116], .str [100, 97, 116, 101], .str [100, 101, 99, 105, 109, 97, 108]] (pcs_ss (k := [110, 111, 116]) (v := [98, 111, 111, 108]) (pcs_ss (k := [108, 111, 119, 101, 114]) (v := [116, 101, 120, 116]) (pcs_ss (k := [117, 112, 112, 101, 114]) (v := [116, 101, 120, 116]) (pcs_ss (k := [116, 114, 105, 109]) (v := [116, 101, 120, 116]) (pcs_ss (k := [108, 101, 110, 103, 116, 104]) (v := [105, 110, 116]) (pcs_ss (k := [121, 101, 97, 114]) (v := [105, 110, 116]) (pcs_ss (k := [109, 111, 110, 116, 104]) (v := [105, 110, 116]) (pcs_ss (k := [100, 97, 121]) (v := [105, 110, 116]) (pcs_ss (k := [119, 101, 101, 107, 100, 97, 121]) (v := [105, 110, 116]) (pcs_ss (k := [109, 111, 110, 116, 104, 32, 115, 116, 97, 114, 116]) (v := [100, 97, 116, 101]) (pcs_ss (k := [121, 101, 97, 114, 32, 115, 116, 97, 114, 116]) (v := [100, 97, 116, 101]) (pcs_ss (k := [119, 101, 101, 107, 32, 115, 116, 97, 114, 116]) (v := [100, 97, 116, 101]) (pcs_ss (k := [97, 115, 32, 100, 97, 116, 101]) (v := [100, 97, 116, 101]) (pcs_ss (k := [97, 115, 32, 100, 101, 99, 105, 109, 97, 108]) (v := [100, 101, 99, 105, 109, 97, 108]) (pcs_ss (k := [116, 111, 32, 100, 101, 99, 105, 109, 97, 108]) (v := [100, 101, 99, 105, 109, 97, 108]) (pcs_ss (k := [116, 111, 32, 105, 110, 116]) (v := [105, 110, 116]) (pcs_ss (k := [105, 110, 116, 32, 116, 111, 32, 116, 101, 120, 116]) (v := [116, 101, 120, 116]) (.nil)))))))))))))))))) (pcs_ss (k := [100, 97, 116, 101, 32, 116, 111, 32, 116, 101, 120, 116]) (v := [116, 101, 120, 116]) (pcs_ss (k := [100, 101, 99, 105, 109, 97, 108, 32, 116, 111, 32, 116, 101, 120, 116]) (v := [116, 101, 120, 116]) (pcs_ss (k := [116, 101, 120, 116, 32, 116, 111, 32, 105, 110, 116]) (v := [105, 110, 116]) (pcs_ss (k := [116, 101, 120, 116, 32, 116, 111, 32, 100, 97, 116, 101]) (v := [100, 97, 116, 101]) (pcs_ss (k := [116, 101, 120, 116, 32, 116, 111, 32, 100, 101, 99, 105, 109, 97, 108]) (v := [100, 101, 99, 105, 109, 97, 108]) (.nil)))))) rfl rfl (by decide +kernel) rfl rfl (by decide) (by decide))) (zss_cons (zs_if (zt_cmp (o_ne hr) s_ne (ze_ix (ze_var rfl (pv 1)) (ze_int)) (ze_dgt hr (ze_var rfl (pv 3)) (ze_var rfl (pv 0))) (nomark _)) (zss_one (zs_ret (ze_non))) (zss_nil)) (zss_cons (zs_set (i := 5) sc__law_unary_kind.nd rfl (Or.inl rfl) (ze_cmp (o_in hr) s_in (ze_var rfl (pv 0)) (ze_tup (za_cons (ze_str) (za_cons (ze_str) (za_cons (ze_str) (za_cons (ze_str) (za_cons (ze_str) (za_nil))))))) (by rfl))) (zss_one (zs_ret (ze_tup (za_cons (ze_dgt hr (ze_var rfl (pv 4)) (ze_var rfl (pv 0))) (za_cons (ze_or (ze_ix (ze_var rfl (pv 1)) (ze_int)) (ze_one (ze_var rfl (pv 5)))) (za_nil)))))))))))))⟩
abbrev st__law_binary_kind : Stmt := topS 29
theorem sc__law_binary_kind : FnScope ["_law_name", "_law_one", "_law_other", "_law_either", "_law_pair"] ["_law_name", "_law_one", "_law_other"] (defScope st__law_binary_kind) := ⟨rfl, rfl, rfl, by decide +kernel, rfl, by decide +kernel, by decide +kernel⟩
def b__law_binary_kind : SM := zSeq (zSet 5 3 (zOrV (zIx (zVar 1) (zC (.int 1))) (zIx (zVar 2) (zC (.int 1))))) (zSeq (zSet 5 4 (zTup (zCons (zIx (zVar 1) (zC (.int 0))) (zCons (zIx (zVar 2) (zC (.int 0))) (zNil))))) (zSeq (zIfS 5 (zTst (zOp inD (zVar 0) (zTup (zCons (zC (.str [101, 113, 117, 97, 108])) (zCons (zC (.str [108, 101, 115, 115])) (zCons (zC (.str [97, 116, 32, 109, 111, 115, 116])) (zCons (zC (.str [115, 97, 109, 101])) (zCons (zC (.str [108, 101, 97, 115, 116])) (zCons (zC (.str [103, 114, 101, 97, 116, 101, 115, 116])) (zCons (zC (.str [99, 111, 97, 108, 101, 115, 99, 101])) (zNil))))))))))) (zSeq (zIfS 5 (zTst (zOp neqD (zIx (zVar 1) (zC (.int 0))) (zIx (zVar 2) (zC (.int 0))))) (zRet (zC .non)) (zNx)) (zSeq (zIfS 5 (zTst (zOp eqD (zVar 0) (zC (.str [115, 97, 109, 101])))) (zRet (zTup (zCons (zC (.str [98, 111, 111, 108])) (zCons (zC (.bl false)) (zNil))))) (zNx)) (zSeq (zIfS 5 (zTst (zOp eqD (zVar 0) (zC (.str [99, 111, 97, 108, 101, 115, 99, 101])))) (zRet (zTup (zCons (zIx (zVar 1) (zC (.int 0))) (zCons (zAndV (zIx (zVar 1) (zC (.int 1))) (zIx (zVar 2) (zC (.int 1)))) (zNil))))) (zNx)) (zRet (zTup (zCons (zIx (zLst (zCons (zIx (zVar 1) (zC (.int 0))) (zCons (zC (.str [98, 111, 111, 108])) (zNil)))) (zCallS intU (zCons (zOp inD (zVar 0) (zTup (zCons (zC (.str [101, 113, 117, 97, 108])) (zCons (zC (.str [108, 101, 115, 115])) (zCons (zC (.str [97, 116, 32, 109, 111, 115, 116])) (zNil)))))) (zNil)))) (zCons (zVar 3) (zNil)))))))) (zNx)) (zSeq (zIfS 5 (zAndT (zTst (zOp inD (zVar 0) (zTup (zCons (zC (.str [97, 110, 100])) (zCons (zC (.str [111, 114])) (zNil)))))) (zTst (zOp eqD (zVar 4) (zTup (zCons (zC (.str [98, 111, 111, 108])) (zCons (zC (.str [98, 111, 111, 108])) (zNil))))))) (zRet (zTup (zCons (zC (.str [98, 111, 111, 108])) (zCons (zVar 3) (zNil))))) (zNx)) (zSeq (zIfS 5 (zAndT (zTst (zOp eqD (zVar 0) (zC (.str [108, 105, 107, 101])))) (zTst (zOp eqD (zVar 4) (zTup (zCons (zC (.str [116, 101, 120, 116])) (zCons (zC (.str [116, 101, 120, 116])) (zNil))))))) (zRet (zTup (zCons (zC (.str [98, 111, 111, 108])) (zCons (zVar 3) (zNil))))) (zNx)) (zSeq (zIfS 5 (zAndT (zTst (zOp eqD (zVar 0) (zC (.str [112, 111, 115, 105, 116, 105, 111, 110])))) (zTst (zOp eqD (zVar 4) (zTup (zCons (zC (.str [116, 101, 120, 116])) (zCons (zC (.str [116, 101, 120, 116])) (zNil))))))) (zRet (zTup (zCons (zC (.str [105, 110, 116])) (zCons (zVar 3) (zNil))))) (zNx)) (zSeq (zIfS 5 (zAndT (zTst (zOp eqD (zVar 0) (zC (.str [106, 111, 105, 110])))) (zTst (zOp eqD (zVar 4) (zTup (zCons (zC (.str [116, 101, 120, 116])) (zCons (zC (.str [116, 101, 120, 116])) (zNil))))))) (zRet (zTup (zCons (zC (.str [116, 101, 120, 116])) (zCons (zC (.bl true)) (zNil))))) (zNx)) (zSeq (zIfS 5 (zAndT (zTst (zOp inD (zVar 0) (zTup (zCons (zC (.str [97, 100, 100, 32, 100, 97, 121, 115])) (zCons (zC (.str [97, 100, 100, 32, 109, 111, 110, 116, 104, 115])) (zNil)))))) (zTst (zOp eqD (zVar 4) (zTup (zCons (zC (.str [100, 97, 116, 101])) (zCons (zC (.str [105, 110, 116])) (zNil))))))) (zRet (zTup (zCons (zC (.str [100, 97, 116, 101])) (zCons (zC (.bl true)) (zNil))))) (zNx)) (zSeq (zIfS 5 (zAndT (zTst (zOp eqD (zVar 0) (zC (.str [115, 117, 98, 116, 114, 97, 99, 116])))) (zTst (zOp eqD (zVar 4) (zTup (zCons (zC (.str [100, 97, 116, 101])) (zCons (zC (.str [100, 97, 116, 101])) (zNil))))))) (zRet (zTup (zCons (zC (.str [105, 110, 116])) (zCons (zC (.bl true)) (zNil))))) (zNx)) (zSeq (zIfS 5 (zAndT (zTst (zOp inD (zVar 0) (zTup (zCons (zC (.str [97, 100, 100])) (zCons (zC (.str [115, 117, 98, 116, 114, 97, 99, 116])) (zCons (zC (.str [114, 101, 115, 116])) (zNil))))))) (zTst (zOp inD (zVar 4) (zTup (zCons (zTup (zCons (zC (.str [105, 110, 116])) (zCons (zC (.str [105, 110, 116])) (zNil)))) (zCons (zTup (zCons (zC (.str [100, 101, 99, 105, 109, 97, 108])) (zCons (zC (.str [100, 101, 99, 105, 109, 97, 108])) (zNil)))) (zNil))))))) (zRet (zTup (zCons (zIx (zVar 1) (zC (.int 0))) (zCons (zC (.bl true)) (zNil))))) (zNx)) (zSeq (zIfS 5 (zAndT (zTst (zOp inD (zVar 0) (zTup (zCons (zC (.str [109, 117, 108, 116, 105, 112, 108, 121])) (zCons (zC (.str [100, 105, 118, 105, 100, 101])) (zNil)))))) (zTst (zOp eqD (zVar 4) (zTup (zCons (zC (.str [105, 110, 116])) (zCons (zC (.str [105, 110, 116])) (zNil))))))) (zRet (zTup (zCons (zC (.str [105, 110, 116])) (zCons (zC (.bl true)) (zNil))))) (zNx)) (zSeq (zIfS 5 (zAndT (zTst (zOp inD (zVar 0) (zTup (zCons (zC (.str [109, 117, 108, 116, 105, 112, 108, 121, 32, 100, 101, 99, 105, 109, 97, 108, 115])) (zCons (zC (.str [100, 105, 118, 105, 100, 101, 32, 100, 101, 99, 105, 109, 97, 108, 115])) (zNil)))))) (zTst (zOp eqD (zVar 4) (zTup (zCons (zC (.str [100, 101, 99, 105, 109, 97, 108])) (zCons (zC (.str [100, 101, 99, 105, 109, 97, 108])) (zNil))))))) (zRet (zTup (zCons (zC (.str [100, 101, 99, 105, 109, 97, 108])) (zCons (zC (.bl true)) (zNil))))) (zNx)) (zRet (zC .non)))))))))))))
def d__law_binary_kind : List D → Option FR := runP 5 3 b__law_binary_kind
set_option maxHeartbeats 4000000 in
theorem ok__law_binary_kind (h : DefAt K mg "_law_binary_kind" st__law_binary_kind) (m_int : mg "int" = none) : Cal P w K mg base 1 "_law_binary_kind" (spP K d__law_binary_kind) := by
  obtain ⟨a, fd, h1, F⟩ := h
  exact ⟨a, fd, _, h1, F.kp, F.binds (ps := ["_law_name", "_law_one", "_law_other"]) fun _ _ _ _ _ _ us hl => match us, hl with | [_, _, _], _ => rfl, okP F sc__law_binary_kind fun cdv A outer s0 H E hr =>
    zss_cons (zs_set (i := 3) sc__law_binary_kind.nd rfl (Or.inl rfl) (ze_or (ze_ix (ze_var rfl (pv 1)) (ze_int)) (ze_one (ze_ix (ze_var rfl (pv 2)) (ze_int))))) (zss_cons (zs_set (i := 4) sc__law_binary_kind.nd rfl (Or.inl rfl) (ze_tup (za_cons (ze_ix (ze_var rfl (pv 1)) (ze_int)) (za_cons (ze_ix (ze_var rfl (pv 2)) (ze_int)) (za_nil))))) (zss_cons (zs_if (zt_cmp (o_in hr) s_in (ze_var rfl (pv 0)) (ze_tup (za_cons (ze_str) (za_cons (ze_str) (za_cons (ze_str) (za_cons (ze_str) (za_cons (ze_str) (za_cons (ze_str) (za_cons (ze_str) (za_nil))))))))) (by rfl)) (zss_cons (zs_if (zt_cmp (o_ne hr) s_ne (ze_ix (ze_var rfl (pv 1)) (ze_int)) (ze_ix (ze_var rfl (pv 2)) (ze_int)) (nomark _)) (zss_one (zs_ret (ze_non))) (zss_nil)) (zss_cons (zs_if (zt_cmp (o_eq hr) s_eq (ze_var rfl (pv 0)) (ze_str) (nomark _)) (zss_one (zs_ret (ze_tup (za_cons (ze_str) (za_cons (ze_bl) (za_nil)))))) (zss_nil)) (zss_cons (zs_if (zt_cmp (o_eq hr) s_eq (ze_var rfl (pv 0)) (ze_str) (nomark _)) (zss_one (zs_ret (ze_tup (za_cons (ze_ix (ze_var rfl (pv 1)) (ze_int)) (za_cons (ze_and (ze_ix (ze_var rfl (pv 1)) (ze_int)) (ze_one (ze_ix (ze_var rfl (pv 2)) (ze_int)))) (za_nil)))))) (zss_nil)) (zss_one (zs_ret (ze_tup (za_cons (ze_ix (ze_lst (za_cons (ze_ix (ze_var rfl (pv 1)) (ze_int)) (za_cons (ze_str) (za_nil)))) (ze_callTy call_intU s_intU (by rfl) m_int (by decide +kernel) (za_cons (ze_cmp (o_in hr) s_in (ze_var rfl (pv 0)) (ze_tup (za_cons (ze_str) (za_cons (ze_str) (za_cons (ze_str) (za_nil))))) (by rfl)) (za_nil)))) (za_cons (ze_var rfl (pv 3)) (za_nil))))))))) (zss_nil)) (zss_cons (zs_if (zt_w (zw_and (zt_cmp (o_in hr) s_in (ze_var rfl (pv 0)) (ze_tup (za_cons (ze_str) (za_cons (ze_str) (za_nil)))) (by rfl)) (zw_and1 (zt_cmp (o_eq hr) s_eq (ze_var rfl (pv 4)) (ze_tup (za_cons (ze_str) (za_cons (ze_str) (za_nil)))) (nomark _))))) (zss_one (zs_ret (ze_tup (za_cons (ze_str) (za_cons (ze_var rfl (pv 3)) (za_nil)))))) (zss_nil)) (zss_cons (zs_if (zt_w (zw_and (zt_cmp (o_eq hr) s_eq (ze_var rfl (pv 0)) (ze_str) (nomark _)) (zw_and1 (zt_cmp (o_eq hr) s_eq (ze_var rfl (pv 4)) (ze_tup (za_cons (ze_str) (za_cons (ze_str) (za_nil)))) (nomark _))))) (zss_one (zs_ret (ze_tup (za_cons (ze_str) (za_cons (ze_var rfl (pv 3)) (za_nil)))))) (zss_nil)) (zss_cons (zs_if (zt_w (zw_and (zt_cmp (o_eq hr) s_eq (ze_var rfl (pv 0)) (ze_str) (nomark _)) (zw_and1 (zt_cmp (o_eq hr) s_eq (ze_var rfl (pv 4)) (ze_tup (za_cons (ze_str) (za_cons (ze_str) (za_nil)))) (nomark _))))) (zss_one (zs_ret (ze_tup (za_cons (ze_str) (za_cons (ze_var rfl (pv 3)) (za_nil)))))) (zss_nil)) (zss_cons (zs_if (zt_w (zw_and (zt_cmp (o_eq hr) s_eq (ze_var rfl (pv 0)) (ze_str) (nomark _)) (zw_and1 (zt_cmp (o_eq hr) s_eq (ze_var rfl (pv 4)) (ze_tup (za_cons (ze_str) (za_cons (ze_str) (za_nil)))) (nomark _))))) (zss_one (zs_ret (ze_tup (za_cons (ze_str) (za_cons (ze_bl) (za_nil)))))) (zss_nil)) (zss_cons (zs_if (zt_w (zw_and (zt_cmp (o_in hr) s_in (ze_var rfl (pv 0)) (ze_tup (za_cons (ze_str) (za_cons (ze_str) (za_nil)))) (by rfl)) (zw_and1 (zt_cmp (o_eq hr) s_eq (ze_var rfl (pv 4)) (ze_tup (za_cons (ze_str) (za_cons (ze_str) (za_nil)))) (nomark _))))) (zss_one (zs_ret (ze_tup (za_cons (ze_str) (za_cons (ze_bl) (za_nil)))))) (zss_nil)) (zss_cons (zs_if (zt_w (zw_and (zt_cmp (o_eq hr) s_eq (ze_var rfl (pv 0)) (ze_str) (nomark _)) (zw_and1 (zt_cmp (o_eq hr) s_eq (ze_var rfl (pv 4)) (ze_tup (za_cons (ze_str) (za_cons (ze_str) (za_nil)))) (nomark _))))) (zss_one (zs_ret (ze_tup (za_cons (ze_str) (za_cons (ze_bl) (za_nil)))))) (zss_nil)) (zss_cons (zs_if (zt_w (zw_and (zt_cmp (o_in hr) s_in (ze_var rfl (pv 0)) (ze_tup (za_cons (ze_str) (za_cons (ze_str) (za_cons (ze_str) (za_nil))))) (by rfl)) (zw_and1 (zt_cmp (o_in hr) s_in (ze_var rfl (pv 4)) (ze_tup (za_cons (ze_tup (za_cons (ze_str) (za_cons (ze_str) (za_nil)))) (za_cons (ze_tup (za_cons (ze_str) (za_cons (ze_str) (za_nil)))) (za_nil)))) (by rfl))))) (zss_one (zs_ret (ze_tup (za_cons (ze_ix (ze_var rfl (pv 1)) (ze_int)) (za_cons (ze_bl) (za_nil)))))) (zss_nil)) (zss_cons (zs_if (zt_w (zw_and (zt_cmp (o_in hr) s_in (ze_var rfl (pv 0)) (ze_tup (za_cons (ze_str) (za_cons (ze_str) (za_nil)))) (by rfl)) (zw_and1 (zt_cmp (o_eq hr) s_eq (ze_var rfl (pv 4)) (ze_tup (za_cons (ze_str) (za_cons (ze_str) (za_nil)))) (nomark _))))) (zss_one (zs_ret (ze_tup (za_cons (ze_str) (za_cons (ze_bl) (za_nil)))))) (zss_nil)) (zss_cons (zs_if (zt_w (zw_and (zt_cmp (o_in hr) s_in (ze_var rfl (pv 0)) (ze_tup (za_cons (ze_str) (za_cons (ze_str) (za_nil)))) (by rfl)) (zw_and1 (zt_cmp (o_eq hr) s_eq (ze_var rfl (pv 4)) (ze_tup (za_cons (ze_str) (za_cons (ze_str) (za_nil)))) (nomark _))))) (zss_one (zs_ret (ze_tup (za_cons (ze_str) (za_cons (ze_bl) (za_nil)))))) (zss_nil)) (zss_one (zs_ret (ze_non))))))))))))))⟩
abbrev st__law_rank : Stmt := topS 18
theorem sc__law_rank : FnScope ["_law_value_here"] ["_law_value_here"] (defScope st__law_rank) := ⟨rfl, rfl, rfl, by decide +kernel, rfl, by decide +kernel, by decide +kernel⟩
def b__law_rank : SM := zSeq (zIfS 1 (zTst (zOp isD (zVar 0) (zC .non))) (zRet (zTup (zCons (zC (.int 0)) (zCons (zC (.int 0)) (zNil))))) (zNx)) (zSeq (zIfS 1 (zTst (zOp isD (zVar 0) (zC (.bl true)))) (zRet (zTup (zCons (zC (.int 1)) (zCons (zC (.int 1)) (zNil))))) (zNx)) (zSeq (zIfS 1 (zTst (zOp isD (zVar 0) (zC (.bl false)))) (zRet (zTup (zCons (zC (.int 1)) (zCons (zC (.int 0)) (zNil))))) (zNx)) (zSeq (zIfS 1 (zTru (zCallS isiD (zCons (zVar 0) (zCons (zC (.raw (.ty "str"))) (zNil))))) (zRet (zTup (zCons (zC (.int 3)) (zCons (zVar 0) (zNil))))) (zNx)) (zRet (zTup (zCons (zC (.int 2)) (zCons (zVar 0) (zNil))))))))
def d__law_rank : List D → Option FR := runP 1 1 b__law_rank
set_option maxHeartbeats 4000000 in
theorem ok__law_rank (h : DefAt K mg "_law_rank" st__law_rank) (m_isinstance : mg "isinstance" = none) (m_str : mg "str" = none) : Cal P w K mg base 1 "_law_rank" (spP K d__law_rank) := by
  obtain ⟨a, fd, h1, F⟩ := h
  exact ⟨a, fd, _, h1, F.kp, F.binds (ps := ["_law_value_here"]) fun _ _ _ _ _ _ us hl => match us, hl with | [_], _ => rfl, okP F sc__law_rank fun cdv A outer s0 H E hr =>
    zss_cons (zs_if (zt_cmp o_is s_is (ze_var rfl (pv 0)) (ze_non) (nomark _)) (zss_one (zs_ret (ze_tup (za_cons (ze_int) (za_cons (ze_int) (za_nil)))))) (zss_nil)) (zss_cons (zs_if (zt_cmp o_is s_is (ze_var rfl (pv 0)) (ze_bl) (nomark _)) (zss_one (zs_ret (ze_tup (za_cons (ze_int) (za_cons (ze_int) (za_nil)))))) (zss_nil)) (zss_cons (zs_if (zt_cmp o_is s_is (ze_var rfl (pv 0)) (ze_bl) (nomark _)) (zss_one (zs_ret (ze_tup (za_cons (ze_int) (za_cons (ze_int) (za_nil)))))) (zss_nil)) (zss_cons (zs_if (zt_truth (ze_callB call_isiU s_isi (by rfl) m_isinstance (by decide +kernel) (za_cons (ze_var rfl (pv 0)) (za_cons (ze_bltn (by rfl) m_str (by decide +kernel) rfl) (za_nil))))) (zss_one (zs_ret (ze_tup (za_cons (ze_int) (za_cons (ze_var rfl (pv 0)) (za_nil)))))) (zss_nil)) (zss_one (zs_ret (ze_tup (za_cons (ze_int) (za_cons (ze_var rfl (pv 0)) (za_nil)))))))))⟩
abbrev st__law_kind : Stmt := topS 31
theorem sc__law_kind : FnScope ["_law_expression_here", "_law_columns", "_law_form", "_law_kinds", "_law_needs", "_law_rank_here", "_law_nulls", "_law_k", "_law_kind_here"] ["_law_expression_here", "_law_columns"] (defScope st__law_kind) := ⟨rfl, rfl, rfl, by decide +kernel, rfl, by decide +kernel, by decide +kernel⟩
def b__law_kind (F : List D → Option FR) : SM := zSeq (zSet 9 2 (zIx (zVar 0) (zC (.int 0)))) (zSeq (zIfS 9 (zTst (zOp eqD (zVar 2) (zC (.str [99, 111, 110, 115, 116, 97, 110, 116])))) (zSeq (zSet 9 5 (zIx (zCall d__law_rank (zCons (zIx (zVar 0) (zC (.int 1))) (zNil))) (zC (.int 0)))) (zRet (zIx (zLst (zCons (zC .non) (zCons (zTup (zCons (zC (.str [98, 111, 111, 108])) (zCons (zC (.bl false)) (zNil)))) (zCons (zTup (zCons (zC (.str [105, 110, 116])) (zCons (zC (.bl false)) (zNil)))) (zCons (zTup (zCons (zC (.str [116, 101, 120, 116])) (zCons (zC (.bl false)) (zNil)))) (zNil)))))) (zVar 5)))) (zNx)) (zSeq (zIfS 9 (zTst (zOp eqD (zVar 2) (zC (.str [99, 111, 108, 117, 109, 110])))) (zSeq (zIfS 9 (zTst (zOp ltX (zIx (zVar 0) (zC (.int 1))) (zCallS lenD (zCons (zVar 1) (zNil))))) (zRet (zIx (zVar 1) (zIx (zVar 0) (zC (.int 1))))) (zNx)) (zRet (zC .non))) (zNx)) (zSeq (zIfS 9 (zTst (zOp eqD (zVar 2) (zC (.str [99, 104, 111, 105, 99, 101])))) (zSeq (zSet 9 6 (zLc (ziR2 (zCons (zC (.int 2)) (zCons (zC (.int 4)) (zNil)))) (gN 7) (zYes) (zAndV (zOp eqD (zIx (zIx (zVar 0) (zVar 7)) (zC (.int 0))) (zC (.str [99, 111, 110, 115, 116, 97, 110, 116]))) (zOp isD (zIx (zIx (zVar 0) (zVar 7)) (zC (.int 1))) (zC .non))) [7])) (zSeq (zSet 9 3 (zLc (ziR2 (zCons (zC (.int 1)) (zCons (zC (.int 4)) (zNil)))) (gN 7) (zYes) (zCall F (zCons (zIx (zVar 0) (zVar 7)) (zCons (zVar 1) (zNil)))) [7])) (zRet (zCall d__law_choice_kind (zCons (zIx (zVar 3) (zC (.int 0))) (zCons (zIx (zVar 3) (zC (.int 1))) (zCons (zIx (zVar 3) (zC (.int 2))) (zCons (zVar 6) (zNil))))))))) (zNx)) (zSeq (zSet 9 3 (zLc (ziR2 (zCons (zC (.int 2)) (zCons (zCallS lenD (zCons (zVar 0) (zNil))) (zNil)))) (gN 7) (zYes) (zCall F (zCons (zIx (zVar 0) (zVar 7)) (zCons (zVar 1) (zNil)))) [7])) (zSeq (zIfS 9 (zTst (zOp gtD (zCallS lenD (zCons (zLc (ziL 9 (zVar 3)) (gN 8) (zTst (zOp isD (zVar 8) (zC .non))) (zVar 8) [8]) (zNil))) (zC (.int 0)))) (zRet (zC .non)) (zNx)) (zSeq (zIfS 9 (zTst (zOp eqD (zVar 2) (zC (.str [117, 110, 97, 114, 121])))) (zRet (zCall d__law_unary_kind (zCons (zIx (zVar 0) (zC (.int 1))) (zCons (zIx (zVar 3) (zC (.int 0))) (zNil))))) (zNx)) (zSeq (zIfS 9 (zTst (zOp eqD (zVar 2) (zC (.str [98, 105, 110, 97, 114, 121])))) (zRet (zCall d__law_binary_kind (zCons (zIx (zVar 0) (zC (.int 1))) (zCons (zIx (zVar 3) (zC (.int 0))) (zCons (zIx (zVar 3) (zC (.int 1))) (zNil)))))) (zNx)) (zSeq (zSet 9 4 (zDic [[112, 97, 114, 116], [115, 112, 108, 105, 116], [112, 97, 100], [114, 101, 112, 108, 97, 99, 101]] [(zTup (zCons (zC (.str [116, 101, 120, 116])) (zCons (zC (.str [105, 110, 116])) (zCons (zC (.str [105, 110, 116])) (zNil))))), (zTup (zCons (zC (.str [116, 101, 120, 116])) (zCons (zC (.str [116, 101, 120, 116])) (zCons (zC (.str [105, 110, 116])) (zNil))))), (zTup (zCons (zC (.str [116, 101, 120, 116])) (zCons (zC (.str [116, 101, 120, 116])) (zCons (zC (.str [105, 110, 116])) (zNil))))), (zTup (zCons (zC (.str [116, 101, 120, 116])) (zCons (zC (.str [116, 101, 120, 116])) (zCons (zC (.str [116, 101, 120, 116])) (zNil)))))])) (zSeq (zIfS 9 (zTst (zOp eqD (z_tuple (zCons (zLc (ziL 9 (zVar 3)) (gN 8) (zYes) (zIx (zVar 8) (zC (.int 0))) [8]) (zNil))) (zDgt (zVar 4) (zIx (zVar 0) (zC (.int 1)))))) (zRet (zTup (zCons (zC (.str [116, 101, 120, 116])) (zCons (zC (.bl true)) (zNil))))) (zNx)) (zRet (zC .non)))))))))))
def d__law_kind : Nat → List D → Option FR
  | 0 => fun _ => none
  | q + 1 => runP 9 2 (b__law_kind (d__law_kind q))
set_option maxHeartbeats 4000000 in
theorem ok__law_kind (h : DefAt K mg "_law_kind" st__law_kind) (m_len : mg "len" = none) (m_range : mg "range" = none) (m_tuple : mg "tuple" = none) (c__law_choice_kind : Cal P w K mg base 1 "_law_choice_kind" (spP K d__law_choice_kind)) (c__law_unary_kind : Cal P w K mg base 1 "_law_unary_kind" (spP K d__law_unary_kind)) (c__law_binary_kind : Cal P w K mg base 1 "_law_binary_kind" (spP K d__law_binary_kind)) (c__law_rank : Cal P w K mg base 1 "_law_rank" (spP K d__law_rank)) : ∀ q : Nat, Cal P w K mg base (2 + q) "_law_kind" (spP K (d__law_kind q)) := by
  obtain ⟨a, fd, h1, F⟩ := h
  intro q
  induction q with
  | zero => exact ⟨a, fd, _, h1, F.kp, F.binds (ps := ["_law_expression_here", "_law_columns"]) fun _ _ _ _ _ _ us hl => match us, hl with | [_, _], _ => rfl, okN⟩
  | succ q cR =>
    show Cal P w K mg base (2 + q + 1) "_law_kind" (spP K (runP 9 2 (b__law_kind (d__law_kind q))))
    exact ⟨a, fd, _, h1, F.kp, F.binds (ps := ["_law_expression_here", "_law_columns"]) fun _ _ _ _ _ _ us hl => match us, hl with | [_, _], _ => rfl, okP F sc__law_kind fun cdv A outer s0 H E hr =>
    zss_cons (zs_set (i := 2) sc__law_kind.nd rfl (Or.inl rfl) (ze_ix (ze_var rfl (pv 0)) (ze_int))) (zss_cons (zs_if (zt_cmp (o_eq hr) s_eq (ze_var rfl (pv 2)) (ze_str) (nomark _)) (zss_cons (zs_set (i := 5) sc__law_kind.nd rfl (Or.inl rfl) (ze_ix (ze_call (c__law_rank.mono (by omega)) hr (za_cons (ze_ix (ze_var rfl (pv 0)) (ze_int)) (za_nil))) (ze_int))) (zss_one (zs_ret (ze_ix (ze_lst (za_cons (ze_non) (za_cons (ze_tup (za_cons (ze_str) (za_cons (ze_bl) (za_nil)))) (za_cons (ze_tup (za_cons (ze_str) (za_cons (ze_bl) (za_nil)))) (za_cons (ze_tup (za_cons (ze_str) (za_cons (ze_bl) (za_nil)))) (za_nil)))))) (ze_var rfl (pv 5)))))) (zss_nil)) (zss_cons (zs_if (zt_cmp (o_eq hr) s_eq (ze_var rfl (pv 2)) (ze_str) (nomark _)) (zss_cons (zs_if (zt_cmp (o_ltX hr) s_ltX (ze_ix (ze_var rfl (pv 0)) (ze_int)) (ze_callB call_len s_len (by rfl) m_len PySem.boot_len (za_cons (ze_var rfl (pv 1)) (za_nil))) (nomark _)) (zss_one (zs_ret (ze_ix (ze_var rfl (pv 1)) (ze_ix (ze_var rfl (pv 0)) (ze_int))))) (zss_nil)) (zss_one (zs_ret (ze_non)))) (zss_nil)) (zss_cons (zs_if (zt_cmp (o_eq hr) s_eq (ze_var rfl (pv 2)) (ze_str) (nomark _)) (zss_cons (zs_setLc (i := 6) rfl rfl (sw_true rfl rfl rfl (by decide +kernel)) (own := [("_law_k", 7)]) rfl sc__law_kind.nd (zi_range2 (by rfl) m_range (za_cons (ze_int) (za_cons (ze_int) (za_nil)))) (blkOk_by (N := ["_law_expression_here", "_law_columns", "_law_form", "_law_kinds", "_law_needs", "_law_rank_here", "_law_nulls", "_law_k", "_law_kind_here"]) (own := [("_law_k", 7)]) (sc := defScope st__law_kind) (by decide +kernel)) (fun _ _ _ _ _ => zgw_name (i := 7) sc__law_kind.nd rfl (Or.inl rfl) (by decide)) (fun _ _ _ _ _ => zts_nil) (fun _ _ _ _ _ => ze_and (ze_cmp (o_eq hr) s_eq (ze_ix (ze_ix (ze_var rfl (pv 0)) (ze_var rfl (pv 7))) (ze_int)) (ze_str) (nomark _)) (ze_one (ze_cmp o_is s_is (ze_ix (ze_ix (ze_var rfl (pv 0)) (ze_var rfl (pv 7))) (ze_int)) (ze_non) (nomark _))))) (zss_cons (zs_setLc (i := 3) rfl rfl (sw_true rfl rfl rfl (by decide +kernel)) (own := [("_law_k", 7)]) rfl sc__law_kind.nd (zi_range2 (by rfl) m_range (za_cons (ze_int) (za_cons (ze_int) (za_nil)))) (blkOk_by (N := ["_law_expression_here", "_law_columns", "_law_form", "_law_kinds", "_law_needs", "_law_rank_here", "_law_nulls", "_law_k", "_law_kind_here"]) (own := [("_law_k", 7)]) (sc := defScope st__law_kind) (by decide +kernel)) (fun _ _ _ _ _ => zgw_name (i := 7) sc__law_kind.nd rfl (Or.inl rfl) (by decide)) (fun _ _ _ _ _ => zts_nil) (fun _ _ _ _ _ => ze_call cR hr (za_cons (ze_ix (ze_var rfl (pv 0)) (ze_var rfl (pv 7))) (za_cons (ze_var rfl (pv 1)) (za_nil))))) (zss_one (zs_ret (ze_call (c__law_choice_kind.mono (by omega)) hr (za_cons (ze_ix (ze_var rfl (pv 3)) (ze_int)) (za_cons (ze_ix (ze_var rfl (pv 3)) (ze_int)) (za_cons (ze_ix (ze_var rfl (pv 3)) (ze_int)) (za_cons (ze_var rfl (pv 6)) (za_nil)))))))))) (zss_nil)) (zss_cons (zs_setLc (i := 3) rfl rfl (sw_true rfl rfl rfl (by decide +kernel)) (own := [("_law_k", 7)]) rfl sc__law_kind.nd (zi_range2 (by rfl) m_range (za_cons (ze_int) (za_cons (ze_callB call_len s_len (by rfl) m_len PySem.boot_len (za_cons (ze_var rfl (pv 0)) (za_nil))) (za_nil)))) (blkOk_by (N := ["_law_expression_here", "_law_columns", "_law_form", "_law_kinds", "_law_needs", "_law_rank_here", "_law_nulls", "_law_k", "_law_kind_here"]) (own := [("_law_k", 7)]) (sc := defScope st__law_kind) (by decide +kernel)) (fun _ _ _ _ _ => zgw_name (i := 7) sc__law_kind.nd rfl (Or.inl rfl) (by decide)) (fun _ _ _ _ _ => zts_nil) (fun _ _ _ _ _ => ze_call cR hr (za_cons (ze_ix (ze_var rfl (pv 0)) (ze_var rfl (pv 7))) (za_cons (ze_var rfl (pv 1)) (za_nil))))) (zss_cons (zs_if (zt_cmp o_gt s_gt (ze_callB call_len s_len (by rfl) m_len PySem.boot_len (za_cons (ze_lc (own := [("_law_kind_here", 8)]) rfl sc__law_kind.nd (zi_list (ze_var rfl (pv 3))) (blkOk_by (N := ["_law_expression_here", "_law_columns", "_law_form", "_law_kinds", "_law_needs", "_law_rank_here", "_law_nulls", "_law_k", "_law_kind_here"]) (own := [("_law_kind_here", 8)]) (sc := defScope st__law_kind) (by decide +kernel)) (fun _ _ _ _ _ => zgw_name (i := 8) sc__law_kind.nd rfl (Or.inl rfl) (by decide)) (fun _ _ _ _ _ => zts_one (zt_cmp o_is s_is (ze_var rfl (pv 8)) (ze_non) (nomark _))) (fun _ _ _ _ _ => ze_var rfl (pv 8))) (za_nil))) (ze_int) (nomark _)) (zss_one (zs_ret (ze_non))) (zss_nil)) (zss_cons (zs_if (zt_cmp (o_eq hr) s_eq (ze_var rfl (pv 2)) (ze_str) (nomark _)) (zss_one (zs_ret (ze_call (c__law_unary_kind.mono (by omega)) hr (za_cons (ze_ix (ze_var rfl (pv 0)) (ze_int)) (za_cons (ze_ix (ze_var rfl (pv 3)) (ze_int)) (za_nil)))))) (zss_nil)) (zss_cons (zs_if (zt_cmp (o_eq hr) s_eq (ze_var rfl (pv 2)) (ze_str) (nomark _)) (zss_one (zs_ret (ze_call (c__law_binary_kind.mono (by omega)) hr (za_cons (ze_ix (ze_var rfl (pv 0)) (ze_int)) (za_cons (ze_ix (ze_var rfl (pv 3)) (ze_int)) (za_cons (ze_ix (ze_var rfl (pv 3)) (ze_int)) (za_nil))))))) (zss_nil)) (zss_cons (zs_set (i := 4) sc__law_kind.nd rfl (Or.inl rfl) (ze_dic (zz_pps_cons (ze_tup (za_cons (ze_str) (za_cons (ze_str) (za_cons (ze_str) (za_nil))))) (zz_pps_cons (ze_tup (za_cons (ze_str) (za_cons (ze_str) (za_cons (ze_str) (za_nil))))) (zz_pps_cons (ze_tup (za_cons (ze_str) (za_cons (ze_str) (za_cons (ze_str) (za_nil))))) (zz_pps_cons (ze_tup (za_cons (ze_str) (za_cons (ze_str) (za_cons (ze_str) (za_nil))))) (zz_pps_nil))))))) (zss_cons (zs_if (zt_cmp (o_eq hr) s_eq (ze_tuple hr (by rfl) m_tuple (za_cons (ze_lc (own := [("_law_kind_here", 8)]) rfl sc__law_kind.nd (zi_list (ze_var rfl (pv 3))) (blkOk_by (N := ["_law_expression_here", "_law_columns", "_law_form", "_law_kinds", "_law_needs", "_law_rank_here", "_law_nulls", "_law_k", "_law_kind_here"]) (own := [("_law_kind_here", 8)]) (sc := defScope st__law_kind) (by decide +kernel)) (fun _ _ _ _ _ => zgw_name (i := 8) sc__law_kind.nd rfl (Or.inl rfl) (by decide)) (fun _ _ _ _ _ => zts_nil) (fun _ _ _ _ _ => ze_ix (ze_var rfl (pv 8)) (ze_int))) (za_nil))) (ze_dgt hr (ze_var rfl (pv 4)) (ze_ix (ze_var rfl (pv 0)) (ze_int))) (nomark _)) (zss_one (zs_ret (ze_tup (za_cons (ze_str) (za_cons (ze_bl) (za_nil)))))) (zss_nil)) (zss_one (zs_ret (ze_non))))))))))))⟩
abbrev st_constant_kind : Stmt := topS 8
theorem sc_constant_kind : FnScope ["value"] ["value"] (defScope st_constant_kind) := ⟨rfl, rfl, rfl, by decide +kernel, rfl, by decide +kernel, by decide +kernel⟩
def b_constant_kind : SM := zSeq (zIfS 1 (zTst (zOp isD (zVar 0) (zC .non))) (zRet (zC .non)) (zNx)) (zSeq (zIfS 1 (zTru (zCallS isiD (zCons (zVar 0) (zCons (zC (.raw (.ty "bool"))) (zNil))))) (zRet (zTup (zCons (zC (.str [98, 111, 111, 108])) (zCons (zC (.bl false)) (zNil))))) (zNx)) (zSeq (zIfS 1 (zTru (zCallS isiD (zCons (zVar 0) (zCons (zC (.raw (.ty "str"))) (zNil))))) (zRet (zTup (zCons (zC (.str [116, 101, 120, 116])) (zCons (zC (.bl false)) (zNil))))) (zNx)) (zRet (zTup (zCons (zC (.str [105, 110, 116])) (zCons (zC (.bl false)) (zNil)))))))
def d_constant_kind : List D → Option FR := runP 1 1 b_constant_kind
set_option maxHeartbeats 4000000 in
theorem ok_constant_kind (h : DefAt K mg "constant_kind" st_constant_kind) (m_bool : mg "bool" = none) (m_isinstance : mg "isinstance" = none) (m_str : mg "str" = none) : Cal P w K mg base 1 "constant_kind" (spP K d_constant_kind) := by
  obtain ⟨a, fd, h1, F⟩ := h
  exact ⟨a, fd, _, h1, F.kp, F.binds (ps := ["value"]) fun _ _ _ _ _ _ us hl => match us, hl with | [_], _ => rfl, okP F sc_constant_kind fun cdv A outer s0 H E hr =>
    zss_cons (zs_if (zt_cmp o_is s_is (ze_var rfl (pv 0)) (ze_non) (nomark _)) (zss_one (zs_ret (ze_non))) (zss_nil)) (zss_cons (zs_if (zt_truth (ze_callB call_isiU s_isi (by rfl) m_isinstance (by decide +kernel) (za_cons (ze_var rfl (pv 0)) (za_cons (ze_bltn (by rfl) m_bool (by decide +kernel) rfl) (za_nil))))) (zss_one (zs_ret (ze_tup (za_cons (ze_str) (za_cons (ze_bl) (za_nil)))))) (zss_nil)) (zss_cons (zs_if (zt_truth (ze_callB call_isiU s_isi (by rfl) m_isinstance (by decide +kernel) (za_cons (ze_var rfl (pv 0)) (za_cons (ze_bltn (by rfl) m_str (by decide +kernel) rfl) (za_nil))))) (zss_one (zs_ret (ze_tup (za_cons (ze_str) (za_cons (ze_bl) (za_nil)))))) (zss_nil)) (zss_one (zs_ret (ze_tup (za_cons (ze_str) (za_cons (ze_bl) (za_nil))))))))⟩
abbrev st_choice_kind : Stmt := topS 11
theorem sc_choice_kind : FnScope ["expression", "columns", "condition", "first", "second"] ["expression", "columns"] (defScope st_choice_kind) := ⟨rfl, rfl, rfl, by decide +kernel, rfl, by decide +kernel, by decide +kernel⟩
def b_choice_kind (F : List D → Option FR) : SM := zSeq (zSet 5 2 (zCall F (zCons (zIx (zVar 0) (zC (.int 1))) (zCons (zVar 1) (zNil))))) (zSeq (zIfS 5 (zOrT (zTst (zOp isD (zVar 2) (zC .non))) (zTst (zOp neqD (zIx (zVar 2) (zC (.int 0))) (zC (.str [98, 111, 111, 108]))))) (zRet (zC .non)) (zNx)) (zSeq (zSet 5 3 (zCall F (zCons (zIx (zVar 0) (zC (.int 2))) (zCons (zVar 1) (zNil))))) (zSeq (zSet 5 4 (zCall F (zCons (zIx (zVar 0) (zC (.int 3))) (zCons (zVar 1) (zNil))))) (zSeq (zIfS 5 (zAndT (zTst (zOp isntD (zVar 3) (zC .non))) (zTst (zOp isntD (zVar 4) (zC .non)))) (zRet (zIf (zTst (zOp eqD (zIx (zVar 3) (zC (.int 0))) (zIx (zVar 4) (zC (.int 0))))) (zTup (zCons (zIx (zVar 3) (zC (.int 0))) (zCons (zOrV (zIx (zVar 3) (zC (.int 1))) (zIx (zVar 4) (zC (.int 1)))) (zNil)))) (zC .non))) (zNx)) (zSeq (zIfS 5 (zAndT (zTst (zOp isD (zVar 3) (zC .non))) (zAndT (zTst (zOp isntD (zVar 4) (zC .non))) (zTst (zOp eqD (zIx (zVar 0) (zC (.int 2))) (zTup (zCons (zC (.str [99, 111, 110, 115, 116, 97, 110, 116])) (zCons (zC .non) (zNil)))))))) (zRet (zTup (zCons (zIx (zVar 4) (zC (.int 0))) (zCons (zC (.bl true)) (zNil))))) (zNx)) (zSeq (zIfS 5 (zAndT (zTst (zOp isD (zVar 4) (zC .non))) (zAndT (zTst (zOp isntD (zVar 3) (zC .non))) (zTst (zOp eqD (zIx (zVar 0) (zC (.int 3))) (zTup (zCons (zC (.str [99, 111, 110, 115, 116, 97, 110, 116])) (zCons (zC .non) (zNil)))))))) (zRet (zTup (zCons (zIx (zVar 3) (zC (.int 0))) (zCons (zC (.bl true)) (zNil))))) (zNx)) (zRet (zC .non))))))))
def d_choice_kind (F : List D → Option FR) : List D → Option FR := runP 5 2 (b_choice_kind F)
set_option maxHeartbeats 4000000 in
theorem ok_choice_kind (h : DefAt K mg "choice_kind" st_choice_kind) (F0 : List D → Option FR) (k : Nat) (hk : 1 ≤ k) (cR : Cal P w K mg base k "kind_of" (spP K F0)) : Cal P w K mg base (k + 1) "choice_kind" (spP K (d_choice_kind F0)) := by
  obtain ⟨a, fd, h1, F⟩ := h
  show Cal P w K mg base (k + 1) "choice_kind" (spP K (runP 5 2 (b_choice_kind F0)))
  exact ⟨a, fd, _, h1, F.kp, F.binds (ps := ["expression", "columns"]) fun _ _ _ _ _ _ us hl => match us, hl with | [_, _], _ => rfl, okP F sc_choice_kind fun cdv A outer s0 H E hr =>
    zss_cons (zs_set (i := 2) sc_choice_kind.nd rfl (Or.inl rfl) (ze_call cR hr (za_cons (ze_ix (ze_var rfl (pv 0)) (ze_int)) (za_cons (ze_var rfl (pv 1)) (za_nil))))) (zss_cons (zs_if (zt_w (zw_or (zt_cmp o_is s_is (ze_var rfl (pv 2)) (ze_non) (nomark _)) (zw_or1 (zt_cmp (o_ne hr) s_ne (ze_ix (ze_var rfl (pv 2)) (ze_int)) (ze_str) (nomark _))))) (zss_one (zs_ret (ze_non))) (zss_nil)) (zss_cons (zs_set (i := 3) sc_choice_kind.nd rfl (Or.inl rfl) (ze_call cR hr (za_cons (ze_ix (ze_var rfl (pv 0)) (ze_int)) (za_cons (ze_var rfl (pv 1)) (za_nil))))) (zss_cons (zs_set (i := 4) sc_choice_kind.nd rfl (Or.inl rfl) (ze_call cR hr (za_cons (ze_ix (ze_var rfl (pv 0)) (ze_int)) (za_cons (ze_var rfl (pv 1)) (za_nil))))) (zss_cons (zs_if (zt_w (zw_and (zt_cmp o_isnt s_isnt (ze_var rfl (pv 3)) (ze_non) (nomark _)) (zw_and1 (zt_cmp o_isnt s_isnt (ze_var rfl (pv 4)) (ze_non) (nomark _))))) (zss_one (zs_ret (ze_if (zt_cmp (o_eq hr) s_eq (ze_ix (ze_var rfl (pv 3)) (ze_int)) (ze_ix (ze_var rfl (pv 4)) (ze_int)) (nomark _)) (ze_tup (za_cons (ze_ix (ze_var rfl (pv 3)) (ze_int)) (za_cons (ze_or (ze_ix (ze_var rfl (pv 3)) (ze_int)) (ze_one (ze_ix (ze_var rfl (pv 4)) (ze_int)))) (za_nil)))) (ze_non)))) (zss_nil)) (zss_cons (zs_if (zt_w (zw_and (zt_cmp o_is s_is (ze_var rfl (pv 3)) (ze_non) (nomark _)) (zw_and (zt_cmp o_isnt s_isnt (ze_var rfl (pv 4)) (ze_non) (nomark _)) (zw_and1 (zt_cmp (o_eq hr) s_eq (ze_ix (ze_var rfl (pv 0)) (ze_int)) (ze_tup (za_cons (ze_str) (za_cons (ze_non) (za_nil)))) (nomark _)))))) (zss_one (zs_ret (ze_tup (za_cons (ze_ix (ze_var rfl (pv 4)) (ze_int)) (za_cons (ze_bl) (za_nil)))))) (zss_nil)) (zss_cons (zs_if (zt_w (zw_and (zt_cmp o_is s_is (ze_var rfl (pv 4)) (ze_non) (nomark _)) (zw_and (zt_cmp o_isnt s_isnt (ze_var rfl (pv 3)) (ze_non) (nomark _)) (zw_and1 (zt_cmp (o_eq hr) s_eq (ze_ix (ze_var rfl (pv 0)) (ze_int)) (ze_tup (za_cons (ze_str) (za_cons (ze_non) (za_nil)))) (nomark _)))))) (zss_one (zs_ret (ze_tup (za_cons (ze_ix (ze_var rfl (pv 3)) (ze_int)) (za_cons (ze_bl) (za_nil)))))) (zss_nil)) (zss_one (zs_ret (ze_non)))))))))⟩
abbrev kt_UNARY_KINDS : List (List Nat) := [[110, 111, 116], [110, 101, 103, 97, 116, 101], [97, 98, 115], [115, 105, 103, 110], [108, 111, 119, 101, 114], [117, 112, 112, 101, 114], [116, 114, 105, 109], [108, 101, 110, 103, 116, 104], [121, 101, 97, 114], [109, 111, 110, 116, 104], [100, 97, 121], [119, 101, 101, 107, 100, 97, 121], [109, 111, 110, 116, 104, 32, 115, 116, 97, 114, 116], [121, 101, 97, 114, 32, 115, 116, 97, 114, 116], [119, 101, 101, 107, 32, 115, 116, 97, 114, 116], [97, 115, 32, 100, 97, 116, 101], [97, 115, 32, 100, 101, 99, 105, 109, 97, 108], [116, 111, 32, 100, 101, 99, 105, 109, 97, 108], [116, 111, 32, 105, 110, 116], [105, 110, 116, 32, 116, 111, 32, 116, 101, 120, 116], [100, 97, 116, 101, 32, 116, 111, 32, 116, 101, 120, 116], [100, 101, 99, 105, 109, 97, 108, 32, 116, 111, 32, 116, 101, 120, 116], [116, 101, 120, 116, 32, 116, 111, 32, 105, 110, 116], [116, 101, 120, 116, 32, 116, 111, 32, 100, 97, 116, 101], [116, 101, 120, 116, 32, 116, 111, 32, 100, 101, 99, 105, 109, 97, 108]]
abbrev dt_UNARY_KINDS : List D := [.tup [.tup [.str [98, 111, 111, 108], .str [98, 111, 111, 108]]], .tup [.tup [.str [105, 110, 116], .str [105, 110, 116]], .tup [.str [100, 101, 99, 105, 109, 97, 108], .str [100, 101, 99, 105, 109, 97, 108]]], .tup [.tup [.str [105, 110, 116], .str [105, 110, 116]], .tup [.str [100, 101, 99, 105, 109, 97, 108], .str [100, 101, 99, 105, 109, 97, 108]]], .tup [.tup [.str [105, 110, 116], .str [105, 110, 116]], .tup [.str [100, 101, 99, 105, 109, 97, 108], .str [105, 110, 116]]], .tup [.tup [.str [116, 101, 120, 116], .str [116, 101, 120, 116]]], .tup [.tup [.str [116, 101, 120, 116], .str [116, 101, 120, 116]]], .tup [.tup [.str [116, 101, 120, 116], .str [116, 101, 120, 116]]], .tup [.tup [.str [116, 101, 120, 116], .str [105, 110, 116]]], .tup [.tup [.str [100, 97, 116, 101], .str [105, 110, 116]]], .tup [.tup [.str [100, 97, 116, 101], .str [105, 110, 116]]], .tup [.tup [.str [100, 97, 116, 101], .str [105, 110, 116]]], .tup [.tup [.str [100, 97, 116, 101], .str [105, 110, 116]]], .tup [.tup [.str [100, 97, 116, 101], .str [100, 97, 116, 101]]], .tup [.tup [.str [100, 97, 116, 101], .str [100, 97, 116, 101]]], .tup [.tup [.str [100, 97, 116, 101], .str [100, 97, 116, 101]]], .tup [.tup [.str [105, 110, 116], .str [100, 97, 116, 101]]], .tup [.tup [.str [105, 110, 116], .str [100, 101, 99, 105, 109, 97, 108]]], .tup [.tup [.str [105, 110, 116], .str [100, 101, 99, 105, 109, 97, 108]]], .tup [.tup [.str [100, 101, 99, 105, 109, 97, 108], .str [105, 110, 116]]], .tup [.tup [.str [105, 110, 116], .str [116, 101, 120, 116]]], .tup [.tup [.str [100, 97, 116, 101], .str [116, 101, 120, 116]]], .tup [.tup [.str [100, 101, 99, 105, 109, 97, 108], .str [116, 101, 120, 116]]], .tup [.tup [.str [116, 101, 120, 116], .str [105, 110, 116]]], .tup [.tup [.str [116, 101, 120, 116], .str [100, 97, 116, 101]]], .tup [.tup [.str [116, 101, 120, 116], .str [100, 101, 99, 105, 109, 97, 108]]]]
abbrev st_unary_kind : Stmt := topS 9
theorem sc_unary_kind : FnScope ["name", "kind", "needed", "result"] ["name", "kind"] (defScope st_unary_kind) := ⟨rfl, rfl, rfl, by decide +kernel, rfl, by decide +kernel, by decide +kernel⟩
def lb_unary_kind_1 : SM := zFg [2, 3] (zIfS 4 (zTst (zOp eqD (zVar 2) (zIx (zVar 1) (zC (.int 0))))) (zRet (zTup (zCons (zVar 3) (zCons (zOrV (zIx (zVar 1) (zC (.int 1))) (zOp inD (zVar 0) (zC c_OPEN))) (zNil))))) (zNx))
def b_unary_kind : SM := zSeq (zIfS 4 (zTst (zOp eqD (zVar 0) (zC (.str [105, 115, 32, 110, 117, 108, 108])))) (zRet (zTup (zCons (zC (.str [98, 111, 111, 108])) (zCons (zC (.bl false)) (zNil))))) (zNx)) (zSeq (zFor 4 (ziT (zTab kt_UNARY_KINDS dt_UNARY_KINDS (zVar 0))) (gT 2 (gCons' (gN 2) (gCons' (gN 3) (gNil')))) (lb_unary_kind_1)) (zRet (zC .non)))
def d_unary_kind : List D → Option FR := runP 4 2 b_unary_kind
set_option maxHeartbeats 4000000 in
theorem ok_unary_kind (h : DefAt K mg "unary_kind" st_unary_kind) (hc_OPEN : ConstD K mg "OPEN" c_OPEN) (t_UNARY_KINDS : TabK K mg "UNARY_KINDS" kt_UNARY_KINDS dt_UNARY_KINDS) : Cal P w K mg base 1 "unary_kind" (spP K d_unary_kind) := by
  obtain ⟨a, fd, h1, F⟩ := h
  exact ⟨a, fd, _, h1, F.kp, F.binds (ps := ["name", "kind"]) fun _ _ _ _ _ _ us hl => match us, hl with | [_, _], _ => rfl, okP F sc_unary_kind fun cdv A outer s0 H E hr =>
    zss_cons (zs_if (zt_cmp (o_eq hr) s_eq (ze_var rfl (pv 0)) (ze_str) (nomark _)) (zss_one (zs_ret (ze_tup (za_cons (ze_str) (za_cons (ze_bl) (za_nil)))))) (zss_nil)) (zss_cons (zs_for PassesOwn.never rfl (zi_tup (ze_tab t_UNARY_KINDS (ze_var rfl (pv 0)))) (zg_tup rfl (zgs_cons (zg_name (i := 2) sc_unary_kind.nd rfl (Or.inl rfl)) (zgs_cons (zg_name (i := 3) sc_unary_kind.nd rfl (Or.inl rfl)) (zgs_nil)))) (zss_fg (vs := [2, 3]) (zss_one (zs_if (zt_cmp (o_eq hr) s_eq (ze_var rfl (pv 2)) (ze_ix (ze_var rfl (pv 1)) (ze_int)) (nomark _)) (zss_one (zs_ret (ze_tup (za_cons (ze_var rfl (pv 3)) (za_cons (ze_or (ze_ix (ze_var rfl (pv 1)) (ze_int)) (ze_one (ze_cmp (o_in hr) s_in (ze_var rfl (pv 0)) (ze_cd hc_OPEN) (by rfl)))) (za_nil)))))) (zss_nil))))) (zss_one (zs_ret (ze_non))))⟩
abbrev kt_BINARY_KINDS : List (List Nat) := [[97, 110, 100], [111, 114], [97, 100, 100], [114, 101, 115, 116], [115, 117, 98, 116, 114, 97, 99, 116], [109, 117, 108, 116, 105, 112, 108, 121], [100, 105, 118, 105, 100, 101], [109, 117, 108, 116, 105, 112, 108, 121, 32, 100, 101, 99, 105, 109, 97, 108, 115], [100, 105, 118, 105, 100, 101, 32, 100, 101, 99, 105, 109, 97, 108, 115], [106, 111, 105, 110], [108, 105, 107, 101], [112, 111, 115, 105, 116, 105, 111, 110], [97, 100, 100, 32, 100, 97, 121, 115], [97, 100, 100, 32, 109, 111, 110, 116, 104, 115]]
abbrev dt_BINARY_KINDS : List D := [.tup [.tup [.str [98, 111, 111, 108], .str [98, 111, 111, 108], .str [98, 111, 111, 108]]], .tup [.tup [.str [98, 111, 111, 108], .str [98, 111, 111, 108], .str [98, 111, 111, 108]]], .tup [.tup [.str [105, 110, 116], .str [105, 110, 116], .str [105, 110, 116]], .tup [.str [100, 101, 99, 105, 109, 97, 108], .str [100, 101, 99, 105, 109, 97, 108], .str [100, 101, 99, 105, 109, 97, 108]]], .tup [.tup [.str [105, 110, 116], .str [105, 110, 116], .str [105, 110, 116]], .tup [.str [100, 101, 99, 105, 109, 97, 108], .str [100, 101, 99, 105, 109, 97, 108], .str [100, 101, 99, 105, 109, 97, 108]]], .tup [.tup [.str [105, 110, 116], .str [105, 110, 116], .str [105, 110, 116]], .tup [.str [100, 101, 99, 105, 109, 97, 108], .str [100, 101, 99, 105, 109, 97, 108], .str [100, 101, 99, 105, 109, 97, 108]], .tup [.str [100, 97, 116, 101], .str [100, 97, 116, 101], .str [105, 110, 116]]], .tup [.tup [.str [105, 110, 116], .str [105, 110, 116], .str [105, 110, 116]]], .tup [.tup [.str [105, 110, 116], .str [105, 110, 116], .str [105, 110, 116]]], .tup [.tup [.str [100, 101, 99, 105, 109, 97, 108], .str [100, 101, 99, 105, 109, 97, 108], .str [100, 101, 99, 105, 109, 97, 108]]], .tup [.tup [.str [100, 101, 99, 105, 109, 97, 108], .str [100, 101, 99, 105, 109, 97, 108], .str [100, 101, 99, 105, 109, 97, 108]]], .tup [.tup [.str [116, 101, 120, 116], .str [116, 101, 120, 116], .str [116, 101, 120, 116]]], .tup [.tup [.str [116, 101, 120, 116], .str [116, 101, 120, 116], .str [98, 111, 111, 108]]], .tup [.tup [.str [116, 101, 120, 116], .str [116, 101, 120, 116], .str [105, 110, 116]]], .tup [.tup [.str [100, 97, 116, 101], .str [105, 110, 116], .str [100, 97, 116, 101]]], .tup [.tup [.str [100, 97, 116, 101], .str [105, 110, 116], .str [100, 97, 116, 101]]]]
abbrev st_binary_kind : Stmt := topS 10
theorem sc_binary_kind : FnScope ["name", "first", "second", "nullable", "one", "other", "result"] ["name", "first", "second"] (defScope st_binary_kind) := ⟨rfl, rfl, rfl, by decide +kernel, rfl, by decide +kernel, by decide +kernel⟩
def lb_binary_kind_1 : SM := zFg [4, 5, 6] (zIfS 7 (zAndT (zTst (zOp eqD (zVar 4) (zIx (zVar 1) (zC (.int 0))))) (zTst (zOp eqD (zVar 5) (zIx (zVar 2) (zC (.int 0)))))) (zRet (zTup (zCons (zVar 6) (zCons (zOrV (zVar 3) (zOp inD (zVar 0) (zC c_OPEN))) (zNil))))) (zNx))
def b_binary_kind : SM := zSeq (zSet 7 3 (zOrV (zIx (zVar 1) (zC (.int 1))) (zIx (zVar 2) (zC (.int 1))))) (zSeq (zIfS 7 (zTst (zOp inD (zVar 0) (zTup (zCons (zC (.str [101, 113, 117, 97, 108])) (zCons (zC (.str [108, 101, 115, 115])) (zCons (zC (.str [97, 116, 32, 109, 111, 115, 116])) (zCons (zC (.str [115, 97, 109, 101])) (zCons (zC (.str [108, 101, 97, 115, 116])) (zCons (zC (.str [103, 114, 101, 97, 116, 101, 115, 116])) (zCons (zC (.str [99, 111, 97, 108, 101, 115, 99, 101])) (zNil))))))))))) (zSeq (zIfS 7 (zTst (zOp neqD (zIx (zVar 1) (zC (.int 0))) (zIx (zVar 2) (zC (.int 0))))) (zRet (zC .non)) (zNx)) (zSeq (zIfS 7 (zTst (zOp eqD (zVar 0) (zC (.str [115, 97, 109, 101])))) (zRet (zTup (zCons (zC (.str [98, 111, 111, 108])) (zCons (zC (.bl false)) (zNil))))) (zNx)) (zSeq (zIfS 7 (zTst (zOp eqD (zVar 0) (zC (.str [99, 111, 97, 108, 101, 115, 99, 101])))) (zRet (zTup (zCons (zIx (zVar 1) (zC (.int 0))) (zCons (zAndV (zIx (zVar 1) (zC (.int 1))) (zIx (zVar 2) (zC (.int 1)))) (zNil))))) (zNx)) (zSeq (zIfS 7 (zTst (zOp inD (zVar 0) (zTup (zCons (zC (.str [108, 101, 97, 115, 116])) (zCons (zC (.str [103, 114, 101, 97, 116, 101, 115, 116])) (zNil)))))) (zRet (zTup (zCons (zIx (zVar 1) (zC (.int 0))) (zCons (zVar 3) (zNil))))) (zNx)) (zRet (zTup (zCons (zC (.str [98, 111, 111, 108])) (zCons (zVar 3) (zNil))))))))) (zNx)) (zSeq (zFor 7 (ziT (zTab kt_BINARY_KINDS dt_BINARY_KINDS (zVar 0))) (gT 3 (gCons' (gN 4) (gCons' (gN 5) (gCons' (gN 6) (gNil'))))) (lb_binary_kind_1)) (zRet (zC .non))))
def d_binary_kind : List D → Option FR := runP 7 3 b_binary_kind
set_option maxHeartbeats 4000000 in
theorem ok_binary_kind (h : DefAt K mg "binary_kind" st_binary_kind) (hc_OPEN : ConstD K mg "OPEN" c_OPEN) (t_BINARY_KINDS : TabK K mg "BINARY_KINDS" kt_BINARY_KINDS dt_BINARY_KINDS) : Cal P w K mg base 1 "binary_kind" (spP K d_binary_kind) := by
  obtain ⟨a, fd, h1, F⟩ := h
  exact ⟨a, fd, _, h1, F.kp, F.binds (ps := ["name", "first", "second"]) fun _ _ _ _ _ _ us hl => match us, hl with | [_, _, _], _ => rfl, okP F sc_binary_kind fun cdv A outer s0 H E hr =>
    zss_cons (zs_set (i := 3) sc_binary_kind.nd rfl (Or.inl rfl) (ze_or (ze_ix (ze_var rfl (pv 1)) (ze_int)) (ze_one (ze_ix (ze_var rfl (pv 2)) (ze_int))))) (zss_cons (zs_if (zt_cmp (o_in hr) s_in (ze_var rfl (pv 0)) (ze_tup (za_cons (ze_str) (za_cons (ze_str) (za_cons (ze_str) (za_cons (ze_str) (za_cons (ze_str) (za_cons (ze_str) (za_cons (ze_str) (za_nil))))))))) (by rfl)) (zss_cons (zs_if (zt_cmp (o_ne hr) s_ne (ze_ix (ze_var rfl (pv 1)) (ze_int)) (ze_ix (ze_var rfl (pv 2)) (ze_int)) (nomark _)) (zss_one (zs_ret (ze_non))) (zss_nil)) (zss_cons (zs_if (zt_cmp (o_eq hr) s_eq (ze_var rfl (pv 0)) (ze_str) (nomark _)) (zss_one (zs_ret (ze_tup (za_cons (ze_str) (za_cons (ze_bl) (za_nil)))))) (zss_nil)) (zss_cons (zs_if (zt_cmp (o_eq hr) s_eq (ze_var rfl (pv 0)) (ze_str) (nomark _)) (zss_one (zs_ret (ze_tup (za_cons (ze_ix (ze_var rfl (pv 1)) (ze_int)) (za_cons (ze_and (ze_ix (ze_var rfl (pv 1)) (ze_int)) (ze_one (ze_ix (ze_var rfl (pv 2)) (ze_int)))) (za_nil)))))) (zss_nil)) (zss_cons (zs_if (zt_cmp (o_in hr) s_in (ze_var rfl (pv 0)) (ze_tup (za_cons (ze_str) (za_cons (ze_str) (za_nil)))) (by rfl)) (zss_one (zs_ret (ze_tup (za_cons (ze_ix (ze_var rfl (pv 1)) (ze_int)) (za_cons (ze_var rfl (pv 3)) (za_nil)))))) (zss_nil)) (zss_one (zs_ret (ze_tup (za_cons (ze_str) (za_cons (ze_var rfl (pv 3)) (za_nil)))))))))) (zss_nil)) (zss_cons (zs_for PassesOwn.never rfl (zi_tup (ze_tab t_BINARY_KINDS (ze_var rfl (pv 0)))) (zg_tup rfl (zgs_cons (zg_name (i := 4) sc_binary_kind.nd rfl (Or.inl rfl)) (zgs_cons (zg_name (i := 5) sc_binary_kind.nd rfl (Or.inl rfl)) (zgs_cons (zg_name (i := 6) sc_binary_kind.nd rfl (Or.inl rfl)) (zgs_nil))))) (zss_fg (vs := [4, 5, 6]) (zss_one (zs_if (zt_w (zw_and (zt_cmp (o_eq hr) s_eq (ze_var rfl (pv 4)) (ze_ix (ze_var rfl (pv 1)) (ze_int)) (nomark _)) (zw_and1 (zt_cmp (o_eq hr) s_eq (ze_var rfl (pv 5)) (ze_ix (ze_var rfl (pv 2)) (ze_int)) (nomark _))))) (zss_one (zs_ret (ze_tup (za_cons (ze_var rfl (pv 6)) (za_cons (ze_or (ze_var rfl (pv 3)) (ze_one (ze_cmp (o_in hr) s_in (ze_var rfl (pv 0)) (ze_cd hc_OPEN) (by rfl)))) (za_nil)))))) (zss_nil))))) (zss_one (zs_ret (ze_non)))))⟩
abbrev kt_TERNARY_KINDS : List (List Nat) := [[112, 97, 114, 116], [115, 112, 108, 105, 116], [112, 97, 100], [114, 101, 112, 108, 97, 99, 101]]
abbrev dt_TERNARY_KINDS : List D := [.tup [.str [116, 101, 120, 116], .str [105, 110, 116], .str [105, 110, 116]], .tup [.str [116, 101, 120, 116], .str [116, 101, 120, 116], .str [105, 110, 116]], .tup [.str [116, 101, 120, 116], .str [116, 101, 120, 116], .str [105, 110, 116]], .tup [.str [116, 101, 120, 116], .str [116, 101, 120, 116], .str [116, 101, 120, 116]]]
abbrev st_kind_of : Stmt := topS 12
theorem sc_kind_of : FnScope ["expression", "columns", "form", "kinds", "part", "kind"] ["expression", "columns"] (defScope st_kind_of) := ⟨rfl, rfl, rfl, by decide +kernel, rfl, by decide +kernel, by decide +kernel⟩
def b_kind_of (F : List D → Option FR) : SM := zSeq (zSet 6 2 (zIx (zVar 0) (zC (.int 0)))) (zSeq (zIfS 6 (zTst (zOp eqD (zVar 2) (zC (.str [99, 111, 110, 115, 116, 97, 110, 116])))) (zRet (zCall d_constant_kind (zCons (zIx (zVar 0) (zC (.int 1))) (zNil)))) (zNx)) (zSeq (zIfS 6 (zTst (zOp eqD (zVar 2) (zC (.str [99, 111, 108, 117, 109, 110])))) (zRet (zIf (zTst (zOp ltX (zIx (zVar 0) (zC (.int 1))) (zCallS lenD (zCons (zVar 1) (zNil))))) (zIx (zVar 1) (zIx (zVar 0) (zC (.int 1)))) (zC .non))) (zNx)) (zSeq (zIfS 6 (zTst (zOp eqD (zVar 2) (zC (.str [99, 104, 111, 105, 99, 101])))) (zRet (zCall (d_choice_kind F) (zCons (zVar 0) (zCons (zVar 1) (zNil))))) (zNx)) (zSeq (zSet 6 3 (zLc (ziT (zSl (zVar 0) (zoS (zC (.int 2))) (zoN))) (gN 4) (zYes) (zCall F (zCons (zVar 4) (zCons (zVar 1) (zNil)))) [4])) (zSeq (zIfS 6 (zTst (zOp inD (zC .non) (zVar 3))) (zRet (zC .non)) (zNx)) (zSeq (zIfS 6 (zTst (zOp eqD (zVar 2) (zC (.str [117, 110, 97, 114, 121])))) (zRet (zCall d_unary_kind (zCons (zIx (zVar 0) (zC (.int 1))) (zCons (zIx (zVar 3) (zC (.int 0))) (zNil))))) (zNx)) (zSeq (zIfS 6 (zTst (zOp eqD (zVar 2) (zC (.str [98, 105, 110, 97, 114, 121])))) (zRet (zCall d_binary_kind (zCons (zIx (zVar 0) (zC (.int 1))) (zCons (zIx (zVar 3) (zC (.int 0))) (zCons (zIx (zVar 3) (zC (.int 1))) (zNil)))))) (zNx)) (zSeq (zIfS 6 (zTst (zOp eqD (z_tuple (zCons (zLc (ziL 6 (zVar 3)) (gN 5) (zYes) (zIx (zVar 5) (zC (.int 0))) [5]) (zNil))) (zTab kt_TERNARY_KINDS dt_TERNARY_KINDS (zIx (zVar 0) (zC (.int 1)))))) (zRet (zTup (zCons (zC (.str [116, 101, 120, 116])) (zCons (zC (.bl true)) (zNil))))) (zNx)) (zRet (zC .non))))))))))
def d_kind_of : Nat → List D → Option FR
  | 0 => fun _ => none
  | q + 1 => runP 6 2 (b_kind_of (d_kind_of q))
set_option maxHeartbeats 4000000 in
theorem ok_kind_of (h : DefAt K mg "kind_of" st_kind_of) (hg_choice_kind : DefAt K mg "choice_kind" st_choice_kind) (m_len : mg "len" = none) (m_tuple : mg "tuple" = none) (t_TERNARY_KINDS : TabK K mg "TERNARY_KINDS" kt_TERNARY_KINDS dt_TERNARY_KINDS) (c_constant_kind : Cal P w K mg base 1 "constant_kind" (spP K d_constant_kind)) (c_unary_kind : Cal P w K mg base 1 "unary_kind" (spP K d_unary_kind)) (c_binary_kind : Cal P w K mg base 1 "binary_kind" (spP K d_binary_kind)) : ∀ q : Nat, Cal P w K mg base (2 + 2 * q) "kind_of" (spP K (d_kind_of q)) := by
  obtain ⟨a, fd, h1, F⟩ := h
  intro q
  induction q with
  | zero => exact ⟨a, fd, _, h1, F.kp, F.binds (ps := ["expression", "columns"]) fun _ _ _ _ _ _ us hl => match us, hl with | [_, _], _ => rfl, okN⟩
  | succ q cR =>
    have cG_choice_kind : Cal P w K mg base (2 + 2 * q + 1) "choice_kind" (spP K (d_choice_kind (d_kind_of q))) := ok_choice_kind hg_choice_kind  (d_kind_of q) (2 + 2 * q) (by omega) cR
    show Cal P w K mg base (2 + 2 * q + 1 + 1) "kind_of" (spP K (runP 6 2 (b_kind_of (d_kind_of q))))
    exact ⟨a, fd, _, h1, F.kp, F.binds (ps := ["expression", "columns"]) fun _ _ _ _ _ _ us hl => match us, hl with | [_, _], _ => rfl, okP F sc_kind_of fun cdv A outer s0 H E hr =>
    zss_cons (zs_set (i := 2) sc_kind_of.nd rfl (Or.inl rfl) (ze_ix (ze_var rfl (pv 0)) (ze_int))) (zss_cons (zs_if (zt_cmp (o_eq hr) s_eq (ze_var rfl (pv 2)) (ze_str) (nomark _)) (zss_one (zs_ret (ze_call (c_constant_kind.mono (by omega)) hr (za_cons (ze_ix (ze_var rfl (pv 0)) (ze_int)) (za_nil))))) (zss_nil)) (zss_cons (zs_if (zt_cmp (o_eq hr) s_eq (ze_var rfl (pv 2)) (ze_str) (nomark _)) (zss_one (zs_ret (ze_if (zt_cmp (o_ltX hr) s_ltX (ze_ix (ze_var rfl (pv 0)) (ze_int)) (ze_callB call_len s_len (by rfl) m_len PySem.boot_len (za_cons (ze_var rfl (pv 1)) (za_nil))) (nomark _)) (ze_ix (ze_var rfl (pv 1)) (ze_ix (ze_var rfl (pv 0)) (ze_int))) (ze_non)))) (zss_nil)) (zss_cons (zs_if (zt_cmp (o_eq hr) s_eq (ze_var rfl (pv 2)) (ze_str) (nomark _)) (zss_one (zs_ret (ze_call cG_choice_kind hr (za_cons (ze_var rfl (pv 0)) (za_cons (ze_var rfl (pv 1)) (za_nil)))))) (zss_nil)) (zss_cons (zs_setLc (i := 3) rfl rfl (sw_true rfl rfl rfl (by decide +kernel)) (own := [("part", 4)]) rfl sc_kind_of.nd (zi_tup (ze_sl (ze_var rfl (pv 0)) (zo_some (ze_int)) (zo_none))) (blkOk_by (N := ["expression", "columns", "form", "kinds", "part", "kind"]) (own := [("part", 4)]) (sc := defScope st_kind_of) (by decide +kernel)) (fun _ _ _ _ _ => zgw_name (i := 4) sc_kind_of.nd rfl (Or.inl rfl) (by decide)) (fun _ _ _ _ _ => zts_nil) (fun _ _ _ _ _ => ze_call (cR.mono (by omega)) hr (za_cons (ze_var rfl (pv 4)) (za_cons (ze_var rfl (pv 1)) (za_nil))))) (zss_cons (zs_if (zt_cmp (o_in hr) s_in (ze_non) (ze_var rfl (pv 3)) (by rfl)) (zss_one (zs_ret (ze_non))) (zss_nil)) (zss_cons (zs_if (zt_cmp (o_eq hr) s_eq (ze_var rfl (pv 2)) (ze_str) (nomark _)) (zss_one (zs_ret (ze_call (c_unary_kind.mono (by omega)) hr (za_cons (ze_ix (ze_var rfl (pv 0)) (ze_int)) (za_cons (ze_ix (ze_var rfl (pv 3)) (ze_int)) (za_nil)))))) (zss_nil)) (zss_cons (zs_if (zt_cmp (o_eq hr) s_eq (ze_var rfl (pv 2)) (ze_str) (nomark _)) (zss_one (zs_ret (ze_call (c_binary_kind.mono (by omega)) hr (za_cons (ze_ix (ze_var rfl (pv 0)) (ze_int)) (za_cons (ze_ix (ze_var rfl (pv 3)) (ze_int)) (za_cons (ze_ix (ze_var rfl (pv 3)) (ze_int)) (za_nil))))))) (zss_nil)) (zss_cons (zs_if (zt_cmp (o_eq hr) s_eq (ze_tuple hr (by rfl) m_tuple (za_cons (ze_lc (own := [("kind", 5)]) rfl sc_kind_of.nd (zi_list (ze_var rfl (pv 3))) (blkOk_by (N := ["expression", "columns", "form", "kinds", "part", "kind"]) (own := [("kind", 5)]) (sc := defScope st_kind_of) (by decide +kernel)) (fun _ _ _ _ _ => zgw_name (i := 5) sc_kind_of.nd rfl (Or.inl rfl) (by decide)) (fun _ _ _ _ _ => zts_nil) (fun _ _ _ _ _ => ze_ix (ze_var rfl (pv 5)) (ze_int))) (za_nil))) (ze_tab t_TERNARY_KINDS (ze_ix (ze_var rfl (pv 0)) (ze_int))) (nomark _)) (zss_one (zs_ret (ze_tup (za_cons (ze_str) (za_cons (ze_bl) (za_nil)))))) (zss_nil)) (zss_one (zs_ret (ze_non)))))))))))⟩
abbrev st__law_text : Stmt := topS 19
theorem sc__law_text : FnScope ["_law_number", "_law_size", "_law_signs", "_law_few", "_law_word", "_law_rest", "_law_k"] ["_law_number", "_law_size"] (defScope st__law_text) := ⟨rfl, rfl, rfl, by decide +kernel, rfl, by decide +kernel, by decide +kernel⟩
def lb__law_text_1 : SM := zFg [6] (zIfS 7 (zTst (zOp eqD (zOp modD (zCallS intU (zCons (zVar 0) (zNil))) (zC (.int 3))) (zC (.int 0)))) (zSeq (zApp 7 (zVar 4) (zIx (zVar 2) (zOp modD (zCallS intU (zCons (zVar 5) (zNil))) (zC (.int 94))))) (zSet 7 5 (zOp addS (zOp divD (zVar 5) (zC (.int 94))) (zOp mulD (zC (.int 7)) (zVar 6))))) (zSeq (zApp 7 (zVar 4) (zIx (zVar 3) (zOp modD (zCallS intU (zCons (zVar 5) (zNil))) (zC (.int 10))))) (zSet 7 5 (zOp addS (zOp divD (zVar 5) (zC (.int 10))) (zOp mulD (zC (.int 7)) (zVar 6))))))
def b__law_text : SM := zSeq (zSet 7 2 (zC (.str [32, 33, 34, 35, 36, 38, 39, 40, 41, 42, 43, 44, 45, 46, 47, 48, 49, 50, 51, 52, 53, 54, 55, 56, 57, 58, 59, 60, 61, 62, 63, 64, 65, 66, 67, 68, 69, 70, 71, 72, 73, 74, 75, 76, 77, 78, 79, 80, 81, 82, 83, 84, 85, 86, 87, 88, 89, 90, 91, 92, 93, 94, 95, 96, 97, 98, 99, 100, 101, 102, 103, 104, 105, 106, 107, 108, 109, 110, 111, 112, 113, 114, 115, 116, 117, 118, 119, 120, 121, 122, 123, 124, 125, 126]))) (zSeq (zSet 7 3 (zC (.str [97, 98, 42, 63, 92, 32, 45, 39, 34, 65]))) (zSeq (zSet 7 4 (zLst (zNil))) (zSeq (zSet 7 5 (zOp divD (zCallS intU (zCons (zVar 0) (zNil))) (zC (.int 3)))) (zSeq (zFor 7 (ziR1 (zCons (zVar 1) (zNil))) (gN 6) (lb__law_text_1)) (zRet (zMt "str" joinD (zC (.str [])) (zCons (zVar 4) (zNil))))))))
def d__law_text : List D → Option FR := runP 7 2 b__law_text
set_option maxHeartbeats 4000000 in
theorem ok__law_text (h : DefAt K mg "_law_text" st__law_text) (m_int : mg "int" = none) (m_range : mg "range" = none) : Cal P w K mg base 1 "_law_text" (spP K d__law_text) := by
  obtain ⟨a, fd, h1, F⟩ := h
  exact ⟨a, fd, _, h1, F.kp, F.binds (ps := ["_law_number", "_law_size"]) fun _ _ _ _ _ _ us hl => match us, hl with | [_, _], _ => rfl, okP F sc__law_text fun cdv A outer s0 H E hr =>
    zss_cons (zs_set (i := 2) sc__law_text.nd rfl (Or.inl rfl) (ze_str)) (zss_cons (zs_set (i := 3) sc__law_text.nd rfl (Or.inl rfl) (ze_str)) (zss_cons (zs_set (i := 4) sc__law_text.nd rfl (Or.inl rfl) (ze_lst (za_nil))) (zss_cons (zs_set (i := 5) sc__law_text.nd rfl (Or.inl rfl) (ze_op o_div s_div (ze_callTy call_intU s_intU (by rfl) m_int (by decide +kernel) (za_cons (ze_var rfl (pv 0)) (za_nil))) (ze_int))) (zss_cons (zs_for PassesOwn.never rfl (zi_range1 (by rfl) m_range (za_cons (ze_var rfl (pv 1)) (za_nil))) (zg_name (i := 6) sc__law_text.nd rfl (Or.inl rfl)) (zss_fg (vs := [6]) (zss_one (zs_if (zt_cmp (o_eq hr) s_eq (ze_op o_mod s_mod (ze_callTy call_intU s_intU (by rfl) m_int (by decide +kernel) (za_cons (ze_var rfl (pv 0)) (za_nil))) (ze_int)) (ze_int) (nomark _)) (zss_cons (zs_app (ze_var rfl (pv 4)) (ze_ix (ze_var rfl (pv 2)) (ze_op o_mod s_mod (ze_callTy call_intU s_intU (by rfl) m_int (by decide +kernel) (za_cons (ze_var rfl (pv 5)) (za_nil))) (ze_int)))) (zss_one (zs_set (i := 5) sc__law_text.nd rfl (Or.inl rfl) (ze_op o_add s_add (ze_op o_div s_div (ze_var rfl (pv 5)) (ze_int)) (ze_op o_mul s_mul (ze_int) (ze_var rfl (pv 6))))))) (zss_cons (zs_app (ze_var rfl (pv 4)) (ze_ix (ze_var rfl (pv 3)) (ze_op o_mod s_mod (ze_callTy call_intU s_intU (by rfl) m_int (by decide +kernel) (za_cons (ze_var rfl (pv 5)) (za_nil))) (ze_int)))) (zss_one (zs_set (i := 5) sc__law_text.nd rfl (Or.inl rfl) (ze_op o_add s_add (ze_op o_div s_div (ze_var rfl (pv 5)) (ze_int)) (ze_op o_mul s_mul (ze_int) (ze_var rfl (pv 6))))))))))) (zss_one (zs_ret (ze_mt PySem.F.plainAttrs_str PySem.F.slot_str_join PySem.F.type_str_join mt_join s_join (ze_str) (za_cons (ze_var rfl (pv 4)) (za_nil)))))))))⟩
abbrev st__law_value : Stmt := topS 20
theorem sc__law_value : FnScope ["_law_number", "_law_rest", "_law_choice"] ["_law_number"] (defScope st__law_value) := ⟨rfl, rfl, rfl, by decide +kernel, rfl, by decide +kernel, by decide +kernel⟩
def b__law_value : SM := zSeq (zSet 3 1 (zOp divD (zCallS intU (zCons (zVar 0) (zNil))) (zC (.int 8)))) (zSeq (zSet 3 2 (zOp modD (zCallS intU (zCons (zVar 0) (zNil))) (zC (.int 8)))) (zSeq (zIfS 3 (zTst (zOp eqD (zVar 2) (zC (.int 0)))) (zRet (zC .non)) (zNx)) (zSeq (zIfS 3 (zTst (zOp eqD (zVar 2) (zC (.int 1)))) (zRet (zOp eqD (zOp modD (zVar 1) (zC (.int 2))) (zC (.int 0)))) (zNx)) (zSeq (zIfS 3 (zTst (zOp eqD (zVar 2) (zC (.int 2)))) (zRet (zOp subD (zOp modD (zCallS intU (zCons (zVar 1) (zNil))) (zC (.int 3))) (zC (.int 1)))) (zNx)) (zSeq (zIfS 3 (zTst (zOp eqD (zVar 2) (zC (.int 3)))) (zRet (zOp subD (zOp modD (zCallS intU (zCons (zVar 1) (zNil))) (zC (.int 2000000000000001))) (zC (.int 1000000000000000)))) (zNx)) (zSeq (zIfS 3 (zTst (zOp eqD (zVar 2) (zC (.int 4)))) (zRet (zOp subD (zOp modD (zCallS intU (zCons (zVar 1) (zNil))) (zC (.int 3652059))) (zC (.int 719162)))) (zNx)) (zSeq (zIfS 3 (zTst (zOp eqD (zVar 2) (zC (.int 5)))) (zRet (zOp subD (zOp modD (zCallS intU (zCons (zVar 1) (zNil))) (zC (.int 40))) (zC (.int 20)))) (zNx)) (zRet (zCall d__law_text (zCons (zOp divD (zVar 1) (zC (.int 13))) (zCons (zOp modD (zCallS intU (zCons (zVar 1) (zNil))) (zC (.int 13))) (zNil))))))))))))
def d__law_value : List D → Option FR := runP 3 1 b__law_value
set_option maxHeartbeats 4000000 in
theorem ok__law_value (h : DefAt K mg "_law_value" st__law_value) (m_int : mg "int" = none) (c__law_text : Cal P w K mg base 1 "_law_text" (spP K d__law_text)) : Cal P w K mg base 2 "_law_value" (spP K d__law_value) := by
  obtain ⟨a, fd, h1, F⟩ := h
  exact ⟨a, fd, _, h1, F.kp, F.binds (ps := ["_law_number"]) fun _ _ _ _ _ _ us hl => match us, hl with | [_], _ => rfl, okP F sc__law_value fun cdv A outer s0 H E hr =>
    zss_cons (zs_set (i := 1) sc__law_value.nd rfl (Or.inl rfl) (ze_op o_div s_div (ze_callTy call_intU s_intU (by rfl) m_int (by decide +kernel) (za_cons (ze_var rfl (pv 0)) (za_nil))) (ze_int))) (zss_cons (zs_set (i := 2) sc__law_value.nd rfl (Or.inl rfl) (ze_op o_mod s_mod (ze_callTy call_intU s_intU (by rfl) m_int (by decide +kernel) (za_cons (ze_var rfl (pv 0)) (za_nil))) (ze_int))) (zss_cons (zs_if (zt_cmp (o_eq hr) s_eq (ze_var rfl (pv 2)) (ze_int) (nomark _)) (zss_one (zs_ret (ze_non))) (zss_nil)) (zss_cons (zs_if (zt_cmp (o_eq hr) s_eq (ze_var rfl (pv 2)) (ze_int) (nomark _)) (zss_one (zs_ret (ze_cmp (o_eq hr) s_eq (ze_op o_mod s_mod (ze_var rfl (pv 1)) (ze_int)) (ze_int) (nomark _)))) (zss_nil)) (zss_cons (zs_if (zt_cmp (o_eq hr) s_eq (ze_var rfl (pv 2)) (ze_int) (nomark _)) (zss_one (zs_ret (ze_op op_sub s_sub (ze_op o_mod s_mod (ze_callTy call_intU s_intU (by rfl) m_int (by decide +kernel) (za_cons (ze_var rfl (pv 1)) (za_nil))) (ze_int)) (ze_int)))) (zss_nil)) (zss_cons (zs_if (zt_cmp (o_eq hr) s_eq (ze_var rfl (pv 2)) (ze_int) (nomark _)) (zss_one (zs_ret (ze_op op_sub s_sub (ze_op o_mod s_mod (ze_callTy call_intU s_intU (by rfl) m_int (by decide +kernel) (za_cons (ze_var rfl (pv 1)) (za_nil))) (ze_int)) (ze_int)))) (zss_nil)) (zss_cons (zs_if (zt_cmp (o_eq hr) s_eq (ze_var rfl (pv 2)) (ze_int) (nomark _)) (zss_one (zs_ret (ze_op op_sub s_sub (ze_op o_mod s_mod (ze_callTy call_intU s_intU (by rfl) m_int (by decide +kernel) (za_cons (ze_var rfl (pv 1)) (za_nil))) (ze_int)) (ze_int)))) (zss_nil)) (zss_cons (zs_if (zt_cmp (o_eq hr) s_eq (ze_var rfl (pv 2)) (ze_int) (nomark _)) (zss_one (zs_ret (ze_op op_sub s_sub (ze_op o_mod s_mod (ze_callTy call_intU s_intU (by rfl) m_int (by decide +kernel) (za_cons (ze_var rfl (pv 1)) (za_nil))) (ze_int)) (ze_int)))) (zss_nil)) (zss_one (zs_ret (ze_call (c__law_text.mono (by decide)) hr (za_cons (ze_op o_div s_div (ze_var rfl (pv 1)) (ze_int)) (za_cons (ze_op o_mod s_mod (ze_callTy call_intU s_intU (by rfl) m_int (by decide +kernel) (za_cons (ze_var rfl (pv 1)) (za_nil))) (ze_int)) (za_nil)))))))))))))⟩
abbrev st__law_expression : Stmt := topS 21
theorem sc__law_expression : FnScope ["_law_number", "_law_depth", "_law_width", "_law_choice", "_law_rest", "_law_one", "_law_other", "_law_third"] ["_law_number", "_law_depth", "_law_width"] (defScope st__law_expression) := ⟨rfl, rfl, rfl, by decide +kernel, rfl, by decide +kernel, by decide +kernel⟩
def b__law_expression (F : List D → Option FR) : SM := zSeq (zSet 8 3 (zOp modD (zCallS intU (zCons (zVar 0) (zNil))) (zC (.int 9)))) (zSeq (zSet 8 4 (zOp divD (zVar 0) (zC (.int 9)))) (zSeq (zIfS 8 (zOrT (zTst (zOp eqD (zVar 1) (zC (.int 0)))) (zTst (zOp eqD (zVar 3) (zC (.int 0))))) (zSeq (zIfS 8 (zTst (zOp eqD (zOp modD (zCallS intU (zCons (zVar 4) (zNil))) (zC (.int 3))) (zC (.int 0)))) (zRet (zTup (zCons (zC (.str [99, 111, 110, 115, 116, 97, 110, 116])) (zCons (zCall d__law_value (zCons (zOp divD (zVar 4) (zC (.int 3))) (zNil))) (zNil))))) (zNx)) (zRet (zTup (zCons (zC (.str [99, 111, 108, 117, 109, 110])) (zCons (zOp modD (zOp divD (zCallS intU (zCons (zVar 4) (zNil))) (zC (.int 3))) (zVar 2)) (zNil)))))) (zNx)) (zSeq (zSet 8 5 (zCall F (zCons (zOp addS (zOp divD (zVar 4) (zC (.int 64))) (zC (.int 11))) (zCons (zOp subD (zVar 1) (zC (.int 1))) (zCons (zVar 2) (zNil)))))) (zSeq (zIfS 8 (zTst (zOp leD (zVar 3) (zC (.int 2)))) (zRet (zTup (zCons (zC (.str [117, 110, 97, 114, 121])) (zCons (zIx (zC c_UNARY) (zOp modD (zCallS intU (zCons (zVar 4) (zNil))) (zC (.int 26)))) (zCons (zVar 5) (zNil)))))) (zNx)) (zSeq (zSet 8 6 (zCall F (zCons (zOp addS (zOp divD (zVar 4) (zC (.int 4096))) (zC (.int 23))) (zCons (zOp subD (zVar 1) (zC (.int 1))) (zCons (zVar 2) (zNil)))))) (zSeq (zIfS 8 (zTst (zOp leD (zVar 3) (zC (.int 6)))) (zRet (zTup (zCons (zC (.str [98, 105, 110, 97, 114, 121])) (zCons (zIx (zC c_BINARY) (zOp modD (zCallS intU (zCons (zVar 4) (zNil))) (zC (.int 21)))) (zCons (zVar 5) (zCons (zVar 6) (zNil))))))) (zNx)) (zSeq (zSet 8 7 (zCall F (zCons (zOp addS (zOp divD (zVar 4) (zC (.int 262144))) (zC (.int 37))) (zCons (zOp subD (zVar 1) (zC (.int 1))) (zCons (zVar 2) (zNil)))))) (zSeq (zIfS 8 (zTst (zOp eqD (zVar 3) (zC (.int 7)))) (zRet (zTup (zCons (zC (.str [116, 101, 114, 110, 97, 114, 121])) (zCons (zIx (zC c_TERNARY) (zOp modD (zCallS intU (zCons (zVar 4) (zNil))) (zC (.int 4)))) (zCons (zVar 5) (zCons (zVar 6) (zCons (zVar 7) (zNil)))))))) (zNx)) (zRet (zTup (zCons (zC (.str [99, 104, 111, 105, 99, 101])) (zCons (zVar 5) (zCons (zVar 6) (zCons (zVar 7) (zNil)))))))))))))))
def d__law_expression : Nat → List D → Option FR
  | 0 => fun _ => none
  | q + 1 => runP 8 3 (b__law_expression (d__law_expression q))
set_option maxHeartbeats 4000000 in
theorem ok__law_expression (h : DefAt K mg "_law_expression" st__law_expression) (m_int : mg "int" = none) (hc_UNARY : ConstD K mg "UNARY" c_UNARY) (hc_BINARY : ConstD K mg "BINARY" c_BINARY) (hc_TERNARY : ConstD K mg "TERNARY" c_TERNARY) (c__law_value : Cal P w K mg base 2 "_law_value" (spP K d__law_value)) : ∀ q : Nat, Cal P w K mg base (3 + q) "_law_expression" (spP K (d__law_expression q)) := by
  obtain ⟨a, fd, h1, F⟩ := h
  intro q
  induction q with
  | zero => exact ⟨a, fd, _, h1, F.kp, F.binds (ps := ["_law_number", "_law_depth", "_law_width"]) fun _ _ _ _ _ _ us hl => match us, hl with | [_, _, _], _ => rfl, okN⟩
  | succ q cR =>
    show Cal P w K mg base (3 + q + 1) "_law_expression" (spP K (runP 8 3 (b__law_expression (d__law_expression q))))
    exact ⟨a, fd, _, h1, F.kp, F.binds (ps := ["_law_number", "_law_depth", "_law_width"]) fun _ _ _ _ _ _ us hl => match us, hl with | [_, _, _], _ => rfl, okP F sc__law_expression fun cdv A outer s0 H E hr =>
    zss_cons (zs_set (i := 3) sc__law_expression.nd rfl (Or.inl rfl) (ze_op o_mod s_mod (ze_callTy call_intU s_intU (by rfl) m_int (by decide +kernel) (za_cons (ze_var rfl (pv 0)) (za_nil))) (ze_int))) (zss_cons (zs_set (i := 4) sc__law_expression.nd rfl (Or.inl rfl) (ze_op o_div s_div (ze_var rfl (pv 0)) (ze_int))) (zss_cons (zs_if (zt_w (zw_or (zt_cmp (o_eq hr) s_eq (ze_var rfl (pv 1)) (ze_int) (nomark _)) (zw_or1 (zt_cmp (o_eq hr) s_eq (ze_var rfl (pv 3)) (ze_int) (nomark _))))) (zss_cons (zs_if (zt_cmp (o_eq hr) s_eq (ze_op o_mod s_mod (ze_callTy call_intU s_intU (by rfl) m_int (by decide +kernel) (za_cons (ze_var rfl (pv 4)) (za_nil))) (ze_int)) (ze_int) (nomark _)) (zss_one (zs_ret (ze_tup (za_cons (ze_str) (za_cons (ze_call (c__law_value.mono (by omega)) hr (za_cons (ze_op o_div s_div (ze_var rfl (pv 4)) (ze_int)) (za_nil))) (za_nil)))))) (zss_nil)) (zss_one (zs_ret (ze_tup (za_cons (ze_str) (za_cons (ze_op o_mod s_mod (ze_op o_div s_div (ze_callTy call_intU s_intU (by rfl) m_int (by decide +kernel) (za_cons (ze_var rfl (pv 4)) (za_nil))) (ze_int)) (ze_var rfl (pv 2))) (za_nil))))))) (zss_nil)) (zss_cons (zs_set (i := 5) sc__law_expression.nd rfl (Or.inl rfl) (ze_call cR hr (za_cons (ze_op o_add s_add (ze_op o_div s_div (ze_var rfl (pv 4)) (ze_int)) (ze_int)) (za_cons (ze_op op_sub s_sub (ze_var rfl (pv 1)) (ze_int)) (za_cons (ze_var rfl (pv 2)) (za_nil)))))) (zss_cons (zs_if (zt_cmp o_le s_le (ze_var rfl (pv 3)) (ze_int) (nomark _)) (zss_one (zs_ret (ze_tup (za_cons (ze_str) (za_cons (ze_ix (ze_cd hc_UNARY) (ze_op o_mod s_mod (ze_callTy call_intU s_intU (by rfl) m_int (by decide +kernel) (za_cons (ze_var rfl (pv 4)) (za_nil))) (ze_int))) (za_cons (ze_var rfl (pv 5)) (za_nil))))))) (zss_nil)) (zss_cons (zs_set (i := 6) sc__law_expression.nd rfl (Or.inl rfl) (ze_call cR hr (za_cons (ze_op o_add s_add (ze_op o_div s_div (ze_var rfl (pv 4)) (ze_int)) (ze_int)) (za_cons (ze_op op_sub s_sub (ze_var rfl (pv 1)) (ze_int)) (za_cons (ze_var rfl (pv 2)) (za_nil)))))) (zss_cons (zs_if (zt_cmp o_le s_le (ze_var rfl (pv 3)) (ze_int) (nomark _)) (zss_one (zs_ret (ze_tup (za_cons (ze_str) (za_cons (ze_ix (ze_cd hc_BINARY) (ze_op o_mod s_mod (ze_callTy call_intU s_intU (by rfl) m_int (by decide +kernel) (za_cons (ze_var rfl (pv 4)) (za_nil))) (ze_int))) (za_cons (ze_var rfl (pv 5)) (za_cons (ze_var rfl (pv 6)) (za_nil)))))))) (zss_nil)) (zss_cons (zs_set (i := 7) sc__law_expression.nd rfl (Or.inl rfl) (ze_call cR hr (za_cons (ze_op o_add s_add (ze_op o_div s_div (ze_var rfl (pv 4)) (ze_int)) (ze_int)) (za_cons (ze_op op_sub s_sub (ze_var rfl (pv 1)) (ze_int)) (za_cons (ze_var rfl (pv 2)) (za_nil)))))) (zss_cons (zs_if (zt_cmp (o_eq hr) s_eq (ze_var rfl (pv 3)) (ze_int) (nomark _)) (zss_one (zs_ret (ze_tup (za_cons (ze_str) (za_cons (ze_ix (ze_cd hc_TERNARY) (ze_op o_mod s_mod (ze_callTy call_intU s_intU (by rfl) m_int (by decide +kernel) (za_cons (ze_var rfl (pv 4)) (za_nil))) (ze_int))) (za_cons (ze_var rfl (pv 5)) (za_cons (ze_var rfl (pv 6)) (za_cons (ze_var rfl (pv 7)) (za_nil))))))))) (zss_nil)) (zss_one (zs_ret (ze_tup (za_cons (ze_str) (za_cons (ze_var rfl (pv 5)) (za_cons (ze_var rfl (pv 6)) (za_cons (ze_var rfl (pv 7)) (za_nil))))))))))))))))⟩
abbrev st__law_drawn : Stmt := topS 22
theorem sc__law_drawn : FnScope ["_law_numbers_here", "_law_at", "_law_depth", "_law_width", "_law_first", "_law_second", "_law_third", "_law_choice", "_law_rest"] ["_law_numbers_here", "_law_at", "_law_depth", "_law_width"] (defScope st__law_drawn) := ⟨rfl, rfl, rfl, by decide +kernel, rfl, by decide +kernel, by decide +kernel⟩
def b__law_drawn : SM := zSeq (zSet 9 4 (zCall (d__law_expression 40) (zCons (zIx (zVar 0) (zVar 1)) (zCons (zVar 2) (zCons (zVar 3) (zNil)))))) (zSeq (zSet 9 5 (zCall (d__law_expression 40) (zCons (zIx (zVar 0) (zOp addS (zVar 1) (zC (.int 1)))) (zCons (zOp subD (zVar 2) (zC (.int 1))) (zCons (zVar 3) (zNil)))))) (zSeq (zSet 9 6 (zCall (d__law_expression 40) (zCons (zIx (zVar 0) (zOp addS (zVar 1) (zC (.int 2)))) (zCons (zOp subD (zVar 2) (zC (.int 1))) (zCons (zVar 3) (zNil)))))) (zSeq (zSet 9 7 (zOp modD (zCallS intU (zCons (zIx (zVar 0) (zOp addS (zVar 1) (zC (.int 3)))) (zNil))) (zC (.int 6)))) (zSeq (zSet 9 8 (zOp divD (zCallS intU (zCons (zIx (zVar 0) (zOp addS (zVar 1) (zC (.int 3)))) (zNil))) (zC (.int 6)))) (zSeq (zIfS 9 (zTst (zOp leD (zVar 7) (zC (.int 1)))) (zRet (zVar 4)) (zNx)) (zSeq (zIfS 9 (zTst (zOp eqD (zVar 7) (zC (.int 2)))) (zRet (zTup (zCons (zC (.str [117, 110, 97, 114, 121])) (zCons (zIx (zC c_UNARY) (zOp modD (zVar 8) (zC (.int 26)))) (zCons (zVar 4) (zNil)))))) (zNx)) (zSeq (zIfS 9 (zTst (zOp eqD (zVar 7) (zC (.int 3)))) (zRet (zTup (zCons (zC (.str [99, 104, 111, 105, 99, 101])) (zCons (zVar 5) (zCons (zVar 4) (zCons (zVar 6) (zNil))))))) (zNx)) (zSeq (zIfS 9 (zTst (zOp eqD (zVar 7) (zC (.int 4)))) (zRet (zTup (zCons (zC (.str [116, 101, 114, 110, 97, 114, 121])) (zCons (zIx (zC c_TERNARY) (zOp modD (zVar 8) (zC (.int 4)))) (zCons (zVar 4) (zCons (zVar 5) (zCons (zVar 6) (zNil)))))))) (zNx)) (zRet (zTup (zCons (zC (.str [98, 105, 110, 97, 114, 121])) (zCons (zIx (zC c_BINARY) (zOp modD (zVar 8) (zC (.int 21)))) (zCons (zVar 4) (zCons (zVar 5) (zNil)))))))))))))))
def d__law_drawn : List D → Option FR := runP 9 4 b__law_drawn
set_option maxHeartbeats 4000000 in
theorem ok__law_drawn (h : DefAt K mg "_law_drawn" st__law_drawn) (m_int : mg "int" = none) (hc_BINARY : ConstD K mg "BINARY" c_BINARY) (hc_UNARY : ConstD K mg "UNARY" c_UNARY) (hc_TERNARY : ConstD K mg "TERNARY" c_TERNARY) (c__law_expression : Cal P w K mg base 43 "_law_expression" (spP K (d__law_expression 40))) : Cal P w K mg base 44 "_law_drawn" (spP K d__law_drawn) := by
  obtain ⟨a, fd, h1, F⟩ := h
  exact ⟨a, fd, _, h1, F.kp, F.binds (ps := ["_law_numbers_here", "_law_at", "_law_depth", "_law_width"]) fun _ _ _ _ _ _ us hl => match us, hl with | [_, _, _, _], _ => rfl, okP F sc__law_drawn fun cdv A outer s0 H E hr =>
    zss_cons (zs_set (i := 4) sc__law_drawn.nd rfl (Or.inl rfl) (ze_call (c__law_expression.mono (by decide)) hr (za_cons (ze_ix (ze_var rfl (pv 0)) (ze_var rfl (pv 1))) (za_cons (ze_var rfl (pv 2)) (za_cons (ze_var rfl (pv 3)) (za_nil)))))) (zss_cons (zs_set (i := 5) sc__law_drawn.nd rfl (Or.inl rfl) (ze_call (c__law_expression.mono (by decide)) hr (za_cons (ze_ix (ze_var rfl (pv 0)) (ze_op o_add s_add (ze_var rfl (pv 1)) (ze_int))) (za_cons (ze_op op_sub s_sub (ze_var rfl (pv 2)) (ze_int)) (za_cons (ze_var rfl (pv 3)) (za_nil)))))) (zss_cons (zs_set (i := 6) sc__law_drawn.nd rfl (Or.inl rfl) (ze_call (c__law_expression.mono (by decide)) hr (za_cons (ze_ix (ze_var rfl (pv 0)) (ze_op o_add s_add (ze_var rfl (pv 1)) (ze_int))) (za_cons (ze_op op_sub s_sub (ze_var rfl (pv 2)) (ze_int)) (za_cons (ze_var rfl (pv 3)) (za_nil)))))) (zss_cons (zs_set (i := 7) sc__law_drawn.nd rfl (Or.inl rfl) (ze_op o_mod s_mod (ze_callTy call_intU s_intU (by rfl) m_int (by decide +kernel) (za_cons (ze_ix (ze_var rfl (pv 0)) (ze_op o_add s_add (ze_var rfl (pv 1)) (ze_int))) (za_nil))) (ze_int))) (zss_cons (zs_set (i := 8) sc__law_drawn.nd rfl (Or.inl rfl) (ze_op o_div s_div (ze_callTy call_intU s_intU (by rfl) m_int (by decide +kernel) (za_cons (ze_ix (ze_var rfl (pv 0)) (ze_op o_add s_add (ze_var rfl (pv 1)) (ze_int))) (za_nil))) (ze_int))) (zss_cons (zs_if (zt_cmp o_le s_le (ze_var rfl (pv 7)) (ze_int) (nomark _)) (zss_one (zs_ret (ze_var rfl (pv 4)))) (zss_nil)) (zss_cons (zs_if (zt_cmp (o_eq hr) s_eq (ze_var rfl (pv 7)) (ze_int) (nomark _)) (zss_one (zs_ret (ze_tup (za_cons (ze_str) (za_cons (ze_ix (ze_cd hc_UNARY) (ze_op o_mod s_mod (ze_var rfl (pv 8)) (ze_int))) (za_cons (ze_var rfl (pv 4)) (za_nil))))))) (zss_nil)) (zss_cons (zs_if (zt_cmp (o_eq hr) s_eq (ze_var rfl (pv 7)) (ze_int) (nomark _)) (zss_one (zs_ret (ze_tup (za_cons (ze_str) (za_cons (ze_var rfl (pv 5)) (za_cons (ze_var rfl (pv 4)) (za_cons (ze_var rfl (pv 6)) (za_nil)))))))) (zss_nil)) (zss_cons (zs_if (zt_cmp (o_eq hr) s_eq (ze_var rfl (pv 7)) (ze_int) (nomark _)) (zss_one (zs_ret (ze_tup (za_cons (ze_str) (za_cons (ze_ix (ze_cd hc_TERNARY) (ze_op o_mod s_mod (ze_var rfl (pv 8)) (ze_int))) (za_cons (ze_var rfl (pv 4)) (za_cons (ze_var rfl (pv 5)) (za_cons (ze_var rfl (pv 6)) (za_nil))))))))) (zss_nil)) (zss_one (zs_ret (ze_tup (za_cons (ze_str) (za_cons (ze_ix (ze_cd hc_BINARY) (ze_op o_mod s_mod (ze_var rfl (pv 8)) (ze_int))) (za_cons (ze_var rfl (pv 4)) (za_cons (ze_var rfl (pv 5)) (za_nil))))))))))))))))⟩
abbrev st__law_leaf : Stmt := topS 23
theorem sc__law_leaf : FnScope ["_law_kind_here", "_law_number", "_law_columns", "_law_found", "_law_rest", "_law_k"] ["_law_kind_here", "_law_number", "_law_columns"] (defScope st__law_leaf) := ⟨rfl, rfl, rfl, by decide +kernel, rfl, by decide +kernel, by decide +kernel⟩
def b__law_leaf : SM := zSeq (zSet 6 3 (zLc (ziR1 (zCons (zCallS lenD (zCons (zVar 2) (zNil))) (zNil))) (gN 5) (zTst (zOp eqD (zIx (zIx (zVar 2) (zVar 5)) (zC (.int 0))) (zVar 0))) (zVar 5) [5])) (zSeq (zIfS 6 (zAndT (zTst (zOp gtD (zCallS lenD (zCons (zVar 3) (zNil))) (zC (.int 0)))) (zTst (zOp gtD (zOp modD (zCallS intU (zCons (zVar 1) (zNil))) (zC (.int 3))) (zC (.int 0))))) (zRet (zTup (zCons (zC (.str [99, 111, 108, 117, 109, 110])) (zCons (zIx (zVar 3) (zOp modD (zOp divD (zCallS intU (zCons (zVar 1) (zNil))) (zC (.int 3))) (zCallS lenD (zCons (zVar 3) (zNil))))) (zNil))))) (zNx)) (zSeq (zSet 6 4 (zOp divD (zCallS intU (zCons (zVar 1) (zNil))) (zC (.int 9)))) (zSeq (zIfS 6 (zTst (zOp eqD (zVar 0) (zC (.str [98, 111, 111, 108])))) (zRet (zTup (zCons (zC (.str [99, 111, 110, 115, 116, 97, 110, 116])) (zCons (zOp eqD (zOp modD (zVar 4) (zC (.int 2))) (zC (.int 0))) (zNil))))) (zNx)) (zSeq (zIfS 6 (zTst (zOp eqD (zVar 0) (zC (.str [105, 110, 116])))) (zRet (zTup (zCons (zC (.str [99, 111, 110, 115, 116, 97, 110, 116])) (zCons (zIx (zLst (zCons (zOp subD (zOp modD (zVar 4) (zC (.int 21))) (zC (.int 10))) (zCons (zOp subD (zOp modD (zVar 4) (zC (.int 2000000000000001))) (zC (.int 1000000000000000))) (zNil)))) (zOp divD (zOp modD (zOp divD (zCallS intU (zCons (zVar 1) (zNil))) (zC (.int 3))) (zC (.int 3))) (zC (.int 2)))) (zNil))))) (zNx)) (zSeq (zIfS 6 (zTst (zOp eqD (zVar 0) (zC (.str [116, 101, 120, 116])))) (zRet (zTup (zCons (zC (.str [99, 111, 110, 115, 116, 97, 110, 116])) (zCons (zCall d__law_text (zCons (zVar 4) (zCons (zOp modD (zVar 4) (zC (.int 5))) (zNil)))) (zNil))))) (zNx)) (zSeq (zIfS 6 (zTst (zOp eqD (zVar 0) (zC (.str [100, 97, 116, 101])))) (zRet (zTup (zCons (zC (.str [117, 110, 97, 114, 121])) (zCons (zC (.str [97, 115, 32, 100, 97, 116, 101])) (zCons (zTup (zCons (zC (.str [99, 111, 110, 115, 116, 97, 110, 116])) (zCons (zOp subD (zOp modD (zVar 4) (zC (.int 3652059))) (zC (.int 719162))) (zNil)))) (zNil)))))) (zNx)) (zRet (zTup (zCons (zC (.str [117, 110, 97, 114, 121])) (zCons (zC (.str [97, 115, 32, 100, 101, 99, 105, 109, 97, 108])) (zCons (zTup (zCons (zC (.str [99, 111, 110, 115, 116, 97, 110, 116])) (zCons (zOp subD (zOp modD (zVar 4) (zC (.int 400001))) (zC (.int 200000))) (zNil)))) (zNil))))))))))))
def d__law_leaf : List D → Option FR := runP 6 3 b__law_leaf
set_option maxHeartbeats 4000000 in
theorem ok__law_leaf (h : DefAt K mg "_law_leaf" st__law_leaf) (m_int : mg "int" = none) (m_len : mg "len" = none) (m_range : mg "range" = none) (c__law_text : Cal P w K mg base 1 "_law_text" (spP K d__law_text)) : Cal P w K mg base 2 "_law_leaf" (spP K d__law_leaf) := by
  obtain ⟨a, fd, h1, F⟩ := h
  exact ⟨a, fd, _, h1, F.kp, F.binds (ps := ["_law_kind_here", "_law_number", "_law_columns"]) fun _ _ _ _ _ _ us hl => match us, hl with | [_, _, _], _ => rfl, okP F sc__law_leaf fun cdv A outer s0 H E hr =>
    zss_cons (zs_setLc (i := 3) rfl rfl (sw_true rfl rfl rfl (by decide +kernel)) (own := [("_law_k", 5)]) rfl sc__law_leaf.nd (zi_range1 (by rfl) m_range (za_cons (ze_callB call_len s_len (by rfl) m_len PySem.boot_len (za_cons (ze_var rfl (pv 2)) (za_nil))) (za_nil))) (blkOk_by (N := ["_law_kind_here", "_law_number", "_law_columns", "_law_found", "_law_rest", "_law_k"]) (own := [("_law_k", 5)]) (sc := defScope st__law_leaf) (by decide +kernel)) (fun _ _ _ _ _ => zgw_name (i := 5) sc__law_leaf.nd rfl (Or.inl rfl) (by decide)) (fun _ _ _ _ _ => zts_one (zt_cmp (o_eq hr) s_eq (ze_ix (ze_ix (ze_var rfl (pv 2)) (ze_var rfl (pv 5))) (ze_int)) (ze_var rfl (pv 0)) (nomark _))) (fun _ _ _ _ _ => ze_var rfl (pv 5))) (zss_cons (zs_if (zt_w (zw_and (zt_cmp o_gt s_gt (ze_callB call_len s_len (by rfl) m_len PySem.boot_len (za_cons (ze_var rfl (pv 3)) (za_nil))) (ze_int) (nomark _)) (zw_and1 (zt_cmp o_gt s_gt (ze_op o_mod s_mod (ze_callTy call_intU s_intU (by rfl) m_int (by decide +kernel) (za_cons (ze_var rfl (pv 1)) (za_nil))) (ze_int)) (ze_int) (nomark _))))) (zss_one (zs_ret (ze_tup (za_cons (ze_str) (za_cons (ze_ix (ze_var rfl (pv 3)) (ze_op o_mod s_mod (ze_op o_div s_div (ze_callTy call_intU s_intU (by rfl) m_int (by decide +kernel) (za_cons (ze_var rfl (pv 1)) (za_nil))) (ze_int)) (ze_callB call_len s_len (by rfl) m_len PySem.boot_len (za_cons (ze_var rfl (pv 3)) (za_nil))))) (za_nil)))))) (zss_nil)) (zss_cons (zs_set (i := 4) sc__law_leaf.nd rfl (Or.inl rfl) (ze_op o_div s_div (ze_callTy call_intU s_intU (by rfl) m_int (by decide +kernel) (za_cons (ze_var rfl (pv 1)) (za_nil))) (ze_int))) (zss_cons (zs_if (zt_cmp (o_eq hr) s_eq (ze_var rfl (pv 0)) (ze_str) (nomark _)) (zss_one (zs_ret (ze_tup (za_cons (ze_str) (za_cons (ze_cmp (o_eq hr) s_eq (ze_op o_mod s_mod (ze_var rfl (pv 4)) (ze_int)) (ze_int) (nomark _)) (za_nil)))))) (zss_nil)) (zss_cons (zs_if (zt_cmp (o_eq hr) s_eq (ze_var rfl (pv 0)) (ze_str) (nomark _)) (zss_one (zs_ret (ze_tup (za_cons (ze_str) (za_cons (ze_ix (ze_lst (za_cons (ze_op op_sub s_sub (ze_op o_mod s_mod (ze_var rfl (pv 4)) (ze_int)) (ze_int)) (za_cons (ze_op op_sub s_sub (ze_op o_mod s_mod (ze_var rfl (pv 4)) (ze_int)) (ze_int)) (za_nil)))) (ze_op o_div s_div (ze_op o_mod s_mod (ze_op o_div s_div (ze_callTy call_intU s_intU (by rfl) m_int (by decide +kernel) (za_cons (ze_var rfl (pv 1)) (za_nil))) (ze_int)) (ze_int)) (ze_int))) (za_nil)))))) (zss_nil)) (zss_cons (zs_if (zt_cmp (o_eq hr) s_eq (ze_var rfl (pv 0)) (ze_str) (nomark _)) (zss_one (zs_ret (ze_tup (za_cons (ze_str) (za_cons (ze_call (c__law_text.mono (by decide)) hr (za_cons (ze_var rfl (pv 4)) (za_cons (ze_op o_mod s_mod (ze_var rfl (pv 4)) (ze_int)) (za_nil)))) (za_nil)))))) (zss_nil)) (zss_cons (zs_if (zt_cmp (o_eq hr) s_eq (ze_var rfl (pv 0)) (ze_str) (nomark _)) (zss_one (zs_ret (ze_tup (za_cons (ze_str) (za_cons (ze_str) (za_cons (ze_tup (za_cons (ze_str) (za_cons (ze_op op_sub s_sub (ze_op o_mod s_mod (ze_var rfl (pv 4)) (ze_int)) (ze_int)) (za_nil)))) (za_nil))))))) (zss_nil)) (zss_one (zs_ret (ze_tup (za_cons (ze_str) (za_cons (ze_str) (za_cons (ze_tup (za_cons (ze_str) (za_cons (ze_op op_sub s_sub (ze_op o_mod s_mod (ze_var rfl (pv 4)) (ze_int)) (ze_int)) (za_nil)))) (za_nil)))))))))))))⟩
abbrev st__law_makers : Stmt := topS 25
theorem sc__law_makers : FnScope ["_law_rows", "_law_name"] [] (defScope st__law_makers) := ⟨rfl, rfl, rfl, by decide +kernel, rfl, by decide +kernel, by decide +kernel⟩
def b__law_makers : SM := zSeq (zSet 2 0 (zLst (zCons (zTup (zCons (zC (.str [117, 110, 97, 114, 121])) (zCons (zC (.str [110, 111, 116])) (zCons (zLst (zCons (zC (.str [98, 111, 111, 108])) (zNil))) (zCons (zC (.str [98, 111, 111, 108])) (zNil)))))) (zCons (zTup (zCons (zC (.str [117, 110, 97, 114, 121])) (zCons (zC (.str [105, 115, 32, 110, 117, 108, 108])) (zCons (zLst (zCons (zC (.str [97, 110, 121])) (zNil))) (zCons (zC (.str [98, 111, 111, 108])) (zNil)))))) (zCons (zTup (zCons (zC (.str [98, 105, 110, 97, 114, 121])) (zCons (zC (.str [97, 110, 100])) (zCons (zLst (zCons (zC (.str [98, 111, 111, 108])) (zCons (zC (.str [98, 111, 111, 108])) (zNil)))) (zCons (zC (.str [98, 111, 111, 108])) (zNil)))))) (zNil)))))) (zSeq (zSet 2 0 (zCatL (zVar 0) (zLc (ziL 2 (zLst (zCons (zC (.str [101, 113, 117, 97, 108])) (zCons (zC (.str [108, 101, 115, 115])) (zCons (zC (.str [97, 116, 32, 109, 111, 115, 116])) (zCons (zC (.str [115, 97, 109, 101])) (zNil))))))) (gN 1) (zYes) (zTup (zCons (zC (.str [98, 105, 110, 97, 114, 121])) (zCons (zVar 1) (zCons (zLst (zCons (zC (.str [97, 110, 121])) (zCons (zC (.str [97, 110, 121])) (zNil)))) (zCons (zC (.str [98, 111, 111, 108])) (zNil)))))) [1]))) (zSeq (zSet 2 0 (zCatL (zVar 0) (zLst (zCons (zTup (zCons (zC (.str [98, 105, 110, 97, 114, 121])) (zCons (zC (.str [111, 114])) (zCons (zLst (zCons (zC (.str [98, 111, 111, 108])) (zCons (zC (.str [98, 111, 111, 108])) (zNil)))) (zCons (zC (.str [98, 111, 111, 108])) (zNil)))))) (zCons (zTup (zCons (zC (.str [98, 105, 110, 97, 114, 121])) (zCons (zC (.str [108, 105, 107, 101])) (zCons (zLst (zCons (zC (.str [116, 101, 120, 116])) (zCons (zC (.str [116, 101, 120, 116])) (zNil)))) (zCons (zC (.str [98, 111, 111, 108])) (zNil)))))) (zNil)))))) (zSeq (zSet 2 0 (zCatL (zVar 0) (zLc (ziL 2 (zLst (zCons (zC (.str [110, 101, 103, 97, 116, 101])) (zCons (zC (.str [97, 98, 115])) (zCons (zC (.str [115, 105, 103, 110])) (zNil)))))) (gN 1) (zYes) (zTup (zCons (zC (.str [117, 110, 97, 114, 121])) (zCons (zVar 1) (zCons (zLst (zCons (zC (.str [105, 110, 116])) (zNil))) (zCons (zC (.str [105, 110, 116])) (zNil)))))) [1]))) (zSeq (zSet 2 0 (zCatL (zVar 0) (zLc (ziL 2 (zLst (zCons (zC (.str [121, 101, 97, 114])) (zCons (zC (.str [109, 111, 110, 116, 104])) (zCons (zC (.str [100, 97, 121])) (zCons (zC (.str [119, 101, 101, 107, 100, 97, 121])) (zNil))))))) (gN 1) (zYes) (zTup (zCons (zC (.str [117, 110, 97, 114, 121])) (zCons (zVar 1) (zCons (zLst (zCons (zC (.str [100, 97, 116, 101])) (zNil))) (zCons (zC (.str [105, 110, 116])) (zNil)))))) [1]))) (zSeq (zSet 2 0 (zCatL (zVar 0) (zLc (ziL 2 (zLst (zCons (zC (.str [97, 100, 100])) (zCons (zC (.str [115, 117, 98, 116, 114, 97, 99, 116])) (zCons (zC (.str [109, 117, 108, 116, 105, 112, 108, 121])) (zCons (zC (.str [100, 105, 118, 105, 100, 101])) (zCons (zC (.str [114, 101, 115, 116])) (zNil)))))))) (gN 1) (zYes) (zTup (zCons (zC (.str [98, 105, 110, 97, 114, 121])) (zCons (zVar 1) (zCons (zLst (zCons (zC (.str [105, 110, 116])) (zCons (zC (.str [105, 110, 116])) (zNil)))) (zCons (zC (.str [105, 110, 116])) (zNil)))))) [1]))) (zSeq (zSet 2 0 (zCatL (zVar 0) (zLst (zCons (zTup (zCons (zC (.str [117, 110, 97, 114, 121])) (zCons (zC (.str [108, 101, 110, 103, 116, 104])) (zCons (zLst (zCons (zC (.str [116, 101, 120, 116])) (zNil))) (zCons (zC (.str [105, 110, 116])) (zNil)))))) (zCons (zTup (zCons (zC (.str [117, 110, 97, 114, 121])) (zCons (zC (.str [116, 111, 32, 105, 110, 116])) (zCons (zLst (zCons (zC (.str [100, 101, 99, 105, 109, 97, 108])) (zNil))) (zCons (zC (.str [105, 110, 116])) (zNil)))))) (zCons (zTup (zCons (zC (.str [117, 110, 97, 114, 121])) (zCons (zC (.str [115, 105, 103, 110])) (zCons (zLst (zCons (zC (.str [100, 101, 99, 105, 109, 97, 108])) (zNil))) (zCons (zC (.str [105, 110, 116])) (zNil)))))) (zNil))))))) (zSeq (zSet 2 0 (zCatL (zVar 0) (zLst (zCons (zTup (zCons (zC (.str [117, 110, 97, 114, 121])) (zCons (zC (.str [116, 101, 120, 116, 32, 116, 111, 32, 105, 110, 116])) (zCons (zLst (zCons (zC (.str [116, 101, 120, 116])) (zNil))) (zCons (zC (.str [105, 110, 116])) (zNil)))))) (zCons (zTup (zCons (zC (.str [98, 105, 110, 97, 114, 121])) (zCons (zC (.str [115, 117, 98, 116, 114, 97, 99, 116])) (zCons (zLst (zCons (zC (.str [100, 97, 116, 101])) (zCons (zC (.str [100, 97, 116, 101])) (zNil)))) (zCons (zC (.str [105, 110, 116])) (zNil)))))) (zNil)))))) (zSeq (zSet 2 0 (zCatL (zVar 0) (zLst (zCons (zTup (zCons (zC (.str [98, 105, 110, 97, 114, 121])) (zCons (zC (.str [112, 111, 115, 105, 116, 105, 111, 110])) (zCons (zLst (zCons (zC (.str [116, 101, 120, 116])) (zCons (zC (.str [116, 101, 120, 116])) (zNil)))) (zCons (zC (.str [105, 110, 116])) (zNil)))))) (zNil))))) (zSeq (zSet 2 0 (zCatL (zVar 0) (zLc (ziL 2 (zLst (zCons (zC (.str [108, 111, 119, 101, 114])) (zCons (zC (.str [117, 112, 112, 101, 114])) (zCons (zC (.str [116, 114, 105, 109])) (zNil)))))) (gN 1) (zYes) (zTup (zCons (zC (.str [117, 110, 97, 114, 121])) (zCons (zVar 1) (zCons (zLst (zCons (zC (.str [116, 101, 120, 116])) (zNil))) (zCons (zC (.str [116, 101, 120, 116])) (zNil)))))) [1]))) (zSeq (zSet 2 0 (zCatL (zVar 0) (zLst (zCons (zTup (zCons (zC (.str [117, 110, 97, 114, 121])) (zCons (zC (.str [105, 110, 116, 32, 116, 111, 32, 116, 101, 120, 116])) (zCons (zLst (zCons (zC (.str [105, 110, 116])) (zNil))) (zCons (zC (.str [116, 101, 120, 116])) (zNil)))))) (zCons (zTup (zCons (zC (.str [117, 110, 97, 114, 121])) (zCons (zC (.str [100, 97, 116, 101, 32, 116, 111, 32, 116, 101, 120, 116])) (zCons (zLst (zCons (zC (.str [100, 97, 116, 101])) (zNil))) (zCons (zC (.str [116, 101, 120, 116])) (zNil)))))) (zNil)))))) (zSeq (zSet 2 0 (zCatL (zVar 0) (zLst (zCons (zTup (zCons (zC (.str [117, 110, 97, 114, 121])) (zCons (zC (.str [100, 101, 99, 105, 109, 97, 108, 32, 116, 111, 32, 116, 101, 120, 116])) (zCons (zLst (zCons (zC (.str [100, 101, 99, 105, 109, 97, 108])) (zNil))) (zCons (zC (.str [116, 101, 120, 116])) (zNil)))))) (zCons (zTup (zCons (zC (.str [98, 105, 110, 97, 114, 121])) (zCons (zC (.str [106, 111, 105, 110])) (zCons (zLst (zCons (zC (.str [116, 101, 120, 116])) (zCons (zC (.str [116, 101, 120, 116])) (zNil)))) (zCons (zC (.str [116, 101, 120, 116])) (zNil)))))) (zNil)))))) (zSeq (zSet 2 0 (zCatL (zVar 0) (zLst (zCons (zTup (zCons (zC (.str [116, 101, 114, 110, 97, 114, 121])) (zCons (zC (.str [112, 97, 114, 116])) (zCons (zLst (zCons (zC (.str [116, 101, 120, 116])) (zCons (zC (.str [105, 110, 116])) (zCons (zC (.str [105, 110, 116])) (zNil))))) (zCons (zC (.str [116, 101, 120, 116])) (zNil)))))) (zCons (zTup (zCons (zC (.str [116, 101, 114, 110, 97, 114, 121])) (zCons (zC (.str [115, 112, 108, 105, 116])) (zCons (zLst (zCons (zC (.str [116, 101, 120, 116])) (zCons (zC (.str [116, 101, 120, 116])) (zCons (zC (.str [105, 110, 116])) (zNil))))) (zCons (zC (.str [116, 101, 120, 116])) (zNil)))))) (zNil)))))) (zSeq (zSet 2 0 (zCatL (zVar 0) (zLst (zCons (zTup (zCons (zC (.str [116, 101, 114, 110, 97, 114, 121])) (zCons (zC (.str [114, 101, 112, 108, 97, 99, 101])) (zCons (zLst (zCons (zC (.str [116, 101, 120, 116])) (zCons (zC (.str [116, 101, 120, 116])) (zCons (zC (.str [116, 101, 120, 116])) (zNil))))) (zCons (zC (.str [116, 101, 120, 116])) (zNil)))))) (zCons (zTup (zCons (zC (.str [116, 101, 114, 110, 97, 114, 121])) (zCons (zC (.str [112, 97, 100])) (zCons (zLst (zCons (zC (.str [116, 101, 120, 116])) (zCons (zC (.str [116, 101, 120, 116])) (zCons (zC (.str [105, 110, 116])) (zNil))))) (zCons (zC (.str [116, 101, 120, 116])) (zNil)))))) (zNil)))))) (zSeq (zSet 2 0 (zCatL (zVar 0) (zLc (ziL 2 (zLst (zCons (zC (.str [109, 111, 110, 116, 104, 32, 115, 116, 97, 114, 116])) (zCons (zC (.str [121, 101, 97, 114, 32, 115, 116, 97, 114, 116])) (zCons (zC (.str [119, 101, 101, 107, 32, 115, 116, 97, 114, 116])) (zNil)))))) (gN 1) (zYes) (zTup (zCons (zC (.str [117, 110, 97, 114, 121])) (zCons (zVar 1) (zCons (zLst (zCons (zC (.str [100, 97, 116, 101])) (zNil))) (zCons (zC (.str [100, 97, 116, 101])) (zNil)))))) [1]))) (zSeq (zSet 2 0 (zCatL (zVar 0) (zLst (zCons (zTup (zCons (zC (.str [117, 110, 97, 114, 121])) (zCons (zC (.str [97, 115, 32, 100, 97, 116, 101])) (zCons (zLst (zCons (zC (.str [105, 110, 116])) (zNil))) (zCons (zC (.str [100, 97, 116, 101])) (zNil)))))) (zCons (zTup (zCons (zC (.str [117, 110, 97, 114, 121])) (zCons (zC (.str [116, 101, 120, 116, 32, 116, 111, 32, 100, 97, 116, 101])) (zCons (zLst (zCons (zC (.str [116, 101, 120, 116])) (zNil))) (zCons (zC (.str [100, 97, 116, 101])) (zNil)))))) (zNil)))))) (zSeq (zSet 2 0 (zCatL (zVar 0) (zLc (ziL 2 (zLst (zCons (zC (.str [97, 100, 100, 32, 100, 97, 121, 115])) (zCons (zC (.str [97, 100, 100, 32, 109, 111, 110, 116, 104, 115])) (zNil))))) (gN 1) (zYes) (zTup (zCons (zC (.str [98, 105, 110, 97, 114, 121])) (zCons (zVar 1) (zCons (zLst (zCons (zC (.str [100, 97, 116, 101])) (zCons (zC (.str [105, 110, 116])) (zNil)))) (zCons (zC (.str [100, 97, 116, 101])) (zNil)))))) [1]))) (zSeq (zSet 2 0 (zCatL (zVar 0) (zLc (ziL 2 (zLst (zCons (zC (.str [110, 101, 103, 97, 116, 101])) (zCons (zC (.str [97, 98, 115])) (zNil))))) (gN 1) (zYes) (zTup (zCons (zC (.str [117, 110, 97, 114, 121])) (zCons (zVar 1) (zCons (zLst (zCons (zC (.str [100, 101, 99, 105, 109, 97, 108])) (zNil))) (zCons (zC (.str [100, 101, 99, 105, 109, 97, 108])) (zNil)))))) [1]))) (zSeq (zSet 2 0 (zCatL (zVar 0) (zLst (zCons (zTup (zCons (zC (.str [117, 110, 97, 114, 121])) (zCons (zC (.str [116, 111, 32, 100, 101, 99, 105, 109, 97, 108])) (zCons (zLst (zCons (zC (.str [105, 110, 116])) (zNil))) (zCons (zC (.str [100, 101, 99, 105, 109, 97, 108])) (zNil)))))) (zCons (zTup (zCons (zC (.str [117, 110, 97, 114, 121])) (zCons (zC (.str [97, 115, 32, 100, 101, 99, 105, 109, 97, 108])) (zCons (zLst (zCons (zC (.str [105, 110, 116])) (zNil))) (zCons (zC (.str [100, 101, 99, 105, 109, 97, 108])) (zNil)))))) (zNil)))))) (zSeq (zSet 2 0 (zCatL (zVar 0) (zLst (zCons (zTup (zCons (zC (.str [117, 110, 97, 114, 121])) (zCons (zC (.str [116, 101, 120, 116, 32, 116, 111, 32, 100, 101, 99, 105, 109, 97, 108])) (zCons (zLst (zCons (zC (.str [116, 101, 120, 116])) (zNil))) (zCons (zC (.str [100, 101, 99, 105, 109, 97, 108])) (zNil)))))) (zNil))))) (zRet (zCatL (zVar 0) (zLc (ziL 2 (zLst (zCons (zC (.str [97, 100, 100])) (zCons (zC (.str [115, 117, 98, 116, 114, 97, 99, 116])) (zCons (zC (.str [114, 101, 115, 116])) (zCons (zC (.str [109, 117, 108, 116, 105, 112, 108, 121, 32, 100, 101, 99, 105, 109, 97, 108, 115])) (zCons (zC (.str [100, 105, 118, 105, 100, 101, 32, 100, 101, 99, 105, 109, 97, 108, 115])) (zNil)))))))) (gN 1) (zYes) (zTup (zCons (zC (.str [98, 105, 110, 97, 114, 121])) (zCons (zVar 1) (zCons (zLst (zCons (zC (.str [100, 101, 99, 105, 109, 97, 108])) (zCons (zC (.str [100, 101, 99, 105, 109, 97, 108])) (zNil)))) (zCons (zC (.str [100, 101, 99, 105, 109, 97, 108])) (zNil)))))) [1]))))))))))))))))))))))
def d__law_makers : List D → Option FR := runP 2 0 b__law_makers
set_option maxHeartbeats 4000000 in
theorem ok__law_makers (h : DefAt K mg "_law_makers" st__law_makers) : Cal P w K mg base 1 "_law_makers" (spP K d__law_makers) := by
  obtain ⟨a, fd, h1, F⟩ := h
  exact ⟨a, fd, _, h1, F.kp, F.binds (ps := []) fun _ _ _ _ _ _ us hl => match us, hl with | [], _ => rfl, okP F sc__law_makers fun cdv A outer s0 H E hr =>
    zss_cons (zs_set (i := 0) sc__law_makers.nd rfl (Or.inl rfl) (ze_lst (za_cons (ze_tup (za_cons (ze_str) (za_cons (ze_str) (za_cons (ze_lst (za_cons (ze_str) (za_nil))) (za_cons (ze_str) (za_nil)))))) (za_cons (ze_tup (za_cons (ze_str) (za_cons (ze_str) (za_cons (ze_lst (za_cons (ze_str) (za_nil))) (za_cons (ze_str) (za_nil)))))) (za_cons (ze_tup (za_cons (ze_str) (za_cons (ze_str) (za_cons (ze_lst (za_cons (ze_str) (za_cons (ze_str) (za_nil)))) (za_cons (ze_str) (za_nil)))))) (za_nil)))))) (zss_cons (zs_set (i := 0) sc__law_makers.nd rfl (Or.inl rfl) (ze_catL (ze_var rfl (pv 0)) (ze_lc (own := [("_law_name", 1)]) rfl sc__law_makers.nd (zi_list (ze_lst (za_cons (ze_str) (za_cons (ze_str) (za_cons (ze_str) (za_cons (ze_str) (za_nil))))))) (blkOk_by (N := ["_law_rows", "_law_name"]) (own := [("_law_name", 1)]) (sc := defScope st__law_makers) (by decide +kernel)) (fun _ _ _ _ _ => zgw_name (i := 1) sc__law_makers.nd rfl (Or.inl rfl) (by decide)) (fun _ _ _ _ _ => zts_nil) (fun _ _ _ _ _ => ze_tup (za_cons (ze_str) (za_cons (ze_var rfl (pv 1)) (za_cons (ze_lst (za_cons (ze_str) (za_cons (ze_str) (za_nil)))) (za_cons (ze_str) (za_nil))))))))) (zss_cons (zs_set (i := 0) sc__law_makers.nd rfl (Or.inl rfl) (ze_catL (ze_var rfl (pv 0)) (ze_lst (za_cons (ze_tup (za_cons (ze_str) (za_cons (ze_str) (za_cons (ze_lst (za_cons (ze_str) (za_cons (ze_str) (za_nil)))) (za_cons (ze_str) (za_nil)))))) (za_cons (ze_tup (za_cons (ze_str) (za_cons (ze_str) (za_cons (ze_lst (za_cons (ze_str) (za_cons (ze_str) (za_nil)))) (za_cons (ze_str) (za_nil)))))) (za_nil)))))) (zss_cons (zs_set (i := 0) sc__law_makers.nd rfl (Or.inl rfl) (ze_catL (ze_var rfl (pv 0)) (ze_lc (own := [("_law_name", 1)]) rfl sc__law_makers.nd (zi_list (ze_lst (za_cons (ze_str) (za_cons (ze_str) (za_cons (ze_str) (za_nil)))))) (blkOk_by (N := ["_law_rows", "_law_name"]) (own := [("_law_name", 1)]) (sc := defScope st__law_makers) (by decide +kernel)) (fun _ _ _ _ _ => zgw_name (i := 1) sc__law_makers.nd rfl (Or.inl rfl) (by decide)) (fun _ _ _ _ _ => zts_nil) (fun _ _ _ _ _ => ze_tup (za_cons (ze_str) (za_cons (ze_var rfl (pv 1)) (za_cons (ze_lst (za_cons (ze_str) (za_nil))) (za_cons (ze_str) (za_nil))))))))) (zss_cons (zs_set (i := 0) sc__law_makers.nd rfl (Or.inl rfl) (ze_catL (ze_var rfl (pv 0)) (ze_lc (own := [("_law_name", 1)]) rfl sc__law_makers.nd (zi_list (ze_lst (za_cons (ze_str) (za_cons (ze_str) (za_cons (ze_str) (za_cons (ze_str) (za_nil))))))) (blkOk_by (N := ["_law_rows", "_law_name"]) (own := [("_law_name", 1)]) (sc := defScope st__law_makers) (by decide +kernel)) (fun _ _ _ _ _ => zgw_name (i := 1) sc__law_makers.nd rfl (Or.inl rfl) (by decide)) (fun _ _ _ _ _ => zts_nil) (fun _ _ _ _ _ => ze_tup (za_cons (ze_str) (za_cons (ze_var rfl (pv 1)) (za_cons (ze_lst (za_cons (ze_str) (za_nil))) (za_cons (ze_str) (za_nil))))))))) (zss_cons (zs_set (i := 0) sc__law_makers.nd rfl (Or.inl rfl) (ze_catL (ze_var rfl (pv 0)) (ze_lc (own := [("_law_name", 1)]) rfl sc__law_makers.nd (zi_list (ze_lst (za_cons (ze_str) (za_cons (ze_str) (za_cons (ze_str) (za_cons (ze_str) (za_cons (ze_str) (za_nil)))))))) (blkOk_by (N := ["_law_rows", "_law_name"]) (own := [("_law_name", 1)]) (sc := defScope st__law_makers) (by decide +kernel)) (fun _ _ _ _ _ => zgw_name (i := 1) sc__law_makers.nd rfl (Or.inl rfl) (by decide)) (fun _ _ _ _ _ => zts_nil) (fun _ _ _ _ _ => ze_tup (za_cons (ze_str) (za_cons (ze_var rfl (pv 1)) (za_cons (ze_lst (za_cons (ze_str) (za_cons (ze_str) (za_nil)))) (za_cons (ze_str) (za_nil))))))))) (zss_cons (zs_set (i := 0) sc__law_makers.nd rfl (Or.inl rfl) (ze_catL (ze_var rfl (pv 0)) (ze_lst (za_cons (ze_tup (za_cons (ze_str) (za_cons (ze_str) (za_cons (ze_lst (za_cons (ze_str) (za_nil))) (za_cons (ze_str) (za_nil)))))) (za_cons (ze_tup (za_cons (ze_str) (za_cons (ze_str) (za_cons (ze_lst (za_cons (ze_str) (za_nil))) (za_cons (ze_str) (za_nil)))))) (za_cons (ze_tup (za_cons (ze_str) (za_cons (ze_str) (za_cons (ze_lst (za_cons (ze_str) (za_nil))) (za_cons (ze_str) (za_nil)))))) (za_nil))))))) (zss_cons (zs_set (i := 0) sc__law_makers.nd rfl (Or.inl rfl) (ze_catL (ze_var rfl (pv 0)) (ze_lst (za_cons (ze_tup (za_cons (ze_str) (za_cons (ze_str) (za_cons (ze_lst (za_cons (ze_str) (za_nil))) (za_cons (ze_str) (za_nil)))))) (za_cons (ze_tup (za_cons (ze_str) (za_cons (ze_str) (za_cons (ze_lst (za_cons (ze_str) (za_cons (ze_str) (za_nil)))) (za_cons (ze_str) (za_nil)))))) (za_nil)))))) (zss_cons (zs_set (i := 0) sc__law_makers.nd rfl (Or.inl rfl) (ze_catL (ze_var rfl (pv 0)) (ze_lst (za_cons (ze_tup (za_cons (ze_str) (za_cons (ze_str) (za_cons (ze_lst (za_cons (ze_str) (za_cons (ze_str) (za_nil)))) (za_cons (ze_str) (za_nil)))))) (za_nil))))) (zss_cons (zs_set (i := 0) sc__law_makers.nd rfl (Or.inl rfl) (ze_catL (ze_var rfl (pv 0)) (ze_lc (own := [("_law_name", 1)]) rfl sc__law_makers.nd (zi_list (ze_lst (za_cons (ze_str) (za_cons (ze_str) (za_cons (ze_str) (za_nil)))))) (blkOk_by (N := ["_law_rows", "_law_name"]) (own := [("_law_name", 1)]) (sc := defScope st__law_makers) (by decide +kernel)) (fun _ _ _ _ _ => zgw_name (i := 1) sc__law_makers.nd rfl (Or.inl rfl) (by decide)) (fun _ _ _ _ _ => zts_nil) (fun _ _ _ _ _ => ze_tup (za_cons (ze_str) (za_cons (ze_var rfl (pv 1)) (za_cons (ze_lst (za_cons (ze_str) (za_nil))) (za_cons (ze_str) (za_nil))))))))) (zss_cons (zs_set (i := 0) sc__law_makers.nd rfl (Or.inl rfl) (ze_catL (ze_var rfl (pv 0)) (ze_lst (za_cons (ze_tup (za_cons (ze_str) (za_cons (ze_str) (za_cons (ze_lst (za_cons (ze_str) (za_nil))) (za_cons (ze_str) (za_nil)))))) (za_cons (ze_tup (za_cons (ze_str) (za_cons (ze_str) (za_cons (ze_lst (za_cons (ze_str) (za_nil))) (za_cons (ze_str) (za_nil)))))) (za_nil)))))) (zss_cons (zs_set (i := 0) sc__law_makers.nd rfl (Or.inl rfl) (ze_catL (ze_var rfl (pv 0)) (ze_lst (za_cons (ze_tup (za_cons (ze_str) (za_cons (ze_str) (za_cons (ze_lst (za_cons (ze_str) (za_nil))) (za_cons (ze_str) (za_nil)))))) (za_cons (ze_tup (za_cons (ze_str) (za_cons (ze_str) (za_cons (ze_lst (za_cons (ze_str) (za_cons (ze_str) (za_nil)))) (za_cons (ze_str) (za_nil)))))) (za_nil)))))) (zss_cons (zs_set (i := 0) sc__law_makers.nd rfl (Or.inl rfl) (ze_catL (ze_var rfl (pv 0)) (ze_lst (za_cons (ze_tup (za_cons (ze_str) (za_cons (ze_str) (za_cons (ze_lst (za_cons (ze_str) (za_cons (ze_str) (za_cons (ze_str) (za_nil))))) (za_cons (ze_str) (za_nil)))))) (za_cons (ze_tup (za_cons (ze_str) (za_cons (ze_str) (za_cons (ze_lst (za_cons (ze_str) (za_cons (ze_str) (za_cons (ze_str) (za_nil))))) (za_cons (ze_str) (za_nil)))))) (za_nil)))))) (zss_cons (zs_set (i := 0) sc__law_makers.nd rfl (Or.inl rfl) (ze_catL (ze_var rfl (pv 0)) (ze_lst (za_cons (ze_tup (za_cons (ze_str) (za_cons (ze_str) (za_cons (ze_lst (za_cons (ze_str) (za_cons (ze_str) (za_cons (ze_str) (za_nil))))) (za_cons (ze_str) (za_nil)))))) (za_cons (ze_tup (za_cons (ze_str) (za_cons (ze_str) (za_cons (ze_lst (za_cons (ze_str) (za_cons (ze_str) (za_cons (ze_str) (za_nil))))) (za_cons (ze_str) (za_nil)))))) (za_nil)))))) (zss_cons (zs_set (i := 0) sc__law_makers.nd rfl (Or.inl rfl) (ze_catL (ze_var rfl (pv 0)) (ze_lc (own := [("_law_name", 1)]) rfl sc__law_makers.nd (zi_list (ze_lst (za_cons (ze_str) (za_cons (ze_str) (za_cons (ze_str) (za_nil)))))) (blkOk_by (N := ["_law_rows", "_law_name"]) (own := [("_law_name", 1)]) (sc := defScope st__law_makers) (by decide +kernel)) (fun _ _ _ _ _ => zgw_name (i := 1) sc__law_makers.nd rfl (Or.inl rfl) (by decide)) (fun _ _ _ _ _ => zts_nil) (fun _ _ _ _ _ => ze_tup (za_cons (ze_str) (za_cons (ze_var rfl (pv 1)) (za_cons (ze_lst (za_cons (ze_str) (za_nil))) (za_cons (ze_str) (za_nil))))))))) (zss_cons (zs_set (i := 0) sc__law_makers.nd rfl (Or.inl rfl) (ze_catL (ze_var rfl (pv 0)) (ze_lst (za_cons (ze_tup (za_cons (ze_str) (za_cons (ze_str) (za_cons (ze_lst (za_cons (ze_str) (za_nil))) (za_cons (ze_str) (za_nil)))))) (za_cons (ze_tup (za_cons (ze_str) (za_cons (ze_str) (za_cons (ze_lst (za_cons (ze_str) (za_nil))) (za_cons (ze_str) (za_nil)))))) (za_nil)))))) (zss_cons (zs_set (i := 0) sc__law_makers.nd rfl (Or.inl rfl) (ze_catL (ze_var rfl (pv 0)) (ze_lc (own := [("_law_name", 1)]) rfl sc__law_makers.nd (zi_list (ze_lst (za_cons (ze_str) (za_cons (ze_str) (za_nil))))) (blkOk_by (N := ["_law_rows", "_law_name"]) (own := [("_law_name", 1)]) (sc := defScope st__law_makers) (by decide +kernel)) (fun _ _ _ _ _ => zgw_name (i := 1) sc__law_makers.nd rfl (Or.inl rfl) (by decide)) (fun _ _ _ _ _ => zts_nil) (fun _ _ _ _ _ => ze_tup (za_cons (ze_str) (za_cons (ze_var rfl (pv 1)) (za_cons (ze_lst (za_cons (ze_str) (za_cons (ze_str) (za_nil)))) (za_cons (ze_str) (za_nil))))))))) (zss_cons (zs_set (i := 0) sc__law_makers.nd rfl (Or.inl rfl) (ze_catL (ze_var rfl (pv 0)) (ze_lc (own := [("_law_name", 1)]) rfl sc__law_makers.nd (zi_list (ze_lst (za_cons (ze_str) (za_cons (ze_str) (za_nil))))) (blkOk_by (N := ["_law_rows", "_law_name"]) (own := [("_law_name", 1)]) (sc := defScope st__law_makers) (by decide +kernel)) (fun _ _ _ _ _ => zgw_name (i := 1) sc__law_makers.nd rfl (Or.inl rfl) (by decide)) (fun _ _ _ _ _ => zts_nil) (fun _ _ _ _ _ => ze_tup (za_cons (ze_str) (za_cons (ze_var rfl (pv 1)) (za_cons (ze_lst (za_cons (ze_str) (za_nil))) (za_cons (ze_str) (za_nil))))))))) (zss_cons (zs_set (i := 0) sc__law_makers.nd rfl (Or.inl rfl) (ze_catL (ze_var rfl (pv 0)) (ze_lst (za_cons (ze_tup (za_cons (ze_str) (za_cons (ze_str) (za_cons (ze_lst (za_cons (ze_str) (za_nil))) (za_cons (ze_str) (za_nil)))))) (za_cons (ze_tup (za_cons (ze_str) (za_cons (ze_str) (za_cons (ze_lst (za_cons (ze_str) (za_nil))) (za_cons (ze_str) (za_nil)))))) (za_nil)))))) (zss_cons (zs_set (i := 0) sc__law_makers.nd rfl (Or.inl rfl) (ze_catL (ze_var rfl (pv 0)) (ze_lst (za_cons (ze_tup (za_cons (ze_str) (za_cons (ze_str) (za_cons (ze_lst (za_cons (ze_str) (za_nil))) (za_cons (ze_str) (za_nil)))))) (za_nil))))) (zss_one (zs_ret (ze_catL (ze_var rfl (pv 0)) (ze_lc (own := [("_law_name", 1)]) rfl sc__law_makers.nd (zi_list (ze_lst (za_cons (ze_str) (za_cons (ze_str) (za_cons (ze_str) (za_cons (ze_str) (za_cons (ze_str) (za_nil)))))))) (blkOk_by (N := ["_law_rows", "_law_name"]) (own := [("_law_name", 1)]) (sc := defScope st__law_makers) (by decide +kernel)) (fun _ _ _ _ _ => zgw_name (i := 1) sc__law_makers.nd rfl (Or.inl rfl) (by decide)) (fun _ _ _ _ _ => zts_nil) (fun _ _ _ _ _ => ze_tup (za_cons (ze_str) (za_cons (ze_var rfl (pv 1)) (za_cons (ze_lst (za_cons (ze_str) (za_cons (ze_str) (za_nil)))) (za_cons (ze_str) (za_nil)))))))))))))))))))))))))))))⟩
abbrev st__law_kinded : Stmt := topS 24
theorem sc__law_kinded : FnScope ["_law_kind_here", "_law_number", "_law_depth", "_law_columns", "_law_rest", "_law_rows", "_law_row", "_law_other", "_law_parts", "_law_k", "_law_first", "_law_last", "_law_name", "_law_wanted"] ["_law_kind_here", "_law_number", "_law_depth", "_law_columns"] (defScope st__law_kinded) := ⟨rfl, rfl, rfl, by decide +kernel, rfl, by decide +kernel, by decide +kernel⟩
def lb__law_kinded_1 (F : List D → Option FR) : SM := zFg [9, 13] (zSeq (zSet 14 13 (zIx (zIx (zVar 6) (zC (.int 2))) (zVar 9))) (zSeq (zIfS 14 (zTst (zOp eqD (zVar 13) (zC (.str [97, 110, 121])))) (zSet 14 13 (zVar 7)) (zNx)) (zApp 14 (zVar 8) (zCall F (zCons (zVar 13) (zCons (zOp addS (zOp addS (zOp divD (zVar 4) (zIx (zLst (zCons (zC (.int 16)) (zCons (zC (.int 512)) (zCons (zC (.int 16384)) (zNil))))) (zVar 9))) (zOp mulD (zC (.int 5)) (zVar 9))) (zC (.int 1))) (zCons (zOp subD (zVar 2) (zC (.int 1))) (zCons (zVar 3) (zNil)))))))))
def b__law_kinded (F : List D → Option FR) : SM := zSeq (zSet 14 4 (zOp divD (zCallS intU (zCons (zVar 1) (zNil))) (zC (.int 12)))) (zSeq (zIfS 14 (zOrT (zTst (zOp eqD (zVar 2) (zC (.int 0)))) (zTst (zOp ltX (zOp modD (zCallS intU (zCons (zVar 1) (zNil))) (zC (.int 12))) (zC (.int 2))))) (zRet (zCall d__law_leaf (zCons (zVar 0) (zCons (zVar 4) (zCons (zVar 3) (zNil)))))) (zNx)) (zSeq (zIfS 14 (zTst (zOp eqD (zOp modD (zCallS intU (zCons (zVar 1) (zNil))) (zC (.int 12))) (zC (.int 2)))) (zSeq (zSet 14 10 (zCall F (zCons (zC (.str [98, 111, 111, 108])) (zCons (zOp addS (zOp divD (zVar 4) (zC (.int 16))) (zC (.int 3))) (zCons (zOp subD (zVar 2) (zC (.int 1))) (zCons (zVar 3) (zNil))))))) (zSeq (zSet 14 11 (zCall F (zCons (zVar 0) (zCons (zOp addS (zOp divD (zVar 4) (zC (.int 4096))) (zC (.int 19))) (zCons (zOp subD (zVar 2) (zC (.int 1))) (zCons (zVar 3) (zNil))))))) (zSeq (zIfS 14 (zTst (zOp eqD (zOp modD (zVar 4) (zC (.int 4))) (zC (.int 0)))) (zSet 14 11 (zTup (zCons (zC (.str [99, 111, 110, 115, 116, 97, 110, 116])) (zCons (zC .non) (zNil))))) (zNx)) (zRet (zTup (zCons (zC (.str [99, 104, 111, 105, 99, 101])) (zCons (zVar 10) (zCons (zCall F (zCons (zVar 0) (zCons (zOp addS (zOp divD (zVar 4) (zC (.int 256))) (zC (.int 7))) (zCons (zOp subD (zVar 2) (zC (.int 1))) (zCons (zVar 3) (zNil)))))) (zCons (zVar 11) (zNil)))))))))) (zNx)) (zSeq (zIfS 14 (zTst (zOp eqD (zOp modD (zCallS intU (zCons (zVar 1) (zNil))) (zC (.int 12))) (zC (.int 3)))) (zSeq (zSet 14 12 (zIx (zLst (zCons (zC (.str [99, 111, 97, 108, 101, 115, 99, 101])) (zCons (zC (.str [108, 101, 97, 115, 116])) (zCons (zC (.str [103, 114, 101, 97, 116, 101, 115, 116])) (zNil))))) (zOp modD (zVar 4) (zC (.int 3))))) (zRet (zTup (zCons (zC (.str [98, 105, 110, 97, 114, 121])) (zCons (zVar 12) (zCons (zCall F (zCons (zVar 0) (zCons (zOp addS (zOp divD (zVar 4) (zC (.int 16))) (zC (.int 3))) (zCons (zOp subD (zVar 2) (zC (.int 1))) (zCons (zVar 3) (zNil)))))) (zCons (zCall F (zCons (zVar 0) (zCons (zOp addS (zOp divD (zVar 4) (zC (.int 256))) (zC (.int 7))) (zCons (zOp subD (zVar 2) (zC (.int 1))) (zCons (zVar 3) (zNil)))))) (zNil)))))))) (zNx)) (zSeq (zSet 14 5 (zLc (ziL 14 (zCall d__law_makers zNil)) (gN 6) (zTst (zOp eqD (zIx (zVar 6) (zC (.int 3))) (zVar 0))) (zVar 6) [6])) (zSeq (zSet 14 6 (zIx (zVar 5) (zOp modD (zOp divD (zCallS intU (zCons (zVar 1) (zNil))) (zC (.int 12))) (zCallS lenD (zCons (zVar 5) (zNil)))))) (zSeq (zSet 14 7 (zIx (zLst (zCons (zC (.str [98, 111, 111, 108])) (zCons (zC (.str [105, 110, 116])) (zCons (zC (.str [116, 101, 120, 116])) (zCons (zC (.str [100, 97, 116, 101])) (zCons (zC (.str [100, 101, 99, 105, 109, 97, 108])) (zNil))))))) (zOp modD (zOp divD (zVar 4) (zC (.int 64))) (zC (.int 5))))) (zSeq (zSet 14 8 (zLst (zNil))) (zSeq (zFor 14 (ziR1 (zCons (zCallS lenD (zCons (zIx (zVar 6) (zC (.int 2))) (zNil))) (zNil))) (gN 9) ((lb__law_kinded_1 F))) (zRet (z_tuple (zCons (zCatL (zLst (zCons (zIx (zVar 6) (zC (.int 0))) (zCons (zIx (zVar 6) (zC (.int 1))) (zNil)))) (zVar 8)) (zNil))))))))))))
def d__law_kinded : Nat → List D → Option FR
  | 0 => fun _ => none
  | q + 1 => runP 14 4 (b__law_kinded (d__law_kinded q))
set_option maxHeartbeats 4000000 in
theorem ok__law_kinded (h : DefAt K mg "_law_kinded" st__law_kinded) (m_int : mg "int" = none) (m_len : mg "len" = none) (m_range : mg "range" = none) (m_tuple : mg "tuple" = none) (c__law_leaf : Cal P w K mg base 2 "_law_leaf" (spP K d__law_leaf)) (c__law_makers : Cal P w K mg base 1 "_law_makers" (spP K d__law_makers)) : ∀ q : Nat, Cal P w K mg base (3 + q) "_law_kinded" (spP K (d__law_kinded q)) := by
  obtain ⟨a, fd, h1, F⟩ := h
  intro q
  induction q with
  | zero => exact ⟨a, fd, _, h1, F.kp, F.binds (ps := ["_law_kind_here", "_law_number", "_law_depth", "_law_columns"]) fun _ _ _ _ _ _ us hl => match us, hl with | [_, _, _, _], _ => rfl, okN⟩
  | succ q cR =>
    show Cal P w K mg base (3 + q + 1) "_law_kinded" (spP K (runP 14 4 (b__law_kinded (d__law_kinded q))))
    exact ⟨a, fd, _, h1, F.kp, F.binds (ps := ["_law_kind_here", "_law_number", "_law_depth", "_law_columns"]) fun _ _ _ _ _ _ us hl => match us, hl with | [_, _, _, _], _ => rfl, okP F sc__law_kinded fun cdv A outer s0 H E hr =>
    zss_cons (zs_set (i := 4) sc__law_kinded.nd rfl (Or.inl rfl) (ze_op o_div s_div (ze_callTy call_intU s_intU (by rfl) m_int (by decide +kernel) (za_cons (ze_var rfl (pv 1)) (za_nil))) (ze_int))) (zss_cons (zs_if (zt_w (zw_or (zt_cmp (o_eq hr) s_eq (ze_var rfl (pv 2)) (ze_int) (nomark _)) (zw_or1 (zt_cmp (o_ltX hr) s_ltX (ze_op o_mod s_mod (ze_callTy call_intU s_intU (by rfl) m_int (by decide +kernel) (za_cons (ze_var rfl (pv 1)) (za_nil))) (ze_int)) (ze_int) (nomark _))))) (zss_one (zs_ret (ze_call (c__law_leaf.mono (by omega)) hr (za_cons (ze_var rfl (pv 0)) (za_cons (ze_var rfl (pv 4)) (za_cons (ze_var rfl (pv 3)) (za_nil))))))) (zss_nil)) (zss_cons (zs_if (zt_cmp (o_eq hr) s_eq (ze_op o_mod s_mod (ze_callTy call_intU s_intU (by rfl) m_int (by decide +kernel) (za_cons (ze_var rfl (pv 1)) (za_nil))) (ze_int)) (ze_int) (nomark _)) (zss_cons (zs_set (i := 10) sc__law_kinded.nd rfl (Or.inl rfl) (ze_call cR hr (za_cons (ze_str) (za_cons (ze_op o_add s_add (ze_op o_div s_div (ze_var rfl (pv 4)) (ze_int)) (ze_int)) (za_cons (ze_op op_sub s_sub (ze_var rfl (pv 2)) (ze_int)) (za_cons (ze_var rfl (pv 3)) (za_nil))))))) (zss_cons (zs_set (i := 11) sc__law_kinded.nd rfl (Or.inl rfl) (ze_call cR hr (za_cons (ze_var rfl (pv 0)) (za_cons (ze_op o_add s_add (ze_op o_div s_div (ze_var rfl (pv 4)) (ze_int)) (ze_int)) (za_cons (ze_op op_sub s_sub (ze_var rfl (pv 2)) (ze_int)) (za_cons (ze_var rfl (pv 3)) (za_nil))))))) (zss_cons (zs_if (zt_cmp (o_eq hr) s_eq (ze_op o_mod s_mod (ze_var rfl (pv 4)) (ze_int)) (ze_int) (nomark _)) (zss_one (zs_set (i := 11) sc__law_kinded.nd rfl (Or.inl rfl) (ze_tup (za_cons (ze_str) (za_cons (ze_non) (za_nil)))))) (zss_nil)) (zss_one (zs_ret (ze_tup (za_cons (ze_str) (za_cons (ze_var rfl (pv 10)) (za_cons (ze_call cR hr (za_cons (ze_var rfl (pv 0)) (za_cons (ze_op o_add s_add (ze_op o_div s_div (ze_var rfl (pv 4)) (ze_int)) (ze_int)) (za_cons (ze_op op_sub s_sub (ze_var rfl (pv 2)) (ze_int)) (za_cons (ze_var rfl (pv 3)) (za_nil)))))) (za_cons (ze_var rfl (pv 11)) (za_nil))))))))))) (zss_nil)) (zss_cons (zs_if (zt_cmp (o_eq hr) s_eq (ze_op o_mod s_mod (ze_callTy call_intU s_intU (by rfl) m_int (by decide +kernel) (za_cons (ze_var rfl (pv 1)) (za_nil))) (ze_int)) (ze_int) (nomark _)) (zss_cons (zs_set (i := 12) sc__law_kinded.nd rfl (Or.inl rfl) (ze_ix (ze_lst (za_cons (ze_str) (za_cons (ze_str) (za_cons (ze_str) (za_nil))))) (ze_op o_mod s_mod (ze_var rfl (pv 4)) (ze_int)))) (zss_one (zs_ret (ze_tup (za_cons (ze_str) (za_cons (ze_var rfl (pv 12)) (za_cons (ze_call cR hr (za_cons (ze_var rfl (pv 0)) (za_cons (ze_op o_add s_add (ze_op o_div s_div (ze_var rfl (pv 4)) (ze_int)) (ze_int)) (za_cons (ze_op op_sub s_sub (ze_var rfl (pv 2)) (ze_int)) (za_cons (ze_var rfl (pv 3)) (za_nil)))))) (za_cons (ze_call cR hr (za_cons (ze_var rfl (pv 0)) (za_cons (ze_op o_add s_add (ze_op o_div s_div (ze_var rfl (pv 4)) (ze_int)) (ze_int)) (za_cons (ze_op op_sub s_sub (ze_var rfl (pv 2)) (ze_int)) (za_cons (ze_var rfl (pv 3)) (za_nil)))))) (za_nil))))))))) (zss_nil)) (zss_cons (zs_setLc (i := 5) rfl rfl (sw_true rfl rfl rfl (by decide +kernel)) (own := [("_law_row", 6)]) rfl sc__law_kinded.nd (zi_list (ze_call0 (c__law_makers.mono (by omega)) hr)) (blkOk_by (N := ["_law_kind_here", "_law_number", "_law_depth", "_law_columns", "_law_rest", "_law_rows", "_law_row", "_law_other", "_law_parts", "_law_k", "_law_first", "_law_last", "_law_name", "_law_wanted"]) (own := [("_law_row", 6)]) (sc := defScope st__law_kinded) (by decide +kernel)) (fun _ _ _ _ _ => zgw_name (i := 6) sc__law_kinded.nd rfl (Or.inl rfl) (by decide)) (fun _ _ _ _ _ => zts_one (zt_cmp (o_eq hr) s_eq (ze_ix (ze_var rfl (pv 6)) (ze_int)) (ze_var rfl (pv 0)) (nomark _))) (fun _ _ _ _ _ => ze_var rfl (pv 6))) (zss_cons (zs_set (i := 6) sc__law_kinded.nd rfl (Or.inl rfl) (ze_ix (ze_var rfl (pv 5)) (ze_op o_mod s_mod (ze_op o_div s_div (ze_callTy call_intU s_intU (by rfl) m_int (by decide +kernel) (za_cons (ze_var rfl (pv 1)) (za_nil))) (ze_int)) (ze_callB call_len s_len (by rfl) m_len PySem.boot_len (za_cons (ze_var rfl (pv 5)) (za_nil)))))) (zss_cons (zs_set (i := 7) sc__law_kinded.nd rfl (Or.inl rfl) (ze_ix (ze_lst (za_cons (ze_str) (za_cons (ze_str) (za_cons (ze_str) (za_cons (ze_str) (za_cons (ze_str) (za_nil))))))) (ze_op o_mod s_mod (ze_op o_div s_div (ze_var rfl (pv 4)) (ze_int)) (ze_int)))) (zss_cons (zs_set (i := 8) sc__law_kinded.nd rfl (Or.inl rfl) (ze_lst (za_nil))) (zss_cons (zs_for PassesOwn.never rfl (zi_range1 (by rfl) m_range (za_cons (ze_callB call_len s_len (by rfl) m_len PySem.boot_len (za_cons (ze_ix (ze_var rfl (pv 6)) (ze_int)) (za_nil))) (za_nil))) (zg_name (i := 9) sc__law_kinded.nd rfl (Or.inl rfl)) (zss_fg (vs := [9, 13]) (zss_cons (zs_set (i := 13) sc__law_kinded.nd rfl (Or.inl rfl) (ze_ix (ze_ix (ze_var rfl (pv 6)) (ze_int)) (ze_var rfl (pv 9)))) (zss_cons (zs_if (zt_cmp (o_eq hr) s_eq (ze_var rfl (pv 13)) (ze_str) (nomark _)) (zss_one (zs_set (i := 13) sc__law_kinded.nd rfl (Or.inl rfl) (ze_var rfl (pv 7)))) (zss_nil)) (zss_one (zs_app (ze_var rfl (pv 8)) (ze_call cR hr (za_cons (ze_var rfl (pv 13)) (za_cons (ze_op o_add s_add (ze_op o_add s_add (ze_op o_div s_div (ze_var rfl (pv 4)) (ze_ix (ze_lst (za_cons (ze_int) (za_cons (ze_int) (za_cons (ze_int) (za_nil))))) (ze_var rfl (pv 9)))) (ze_op o_mul s_mul (ze_int) (ze_var rfl (pv 9)))) (ze_int)) (za_cons (ze_op op_sub s_sub (ze_var rfl (pv 2)) (ze_int)) (za_cons (ze_var rfl (pv 3)) (za_nil)))))))))))) (zss_one (zs_ret (ze_tuple hr (by rfl) m_tuple (za_cons (ze_catL (ze_lst (za_cons (ze_ix (ze_var rfl (pv 6)) (ze_int)) (za_cons (ze_ix (ze_var rfl (pv 6)) (ze_int)) (za_nil)))) (ze_var rfl (pv 8))) (za_nil)))))))))))))⟩
abbrev st__law_exchanged : Stmt := topS 32
theorem sc__law_exchanged : FnScope ["_law_expression_here", "_law_number"] ["_law_expression_here", "_law_number"] (defScope st__law_exchanged) := ⟨rfl, rfl, rfl, by decide +kernel, rfl, by decide +kernel, by decide +kernel⟩
def b__law_exchanged : SM := zSeq (zIfS 2 (zTst (zOp eqD (zIx (zVar 0) (zC (.int 0))) (zC (.str [117, 110, 97, 114, 121])))) (zRet (zTup (zCons (zC (.str [117, 110, 97, 114, 121])) (zCons (zIx (zC c_UNARY) (zOp modD (zCallS intU (zCons (zVar 1) (zNil))) (zC (.int 26)))) (zCons (zIx (zVar 0) (zC (.int 2))) (zNil)))))) (zNx)) (zSeq (zIfS 2 (zTst (zOp eqD (zIx (zVar 0) (zC (.int 0))) (zC (.str [98, 105, 110, 97, 114, 121])))) (zRet (zTup (zCons (zC (.str [98, 105, 110, 97, 114, 121])) (zCons (zIx (zC c_BINARY) (zOp modD (zCallS intU (zCons (zVar 1) (zNil))) (zC (.int 21)))) (zCons (zIx (zVar 0) (zC (.int 2))) (zCons (zIx (zVar 0) (zC (.int 3))) (zNil))))))) (zNx)) (zRet (zVar 0)))
def d__law_exchanged : List D → Option FR := runP 2 2 b__law_exchanged
set_option maxHeartbeats 4000000 in
theorem ok__law_exchanged (h : DefAt K mg "_law_exchanged" st__law_exchanged) (m_int : mg "int" = none) (hc_UNARY : ConstD K mg "UNARY" c_UNARY) (hc_BINARY : ConstD K mg "BINARY" c_BINARY) : Cal P w K mg base 1 "_law_exchanged" (spP K d__law_exchanged) := by
  obtain ⟨a, fd, h1, F⟩ := h
  exact ⟨a, fd, _, h1, F.kp, F.binds (ps := ["_law_expression_here", "_law_number"]) fun _ _ _ _ _ _ us hl => match us, hl with | [_, _], _ => rfl, okP F sc__law_exchanged fun cdv A outer s0 H E hr =>
    zss_cons (zs_if (zt_cmp (o_eq hr) s_eq (ze_ix (ze_var rfl (pv 0)) (ze_int)) (ze_str) (nomark _)) (zss_one (zs_ret (ze_tup (za_cons (ze_str) (za_cons (ze_ix (ze_cd hc_UNARY) (ze_op o_mod s_mod (ze_callTy call_intU s_intU (by rfl) m_int (by decide +kernel) (za_cons (ze_var rfl (pv 1)) (za_nil))) (ze_int))) (za_cons (ze_ix (ze_var rfl (pv 0)) (ze_int)) (za_nil))))))) (zss_nil)) (zss_cons (zs_if (zt_cmp (o_eq hr) s_eq (ze_ix (ze_var rfl (pv 0)) (ze_int)) (ze_str) (nomark _)) (zss_one (zs_ret (ze_tup (za_cons (ze_str) (za_cons (ze_ix (ze_cd hc_BINARY) (ze_op o_mod s_mod (ze_callTy call_intU s_intU (by rfl) m_int (by decide +kernel) (za_cons (ze_var rfl (pv 1)) (za_nil))) (ze_int))) (za_cons (ze_ix (ze_var rfl (pv 0)) (ze_int)) (za_cons (ze_ix (ze_var rfl (pv 0)) (ze_int)) (za_nil)))))))) (zss_nil)) (zss_one (zs_ret (ze_var rfl (pv 0)))))⟩
abbrev st_law : Stmt := topS 33
theorem sc_law : FnScope ["_law_script", "_law_numbers_here", "_law_columns", "_law_kept", "_law_due", "_law_told", "_law_expression_here", "_law_kind_here"] ["_law_script"] (defScope st_law) := ⟨rfl, rfl, rfl, by decide +kernel, rfl, by decide +kernel, by decide +kernel⟩
def b_law : SM := zSeq (zSet 8 1 (zCall d__law_numbers (zCons (zVar 0) (zCons (zC (.int 12)) (zNil))))) (zSeq (zSet 8 2 (zCall d__law_columns_of (zCons (zVar 1) (zCons (zC (.int 0)) (zCons (zC (.int 5)) (zNil)))))) (zSeq (zIfS 8 (zTst (zOp eqD (zOp modD (zCallS intU (zCons (zIx (zVar 1) (zC (.int 5))) (zNil))) (zC (.int 2))) (zC (.int 0)))) (zSet 8 6 (zCall d__law_drawn (zCons (zVar 1) (zCons (zC (.int 6)) (zCons (zOp addS (zC (.int 1)) (zOp modD (zOp divD (zCallS intU (zCons (zIx (zVar 1) (zC (.int 5))) (zNil))) (zC (.int 2))) (zC (.int 4)))) (zCons (zC (.int 6)) (zNil))))))) (zSeq (zSet 8 7 (zIx (zLst (zCons (zC (.str [98, 111, 111, 108])) (zCons (zC (.str [105, 110, 116])) (zCons (zC (.str [116, 101, 120, 116])) (zCons (zC (.str [100, 97, 116, 101])) (zCons (zC (.str [100, 101, 99, 105, 109, 97, 108])) (zNil))))))) (zOp modD (zOp divD (zCallS intU (zCons (zIx (zVar 1) (zC (.int 5))) (zNil))) (zC (.int 2))) (zC (.int 5))))) (zSeq (zSet 8 6 (zCall (d__law_kinded 40) (zCons (zVar 7) (zCons (zIx (zVar 1) (zC (.int 6))) (zCons (zOp addS (zC (.int 1)) (zOp modD (zOp divD (zCallS intU (zCons (zIx (zVar 1) (zC (.int 5))) (zNil))) (zC (.int 10))) (zC (.int 3)))) (zCons (zVar 2) (zNil))))))) (zIfS 8 (zTst (zOp eqD (zOp modD (zCallS intU (zCons (zIx (zVar 1) (zC (.int 10))) (zNil))) (zC (.int 3))) (zC (.int 0)))) (zSet 8 6 (zCall d__law_exchanged (zCons (zVar 6) (zCons (zIx (zVar 1) (zC (.int 11))) (zNil))))) (zNx))))) (zSeq (zSet 8 3 (zTup (zCons (zCallS reprD (zCons (zVar 6) (zNil))) (zCons (zCallS reprD (zCons (zVar 2) (zNil))) (zNil))))) (zSeq (zSet 8 4 (zCall (d__law_kind 40) (zCons (zVar 6) (zCons (zVar 2) (zNil))))) (zSeq (zSet 8 5 (zCall (d_kind_of 40) (zCons (zVar 6) (zCons (zVar 2) (zNil))))) (zSeq (zIfS 8 (zOrT (zTst (zOp neqD (z_list (zCons (zC c_KINDS) (zNil))) (zLst (zCons (zC (.str [98, 111, 111, 108])) (zCons (zC (.str [105, 110, 116])) (zCons (zC (.str [116, 101, 120, 116])) (zCons (zC (.str [100, 97, 116, 101])) (zCons (zC (.str [100, 101, 99, 105, 109, 97, 108])) (zNil))))))))) (zTst (zOp neqD (zTup (zCons (zCallS reprD (zCons (zVar 6) (zNil))) (zCons (zCallS reprD (zCons (zVar 2) (zNil))) (zNil)))) (zVar 3)))) (zRet (zC (.bl false))) (zNx)) (zSeq (zIfS 8 (zTst (zOp isD (zVar 4) (zC .non))) (zRet (zOp isD (zVar 5) (zC .non))) (zNx)) (zSeq (zIfS 8 (zOrT (zNotT (zTru (zCallS isiD (zCons (zVar 5) (zCons (zC (.raw (.ty "tuple"))) (zNil)))))) (zOrT (zTst (zOp neqD (zCallS lenD (zCons (zVar 5) (zNil))) (zC (.int 2)))) (zTst (zOp neqD (zIx (zVar 5) (zC (.int 0))) (zIx (zVar 4) (zC (.int 0))))))) (zRet (zC (.bl false))) (zNx)) (zSeq (zIfS 8 (zTru (zIx (zVar 4) (zC (.int 1)))) (zRet (zOp isD (zIx (zVar 5) (zC (.int 1))) (zC (.bl true)))) (zNx)) (zRet (zOp isD (zIx (zVar 5) (zC (.int 1))) (zC (.bl false)))))))))))))
def d_law : List D → Option FR := runP 8 1 b_law
set_option maxHeartbeats 4000000 in
theorem ok_law {f : Addr} {fd : FuncData} (F : Fun K "law" "law" st_law f fd) (m_int : mg "int" = none) (m_isinstance : mg "isinstance" = none) (m_len : mg "len" = none) (m_list : mg "list" = none) (m_repr : mg "repr" = none) (m_tuple : mg "tuple" = none) (hc_KINDS : ConstD K mg "KINDS" c_KINDS) (c__law_numbers : Cal P w K mg base 1 "_law_numbers" (spP K d__law_numbers)) (c__law_columns_of : Cal P w K mg base 1 "_law_columns_of" (spP K d__law_columns_of)) (c__law_kind : Cal P w K mg base 42 "_law_kind" (spP K (d__law_kind 40))) (c_kind_of : Cal P w K mg base 82 "kind_of" (spP K (d_kind_of 40))) (c__law_drawn : Cal P w K mg base 44 "_law_drawn" (spP K d__law_drawn)) (c__law_kinded : Cal P w K mg base 43 "_law_kinded" (spP K (d__law_kinded 40))) (c__law_exchanged : Cal P w K mg base 1 "_law_exchanged" (spP K d__law_exchanged)) : FnA P w K mg base callerA f fd ["_law_script"] (spP K d_law) :=
  okA (k := 82) F sc_law ⟨rfl, by decide, by decide⟩ fun cdv outer s0 H E hr =>
    zss_cons (zs_set (i := 1) sc_law.nd rfl (Or.inl rfl) (ze_call (c__law_numbers.mono (by decide)) hr (za_cons (ze_var rfl (pv 0)) (za_cons (ze_int) (za_nil))))) (zss_cons (zs_set (i := 2) sc_law.nd rfl (Or.inl rfl) (ze_call (c__law_columns_of.mono (by decide)) hr (za_cons (ze_var rfl (pv 1)) (za_cons (ze_int) (za_cons (ze_int) (za_nil)))))) (zss_cons (zs_if (zt_cmp (o_eq hr) s_eq (ze_op o_mod s_mod (ze_callTy call_intU s_intU (by rfl) m_int (by decide +kernel) (za_cons (ze_ix (ze_var rfl (pv 1)) (ze_int)) (za_nil))) (ze_int)) (ze_int) (nomark _)) (zss_one (zs_set (i := 6) sc_law.nd rfl (Or.inl rfl) (ze_call (c__law_drawn.mono (by decide)) hr (za_cons (ze_var rfl (pv 1)) (za_cons (ze_int) (za_cons (ze_op o_add s_add (ze_int) (ze_op o_mod s_mod (ze_op o_div s_div (ze_callTy call_intU s_intU (by rfl) m_int (by decide +kernel) (za_cons (ze_ix (ze_var rfl (pv 1)) (ze_int)) (za_nil))) (ze_int)) (ze_int))) (za_cons (ze_int) (za_nil)))))))) (zss_cons (zs_set (i := 7) sc_law.nd rfl (Or.inl rfl) (ze_ix (ze_lst (za_cons (ze_str) (za_cons (ze_str) (za_cons (ze_str) (za_cons (ze_str) (za_cons (ze_str) (za_nil))))))) (ze_op o_mod s_mod (ze_op o_div s_div (ze_callTy call_intU s_intU (by rfl) m_int (by decide +kernel) (za_cons (ze_ix (ze_var rfl (pv 1)) (ze_int)) (za_nil))) (ze_int)) (ze_int)))) (zss_cons (zs_set (i := 6) sc_law.nd rfl (Or.inl rfl) (ze_call (c__law_kinded.mono (by decide)) hr (za_cons (ze_var rfl (pv 7)) (za_cons (ze_ix (ze_var rfl (pv 1)) (ze_int)) (za_cons (ze_op o_add s_add (ze_int) (ze_op o_mod s_mod (ze_op o_div s_div (ze_callTy call_intU s_intU (by rfl) m_int (by decide +kernel) (za_cons (ze_ix (ze_var rfl (pv 1)) (ze_int)) (za_nil))) (ze_int)) (ze_int))) (za_cons (ze_var rfl (pv 2)) (za_nil))))))) (zss_one (zs_if (zt_cmp (o_eq hr) s_eq (ze_op o_mod s_mod (ze_callTy call_intU s_intU (by rfl) m_int (by decide +kernel) (za_cons (ze_ix (ze_var rfl (pv 1)) (ze_int)) (za_nil))) (ze_int)) (ze_int) (nomark _)) (zss_one (zs_set (i := 6) sc_law.nd rfl (Or.inl rfl) (ze_call (c__law_exchanged.mono (by decide)) hr (za_cons (ze_var rfl (pv 6)) (za_cons (ze_ix (ze_var rfl (pv 1)) (ze_int)) (za_nil)))))) (zss_nil)))))) (zss_cons (zs_set (i := 3) sc_law.nd rfl (Or.inl rfl) (ze_tup (za_cons (ze_callB (call_reprR rfl hr) s_repr (by rfl) m_repr (by decide +kernel) (za_cons (ze_var rfl (pv 6)) (za_nil))) (za_cons (ze_callB (call_reprR rfl hr) s_repr (by rfl) m_repr (by decide +kernel) (za_cons (ze_var rfl (pv 2)) (za_nil))) (za_nil))))) (zss_cons (zs_set (i := 4) sc_law.nd rfl (Or.inl rfl) (ze_call (c__law_kind.mono (by decide)) hr (za_cons (ze_var rfl (pv 6)) (za_cons (ze_var rfl (pv 2)) (za_nil))))) (zss_cons (zs_set (i := 5) sc_law.nd rfl (Or.inl rfl) (ze_call (c_kind_of.mono (by decide)) hr (za_cons (ze_var rfl (pv 6)) (za_cons (ze_var rfl (pv 2)) (za_nil))))) (zss_cons (zs_if (zt_w (zw_or (zt_cmp (o_ne hr) s_ne (ze_list hr (by rfl) m_list (za_cons (ze_cd hc_KINDS) (za_nil))) (ze_lst (za_cons (ze_str) (za_cons (ze_str) (za_cons (ze_str) (za_cons (ze_str) (za_cons (ze_str) (za_nil))))))) (nomark _)) (zw_or1 (zt_cmp (o_ne hr) s_ne (ze_tup (za_cons (ze_callB (call_reprR rfl hr) s_repr (by rfl) m_repr (by decide +kernel) (za_cons (ze_var rfl (pv 6)) (za_nil))) (za_cons (ze_callB (call_reprR rfl hr) s_repr (by rfl) m_repr (by decide +kernel) (za_cons (ze_var rfl (pv 2)) (za_nil))) (za_nil)))) (ze_var rfl (pv 3)) (nomark _))))) (zss_one (zs_ret (ze_bl))) (zss_nil)) (zss_cons (zs_if (zt_cmp o_is s_is (ze_var rfl (pv 4)) (ze_non) (nomark _)) (zss_one (zs_ret (ze_cmp o_is s_is (ze_var rfl (pv 5)) (ze_non) (nomark _)))) (zss_nil)) (zss_cons (zs_if (zt_w (zw_or (zt_not (zt_truth (ze_callB call_isiU s_isi (by rfl) m_isinstance (by decide +kernel) (za_cons (ze_var rfl (pv 5)) (za_cons (ze_bltn (by rfl) m_tuple (by decide +kernel) rfl) (za_nil)))))) (zw_or (zt_cmp (o_ne hr) s_ne (ze_callB call_len s_len (by rfl) m_len PySem.boot_len (za_cons (ze_var rfl (pv 5)) (za_nil))) (ze_int) (nomark _)) (zw_or1 (zt_cmp (o_ne hr) s_ne (ze_ix (ze_var rfl (pv 5)) (ze_int)) (ze_ix (ze_var rfl (pv 4)) (ze_int)) (nomark _)))))) (zss_one (zs_ret (ze_bl))) (zss_nil)) (zss_cons (zs_if (zt_truth (ze_ix (ze_var rfl (pv 4)) (ze_int))) (zss_one (zs_ret (ze_cmp o_is s_is (ze_ix (ze_var rfl (pv 5)) (ze_int)) (ze_bl) (nomark _)))) (zss_nil)) (zss_one (zs_ret (ze_cmp o_is s_is (ze_ix (ze_var rfl (pv 5)) (ze_int)) (ze_bl) (nomark _)))))))))))))
end
end Qk14
set_option Elab.async false
set_option linter.all false
set_option maxRecDepth 100000
set_option maxHeartbeats 4000000
namespace Qk14
open PySem PySem.Spec PyProof.Rows L2 Z
local macro_rules | `(tactic| walk_at "l") => `(tactic| first | (simp only [wipeG_nil, wipeG_cons, List.set_cons_succ, List.set_cons_zero, List.take_succ_cons, List.take_zero, List.take_nil, List.cons_append, List.nil_append, List.length_cons, List.length_nil, List.set_nil, List.getElem?_cons_zero, List.getElem?_cons_succ, Nat.zero_add, Nat.reduceAdd]; first | done | exact rfl) | exact rfl)
local macro_rules | `(tactic| walk_at "d") => `(tactic| first
  | with_reducible assumption
  | (with_reducible apply dr_div) <;> decide
  | (with_reducible apply dr_mod) <;> decide
  | (with_reducible apply dr_mulr); decide
  | (with_reducible apply dr_mull); decide
  | (with_reducible apply dr_divB) <;> omega
  | (with_reducible apply dr_mulrB) <;> omega
  | (with_reducible apply dr_mullB) <;> omega
  | (with_reducible apply dr_mulC) <;> omega
  | (with_reducible apply dr_mod) <;> omega
  | (with_reducible refine isi_of ?_ ?_); (exact rfl); (first | exact kb_int_int | exact kb_int_bool | exact kb_bool_bool | exact kb_bool_int | exact kb_str_int | exact kb_str_bool | exact kb_str_str | exact kb_int_str | exact kb_bool_str | exact kb_non_int | exact kb_non_bool | exact kb_non_str | exact kb_list_list | exact kb_tuple_tuple | exact kb_list_tuple | exact kb_tuple_list)
  | with_reducible exact dr_abs
  | (with_reducible exact dr_neL _ _)
  | (simp only [Cn.d]; with_reducible assumption)
  | (simp only [Cn.d]; with_reducible exact dr_neL _ _)
  | with_reducible exact in_ints _ _
  | (simp only [Cn.d]; with_reducible exact in_ints _ _)
  | ((with_reducible apply dr_cat); (try simp only [List.length_append, List.length_cons, List.length_nil]); omega)
  | with_reducible exact dr_eqI
  | with_reducible exact dr_eqB
  | with_reducible exact dr_neB
  | with_reducible exact dr_eqS
  | with_reducible exact dr_neI
  | with_reducible exact dr_neS
  | exact rfl)
local macro_rules | `(tactic| walk_at "c") => `(tactic| first | with_reducible assumption | (simp only [Cn.d]; with_reducible assumption))
local macro_rules | `(tactic| walk_at "e") => `(tactic| first
  | with_reducible exact er_C
  | with_reducible exact er_nil
  | (with_reducible apply er_varD); exact rfl
  | (with_reducible apply er_varO); exact rfl
  | (with_reducible apply er_varF); exact rfl
  | (with_reducible apply er_op); walk_at "e"; walk_at "e"; exact rfl; exact rfl; walk_at "d"; exact rfl
  | (with_reducible apply er_chain); walk_at "e"; walk_at "e"; exact rfl; exact rfl; walk_at "d"; (intro _h; walk_at "e"); exact rfl; walk_at "d"
  | (with_reducible apply er_slS); walk_at "e"; walk_at "o"; walk_at "o"; exact rfl; walk_at "z"
  | (with_reducible apply er_slL); walk_at "e"; walk_at "o"; walk_at "o"; exact rfl
  | (with_reducible apply er_list); walk_at "e"; exact rfl; exact rfl
  | (with_reducible apply er_tupL); walk_at "e"; exact rfl
  | (with_reducible apply er_un); walk_at "e"; exact rfl; exact rfl; exact rfl
  | (with_reducible apply er_tst); walk_at "e"
  | (with_reducible apply er_tru); walk_at "e"; exact rfl; exact rfl
  | (with_reducible apply er_andT); walk_at "e"; (intro _h; walk_at "e")
  | (with_reducible apply er_orT); walk_at "e"; (intro _h; walk_at "e")
  | (with_reducible apply er_andTT); walk_at "e"; exact rfl; walk_at "e"
  | (with_reducible apply er_orTF); walk_at "e"; exact rfl; walk_at "e"
  | (with_reducible apply er_notT); walk_at "e"
  | (with_reducible apply er_andV); walk_at "e"; (intro _h; walk_at "e")
  | (with_reducible apply er_orV); walk_at "e"; (intro _h; walk_at "e")
  | (with_reducible apply er_notV); walk_at "e"
  | (with_reducible apply er_andVT); walk_at "e"; exact rfl; walk_at "e"
  | (with_reducible apply er_orVF); walk_at "e"; exact rfl; walk_at "e"
  | (with_reducible apply er_ix); walk_at "e"; walk_at "e"; exact rfl; walk_at "x"
  | (with_reducible apply er_callS); walk_at "e"; exact rfl; walk_at "d"; exact rfl
  | (with_reducible apply er_cons); walk_at "e"; walk_at "e"
  | (with_reducible apply er_callG); walk_at "e"; exact rfl; exact rfl; walk_at "c"; exact rfl
  | (with_reducible apply er_callH); walk_at "e"; exact rfl; exact rfl; walk_at "c"; exact rfl
  | (with_reducible apply er_callV); walk_at "e"; exact rfl; walk_at "c"; exact rfl
  | (with_reducible apply er_callGF); walk_at "e"; exact rfl; exact rfl; walk_at "c"; exact rfl
  | (with_reducible apply er_callHF); walk_at "e"; exact rfl; exact rfl; walk_at "c"; exact rfl
  | (with_reducible apply er_callM); walk_at "e"; exact rfl; exact rfl; exact rfl; exact rfl; exact rfl; walk_at "c"; exact rfl
  | (with_reducible apply er_catL); walk_at "e"; walk_at "e"; exact rfl; exact rfl; walk_at "z"
  | (with_reducible apply er_mt); walk_at "e"; exact rfl; exact rfl; walk_at "e"; exact rfl; exact rfl; walk_at "m"; exact rfl
  | (with_reducible apply er_tup); walk_at "e"; exact rfl; walk_at "z" 
  | (with_reducible apply er_lst); walk_at "e"; exact rfl; walk_at "z")
local macro_rules | `(tactic| walk_at "o") => `(tactic| first | exact er_zoN | ((with_reducible apply er_zoS); walk_at "e"))
local macro_rules | `(tactic| walk_at "x") => `(tactic| first | with_reducible assumption | (simp only [Cn.d]; with_reducible assumption) | exact rfl)
local macro_rules | `(tactic| walk_at "m") => `(tactic| first | with_reducible assumption | (simp only [Cn.d]; with_reducible assumption) | exact rfl)
local macro_rules | `(tactic| walk_at "st") => `(tactic| first
  | ((with_reducible apply set_dat); (walk_at "e"); (exact rfl); walk_at "l")
  | ((with_reducible apply set_own); (walk_at "e"); (exact Nat.le_of_ble_eq_true rfl); (exact rfl); (exact rfl); walk_at "l")
  | ((with_reducible apply asg_run); (walk_at "e"); (exact rfl); walk_at "l")
  | ((with_reducible apply aug_run); (exact rfl); (exact rfl); (walk_at "e"); (exact rfl); (walk_at "d"); (exact rfl); (exact rfl); walk_at "l")
  | ((with_reducible apply sto_run); (walk_at "e"); (walk_at "e"); (walk_at "e"); (exact rfl); (walk_at "x"); walk_at "l")
  | ((with_reducible apply app_run); (walk_at "e"); (exact rfl); (walk_at "e"); (exact rfl); (exact rfl); (walk_at "z"); walk_at "l"))
local macro_rules | `(tactic| walk_at "z") => `(tactic| first | assumption | exact Nat.le_of_ble_eq_true rfl | (simp; omega))
local macro_rules | `(tactic| walk_at "s") => `(tactic| first
  | with_reducible apply sr_nx
  | with_reducible apply sr_assoc
  | with_reducible apply ap_fg
  | ((with_reducible apply fgK_nx); (exact rfl); (walk_at "l"); skip)
  | ((with_reducible apply fgK_ct); (exact rfl); (walk_at "l"); skip)
  | ((with_reducible apply fgK_bk); (exact rfl); (walk_at "l"); skip)
  | with_reducible apply fgK_ret
  | with_reducible apply sr_bk1
  | with_reducible apply sr_ct1
  | with_reducible apply sr_nx1
  | with_reducible apply sr_ct
  | with_reducible apply sr_bk
  | (with_reducible apply sr_retS); (walk_at "e"); skip
  | (with_reducible apply sr_ret); (walk_at "e"); skip
  | (with_reducible apply sr_if); (walk_at "e"); (walk_at "l")
  | (with_reducible apply sr_if1); (walk_at "e"); (walk_at "l")
  | (with_reducible apply seq_nx); (walk_at "st")
  | (with_reducible apply one_nx); (walk_at "st"))
local macro_rules | `(tactic| walk_at "r") => `(tactic| repeat' (first | (intro _) | walk_at "s"))
local macro_rules | `(tactic| walk_at "k") => `(tactic| (intro q; (try simp only [decide_eq_true_eq, decide_eq_false_iff_not, beq_iff_eq, beq_eq_false_iff_ne, ne_eq, Bool.not_eq_true', Bool.not_eq_false', Bool.and_eq_true, Bool.or_eq_true, Bool.and_eq_false_iff, Bool.or_eq_false_iff, Int.not_lt, Int.not_le, List.cons.injEq, and_true, reduceCtorEq, beq_self_eq_true, Bool.not_true, Bool.not_false, Bool.or_false, Bool.false_or, Bool.or_true, Bool.true_or, Bool.and_false, Bool.false_and, Bool.and_true, Bool.true_and, not_true_eq_false, Bool.false_eq_true] at q) <;> (try (exfalso; first | (cases q; done) | omega | contradiction))))
local macro_rules | `(tactic| walk_at "w") => `(tactic| repeat' (first | (walk_at "k") | walk_at "s"))
def codesOf : D → List (List Nat)
  | .tup l => l.filterMap fun d => match d with
    | .str s => some s
    | _ => none
  | _ => []
def KS : List (List Nat) := [[98, 111, 111, 108], [105, 110, 116], [116, 101, 120, 116], [100, 97, 116, 101], [100, 101, 99, 105, 109, 97, 108]]
def NU : List (List Nat) := codesOf c_UNARY
def NB : List (List Nat) := codesOf c_BINARY
def NT : List (List Nat) := codesOf c_TERNARY
/-- both tell None, or both the same kind of the five -/
def alike : Option FR → Option FR → Bool
  | some (.dat .non), some (.dat .non) => true
  | some (.dat (.tup [.str t, .bl b])), some (.dat (.tup [.str u, .bl c])) => (t == u && b == c) && KS.contains t
  | _, _ => false
theorem un_all : (NU.all fun nm => KS.all fun t => [true, false].all fun b => alike (d_unary_kind [.str nm, .tup [.str t, .bl b]]) (d__law_unary_kind [.str nm, .tup [.str t, .bl b]])) = true := by decide +kernel
theorem bin_0 : (KS.all fun t => KS.all fun u => [true, false].all fun b => [true, false].all fun c => alike (d_binary_kind [.str [97, 110, 100], .tup [.str t, .bl b], .tup [.str u, .bl c]]) (d__law_binary_kind [.str [97, 110, 100], .tup [.str t, .bl b], .tup [.str u, .bl c]])) = true := by decide +kernel
theorem bin_1 : (KS.all fun t => KS.all fun u => [true, false].all fun b => [true, false].all fun c => alike (d_binary_kind [.str [111, 114], .tup [.str t, .bl b], .tup [.str u, .bl c]]) (d__law_binary_kind [.str [111, 114], .tup [.str t, .bl b], .tup [.str u, .bl c]])) = true := by decide +kernel
theorem bin_2 : (KS.all fun t => KS.all fun u => [true, false].all fun b => [true, false].all fun c => alike (d_binary_kind [.str [101, 113, 117, 97, 108], .tup [.str t, .bl b], .tup [.str u, .bl c]]) (d__law_binary_kind [.str [101, 113, 117, 97, 108], .tup [.str t, .bl b], .tup [.str u, .bl c]])) = true := by decide +kernel
theorem bin_3 : (KS.all fun t => KS.all fun u => [true, false].all fun b => [true, false].all fun c => alike (d_binary_kind [.str [108, 101, 115, 115], .tup [.str t, .bl b], .tup [.str u, .bl c]]) (d__law_binary_kind [.str [108, 101, 115, 115], .tup [.str t, .bl b], .tup [.str u, .bl c]])) = true := by decide +kernel
theorem bin_4 : (KS.all fun t => KS.all fun u => [true, false].all fun b => [true, false].all fun c => alike (d_binary_kind [.str [97, 116, 32, 109, 111, 115, 116], .tup [.str t, .bl b], .tup [.str u, .bl c]]) (d__law_binary_kind [.str [97, 116, 32, 109, 111, 115, 116], .tup [.str t, .bl b], .tup [.str u, .bl c]])) = true := by decide +kernel
theorem bin_5 : (KS.all fun t => KS.all fun u => [true, false].all fun b => [true, false].all fun c => alike (d_binary_kind [.str [115, 97, 109, 101], .tup [.str t, .bl b], .tup [.str u, .bl c]]) (d__law_binary_kind [.str [115, 97, 109, 101], .tup [.str t, .bl b], .tup [.str u, .bl c]])) = true := by decide +kernel
theorem bin_6 : (KS.all fun t => KS.all fun u => [true, false].all fun b => [true, false].all fun c => alike (d_binary_kind [.str [108, 101, 97, 115, 116], .tup [.str t, .bl b], .tup [.str u, .bl c]]) (d__law_binary_kind [.str [108, 101, 97, 115, 116], .tup [.str t, .bl b], .tup [.str u, .bl c]])) = true := by decide +kernel
theorem bin_7 : (KS.all fun t => KS.all fun u => [true, false].all fun b => [true, false].all fun c => alike (d_binary_kind [.str [103, 114, 101, 97, 116, 101, 115, 116], .tup [.str t, .bl b], .tup [.str u, .bl c]]) (d__law_binary_kind [.str [103, 114, 101, 97, 116, 101, 115, 116], .tup [.str t, .bl b], .tup [.str u, .bl c]])) = true := by decide +kernel
theorem bin_8 : (KS.all fun t => KS.all fun u => [true, false].all fun b => [true, false].all fun c => alike (d_binary_kind [.str [97, 100, 100], .tup [.str t, .bl b], .tup [.str u, .bl c]]) (d__law_binary_kind [.str [97, 100, 100], .tup [.str t, .bl b], .tup [.str u, .bl c]])) = true := by decide +kernel
theorem bin_9 : (KS.all fun t => KS.all fun u => [true, false].all fun b => [true, false].all fun c => alike (d_binary_kind [.str [115, 117, 98, 116, 114, 97, 99, 116], .tup [.str t, .bl b], .tup [.str u, .bl c]]) (d__law_binary_kind [.str [115, 117, 98, 116, 114, 97, 99, 116], .tup [.str t, .bl b], .tup [.str u, .bl c]])) = true := by decide +kernel
theorem bin_10 : (KS.all fun t => KS.all fun u => [true, false].all fun b => [true, false].all fun c => alike (d_binary_kind [.str [109, 117, 108, 116, 105, 112, 108, 121], .tup [.str t, .bl b], .tup [.str u, .bl c]]) (d__law_binary_kind [.str [109, 117, 108, 116, 105, 112, 108, 121], .tup [.str t, .bl b], .tup [.str u, .bl c]])) = true := by decide +kernel
theorem bin_11 : (KS.all fun t => KS.all fun u => [true, false].all fun b => [true, false].all fun c => alike (d_binary_kind [.str [100, 105, 118, 105, 100, 101], .tup [.str t, .bl b], .tup [.str u, .bl c]]) (d__law_binary_kind [.str [100, 105, 118, 105, 100, 101], .tup [.str t, .bl b], .tup [.str u, .bl c]])) = true := by decide +kernel
theorem bin_12 : (KS.all fun t => KS.all fun u => [true, false].all fun b => [true, false].all fun c => alike (d_binary_kind [.str [114, 101, 115, 116], .tup [.str t, .bl b], .tup [.str u, .bl c]]) (d__law_binary_kind [.str [114, 101, 115, 116], .tup [.str t, .bl b], .tup [.str u, .bl c]])) = true := by decide +kernel
theorem bin_13 : (KS.all fun t => KS.all fun u => [true, false].all fun b => [true, false].all fun c => alike (d_binary_kind [.str [109, 117, 108, 116, 105, 112, 108, 121, 32, 100, 101, 99, 105, 109, 97, 108, 115], .tup [.str t, .bl b], .tup [.str u, .bl c]]) (d__law_binary_kind [.str [109, 117, 108, 116, 105, 112, 108, 121, 32, 100, 101, 99, 105, 109, 97, 108, 115], .tup [.str t, .bl b], .tup [.str u, .bl c]])) = true := by decide +kernel
theorem bin_14 : (KS.all fun t => KS.all fun u => [true, false].all fun b => [true, false].all fun c => alike (d_binary_kind [.str [100, 105, 118, 105, 100, 101, 32, 100, 101, 99, 105, 109, 97, 108, 115], .tup [.str t, .bl b], .tup [.str u, .bl c]]) (d__law_binary_kind [.str [100, 105, 118, 105, 100, 101, 32, 100, 101, 99, 105, 109, 97, 108, 115], .tup [.str t, .bl b], .tup [.str u, .bl c]])) = true := by decide +kernel
theorem bin_15 : (KS.all fun t => KS.all fun u => [true, false].all fun b => [true, false].all fun c => alike (d_binary_kind [.str [106, 111, 105, 110], .tup [.str t, .bl b], .tup [.str u, .bl c]]) (d__law_binary_kind [.str [106, 111, 105, 110], .tup [.str t, .bl b], .tup [.str u, .bl c]])) = true := by decide +kernel
theorem bin_16 : (KS.all fun t => KS.all fun u => [true, false].all fun b => [true, false].all fun c => alike (d_binary_kind [.str [108, 105, 107, 101], .tup [.str t, .bl b], .tup [.str u, .bl c]]) (d__law_binary_kind [.str [108, 105, 107, 101], .tup [.str t, .bl b], .tup [.str u, .bl c]])) = true := by decide +kernel
theorem bin_17 : (KS.all fun t => KS.all fun u => [true, false].all fun b => [true, false].all fun c => alike (d_binary_kind [.str [112, 111, 115, 105, 116, 105, 111, 110], .tup [.str t, .bl b], .tup [.str u, .bl c]]) (d__law_binary_kind [.str [112, 111, 115, 105, 116, 105, 111, 110], .tup [.str t, .bl b], .tup [.str u, .bl c]])) = true := by decide +kernel
theorem bin_18 : (KS.all fun t => KS.all fun u => [true, false].all fun b => [true, false].all fun c => alike (d_binary_kind [.str [99, 111, 97, 108, 101, 115, 99, 101], .tup [.str t, .bl b], .tup [.str u, .bl c]]) (d__law_binary_kind [.str [99, 111, 97, 108, 101, 115, 99, 101], .tup [.str t, .bl b], .tup [.str u, .bl c]])) = true := by decide +kernel
theorem bin_19 : (KS.all fun t => KS.all fun u => [true, false].all fun b => [true, false].all fun c => alike (d_binary_kind [.str [97, 100, 100, 32, 100, 97, 121, 115], .tup [.str t, .bl b], .tup [.str u, .bl c]]) (d__law_binary_kind [.str [97, 100, 100, 32, 100, 97, 121, 115], .tup [.str t, .bl b], .tup [.str u, .bl c]])) = true := by decide +kernel
theorem bin_20 : (KS.all fun t => KS.all fun u => [true, false].all fun b => [true, false].all fun c => alike (d_binary_kind [.str [97, 100, 100, 32, 109, 111, 110, 116, 104, 115], .tup [.str t, .bl b], .tup [.str u, .bl c]]) (d__law_binary_kind [.str [97, 100, 100, 32, 109, 111, 110, 116, 104, 115], .tup [.str t, .bl b], .tup [.str u, .bl c]])) = true := by decide +kernel
theorem nb_eq : NB = [[97, 110, 100], [111, 114], [101, 113, 117, 97, 108], [108, 101, 115, 115], [97, 116, 32, 109, 111, 115, 116], [115, 97, 109, 101], [108, 101, 97, 115, 116], [103, 114, 101, 97, 116, 101, 115, 116], [97, 100, 100], [115, 117, 98, 116, 114, 97, 99, 116], [109, 117, 108, 116, 105, 112, 108, 121], [100, 105, 118, 105, 100, 101], [114, 101, 115, 116], [109, 117, 108, 116, 105, 112, 108, 121, 32, 100, 101, 99, 105, 109, 97, 108, 115], [100, 105, 118, 105, 100, 101, 32, 100, 101, 99, 105, 109, 97, 108, 115], [106, 111, 105, 110], [108, 105, 107, 101], [112, 111, 115, 105, 116, 105, 111, 110], [99, 111, 97, 108, 101, 115, 99, 101], [97, 100, 100, 32, 100, 97, 121, 115], [97, 100, 100, 32, 109, 111, 110, 116, 104, 115]] := by decide +kernel
theorem all_c {α : Type} {p : α → Bool} {x : α} {l : List α} (h : p x = true) (h2 : l.all p = true) : (x :: l).all p = true := by rw [List.all_cons, h, h2]; rfl
theorem bin_all : (NB.all fun nm => (KS.all fun t => KS.all fun u => [true, false].all fun b => [true, false].all fun c => alike (d_binary_kind [.str nm, .tup [.str t, .bl b], .tup [.str u, .bl c]]) (d__law_binary_kind [.str nm, .tup [.str t, .bl b], .tup [.str u, .bl c]]))) = true := by
  rw [nb_eq]
  exact all_c bin_0 (all_c bin_1 (all_c bin_2 (all_c bin_3 (all_c bin_4 (all_c bin_5 (all_c bin_6 (all_c bin_7 (all_c bin_8 (all_c bin_9 (all_c bin_10 (all_c bin_11 (all_c bin_12 (all_c bin_13 (all_c bin_14 (all_c bin_15 (all_c bin_16 (all_c bin_17 (all_c bin_18 (all_c bin_19 (all_c bin_20 (rfl)))))))))))))))))))))
end Qk14
set_option Elab.async false
set_option linter.all false
set_option maxRecDepth 100000
set_option maxHeartbeats 4000000
namespace Qk14
open PySem PySem.Spec PyProof.Rows L2 Z
local macro_rules | `(tactic| walk_at "l") => `(tactic| first | (simp only [wipeG_nil, wipeG_cons, List.set_cons_succ, List.set_cons_zero, List.take_succ_cons, List.take_zero, List.take_nil, List.cons_append, List.nil_append, List.length_cons, List.length_nil, List.set_nil, List.getElem?_cons_zero, List.getElem?_cons_succ, Nat.zero_add, Nat.reduceAdd]; first | done | exact rfl) | exact rfl)
local macro_rules | `(tactic| walk_at "d") => `(tactic| first
  | with_reducible assumption
  | (with_reducible apply dr_div) <;> decide
  | (with_reducible apply dr_mod) <;> decide
  | (with_reducible apply dr_mulr); decide
  | (with_reducible apply dr_mull); decide
  | (with_reducible apply dr_divB) <;> omega
  | (with_reducible apply dr_mulrB) <;> omega
  | (with_reducible apply dr_mullB) <;> omega
  | (with_reducible apply dr_mulC) <;> omega
  | (with_reducible apply dr_mod) <;> omega
  | (with_reducible refine isi_of ?_ ?_); (exact rfl); (first | exact kb_int_int | exact kb_int_bool | exact kb_bool_bool | exact kb_bool_int | exact kb_str_int | exact kb_str_bool | exact kb_str_str | exact kb_int_str | exact kb_bool_str | exact kb_non_int | exact kb_non_bool | exact kb_non_str | exact kb_list_list | exact kb_tuple_tuple | exact kb_list_tuple | exact kb_tuple_list)
  | with_reducible exact dr_abs
  | (with_reducible exact dr_neL _ _)
  | (simp only [Cn.d]; with_reducible assumption)
  | (simp only [Cn.d]; with_reducible exact dr_neL _ _)
  | with_reducible exact in_ints _ _
  | (simp only [Cn.d]; with_reducible exact in_ints _ _)
  | ((with_reducible apply dr_cat); (try simp only [List.length_append, List.length_cons, List.length_nil]); omega)
  | with_reducible exact dr_eqI
  | with_reducible exact dr_eqB
  | with_reducible exact dr_neB
  | with_reducible exact dr_eqS
  | with_reducible exact dr_neI
  | with_reducible exact dr_neS
  | exact rfl)
local macro_rules | `(tactic| walk_at "c") => `(tactic| first | with_reducible assumption | (simp only [Cn.d]; with_reducible assumption))
local macro_rules | `(tactic| walk_at "e") => `(tactic| first
  | with_reducible exact er_C
  | with_reducible exact er_nil
  | (with_reducible apply er_varD); exact rfl
  | (with_reducible apply er_varO); exact rfl
  | (with_reducible apply er_varF); exact rfl
  | (with_reducible apply er_op); walk_at "e"; walk_at "e"; exact rfl; exact rfl; walk_at "d"; exact rfl
  | (with_reducible apply er_chain); walk_at "e"; walk_at "e"; exact rfl; exact rfl; walk_at "d"; (intro _h; walk_at "e"); exact rfl; walk_at "d"
  | (with_reducible apply er_slS); walk_at "e"; walk_at "o"; walk_at "o"; exact rfl; walk_at "z"
  | (with_reducible apply er_slL); walk_at "e"; walk_at "o"; walk_at "o"; exact rfl
  | (with_reducible apply er_list); walk_at "e"; exact rfl; exact rfl
  | (with_reducible apply er_tupL); walk_at "e"; exact rfl
  | (with_reducible apply er_un); walk_at "e"; exact rfl; exact rfl; exact rfl
  | (with_reducible apply er_tst); walk_at "e"
  | (with_reducible apply er_tru); walk_at "e"; exact rfl; exact rfl
  | (with_reducible apply er_andT); walk_at "e"; (intro _h; walk_at "e")
  | (with_reducible apply er_orT); walk_at "e"; (intro _h; walk_at "e")
  | (with_reducible apply er_andTT); walk_at "e"; exact rfl; walk_at "e"
  | (with_reducible apply er_orTF); walk_at "e"; exact rfl; walk_at "e"
  | (with_reducible apply er_notT); walk_at "e"
  | (with_reducible apply er_andV); walk_at "e"; (intro _h; walk_at "e")
  | (with_reducible apply er_orV); walk_at "e"; (intro _h; walk_at "e")
  | (with_reducible apply er_notV); walk_at "e"
  | (with_reducible apply er_andVT); walk_at "e"; exact rfl; walk_at "e"
  | (with_reducible apply er_orVF); walk_at "e"; exact rfl; walk_at "e"
  | (with_reducible apply er_ix); walk_at "e"; walk_at "e"; exact rfl; walk_at "x"
  | (with_reducible apply er_callS); walk_at "e"; exact rfl; walk_at "d"; exact rfl
  | (with_reducible apply er_cons); walk_at "e"; walk_at "e"
  | (with_reducible apply er_callG); walk_at "e"; exact rfl; exact rfl; walk_at "c"; exact rfl
  | (with_reducible apply er_callH); walk_at "e"; exact rfl; exact rfl; walk_at "c"; exact rfl
  | (with_reducible apply er_callV); walk_at "e"; exact rfl; walk_at "c"; exact rfl
  | (with_reducible apply er_callGF); walk_at "e"; exact rfl; exact rfl; walk_at "c"; exact rfl
  | (with_reducible apply er_callHF); walk_at "e"; exact rfl; exact rfl; walk_at "c"; exact rfl
  | (with_reducible apply er_callM); walk_at "e"; exact rfl; exact rfl; exact rfl; exact rfl; exact rfl; walk_at "c"; exact rfl
  | (with_reducible apply er_catL); walk_at "e"; walk_at "e"; exact rfl; exact rfl; walk_at "z"
  | (with_reducible apply er_mt); walk_at "e"; exact rfl; exact rfl; walk_at "e"; exact rfl; exact rfl; walk_at "m"; exact rfl
  | (with_reducible apply er_tup); walk_at "e"; exact rfl; walk_at "z" 
  | (with_reducible apply er_lst); walk_at "e"; exact rfl; walk_at "z")
local macro_rules | `(tactic| walk_at "o") => `(tactic| first | exact er_zoN | ((with_reducible apply er_zoS); walk_at "e"))
local macro_rules | `(tactic| walk_at "x") => `(tactic| first | with_reducible assumption | (simp only [Cn.d]; with_reducible assumption) | exact rfl)
local macro_rules | `(tactic| walk_at "m") => `(tactic| first | with_reducible assumption | (simp only [Cn.d]; with_reducible assumption) | exact rfl)
local macro_rules | `(tactic| walk_at "st") => `(tactic| first
  | ((with_reducible apply set_dat); (walk_at "e"); (exact rfl); walk_at "l")
  | ((with_reducible apply set_own); (walk_at "e"); (exact Nat.le_of_ble_eq_true rfl); (exact rfl); (exact rfl); walk_at "l")
  | ((with_reducible apply asg_run); (walk_at "e"); (exact rfl); walk_at "l")
  | ((with_reducible apply aug_run); (exact rfl); (exact rfl); (walk_at "e"); (exact rfl); (walk_at "d"); (exact rfl); (exact rfl); walk_at "l")
  | ((with_reducible apply sto_run); (walk_at "e"); (walk_at "e"); (walk_at "e"); (exact rfl); (walk_at "x"); walk_at "l")
  | ((with_reducible apply app_run); (walk_at "e"); (exact rfl); (walk_at "e"); (exact rfl); (exact rfl); (walk_at "z"); walk_at "l"))
local macro_rules | `(tactic| walk_at "z") => `(tactic| first | assumption | exact Nat.le_of_ble_eq_true rfl | (simp; omega))
local macro_rules | `(tactic| walk_at "s") => `(tactic| first
  | with_reducible apply sr_nx
  | with_reducible apply sr_assoc
  | with_reducible apply ap_fg
  | ((with_reducible apply fgK_nx); (exact rfl); (walk_at "l"); skip)
  | ((with_reducible apply fgK_ct); (exact rfl); (walk_at "l"); skip)
  | ((with_reducible apply fgK_bk); (exact rfl); (walk_at "l"); skip)
  | with_reducible apply fgK_ret
  | with_reducible apply sr_bk1
  | with_reducible apply sr_ct1
  | with_reducible apply sr_nx1
  | with_reducible apply sr_ct
  | with_reducible apply sr_bk
  | (with_reducible apply sr_retS); (walk_at "e"); skip
  | (with_reducible apply sr_ret); (walk_at "e"); skip
  | (with_reducible apply sr_if); (walk_at "e"); (walk_at "l")
  | (with_reducible apply sr_if1); (walk_at "e"); (walk_at "l")
  | (with_reducible apply seq_nx); (walk_at "st")
  | (with_reducible apply one_nx); (walk_at "st"))
local macro_rules | `(tactic| walk_at "r") => `(tactic| repeat' (first | (intro _) | walk_at "s"))
local macro_rules | `(tactic| walk_at "k") => `(tactic| (intro q; (try simp only [decide_eq_true_eq, decide_eq_false_iff_not, beq_iff_eq, beq_eq_false_iff_ne, ne_eq, Bool.not_eq_true', Bool.not_eq_false', Bool.and_eq_true, Bool.or_eq_true, Bool.and_eq_false_iff, Bool.or_eq_false_iff, Int.not_lt, Int.not_le, List.cons.injEq, and_true, reduceCtorEq, beq_self_eq_true, Bool.not_true, Bool.not_false, Bool.or_false, Bool.false_or, Bool.or_true, Bool.true_or, Bool.and_false, Bool.false_and, Bool.and_true, Bool.true_and, not_true_eq_false, Bool.false_eq_true] at q) <;> (try (exfalso; first | (cases q; done) | omega | contradiction))))
local macro_rules | `(tactic| walk_at "w") => `(tactic| repeat' (first | (walk_at "k") | walk_at "s"))
def IsK (r : D) : Prop := r = .non ∨ ∃ t ∈ KS, ∃ b, r = .tup [.str t, .bl b]
theorem alike_inv {o p : Option FR} (h : alike o p = true) : ∃ r, IsK r ∧ o = some (.dat r) ∧ p = some (.dat r) := by
  unfold alike at h
  split at h
  · exact ⟨.non, .inl rfl, rfl, rfl⟩
  · rename_i t b u c
    rw [Bool.and_eq_true, Bool.and_eq_true] at h
    obtain ⟨⟨h1, h2⟩, h3⟩ := h
    have e1 := eq_of_beq h1
    have e2 := eq_of_beq h2
    subst e1 e2
    exact ⟨_, .inr ⟨t, List.contains_iff_mem.mp h3, b, rfl⟩, rfl, rfl⟩
  · cases h
theorem bools (b : Bool) : b ∈ [true, false] := by cases b <;> simp
theorem un_ok {nm t : List Nat} (hn : nm ∈ NU) (ht : t ∈ KS) (b : Bool) : ∃ r, IsK r ∧ d_unary_kind [.str nm, .tup [.str t, .bl b]] = some (.dat r) ∧ d__law_unary_kind [.str nm, .tup [.str t, .bl b]] = some (.dat r) := by
  have h := un_all
  rw [List.all_eq_true] at h
  have h := h nm hn
  rw [List.all_eq_true] at h
  have h := h t ht
  rw [List.all_eq_true] at h
  exact alike_inv (h b (bools b))
theorem bin_ok {nm t u : List Nat} (hn : nm ∈ NB) (ht : t ∈ KS) (hu : u ∈ KS) (b c : Bool) : ∃ r, IsK r ∧ d_binary_kind [.str nm, .tup [.str t, .bl b], .tup [.str u, .bl c]] = some (.dat r) ∧ d__law_binary_kind [.str nm, .tup [.str t, .bl b], .tup [.str u, .bl c]] = some (.dat r) := by
  have h := bin_all
  rw [List.all_eq_true] at h
  have h := h nm hn
  rw [List.all_eq_true] at h
  have h := h t ht
  rw [List.all_eq_true] at h
  have h := h u hu
  rw [List.all_eq_true] at h
  have h := h b (bools b)
  rw [List.all_eq_true] at h
  exact alike_inv (h c (bools c))
def frv : Option FR → D
  | some (.dat d) => d
  | _ => .non
abbrev sCON : List Nat := [99, 111, 110, 115, 116, 97, 110, 116]
abbrev sCOL : List Nat := [99, 111, 108, 117, 109, 110]
abbrev sUN : List Nat := [117, 110, 97, 114, 121]
abbrev sBIN : List Nat := [98, 105, 110, 97, 114, 121]
abbrev sTER : List Nat := [116, 101, 114, 110, 97, 114, 121]
abbrev sCHO : List Nat := [99, 104, 111, 105, 99, 101]
theorem IsK.good {r : D} (h : IsK r) : r.rok = true ∧ r.dp ≤ 1 := by
  rcases h with rfl | ⟨t, ht, b, rfl⟩
  · exact ⟨rfl, Nat.zero_le _⟩
  · simp only [KS, List.mem_cons, List.not_mem_nil, or_false] at ht
    rcases ht with rfl | rfl | rfl | rfl | rfl <;> exact ⟨rfl, Nat.le_refl _⟩
def isN : D → Bool
  | .non => true
  | _ => false
theorem none_in {rs : List D} (h : ∀ r ∈ rs, IsK r) : inD .non (.lst rs) = some (.bl (rs.any isN)) := by
  have key : ∀ r, IsK r → D.eqv r .non = isN r := fun r h => by rcases h with rfl | ⟨t, _, b, rfl⟩ <;> rfl
  have e : inL .non rs = rs.any isN := by
    unfold inL
    induction rs with
    | nil => rfl
    | cons r rs ih => rw [List.any_cons, List.any_cons, key r (h r List.mem_cons_self), ih fun x hx => h x (List.mem_cons_of_mem _ hx)]
  have good : ∀ {l : List D}, (∀ r ∈ l, IsK r) → D.rokA l = true ∧ D.dpA l ≤ 1 := by
    intro l
    induction l with
    | nil => intro _; exact ⟨rfl, Nat.zero_le _⟩
    | cons r l ih =>
      intro h
      obtain ⟨a, b⟩ := (h r List.mem_cons_self).good
      obtain ⟨c, d⟩ := ih fun x hx => h x (List.mem_cons_of_mem _ hx)
      exact ⟨by show (r.rok && D.rokA l) = true; rw [a, c]; rfl, by show max r.dp (D.dpA l) ≤ 1; omega⟩
  obtain ⟨g1, g2⟩ := good h
  have s : (D.lst rs).shp = true := rok_shp (show D.rokA rs = true from g1) (by show D.dpA rs + 1 ≤ 60; omega)
  have s0 : D.non.shp = true := rok_shp rfl (by decide)
  unfold inD
  have : inB .non (.lst rs) = some (rs.any isN) := by
    simp only [inB]
    split
    · rw [e]
    · rw [if_pos (by rw [s, s0]; rfl), e]
  rw [this]
  rfl
theorem eqS (a b : List Nat) : eqD (.str a) (.str b) = some (.bl (a == b)) := rfl
theorem cutL_from {α : Type} (t : List α) {q : Nat} (h : q ≤ t.length) : cutL t (some (q : Int)) none = t.drop q := by
  have a : HT.sIx t.length 0 (some (q : Int)) = q := by rw [HT.sIx_nat, Nat.min_eq_left h]
  have b : HT.sIx t.length t.length none = t.length := rfl
  unfold cutL
  rw [a, b]
  exact List.take_of_length_le (by rw [List.length_drop]; exact Nat.le_refl _)
section
variable {F : List D → Option FR} {cols : D}
/-- an operation: kinds of its parts first -/
theorem ko_gen {f nm : List Nat} {ps rs : List D} {OUT : Option FR} (f1 : (f == sCON) = false) (f2 : (f == sCOL) = false) (f3 : (f == sCHO) = false) (hps : ps.map (fun x => frv (F [x, cols])) = rs) (hx : ∀ x ∈ ps, F [x, cols] = some (.dat (frv (F [x, cols])))) (hz : ps.length ≤ 3) (hk : ∀ r ∈ rs, IsK r)
    (h1 : rs.any isN = true → some (.dat .non) = OUT) (h2 : ∀ e : D, ixD e 1 = some (.str nm) → rs.any isN = false → ap finK ((zSeq (zIfS 6 (zTst (zOp eqD (zVar 2) (zC (.str [117, 110, 97, 114, 121])))) (zRet (zCall d_unary_kind (zCons (zIx (zVar 0) (zC (.int 1))) (zCons (zIx (zVar 3) (zC (.int 0))) (zNil))))) (zNx)) (zSeq (zIfS 6 (zTst (zOp eqD (zVar 2) (zC (.str [98, 105, 110, 97, 114, 121])))) (zRet (zCall d_binary_kind (zCons (zIx (zVar 0) (zC (.int 1))) (zCons (zIx (zVar 3) (zC (.int 0))) (zCons (zIx (zVar 3) (zC (.int 1))) (zNil)))))) (zNx)) (zSeq (zIfS 6 (zTst (zOp eqD (z_tuple (zCons (zLc (ziL 6 (zVar 3)) (gN 5) (zYes) (zIx (zVar 5) (zC (.int 0))) [5]) (zNil))) (zTab kt_TERNARY_KINDS dt_TERNARY_KINDS (zIx (zVar 0) (zC (.int 1)))))) (zRet (zTup (zCons (zC (.str [116, 101, 120, 116])) (zCons (zC (.bl true)) (zNil))))) (zNx)) (zRet (zC .non))))) [.dat e, .dat cols, .dat (.str f), .own (.lst rs) false false, .un, .un]) = OUT) : runP 6 2 (b_kind_of F) [.tup (.str f :: .str nm :: ps), cols] = OUT := by
  have i0 : ixD (.tup (.str f :: .str nm :: ps)) 0 = some (.str f) := atI_nat (j := 0) rfl
  have i1 : ixD (.tup (.str f :: .str nm :: ps)) 1 = some (.str nm) := atI_nat (j := 1) rfl
  have sl : ziT (zSl (zVar 0) (zoS (zC (.int 2))) (zoN)) [.dat (.tup (.str f :: .str nm :: ps)), .dat cols, .dat (.str f), .un, .un, .un] = some (ps, none, [.dat (.tup (.str f :: .str nm :: ps)), .dat cols, .dat (.str f), .un, .un, .un]) := by
    have h := er_slT (ma := zVar 0) (ml := zoS (zC (.int 2))) (mh := zoN) (g := [.dat (.tup (.str f :: .str nm :: ps)), .dat cols, .dat (.str f), .un, .un, .un]) (l := .str f :: .str nm :: ps) rfl (er_zoS er_C) er_zoN
    have hc : cutL (D.str f :: .str nm :: ps) (some 2) none = ps := cutL_from (q := 2) _ (by simp)
    rw [hc] at h
    exact mi_T h
  generalize D.tup (.str f :: .str nm :: ps) = e at *
  have l := er_lc1 (b := fun _ => true) (f := fun x => frv (F [x, cols])) (tg := gN 4) (tt := zYes) (el := zCall F (zCons (zVar 4) (zCons (zVar 1) (zNil)))) (vs := [4]) (base := [.dat e, .dat cols, .dat (.str f), .un, .un, .un]) sl (fun o => rfl) (fun o => rfl) (Nat.le_trans hz (by decide))
    (fun x hxm => lc_dat (h := [.dat e, .dat cols, .dat (.str f), .un, .dat x, .un]) rfl (fun o => rfl) (fun o => rfl) (fun o => rfl) (fun o => rfl) (fun _ o => er_call (ds := [x, cols]) (er_cons rfl (er_cons rfl er_nil)) (hx x hxm)))
  rw [List.filter_eq_self.mpr (fun _ _ => rfl), hps] at l
  have ni := none_in hk
  have t1 := eqS f sCON
  have t2 := eqS f sCOL
  have t3 := eqS f sCHO
  rw [f1] at t1
  rw [f2] at t2
  rw [f3] at t3
  unfold b_kind_of
  refine runP_ap (g := [.dat e, .dat cols, .un, .un, .un, .un]) rfl rfl ?_
  refine seq_nx (g1 := [.dat e, .dat cols, .dat (.str f), .un, .un, .un]) (set_dat (er_ix rfl er_C rfl i0) rfl rfl) ?_
  refine sr_if (b := false) (er_tst (er_op rfl er_C rfl rfl t1 rfl)) rfl (fun q => by cases q) (fun _ => ?_)
  refine sr_nx (sr_if (b := false) (er_tst (er_op rfl er_C rfl rfl t2 rfl)) rfl (fun q => by cases q) (fun _ => ?_))
  refine sr_nx (sr_if (b := false) (er_tst (er_op rfl er_C rfl rfl t3 rfl)) rfl (fun q => by cases q) (fun _ => ?_))
  refine sr_nx (seq_nx (g1 := [.dat e, .dat cols, .dat (.str f), .own (.lst rs) false false, .un, .un]) (set_own l (Nat.le_of_ble_eq_true rfl) rfl rfl rfl) ?_)
  have tn : zTst (zOp inD (zC .non) (zVar 3)) [.dat e, .dat cols, .dat (.str f), .own (.lst rs) false false, .un, .un] = some (rs.any isN, [.dat e, .dat cols, .dat (.str f), .own (.lst rs) false false, .un, .un]) := er_tst (er_op er_C rfl rfl rfl ni rfl)
  refine sr_if tn rfl (fun q => ?_) (fun q => ?_)
  · exact sr_retS er_C (h1 q)
  · exact sr_nx (h2 e i1 q)
def atR (rs : List D) : D → D
  | .int j => (rs[(j - 2).toNat]?).getD .non
  | _ => .non
theorem atR_map (rs : List D) : (rgD 2 rs.length).map (atR rs) = rs := by
  refine List.ext_getElem? fun i => ?_
  rw [List.getElem?_map]
  by_cases h : i < rs.length
  · rw [rgD_get h, List.getElem?_eq_getElem h]
    show some ((rs[(2 + (i : Int) - 2).toNat]?).getD .non) = _
    rw [show (2 + (i : Int) - 2).toNat = i by omega, List.getElem?_eq_getElem h]
    rfl
  · rw [List.getElem?_eq_none (l := rs) (by omega), List.getElem?_eq_none (by rw [rgD_len]; omega)]
    rfl
theorem isN_is {r : D} (h : IsK r) : isD r .non = some (.bl (isN r)) := by
  rcases h with rfl | ⟨t, _, b, rfl⟩ <;> rfl
theorem any_len (rs : List D) : decide ((0 : Int) < ((rs.filter isN).length : Nat)) = rs.any isN := by
  cases h : rs.any isN with
  | true =>
    rw [List.any_eq_true] at h
    obtain ⟨x, h1, h2⟩ := h
    have : 0 < (rs.filter isN).length := List.length_pos_of_mem (List.mem_filter.mpr ⟨h1, h2⟩)
    exact decide_eq_true (by omega)
  | false =>
    rw [List.any_eq_false] at h
    have : rs.filter isN = [] := List.filter_eq_nil_iff.mpr fun x hx => by simpa using h x hx
    rw [this]
    rfl
/-- the law's own -/
theorem lk_gen {f nm : List Nat} {ps rs : List D} {OUT : Option FR} (f1 : (f == sCON) = false) (f2 : (f == sCOL) = false) (f3 : (f == sCHO) = false) (hl : ps.length = rs.length) (hx : ∀ (i : Nat) (x r : D), ps[i]? = some x → rs[i]? = some r → F [x, cols] = some (.dat r)) (hz : ps.length ≤ 3) (hk : ∀ r ∈ rs, IsK r)
    (h1 : rs.any isN = true → some (.dat .non) = OUT) (h2 : ∀ e : D, ixD e 1 = some (.str nm) → rs.any isN = false → ap finK ((zSeq (zIfS 9 (zTst (zOp eqD (zVar 2) (zC (.str [117, 110, 97, 114, 121])))) (zRet (zCall d__law_unary_kind (zCons (zIx (zVar 0) (zC (.int 1))) (zCons (zIx (zVar 3) (zC (.int 0))) (zNil))))) (zNx)) (zSeq (zIfS 9 (zTst (zOp eqD (zVar 2) (zC (.str [98, 105, 110, 97, 114, 121])))) (zRet (zCall d__law_binary_kind (zCons (zIx (zVar 0) (zC (.int 1))) (zCons (zIx (zVar 3) (zC (.int 0))) (zCons (zIx (zVar 3) (zC (.int 1))) (zNil)))))) (zNx)) (zSeq (zSet 9 4 (zDic [[112, 97, 114, 116], [115, 112, 108, 105, 116], [112, 97, 100], [114, 101, 112, 108, 97, 99, 101]] [(zTup (zCons (zC (.str [116, 101, 120, 116])) (zCons (zC (.str [105, 110, 116])) (zCons (zC (.str [105, 110, 116])) (zNil))))), (zTup (zCons (zC (.str [116, 101, 120, 116])) (zCons (zC (.str [116, 101, 120, 116])) (zCons (zC (.str [105, 110, 116])) (zNil))))), (zTup (zCons (zC (.str [116, 101, 120, 116])) (zCons (zC (.str [116, 101, 120, 116])) (zCons (zC (.str [105, 110, 116])) (zNil))))), (zTup (zCons (zC (.str [116, 101, 120, 116])) (zCons (zC (.str [116, 101, 120, 116])) (zCons (zC (.str [116, 101, 120, 116])) (zNil)))))])) (zSeq (zIfS 9 (zTst (zOp eqD (z_tuple (zCons (zLc (ziL 9 (zVar 3)) (gN 8) (zYes) (zIx (zVar 8) (zC (.int 0))) [8]) (zNil))) (zDgt (zVar 4) (zIx (zVar 0) (zC (.int 1)))))) (zRet (zTup (zCons (zC (.str [116, 101, 120, 116])) (zCons (zC (.bl true)) (zNil))))) (zNx)) (zRet (zC .non)))))) [.dat e, .dat cols, .dat (.str f), .own (.lst rs) false false, .un, .un, .un, .un, .un]) = OUT) : runP 9 2 (b__law_kind F) [.tup (.str f :: .str nm :: ps), cols] = OUT := by
  have i0 : ixD (.tup (.str f :: .str nm :: ps)) 0 = some (.str f) := atI_nat (j := 0) rfl
  have i1 : ixD (.tup (.str f :: .str nm :: ps)) 1 = some (.str nm) := atI_nat (j := 1) rfl
  have ip : ∀ (i : Nat) (x : D), ps[i]? = some x → ixD (.tup (.str f :: .str nm :: ps)) (2 + (i : Int)) = some x := fun i x h => by
    have h2 : (D.str f :: D.str nm :: ps)[i + 2]? = some x := by simpa using h
    have := atI_nat h2
    rw [show (2 + (i : Int)) = ((i + 2 : Nat) : Int) by omega]
    exact this
  have ln : lenD [.tup (.str f :: .str nm :: ps)] = some (.int ((ps.length + 2 : Nat) : Int)) := rfl
  generalize D.tup (.str f :: .str nm :: ps) = e at *
  have mr : ziR2 (zCons (zC (.int 2)) (zCons (zCallS lenD (zCons (zVar 0) (zNil))) (zNil))) [.dat e, .dat cols, .dat (.str f), .un, .un, .un, .un, .un, .un] = some (rgD 2 rs.length, none, [.dat e, .dat cols, .dat (.str f), .un, .un, .un, .un, .un, .un]) := by
    have h := mi_R2 (mr := zCons (zC (.int 2)) (zCons (zCallS lenD (zCons (zVar 0) (zNil))) (zNil))) (g := [.dat e, .dat cols, .dat (.str f), .un, .un, .un, .un, .un, .un]) (k := 2) (l := ((ps.length + 2 : Nat) : Int)) (er_cons er_C (er_cons (er_callS (er_cons rfl er_nil) rfl ln rfl) er_nil)) (by rw [rgOk_of (by omega) (by omega), rgOk_of (by omega) (by omega)]; rfl)
    rw [show (((ps.length + 2 : Nat) : Int) - 2).toNat = rs.length by omega] at h
    exact h
  have l := er_lc1 (b := fun _ => true) (f := atR rs) (tg := gN 7) (tt := zYes) (el := zCall F (zCons (zIx (zVar 0) (zVar 7)) (zCons (zVar 1) (zNil)))) (vs := [7]) (base := [.dat e, .dat cols, .dat (.str f), .un, .un, .un, .un, .un, .un]) mr (fun o => rfl) (fun o => rfl) (by rw [rgD_len, ← hl]; exact Nat.le_trans hz (by decide))
    (fun y hy => by
      obtain ⟨i, hg⟩ := List.getElem?_of_mem hy
      obtain ⟨hi, rfl⟩ := rgD_at hg
      have hip : i < ps.length := by omega
      have e1 := ip i ps[i] (List.getElem?_eq_getElem hip)
      have e2 := hx i ps[i] rs[i] (List.getElem?_eq_getElem hip) (List.getElem?_eq_getElem hi)
      have ea : atR rs (.int (2 + (i : Int))) = rs[i] := by
        show (rs[(2 + (i : Int) - 2).toNat]?).getD .non = _
        rw [show (2 + (i : Int) - 2).toNat = i by omega, List.getElem?_eq_getElem hi]
        rfl
      refine lc_dat (h := [.dat e, .dat cols, .dat (.str f), .un, .un, .un, .un, .dat (.int (2 + (i : Int))), .un]) rfl (fun o => rfl) (fun o => rfl) (fun o => rfl) (fun o => rfl) (fun _ o => ?_)
      rw [ea]
      exact er_call (ds := [ps[i], cols]) (er_cons (er_ix rfl rfl rfl e1) (er_cons rfl er_nil)) e2)
  rw [List.filter_eq_self.mpr (fun _ _ => rfl), atR_map] at l
  have lo := er_lcO (b := isN) (f := fun d => d) (tg := gN 8) (tt := zTst (zOp isD (zVar 8) (zC .non))) (el := zVar 8) (vs := [8]) (mi := ziL 9 (zVar 3)) (g := [.dat e, .dat cols, .dat (.str f), .own (.lst rs) false false, .un, .un, .un, .un, .un]) (base := [.dat e, .dat cols, .dat (.str f), .own (.lst rs) false true, .un, .un, .un, .un, .un]) (mi_Lb rfl (Nat.le_of_ble_eq_true rfl) rfl) rfl rfl (fun o => rfl) (fun o => rfl) (by rw [← hl]; exact Nat.le_trans hz (by decide))
    (fun y hy => lc_dat (h := [.dat e, .dat cols, .dat (.str f), .own (.lst rs) false true, .un, .un, .un, .un, .dat y]) rfl (fun o => rfl) (fun o => rfl) (fun o => rfl) (fun o => er_tst (er_op rfl er_C rfl rfl (isN_is (hk y hy)) rfl)) (fun _ o => rfl))
  rw [List.map_id'] at lo
  have lg : gtD (.int ((rs.filter isN).length : Nat)) (.int 0) = some (.bl (rs.any isN)) := by
    rw [← any_len]
    rfl
  have tn : zTst (zOp gtD (zCallS lenD (zCons (zLc (ziL 9 (zVar 3)) (gN 8) (zTst (zOp isD (zVar 8) (zC .non))) (zVar 8) [8]) (zNil))) (zC (.int 0))) [.dat e, .dat cols, .dat (.str f), .own (.lst rs) false false, .un, .un, .un, .un, .un] = some (rs.any isN, [.dat e, .dat cols, .dat (.str f), .own (.lst rs) false false, .un, .un, .un, .un, .un] ++ [.own (.lst (rs.filter isN)) false false]) := er_tst (er_op (er_callS (z := .int ((rs.filter isN).length : Nat)) (er_cons lo er_nil) rfl rfl rfl) er_C rfl rfl lg rfl)
  have t1 := eqS f sCON
  have t2 := eqS f sCOL
  have t3 := eqS f sCHO
  rw [f1] at t1
  rw [f2] at t2
  rw [f3] at t3
  unfold b__law_kind
  refine runP_ap (g := [.dat e, .dat cols, .un, .un, .un, .un, .un, .un, .un]) rfl rfl ?_
  refine seq_nx (g1 := [.dat e, .dat cols, .dat (.str f), .un, .un, .un, .un, .un, .un]) (set_dat (er_ix rfl er_C rfl i0) rfl rfl) ?_
  refine sr_if (b := false) (er_tst (er_op rfl er_C rfl rfl t1 rfl)) rfl (fun q => by cases q) (fun _ => ?_)
  refine sr_nx (sr_if (b := false) (er_tst (er_op rfl er_C rfl rfl t2 rfl)) rfl (fun q => by cases q) (fun _ => ?_))
  refine sr_nx (sr_if (b := false) (er_tst (er_op rfl er_C rfl rfl t3 rfl)) rfl (fun q => by cases q) (fun _ => ?_))
  refine sr_nx (seq_nx (g1 := [.dat e, .dat cols, .dat (.str f), .own (.lst rs) false false, .un, .un, .un, .un, .un]) (set_own l (Nat.le_of_ble_eq_true rfl) rfl rfl rfl) ?_)
  refine sr_if (g2 := [.dat e, .dat cols, .dat (.str f), .own (.lst rs) false false, .un, .un, .un, .un, .un]) tn rfl (fun q => ?_) (fun q => ?_)
  · exact sr_retS er_C (h1 q)
  · exact sr_nx (h2 e i1 q)
variable {F2 : List D → Option FR}
theorem k_un {nm : List Nat} {a r : D} (hn : nm ∈ NU) (ha : F [a, cols] = some (.dat r)) (hb : F2 [a, cols] = some (.dat r)) (k : IsK r) : ∃ z, IsK z ∧ runP 6 2 (b_kind_of F) [.tup [.str sUN, .str nm, a], cols] = some (.dat z) ∧ runP 9 2 (b__law_kind F2) [.tup [.str sUN, .str nm, a], cols] = some (.dat z) := by
  have hk : ∀ x ∈ [r], IsK x := fun x hx => by rw [List.mem_singleton.mp hx]; exact k
  have hps : List.map (fun x => frv (F [x, cols])) [a] = [r] := by simp [ha, frv]
  have hx : ∀ x ∈ [a], F [x, cols] = some (.dat (frv (F [x, cols]))) := fun x hx => by rw [List.mem_singleton.mp hx, ha]; rfl
  have hy : ∀ (i : Nat) (x r' : D), [a][i]? = some x → [r][i]? = some r' → F2 [x, cols] = some (.dat r') := fun i x r' h1 h2 => by
    cases i with
    | zero => cases h1; cases h2; exact hb
    | succ i => simp at h1
  rcases k with rfl | ⟨t, ht, b, rfl⟩
  · exact ⟨.non, .inl rfl, ko_gen (ps := [a]) rfl rfl rfl hps hx (by simp) hk (fun _ => rfl) (fun _ _ q => by cases q), lk_gen (ps := [a]) (rs := [.non]) rfl rfl rfl rfl hy (by simp) hk (fun _ => rfl) (fun _ _ q => by cases q)⟩
  · obtain ⟨z, kz, z1, z2⟩ := un_ok hn ht b
    refine ⟨z, kz, ko_gen (ps := [a]) rfl rfl rfl hps hx (by simp) hk (fun q => by cases q) (fun e i1 _ => ?_), lk_gen (ps := [a]) (rs := [.tup [.str t, .bl b]]) rfl rfl rfl rfl hy (by simp) hk (fun q => by cases q) (fun e i1 _ => ?_)⟩
    · refine sr_if (b := true) (er_tst (er_op rfl er_C rfl rfl rfl rfl)) rfl (fun _ => ?_) (fun q => by cases q)
      exact sr_retS (er_call (ds := [.str nm, .tup [.str t, .bl b]]) (er_cons (er_ix rfl er_C rfl i1) (er_cons (er_ix rfl er_C rfl rfl) er_nil)) z1) rfl
    · refine sr_if (b := true) (er_tst (er_op rfl er_C rfl rfl rfl rfl)) rfl (fun _ => ?_) (fun q => by cases q)
      exact sr_retS (er_call (ds := [.str nm, .tup [.str t, .bl b]]) (er_cons (er_ix rfl er_C rfl i1) (er_cons (er_ix rfl er_C rfl rfl) er_nil)) z2) rfl
theorem k_bin {nm : List Nat} {a c r s : D} (hn : nm ∈ NB) (ha : F [a, cols] = some (.dat r)) (hb : F2 [a, cols] = some (.dat r)) (k : IsK r) (hc : F [c, cols] = some (.dat s)) (hd : F2 [c, cols] = some (.dat s)) (k2 : IsK s) : ∃ z, IsK z ∧ runP 6 2 (b_kind_of F) [.tup [.str sBIN, .str nm, a, c], cols] = some (.dat z) ∧ runP 9 2 (b__law_kind F2) [.tup [.str sBIN, .str nm, a, c], cols] = some (.dat z) := by
  have hk : ∀ x ∈ [r, s], IsK x := fun x hx => by
    simp only [List.mem_cons, List.not_mem_nil, or_false] at hx
    rcases hx with rfl | rfl <;> assumption
  have hps : List.map (fun x => frv (F [x, cols])) [a, c] = [r, s] := by simp [ha, hc, frv]
  have hx : ∀ x ∈ [a, c], F [x, cols] = some (.dat (frv (F [x, cols]))) := fun x hx => by
    simp only [List.mem_cons, List.not_mem_nil, or_false] at hx
    rcases hx with rfl | rfl
    · rw [ha]; rfl
    · rw [hc]; rfl
  have hy : ∀ (i : Nat) (x r' : D), [a, c][i]? = some x → [r, s][i]? = some r' → F2 [x, cols] = some (.dat r') := fun i x r' h1 h2 => by
    match i with
    | 0 => cases h1; cases h2; exact hb
    | 1 => cases h1; cases h2; exact hd
    | i + 2 => simp at h1
  by_cases hN : ([r, s].any isN) = true
  · exact ⟨.non, .inl rfl, ko_gen (ps := [a, c]) rfl rfl rfl hps hx (by simp) hk (fun _ => rfl) (fun _ _ q => by rw [hN] at q; cases q), lk_gen (ps := [a, c]) (rs := [r, s]) rfl rfl rfl rfl hy (by simp) hk (fun _ => rfl) (fun _ _ q => by rw [hN] at q; cases q)⟩
  · rcases k with rfl | ⟨t, ht, b, rfl⟩
    · exact absurd rfl hN
    · rcases k2 with rfl | ⟨u, hu, d, rfl⟩
      · exact absurd rfl hN
      · obtain ⟨z, kz, z1, z2⟩ := bin_ok hn ht hu b d
        refine ⟨z, kz, ko_gen (ps := [a, c]) rfl rfl rfl hps hx (by simp) hk (fun q => absurd q hN) (fun e i1 _ => ?_), lk_gen (ps := [a, c]) (rs := [.tup [.str t, .bl b], .tup [.str u, .bl d]]) rfl rfl rfl rfl hy (by simp) hk (fun q => absurd q hN) (fun e i1 _ => ?_)⟩
        · refine sr_if (b := false) (er_tst (er_op rfl er_C rfl rfl rfl rfl)) rfl (fun q => by cases q) (fun _ => ?_)
          refine sr_nx (sr_if (b := true) (er_tst (er_op rfl er_C rfl rfl rfl rfl)) rfl (fun _ => ?_) (fun q => by cases q))
          exact sr_retS (er_call (ds := [.str nm, .tup [.str t, .bl b], .tup [.str u, .bl d]]) (er_cons (er_ix rfl er_C rfl i1) (er_cons (er_ix rfl er_C rfl rfl) (er_cons (er_ix rfl er_C rfl rfl) er_nil))) z1) rfl
        · refine sr_if (b := false) (er_tst (er_op rfl er_C rfl rfl rfl rfl)) rfl (fun q => by cases q) (fun _ => ?_)
          refine sr_nx (sr_if (b := true) (er_tst (er_op rfl er_C rfl rfl rfl rfl)) rfl (fun _ => ?_) (fun q => by cases q))
          exact sr_retS (er_call (ds := [.str nm, .tup [.str t, .bl b], .tup [.str u, .bl d]]) (er_cons (er_ix rfl er_C rfl i1) (er_cons (er_ix rfl er_C rfl rfl) (er_cons (er_ix rfl er_C rfl rfl) er_nil))) z2) rfl
/-- a constant -/
def CV : D → Prop
  | .non => True
  | .bl _ => True
  | .int i => i.natAbs ≤ 10 ^ 15
  | .str s => s.length ≤ 100 ∧ ∀ c ∈ s, c < 128
  | _ => False
theorem k_con {v : D} (hv : CV v) : ∃ z, IsK z ∧ runP 6 2 (b_kind_of F) [.tup [.str sCON, v], cols] = some (.dat z) ∧ runP 9 2 (b__law_kind F2) [.tup [.str sCON, v], cols] = some (.dat z) := by
  cases v with
  | non => exact ⟨.non, .inl rfl, rfl, rfl⟩
  | bl b => cases b <;> exact ⟨_, .inr ⟨[98, 111, 111, 108], by decide, false, rfl⟩, rfl, rfl⟩
  | int i => exact ⟨_, .inr ⟨[105, 110, 116], by decide, false, rfl⟩, rfl, rfl⟩
  | str s => exact ⟨_, .inr ⟨[116, 101, 120, 116], by decide, false, rfl⟩, rfl, rfl⟩
  | _ => exact hv.elim
theorem k_col {c : Int} {CL : List D} (h0 : 0 ≤ c) (hC : ∀ d ∈ CL, IsK d) : ∃ z, IsK z ∧ runP 6 2 (b_kind_of F) [.tup [.str sCOL, .int c], .lst CL] = some (.dat z) ∧ runP 9 2 (b__law_kind F2) [.tup [.str sCOL, .int c], .lst CL] = some (.dat z) := by
  obtain ⟨j, rfl⟩ := Int.eq_ofNat_of_zero_le h0
  have i0 : ixD (.tup [.str sCOL, .int (j : Int)]) 0 = some (.str sCOL) := rfl
  have i1 : ixD (.tup [.str sCOL, .int (j : Int)]) 1 = some (.int (j : Int)) := rfl
  have ln : lenD [.lst CL] = some (.int (CL.length : Nat)) := rfl
  by_cases h : j < CL.length
  · have ij : ixD (.lst CL) (j : Int) = some CL[j] := atI_nat (List.getElem?_eq_getElem h)
    have lt : ltX (.int (j : Int)) (.int (CL.length : Nat)) = some (.bl true) := by
      show some (D.bl (decide ((j : Int) < (CL.length : Nat)))) = _
      rw [decide_eq_true (by omega)]
    refine ⟨CL[j], hC _ (List.getElem_mem h), ?_, ?_⟩
    · generalize D.tup [.str sCOL, .int (j : Int)] = e at *
      unfold b_kind_of
      refine runP_ap (g := [.dat e, .dat (.lst CL), .un, .un, .un, .un]) rfl rfl ?_
      refine seq_nx (g1 := [.dat e, .dat (.lst CL), .dat (.str sCOL), .un, .un, .un]) (set_dat (er_ix rfl er_C rfl i0) rfl rfl) ?_
      refine sr_if (b := false) (er_tst (er_op rfl er_C rfl rfl rfl rfl)) rfl (fun q => by cases q) (fun _ => ?_)
      refine sr_nx (sr_if (b := true) (er_tst (er_op rfl er_C rfl rfl rfl rfl)) rfl (fun _ => ?_) (fun q => by cases q))
      exact sr_retS (er_ifT (er_tst (er_op (er_ix rfl er_C rfl i1) (er_callS (er_cons rfl er_nil) rfl ln rfl) rfl rfl lt rfl)) (er_ix rfl (er_ix rfl er_C rfl i1) rfl ij)) rfl
    · generalize D.tup [.str sCOL, .int (j : Int)] = e at *
      unfold b__law_kind
      refine runP_ap (g := [.dat e, .dat (.lst CL), .un, .un, .un, .un, .un, .un, .un]) rfl rfl ?_
      refine seq_nx (g1 := [.dat e, .dat (.lst CL), .dat (.str sCOL), .un, .un, .un, .un, .un, .un]) (set_dat (er_ix rfl er_C rfl i0) rfl rfl) ?_
      refine sr_if (b := false) (er_tst (er_op rfl er_C rfl rfl rfl rfl)) rfl (fun q => by cases q) (fun _ => ?_)
      refine sr_nx (sr_if (b := true) (er_tst (er_op rfl er_C rfl rfl rfl rfl)) rfl (fun _ => ?_) (fun q => by cases q))
      refine sr_assoc (sr_if (b := true) (er_tst (er_op (er_ix rfl er_C rfl i1) (er_callS (er_cons rfl er_nil) rfl ln rfl) rfl rfl lt rfl)) rfl (fun _ => ?_) (fun q => by cases q))
      exact sr_retS (er_ix rfl (er_ix rfl er_C rfl i1) rfl ij) rfl
  · have lt : ltX (.int (j : Int)) (.int (CL.length : Nat)) = some (.bl false) := by
      show some (D.bl (decide ((j : Int) < (CL.length : Nat)))) = _
      rw [decide_eq_false (by omega)]
    refine ⟨.non, .inl rfl, ?_, ?_⟩
    · generalize D.tup [.str sCOL, .int (j : Int)] = e at *
      unfold b_kind_of
      refine runP_ap (g := [.dat e, .dat (.lst CL), .un, .un, .un, .un]) rfl rfl ?_
      refine seq_nx (g1 := [.dat e, .dat (.lst CL), .dat (.str sCOL), .un, .un, .un]) (set_dat (er_ix rfl er_C rfl i0) rfl rfl) ?_
      refine sr_if (b := false) (er_tst (er_op rfl er_C rfl rfl rfl rfl)) rfl (fun q => by cases q) (fun _ => ?_)
      refine sr_nx (sr_if (b := true) (er_tst (er_op rfl er_C rfl rfl rfl rfl)) rfl (fun _ => ?_) (fun q => by cases q))
      exact sr_retS (er_ifF (er_tst (er_op (er_ix rfl er_C rfl i1) (er_callS (er_cons rfl er_nil) rfl ln rfl) rfl rfl lt rfl)) er_C) rfl
    · generalize D.tup [.str sCOL, .int (j : Int)] = e at *
      unfold b__law_kind
      refine runP_ap (g := [.dat e, .dat (.lst CL), .un, .un, .un, .un, .un, .un, .un]) rfl rfl ?_
      refine seq_nx (g1 := [.dat e, .dat (.lst CL), .dat (.str sCOL), .un, .un, .un, .un, .un, .un]) (set_dat (er_ix rfl er_C rfl i0) rfl rfl) ?_
      refine sr_if (b := false) (er_tst (er_op rfl er_C rfl rfl rfl rfl)) rfl (fun q => by cases q) (fun _ => ?_)
      refine sr_nx (sr_if (b := true) (er_tst (er_op rfl er_C rfl rfl rfl rfl)) rfl (fun _ => ?_) (fun q => by cases q))
      refine sr_assoc (sr_if (b := false) (er_tst (er_op (er_ix rfl er_C rfl i1) (er_callS (er_cons rfl er_nil) rfl ln rfl) rfl rfl lt rfl)) rfl (fun q => by cases q) (fun _ => ?_))
      exact sr_nx (sr_retS er_C rfl)
def k0 : D → D
  | .tup (x :: _) => x
  | _ => .non
abbrev kN : List (List Nat) := [[112, 97, 114, 116], [115, 112, 108, 105, 116], [112, 97, 100], [114, 101, 112, 108, 97, 99, 101]]
abbrev dN : List D := [.tup [.str [116, 101, 120, 116], .str [105, 110, 116], .str [105, 110, 116]], .tup [.str [116, 101, 120, 116], .str [116, 101, 120, 116], .str [105, 110, 116]], .tup [.str [116, 101, 120, 116], .str [116, 101, 120, 116], .str [105, 110, 116]], .tup [.str [116, 101, 120, 116], .str [116, 101, 120, 116], .str [116, 101, 120, 116]]]
theorem need_ok : ∀ nm ∈ NT, ∃ d : D, lookD kt_TERNARY_KINDS dt_TERNARY_KINDS nm = some d ∧ lookD kN dN nm = some d ∧ d.rok = true ∧ d.dp ≤ 1 := fun nm h => by
  have h : nm ∈ ([[112, 97, 114, 116], [115, 112, 108, 105, 116], [114, 101, 112, 108, 97, 99, 101], [112, 97, 100]] : List (List Nat)) := h
  simp only [List.mem_cons, List.not_mem_nil, or_false] at h
  rcases h with rfl | rfl | rfl | rfl <;> exact ⟨_, rfl, rfl, rfl, Nat.le_refl _⟩
theorem k_ter {nm : List Nat} {a b c r s u : D} (hn : nm ∈ NT) (ha : F [a, cols] = some (.dat r)) (ha2 : F2 [a, cols] = some (.dat r)) (k1 : IsK r) (hb : F [b, cols] = some (.dat s)) (hb2 : F2 [b, cols] = some (.dat s)) (k2 : IsK s) (hc : F [c, cols] = some (.dat u)) (hc2 : F2 [c, cols] = some (.dat u)) (k3 : IsK u) :
    ∃ z, IsK z ∧ runP 6 2 (b_kind_of F) [.tup [.str sTER, .str nm, a, b, c], cols] = some (.dat z) ∧ runP 9 2 (b__law_kind F2) [.tup [.str sTER, .str nm, a, b, c], cols] = some (.dat z) := by
  have hk : ∀ x ∈ [r, s, u], IsK x := fun x hx => by
    simp only [List.mem_cons, List.not_mem_nil, or_false] at hx
    rcases hx with rfl | rfl | rfl <;> assumption
  have hps : List.map (fun x => frv (F [x, cols])) [a, b, c] = [r, s, u] := by simp [ha, hb, hc, frv]
  have hx : ∀ x ∈ [a, b, c], F [x, cols] = some (.dat (frv (F [x, cols]))) := fun x hx => by
    simp only [List.mem_cons, List.not_mem_nil, or_false] at hx
    rcases hx with rfl | rfl | rfl
    · rw [ha]; rfl
    · rw [hb]; rfl
    · rw [hc]; rfl
  have hy : ∀ (i : Nat) (x r' : D), [a, b, c][i]? = some x → [r, s, u][i]? = some r' → F2 [x, cols] = some (.dat r') := fun i x r' h1 h2 => by
    match i with
    | 0 => cases h1; cases h2; exact ha2
    | 1 => cases h1; cases h2; exact hb2
    | 2 => cases h1; cases h2; exact hc2
    | i + 3 => simp at h1
  by_cases hN : ([r, s, u].any isN) = true
  · exact ⟨.non, .inl rfl, ko_gen (ps := [a, b, c]) rfl rfl rfl hps hx (by simp) hk (fun _ => rfl) (fun _ _ q => by rw [hN] at q; cases q), lk_gen (ps := [a, b, c]) (rs := [r, s, u]) rfl rfl rfl rfl hy (by simp) hk (fun _ => rfl) (fun _ _ q => by rw [hN] at q; cases q)⟩
  · rcases k1 with rfl | ⟨t1, m1, b1, rfl⟩
    · exact absurd rfl hN
    rcases k2 with rfl | ⟨t2, m2, b2, rfl⟩
    · exact absurd (by simp [isN]) hN
    rcases k3 with rfl | ⟨t3, m3, b3, rfl⟩
    · exact absurd (by simp [isN]) hN
    obtain ⟨d, d1, d2, d3, d4⟩ := need_ok nm hn
    have tr : ∀ t ∈ KS, (D.str t).rok = true := by decide
    have xr : (D.tup [.str t1, .str t2, .str t3]).rok = true := by
      show ((D.str t1).rok && ((D.str t2).rok && ((D.str t3).rok && true))) = true
      rw [tr t1 m1, tr t2 m2, tr t3 m3]; rfl
    have eq := dr_eqR xr (show max 0 (max 0 (max 0 0)) + 1 ≤ 60 by decide) d3 (by omega)
    generalize D.eqv (.tup [.str t1, .str t2, .str t3]) d = bq at eq
    have fm : ([.tup [.str t1, .bl b1], .tup [.str t2, .bl b2], .tup [.str t3, .bl b3]] : List D).map k0 = [.str t1, .str t2, .str t3] := rfl
    have mem0 : ∀ y ∈ ([.tup [.str t1, .bl b1], .tup [.str t2, .bl b2], .tup [.str t3, .bl b3]] : List D), ixD y 0 = some (k0 y) := fun y hy => by
      simp only [List.mem_cons, List.not_mem_nil, or_false] at hy
      rcases hy with rfl | rfl | rfl <;> rfl
    refine ⟨if bq = true then .tup [.str [116, 101, 120, 116], .bl true] else .non, ?_, ?_, ?_⟩
    · cases bq with
      | true => exact .inr ⟨[116, 101, 120, 116], by decide, true, rfl⟩
      | false => exact .inl rfl
    · refine ko_gen (ps := [a, b, c]) rfl rfl rfl hps hx (by simp) hk (fun q => absurd q hN) (fun e i1 _ => ?_)
      have lo := er_lcO (b := fun _ => true) (f := k0) (tg := gN 5) (tt := zYes) (el := zIx (zVar 5) (zC (.int 0))) (vs := [5]) (mi := ziL 6 (zVar 3)) (g := [.dat e, .dat cols, .dat (.str sTER), .own (.lst [.tup [.str t1, .bl b1], .tup [.str t2, .bl b2], .tup [.str t3, .bl b3]]) false false, .un, .un]) (base := [.dat e, .dat cols, .dat (.str sTER), .own (.lst [.tup [.str t1, .bl b1], .tup [.str t2, .bl b2], .tup [.str t3, .bl b3]]) false true, .un, .un]) (mi_Lb rfl (Nat.le_of_ble_eq_true rfl) rfl) rfl rfl (fun o => rfl) (fun o => rfl) (Nat.le_of_ble_eq_true rfl)
        (fun y hy => lc_dat (h := [.dat e, .dat cols, .dat (.str sTER), .own (.lst [.tup [.str t1, .bl b1], .tup [.str t2, .bl b2], .tup [.str t3, .bl b3]]) false true, .un, .dat y]) rfl (fun o => rfl) (fun o => rfl) (fun o => rfl) (fun o => rfl) (fun _ o => er_ix rfl er_C rfl (mem0 y hy)))
      rw [List.filter_eq_self.mpr (fun _ _ => rfl), fm] at lo
      have tp := er_tupL (mr := zCons (zLc (ziL 6 (zVar 3)) (gN 5) zYes (zIx (zVar 5) (zC (.int 0))) [5]) zNil) (g := [.dat e, .dat cols, .dat (.str sTER), .own (.lst [.tup [.str t1, .bl b1], .tup [.str t2, .bl b2], .tup [.str t3, .bl b3]]) false false, .un, .un]) (l := [.str t1, .str t2, .str t3]) (er_cons lo er_nil) rfl
      refine sr_if (b := false) (er_tst (er_op rfl er_C rfl rfl rfl rfl)) rfl (fun q => by cases q) (fun _ => ?_)
      refine sr_nx (sr_if (b := false) (er_tst (er_op rfl er_C rfl rfl rfl rfl)) rfl (fun q => by cases q) (fun _ => ?_))
      refine sr_nx (sr_if (b := bq) (g2 := [.dat e, .dat cols, .dat (.str sTER), .own (.lst [.tup [.str t1, .bl b1], .tup [.str t2, .bl b2], .tup [.str t3, .bl b3]]) false false, .un, .un]) (er_tst (er_op tp (er_tab (er_ix rfl er_C rfl i1) d1) rfl rfl eq rfl)) rfl (fun q => ?_) (fun q => ?_))
      · rw [if_pos q]
        exact sr_retS (er_tup (er_cons er_C (er_cons er_C er_nil)) rfl (Nat.le_of_ble_eq_true rfl)) rfl
      · rw [if_neg (by rw [q]; exact Bool.false_ne_true)]
        exact sr_nx (sr_ret er_C rfl)
    · refine lk_gen (ps := [a, b, c]) (rs := [.tup [.str t1, .bl b1], .tup [.str t2, .bl b2], .tup [.str t3, .bl b3]]) rfl rfl rfl rfl hy (by simp) hk (fun q => absurd q hN) (fun e i1 _ => ?_)
      have lo := er_lcO (b := fun _ => true) (f := k0) (tg := gN 8) (tt := zYes) (el := zIx (zVar 8) (zC (.int 0))) (vs := [8]) (mi := ziL 9 (zVar 3)) (g := [.dat e, .dat cols, .dat (.str sTER), .own (.lst [.tup [.str t1, .bl b1], .tup [.str t2, .bl b2], .tup [.str t3, .bl b3]]) false false, .dat (.dic kN dN), .un, .un, .un, .un]) (base := [.dat e, .dat cols, .dat (.str sTER), .own (.lst [.tup [.str t1, .bl b1], .tup [.str t2, .bl b2], .tup [.str t3, .bl b3]]) false true, .dat (.dic kN dN), .un, .un, .un, .un]) (mi_Lb rfl (Nat.le_of_ble_eq_true rfl) rfl) rfl rfl (fun o => rfl) (fun o => rfl) (Nat.le_of_ble_eq_true rfl)
        (fun y hy => lc_dat (h := [.dat e, .dat cols, .dat (.str sTER), .own (.lst [.tup [.str t1, .bl b1], .tup [.str t2, .bl b2], .tup [.str t3, .bl b3]]) false true, .dat (.dic kN dN), .un, .un, .un, .dat y]) rfl (fun o => rfl) (fun o => rfl) (fun o => rfl) (fun o => rfl) (fun _ o => er_ix rfl er_C rfl (mem0 y hy)))
      rw [List.filter_eq_self.mpr (fun _ _ => rfl), fm] at lo
      have tp := er_tupL (mr := zCons (zLc (ziL 9 (zVar 3)) (gN 8) zYes (zIx (zVar 8) (zC (.int 0))) [8]) zNil) (g := [.dat e, .dat cols, .dat (.str sTER), .own (.lst [.tup [.str t1, .bl b1], .tup [.str t2, .bl b2], .tup [.str t3, .bl b3]]) false false, .dat (.dic kN dN), .un, .un, .un, .un]) (l := [.str t1, .str t2, .str t3]) (er_cons lo er_nil) rfl
      refine sr_if (b := false) (er_tst (er_op rfl er_C rfl rfl rfl rfl)) rfl (fun q => by cases q) (fun _ => ?_)
      refine sr_nx (sr_if (b := false) (er_tst (er_op rfl er_C rfl rfl rfl rfl)) rfl (fun q => by cases q) (fun _ => ?_))
      refine sr_nx (seq_nx (g1 := [.dat e, .dat cols, .dat (.str sTER), .own (.lst [.tup [.str t1, .bl b1], .tup [.str t2, .bl b2], .tup [.str t3, .bl b3]]) false false, .dat (.dic kN dN), .un, .un, .un, .un]) (set_dat (d := .dic kN dN) rfl rfl rfl) ?_)
      refine sr_if (b := bq) (g2 := [.dat e, .dat cols, .dat (.str sTER), .own (.lst [.tup [.str t1, .bl b1], .tup [.str t2, .bl b2], .tup [.str t3, .bl b3]]) false false, .dat (.dic kN dN), .un, .un, .un, .un]) (er_tst (er_op tp (er_dgt rfl (er_ix rfl er_C rfl i1) d2) rfl rfl eq rfl)) rfl (fun q => ?_) (fun q => ?_)
      · rw [if_pos q]
        exact sr_retS (er_tup (er_cons er_C (er_cons er_C er_nil)) rfl (Nat.le_of_ble_eq_true rfl)) rfl
      · rw [if_neg (by rw [q]; exact Bool.false_ne_true)]
        exact sr_nx (sr_ret er_C rfl)
end
theorem neS (a b : List Nat) : neqD (.str a) (.str b) = some (.bl (!(a == b))) := rfl
abbrev tB : List Nat := [98, 111, 111, 108]
/-- the kind of a choice -/
def ck (rc r1 r2 : D) (n1 n2 : Bool) : D := match rc with
  | .tup [.str t, .bl _] => if t == tB then (match r1, r2 with
    | .tup [.str a, .bl b], .tup [.str c, .bl d] => if a == c then .tup [.str a, .bl (b || d)] else .non
    | .tup [.str a, .bl _], .non => if n2 then .tup [.str a, .bl true] else .non
    | .non, .tup [.str a, .bl _] => if n1 then .tup [.str a, .bl true] else .non
    | _, _ => .non) else .non
  | _ => .non
theorem ck_is {rc r1 r2 : D} {n1 n2 : Bool} (h0 : IsK rc) (h1 : IsK r1) (h2 : IsK r2) : IsK (ck rc r1 r2 n1 n2) := by
  rcases h0 with rfl | ⟨t0, m0, b0, rfl⟩
  · exact .inl rfl
  · unfold ck
    simp only
    split
    · rcases h1 with rfl | ⟨t1, m1, b1, rfl⟩ <;> rcases h2 with rfl | ⟨t2, m2, b2, rfl⟩
      · exact .inl rfl
      · cases n1
        · exact .inl rfl
        · exact .inr ⟨t2, m2, true, rfl⟩
      · cases n2
        · exact .inl rfl
        · exact .inr ⟨t1, m1, true, rfl⟩
      · simp only
        split
        · exact .inr ⟨t1, m1, _, rfl⟩
        · exact .inl rfl
    · exact .inl rfl
section
variable {F F2 : List D → Option FR} {cols : D}
theorem lck_ok {rc r1 r2 : D} {n1 n2 : Bool} (h0 : IsK rc) (h1 : IsK r1) (h2 : IsK r2) : d__law_choice_kind [rc, r1, r2, .lst [.bl n1, .bl n2]] = some (.dat (ck rc r1 r2 n1 n2)) := by
  unfold d__law_choice_kind b__law_choice_kind
  rcases h0 with rfl | ⟨t0, m0, b0, rfl⟩
  · rfl
  · refine runP_ap (g := [.dat (.tup [.str t0, .bl b0]), .dat r1, .dat r2, .dat (.lst [.bl n1, .bl n2])]) rfl rfl ?_
    have to : zOrT (zTst (zOp isD (zVar 0) (zC .non))) (zTst (zOp neqD (zIx (zVar 0) (zC (.int 0))) (zC (.str [98, 111, 111, 108])))) [.dat (.tup [.str t0, .bl b0]), .dat r1, .dat r2, .dat (.lst [.bl n1, .bl n2])] = some (false || !(t0 == tB), [.dat (.tup [.str t0, .bl b0]), .dat r1, .dat r2, .dat (.lst [.bl n1, .bl n2])]) := er_orT (er_tst (er_op rfl er_C rfl rfl rfl rfl)) (fun _ => er_tst (er_op (er_ix rfl er_C rfl rfl) er_C rfl rfl (neS t0 tB) rfl))
    rw [Bool.false_or] at to
    refine sr_if to rfl (fun q => ?_) (fun q => ?_)
    · have e : ck (.tup [.str t0, .bl b0]) r1 r2 n1 n2 = .non := by
        have q : (t0 == tB) = false := by cases h : (t0 == tB) with
          | true => rw [h] at q; cases q
          | false => rfl
        unfold ck
        simp only [q, Bool.false_eq_true, if_false]
      rw [e]
      exact sr_retS er_C rfl
    · have q : (t0 == tB) = true := by cases h : (t0 == tB) with
          | true => rfl
          | false => rw [h] at q; cases q
      unfold ck
      simp only [q, if_true]
      rcases h1 with rfl | ⟨t1, m1, b1, rfl⟩ <;> rcases h2 with rfl | ⟨t2, m2, b2, rfl⟩
      · rfl
      · cases n1 <;> rfl
      · cases n2 <;> rfl
      · have tt : zTst (zOp eqD (zIx (zVar 1) (zC (.int 0))) (zIx (zVar 2) (zC (.int 0)))) [.dat (.tup [.str t0, .bl b0]), .dat (.tup [.str t1, .bl b1]), .dat (.tup [.str t2, .bl b2]), .dat (.lst [.bl n1, .bl n2])] = some (t1 == t2, [.dat (.tup [.str t0, .bl b0]), .dat (.tup [.str t1, .bl b1]), .dat (.tup [.str t2, .bl b2]), .dat (.lst [.bl n1, .bl n2])]) := er_tst (er_op (er_ix rfl er_C rfl rfl) (er_ix rfl er_C rfl rfl) rfl rfl (eqS t1 t2) rfl)
        refine sr_nx (sr_if (b := true) (er_andTT (b1 := true) (er_tst (er_op rfl er_C rfl rfl rfl rfl)) rfl (er_tst (er_op rfl er_C rfl rfl rfl rfl))) rfl (fun _ => ?_) (fun q => by cases q))
        refine sr_assoc (sr_if tt rfl (fun q => ?_) (fun q => ?_))
        · simp only [q, if_true]
          cases b1 <;> cases b2 <;> rfl
        · simp only [q, Bool.false_eq_true, if_false]
          exact sr_nx (sr_retS er_C rfl)
/-- whether it is the constant None, told in two ways -/
def Nq (x : D) (n : Bool) : Prop := eqD x (.tup [.str sCON, .non]) = some (.bl n) ∧ ∃ f, ixD x 0 = some (.str f) ∧ (((f == sCON) = true ∧ ∃ v, ixD x 1 = some v ∧ isD v .non = some (.bl n)) ∨ ((f == sCON) = false ∧ n = false))
theorem cc_ok {c x y rc r1 r2 : D} {n1 n2 : Bool} (h0 : IsK rc) (h1 : IsK r1) (h2 : IsK r2) (fc : F [c, cols] = some (.dat rc)) (fx : F [x, cols] = some (.dat r1)) (fy : F [y, cols] = some (.dat r2)) (q1 : Nq x n1) (q2 : Nq y n2) : d_choice_kind F [.tup [.str sCHO, c, x, y], cols] = some (.dat (ck rc r1 r2 n1 n2)) := by
  have i1 : ixD (.tup [.str sCHO, c, x, y]) 1 = some c := rfl
  have i2 : ixD (.tup [.str sCHO, c, x, y]) 2 = some x := rfl
  have i3 : ixD (.tup [.str sCHO, c, x, y]) 3 = some y := rfl
  generalize D.tup [.str sCHO, c, x, y] = e at *
  unfold d_choice_kind b_choice_kind
  refine runP_ap (g := [.dat e, .dat cols, .un, .un, .un]) rfl rfl ?_
  refine seq_nx (g1 := [.dat e, .dat cols, .dat rc, .un, .un]) (set_dat (er_call (ds := [c, cols]) (er_cons (er_ix rfl er_C rfl i1) (er_cons rfl er_nil)) fc) rfl rfl) ?_
  rcases h0 with rfl | ⟨t0, m0, b0, rfl⟩
  · refine sr_if (b := true) (er_orTt (b := true) (er_tst (er_op rfl er_C rfl rfl rfl rfl)) rfl) rfl (fun _ => ?_) (fun q => by cases q)
    exact sr_retS er_C rfl
  · have to : zOrT (zTst (zOp isD (zVar 2) (zC .non))) (zTst (zOp neqD (zIx (zVar 2) (zC (.int 0))) (zC (.str [98, 111, 111, 108])))) [.dat e, .dat cols, .dat (.tup [.str t0, .bl b0]), .un, .un] = some (false || !(t0 == tB), [.dat e, .dat cols, .dat (.tup [.str t0, .bl b0]), .un, .un]) := er_orT (er_tst (er_op rfl er_C rfl rfl rfl rfl)) (fun _ => er_tst (er_op (er_ix rfl er_C rfl rfl) er_C rfl rfl (neS t0 tB) rfl))
    rw [Bool.false_or] at to
    refine sr_if to rfl (fun q => ?_) (fun q => ?_)
    · have e2 : ck (.tup [.str t0, .bl b0]) r1 r2 n1 n2 = .non := by
        have q : (t0 == tB) = false := by cases h : (t0 == tB) with
          | true => rw [h] at q; cases q
          | false => rfl
        unfold ck
        simp only [q, Bool.false_eq_true, if_false]
      rw [e2]
      exact sr_retS er_C rfl
    · have q : (t0 == tB) = true := by cases h : (t0 == tB) with
          | true => rfl
          | false => rw [h] at q; cases q
      unfold ck
      simp only [q, if_true]
      refine sr_nx (seq_nx (g1 := [.dat e, .dat cols, .dat (.tup [.str t0, .bl b0]), .dat r1, .un]) (set_dat (er_call (ds := [x, cols]) (er_cons (er_ix rfl er_C rfl i2) (er_cons rfl er_nil)) fx) rfl rfl) ?_)
      refine seq_nx (g1 := [.dat e, .dat cols, .dat (.tup [.str t0, .bl b0]), .dat r1, .dat r2]) (set_dat (er_call (ds := [y, cols]) (er_cons (er_ix rfl er_C rfl i3) (er_cons rfl er_nil)) fy) rfl rfl) ?_
      rcases h1 with rfl | ⟨t1, m1, b1, rfl⟩ <;> rcases h2 with rfl | ⟨t2, m2, b2, rfl⟩
      · refine sr_if (b := false) rfl rfl (fun q => by cases q) (fun _ => ?_)
        refine sr_nx (sr_if (b := false) rfl rfl (fun q => by cases q) (fun _ => ?_))
        refine sr_nx (sr_if (b := false) rfl rfl (fun q => by cases q) (fun _ => ?_))
        exact sr_nx (sr_ret er_C rfl)
      · change _ = some (FR.dat (if n1 = true then D.tup [.str t2, .bl true] else .non))
        refine sr_if (b := false) rfl rfl (fun q => by cases q) (fun _ => ?_)
        have t2' : zAndT (zTst (zOp isD (zVar 3) (zC .non))) (zAndT (zTst (zOp isntD (zVar 4) (zC .non))) (zTst (zOp eqD (zIx (zVar 0) (zC (.int 2))) (zTup (zCons (zC (.str [99, 111, 110, 115, 116, 97, 110, 116])) (zCons (zC .non) (zNil))))))) [.dat e, .dat cols, .dat (.tup [.str t0, .bl b0]), .dat .non, .dat (.tup [.str t2, .bl b2])] = some (n1, [.dat e, .dat cols, .dat (.tup [.str t0, .bl b0]), .dat .non, .dat (.tup [.str t2, .bl b2])]) := er_andTT (b1 := true) (er_tst (er_op rfl er_C rfl rfl rfl rfl)) rfl (er_andTT (b1 := true) (er_tst (er_op rfl er_C rfl rfl rfl rfl)) rfl (er_tst (er_op (er_ix rfl er_C rfl i2) (er_tup (er_cons er_C (er_cons er_C er_nil)) rfl (Nat.le_of_ble_eq_true rfl)) rfl rfl q1.1 rfl)))
        refine sr_nx (sr_if t2' rfl (fun q => ?_) (fun q => ?_))
        · rw [if_pos q]
          exact sr_retS (er_tup (er_cons (er_ix rfl er_C rfl rfl) (er_cons er_C er_nil)) rfl (Nat.le_of_ble_eq_true rfl)) rfl
        · rw [if_neg (by rw [q]; exact Bool.false_ne_true)]
          refine sr_nx (sr_if (b := false) rfl rfl (fun q => by cases q) (fun _ => ?_))
          exact sr_nx (sr_ret er_C rfl)
      · change _ = some (FR.dat (if n2 = true then D.tup [.str t1, .bl true] else .non))
        refine sr_if (b := false) rfl rfl (fun q => by cases q) (fun _ => ?_)
        refine sr_nx (sr_if (b := false) rfl rfl (fun q => by cases q) (fun _ => ?_))
        have t2' : zAndT (zTst (zOp isD (zVar 4) (zC .non))) (zAndT (zTst (zOp isntD (zVar 3) (zC .non))) (zTst (zOp eqD (zIx (zVar 0) (zC (.int 3))) (zTup (zCons (zC (.str [99, 111, 110, 115, 116, 97, 110, 116])) (zCons (zC .non) (zNil))))))) [.dat e, .dat cols, .dat (.tup [.str t0, .bl b0]), .dat (.tup [.str t1, .bl b1]), .dat .non] = some (n2, [.dat e, .dat cols, .dat (.tup [.str t0, .bl b0]), .dat (.tup [.str t1, .bl b1]), .dat .non]) := er_andTT (b1 := true) (er_tst (er_op rfl er_C rfl rfl rfl rfl)) rfl (er_andTT (b1 := true) (er_tst (er_op rfl er_C rfl rfl rfl rfl)) rfl (er_tst (er_op (er_ix rfl er_C rfl i3) (er_tup (er_cons er_C (er_cons er_C er_nil)) rfl (Nat.le_of_ble_eq_true rfl)) rfl rfl q2.1 rfl)))
        refine sr_nx (sr_if t2' rfl (fun q => ?_) (fun q => ?_))
        · rw [if_pos q]
          exact sr_retS (er_tup (er_cons (er_ix rfl er_C rfl rfl) (er_cons er_C er_nil)) rfl (Nat.le_of_ble_eq_true rfl)) rfl
        · rw [if_neg (by rw [q]; exact Bool.false_ne_true)]
          exact sr_nx (sr_ret er_C rfl)
      · change _ = some (FR.dat (if (t1 == t2) = true then D.tup [.str t1, .bl (b1 || b2)] else .non))
        refine sr_if (b := true) rfl rfl (fun _ => ?_) (fun q => by cases q)
        have tt : zTst (zOp eqD (zIx (zVar 3) (zC (.int 0))) (zIx (zVar 4) (zC (.int 0)))) [.dat e, .dat cols, .dat (.tup [.str t0, .bl b0]), .dat (.tup [.str t1, .bl b1]), .dat (.tup [.str t2, .bl b2])] = some (t1 == t2, [.dat e, .dat cols, .dat (.tup [.str t0, .bl b0]), .dat (.tup [.str t1, .bl b1]), .dat (.tup [.str t2, .bl b2])]) := er_tst (er_op (er_ix rfl er_C rfl rfl) (er_ix rfl er_C rfl rfl) rfl rfl (eqS t1 t2) rfl)
        cases h : (t1 == t2) with
        | true =>
          rw [h] at tt
          rw [if_pos rfl]
          refine sr_retS (er_ifT tt (er_tup (er_cons (er_ix rfl er_C rfl rfl) (er_cons (show zOrV (zIx (zVar 3) (zC (.int 1))) (zIx (zVar 4) (zC (.int 1))) _ = some (.dat (.bl (b1 || b2)), [.dat e, .dat cols, .dat (.tup [.str t0, .bl b0]), .dat (.tup [.str t1, .bl b1]), .dat (.tup [.str t2, .bl b2])]) by cases b1 <;> cases b2 <;> rfl) er_nil)) rfl (Nat.le_of_ble_eq_true rfl))) rfl
        | false =>
          rw [h] at tt
          rw [if_neg Bool.false_ne_true]
          exact sr_retS (er_ifF tt er_C) rfl
theorem k_cho {c x y rc r1 r2 : D} {n1 n2 : Bool} (h0 : IsK rc) (h1 : IsK r1) (h2 : IsK r2) (fc : F [c, cols] = some (.dat rc)) (fx : F [x, cols] = some (.dat r1)) (fy : F [y, cols] = some (.dat r2)) (gc : F2 [c, cols] = some (.dat rc)) (gx : F2 [x, cols] = some (.dat r1)) (gy : F2 [y, cols] = some (.dat r2)) (q1 : Nq x n1) (q2 : Nq y n2) :
    ∃ z, IsK z ∧ runP 6 2 (b_kind_of F) [.tup [.str sCHO, c, x, y], cols] = some (.dat z) ∧ runP 9 2 (b__law_kind F2) [.tup [.str sCHO, c, x, y], cols] = some (.dat z) := by
  have cc := cc_ok h0 h1 h2 fc fx fy q1 q2
  have lc := lck_ok (n1 := n1) (n2 := n2) h0 h1 h2
  have kz := ck_is (n1 := n1) (n2 := n2) h0 h1 h2
  generalize ck rc r1 r2 n1 n2 = z at *
  have i0 : ixD (.tup [.str sCHO, c, x, y]) 0 = some (.str sCHO) := rfl
  have i1 : ixD (.tup [.str sCHO, c, x, y]) 1 = some c := rfl
  have i2 : ixD (.tup [.str sCHO, c, x, y]) 2 = some x := rfl
  have i3 : ixD (.tup [.str sCHO, c, x, y]) 3 = some y := rfl
  generalize D.tup [.str sCHO, c, x, y] = e at *
  refine ⟨z, kz, ?_, ?_⟩
  · unfold b_kind_of
    refine runP_ap (g := [.dat e, .dat cols, .un, .un, .un, .un]) rfl rfl ?_
    refine seq_nx (g1 := [.dat e, .dat cols, .dat (.str sCHO), .un, .un, .un]) (set_dat (er_ix rfl er_C rfl i0) rfl rfl) ?_
    refine sr_if (b := false) (er_tst (er_op rfl er_C rfl rfl rfl rfl)) rfl (fun q => by cases q) (fun _ => ?_)
    refine sr_nx (sr_if (b := false) (er_tst (er_op rfl er_C rfl rfl rfl rfl)) rfl (fun q => by cases q) (fun _ => ?_))
    refine sr_nx (sr_if (b := true) (er_tst (er_op rfl er_C rfl rfl rfl rfl)) rfl (fun _ => ?_) (fun q => by cases q))
    exact sr_retS (er_call (ds := [e, cols]) (er_cons rfl (er_cons rfl er_nil)) cc) rfl
  · have nul : ∀ (w : D) (n : Bool) (j : Int) (ex : List Sl), ixD e j = some w → Nq w n → zAndV (zOp eqD (zIx (zIx (zVar 0) (zVar 7)) (zC (.int 0))) (zC (.str [99, 111, 110, 115, 116, 97, 110, 116]))) (zOp isD (zIx (zIx (zVar 0) (zVar 7)) (zC (.int 1))) (zC .non)) ([.dat e, .dat cols, .dat (.str sCHO), .un, .un, .un, .un, .dat (.int j), .un] ++ ex) = some (.dat (.bl n), [.dat e, .dat cols, .dat (.str sCHO), .un, .un, .un, .un, .dat (.int j), .un] ++ ex) := fun w n j ex hj hq => by
      obtain ⟨_, f, w0, w1⟩ := hq
      rcases w1 with ⟨hf, v, w1, w2⟩ | ⟨hf, rfl⟩
      · have t := eqS f sCON
        rw [hf] at t
        have z := er_andV (ma := zOp eqD (zIx (zIx (zVar 0) (zVar 7)) (zC (.int 0))) (zC (.str [99, 111, 110, 115, 116, 97, 110, 116]))) (mb := zOp isD (zIx (zIx (zVar 0) (zVar 7)) (zC (.int 1))) (zC .non)) (g := [.dat e, .dat cols, .dat (.str sCHO), .un, .un, .un, .un, .dat (.int j), .un] ++ ex) (b1 := true) (b2 := n) (er_op (er_ix (er_ix rfl rfl rfl hj) er_C rfl w0) er_C rfl rfl t rfl) (fun _ => er_op (er_ix (er_ix rfl rfl rfl hj) er_C rfl w1) er_C rfl rfl w2 rfl)
        rw [Bool.true_and] at z
        exact z
      · have t := eqS f sCON
        rw [hf] at t
        exact er_andV (ma := zOp eqD (zIx (zIx (zVar 0) (zVar 7)) (zC (.int 0))) (zC (.str [99, 111, 110, 115, 116, 97, 110, 116]))) (mb := zOp isD (zIx (zIx (zVar 0) (zVar 7)) (zC (.int 1))) (zC .non)) (g := [.dat e, .dat cols, .dat (.str sCHO), .un, .un, .un, .un, .dat (.int j), .un] ++ ex) (b1 := false) (b2 := false) (er_op (er_ix (er_ix rfl rfl rfl hj) er_C rfl w0) er_C rfl rfl t rfl) (fun q => by cases q)
    have l1 := er_lc1 (b := fun _ => true) (f := fun d => match d with | .int 2 => .bl n1 | _ => .bl n2) (tg := gN 7) (tt := zYes) (el := zAndV (zOp eqD (zIx (zIx (zVar 0) (zVar 7)) (zC (.int 0))) (zC (.str [99, 111, 110, 115, 116, 97, 110, 116]))) (zOp isD (zIx (zIx (zVar 0) (zVar 7)) (zC (.int 1))) (zC .non))) (vs := [7]) (base := [.dat e, .dat cols, .dat (.str sCHO), .un, .un, .un, .un, .un, .un]) (mi := ziR2 (zCons (zC (.int 2)) (zCons (zC (.int 4)) (zNil)))) (g := [.dat e, .dat cols, .dat (.str sCHO), .un, .un, .un, .un, .un, .un]) (L := [.int 2, .int 3]) (mi_R2 (k := 2) (l := 4) (er_cons er_C (er_cons er_C er_nil)) rfl) (fun o => rfl) (fun o => rfl) (Nat.le_of_ble_eq_true rfl)
      (fun v hv => by
        simp only [List.mem_cons, List.not_mem_nil, or_false] at hv
        rcases hv with rfl | rfl
        · exact lc_dat (h := [.dat e, .dat cols, .dat (.str sCHO), .un, .un, .un, .un, .dat (.int 2), .un]) rfl (fun o => rfl) (fun o => rfl) (fun o => rfl) (fun o => rfl) (fun _ o => nul x n1 2 [o] i2 q1)
        · exact lc_dat (h := [.dat e, .dat cols, .dat (.str sCHO), .un, .un, .un, .un, .dat (.int 3), .un]) rfl (fun o => rfl) (fun o => rfl) (fun o => rfl) (fun o => rfl) (fun _ o => nul y n2 3 [o] i3 q2))
    have l2 := er_lc1 (b := fun _ => true) (f := fun d => match d with | .int 1 => rc | .int 2 => r1 | _ => r2) (tg := gN 7) (tt := zYes) (el := zCall F2 (zCons (zIx (zVar 0) (zVar 7)) (zCons (zVar 1) (zNil)))) (vs := [7]) (base := [.dat e, .dat cols, .dat (.str sCHO), .un, .un, .un, .own (.lst [.bl n1, .bl n2]) false false, .un, .un]) (mi := ziR2 (zCons (zC (.int 1)) (zCons (zC (.int 4)) (zNil)))) (g := [.dat e, .dat cols, .dat (.str sCHO), .un, .un, .un, .own (.lst [.bl n1, .bl n2]) false false, .un, .un]) (L := [.int 1, .int 2, .int 3]) (mi_R2 (k := 1) (l := 4) (er_cons er_C (er_cons er_C er_nil)) rfl) (fun o => rfl) (fun o => rfl) (Nat.le_of_ble_eq_true rfl)
      (fun v hv => by
        simp only [List.mem_cons, List.not_mem_nil, or_false] at hv
        rcases hv with rfl | rfl | rfl
        · exact lc_dat (h := [.dat e, .dat cols, .dat (.str sCHO), .un, .un, .un, .own (.lst [.bl n1, .bl n2]) false false, .dat (.int 1), .un]) rfl (fun o => rfl) (fun o => rfl) (fun o => rfl) (fun o => rfl) (fun _ o => er_call (ds := [c, cols]) (er_cons (er_ix rfl rfl rfl i1) (er_cons rfl er_nil)) gc)
        · exact lc_dat (h := [.dat e, .dat cols, .dat (.str sCHO), .un, .un, .un, .own (.lst [.bl n1, .bl n2]) false false, .dat (.int 2), .un]) rfl (fun o => rfl) (fun o => rfl) (fun o => rfl) (fun o => rfl) (fun _ o => er_call (ds := [x, cols]) (er_cons (er_ix rfl rfl rfl i2) (er_cons rfl er_nil)) gx)
        · exact lc_dat (h := [.dat e, .dat cols, .dat (.str sCHO), .un, .un, .un, .own (.lst [.bl n1, .bl n2]) false false, .dat (.int 3), .un]) rfl (fun o => rfl) (fun o => rfl) (fun o => rfl) (fun o => rfl) (fun _ o => er_call (ds := [y, cols]) (er_cons (er_ix rfl rfl rfl i3) (er_cons rfl er_nil)) gy))
    unfold b__law_kind
    refine runP_ap (g := [.dat e, .dat cols, .un, .un, .un, .un, .un, .un, .un]) rfl rfl ?_
    refine seq_nx (g1 := [.dat e, .dat cols, .dat (.str sCHO), .un, .un, .un, .un, .un, .un]) (set_dat (er_ix rfl er_C rfl i0) rfl rfl) ?_
    refine sr_if (b := false) (er_tst (er_op rfl er_C rfl rfl rfl rfl)) rfl (fun q => by cases q) (fun _ => ?_)
    refine sr_nx (sr_if (b := false) (er_tst (er_op rfl er_C rfl rfl rfl rfl)) rfl (fun q => by cases q) (fun _ => ?_))
    refine sr_nx (sr_if (b := true) (er_tst (er_op rfl er_C rfl rfl rfl rfl)) rfl (fun _ => ?_) (fun q => by cases q))
    refine sr_assoc (seq_nx (g1 := [.dat e, .dat cols, .dat (.str sCHO), .un, .un, .un, .own (.lst [.bl n1, .bl n2]) false false, .un, .un]) (set_own l1 (Nat.le_of_ble_eq_true rfl) rfl rfl rfl) ?_)
    refine sr_assoc (seq_nx (g1 := [.dat e, .dat cols, .dat (.str sCHO), .own (.lst [rc, r1, r2]) false false, .un, .un, .own (.lst [.bl n1, .bl n2]) false false, .un, .un]) (set_own l2 (Nat.le_of_ble_eq_true rfl) rfl rfl rfl) ?_)
    have ar : zCons (zIx (zVar 3) (zC (.int 0))) (zCons (zIx (zVar 3) (zC (.int 1))) (zCons (zIx (zVar 3) (zC (.int 2))) (zCons (zVar 6) (zNil)))) [.dat e, .dat cols, .dat (.str sCHO), .own (.lst [rc, r1, r2]) false false, .un, .un, .own (.lst [.bl n1, .bl n2]) false false, .un, .un] = some ([.dat rc, .dat r1, .dat r2, .bor 6], [.dat e, .dat cols, .dat (.str sCHO), .own (.lst [rc, r1, r2]) false false, .un, .un, .own (.lst [.bl n1, .bl n2]) false false, .un, .un]) := er_cons (er_ix rfl er_C rfl rfl) (er_cons (er_ix rfl er_C rfl rfl) (er_cons (er_ix rfl er_C rfl rfl) (er_cons rfl er_nil)))
    rcases kz with rfl | ⟨t, _, b, rfl⟩
    · exact sr_retS (er_callV ar rfl lc rfl) rfl
    · exact sr_retS (er_callGF ar rfl rfl lc rfl) rfl
end
end Qk14
set_option Elab.async false
set_option linter.all false
set_option maxRecDepth 100000
set_option maxHeartbeats 4000000
namespace Qk14
open PySem PySem.Spec PyProof.Rows L2 Z
local macro_rules | `(tactic| walk_at "l") => `(tactic| first | (simp only [wipeG_nil, wipeG_cons, List.set_cons_succ, List.set_cons_zero, List.take_succ_cons, List.take_zero, List.take_nil, List.cons_append, List.nil_append, List.length_cons, List.length_nil, List.set_nil, List.getElem?_cons_zero, List.getElem?_cons_succ, Nat.zero_add, Nat.reduceAdd]; first | done | exact rfl) | exact rfl)
local macro_rules | `(tactic| walk_at "d") => `(tactic| first
  | with_reducible assumption
  | (with_reducible apply dr_div) <;> decide
  | (with_reducible apply dr_mod) <;> decide
  | (with_reducible apply dr_mulr); decide
  | (with_reducible apply dr_mull); decide
  | (with_reducible apply dr_divB) <;> omega
  | (with_reducible apply dr_mulrB) <;> omega
  | (with_reducible apply dr_mullB) <;> omega
  | (with_reducible apply dr_mulC) <;> omega
  | (with_reducible apply dr_mod) <;> omega
  | (with_reducible refine isi_of ?_ ?_); (exact rfl); (first | exact kb_int_int | exact kb_int_bool | exact kb_bool_bool | exact kb_bool_int | exact kb_str_int | exact kb_str_bool | exact kb_str_str | exact kb_int_str | exact kb_bool_str | exact kb_non_int | exact kb_non_bool | exact kb_non_str | exact kb_list_list | exact kb_tuple_tuple | exact kb_list_tuple | exact kb_tuple_list)
  | with_reducible exact dr_abs
  | (with_reducible exact dr_neL _ _)
  | (simp only [Cn.d]; with_reducible assumption)
  | (simp only [Cn.d]; with_reducible exact dr_neL _ _)
  | with_reducible exact in_ints _ _
  | (simp only [Cn.d]; with_reducible exact in_ints _ _)
  | ((with_reducible apply dr_cat); (try simp only [List.length_append, List.length_cons, List.length_nil]); omega)
  | with_reducible exact dr_eqI
  | with_reducible exact dr_eqB
  | with_reducible exact dr_neB
  | with_reducible exact dr_eqS
  | with_reducible exact dr_neI
  | with_reducible exact dr_neS
  | exact rfl)
local macro_rules | `(tactic| walk_at "c") => `(tactic| first | with_reducible assumption | (simp only [Cn.d]; with_reducible assumption))
local macro_rules | `(tactic| walk_at "e") => `(tactic| first
  | with_reducible exact er_C
  | with_reducible exact er_nil
  | (with_reducible apply er_varD); exact rfl
  | (with_reducible apply er_varO); exact rfl
  | (with_reducible apply er_varF); exact rfl
  | (with_reducible apply er_op); walk_at "e"; walk_at "e"; exact rfl; exact rfl; walk_at "d"; exact rfl
  | (with_reducible apply er_chain); walk_at "e"; walk_at "e"; exact rfl; exact rfl; walk_at "d"; (intro _h; walk_at "e"); exact rfl; walk_at "d"
  | (with_reducible apply er_slS); walk_at "e"; walk_at "o"; walk_at "o"; exact rfl; walk_at "z"
  | (with_reducible apply er_slL); walk_at "e"; walk_at "o"; walk_at "o"; exact rfl
  | (with_reducible apply er_list); walk_at "e"; exact rfl; exact rfl
  | (with_reducible apply er_tupL); walk_at "e"; exact rfl
  | (with_reducible apply er_un); walk_at "e"; exact rfl; exact rfl; exact rfl
  | (with_reducible apply er_tst); walk_at "e"
  | (with_reducible apply er_tru); walk_at "e"; exact rfl; exact rfl
  | (with_reducible apply er_andT); walk_at "e"; (intro _h; walk_at "e")
  | (with_reducible apply er_orT); walk_at "e"; (intro _h; walk_at "e")
  | (with_reducible apply er_andTT); walk_at "e"; exact rfl; walk_at "e"
  | (with_reducible apply er_orTF); walk_at "e"; exact rfl; walk_at "e"
  | (with_reducible apply er_notT); walk_at "e"
  | (with_reducible apply er_andV); walk_at "e"; (intro _h; walk_at "e")
  | (with_reducible apply er_orV); walk_at "e"; (intro _h; walk_at "e")
  | (with_reducible apply er_notV); walk_at "e"
  | (with_reducible apply er_andVT); walk_at "e"; exact rfl; walk_at "e"
  | (with_reducible apply er_orVF); walk_at "e"; exact rfl; walk_at "e"
  | (with_reducible apply er_ix); walk_at "e"; walk_at "e"; exact rfl; walk_at "x"
  | (with_reducible apply er_callS); walk_at "e"; exact rfl; walk_at "d"; exact rfl
  | (with_reducible apply er_cons); walk_at "e"; walk_at "e"
  | (with_reducible apply er_callG); walk_at "e"; exact rfl; exact rfl; walk_at "c"; exact rfl
  | (with_reducible apply er_callH); walk_at "e"; exact rfl; exact rfl; walk_at "c"; exact rfl
  | (with_reducible apply er_callV); walk_at "e"; exact rfl; walk_at "c"; exact rfl
  | (with_reducible apply er_callGF); walk_at "e"; exact rfl; exact rfl; walk_at "c"; exact rfl
  | (with_reducible apply er_callHF); walk_at "e"; exact rfl; exact rfl; walk_at "c"; exact rfl
  | (with_reducible apply er_callM); walk_at "e"; exact rfl; exact rfl; exact rfl; exact rfl; exact rfl; walk_at "c"; exact rfl
  | (with_reducible apply er_catL); walk_at "e"; walk_at "e"; exact rfl; exact rfl; walk_at "z"
  | (with_reducible apply er_mt); walk_at "e"; exact rfl; exact rfl; walk_at "e"; exact rfl; exact rfl; walk_at "m"; exact rfl
  | (with_reducible apply er_tup); walk_at "e"; exact rfl; walk_at "z" 
  | (with_reducible apply er_lst); walk_at "e"; exact rfl; walk_at "z")
local macro_rules | `(tactic| walk_at "o") => `(tactic| first | exact er_zoN | ((with_reducible apply er_zoS); walk_at "e"))
local macro_rules | `(tactic| walk_at "x") => `(tactic| first | with_reducible assumption | (simp only [Cn.d]; with_reducible assumption) | exact rfl)
local macro_rules | `(tactic| walk_at "m") => `(tactic| first | with_reducible assumption | (simp only [Cn.d]; with_reducible assumption) | exact rfl)
local macro_rules | `(tactic| walk_at "st") => `(tactic| first
  | ((with_reducible apply set_dat); (walk_at "e"); (exact rfl); walk_at "l")
  | ((with_reducible apply set_own); (walk_at "e"); (exact Nat.le_of_ble_eq_true rfl); (exact rfl); (exact rfl); walk_at "l")
  | ((with_reducible apply asg_run); (walk_at "e"); (exact rfl); walk_at "l")
  | ((with_reducible apply aug_run); (exact rfl); (exact rfl); (walk_at "e"); (exact rfl); (walk_at "d"); (exact rfl); (exact rfl); walk_at "l")
  | ((with_reducible apply sto_run); (walk_at "e"); (walk_at "e"); (walk_at "e"); (exact rfl); (walk_at "x"); walk_at "l")
  | ((with_reducible apply app_run); (walk_at "e"); (exact rfl); (walk_at "e"); (exact rfl); (exact rfl); (walk_at "z"); walk_at "l"))
local macro_rules | `(tactic| walk_at "z") => `(tactic| first | assumption | exact Nat.le_of_ble_eq_true rfl | (simp; omega))
local macro_rules | `(tactic| walk_at "s") => `(tactic| first
  | with_reducible apply sr_nx
  | with_reducible apply sr_assoc
  | with_reducible apply ap_fg
  | ((with_reducible apply fgK_nx); (exact rfl); (walk_at "l"); skip)
  | ((with_reducible apply fgK_ct); (exact rfl); (walk_at "l"); skip)
  | ((with_reducible apply fgK_bk); (exact rfl); (walk_at "l"); skip)
  | with_reducible apply fgK_ret
  | with_reducible apply sr_bk1
  | with_reducible apply sr_ct1
  | with_reducible apply sr_nx1
  | with_reducible apply sr_ct
  | with_reducible apply sr_bk
  | (with_reducible apply sr_retS); (walk_at "e"); skip
  | (with_reducible apply sr_ret); (walk_at "e"); skip
  | (with_reducible apply sr_if); (walk_at "e"); (walk_at "l")
  | (with_reducible apply sr_if1); (walk_at "e"); (walk_at "l")
  | (with_reducible apply seq_nx); (walk_at "st")
  | (with_reducible apply one_nx); (walk_at "st"))
local macro_rules | `(tactic| walk_at "r") => `(tactic| repeat' (first | (intro _) | walk_at "s"))
local macro_rules | `(tactic| walk_at "k") => `(tactic| (intro q; (try simp only [decide_eq_true_eq, decide_eq_false_iff_not, beq_iff_eq, beq_eq_false_iff_ne, ne_eq, Bool.not_eq_true', Bool.not_eq_false', Bool.and_eq_true, Bool.or_eq_true, Bool.and_eq_false_iff, Bool.or_eq_false_iff, Int.not_lt, Int.not_le, List.cons.injEq, and_true, reduceCtorEq, beq_self_eq_true, Bool.not_true, Bool.not_false, Bool.or_false, Bool.false_or, Bool.or_true, Bool.true_or, Bool.and_false, Bool.false_and, Bool.and_true, Bool.true_and, not_true_eq_false, Bool.false_eq_true] at q) <;> (try (exfalso; first | (cases q; done) | omega | contradiction))))
local macro_rules | `(tactic| walk_at "w") => `(tactic| repeat' (first | (walk_at "k") | walk_at "s"))
inductive Kx : Nat → D → Prop
  | con {k : Nat} {v : D} : CV v → Kx k (.tup [.str sCON, v])
  | col {k : Nat} {c : Int} : 0 ≤ c → c < 6 → Kx k (.tup [.str sCOL, .int c])
  | un {k : Nat} {nm : List Nat} {a : D} : nm ∈ NU → Kx k a → Kx (k + 1) (.tup [.str sUN, .str nm, a])
  | bin {k : Nat} {nm : List Nat} {a b : D} : nm ∈ NB → Kx k a → Kx k b → Kx (k + 1) (.tup [.str sBIN, .str nm, a, b])
  | ter {k : Nat} {nm : List Nat} {a b c : D} : nm ∈ NT → Kx k a → Kx k b → Kx k c → Kx (k + 1) (.tup [.str sTER, .str nm, a, b, c])
  | cho {k : Nat} {a b c : D} : Kx k a → Kx k b → Kx k c → Kx (k + 1) (.tup [.str sCHO, a, b, c])
theorem Kx.up {k : Nat} {d : D} (h : Kx k d) : ∀ {j : Nat}, k ≤ j → Kx j d := by
  induction h with
  | con h => exact fun _ => .con h
  | col h0 h1 => exact fun _ => .col h0 h1
  | un hn _ ih => intro j hj; obtain ⟨j, rfl⟩ : ∃ i, j = i + 1 := ⟨j - 1, by omega⟩; exact .un hn (ih (by omega))
  | bin hn _ _ i1 i2 => intro j hj; obtain ⟨j, rfl⟩ : ∃ i, j = i + 1 := ⟨j - 1, by omega⟩; exact .bin hn (i1 (by omega)) (i2 (by omega))
  | ter hn _ _ _ i1 i2 i3 => intro j hj; obtain ⟨j, rfl⟩ : ∃ i, j = i + 1 := ⟨j - 1, by omega⟩; exact .ter hn (i1 (by omega)) (i2 (by omega)) (i3 (by omega))
  | cho _ _ _ i1 i2 i3 => intro j hj; obtain ⟨j, rfl⟩ : ∃ i, j = i + 1 := ⟨j - 1, by omega⟩; exact .cho (i1 (by omega)) (i2 (by omega)) (i3 (by omega))
def kw : Nat → Nat
  | 0 => 250
  | k + 1 => 100 + 3 * (kw k + 1)
theorem kw_le : ∀ k, 250 ≤ kw k
  | 0 => Nat.le_refl _
  | k + 1 => by have := kw_le k; show 250 ≤ 100 + 3 * (kw k + 1); omega
theorem cv_rok {v : D} (h : CV v) : v.rok = true ∧ v.dp = 0 ∧ v.wt ≤ 200 := by
  cases v with
  | non => exact ⟨rfl, rfl, by decide⟩
  | bl b => exact ⟨rfl, rfl, by cases b <;> decide⟩
  | int i => exact ⟨decide_eq_true (Nat.lt_of_le_of_lt (show i.natAbs ≤ 10 ^ 15 from h) (by decide)), rfl, Nat.le_refl _⟩
  | str s =>
    refine ⟨?_, rfl, Nat.le_trans h.1 (by decide)⟩
    show (s.all fun c => decide (c < 1114112)) = true
    rw [List.all_eq_true]
    intro c hc
    exact decide_eq_true (Nat.lt_trans (h.2 c hc) (by decide))
  | _ => exact h.elim
theorem nms_ok : ∀ nm, nm ∈ NU ∨ nm ∈ NB ∨ nm ∈ NT → (D.str nm).rok = true ∧ nm.length ≤ 20 := by
  have h : ∀ nm ∈ NU ++ NB ++ NT, (D.str nm).rok = true ∧ nm.length ≤ 20 := by decide +kernel
  intro nm q
  refine h nm ?_
  simp only [List.mem_append]
  rcases q with q | q | q
  · exact .inl (.inl q)
  · exact .inl (.inr q)
  · exact .inr q
theorem kx_rok {k : Nat} {d : D} (h : Kx k d) : d.rok = true ∧ d.dp ≤ k + 1 ∧ d.wt ≤ kw k := by
  induction h with
  | @con k v h =>
    obtain ⟨a, b, c⟩ := cv_rok h
    have := kw_le k
    refine ⟨?_, ?_, ?_⟩
    · show (true && (v.rok && true)) = true
      rw [a]; rfl
    · show max 0 (max v.dp 0) + 1 ≤ k + 1
      omega
    · show 8 + 1 + (v.wt + 1 + 0) ≤ kw k
      omega
  | @col k c h0 h1 =>
    have := kw_le k
    refine ⟨?_, ?_, ?_⟩
    · show (true && (decide (c.natAbs < 10 ^ 60) && true)) = true
      rw [decide_eq_true (Nat.lt_of_lt_of_le (show c.natAbs < 6 by omega) (by decide))]; rfl
    · show max 0 (max 0 0) + 1 ≤ k + 1
      omega
    · show 6 + 1 + (200 + 1 + 0) ≤ kw k
      omega
  | @un k nm a hn _ ih =>
    obtain ⟨a1, a2, a3⟩ := ih
    obtain ⟨n1, n2⟩ := nms_ok nm (.inl hn)
    refine ⟨?_, ?_, ?_⟩
    · show (true && ((D.str nm).rok && (a.rok && true))) = true
      rw [n1, a1]; rfl
    · show max 0 (max 0 (max a.dp 0)) + 1 ≤ k + 1 + 1
      omega
    · show 5 + 1 + (nm.length + 1 + (a.wt + 1 + 0)) ≤ 100 + 3 * (kw k + 1)
      omega
  | @bin k nm a b hn _ _ i1 i2 =>
    obtain ⟨a1, a2, a3⟩ := i1
    obtain ⟨b1, b2, b3⟩ := i2
    obtain ⟨n1, n2⟩ := nms_ok nm (.inr (.inl hn))
    refine ⟨?_, ?_, ?_⟩
    · show (true && ((D.str nm).rok && (a.rok && (b.rok && true)))) = true
      rw [n1, a1, b1]; rfl
    · show max 0 (max 0 (max a.dp (max b.dp 0))) + 1 ≤ k + 1 + 1
      omega
    · show 6 + 1 + (nm.length + 1 + (a.wt + 1 + (b.wt + 1 + 0))) ≤ 100 + 3 * (kw k + 1)
      omega
  | @ter k nm a b c hn _ _ _ i1 i2 i3 =>
    obtain ⟨a1, a2, a3⟩ := i1
    obtain ⟨b1, b2, b3⟩ := i2
    obtain ⟨c1, c2, c3⟩ := i3
    obtain ⟨n1, n2⟩ := nms_ok nm (.inr (.inr hn))
    refine ⟨?_, ?_, ?_⟩
    · show (true && ((D.str nm).rok && (a.rok && (b.rok && (c.rok && true))))) = true
      rw [n1, a1, b1, c1]; rfl
    · show max 0 (max 0 (max a.dp (max b.dp (max c.dp 0)))) + 1 ≤ k + 1 + 1
      omega
    · show 7 + 1 + (nm.length + 1 + (a.wt + 1 + (b.wt + 1 + (c.wt + 1 + 0)))) ≤ 100 + 3 * (kw k + 1)
      omega
  | @cho k a b c _ _ _ i1 i2 i3 =>
    obtain ⟨a1, a2, a3⟩ := i1
    obtain ⟨b1, b2, b3⟩ := i2
    obtain ⟨c1, c2, c3⟩ := i3
    refine ⟨?_, ?_, ?_⟩
    · show (true && (a.rok && (b.rok && (c.rok && true)))) = true
      rw [a1, b1, c1]; rfl
    · show max 0 (max a.dp (max b.dp (max c.dp 0))) + 1 ≤ k + 1 + 1
      omega
    · show 6 + 1 + (a.wt + 1 + (b.wt + 1 + (c.wt + 1 + 0))) ≤ 100 + 3 * (kw k + 1)
      omega
theorem kx_nq {k : Nat} {x : D} (h : Kx k x) (hk : k ≤ 50) : ∃ n, Nq x n := by
  obtain ⟨r1, r2, _⟩ := kx_rok h
  have e := dr_eqR r1 (by omega) (show (D.tup [.str sCON, .non]).rok = true by rfl) (show (D.tup [.str sCON, .non]).dp ≤ 60 by decide)
  cases h with
  | @con _ v hv =>
    cases v with
    | non => exact ⟨true, e, sCON, rfl, .inl ⟨rfl, .non, rfl, rfl⟩⟩
    | bl b => exact ⟨false, e, sCON, rfl, .inl ⟨rfl, .bl b, rfl, rfl⟩⟩
    | int i => exact ⟨false, e, sCON, rfl, .inl ⟨rfl, .int i, rfl, rfl⟩⟩
    | str s => exact ⟨false, e, sCON, rfl, .inl ⟨rfl, .str s, rfl, rfl⟩⟩
    | _ => exact hv.elim
  | col _ _ => exact ⟨false, e, sCOL, rfl, .inr ⟨rfl, rfl⟩⟩
  | un _ _ => exact ⟨false, e, sUN, rfl, .inr ⟨rfl, rfl⟩⟩
  | bin _ _ _ => exact ⟨false, e, sBIN, rfl, .inr ⟨rfl, rfl⟩⟩
  | ter _ _ _ _ => exact ⟨false, e, sTER, rfl, .inr ⟨rfl, rfl⟩⟩
  | cho _ _ _ => exact ⟨false, e, sCHO, rfl, .inr ⟨rfl, rfl⟩⟩
/-- the kind of an expression, told twice -/
theorem kinds_ok {CL : List D} (hC : ∀ d ∈ CL, IsK d) {k : Nat} {d : D} (h : Kx k d) : k ≤ 50 → ∀ q, k + 1 ≤ q → ∃ z, IsK z ∧ d_kind_of q [d, .lst CL] = some (.dat z) ∧ d__law_kind q [d, .lst CL] = some (.dat z) := by
  have up1 : ∀ {q : Nat}, 1 ≤ q → ∃ p, q = p + 1 := fun {q} h => ⟨q - 1, by omega⟩
  induction h with
  | con h =>
    intro _ q hq
    obtain ⟨p, rfl⟩ := up1 (show 1 ≤ q by omega)
    exact k_con h
  | col h0 h1 =>
    intro _ q hq
    obtain ⟨p, rfl⟩ := up1 (show 1 ≤ q by omega)
    exact k_col h0 hC
  | un hn _ ih =>
    intro hk q hq
    obtain ⟨p, rfl⟩ := up1 (show 1 ≤ q by omega)
    obtain ⟨r, k1, a1, a2⟩ := ih (by omega) p (by omega)
    exact k_un hn a1 a2 k1
  | bin hn _ _ i1 i2 =>
    intro hk q hq
    obtain ⟨p, rfl⟩ := up1 (show 1 ≤ q by omega)
    obtain ⟨r, k1, a1, a2⟩ := i1 (by omega) p (by omega)
    obtain ⟨s, k2, b1, b2⟩ := i2 (by omega) p (by omega)
    exact k_bin hn a1 a2 k1 b1 b2 k2
  | ter hn _ _ _ i1 i2 i3 =>
    intro hk q hq
    obtain ⟨p, rfl⟩ := up1 (show 1 ≤ q by omega)
    obtain ⟨r, k1, a1, a2⟩ := i1 (by omega) p (by omega)
    obtain ⟨s, k2, b1, b2⟩ := i2 (by omega) p (by omega)
    obtain ⟨u, k3, c1, c2⟩ := i3 (by omega) p (by omega)
    exact k_ter hn a1 a2 k1 b1 b2 k2 c1 c2 k3
  | cho ha hb hc i1 i2 i3 =>
    intro hk q hq
    obtain ⟨p, rfl⟩ := up1 (show 1 ≤ q by omega)
    obtain ⟨r, k1, a1, a2⟩ := i1 (by omega) p (by omega)
    obtain ⟨s, k2, b1, b2⟩ := i2 (by omega) p (by omega)
    obtain ⟨u, k3, c1, c2⟩ := i3 (by omega) p (by omega)
    obtain ⟨n1, q1⟩ := kx_nq hb (by omega)
    obtain ⟨n2, q2⟩ := kx_nq hc (by omega)
    exact k_cho k1 k2 k3 a1 b1 c1 a2 b2 c2 q1 q2
end Qk14
set_option Elab.async false
set_option linter.all false
set_option maxRecDepth 100000
set_option maxHeartbeats 4000000
namespace Qk14
open PySem PySem.Spec PyProof.Rows L2 Z
local macro_rules | `(tactic| walk_at "l") => `(tactic| first | (simp only [wipeG_nil, wipeG_cons, List.set_cons_succ, List.set_cons_zero, List.take_succ_cons, List.take_zero, List.take_nil, List.cons_append, List.nil_append, List.length_cons, List.length_nil, List.set_nil, List.getElem?_cons_zero, List.getElem?_cons_succ, Nat.zero_add, Nat.reduceAdd]; first | done | exact rfl) | exact rfl)
local macro_rules | `(tactic| walk_at "d") => `(tactic| first
  | with_reducible assumption
  | (with_reducible apply dr_div) <;> decide
  | (with_reducible apply dr_mod) <;> decide
  | (with_reducible apply dr_mulr); decide
  | (with_reducible apply dr_mull); decide
  | (with_reducible apply dr_divB) <;> omega
  | (with_reducible apply dr_mulrB) <;> omega
  | (with_reducible apply dr_mullB) <;> omega
  | (with_reducible apply dr_mulC) <;> omega
  | (with_reducible apply dr_mod) <;> omega
  | (with_reducible refine isi_of ?_ ?_); (exact rfl); (first | exact kb_int_int | exact kb_int_bool | exact kb_bool_bool | exact kb_bool_int | exact kb_str_int | exact kb_str_bool | exact kb_str_str | exact kb_int_str | exact kb_bool_str | exact kb_non_int | exact kb_non_bool | exact kb_non_str | exact kb_list_list | exact kb_tuple_tuple | exact kb_list_tuple | exact kb_tuple_list)
  | with_reducible exact dr_abs
  | (with_reducible exact dr_neL _ _)
  | (simp only [Cn.d]; with_reducible assumption)
  | (simp only [Cn.d]; with_reducible exact dr_neL _ _)
  | with_reducible exact in_ints _ _
  | (simp only [Cn.d]; with_reducible exact in_ints _ _)
  | ((with_reducible apply dr_cat); (try simp only [List.length_append, List.length_cons, List.length_nil]); omega)
  | with_reducible exact dr_eqI
  | with_reducible exact dr_eqB
  | with_reducible exact dr_neB
  | with_reducible exact dr_eqS
  | with_reducible exact dr_neI
  | with_reducible exact dr_neS
  | exact rfl)
local macro_rules | `(tactic| walk_at "c") => `(tactic| first | with_reducible assumption | (simp only [Cn.d]; with_reducible assumption))
local macro_rules | `(tactic| walk_at "e") => `(tactic| first
  | with_reducible exact er_C
  | with_reducible exact er_nil
  | (with_reducible apply er_varD); exact rfl
  | (with_reducible apply er_varO); exact rfl
  | (with_reducible apply er_varF); exact rfl
  | (with_reducible apply er_op); walk_at "e"; walk_at "e"; exact rfl; exact rfl; walk_at "d"; exact rfl
  | (with_reducible apply er_chain); walk_at "e"; walk_at "e"; exact rfl; exact rfl; walk_at "d"; (intro _h; walk_at "e"); exact rfl; walk_at "d"
  | (with_reducible apply er_slS); walk_at "e"; walk_at "o"; walk_at "o"; exact rfl; walk_at "z"
  | (with_reducible apply er_slL); walk_at "e"; walk_at "o"; walk_at "o"; exact rfl
  | (with_reducible apply er_list); walk_at "e"; exact rfl; exact rfl
  | (with_reducible apply er_tupL); walk_at "e"; exact rfl
  | (with_reducible apply er_un); walk_at "e"; exact rfl; exact rfl; exact rfl
  | (with_reducible apply er_tst); walk_at "e"
  | (with_reducible apply er_tru); walk_at "e"; exact rfl; exact rfl
  | (with_reducible apply er_andT); walk_at "e"; (intro _h; walk_at "e")
  | (with_reducible apply er_orT); walk_at "e"; (intro _h; walk_at "e")
  | (with_reducible apply er_andTT); walk_at "e"; exact rfl; walk_at "e"
  | (with_reducible apply er_orTF); walk_at "e"; exact rfl; walk_at "e"
  | (with_reducible apply er_notT); walk_at "e"
  | (with_reducible apply er_andV); walk_at "e"; (intro _h; walk_at "e")
  | (with_reducible apply er_orV); walk_at "e"; (intro _h; walk_at "e")
  | (with_reducible apply er_notV); walk_at "e"
  | (with_reducible apply er_andVT); walk_at "e"; exact rfl; walk_at "e"
  | (with_reducible apply er_orVF); walk_at "e"; exact rfl; walk_at "e"
  | (with_reducible apply er_ix); walk_at "e"; walk_at "e"; exact rfl; walk_at "x"
  | (with_reducible apply er_callS); walk_at "e"; exact rfl; walk_at "d"; exact rfl
  | (with_reducible apply er_cons); walk_at "e"; walk_at "e"
  | (with_reducible apply er_callG); walk_at "e"; exact rfl; exact rfl; walk_at "c"; exact rfl
  | (with_reducible apply er_callH); walk_at "e"; exact rfl; exact rfl; walk_at "c"; exact rfl
  | (with_reducible apply er_callV); walk_at "e"; exact rfl; walk_at "c"; exact rfl
  | (with_reducible apply er_callGF); walk_at "e"; exact rfl; exact rfl; walk_at "c"; exact rfl
  | (with_reducible apply er_callHF); walk_at "e"; exact rfl; exact rfl; walk_at "c"; exact rfl
  | (with_reducible apply er_callM); walk_at "e"; exact rfl; exact rfl; exact rfl; exact rfl; exact rfl; walk_at "c"; exact rfl
  | (with_reducible apply er_catL); walk_at "e"; walk_at "e"; exact rfl; exact rfl; walk_at "z"
  | (with_reducible apply er_mt); walk_at "e"; exact rfl; exact rfl; walk_at "e"; exact rfl; exact rfl; walk_at "m"; exact rfl
  | (with_reducible apply er_tup); walk_at "e"; exact rfl; walk_at "z" 
  | (with_reducible apply er_lst); walk_at "e"; exact rfl; walk_at "z")
local macro_rules | `(tactic| walk_at "o") => `(tactic| first | exact er_zoN | ((with_reducible apply er_zoS); walk_at "e"))
local macro_rules | `(tactic| walk_at "x") => `(tactic| first | with_reducible assumption | (simp only [Cn.d]; with_reducible assumption) | exact rfl)
local macro_rules | `(tactic| walk_at "m") => `(tactic| first | with_reducible assumption | (simp only [Cn.d]; with_reducible assumption) | exact rfl)
local macro_rules | `(tactic| walk_at "st") => `(tactic| first
  | ((with_reducible apply set_dat); (walk_at "e"); (exact rfl); walk_at "l")
  | ((with_reducible apply set_own); (walk_at "e"); (exact Nat.le_of_ble_eq_true rfl); (exact rfl); (exact rfl); walk_at "l")
  | ((with_reducible apply asg_run); (walk_at "e"); (exact rfl); walk_at "l")
  | ((with_reducible apply aug_run); (exact rfl); (exact rfl); (walk_at "e"); (exact rfl); (walk_at "d"); (exact rfl); (exact rfl); walk_at "l")
  | ((with_reducible apply sto_run); (walk_at "e"); (walk_at "e"); (walk_at "e"); (exact rfl); (walk_at "x"); walk_at "l")
  | ((with_reducible apply app_run); (walk_at "e"); (exact rfl); (walk_at "e"); (exact rfl); (exact rfl); (walk_at "z"); walk_at "l"))
local macro_rules | `(tactic| walk_at "z") => `(tactic| first | assumption | exact Nat.le_of_ble_eq_true rfl | (simp; omega))
local macro_rules | `(tactic| walk_at "s") => `(tactic| first
  | with_reducible apply sr_nx
  | with_reducible apply sr_assoc
  | with_reducible apply ap_fg
  | ((with_reducible apply fgK_nx); (exact rfl); (walk_at "l"); skip)
  | ((with_reducible apply fgK_ct); (exact rfl); (walk_at "l"); skip)
  | ((with_reducible apply fgK_bk); (exact rfl); (walk_at "l"); skip)
  | with_reducible apply fgK_ret
  | with_reducible apply sr_bk1
  | with_reducible apply sr_ct1
  | with_reducible apply sr_nx1
  | with_reducible apply sr_ct
  | with_reducible apply sr_bk
  | (with_reducible apply sr_retS); (walk_at "e"); skip
  | (with_reducible apply sr_ret); (walk_at "e"); skip
  | (with_reducible apply sr_if); (walk_at "e"); (walk_at "l")
  | (with_reducible apply sr_if1); (walk_at "e"); (walk_at "l")
  | (with_reducible apply seq_nx); (walk_at "st")
  | (with_reducible apply one_nx); (walk_at "st"))
local macro_rules | `(tactic| walk_at "r") => `(tactic| repeat' (first | (intro _) | walk_at "s"))
local macro_rules | `(tactic| walk_at "k") => `(tactic| (intro q; (try simp only [decide_eq_true_eq, decide_eq_false_iff_not, beq_iff_eq, beq_eq_false_iff_ne, ne_eq, Bool.not_eq_true', Bool.not_eq_false', Bool.and_eq_true, Bool.or_eq_true, Bool.and_eq_false_iff, Bool.or_eq_false_iff, Int.not_lt, Int.not_le, List.cons.injEq, and_true, reduceCtorEq, beq_self_eq_true, Bool.not_true, Bool.not_false, Bool.or_false, Bool.false_or, Bool.or_true, Bool.true_or, Bool.and_false, Bool.false_and, Bool.and_true, Bool.true_and, not_true_eq_false, Bool.false_eq_true] at q) <;> (try (exfalso; first | (cases q; done) | omega | contradiction))))
local macro_rules | `(tactic| walk_at "w") => `(tactic| repeat' (first | (walk_at "k") | walk_at "s"))
local macro_rules | `(tactic| walk_at "e") => `(tactic| first | ((with_reducible apply er_ifT); (walk_at "e"); (walk_at "e")) | ((with_reducible apply er_ifF); (walk_at "e"); (walk_at "e")))
def NumG (ns : List Int) (m : Int) (acc : List Int) : G := [.dat (scriptD ns), .dat (.int m), .own (.lst (acc.map D.int)) false false, .un, .un]
theorem num_app (acc : List Int) (c : Int) : acc.map D.int ++ [D.int c] = (acc ++ [c]).map D.int := by simp
theorem num_turn (ns : List Int) (m : Int) (k : Nat) (acc : List Int) (hn : ns.length ≤ 63) (hk : k ≤ 100) (ha : acc.length ≤ 100) :
    ap (fun o => ∃ c, o = some (.nx, NumG ns m (acc ++ [c]))) (lb__law_numbers_1 [.dat (scriptD ns), .dat (.int m), .own (.lst (acc.map D.int)) false false, .dat (.int (0 + (k : Int))), .un]) = True := by
  have hz : (acc.map D.int).length < sizeLine := by rw [List.length_map]; exact Nat.lt_of_le_of_lt ha (by decide)
  have hl : (ns.map D.int).length = ns.length := List.length_map _
  have hx : 0 < ((ns.map D.int).length : Int) → ∃ c, ixD (scriptD ns) ((0 + (k : Int)) - (0 + (k : Int)) / ((ns.map D.int).length : Int) * ((ns.map D.int).length : Int)) = some (.int c) := fun h => by
    have r := round_in (k := 0 + (k : Int)) (by omega) h
    obtain ⟨x, h1, _⟩ := atI_lt (xs := ns) r.1 (by rw [← hl]; exact r.2)
    exact ⟨x, atI_map (f := D.int) h1⟩
  unfold lb__law_numbers_1 NumG
  simp only [← num_app]
  walk_at "s"
  walk_at "s"
  walk_at "s"
  · intro h
    have h := of_decide_eq_true h
    obtain ⟨c, hx⟩ := hx h
    walk_at "s"
    walk_at "r"
    all_goals exact eq_true ⟨_, rfl⟩
  · walk_at "r"
    all_goals exact eq_true ⟨_, rfl⟩
theorem numbers_ok (ns : List Int) (m : Nat) (hn : ns.length ≤ 63) (hm : m ≤ 100) : ∃ L : List Int, d__law_numbers [scriptD ns, .int m] = some (.new (.lst (L.map D.int))) ∧ L.length = m := by
  obtain ⟨g2, h1, acc, h2, h3⟩ := forL_inv (st := lb__law_numbers_1) (tg := gN 3) (L := rgD 0 m) (fun i g => ∃ acc, acc.length = i ∧ g = NumG ns m acc) 0 (NumG ns m [])
    ⟨[], rfl, rfl⟩ (fun i d g hd ⟨acc, h1, h2⟩ => by
      obtain ⟨hi, rfl⟩ := rgD_at hd
      subst h2
      obtain ⟨c, e⟩ := of_eq_true (num_turn ns m i acc hn (by omega) (by omega))
      exact ⟨_, _, rfl, .inl e, acc ++ [c], by simp; omega, rfl⟩)
  subst h3
  refine ⟨acc, ?_, by rw [h2, rgD_len]; omega⟩
  unfold d__law_numbers b__law_numbers
  refine runP_ap (g := [.dat (scriptD ns), .dat (.int m), .un, .un, .un]) rfl rfl ?_
  walk_at "s"
  refine seq_nx (for_run (mi_R1 (k := (m : Int)) rfl (rgOk_of (by omega) (by omega))) rfl (by rw [Int.toNat_natCast]; exact h1)) ?_
  unfold NumG
  walk_at "s"
  exact rfl
abbrev sign1 (c : Nat) : D := .str [c]
def S94 : List Nat := [32, 33, 34, 35, 36, 38, 39, 40, 41, 42, 43, 44, 45, 46, 47, 48, 49, 50, 51, 52, 53, 54, 55, 56, 57, 58, 59, 60, 61, 62, 63, 64, 65, 66, 67, 68, 69, 70, 71, 72, 73, 74, 75, 76, 77, 78, 79, 80, 81, 82, 83, 84, 85, 86, 87, 88, 89, 90, 91, 92, 93, 94, 95, 96, 97, 98, 99, 100, 101, 102, 103, 104, 105, 106, 107, 108, 109, 110, 111, 112, 113, 114, 115, 116, 117, 118, 119, 120, 121, 122, 123, 124, 125, 126]
def S10 : List Nat := [97, 98, 42, 63, 92, 32, 45, 39, 34, 65]
def TxtG (n k : Int) (acc : List Nat) (r : Int) (a : Sl) : G := [.dat (.int n), .dat (.int k), .dat (.str S94), .dat (.str S10), .own (.lst (acc.map sign1)) false false, .dat (.int r), a]
theorem txt_app (acc : List Nat) (c : Nat) : acc.map sign1 ++ [D.str [c]] = (acc ++ [c]).map sign1 := by rw [List.map_append]; rfl
theorem sign_in (s : List Nat) (k : Int) (hs : 0 < s.length) (hz : s.length ≤ sizeLine) {n : Int} (hn : n = s.length) : ∃ c, ixD (.str s) (k % n) = some (.str [c]) ∧ c ∈ s := by
  subst hn
  obtain ⟨c, h1, h2⟩ := atI_lt (xs := s) (Int.emod_nonneg k (by omega)) (Int.emod_lt_of_pos k (by omega))
  exact ⟨c, dr_ixS hz h1, h2⟩
theorem txt_turn (n k r : Int) (acc : List Nat) (i : Nat) (ha : acc.length ≤ 100) :
    ap (fun o => ∃ c r', o = some (.nx, TxtG n k (acc ++ [c]) r' .un) ∧ c < 127) (lb__law_text_1 (TxtG n k acc r (.dat (.int (0 + i))))) = True := by
  have hz : (acc.map sign1).length < sizeLine := by rw [List.length_map]; exact Nat.lt_of_le_of_lt ha (by decide)
  obtain ⟨c1, hx1, hm1⟩ := sign_in S94 r (by decide) (by decide) (n := 94) (by decide)
  obtain ⟨c2, hx2, hm2⟩ := sign_in S10 r (by decide) (by decide) (n := 10) (by decide)
  have b1 : c1 < 127 := by clear hx1; revert c1; decide
  have b2 : c2 < 127 := by clear hx2; revert c2; decide
  unfold lb__law_text_1 TxtG
  simp only [← txt_app]
  generalize S94 = s1 at *
  generalize S10 = s2 at *
  walk_at "r"
  · exact eq_true ⟨_, _, rfl, b1⟩
  · exact eq_true ⟨_, _, rfl, b2⟩
theorem text_ok (n : Int) (m : Nat) (hm : m ≤ 100) : ∃ s : List Nat, d__law_text [.int n, .int m] = some (.dat (.str s)) ∧ s.length = m ∧ ∀ c ∈ s, c < 127 := by
  obtain ⟨g2, h1, acc, r, h2, h5, h3⟩ := forL_inv (st := lb__law_text_1) (tg := gN 6) (L := rgD 0 m) (fun i g => ∃ acc r, acc.length = i ∧ (∀ c ∈ acc, c < 127) ∧ g = TxtG n m acc r .un) 0 (TxtG n m [] (n / 3) .un)
    ⟨[], _, rfl, fun _ h => (List.not_mem_nil h).elim, rfl⟩ (fun i d g hd ⟨acc, r, h1, h5, h2⟩ => by
      obtain ⟨hi, rfl⟩ := rgD_at hd
      subst h2
      obtain ⟨c, r', e2, hc⟩ := of_eq_true (txt_turn n m r acc i (by omega))
      exact ⟨TxtG n m acc r (.dat (.int (0 + (i : Int)))), _, rfl, .inl e2, acc ++ [c], r', by simp; omega, fun x hx => by
        rcases List.mem_append.mp hx with h | h
        · exact h5 x h
        · rw [List.mem_singleton.mp h]; exact hc, rfl⟩)
  subst h3
  rw [rgD_len] at h2
  refine ⟨acc, ?_, by omega, h5⟩
  unfold d__law_text b__law_text
  refine runP_ap (g := [.dat (.int n), .dat (.int m), .un, .un, .un, .un, .un]) rfl rfl ?_
  walk_at "s"
  walk_at "s"
  walk_at "s"
  walk_at "s"
  refine seq_nx (for_run (mi_R1 (k := (m : Int)) rfl (rgOk_of (by omega) (by omega))) rfl (by rw [Int.toNat_natCast]; exact h1)) ?_
  have j : joinD (.str []) [.lst (acc.map sign1)] = some (.str acc) := dr_joinS acc (by omega)
  unfold TxtG
  walk_at "s"
  exact rfl
theorem CV.scal {v : D} (h : CV v) : v.scal = true := by cases v <;> first | rfl | exact h.elim
theorem value_ok (n : Int) : ∃ v, d__law_value [.int n] = some (.dat v) ∧ CV v := by
  obtain ⟨k, hk⟩ := Int.eq_ofNat_of_zero_le (show 0 ≤ n / 8 % 13 by omega)
  obtain ⟨t, ht, htl, htc⟩ := text_ok (n / 8 / 13) k (by omega)
  rw [← hk] at ht
  have P : ∃ fr, d__law_value [.int n] = some fr ∧ ∃ v, fr = .dat v ∧ CV v := by
    unfold d__law_value b__law_value
    refine runP_post (g := [.dat (.int n), .un, .un]) rfl rfl ?_
    walk_at "r"
    · exact end_post rfl ⟨_, rfl, trivial⟩
    · exact end_post rfl ⟨_, rfl, trivial⟩
    · exact end_post rfl ⟨_, rfl, show (n / 8 % 3 - 1).natAbs ≤ 10 ^ 15 by omega⟩
    · exact end_post rfl ⟨_, rfl, show (n / 8 % 2000000000000001 - 1000000000000000).natAbs ≤ 10 ^ 15 by omega⟩
    · exact end_post rfl ⟨_, rfl, show (n / 8 % 3652059 - 719162).natAbs ≤ 10 ^ 15 by omega⟩
    · exact end_post rfl ⟨_, rfl, show (n / 8 % 40 - 20).natAbs ≤ 10 ^ 15 by omega⟩
    · exact end_post rfl ⟨_, rfl, ⟨by omega, fun c h => by have := htc c h; omega⟩⟩
  obtain ⟨fr, h, v, rfl, h2⟩ := P
  exact ⟨v, h, h2⟩
theorem nm_ix (L : List (List Nat)) {k : Int} (h0 : 0 ≤ k) (h1 : k < (L.length : Int)) : ∃ nm ∈ L, ixD (.tup (L.map D.str)) k = some (.str nm) := by
  obtain ⟨x, e, m⟩ := atI_lt (xs := L) h0 h1
  exact ⟨x, m, atI_map (f := D.str) e⟩
theorem ix_U (x : Int) : ∃ nm ∈ NU, ixD c_UNARY (x % 26) = some (.str nm) := nm_ix NU (by omega) (by show x % 26 < 26; omega)
theorem ix_B (x : Int) : ∃ nm ∈ NB, ixD c_BINARY (x % 21) = some (.str nm) := nm_ix NB (by omega) (by show x % 21 < 21; omega)
theorem ix_T (x : Int) : ∃ nm ∈ NT, ixD c_TERNARY (x % 4) = some (.str nm) := nm_ix NT (by omega) (by show x % 4 < 4; omega)
theorem expr_ok (w : Nat) (hw : w = 6) : ∀ (k : Nat) (n : Int) (q : Nat), k + 1 ≤ q → ∃ d, Kx k d ∧ d__law_expression q [.int n, .int k, .int w] = some (.dat d) := by
  have leaf : ∀ (F : List D → Option FR) (k : Nat) (n : Int) (c : Bool), ((k : Int) == 0 || (n % 9 == 0)) = true → ∃ d, Kx k d ∧ runP 8 3 (b__law_expression F) [.int n, .int k, .int w] = some (.dat d) := fun F k n _ hc => by
    obtain ⟨v, hv, sv⟩ := value_ok (n / 9 / 3)
    have P : ∃ fr, runP 8 3 (b__law_expression F) [.int n, .int k, .int w] = some fr ∧ ∃ d, fr = .dat d ∧ Kx k d := by
      have ss := sv.scal
      have hm : modD (.int (n / 9 / 3)) (.int (w : Int)) = some (.int (n / 9 / 3 % (w : Int))) := dr_mod (by omega)
      have m0 := Int.emod_nonneg (n / 9 / 3) (show (w : Int) ≠ 0 by omega)
      have m1 := Int.emod_lt_of_pos (n / 9 / 3) (show (0 : Int) < w by omega)
      generalize n / 9 / 3 % (w : Int) = cc at *
      unfold b__law_expression
      refine runP_post (g := [.dat (.int n), .dat (.int k), .dat (.int w), .un, .un, .un, .un, .un]) rfl rfl ?_
      walk_at "s"
      walk_at "s"
      have t : zOrT (zTst (zOp eqD (zVar 1) (zC (.int 0)))) (zTst (zOp eqD (zVar 3) (zC (.int 0)))) [.dat (.int n), .dat (.int k), .dat (.int w), .dat (.int (n % 9)), .dat (.int (n / 9)), .un, .un, .un] = some ((k : Int) == 0 || (n % 9 == 0), [.dat (.int n), .dat (.int k), .dat (.int w), .dat (.int (n % 9)), .dat (.int (n / 9)), .un, .un, .un]) := by walk_at "e"
      refine sr_if t rfl (fun _ => ?_) (fun q => by rw [hc] at q; cases q)
      walk_at "s"
      walk_at "s"
      · intro _
        refine sr_retS (er_tup (er_cons er_C (er_cons (er_callV (er_cons (er_op rfl er_C rfl rfl (dr_div (by decide) (by decide)) rfl) er_nil) rfl hv ss) er_nil)) rfl (Nat.le_of_ble_eq_true rfl)) ?_
        exact end_post rfl ⟨_, rfl, .con sv⟩
      · intro _
        walk_at "s"
        walk_at "s"
        exact end_post rfl ⟨_, rfl, .col m0 (by omega)⟩
    obtain ⟨fr, h, d, rfl, hd⟩ := P
    exact ⟨d, hd, h⟩
  intro k
  induction k with
  | zero =>
    intro n q hq
    obtain ⟨p, rfl⟩ : ∃ p, q = p + 1 := ⟨q - 1, by omega⟩
    exact leaf (d__law_expression p) 0 n true (by simp)
  | succ k ih =>
    intro n q hq
    obtain ⟨p, rfl⟩ : ∃ p, q = p + 1 := ⟨q - 1, by omega⟩
    cases hc : (((k + 1 : Nat) : Int) == 0 || (n % 9 == 0)) with
    | true => exact leaf (d__law_expression p) (k + 1) n true hc
    | false =>
      obtain ⟨d1, x1, e1⟩ := ih (n / 9 / 64 + 11) p (by omega)
      obtain ⟨d2, x2, e2⟩ := ih (n / 9 / 4096 + 23) p (by omega)
      obtain ⟨d3, x3, e3⟩ := ih (n / 9 / 262144 + 37) p (by omega)
      obtain ⟨nu, mu, eu⟩ := ix_U (n / 9)
      obtain ⟨nb, mb, eb⟩ := ix_B (n / 9)
      obtain ⟨nt, mt', et⟩ := ix_T (n / 9)
      have P : ∃ fr, runP 8 3 (b__law_expression (d__law_expression p)) [.int n, .int (k + 1 : Nat), .int w] = some fr ∧ ∃ d, fr = .dat d ∧ Kx (k + 1) d := by
        have hk : ((k + 1 : Nat) : Int) - 1 = (k : Int) := by omega
        have hs : subD (.int ((k + 1 : Nat) : Int)) (.int 1) = some (.int (k : Int)) := by
          show some (D.int (((k + 1 : Nat) : Int) - 1)) = _
          rw [hk]
        generalize d__law_expression p = F at *
        have eu' : ∀ g : G, zIx (zC c_UNARY) (zOp modD (zCallS intU (zCons (zVar 4) (zNil))) (zC (.int 26))) (.dat (.int n) :: .dat (.int ((k + 1 : Nat) : Int)) :: .dat (.int w) :: .dat (.int (n % 9)) :: .dat (.int (n / 9)) :: g) = some (.dat (.str nu), (.dat (.int n) :: .dat (.int ((k + 1 : Nat) : Int)) :: .dat (.int w) :: .dat (.int (n % 9)) :: .dat (.int (n / 9)) :: g)) := fun g => er_ix er_C (er_op (er_callS (er_cons rfl er_nil) rfl rfl rfl) er_C rfl rfl (dr_mod (by decide)) rfl) rfl eu
        have eb' : ∀ g : G, zIx (zC c_BINARY) (zOp modD (zCallS intU (zCons (zVar 4) (zNil))) (zC (.int 21))) (.dat (.int n) :: .dat (.int ((k + 1 : Nat) : Int)) :: .dat (.int w) :: .dat (.int (n % 9)) :: .dat (.int (n / 9)) :: g) = some (.dat (.str nb), (.dat (.int n) :: .dat (.int ((k + 1 : Nat) : Int)) :: .dat (.int w) :: .dat (.int (n % 9)) :: .dat (.int (n / 9)) :: g)) := fun g => er_ix er_C (er_op (er_callS (er_cons rfl er_nil) rfl rfl rfl) er_C rfl rfl (dr_mod (by decide)) rfl) rfl eb
        have et' : ∀ g : G, zIx (zC c_TERNARY) (zOp modD (zCallS intU (zCons (zVar 4) (zNil))) (zC (.int 4))) (.dat (.int n) :: .dat (.int ((k + 1 : Nat) : Int)) :: .dat (.int w) :: .dat (.int (n % 9)) :: .dat (.int (n / 9)) :: g) = some (.dat (.str nt), (.dat (.int n) :: .dat (.int ((k + 1 : Nat) : Int)) :: .dat (.int w) :: .dat (.int (n % 9)) :: .dat (.int (n / 9)) :: g)) := fun g => er_ix er_C (er_op (er_callS (er_cons rfl er_nil) rfl rfl rfl) er_C rfl rfl (dr_mod (by decide)) rfl) rfl et
        have call : ∀ (a b : Int) (d : D) (g : G), 0 < a → a < 1000000 → F [.int (n / 9 / a + b), .int (k : Int), .int (w : Int)] = some (.dat d) → zCall F (zCons (zOp addS (zOp divD (zVar 4) (zC (.int a))) (zC (.int b))) (zCons (zOp subD (zVar 1) (zC (.int 1))) (zCons (zVar 2) (zNil)))) (.dat (.int n) :: .dat (.int ((k + 1 : Nat) : Int)) :: .dat (.int w) :: .dat (.int (n % 9)) :: .dat (.int (n / 9)) :: g) = some (.dat d, (.dat (.int n) :: .dat (.int ((k + 1 : Nat) : Int)) :: .dat (.int w) :: .dat (.int (n % 9)) :: .dat (.int (n / 9)) :: g)) := fun a b d g h0 h1 e =>
          er_callG (er_cons (er_op (er_op rfl er_C rfl rfl (dr_divB h0 (by omega)) rfl) er_C rfl rfl rfl rfl) (er_cons (er_op rfl er_C rfl rfl hs rfl) (er_cons rfl er_nil))) rfl rfl e rfl
        unfold b__law_expression
        refine runP_post (g := [.dat (.int n), .dat (.int ((k + 1 : Nat) : Int)), .dat (.int w), .un, .un, .un, .un, .un]) rfl rfl ?_
        walk_at "s"
        walk_at "s"
        have t : zOrT (zTst (zOp eqD (zVar 1) (zC (.int 0)))) (zTst (zOp eqD (zVar 3) (zC (.int 0)))) [.dat (.int n), .dat (.int ((k + 1 : Nat) : Int)), .dat (.int w), .dat (.int (n % 9)), .dat (.int (n / 9)), .un, .un, .un] = some (((k + 1 : Nat) : Int) == 0 || (n % 9 == 0), [.dat (.int n), .dat (.int ((k + 1 : Nat) : Int)), .dat (.int w), .dat (.int (n % 9)), .dat (.int (n / 9)), .un, .un, .un]) := by walk_at "e"
        refine sr_if t rfl (fun q => by rw [hc] at q; cases q) (fun _ => ?_)
        walk_at "s"
        refine seq_nx (set_dat (call 64 11 d1 _ (by decide) (by decide) e1) rfl rfl) ?_
        have q2 : zTst (zOp leD (zVar 3) (zC (.int 2))) [.dat (.int n), .dat (.int ((k + 1 : Nat) : Int)), .dat (.int w), .dat (.int (n % 9)), .dat (.int (n / 9)), .dat d1, .un, .un] = some (decide (n % 9 ≤ 2), [.dat (.int n), .dat (.int ((k + 1 : Nat) : Int)), .dat (.int w), .dat (.int (n % 9)), .dat (.int (n / 9)), .dat d1, .un, .un]) := by walk_at "e"
        refine sr_if q2 rfl (fun _ => ?_) (fun _ => ?_)
        · refine sr_retS (er_tup (er_cons er_C (er_cons (eu' _) (er_cons rfl er_nil))) rfl (Nat.le_of_ble_eq_true rfl)) ?_
          exact end_post rfl ⟨_, rfl, .un mu x1⟩
        · refine sr_nx (seq_nx (set_dat (call 4096 23 d2 _ (by decide) (by decide) e2) rfl rfl) ?_)
          have q6 : zTst (zOp leD (zVar 3) (zC (.int 6))) [.dat (.int n), .dat (.int ((k + 1 : Nat) : Int)), .dat (.int w), .dat (.int (n % 9)), .dat (.int (n / 9)), .dat d1, .dat d2, .un] = some (decide (n % 9 ≤ 6), [.dat (.int n), .dat (.int ((k + 1 : Nat) : Int)), .dat (.int w), .dat (.int (n % 9)), .dat (.int (n / 9)), .dat d1, .dat d2, .un]) := by walk_at "e"
          refine sr_if q6 rfl (fun _ => ?_) (fun _ => ?_)
          · refine sr_retS (er_tup (er_cons er_C (er_cons (eb' _) (er_cons rfl (er_cons rfl er_nil)))) rfl (Nat.le_of_ble_eq_true rfl)) ?_
            exact end_post rfl ⟨_, rfl, .bin mb x1 x2⟩
          · refine sr_nx (seq_nx (set_dat (call 262144 37 d3 _ (by decide) (by decide) e3) rfl rfl) ?_)
            have q7 : zTst (zOp eqD (zVar 3) (zC (.int 7))) [.dat (.int n), .dat (.int ((k + 1 : Nat) : Int)), .dat (.int w), .dat (.int (n % 9)), .dat (.int (n / 9)), .dat d1, .dat d2, .dat d3] = some (n % 9 == 7, [.dat (.int n), .dat (.int ((k + 1 : Nat) : Int)), .dat (.int w), .dat (.int (n % 9)), .dat (.int (n / 9)), .dat d1, .dat d2, .dat d3]) := by walk_at "e"
            refine sr_if q7 rfl (fun _ => ?_) (fun _ => ?_)
            · refine sr_retS (er_tup (er_cons er_C (er_cons (et' _) (er_cons rfl (er_cons rfl (er_cons rfl er_nil))))) rfl (Nat.le_of_ble_eq_true rfl)) ?_
              exact end_post rfl ⟨_, rfl, .ter mt' x1 x2 x3⟩
            · refine sr_nx (sr_ret (er_tup (er_cons er_C (er_cons rfl (er_cons rfl (er_cons rfl er_nil)))) rfl (Nat.le_of_ble_eq_true rfl)) ?_)
              exact end_post rfl ⟨_, rfl, .cho x1 x2 x3⟩
      obtain ⟨fr, h, d, rfl, hd⟩ := P
      exact ⟨d, hd, h⟩
end Qk14
set_option Elab.async false
set_option linter.all false
set_option maxRecDepth 100000
set_option maxHeartbeats 4000000
namespace Qk14
open PySem PySem.Spec PyProof.Rows L2 Z
local macro_rules | `(tactic| walk_at "l") => `(tactic| first | (simp only [wipeG_nil, wipeG_cons, List.set_cons_succ, List.set_cons_zero, List.take_succ_cons, List.take_zero, List.take_nil, List.cons_append, List.nil_append, List.length_cons, List.length_nil, List.set_nil, List.getElem?_cons_zero, List.getElem?_cons_succ, Nat.zero_add, Nat.reduceAdd]; first | done | exact rfl) | exact rfl)
local macro_rules | `(tactic| walk_at "d") => `(tactic| first
  | with_reducible assumption
  | (with_reducible apply dr_div) <;> decide
  | (with_reducible apply dr_mod) <;> decide
  | (with_reducible apply dr_mulr); decide
  | (with_reducible apply dr_mull); decide
  | (with_reducible apply dr_divB) <;> omega
  | (with_reducible apply dr_mulrB) <;> omega
  | (with_reducible apply dr_mullB) <;> omega
  | (with_reducible apply dr_mulC) <;> omega
  | (with_reducible apply dr_mod) <;> omega
  | (with_reducible refine isi_of ?_ ?_); (exact rfl); (first | exact kb_int_int | exact kb_int_bool | exact kb_bool_bool | exact kb_bool_int | exact kb_str_int | exact kb_str_bool | exact kb_str_str | exact kb_int_str | exact kb_bool_str | exact kb_non_int | exact kb_non_bool | exact kb_non_str | exact kb_list_list | exact kb_tuple_tuple | exact kb_list_tuple | exact kb_tuple_list)
  | with_reducible exact dr_abs
  | (with_reducible exact dr_neL _ _)
  | (simp only [Cn.d]; with_reducible assumption)
  | (simp only [Cn.d]; with_reducible exact dr_neL _ _)
  | with_reducible exact in_ints _ _
  | (simp only [Cn.d]; with_reducible exact in_ints _ _)
  | ((with_reducible apply dr_cat); (try simp only [List.length_append, List.length_cons, List.length_nil]); omega)
  | with_reducible exact dr_eqI
  | with_reducible exact dr_eqB
  | with_reducible exact dr_neB
  | with_reducible exact dr_eqS
  | with_reducible exact dr_neI
  | with_reducible exact dr_neS
  | exact rfl)
local macro_rules | `(tactic| walk_at "c") => `(tactic| first | with_reducible assumption | (simp only [Cn.d]; with_reducible assumption))
local macro_rules | `(tactic| walk_at "e") => `(tactic| first
  | with_reducible exact er_C
  | with_reducible exact er_nil
  | (with_reducible apply er_varD); exact rfl
  | (with_reducible apply er_varO); exact rfl
  | (with_reducible apply er_varF); exact rfl
  | (with_reducible apply er_op); walk_at "e"; walk_at "e"; exact rfl; exact rfl; walk_at "d"; exact rfl
  | (with_reducible apply er_chain); walk_at "e"; walk_at "e"; exact rfl; exact rfl; walk_at "d"; (intro _h; walk_at "e"); exact rfl; walk_at "d"
  | (with_reducible apply er_slS); walk_at "e"; walk_at "o"; walk_at "o"; exact rfl; walk_at "z"
  | (with_reducible apply er_slL); walk_at "e"; walk_at "o"; walk_at "o"; exact rfl
  | (with_reducible apply er_list); walk_at "e"; exact rfl; exact rfl
  | (with_reducible apply er_tupL); walk_at "e"; exact rfl
  | (with_reducible apply er_un); walk_at "e"; exact rfl; exact rfl; exact rfl
  | (with_reducible apply er_tst); walk_at "e"
  | (with_reducible apply er_tru); walk_at "e"; exact rfl; exact rfl
  | (with_reducible apply er_andT); walk_at "e"; (intro _h; walk_at "e")
  | (with_reducible apply er_orT); walk_at "e"; (intro _h; walk_at "e")
  | (with_reducible apply er_andTT); walk_at "e"; exact rfl; walk_at "e"
  | (with_reducible apply er_orTF); walk_at "e"; exact rfl; walk_at "e"
  | (with_reducible apply er_notT); walk_at "e"
  | (with_reducible apply er_andV); walk_at "e"; (intro _h; walk_at "e")
  | (with_reducible apply er_orV); walk_at "e"; (intro _h; walk_at "e")
  | (with_reducible apply er_notV); walk_at "e"
  | (with_reducible apply er_andVT); walk_at "e"; exact rfl; walk_at "e"
  | (with_reducible apply er_orVF); walk_at "e"; exact rfl; walk_at "e"
  | (with_reducible apply er_ix); walk_at "e"; walk_at "e"; exact rfl; walk_at "x"
  | (with_reducible apply er_callS); walk_at "e"; exact rfl; walk_at "d"; exact rfl
  | (with_reducible apply er_cons); walk_at "e"; walk_at "e"
  | (with_reducible apply er_callG); walk_at "e"; exact rfl; exact rfl; walk_at "c"; exact rfl
  | (with_reducible apply er_callH); walk_at "e"; exact rfl; exact rfl; walk_at "c"; exact rfl
  | (with_reducible apply er_callV); walk_at "e"; exact rfl; walk_at "c"; exact rfl
  | (with_reducible apply er_callGF); walk_at "e"; exact rfl; exact rfl; walk_at "c"; exact rfl
  | (with_reducible apply er_callHF); walk_at "e"; exact rfl; exact rfl; walk_at "c"; exact rfl
  | (with_reducible apply er_callM); walk_at "e"; exact rfl; exact rfl; exact rfl; exact rfl; exact rfl; walk_at "c"; exact rfl
  | (with_reducible apply er_catL); walk_at "e"; walk_at "e"; exact rfl; exact rfl; walk_at "z"
  | (with_reducible apply er_mt); walk_at "e"; exact rfl; exact rfl; walk_at "e"; exact rfl; exact rfl; walk_at "m"; exact rfl
  | (with_reducible apply er_tup); walk_at "e"; exact rfl; walk_at "z" 
  | (with_reducible apply er_lst); walk_at "e"; exact rfl; walk_at "z")
local macro_rules | `(tactic| walk_at "o") => `(tactic| first | exact er_zoN | ((with_reducible apply er_zoS); walk_at "e"))
local macro_rules | `(tactic| walk_at "x") => `(tactic| first | with_reducible assumption | (simp only [Cn.d]; with_reducible assumption) | exact rfl)
local macro_rules | `(tactic| walk_at "m") => `(tactic| first | with_reducible assumption | (simp only [Cn.d]; with_reducible assumption) | exact rfl)
local macro_rules | `(tactic| walk_at "st") => `(tactic| first
  | ((with_reducible apply set_dat); (walk_at "e"); (exact rfl); walk_at "l")
  | ((with_reducible apply set_own); (walk_at "e"); (exact Nat.le_of_ble_eq_true rfl); (exact rfl); (exact rfl); walk_at "l")
  | ((with_reducible apply asg_run); (walk_at "e"); (exact rfl); walk_at "l")
  | ((with_reducible apply aug_run); (exact rfl); (exact rfl); (walk_at "e"); (exact rfl); (walk_at "d"); (exact rfl); (exact rfl); walk_at "l")
  | ((with_reducible apply sto_run); (walk_at "e"); (walk_at "e"); (walk_at "e"); (exact rfl); (walk_at "x"); walk_at "l")
  | ((with_reducible apply app_run); (walk_at "e"); (exact rfl); (walk_at "e"); (exact rfl); (exact rfl); (walk_at "z"); walk_at "l"))
local macro_rules | `(tactic| walk_at "z") => `(tactic| first | assumption | exact Nat.le_of_ble_eq_true rfl | (simp; omega))
local macro_rules | `(tactic| walk_at "s") => `(tactic| first
  | with_reducible apply sr_nx
  | with_reducible apply sr_assoc
  | with_reducible apply ap_fg
  | ((with_reducible apply fgK_nx); (exact rfl); (walk_at "l"); skip)
  | ((with_reducible apply fgK_ct); (exact rfl); (walk_at "l"); skip)
  | ((with_reducible apply fgK_bk); (exact rfl); (walk_at "l"); skip)
  | with_reducible apply fgK_ret
  | with_reducible apply sr_bk1
  | with_reducible apply sr_ct1
  | with_reducible apply sr_nx1
  | with_reducible apply sr_ct
  | with_reducible apply sr_bk
  | (with_reducible apply sr_retS); (walk_at "e"); skip
  | (with_reducible apply sr_ret); (walk_at "e"); skip
  | (with_reducible apply sr_if); (walk_at "e"); (walk_at "l")
  | (with_reducible apply sr_if1); (walk_at "e"); (walk_at "l")
  | (with_reducible apply seq_nx); (walk_at "st")
  | (with_reducible apply one_nx); (walk_at "st"))
local macro_rules | `(tactic| walk_at "r") => `(tactic| repeat' (first | (intro _) | walk_at "s"))
local macro_rules | `(tactic| walk_at "k") => `(tactic| (intro q; (try simp only [decide_eq_true_eq, decide_eq_false_iff_not, beq_iff_eq, beq_eq_false_iff_ne, ne_eq, Bool.not_eq_true', Bool.not_eq_false', Bool.and_eq_true, Bool.or_eq_true, Bool.and_eq_false_iff, Bool.or_eq_false_iff, Int.not_lt, Int.not_le, List.cons.injEq, and_true, reduceCtorEq, beq_self_eq_true, Bool.not_true, Bool.not_false, Bool.or_false, Bool.false_or, Bool.or_true, Bool.true_or, Bool.and_false, Bool.false_and, Bool.and_true, Bool.true_and, not_true_eq_false, Bool.false_eq_true] at q) <;> (try (exfalso; first | (cases q; done) | omega | contradiction))))
local macro_rules | `(tactic| walk_at "w") => `(tactic| repeat' (first | (walk_at "k") | walk_at "s"))
theorem pickD {P : D → D → Prop} : ∀ {L : List D}, (∀ y ∈ L, ∃ v, P y v) → ∃ f : D → D, ∀ y ∈ L, P y (f y) := fun {L} h => by
  classical
  refine ⟨fun y => if q : ∃ v, P y v then q.choose else y, fun y hy => ?_⟩
  have q := h y hy
  simp only [q, dif_pos]
  exact q.choose_spec
theorem ks_ix (x : Int) : ∃ t ∈ KS, ixD (.lst [.str [98, 111, 111, 108], .str [105, 110, 116], .str [116, 101, 120, 116], .str [100, 97, 116, 101], .str [100, 101, 99, 105, 109, 97, 108]]) (x % 5) = some (.str t) := by
  rcases (show x % 5 = 0 ∨ x % 5 = 1 ∨ x % 5 = 2 ∨ x % 5 = 3 ∨ x % 5 = 4 by omega) with h | h | h | h | h <;> rw [h]
  · exact ⟨_, by simp [KS], rfl⟩
  · exact ⟨_, by simp [KS], rfl⟩
  · exact ⟨_, by simp [KS], rfl⟩
  · exact ⟨_, by simp [KS], rfl⟩
  · exact ⟨_, by simp [KS], rfl⟩
theorem columns_ok (L : List Int) (hL : L.length = 12) : ∃ CL : List D, d__law_columns_of [.lst (L.map D.int), .int 0, .int 5] = some (.new (.lst CL)) ∧ CL.length = 5 ∧ ∀ d ∈ CL, ∃ t ∈ KS, ∃ b, d = .tup [.str t, .bl b] := by
  have item : ∀ y ∈ rgD 0 5, ∃ v, (∃ t ∈ KS, ∃ b, v = D.tup [.str t, .bl b]) ∧ ∀ o : Sl, zTup (zCons (zIx (zVar 3) (zOp modD (zCallS intU (zCons (zIx (zVar 0) (zOp addS (zVar 1) (zVar 4))) (zNil))) (zC (.int 5)))) (zCons (zOp eqD (zOp modD (zOp divD (zCallS intU (zCons (zIx (zVar 0) (zOp addS (zVar 1) (zVar 4))) (zNil))) (zC (.int 5))) (zC (.int 2))) (zC (.int 0))) (zNil))) [.dat (.lst (L.map D.int)), .dat (.int 0), .dat (.int 5), .own (.lst [.str [98, 111, 111, 108], .str [105, 110, 116], .str [116, 101, 120, 116], .str [100, 97, 116, 101], .str [100, 101, 99, 105, 109, 97, 108]]) false false, .dat y, o] =
      some (.dat v, [.dat (.lst (L.map D.int)), .dat (.int 0), .dat (.int 5), .own (.lst [.str [98, 111, 111, 108], .str [105, 110, 116], .str [116, 101, 120, 116], .str [100, 97, 116, 101], .str [100, 101, 99, 105, 109, 97, 108]]) false false, .dat y, o]) := fun y hy => by
    obtain ⟨i, hg⟩ := List.getElem?_of_mem hy
    obtain ⟨hi, rfl⟩ := rgD_at hg
    have hl : i < L.length := by omega
    obtain ⟨t, ht, et⟩ := ks_ix L[i]
    have ixn : ixD (.lst (L.map D.int)) (0 + (0 + (i : Int))) = some (.int L[i]) := by
      have h2 : (L.map D.int)[i]? = some (.int L[i]) := by rw [List.getElem?_map, List.getElem?_eq_getElem hl]; rfl
      rw [show (0 + (0 + (i : Int))) = (i : Int) by omega]
      exact atI_nat h2
    refine ⟨_, ⟨t, ht, L[i] / 5 % 2 == 0, rfl⟩, fun o => ?_⟩
    have nm : zCallS intU (zCons (zIx (zVar 0) (zOp addS (zVar 1) (zVar 4))) (zNil)) [.dat (.lst (L.map D.int)), .dat (.int 0), .dat (.int 5), .own (.lst [.str [98, 111, 111, 108], .str [105, 110, 116], .str [116, 101, 120, 116], .str [100, 97, 116, 101], .str [100, 101, 99, 105, 109, 97, 108]]) false false, .dat (.int (0 + (i : Int))), o] = some (.dat (.int L[i]), [.dat (.lst (L.map D.int)), .dat (.int 0), .dat (.int 5), .own (.lst [.str [98, 111, 111, 108], .str [105, 110, 116], .str [116, 101, 120, 116], .str [100, 97, 116, 101], .str [100, 101, 99, 105, 109, 97, 108]]) false false, .dat (.int (0 + (i : Int))), o]) := er_callS (er_cons (er_ix rfl (er_op rfl rfl rfl rfl rfl rfl) rfl ixn) er_nil) rfl rfl rfl
    exact er_tup (er_cons (er_ix rfl (er_op nm er_C rfl rfl (dr_mod (by decide)) rfl) rfl et) (er_cons (er_op (er_op (er_op nm er_C rfl rfl (dr_div (by decide) (by decide)) rfl) er_C rfl rfl (dr_mod (by decide)) rfl) er_C rfl rfl rfl rfl) er_nil)) rfl (Nat.le_of_ble_eq_true rfl)
  obtain ⟨f, hf⟩ := pickD item
  have l := er_lc1 (b := fun _ => true) (f := f) (tg := gN 4) (tt := zYes) (el := zTup (zCons (zIx (zVar 3) (zOp modD (zCallS intU (zCons (zIx (zVar 0) (zOp addS (zVar 1) (zVar 4))) (zNil))) (zC (.int 5)))) (zCons (zOp eqD (zOp modD (zOp divD (zCallS intU (zCons (zIx (zVar 0) (zOp addS (zVar 1) (zVar 4))) (zNil))) (zC (.int 5))) (zC (.int 2))) (zC (.int 0))) (zNil)))) (vs := [4]) (base := [.dat (.lst (L.map D.int)), .dat (.int 0), .dat (.int 5), .own (.lst [.str [98, 111, 111, 108], .str [105, 110, 116], .str [116, 101, 120, 116], .str [100, 97, 116, 101], .str [100, 101, 99, 105, 109, 97, 108]]) false false, .un]) (mi := ziR1 (zCons (zVar 2) (zNil))) (g := [.dat (.lst (L.map D.int)), .dat (.int 0), .dat (.int 5), .own (.lst [.str [98, 111, 111, 108], .str [105, 110, 116], .str [116, 101, 120, 116], .str [100, 97, 116, 101], .str [100, 101, 99, 105, 109, 97, 108]]) false false, .un]) (L := rgD 0 5) (mi_R1 (k := 5) (er_cons rfl er_nil) rfl) (fun o => rfl) (fun o => rfl) (by rw [rgD_len]; exact Nat.le_of_ble_eq_true rfl)
    (fun y hy => lc_dat (h := [.dat (.lst (L.map D.int)), .dat (.int 0), .dat (.int 5), .own (.lst [.str [98, 111, 111, 108], .str [105, 110, 116], .str [116, 101, 120, 116], .str [100, 97, 116, 101], .str [100, 101, 99, 105, 109, 97, 108]]) false false, .dat y]) rfl (fun o => rfl) (fun o => rfl) (fun o => rfl) (fun o => rfl) (fun _ o => (hf y hy).2 o))
  rw [List.filter_eq_self.mpr (fun _ _ => rfl)] at l
  refine ⟨(rgD 0 5).map f, ?_, by rw [List.length_map, rgD_len], fun d hd => ?_⟩
  · unfold d__law_columns_of b__law_columns_of
    refine runP_ap (g := [.dat (.lst (L.map D.int)), .dat (.int 0), .dat (.int 5), .un, .un]) rfl rfl ?_
    refine seq_nx (g1 := [.dat (.lst (L.map D.int)), .dat (.int 0), .dat (.int 5), .own (.lst [.str [98, 111, 111, 108], .str [105, 110, 116], .str [116, 101, 120, 116], .str [100, 97, 116, 101], .str [100, 101, 99, 105, 109, 97, 108]]) false false, .un]) (set_own (er_lst (er_cons er_C (er_cons er_C (er_cons er_C (er_cons er_C (er_cons er_C er_nil))))) rfl (Nat.le_of_ble_eq_true rfl)) (Nat.le_of_ble_eq_true rfl) rfl rfl rfl) ?_
    exact sr_ret l rfl
  · obtain ⟨y, hy, rfl⟩ := List.mem_map.mp hd
    exact (hf y hy).1
theorem ixn {L : List Int} {j : Nat} (h : j < L.length) : ixD (.lst (L.map D.int)) (j : Int) = some (.int L[j]) := by
  have h2 : (L.map D.int)[j]? = some (.int L[j]) := by rw [List.getElem?_map, List.getElem?_eq_getElem h]; rfl
  exact atI_nat h2
theorem drawn_ok (L : List Int) (hL : L.length = 12) (m : Nat) (hm : 1 ≤ m ∧ m ≤ 4) : ∃ d, Kx 5 d ∧ d__law_drawn [.lst (L.map D.int), .int 6, .int m, .int 6] = some (.dat d) := by
  have x6 : ixD (.lst (L.map D.int)) 6 = some (.int L[6]) := ixn (j := 6) (by omega)
  have x7 : ixD (.lst (L.map D.int)) 7 = some (.int L[7]) := ixn (j := 7) (by omega)
  have x8 : ixD (.lst (L.map D.int)) 8 = some (.int L[8]) := ixn (j := 8) (by omega)
  have x9 : ixD (.lst (L.map D.int)) 9 = some (.int L[9]) := ixn (j := 9) (by omega)
  obtain ⟨p, rfl⟩ : ∃ p, m = p + 1 := ⟨m - 1, by omega⟩
  obtain ⟨d1, k1, e1⟩ := expr_ok 6 rfl (p + 1) L[6] 40 (by omega)
  obtain ⟨d2, k2, e2⟩ := expr_ok 6 rfl p L[7] 40 (by omega)
  obtain ⟨d3, k3, e3⟩ := expr_ok 6 rfl p L[8] 40 (by omega)
  have e1 : d__law_expression 40 [.int L[6], .int ((p + 1 : Nat) : Int), .int 6] = some (.dat d1) := e1
  have e2 : d__law_expression 40 [.int L[7], .int (p : Int), .int 6] = some (.dat d2) := e2
  have e3 : d__law_expression 40 [.int L[8], .int (p : Int), .int 6] = some (.dat d3) := e3
  have hs : subD (.int ((p + 1 : Nat) : Int)) (.int 1) = some (.int (p : Int)) := by
    show some (D.int (((p + 1 : Nat) : Int) - 1)) = _
    rw [show ((p + 1 : Nat) : Int) - 1 = (p : Int) by omega]
  have g1 : Kx 4 d1 := k1.up (by omega)
  have g2 : Kx 4 d2 := k2.up (by omega)
  have g3 : Kx 4 d3 := k3.up (by omega)
  obtain ⟨nu, mu, eu⟩ := ix_U (L[9] / 6)
  obtain ⟨nb, mb, eb⟩ := ix_B (L[9] / 6)
  obtain ⟨nt, mt', et⟩ := ix_T (L[9] / 6)
  generalize L.map D.int = NL at *
  generalize L[6] = a6 at *
  generalize L[7] = a7 at *
  generalize L[8] = a8 at *
  generalize L[9] = a9 at *
  have P : ∃ fr, d__law_drawn [.lst NL, .int 6, .int ((p + 1 : Nat) : Int), .int 6] = some fr ∧ ∃ d, fr = .dat d ∧ Kx 5 d := by
    unfold d__law_drawn b__law_drawn
    generalize d__law_expression 40 = F at *
    generalize ((p + 1 : Nat) : Int) = mm at *
    refine runP_post (g := [.dat (.lst NL), .dat (.int 6), .dat (.int mm), .dat (.int 6), .un, .un, .un, .un, .un]) rfl rfl ?_
    refine seq_nx (g1 := [.dat (.lst NL), .dat (.int 6), .dat (.int mm), .dat (.int 6), .dat d1, .un, .un, .un, .un]) (set_dat (er_call (ds := [.int a6, .int mm, .int 6]) (er_cons (er_ix rfl rfl rfl x6) (er_cons rfl (er_cons rfl er_nil))) e1) rfl rfl) ?_
    refine seq_nx (g1 := [.dat (.lst NL), .dat (.int 6), .dat (.int mm), .dat (.int 6), .dat d1, .dat d2, .un, .un, .un]) (set_dat (er_call (ds := [.int a7, .int (p : Int), .int 6]) (er_cons (er_ix rfl (er_op rfl er_C rfl rfl rfl rfl) rfl x7) (er_cons (er_op rfl er_C rfl rfl hs rfl) (er_cons rfl er_nil))) e2) rfl rfl) ?_
    refine seq_nx (g1 := [.dat (.lst NL), .dat (.int 6), .dat (.int mm), .dat (.int 6), .dat d1, .dat d2, .dat d3, .un, .un]) (set_dat (er_call (ds := [.int a8, .int (p : Int), .int 6]) (er_cons (er_ix rfl (er_op rfl er_C rfl rfl rfl rfl) rfl x8) (er_cons (er_op rfl er_C rfl rfl hs rfl) (er_cons rfl er_nil))) e3) rfl rfl) ?_
    refine seq_nx (g1 := [.dat (.lst NL), .dat (.int 6), .dat (.int mm), .dat (.int 6), .dat d1, .dat d2, .dat d3, .dat (.int (a9 % 6)), .un]) (set_dat (er_op (er_callS (er_cons (er_ix rfl (er_op rfl er_C rfl rfl rfl rfl) rfl x9) er_nil) rfl rfl rfl) er_C rfl rfl (dr_mod (by decide)) rfl) rfl rfl) ?_
    refine seq_nx (g1 := [.dat (.lst NL), .dat (.int 6), .dat (.int mm), .dat (.int 6), .dat d1, .dat d2, .dat d3, .dat (.int (a9 % 6)), .dat (.int (a9 / 6))]) (set_dat (er_op (er_callS (er_cons (er_ix rfl (er_op rfl er_C rfl rfl rfl rfl) rfl x9) er_nil) rfl rfl rfl) er_C rfl rfl (dr_div (by decide) (by decide)) rfl) rfl rfl) ?_
    generalize a9 % 6 = ch at *
    refine sr_if (er_tst (er_op rfl er_C rfl rfl rfl rfl)) rfl (fun _ => ?_) (fun _ => ?_)
    · exact sr_retS rfl (end_post rfl ⟨_, rfl, g1.up (by omega)⟩)
    refine sr_nx (sr_if (er_tst (er_op rfl er_C rfl rfl rfl rfl)) rfl (fun _ => ?_) (fun _ => ?_))
    · exact sr_retS (er_tup (er_cons er_C (er_cons (er_ix er_C (er_op rfl er_C rfl rfl (dr_mod (by decide)) rfl) rfl eu) (er_cons rfl er_nil))) rfl (Nat.le_of_ble_eq_true rfl)) (end_post rfl ⟨_, rfl, .un mu g1⟩)
    refine sr_nx (sr_if (er_tst (er_op rfl er_C rfl rfl rfl rfl)) rfl (fun _ => ?_) (fun _ => ?_))
    · exact sr_retS (er_tup (er_cons er_C (er_cons rfl (er_cons rfl (er_cons rfl er_nil)))) rfl (Nat.le_of_ble_eq_true rfl)) (end_post rfl ⟨_, rfl, .cho g2 g1 g3⟩)
    refine sr_nx (sr_if (er_tst (er_op rfl er_C rfl rfl rfl rfl)) rfl (fun _ => ?_) (fun _ => ?_))
    · exact sr_retS (er_tup (er_cons er_C (er_cons (er_ix er_C (er_op rfl er_C rfl rfl (dr_mod (by decide)) rfl) rfl et) (er_cons rfl (er_cons rfl (er_cons rfl er_nil))))) rfl (Nat.le_of_ble_eq_true rfl)) (end_post rfl ⟨_, rfl, .ter mt' g1 g2 g3⟩)
    exact sr_nx (sr_ret (er_tup (er_cons er_C (er_cons (er_ix er_C (er_op rfl er_C rfl rfl (dr_mod (by decide)) rfl) rfl eb) (er_cons rfl (er_cons rfl er_nil)))) rfl (Nat.le_of_ble_eq_true rfl)) (end_post rfl ⟨_, rfl, .bin mb g1 g2⟩))
  obtain ⟨fr, h, d, rfl, hd⟩ := P
  exact ⟨d, hd, h⟩
theorem exchanged_ok {d : D} (h : Kx 5 d) (n : Int) : ∃ d', Kx 5 d' ∧ d__law_exchanged [d, .int n] = some (.dat d') := by
  obtain ⟨nu, mu, eu⟩ := ix_U n
  obtain ⟨nb, mb, eb⟩ := ix_B n
  have go : ∀ {f : List Nat}, ixD d 0 = some (.str f) → (f == sUN) = false → (f == sBIN) = false → d__law_exchanged [d, .int n] = some (.dat d) := fun {f} i0 h1 h2 => by
    have t1 := eqS f sUN
    have t2 := eqS f sBIN
    rw [h1] at t1
    rw [h2] at t2
    unfold d__law_exchanged b__law_exchanged
    refine runP_ap (g := [.dat d, .dat (.int n)]) rfl rfl ?_
    refine sr_if (b := false) (er_tst (er_op (er_ix rfl er_C rfl i0) er_C rfl rfl t1 rfl)) rfl (fun q => by cases q) (fun _ => ?_)
    refine sr_nx (sr_if (b := false) (er_tst (er_op (er_ix rfl er_C rfl i0) er_C rfl rfl t2 rfl)) rfl (fun q => by cases q) (fun _ => ?_))
    exact sr_nx (sr_ret rfl rfl)
  have h0 := h
  cases h with
  | con _ => exact ⟨_, h0, go (f := sCON) rfl rfl rfl⟩
  | col _ _ => exact ⟨_, h0, go (f := sCOL) rfl rfl rfl⟩
  | ter _ _ _ _ => exact ⟨_, h0, go (f := sTER) rfl rfl rfl⟩
  | cho _ _ _ => exact ⟨_, h0, go (f := sCHO) rfl rfl rfl⟩
  | @un k nm a hn ha =>
    refine ⟨_, .un mu ha, ?_⟩
    have i0 : ixD (.tup [.str sUN, .str nm, a]) 0 = some (.str sUN) := rfl
    have i2 : ixD (.tup [.str sUN, .str nm, a]) 2 = some a := rfl
    generalize D.tup [.str sUN, .str nm, a] = e at *
    unfold d__law_exchanged b__law_exchanged
    refine runP_ap (g := [.dat e, .dat (.int n)]) rfl rfl ?_
    refine sr_if (b := true) (er_tst (er_op (er_ix rfl er_C rfl i0) er_C rfl rfl rfl rfl)) rfl (fun _ => ?_) (fun q => by cases q)
    exact sr_retS (er_tup (er_cons er_C (er_cons (er_ix er_C (er_op (er_callS (er_cons rfl er_nil) rfl rfl rfl) er_C rfl rfl (dr_mod (by decide)) rfl) rfl eu) (er_cons (er_ix rfl er_C rfl i2) er_nil))) rfl (Nat.le_of_ble_eq_true rfl)) rfl
  | @bin k nm a b hn ha hb =>
    refine ⟨_, .bin mb ha hb, ?_⟩
    have i0 : ixD (.tup [.str sBIN, .str nm, a, b]) 0 = some (.str sBIN) := rfl
    have i2 : ixD (.tup [.str sBIN, .str nm, a, b]) 2 = some a := rfl
    have i3 : ixD (.tup [.str sBIN, .str nm, a, b]) 3 = some b := rfl
    generalize D.tup [.str sBIN, .str nm, a, b] = e at *
    unfold d__law_exchanged b__law_exchanged
    refine runP_ap (g := [.dat e, .dat (.int n)]) rfl rfl ?_
    refine sr_if (b := false) (er_tst (er_op (er_ix rfl er_C rfl i0) er_C rfl rfl rfl rfl)) rfl (fun q => by cases q) (fun _ => ?_)
    refine sr_nx (sr_if (b := true) (er_tst (er_op (er_ix rfl er_C rfl i0) er_C rfl rfl rfl rfl)) rfl (fun _ => ?_) (fun q => by cases q))
    exact sr_retS (er_tup (er_cons er_C (er_cons (er_ix er_C (er_op (er_callS (er_cons rfl er_nil) rfl rfl rfl) er_C rfl rfl (dr_mod (by decide)) rfl) rfl eb) (er_cons (er_ix rfl er_C rfl i2) (er_cons (er_ix rfl er_C rfl i3) er_nil)))) rfl (Nat.le_of_ble_eq_true rfl)) rfl
end Qk14
set_option Elab.async false
set_option linter.all false
set_option maxRecDepth 100000
set_option maxHeartbeats 4000000
namespace Qk14
open PySem PySem.Spec PyProof.Rows L2 Z
local macro_rules | `(tactic| walk_at "l") => `(tactic| first | (simp only [wipeG_nil, wipeG_cons, List.set_cons_succ, List.set_cons_zero, List.take_succ_cons, List.take_zero, List.take_nil, List.cons_append, List.nil_append, List.length_cons, List.length_nil, List.set_nil, List.getElem?_cons_zero, List.getElem?_cons_succ, Nat.zero_add, Nat.reduceAdd]; first | done | exact rfl) | exact rfl)
local macro_rules | `(tactic| walk_at "d") => `(tactic| first
  | with_reducible assumption
  | (with_reducible apply dr_div) <;> decide
  | (with_reducible apply dr_mod) <;> decide
  | (with_reducible apply dr_mulr); decide
  | (with_reducible apply dr_mull); decide
  | (with_reducible apply dr_divB) <;> omega
  | (with_reducible apply dr_mulrB) <;> omega
  | (with_reducible apply dr_mullB) <;> omega
  | (with_reducible apply dr_mulC) <;> omega
  | (with_reducible apply dr_mod) <;> omega
  | (with_reducible refine isi_of ?_ ?_); (exact rfl); (first | exact kb_int_int | exact kb_int_bool | exact kb_bool_bool | exact kb_bool_int | exact kb_str_int | exact kb_str_bool | exact kb_str_str | exact kb_int_str | exact kb_bool_str | exact kb_non_int | exact kb_non_bool | exact kb_non_str | exact kb_list_list | exact kb_tuple_tuple | exact kb_list_tuple | exact kb_tuple_list)
  | with_reducible exact dr_abs
  | (with_reducible exact dr_neL _ _)
  | (simp only [Cn.d]; with_reducible assumption)
  | (simp only [Cn.d]; with_reducible exact dr_neL _ _)
  | with_reducible exact in_ints _ _
  | (simp only [Cn.d]; with_reducible exact in_ints _ _)
  | ((with_reducible apply dr_cat); (try simp only [List.length_append, List.length_cons, List.length_nil]); omega)
  | with_reducible exact dr_eqI
  | with_reducible exact dr_eqB
  | with_reducible exact dr_neB
  | with_reducible exact dr_eqS
  | with_reducible exact dr_neI
  | with_reducible exact dr_neS
  | exact rfl)
local macro_rules | `(tactic| walk_at "c") => `(tactic| first | with_reducible assumption | (simp only [Cn.d]; with_reducible assumption))
local macro_rules | `(tactic| walk_at "e") => `(tactic| first
  | with_reducible exact er_C
  | with_reducible exact er_nil
  | (with_reducible apply er_varD); exact rfl
  | (with_reducible apply er_varO); exact rfl
  | (with_reducible apply er_varF); exact rfl
  | (with_reducible apply er_op); walk_at "e"; walk_at "e"; exact rfl; exact rfl; walk_at "d"; exact rfl
  | (with_reducible apply er_chain); walk_at "e"; walk_at "e"; exact rfl; exact rfl; walk_at "d"; (intro _h; walk_at "e"); exact rfl; walk_at "d"
  | (with_reducible apply er_slS); walk_at "e"; walk_at "o"; walk_at "o"; exact rfl; walk_at "z"
  | (with_reducible apply er_slL); walk_at "e"; walk_at "o"; walk_at "o"; exact rfl
  | (with_reducible apply er_list); walk_at "e"; exact rfl; exact rfl
  | (with_reducible apply er_tupL); walk_at "e"; exact rfl
  | (with_reducible apply er_un); walk_at "e"; exact rfl; exact rfl; exact rfl
  | (with_reducible apply er_tst); walk_at "e"
  | (with_reducible apply er_tru); walk_at "e"; exact rfl; exact rfl
  | (with_reducible apply er_andT); walk_at "e"; (intro _h; walk_at "e")
  | (with_reducible apply er_orT); walk_at "e"; (intro _h; walk_at "e")
  | (with_reducible apply er_andTT); walk_at "e"; exact rfl; walk_at "e"
  | (with_reducible apply er_orTF); walk_at "e"; exact rfl; walk_at "e"
  | (with_reducible apply er_notT); walk_at "e"
  | (with_reducible apply er_andV); walk_at "e"; (intro _h; walk_at "e")
  | (with_reducible apply er_orV); walk_at "e"; (intro _h; walk_at "e")
  | (with_reducible apply er_notV); walk_at "e"
  | (with_reducible apply er_andVT); walk_at "e"; exact rfl; walk_at "e"
  | (with_reducible apply er_orVF); walk_at "e"; exact rfl; walk_at "e"
  | (with_reducible apply er_ix); walk_at "e"; walk_at "e"; exact rfl; walk_at "x"
  | (with_reducible apply er_callS); walk_at "e"; exact rfl; walk_at "d"; exact rfl
  | (with_reducible apply er_cons); walk_at "e"; walk_at "e"
  | (with_reducible apply er_callG); walk_at "e"; exact rfl; exact rfl; walk_at "c"; exact rfl
  | (with_reducible apply er_callH); walk_at "e"; exact rfl; exact rfl; walk_at "c"; exact rfl
  | (with_reducible apply er_callV); walk_at "e"; exact rfl; walk_at "c"; exact rfl
  | (with_reducible apply er_callGF); walk_at "e"; exact rfl; exact rfl; walk_at "c"; exact rfl
  | (with_reducible apply er_callHF); walk_at "e"; exact rfl; exact rfl; walk_at "c"; exact rfl
  | (with_reducible apply er_callM); walk_at "e"; exact rfl; exact rfl; exact rfl; exact rfl; exact rfl; walk_at "c"; exact rfl
  | (with_reducible apply er_catL); walk_at "e"; walk_at "e"; exact rfl; exact rfl; walk_at "z"
  | (with_reducible apply er_mt); walk_at "e"; exact rfl; exact rfl; walk_at "e"; exact rfl; exact rfl; walk_at "m"; exact rfl
  | (with_reducible apply er_tup); walk_at "e"; exact rfl; walk_at "z" 
  | (with_reducible apply er_lst); walk_at "e"; exact rfl; walk_at "z")
local macro_rules | `(tactic| walk_at "o") => `(tactic| first | exact er_zoN | ((with_reducible apply er_zoS); walk_at "e"))
local macro_rules | `(tactic| walk_at "x") => `(tactic| first | with_reducible assumption | (simp only [Cn.d]; with_reducible assumption) | exact rfl)
local macro_rules | `(tactic| walk_at "m") => `(tactic| first | with_reducible assumption | (simp only [Cn.d]; with_reducible assumption) | exact rfl)
local macro_rules | `(tactic| walk_at "st") => `(tactic| first
  | ((with_reducible apply set_dat); (walk_at "e"); (exact rfl); walk_at "l")
  | ((with_reducible apply set_own); (walk_at "e"); (exact Nat.le_of_ble_eq_true rfl); (exact rfl); (exact rfl); walk_at "l")
  | ((with_reducible apply asg_run); (walk_at "e"); (exact rfl); walk_at "l")
  | ((with_reducible apply aug_run); (exact rfl); (exact rfl); (walk_at "e"); (exact rfl); (walk_at "d"); (exact rfl); (exact rfl); walk_at "l")
  | ((with_reducible apply sto_run); (walk_at "e"); (walk_at "e"); (walk_at "e"); (exact rfl); (walk_at "x"); walk_at "l")
  | ((with_reducible apply app_run); (walk_at "e"); (exact rfl); (walk_at "e"); (exact rfl); (exact rfl); (walk_at "z"); walk_at "l"))
local macro_rules | `(tactic| walk_at "z") => `(tactic| first | assumption | exact Nat.le_of_ble_eq_true rfl | (simp; omega))
local macro_rules | `(tactic| walk_at "s") => `(tactic| first
  | with_reducible apply sr_nx
  | with_reducible apply sr_assoc
  | with_reducible apply ap_fg
  | ((with_reducible apply fgK_nx); (exact rfl); (walk_at "l"); skip)
  | ((with_reducible apply fgK_ct); (exact rfl); (walk_at "l"); skip)
  | ((with_reducible apply fgK_bk); (exact rfl); (walk_at "l"); skip)
  | with_reducible apply fgK_ret
  | with_reducible apply sr_bk1
  | with_reducible apply sr_ct1
  | with_reducible apply sr_nx1
  | with_reducible apply sr_ct
  | with_reducible apply sr_bk
  | (with_reducible apply sr_retS); (walk_at "e"); skip
  | (with_reducible apply sr_ret); (walk_at "e"); skip
  | (with_reducible apply sr_if); (walk_at "e"); (walk_at "l")
  | (with_reducible apply sr_if1); (walk_at "e"); (walk_at "l")
  | (with_reducible apply seq_nx); (walk_at "st")
  | (with_reducible apply one_nx); (walk_at "st"))
local macro_rules | `(tactic| walk_at "r") => `(tactic| repeat' (first | (intro _) | walk_at "s"))
local macro_rules | `(tactic| walk_at "k") => `(tactic| (intro q; (try simp only [decide_eq_true_eq, decide_eq_false_iff_not, beq_iff_eq, beq_eq_false_iff_ne, ne_eq, Bool.not_eq_true', Bool.not_eq_false', Bool.and_eq_true, Bool.or_eq_true, Bool.and_eq_false_iff, Bool.or_eq_false_iff, Int.not_lt, Int.not_le, List.cons.injEq, and_true, reduceCtorEq, beq_self_eq_true, Bool.not_true, Bool.not_false, Bool.or_false, Bool.false_or, Bool.or_true, Bool.true_or, Bool.and_false, Bool.false_and, Bool.and_true, Bool.true_and, not_true_eq_false, Bool.false_eq_true] at q) <;> (try (exfalso; first | (cases q; done) | omega | contradiction))))
local macro_rules | `(tactic| walk_at "w") => `(tactic| repeat' (first | (walk_at "k") | walk_at "s"))
def isCol (CL : List D) (t : List Nat) : D → Bool
  | .int j => match CL[j.toNat]? with
    | some (.tup (.str u :: _)) => u == t
    | _ => false
  | _ => false
theorem leaf_ok {t : List Nat} (ht : t ∈ KS) (n : Int) {CL : List D} (hl : CL.length = 5) (hC : ∀ d ∈ CL, ∃ u ∈ KS, ∃ b, d = .tup [.str u, .bl b]) : ∃ d, Kx 1 d ∧ d__law_leaf [.str t, .int n, .lst CL] = some (.dat d) := by
  have l := er_lc1 (b := isCol CL t) (f := fun d => d) (tg := gN 5) (tt := zTst (zOp eqD (zIx (zIx (zVar 2) (zVar 5)) (zC (.int 0))) (zVar 0))) (el := zVar 5) (vs := [5]) (base := [.dat (.str t), .dat (.int n), .dat (.lst CL), .un, .un, .un]) (mi := ziR1 (zCons (zCallS lenD (zCons (zVar 2) (zNil))) (zNil))) (g := [.dat (.str t), .dat (.int n), .dat (.lst CL), .un, .un, .un]) (L := rgD 0 5) (by
      have h := mi_R1 (mr := zCons (zCallS lenD (zCons (zVar 2) (zNil))) (zNil)) (g := [.dat (.str t), .dat (.int n), .dat (.lst CL), .un, .un, .un]) (k := 5) (er_cons (er_callS (er_cons rfl er_nil) rfl (show lenD [.lst CL] = some (.int 5) by show some (D.int (CL.length : Nat)) = _; rw [hl]; rfl) rfl) er_nil) rfl
      exact h) (fun o => rfl) (fun o => rfl) (by rw [rgD_len]; exact Nat.le_of_ble_eq_true rfl)
    (fun y hy => by
      obtain ⟨i, hg⟩ := List.getElem?_of_mem hy
      obtain ⟨hi, rfl⟩ := rgD_at hg
      have hc : i < CL.length := by omega
      obtain ⟨u, _, b, eu⟩ := hC CL[i] (List.getElem_mem hc)
      have e1 : ixD (.lst CL) (0 + (i : Int)) = some CL[i] := by
        rw [show (0 + (i : Int)) = (i : Int) by omega]
        exact atI_nat (List.getElem?_eq_getElem hc)
      have e2 : ixD CL[i] 0 = some (.str u) := by rw [eu]; rfl
      have e3 : isCol CL t (.int (0 + (i : Int))) = (u == t) := by
        show (match CL[(0 + (i : Int)).toNat]? with
          | some (.tup (.str u :: _)) => u == t
          | _ => false) = _
        rw [show (0 + (i : Int)).toNat = i by omega, List.getElem?_eq_getElem hc, eu]
      refine lc_dat (h := [.dat (.str t), .dat (.int n), .dat (.lst CL), .un, .un, .dat (.int (0 + (i : Int)))]) rfl (fun o => rfl) (fun o => rfl) (fun o => rfl) (fun o => ?_) (fun _ o => rfl)
      rw [e3]
      exact er_tst (er_op (er_ix (er_ix rfl rfl rfl e1) er_C rfl e2) rfl rfl rfl (eqS u t) rfl))
  rw [List.map_id'] at l
  have memF : ∀ y ∈ (rgD 0 5).filter (isCol CL t), ∃ c : Int, 0 ≤ c ∧ c < 6 ∧ y = .int c := fun y hy => by
    obtain ⟨i, hg⟩ := List.getElem?_of_mem (List.mem_filter.mp hy).1
    obtain ⟨hi, rfl⟩ := rgD_at hg
    exact ⟨_, by omega, by omega, rfl⟩
  generalize (rgD 0 5).filter (isCol CL t) = FL at *
  obtain ⟨k5, hk5⟩ := Int.eq_ofNat_of_zero_le (show 0 ≤ n / 9 % 5 by omega)
  obtain ⟨s, hs, hsl, hsc⟩ := text_ok (n / 9) k5 (by omega)
  rw [← hk5] at hs
  have P : ∃ fr, d__law_leaf [.str t, .int n, .lst CL] = some fr ∧ ∃ d, fr = .dat d ∧ Kx 1 d := by
    unfold d__law_leaf b__law_leaf
    refine runP_post (g := [.dat (.str t), .dat (.int n), .dat (.lst CL), .un, .un, .un]) rfl rfl ?_
    refine seq_nx (g1 := [.dat (.str t), .dat (.int n), .dat (.lst CL), .own (.lst FL) false false, .un, .un]) (set_own l (Nat.le_of_ble_eq_true rfl) rfl rfl rfl) ?_
    have tt : zAndT (zTst (zOp gtD (zCallS lenD (zCons (zVar 3) (zNil))) (zC (.int 0)))) (zTst (zOp gtD (zOp modD (zCallS intU (zCons (zVar 1) (zNil))) (zC (.int 3))) (zC (.int 0)))) [.dat (.str t), .dat (.int n), .dat (.lst CL), .own (.lst FL) false false, .un, .un] = some (decide ((0 : Int) < (FL.length : Nat)) && decide (0 < n % 3), [.dat (.str t), .dat (.int n), .dat (.lst CL), .own (.lst FL) false false, .un, .un]) :=
      er_andT (er_tst (er_op (er_callS (z := .int (FL.length : Nat)) (er_cons rfl er_nil) rfl rfl rfl) er_C rfl rfl rfl rfl)) (fun _ => er_tst (er_op (er_op (er_callS (er_cons rfl er_nil) rfl rfl rfl) er_C rfl rfl (dr_mod (by decide)) rfl) er_C rfl rfl rfl rfl))
    refine sr_if tt rfl (fun q => ?_) (fun _ => ?_)
    · rw [Bool.and_eq_true] at q
      have hz := of_decide_eq_true q.1
      obtain ⟨y, e1, e2⟩ := atI_lt (xs := FL) (Int.emod_nonneg (n / 3) (show (FL.length : Int) ≠ 0 by omega)) (Int.emod_lt_of_pos (n / 3) hz)
      obtain ⟨c, c0, c1, rfl⟩ := memF y e2
      exact sr_retS (er_tup (er_cons er_C (er_cons (er_ix rfl (er_op (er_op (er_callS (er_cons rfl er_nil) rfl rfl rfl) er_C rfl rfl (dr_div (by decide) (by decide)) rfl) (er_callS (z := .int (FL.length : Nat)) (er_cons rfl er_nil) rfl rfl rfl) rfl rfl (dr_mod hz) rfl) rfl e1) er_nil)) rfl (Nat.le_of_ble_eq_true rfl)) (end_post rfl ⟨_, rfl, .col c0 c1⟩)
    · refine sr_nx (seq_nx (g1 := [.dat (.str t), .dat (.int n), .dat (.lst CL), .own (.lst FL) false false, .dat (.int (n / 9)), .un]) (set_dat (er_op (er_callS (er_cons rfl er_nil) rfl rfl rfl) er_C rfl rfl (dr_div (by decide) (by decide)) rfl) rfl rfl) ?_)
      generalize n / 9 = r at *
      simp only [KS, List.mem_cons, List.not_mem_nil, or_false] at ht
      refine sr_if (er_tst (er_op rfl er_C rfl rfl rfl rfl)) rfl (fun _ => ?_) (fun _ => ?_)
      · exact sr_retS (er_tup (er_cons er_C (er_cons (er_op (er_op rfl er_C rfl rfl (dr_mod (by decide)) rfl) er_C rfl rfl rfl rfl) er_nil)) rfl (Nat.le_of_ble_eq_true rfl)) (end_post rfl ⟨_, rfl, .con trivial⟩)
      refine sr_nx (sr_if (er_tst (er_op rfl er_C rfl rfl rfl rfl)) rfl (fun _ => ?_) (fun _ => ?_))
      · have hA : ∀ g : List Sl, zOp subD (zOp modD (zVar 4) (zC (.int 21))) (zC (.int 10)) ([.dat (.str t), .dat (.int n), .dat (.lst CL), .own (.lst FL) false false, .dat (.int r), .un] ++ g) = some (.dat (.int (r % 21 - 10)), [.dat (.str t), .dat (.int n), .dat (.lst CL), .own (.lst FL) false false, .dat (.int r), .un] ++ g) := fun g => er_op (er_op rfl er_C rfl rfl (dr_mod (by decide)) rfl) er_C rfl rfl rfl rfl
        have hB : ∀ g : List Sl, zOp subD (zOp modD (zVar 4) (zC (.int 2000000000000001))) (zC (.int 1000000000000000)) ([.dat (.str t), .dat (.int n), .dat (.lst CL), .own (.lst FL) false false, .dat (.int r), .un] ++ g) = some (.dat (.int (r % 2000000000000001 - 1000000000000000)), [.dat (.str t), .dat (.int n), .dat (.lst CL), .own (.lst FL) false false, .dat (.int r), .un] ++ g) := fun g => er_op (er_op rfl er_C rfl rfl (dr_mod (by decide)) rfl) er_C rfl rfl rfl rfl
        have hI : ∀ g : List Sl, zOp divD (zOp modD (zOp divD (zCallS intU (zCons (zVar 1) (zNil))) (zC (.int 3))) (zC (.int 3))) (zC (.int 2)) ([.dat (.str t), .dat (.int n), .dat (.lst CL), .own (.lst FL) false false, .dat (.int r), .un] ++ g) = some (.dat (.int (n / 3 % 3 / 2)), [.dat (.str t), .dat (.int n), .dat (.lst CL), .own (.lst FL) false false, .dat (.int r), .un] ++ g) := fun g => er_op (er_op (er_op (er_callS (er_cons rfl er_nil) rfl rfl rfl) er_C rfl rfl (dr_div (by decide) (by decide)) rfl) er_C rfl rfl (dr_mod (by decide)) rfl) er_C rfl rfl (dr_div (by decide) (by decide)) rfl
        have hL : zLst (zCons (zOp subD (zOp modD (zVar 4) (zC (.int 21))) (zC (.int 10))) (zCons (zOp subD (zOp modD (zVar 4) (zC (.int 2000000000000001))) (zC (.int 1000000000000000))) (zNil))) [.dat (.str t), .dat (.int n), .dat (.lst CL), .own (.lst FL) false false, .dat (.int r), .un] = some (.bor 6, [.dat (.str t), .dat (.int n), .dat (.lst CL), .own (.lst FL) false false, .dat (.int r), .un] ++ [.own (.lst [.int (r % 21 - 10), .int (r % 2000000000000001 - 1000000000000000)]) false false]) := er_lst (er_cons (hA []) (er_cons (hB []) er_nil)) rfl (Nat.le_of_ble_eq_true rfl)
        have iv : ∃ v : Int, v.natAbs ≤ 10 ^ 15 ∧ ixD (.lst [.int (r % 21 - 10), .int (r % 2000000000000001 - 1000000000000000)]) (n / 3 % 3 / 2) = some (.int v) := by
          rcases (show n / 3 % 3 / 2 = 0 ∨ n / 3 % 3 / 2 = 1 by omega) with h | h <;> rw [h]
          · exact ⟨_, by omega, rfl⟩
          · exact ⟨_, by omega, rfl⟩
        obtain ⟨v, v1, v2⟩ := iv
        exact sr_retS (er_tup (er_cons er_C (er_cons (er_ix hL (hI _) rfl v2) er_nil)) rfl (Nat.le_of_ble_eq_true rfl)) (end_post rfl ⟨_, rfl, .con v1⟩)
      refine sr_nx (sr_if (er_tst (er_op rfl er_C rfl rfl rfl rfl)) rfl (fun _ => ?_) (fun _ => ?_))
      · exact sr_retS (er_tup (er_cons er_C (er_cons (er_call (ds := [.int r, .int (r % 5)]) (er_cons rfl (er_cons (er_op rfl er_C rfl rfl (dr_mod (by decide)) rfl) er_nil)) hs) er_nil)) rfl (Nat.le_of_ble_eq_true rfl)) (end_post rfl ⟨_, rfl, .con ⟨by omega, fun c h => by have := hsc c h; omega⟩⟩)
      refine sr_nx (sr_if (er_tst (er_op rfl er_C rfl rfl rfl rfl)) rfl (fun _ => ?_) (fun _ => ?_))
      · exact sr_retS (er_tup (er_cons er_C (er_cons er_C (er_cons (er_tup (er_cons er_C (er_cons (er_op (er_op rfl er_C rfl rfl (dr_mod (by decide)) rfl) er_C rfl rfl rfl rfl) er_nil)) rfl (Nat.le_of_ble_eq_true rfl)) er_nil))) rfl (Nat.le_of_ble_eq_true rfl)) (end_post rfl ⟨_, rfl, .un (by decide +kernel) (.con (show (r % 3652059 - 719162).natAbs ≤ 10 ^ 15 by omega))⟩)
      · exact sr_nx (sr_ret (er_tup (er_cons er_C (er_cons er_C (er_cons (er_tup (er_cons er_C (er_cons (er_op (er_op rfl er_C rfl rfl (dr_mod (by decide)) rfl) er_C rfl rfl rfl rfl) er_nil)) rfl (Nat.le_of_ble_eq_true rfl)) er_nil))) rfl (Nat.le_of_ble_eq_true rfl)) (end_post rfl ⟨_, rfl, .un (by decide +kernel) (.con (show (r % 400001 - 200000).natAbs ≤ 10 ^ 15 by omega))⟩))
  obtain ⟨fr, h, d, rfl, hd⟩ := P
  exact ⟨d, hd, h⟩
def ML : List D := match d__law_makers [] with
  | some (.new (.lst l)) => l
  | _ => []
theorem makers_ok : d__law_makers [] = some (.new (.lst ML)) := rfl
def anyS : List Nat := [97, 110, 121]
def rowOk : D → Bool
  | .tup [.str f, .str nm, .lst ks, .str k] => ((f == sUN && NU.contains nm && ks.length == 1) || (f == sBIN && NB.contains nm && ks.length == 2) || (f == sTER && NT.contains nm && ks.length == 3)) && ks.all (fun d => match d with
    | .str s => KS.contains s || s == anyS
    | _ => false) && KS.contains k
  | _ => false
def rowK (t : List Nat) : D → Bool
  | .tup [_, _, _, .str k] => k == t
  | _ => false
theorem rows_ok : ML.all rowOk = true := by decide +kernel
theorem rows_some : (KS.all fun t => decide (0 < (ML.filter (rowK t)).length)) = true := by decide +kernel
end Qk14
set_option Elab.async false
set_option linter.all false
set_option maxRecDepth 100000
set_option maxHeartbeats 4000000
namespace Qk14
open PySem PySem.Spec PyProof.Rows L2 Z
local macro_rules | `(tactic| walk_at "l") => `(tactic| first | (simp only [wipeG_nil, wipeG_cons, List.set_cons_succ, List.set_cons_zero, List.take_succ_cons, List.take_zero, List.take_nil, List.cons_append, List.nil_append, List.length_cons, List.length_nil, List.set_nil, List.getElem?_cons_zero, List.getElem?_cons_succ, Nat.zero_add, Nat.reduceAdd]; first | done | exact rfl) | exact rfl)
local macro_rules | `(tactic| walk_at "d") => `(tactic| first
  | with_reducible assumption
  | (with_reducible apply dr_div) <;> decide
  | (with_reducible apply dr_mod) <;> decide
  | (with_reducible apply dr_mulr); decide
  | (with_reducible apply dr_mull); decide
  | (with_reducible apply dr_divB) <;> omega
  | (with_reducible apply dr_mulrB) <;> omega
  | (with_reducible apply dr_mullB) <;> omega
  | (with_reducible apply dr_mulC) <;> omega
  | (with_reducible apply dr_mod) <;> omega
  | (with_reducible refine isi_of ?_ ?_); (exact rfl); (first | exact kb_int_int | exact kb_int_bool | exact kb_bool_bool | exact kb_bool_int | exact kb_str_int | exact kb_str_bool | exact kb_str_str | exact kb_int_str | exact kb_bool_str | exact kb_non_int | exact kb_non_bool | exact kb_non_str | exact kb_list_list | exact kb_tuple_tuple | exact kb_list_tuple | exact kb_tuple_list)
  | with_reducible exact dr_abs
  | (with_reducible exact dr_neL _ _)
  | (simp only [Cn.d]; with_reducible assumption)
  | (simp only [Cn.d]; with_reducible exact dr_neL _ _)
  | with_reducible exact in_ints _ _
  | (simp only [Cn.d]; with_reducible exact in_ints _ _)
  | ((with_reducible apply dr_cat); (try simp only [List.length_append, List.length_cons, List.length_nil]); omega)
  | with_reducible exact dr_eqI
  | with_reducible exact dr_eqB
  | with_reducible exact dr_neB
  | with_reducible exact dr_eqS
  | with_reducible exact dr_neI
  | with_reducible exact dr_neS
  | exact rfl)
local macro_rules | `(tactic| walk_at "c") => `(tactic| first | with_reducible assumption | (simp only [Cn.d]; with_reducible assumption))
local macro_rules | `(tactic| walk_at "e") => `(tactic| first
  | with_reducible exact er_C
  | with_reducible exact er_nil
  | (with_reducible apply er_varD); exact rfl
  | (with_reducible apply er_varO); exact rfl
  | (with_reducible apply er_varF); exact rfl
  | (with_reducible apply er_op); walk_at "e"; walk_at "e"; exact rfl; exact rfl; walk_at "d"; exact rfl
  | (with_reducible apply er_chain); walk_at "e"; walk_at "e"; exact rfl; exact rfl; walk_at "d"; (intro _h; walk_at "e"); exact rfl; walk_at "d"
  | (with_reducible apply er_slS); walk_at "e"; walk_at "o"; walk_at "o"; exact rfl; walk_at "z"
  | (with_reducible apply er_slL); walk_at "e"; walk_at "o"; walk_at "o"; exact rfl
  | (with_reducible apply er_list); walk_at "e"; exact rfl; exact rfl
  | (with_reducible apply er_tupL); walk_at "e"; exact rfl
  | (with_reducible apply er_un); walk_at "e"; exact rfl; exact rfl; exact rfl
  | (with_reducible apply er_tst); walk_at "e"
  | (with_reducible apply er_tru); walk_at "e"; exact rfl; exact rfl
  | (with_reducible apply er_andT); walk_at "e"; (intro _h; walk_at "e")
  | (with_reducible apply er_orT); walk_at "e"; (intro _h; walk_at "e")
  | (with_reducible apply er_andTT); walk_at "e"; exact rfl; walk_at "e"
  | (with_reducible apply er_orTF); walk_at "e"; exact rfl; walk_at "e"
  | (with_reducible apply er_notT); walk_at "e"
  | (with_reducible apply er_andV); walk_at "e"; (intro _h; walk_at "e")
  | (with_reducible apply er_orV); walk_at "e"; (intro _h; walk_at "e")
  | (with_reducible apply er_notV); walk_at "e"
  | (with_reducible apply er_andVT); walk_at "e"; exact rfl; walk_at "e"
  | (with_reducible apply er_orVF); walk_at "e"; exact rfl; walk_at "e"
  | (with_reducible apply er_ix); walk_at "e"; walk_at "e"; exact rfl; walk_at "x"
  | (with_reducible apply er_callS); walk_at "e"; exact rfl; walk_at "d"; exact rfl
  | (with_reducible apply er_cons); walk_at "e"; walk_at "e"
  | (with_reducible apply er_callG); walk_at "e"; exact rfl; exact rfl; walk_at "c"; exact rfl
  | (with_reducible apply er_callH); walk_at "e"; exact rfl; exact rfl; walk_at "c"; exact rfl
  | (with_reducible apply er_callV); walk_at "e"; exact rfl; walk_at "c"; exact rfl
  | (with_reducible apply er_callGF); walk_at "e"; exact rfl; exact rfl; walk_at "c"; exact rfl
  | (with_reducible apply er_callHF); walk_at "e"; exact rfl; exact rfl; walk_at "c"; exact rfl
  | (with_reducible apply er_callM); walk_at "e"; exact rfl; exact rfl; exact rfl; exact rfl; exact rfl; walk_at "c"; exact rfl
  | (with_reducible apply er_catL); walk_at "e"; walk_at "e"; exact rfl; exact rfl; walk_at "z"
  | (with_reducible apply er_mt); walk_at "e"; exact rfl; exact rfl; walk_at "e"; exact rfl; exact rfl; walk_at "m"; exact rfl
  | (with_reducible apply er_tup); walk_at "e"; exact rfl; walk_at "z" 
  | (with_reducible apply er_lst); walk_at "e"; exact rfl; walk_at "z")
local macro_rules | `(tactic| walk_at "o") => `(tactic| first | exact er_zoN | ((with_reducible apply er_zoS); walk_at "e"))
local macro_rules | `(tactic| walk_at "x") => `(tactic| first | with_reducible assumption | (simp only [Cn.d]; with_reducible assumption) | exact rfl)
local macro_rules | `(tactic| walk_at "m") => `(tactic| first | with_reducible assumption | (simp only [Cn.d]; with_reducible assumption) | exact rfl)
local macro_rules | `(tactic| walk_at "st") => `(tactic| first
  | ((with_reducible apply set_dat); (walk_at "e"); (exact rfl); walk_at "l")
  | ((with_reducible apply set_own); (walk_at "e"); (exact Nat.le_of_ble_eq_true rfl); (exact rfl); (exact rfl); walk_at "l")
  | ((with_reducible apply asg_run); (walk_at "e"); (exact rfl); walk_at "l")
  | ((with_reducible apply aug_run); (exact rfl); (exact rfl); (walk_at "e"); (exact rfl); (walk_at "d"); (exact rfl); (exact rfl); walk_at "l")
  | ((with_reducible apply sto_run); (walk_at "e"); (walk_at "e"); (walk_at "e"); (exact rfl); (walk_at "x"); walk_at "l")
  | ((with_reducible apply app_run); (walk_at "e"); (exact rfl); (walk_at "e"); (exact rfl); (exact rfl); (walk_at "z"); walk_at "l"))
local macro_rules | `(tactic| walk_at "z") => `(tactic| first | assumption | exact Nat.le_of_ble_eq_true rfl | (simp; omega))
local macro_rules | `(tactic| walk_at "s") => `(tactic| first
  | with_reducible apply sr_nx
  | with_reducible apply sr_assoc
  | with_reducible apply ap_fg
  | ((with_reducible apply fgK_nx); (exact rfl); (walk_at "l"); skip)
  | ((with_reducible apply fgK_ct); (exact rfl); (walk_at "l"); skip)
  | ((with_reducible apply fgK_bk); (exact rfl); (walk_at "l"); skip)
  | with_reducible apply fgK_ret
  | with_reducible apply sr_bk1
  | with_reducible apply sr_ct1
  | with_reducible apply sr_nx1
  | with_reducible apply sr_ct
  | with_reducible apply sr_bk
  | (with_reducible apply sr_retS); (walk_at "e"); skip
  | (with_reducible apply sr_ret); (walk_at "e"); skip
  | (with_reducible apply sr_if); (walk_at "e"); (walk_at "l")
  | (with_reducible apply sr_if1); (walk_at "e"); (walk_at "l")
  | (with_reducible apply seq_nx); (walk_at "st")
  | (with_reducible apply one_nx); (walk_at "st"))
local macro_rules | `(tactic| walk_at "r") => `(tactic| repeat' (first | (intro _) | walk_at "s"))
local macro_rules | `(tactic| walk_at "k") => `(tactic| (intro q; (try simp only [decide_eq_true_eq, decide_eq_false_iff_not, beq_iff_eq, beq_eq_false_iff_ne, ne_eq, Bool.not_eq_true', Bool.not_eq_false', Bool.and_eq_true, Bool.or_eq_true, Bool.and_eq_false_iff, Bool.or_eq_false_iff, Int.not_lt, Int.not_le, List.cons.injEq, and_true, reduceCtorEq, beq_self_eq_true, Bool.not_true, Bool.not_false, Bool.or_false, Bool.false_or, Bool.or_true, Bool.true_or, Bool.and_false, Bool.false_and, Bool.and_true, Bool.true_and, not_true_eq_false, Bool.false_eq_true] at q) <;> (try (exfalso; first | (cases q; done) | omega | contradiction))))
local macro_rules | `(tactic| walk_at "w") => `(tactic| repeat' (first | (walk_at "k") | walk_at "s"))
def GK (t : List Nat) (n dep : Int) (CL : List D) (r : Int) (a5 : Sl) (row : D) (o : List Nat) (PS : List D) (a9 a13 : Sl) : G := [.dat (.str t), .dat (.int n), .dat (.int dep), .dat (.lst CL), .dat (.int r), a5, .dat row, .dat (.str o), .own (.lst PS) false false, a9, .un, .un, .un, a13]
theorem kturn {F : List D → Option FR} {kk : Nat} {t o : List Nat} {n dep r : Int} {CL : List D} {a5 : Sl} {row : D} {ks PS : List D} (hr : ixD row 2 = some (.lst ks)) (ho : o ∈ KS) (hF : ∀ s ∈ KS, ∀ m : Int, ∃ d, Kx kk d ∧ F [.str s, .int m, .int (dep - 1), .lst CL] = some (.dat d)) (i : Nat) (hi : i < 3) (s : List Nat) (hs : ks[i]? = some (.str s)) (hk : s ∈ KS ∨ s = anyS) (hz : PS.length ≤ 10) :
    ∃ d, Kx kk d ∧ lb__law_kinded_1 F (GK t n dep CL r a5 row o PS (.dat (.int (0 + (i : Int)))) .un) = some (.nx, GK t n dep CL r a5 row o (PS ++ [d]) .un .un) := by
  rw [Int.zero_add]
  have ix : ixD (.lst ks) (i : Int) = some (.str s) := atI_nat hs
  obtain ⟨w, hw, ew⟩ : ∃ w : List Nat, w ∈ KS ∧ w = if (s == anyS) = true then o else s := by
    by_cases h : (s == anyS) = true
    · exact ⟨o, ho, by rw [if_pos h]⟩
    · refine ⟨s, ?_, by rw [if_neg h]⟩
      rcases hk with hk | hk
      · exact hk
      · exact absurd (by rw [hk]; exact beq_self_eq_true _) h
  obtain ⟨c, hc⟩ : ∃ c : Int, zOp divD (zVar 4) (zIx (zLst (zCons (zC (.int 16)) (zCons (zC (.int 512)) (zCons (zC (.int 16384)) (zNil))))) (zVar 9)) (GK t n dep CL r a5 row o PS (.dat (.int (i : Int))) (.dat (.str w))) = some (.dat (.int c), GK t n dep CL r a5 row o PS (.dat (.int (i : Int))) (.dat (.str w)) ++ [.own (.lst [.int 16, .int 512, .int 16384]) false false]) := by
    have hL : zLst (zCons (zC (.int 16)) (zCons (zC (.int 512)) (zCons (zC (.int 16384)) (zNil)))) (GK t n dep CL r a5 row o PS (.dat (.int (i : Int))) (.dat (.str w))) = some (.bor 14, GK t n dep CL r a5 row o PS (.dat (.int (i : Int))) (.dat (.str w)) ++ [.own (.lst [.int 16, .int 512, .int 16384]) false false]) := er_lst (er_cons er_C (er_cons er_C (er_cons er_C er_nil))) rfl (Nat.le_of_ble_eq_true rfl)
    rcases (show i = 0 ∨ i = 1 ∨ i = 2 by omega) with rfl | rfl | rfl
    · exact ⟨_, er_op rfl (er_ix hL rfl rfl rfl) rfl rfl (dr_div (by decide) (by decide)) rfl⟩
    · exact ⟨_, er_op rfl (er_ix hL rfl rfl rfl) rfl rfl (dr_div (by decide) (by decide)) rfl⟩
    · exact ⟨_, er_op rfl (er_ix hL rfl rfl rfl) rfl rfl (dr_div (by decide) (by decide)) rfl⟩
  obtain ⟨d, kd, ed⟩ := hF w hw (c + 5 * (i : Int) + 1)
  refine ⟨d, kd, ?_⟩
  have m5 : mulD (.int 5) (.int (i : Int)) = some (.int (5 * (i : Int))) := dr_mull (by decide)
  have fin : zApp 14 (zVar 8) (zCall F (zCons (zVar 13) (zCons (zOp addS (zOp addS (zOp divD (zVar 4) (zIx (zLst (zCons (zC (.int 16)) (zCons (zC (.int 512)) (zCons (zC (.int 16384)) (zNil))))) (zVar 9))) (zOp mulD (zC (.int 5)) (zVar 9))) (zC (.int 1))) (zCons (zOp subD (zVar 2) (zC (.int 1))) (zCons (zVar 3) (zNil)))))) (GK t n dep CL r a5 row o PS (.dat (.int (i : Int))) (.dat (.str w))) = some (.nx, GK t n dep CL r a5 row o (PS ++ [d]) (.dat (.int (i : Int))) (.dat (.str w))) := by
    have call := er_call (f := F) (mr := zCons (zVar 13) (zCons (zOp addS (zOp addS (zOp divD (zVar 4) (zIx (zLst (zCons (zC (.int 16)) (zCons (zC (.int 512)) (zCons (zC (.int 16384)) (zNil))))) (zVar 9))) (zOp mulD (zC (.int 5)) (zVar 9))) (zC (.int 1))) (zCons (zOp subD (zVar 2) (zC (.int 1))) (zCons (zVar 3) (zNil))))) (g := GK t n dep CL r a5 row o PS (.dat (.int (i : Int))) (.dat (.str w))) (ds := [.str w, .int (c + 5 * (i : Int) + 1), .int (dep - 1), .lst CL]) (er_cons rfl (er_cons (er_op (er_op hc (er_op er_C rfl rfl rfl m5 rfl) rfl rfl rfl rfl) er_C rfl rfl rfl rfl) (er_cons (er_op rfl er_C rfl rfl rfl rfl) (er_cons rfl er_nil)))) ed
    exact app_run (j := 8) (p := false) (p0 := false) (l0 := false) (ds0 := PS) (ds := PS) (d := d) (r := .dat d) (g1 := GK t n dep CL r a5 row o PS (.dat (.int (i : Int))) (.dat (.str w))) rfl rfl call rfl rfl (Nat.lt_of_le_of_lt hz (by decide)) rfl
  unfold lb__law_kinded_1
  refine fg_nx (g1 := GK t n dep CL r a5 row o (PS ++ [d]) (.dat (.int (i : Int))) (.dat (.str w))) ?_ rfl rfl
  refine of_ap ?_
  refine seq_nx (g1 := GK t n dep CL r a5 row o PS (.dat (.int (i : Int))) (.dat (.str s))) (set_dat (er_ix (er_ix rfl er_C rfl hr) rfl rfl ix) rfl rfl) ?_
  have ta : zTst (zOp eqD (zVar 13) (zC (.str [97, 110, 121]))) (GK t n dep CL r a5 row o PS (.dat (.int (i : Int))) (.dat (.str s))) = some (s == anyS, GK t n dep CL r a5 row o PS (.dat (.int (i : Int))) (.dat (.str s))) := er_tst (er_op rfl er_C rfl rfl (eqS s anyS) rfl)
  refine sr_if ta rfl (fun q => ?_) (fun q => ?_)
  · rw [if_pos q] at ew
    subst ew
    exact seq_nx (g1 := GK t n dep CL r a5 row w PS (.dat (.int (i : Int))) (.dat (.str w))) (set_dat rfl rfl rfl) (one_nx fin rfl)
  · rw [if_neg (by rw [q]; exact Bool.false_ne_true)] at ew
    subst ew
    exact sr_nx (one_nx fin rfl)
theorem kloop {F : List D → Option FR} {kk : Nat} {t o : List Nat} {n dep r : Int} {CL : List D} {a5 : Sl} {row : D} {ks : List D} (hr : ixD row 2 = some (.lst ks)) (ho : o ∈ KS) (hF : ∀ s ∈ KS, ∀ m : Int, ∃ d, Kx kk d ∧ F [.str s, .int m, .int (dep - 1), .lst CL] = some (.dat d)) (hl : ks.length ≤ 3) (hk : ∀ x ∈ ks, ∃ s, x = .str s ∧ (s ∈ KS ∨ s = anyS)) :
    ∃ PS, forL (gN 9) (lb__law_kinded_1 F) (rgD 0 ks.length) (GK t n dep CL r a5 row o [] .un .un) = some (.nx, GK t n dep CL r a5 row o PS .un .un) ∧ PS.length = ks.length ∧ ∀ d ∈ PS, Kx kk d := by
  obtain ⟨g2, e2, PS, rfl, h1, h2⟩ := forL_inv (st := lb__law_kinded_1 F) (tg := gN 9) (L := rgD 0 ks.length) (fun i g => ∃ PS, g = GK t n dep CL r a5 row o PS .un .un ∧ PS.length = i ∧ ∀ d ∈ PS, Kx kk d) 0 (GK t n dep CL r a5 row o [] .un .un) ⟨[], rfl, rfl, fun d h => by cases h⟩ (fun i y g hy hg => by
    obtain ⟨hi, rfl⟩ := rgD_at hy
    obtain ⟨PS, rfl, p1, p2⟩ := hg
    obtain ⟨s, es, hs⟩ := hk ks[i] (List.getElem_mem hi)
    obtain ⟨d, kd, e⟩ := kturn (t := t) (n := n) (r := r) (a5 := a5) (PS := PS) hr ho hF i (by omega) s (by rw [List.getElem?_eq_getElem hi, es]) hs (by omega)
    refine ⟨_, _, rfl, .inl e, PS ++ [d], rfl, by rw [List.length_append, List.length_singleton]; omega, fun x hx => ?_⟩
    rcases List.mem_append.mp hx with h | h
    · exact p2 x h
    · rw [List.mem_singleton.mp h]; exact kd)
  exact ⟨PS, e2, by rw [h1, rgD_len]; omega, h2⟩
end Qk14
set_option Elab.async false
set_option linter.all false
set_option maxRecDepth 100000
set_option maxHeartbeats 4000000
namespace Qk14
open PySem PySem.Spec PyProof.Rows L2 Z
local macro_rules | `(tactic| walk_at "l") => `(tactic| first | (simp only [wipeG_nil, wipeG_cons, List.set_cons_succ, List.set_cons_zero, List.take_succ_cons, List.take_zero, List.take_nil, List.cons_append, List.nil_append, List.length_cons, List.length_nil, List.set_nil, List.getElem?_cons_zero, List.getElem?_cons_succ, Nat.zero_add, Nat.reduceAdd]; first | done | exact rfl) | exact rfl)
local macro_rules | `(tactic| walk_at "d") => `(tactic| first
  | with_reducible assumption
  | (with_reducible apply dr_div) <;> decide
  | (with_reducible apply dr_mod) <;> decide
  | (with_reducible apply dr_mulr); decide
  | (with_reducible apply dr_mull); decide
  | (with_reducible apply dr_divB) <;> omega
  | (with_reducible apply dr_mulrB) <;> omega
  | (with_reducible apply dr_mullB) <;> omega
  | (with_reducible apply dr_mulC) <;> omega
  | (with_reducible apply dr_mod) <;> omega
  | (with_reducible refine isi_of ?_ ?_); (exact rfl); (first | exact kb_int_int | exact kb_int_bool | exact kb_bool_bool | exact kb_bool_int | exact kb_str_int | exact kb_str_bool | exact kb_str_str | exact kb_int_str | exact kb_bool_str | exact kb_non_int | exact kb_non_bool | exact kb_non_str | exact kb_list_list | exact kb_tuple_tuple | exact kb_list_tuple | exact kb_tuple_list)
  | with_reducible exact dr_abs
  | (with_reducible exact dr_neL _ _)
  | (simp only [Cn.d]; with_reducible assumption)
  | (simp only [Cn.d]; with_reducible exact dr_neL _ _)
  | with_reducible exact in_ints _ _
  | (simp only [Cn.d]; with_reducible exact in_ints _ _)
  | ((with_reducible apply dr_cat); (try simp only [List.length_append, List.length_cons, List.length_nil]); omega)
  | with_reducible exact dr_eqI
  | with_reducible exact dr_eqB
  | with_reducible exact dr_neB
  | with_reducible exact dr_eqS
  | with_reducible exact dr_neI
  | with_reducible exact dr_neS
  | exact rfl)
local macro_rules | `(tactic| walk_at "c") => `(tactic| first | with_reducible assumption | (simp only [Cn.d]; with_reducible assumption))
local macro_rules | `(tactic| walk_at "e") => `(tactic| first
  | with_reducible exact er_C
  | with_reducible exact er_nil
  | (with_reducible apply er_varD); exact rfl
  | (with_reducible apply er_varO); exact rfl
  | (with_reducible apply er_varF); exact rfl
  | (with_reducible apply er_op); walk_at "e"; walk_at "e"; exact rfl; exact rfl; walk_at "d"; exact rfl
  | (with_reducible apply er_chain); walk_at "e"; walk_at "e"; exact rfl; exact rfl; walk_at "d"; (intro _h; walk_at "e"); exact rfl; walk_at "d"
  | (with_reducible apply er_slS); walk_at "e"; walk_at "o"; walk_at "o"; exact rfl; walk_at "z"
  | (with_reducible apply er_slL); walk_at "e"; walk_at "o"; walk_at "o"; exact rfl
  | (with_reducible apply er_list); walk_at "e"; exact rfl; exact rfl
  | (with_reducible apply er_tupL); walk_at "e"; exact rfl
  | (with_reducible apply er_un); walk_at "e"; exact rfl; exact rfl; exact rfl
  | (with_reducible apply er_tst); walk_at "e"
  | (with_reducible apply er_tru); walk_at "e"; exact rfl; exact rfl
  | (with_reducible apply er_andT); walk_at "e"; (intro _h; walk_at "e")
  | (with_reducible apply er_orT); walk_at "e"; (intro _h; walk_at "e")
  | (with_reducible apply er_andTT); walk_at "e"; exact rfl; walk_at "e"
  | (with_reducible apply er_orTF); walk_at "e"; exact rfl; walk_at "e"
  | (with_reducible apply er_notT); walk_at "e"
  | (with_reducible apply er_andV); walk_at "e"; (intro _h; walk_at "e")
  | (with_reducible apply er_orV); walk_at "e"; (intro _h; walk_at "e")
  | (with_reducible apply er_notV); walk_at "e"
  | (with_reducible apply er_andVT); walk_at "e"; exact rfl; walk_at "e"
  | (with_reducible apply er_orVF); walk_at "e"; exact rfl; walk_at "e"
  | (with_reducible apply er_ix); walk_at "e"; walk_at "e"; exact rfl; walk_at "x"
  | (with_reducible apply er_callS); walk_at "e"; exact rfl; walk_at "d"; exact rfl
  | (with_reducible apply er_cons); walk_at "e"; walk_at "e"
  | (with_reducible apply er_callG); walk_at "e"; exact rfl; exact rfl; walk_at "c"; exact rfl
  | (with_reducible apply er_callH); walk_at "e"; exact rfl; exact rfl; walk_at "c"; exact rfl
  | (with_reducible apply er_callV); walk_at "e"; exact rfl; walk_at "c"; exact rfl
  | (with_reducible apply er_callGF); walk_at "e"; exact rfl; exact rfl; walk_at "c"; exact rfl
  | (with_reducible apply er_callHF); walk_at "e"; exact rfl; exact rfl; walk_at "c"; exact rfl
  | (with_reducible apply er_callM); walk_at "e"; exact rfl; exact rfl; exact rfl; exact rfl; exact rfl; walk_at "c"; exact rfl
  | (with_reducible apply er_catL); walk_at "e"; walk_at "e"; exact rfl; exact rfl; walk_at "z"
  | (with_reducible apply er_mt); walk_at "e"; exact rfl; exact rfl; walk_at "e"; exact rfl; exact rfl; walk_at "m"; exact rfl
  | (with_reducible apply er_tup); walk_at "e"; exact rfl; walk_at "z" 
  | (with_reducible apply er_lst); walk_at "e"; exact rfl; walk_at "z")
local macro_rules | `(tactic| walk_at "o") => `(tactic| first | exact er_zoN | ((with_reducible apply er_zoS); walk_at "e"))
local macro_rules | `(tactic| walk_at "x") => `(tactic| first | with_reducible assumption | (simp only [Cn.d]; with_reducible assumption) | exact rfl)
local macro_rules | `(tactic| walk_at "m") => `(tactic| first | with_reducible assumption | (simp only [Cn.d]; with_reducible assumption) | exact rfl)
local macro_rules | `(tactic| walk_at "st") => `(tactic| first
  | ((with_reducible apply set_dat); (walk_at "e"); (exact rfl); walk_at "l")
  | ((with_reducible apply set_own); (walk_at "e"); (exact Nat.le_of_ble_eq_true rfl); (exact rfl); (exact rfl); walk_at "l")
  | ((with_reducible apply asg_run); (walk_at "e"); (exact rfl); walk_at "l")
  | ((with_reducible apply aug_run); (exact rfl); (exact rfl); (walk_at "e"); (exact rfl); (walk_at "d"); (exact rfl); (exact rfl); walk_at "l")
  | ((with_reducible apply sto_run); (walk_at "e"); (walk_at "e"); (walk_at "e"); (exact rfl); (walk_at "x"); walk_at "l")
  | ((with_reducible apply app_run); (walk_at "e"); (exact rfl); (walk_at "e"); (exact rfl); (exact rfl); (walk_at "z"); walk_at "l"))
local macro_rules | `(tactic| walk_at "z") => `(tactic| first | assumption | exact Nat.le_of_ble_eq_true rfl | (simp; omega))
local macro_rules | `(tactic| walk_at "s") => `(tactic| first
  | with_reducible apply sr_nx
  | with_reducible apply sr_assoc
  | with_reducible apply ap_fg
  | ((with_reducible apply fgK_nx); (exact rfl); (walk_at "l"); skip)
  | ((with_reducible apply fgK_ct); (exact rfl); (walk_at "l"); skip)
  | ((with_reducible apply fgK_bk); (exact rfl); (walk_at "l"); skip)
  | with_reducible apply fgK_ret
  | with_reducible apply sr_bk1
  | with_reducible apply sr_ct1
  | with_reducible apply sr_nx1
  | with_reducible apply sr_ct
  | with_reducible apply sr_bk
  | (with_reducible apply sr_retS); (walk_at "e"); skip
  | (with_reducible apply sr_ret); (walk_at "e"); skip
  | (with_reducible apply sr_if); (walk_at "e"); (walk_at "l")
  | (with_reducible apply sr_if1); (walk_at "e"); (walk_at "l")
  | (with_reducible apply seq_nx); (walk_at "st")
  | (with_reducible apply one_nx); (walk_at "st"))
local macro_rules | `(tactic| walk_at "r") => `(tactic| repeat' (first | (intro _) | walk_at "s"))
local macro_rules | `(tactic| walk_at "k") => `(tactic| (intro q; (try simp only [decide_eq_true_eq, decide_eq_false_iff_not, beq_iff_eq, beq_eq_false_iff_ne, ne_eq, Bool.not_eq_true', Bool.not_eq_false', Bool.and_eq_true, Bool.or_eq_true, Bool.and_eq_false_iff, Bool.or_eq_false_iff, Int.not_lt, Int.not_le, List.cons.injEq, and_true, reduceCtorEq, beq_self_eq_true, Bool.not_true, Bool.not_false, Bool.or_false, Bool.false_or, Bool.or_true, Bool.true_or, Bool.and_false, Bool.false_and, Bool.and_true, Bool.true_and, not_true_eq_false, Bool.false_eq_true] at q) <;> (try (exfalso; first | (cases q; done) | omega | contradiction))))
local macro_rules | `(tactic| walk_at "w") => `(tactic| repeat' (first | (walk_at "k") | walk_at "s"))
theorem row_inv {row : D} (h : rowOk row = true) : ∃ f nm ks k, row = .tup [.str f, .str nm, .lst ks, .str k] ∧ ks.length ≤ 3 ∧ (∀ x ∈ ks, ∃ s, x = .str s ∧ (s ∈ KS ∨ s = anyS)) ∧ ∀ (kk : Nat) (PS : List D), PS.length = ks.length → (∀ d ∈ PS, Kx kk d) → Kx (kk + 1) (.tup (.str f :: .str nm :: PS)) := by
  unfold rowOk at h
  split at h
  · rename_i f nm ks k
    rw [Bool.and_eq_true, Bool.and_eq_true] at h
    obtain ⟨⟨h1, h2⟩, h3⟩ := h
    rw [List.all_eq_true] at h2
    refine ⟨f, nm, ks, k, rfl, ?_, fun x hx => ?_, fun kk PS hp hd => ?_⟩
    · simp only [Bool.or_eq_true, Bool.and_eq_true, beq_iff_eq] at h1
      omega
    · have q := h2 x hx
      split at q
      · rename_i s
        rw [Bool.or_eq_true] at q
        rcases q with q | q
        · exact ⟨s, rfl, .inl (List.contains_iff_mem.mp q)⟩
        · exact ⟨s, rfl, .inr (eq_of_beq q)⟩
      · cases q
    · rw [Bool.or_eq_true, Bool.or_eq_true] at h1
      rcases h1 with (h1 | h1) | h1 <;> rw [Bool.and_eq_true, Bool.and_eq_true] at h1 <;> obtain ⟨⟨e1, e2⟩, e3⟩ := h1 <;> have e1 := eq_of_beq e1 <;> have e3 := eq_of_beq e3 <;> have e2 := List.contains_iff_mem.mp e2 <;> subst e1 <;> rw [e3] at hp
      · match PS, hp with
        | [a], _ => exact .un e2 (hd a (by simp))
      · match PS, hp with
        | [a, b], _ => exact .bin e2 (hd a (by simp)) (hd b (by simp))
      · match PS, hp with
        | [a, b, c], _ => exact .ter e2 (hd a (by simp)) (hd b (by simp)) (hd c (by simp))
  · cases h
theorem rowK_eq {row : D} (h : rowOk row = true) (t : List Nat) : ∃ k, ixD row 3 = some (.str k) ∧ rowK t row = (k == t) := by
  obtain ⟨f, nm, ks, k, rfl, _⟩ := row_inv h
  exact ⟨k, rfl, rfl⟩
theorem three_ix (x : Int) : ∃ nm ∈ NB, ixD (.lst [.str [99, 111, 97, 108, 101, 115, 99, 101], .str [108, 101, 97, 115, 116], .str [103, 114, 101, 97, 116, 101, 115, 116]]) (x % 3) = some (.str nm) := by
  rcases (show x % 3 = 0 ∨ x % 3 = 1 ∨ x % 3 = 2 by omega) with h | h | h <;> rw [h]
  · exact ⟨_, by decide +kernel, rfl⟩
  · exact ⟨_, by decide +kernel, rfl⟩
  · exact ⟨_, by decide +kernel, rfl⟩
theorem kinded_ok {CL : List D} (hl : CL.length = 5) (hC : ∀ d ∈ CL, ∃ u ∈ KS, ∃ b, d = .tup [.str u, .bl b]) : ∀ (k : Nat), k ≤ 10 → ∀ t ∈ KS, ∀ (n : Int) (q : Nat), k + 1 ≤ q → ∃ d, Kx (k + 1) d ∧ d__law_kinded q [.str t, .int n, .int k, .lst CL] = some (.dat d) := by
  have leaf : ∀ (F : List D → Option FR) (k : Nat) (t : List Nat) (n : Int), t ∈ KS → (((k : Int) == 0) || decide (n % 12 < 2)) = true → ∃ d, Kx (k + 1) d ∧ runP 14 4 (b__law_kinded F) [.str t, .int n, .int k, .lst CL] = some (.dat d) := fun F k t n ht hc => by
    obtain ⟨d, kd, e⟩ := leaf_ok ht (n / 12) hl hC
    refine ⟨d, kd.up (by omega), ?_⟩
    unfold b__law_kinded
    refine runP_ap (g := [.dat (.str t), .dat (.int n), .dat (.int k), .dat (.lst CL), .un, .un, .un, .un, .un, .un, .un, .un, .un, .un]) rfl rfl ?_
    refine seq_nx (g1 := [.dat (.str t), .dat (.int n), .dat (.int k), .dat (.lst CL), .dat (.int (n / 12)), .un, .un, .un, .un, .un, .un, .un, .un, .un]) (set_dat (er_op (er_callS (er_cons rfl er_nil) rfl rfl rfl) er_C rfl rfl (dr_div (by decide) (by decide)) rfl) rfl rfl) ?_
    have tt : zOrT (zTst (zOp eqD (zVar 2) (zC (.int 0)))) (zTst (zOp ltX (zOp modD (zCallS intU (zCons (zVar 1) (zNil))) (zC (.int 12))) (zC (.int 2)))) [.dat (.str t), .dat (.int n), .dat (.int k), .dat (.lst CL), .dat (.int (n / 12)), .un, .un, .un, .un, .un, .un, .un, .un, .un] = some (((k : Int) == 0) || decide (n % 12 < 2), [.dat (.str t), .dat (.int n), .dat (.int k), .dat (.lst CL), .dat (.int (n / 12)), .un, .un, .un, .un, .un, .un, .un, .un, .un]) := er_orT (er_tst (er_op rfl er_C rfl rfl rfl rfl)) (fun _ => er_tst (er_op (er_op (er_callS (er_cons rfl er_nil) rfl rfl rfl) er_C rfl rfl (dr_mod (by decide)) rfl) er_C rfl rfl rfl rfl))
    refine sr_if tt rfl (fun _ => ?_) (fun q => by rw [hc] at q; cases q)
    exact sr_retS (er_call (ds := [.str t, .int (n / 12), .lst CL]) (er_cons rfl (er_cons rfl (er_cons rfl er_nil))) e) rfl
  intro k
  induction k with
  | zero =>
    intro _ t ht n q hq
    obtain ⟨p, rfl⟩ : ∃ p, q = p + 1 := ⟨q - 1, by omega⟩
    exact leaf (d__law_kinded p) 0 t n ht (by simp)
  | succ k ih =>
    intro hk10 t ht n q hq
    obtain ⟨p, rfl⟩ : ∃ p, q = p + 1 := ⟨q - 1, by omega⟩
    by_cases hc : ((((k + 1 : Nat) : Int) == 0) || decide (n % 12 < 2)) = true
    · exact leaf (d__law_kinded p) (k + 1) t n ht hc
    · have hF : ∀ s ∈ KS, ∀ m : Int, ∃ d, Kx (k + 1) d ∧ d__law_kinded p [.str s, .int m, .int (((k + 1 : Nat) : Int) - 1), .lst CL] = some (.dat d) := fun s hs m => by
        obtain ⟨d, kd, e⟩ := ih (by omega) s hs m p (by omega)
        refine ⟨d, kd, ?_⟩
        rw [show (((k + 1 : Nat) : Int) - 1) = (k : Int) by omega]
        exact e
      have hc : ((((k + 1 : Nat) : Int) == 0) || decide (n % 12 < 2)) = false := by
        cases h : ((((k + 1 : Nat) : Int) == 0) || decide (n % 12 < 2)) with
        | true => exact absurd h hc
        | false => rfl
      have P : ∃ fr, runP 14 4 (b__law_kinded (d__law_kinded p)) [.str t, .int n, .int (k + 1 : Nat), .lst CL] = some fr ∧ ∃ d, fr = .dat d ∧ Kx (k + 2) d := by
        obtain ⟨d1, k1, e1⟩ := hF tB (by decide) (n / 12 / 16 + 3)
        obtain ⟨d2, k2, e2⟩ := hF t ht (n / 12 / 4096 + 19)
        obtain ⟨d3, k3, e3⟩ := hF t ht (n / 12 / 256 + 7)
        obtain ⟨d4, k4, e4⟩ := hF t ht (n / 12 / 16 + 3)
        obtain ⟨nb, mb, eb⟩ := three_ix (n / 12)
        obtain ⟨o, mo, eo⟩ := ks_ix (n / 12 / 64)
        have rs := rows_some
        rw [List.all_eq_true] at rs
        have rs := of_decide_eq_true (rs t ht)
        obtain ⟨row, x1, x2⟩ := atI_lt (xs := ML.filter (rowK t)) (Int.emod_nonneg (n / 12) (show ((ML.filter (rowK t)).length : Int) ≠ 0 by omega)) (Int.emod_lt_of_pos (n / 12) (show (0 : Int) < (ML.filter (rowK t)).length by omega))
        have ra := rows_ok
        rw [List.all_eq_true] at ra
        have rok := ra row (List.mem_filter.mp x2).1
        obtain ⟨f, nm, ks, kk, er, r1, r2, r3⟩ := row_inv rok
        have i0 : ixD row 0 = some (.str f) := by rw [er]; rfl
        have i1 : ixD row 1 = some (.str nm) := by rw [er]; rfl
        have i2 : ixD row 2 = some (.lst ks) := by rw [er]; rfl
        have mlz : ML.length ≤ sizeLine := by decide +kernel
        generalize d__law_kinded p = F at *
        generalize ((k + 1 : Nat) : Int) = mm at *
        have lk : ∀ y ∈ ML, ∃ kq, ixD y 3 = some (.str kq) ∧ rowK t y = (kq == t) := fun y hy => rowK_eq (ra y hy) t
        obtain ⟨PS, lp, q1, q2⟩ := kloop (F := F) (kk := k + 1) (t := t) (n := n) (dep := mm) (r := n / 12) (CL := CL) (a5 := .own (.lst (ML.filter (rowK t))) false false) i2 mo hF r1 r2
        unfold b__law_kinded
        refine runP_post (g := [.dat (.str t), .dat (.int n), .dat (.int mm), .dat (.lst CL), .un, .un, .un, .un, .un, .un, .un, .un, .un, .un]) rfl rfl ?_
        have nt : ∀ g : List Sl, zCallS intU (zCons (zVar 1) (zNil)) (.dat (.str t) :: .dat (.int n) :: g) = some (.dat (.int n), .dat (.str t) :: .dat (.int n) :: g) := fun g => er_callS (er_cons rfl er_nil) rfl rfl rfl
        have md : ∀ (m : Int) (g : List Sl), zTst (zOp eqD (zOp modD (zCallS intU (zCons (zVar 1) (zNil))) (zC (.int 12))) (zC (.int m))) (.dat (.str t) :: .dat (.int n) :: g) = some (n % 12 == m, .dat (.str t) :: .dat (.int n) :: g) := fun m g => er_tst (er_op (er_op (nt g) er_C rfl rfl (dr_mod (by decide)) rfl) er_C rfl rfl rfl rfl)
        refine seq_nx (g1 := [.dat (.str t), .dat (.int n), .dat (.int mm), .dat (.lst CL), .dat (.int (n / 12)), .un, .un, .un, .un, .un, .un, .un, .un, .un]) (set_dat (er_op (nt _) er_C rfl rfl (dr_div (by decide) (by decide)) rfl) rfl rfl) ?_
        have tt : zOrT (zTst (zOp eqD (zVar 2) (zC (.int 0)))) (zTst (zOp ltX (zOp modD (zCallS intU (zCons (zVar 1) (zNil))) (zC (.int 12))) (zC (.int 2)))) [.dat (.str t), .dat (.int n), .dat (.int mm), .dat (.lst CL), .dat (.int (n / 12)), .un, .un, .un, .un, .un, .un, .un, .un, .un] = some ((mm == 0) || decide (n % 12 < 2), [.dat (.str t), .dat (.int n), .dat (.int mm), .dat (.lst CL), .dat (.int (n / 12)), .un, .un, .un, .un, .un, .un, .un, .un, .un]) := er_orT (er_tst (er_op rfl er_C rfl rfl rfl rfl)) (fun _ => er_tst (er_op (er_op (nt _) er_C rfl rfl (dr_mod (by decide)) rfl) er_C rfl rfl rfl rfl))
        refine sr_if tt rfl (fun q => by rw [hc] at q; cases q) (fun _ => ?_)
        refine sr_nx (sr_if (md 2 _) rfl (fun _ => ?_) (fun _ => ?_))
        · refine sr_assoc (seq_nx (g1 := [.dat (.str t), .dat (.int n), .dat (.int mm), .dat (.lst CL), .dat (.int (n / 12)), .un, .un, .un, .un, .un, .dat d1, .un, .un, .un]) (set_dat (er_call (ds := [.str tB, .int (n / 12 / 16 + 3), .int (mm - 1), .lst CL]) (er_cons er_C (er_cons (er_op (er_op rfl er_C rfl rfl (dr_div (by decide) (by decide)) rfl) er_C rfl rfl rfl rfl) (er_cons (er_op rfl er_C rfl rfl rfl rfl) (er_cons rfl er_nil)))) e1) rfl rfl) ?_)
          refine sr_assoc (seq_nx (g1 := [.dat (.str t), .dat (.int n), .dat (.int mm), .dat (.lst CL), .dat (.int (n / 12)), .un, .un, .un, .un, .un, .dat d1, .dat d2, .un, .un]) (set_dat (er_call (ds := [.str t, .int (n / 12 / 4096 + 19), .int (mm - 1), .lst CL]) (er_cons rfl (er_cons (er_op (er_op rfl er_C rfl rfl (dr_div (by decide) (by decide)) rfl) er_C rfl rfl rfl rfl) (er_cons (er_op rfl er_C rfl rfl rfl rfl) (er_cons rfl er_nil)))) e2) rfl rfl) ?_)
          have t4 : zTst (zOp eqD (zOp modD (zVar 4) (zC (.int 4))) (zC (.int 0))) [.dat (.str t), .dat (.int n), .dat (.int mm), .dat (.lst CL), .dat (.int (n / 12)), .un, .un, .un, .un, .un, .dat d1, .dat d2, .un, .un] = some (n / 12 % 4 == 0, [.dat (.str t), .dat (.int n), .dat (.int mm), .dat (.lst CL), .dat (.int (n / 12)), .un, .un, .un, .un, .un, .dat d1, .dat d2, .un, .un]) := er_tst (er_op (er_op rfl er_C rfl rfl (dr_mod (by decide)) rfl) er_C rfl rfl rfl rfl)
          refine sr_assoc (sr_if t4 rfl (fun _ => ?_) (fun _ => ?_))
          · refine seq_nx (g1 := [.dat (.str t), .dat (.int n), .dat (.int mm), .dat (.lst CL), .dat (.int (n / 12)), .un, .un, .un, .un, .un, .dat d1, .dat (.tup [.str sCON, .non]), .un, .un]) (set_dat (er_tup (er_cons er_C (er_cons er_C er_nil)) rfl (Nat.le_of_ble_eq_true rfl)) rfl rfl) ?_
            exact sr_retS (er_tup (er_cons er_C (er_cons rfl (er_cons (er_call (ds := [.str t, .int (n / 12 / 256 + 7), .int (mm - 1), .lst CL]) (er_cons rfl (er_cons (er_op (er_op rfl er_C rfl rfl (dr_div (by decide) (by decide)) rfl) er_C rfl rfl rfl rfl) (er_cons (er_op rfl er_C rfl rfl rfl rfl) (er_cons rfl er_nil)))) e3) (er_cons rfl er_nil)))) rfl (Nat.le_of_ble_eq_true rfl)) (end_post rfl ⟨_, rfl, .cho k1 k3 (.con trivial)⟩)
          · exact sr_nx (sr_retS (er_tup (er_cons er_C (er_cons rfl (er_cons (er_call (ds := [.str t, .int (n / 12 / 256 + 7), .int (mm - 1), .lst CL]) (er_cons rfl (er_cons (er_op (er_op rfl er_C rfl rfl (dr_div (by decide) (by decide)) rfl) er_C rfl rfl rfl rfl) (er_cons (er_op rfl er_C rfl rfl rfl rfl) (er_cons rfl er_nil)))) e3) (er_cons rfl er_nil)))) rfl (Nat.le_of_ble_eq_true rfl)) (end_post rfl ⟨_, rfl, .cho k1 k3 k2⟩))
        refine sr_nx (sr_if (md 3 _) rfl (fun _ => ?_) (fun _ => ?_))
        · refine sr_assoc (seq_nx (g1 := [.dat (.str t), .dat (.int n), .dat (.int mm), .dat (.lst CL), .dat (.int (n / 12)), .un, .un, .un, .un, .un, .un, .un, .dat (.str nb), .un]) (set_dat (er_ix (er_lst (er_cons er_C (er_cons er_C (er_cons er_C er_nil))) rfl (Nat.le_of_ble_eq_true rfl)) (er_op rfl er_C rfl rfl (dr_mod (by decide)) rfl) rfl eb) rfl rfl) ?_)
          exact sr_retS (er_tup (er_cons er_C (er_cons rfl (er_cons (er_call (ds := [.str t, .int (n / 12 / 16 + 3), .int (mm - 1), .lst CL]) (er_cons rfl (er_cons (er_op (er_op rfl er_C rfl rfl (dr_div (by decide) (by decide)) rfl) er_C rfl rfl rfl rfl) (er_cons (er_op rfl er_C rfl rfl rfl rfl) (er_cons rfl er_nil)))) e4) (er_cons (er_call (ds := [.str t, .int (n / 12 / 256 + 7), .int (mm - 1), .lst CL]) (er_cons rfl (er_cons (er_op (er_op rfl er_C rfl rfl (dr_div (by decide) (by decide)) rfl) er_C rfl rfl rfl rfl) (er_cons (er_op rfl er_C rfl rfl rfl rfl) (er_cons rfl er_nil)))) e3) er_nil)))) rfl (Nat.le_of_ble_eq_true rfl)) (end_post rfl ⟨_, rfl, .bin mb k4 k3⟩)
        have l := er_lc1 (b := rowK t) (f := fun d => d) (tg := gN 6) (tt := zTst (zOp eqD (zIx (zVar 6) (zC (.int 3))) (zVar 0))) (el := zVar 6) (vs := [6]) (base := [.dat (.str t), .dat (.int n), .dat (.int mm), .dat (.lst CL), .dat (.int (n / 12)), .un, .un, .un, .un, .un, .un, .un, .un, .un, .frz (.lst ML)]) (mi_Lt (m := zCall d__law_makers zNil) (n := 14) (g := [.dat (.str t), .dat (.int n), .dat (.int mm), .dat (.lst CL), .dat (.int (n / 12)), .un, .un, .un, .un, .un, .un, .un, .un, .un]) (er_callL (ds := []) er_nil makers_ok) (Nat.le_of_ble_eq_true rfl) rfl) (fun o => rfl) (fun o => rfl) mlz
          (fun y hy => by
            obtain ⟨kq, y1, y2⟩ := lk y hy
            refine lc_dat (h := [.dat (.str t), .dat (.int n), .dat (.int mm), .dat (.lst CL), .dat (.int (n / 12)), .un, .dat y, .un, .un, .un, .un, .un, .un, .un, .frz (.lst ML)]) rfl (fun o => rfl) (fun o => rfl) (fun o => rfl) (fun o => ?_) (fun _ o => rfl)
            rw [y2]
            exact er_tst (er_op (er_ix rfl er_C rfl y1) rfl rfl rfl (eqS kq t) rfl))
        rw [List.map_id'] at l
        generalize ML.filter (rowK t) = RL at *
        refine sr_nx (seq_nx (g1 := [.dat (.str t), .dat (.int n), .dat (.int mm), .dat (.lst CL), .dat (.int (n / 12)), .own (.lst RL) false false, .un, .un, .un, .un, .un, .un, .un, .un]) (set_own l (Nat.le_of_ble_eq_true rfl) rfl rfl rfl) ?_)
        refine seq_nx (g1 := [.dat (.str t), .dat (.int n), .dat (.int mm), .dat (.lst CL), .dat (.int (n / 12)), .own (.lst RL) false false, .dat row, .un, .un, .un, .un, .un, .un, .un]) (set_dat (er_ix rfl (er_op (er_op (nt _) er_C rfl rfl (dr_div (by decide) (by decide)) rfl) (er_callS (z := .int (RL.length : Nat)) (er_cons rfl er_nil) rfl rfl rfl) rfl rfl (dr_mod (by omega)) rfl) rfl x1) rfl rfl) ?_
        refine seq_nx (g1 := [.dat (.str t), .dat (.int n), .dat (.int mm), .dat (.lst CL), .dat (.int (n / 12)), .own (.lst RL) false false, .dat row, .dat (.str o), .un, .un, .un, .un, .un, .un]) (set_dat (er_ix (er_lst (er_cons er_C (er_cons er_C (er_cons er_C (er_cons er_C (er_cons er_C er_nil))))) rfl (Nat.le_of_ble_eq_true rfl)) (er_op (er_op rfl er_C rfl rfl (dr_div (by decide) (by decide)) rfl) er_C rfl rfl (dr_mod (by decide)) rfl) rfl eo) rfl rfl) ?_
        refine seq_nx (g1 := GK t n mm CL (n / 12) (.own (.lst RL) false false) row o [] .un .un) (set_own (er_lst er_nil rfl (Nat.le_of_ble_eq_true rfl)) (Nat.le_of_ble_eq_true rfl) rfl rfl rfl) ?_
        refine seq_nx (g1 := GK t n mm CL (n / 12) (.own (.lst RL) false false) row o PS .un .un) (for_none (mi_R1 (k := (ks.length : Int)) (er_cons (er_callS (er_cons (er_ix rfl er_C rfl i2) er_nil) rfl rfl rfl) er_nil) (rgOk_of (by omega) (by omega))) rfl (by rw [Int.toNat_natCast]; exact lp)) ?_
        have z0 : zIx (zVar 6) (zC (.int 0)) (GK t n mm CL (n / 12) (.own (.lst RL) false false) row o PS .un .un) = some (.dat (.str f), GK t n mm CL (n / 12) (.own (.lst RL) false false) row o PS .un .un) := er_ix rfl er_C rfl i0
        have z1 : zIx (zVar 6) (zC (.int 1)) (GK t n mm CL (n / 12) (.own (.lst RL) false false) row o PS .un .un) = some (.dat (.str nm), GK t n mm CL (n / 12) (.own (.lst RL) false false) row o PS .un .un) := er_ix rfl er_C rfl i1
        have hL2 : zLst (zCons (zIx (zVar 6) (zC (.int 0))) (zCons (zIx (zVar 6) (zC (.int 1))) (zNil))) (GK t n mm CL (n / 12) (.own (.lst RL) false false) row o PS .un .un) = some (.bor 14, GK t n mm CL (n / 12) (.own (.lst RL) false false) row o PS .un .un ++ [.own (.lst [.str f, .str nm]) false false]) := er_lst (er_cons z0 (er_cons z1 er_nil)) rfl (Nat.le_of_ble_eq_true rfl)
        have cat := er_catL (mb := zVar 8) (r2 := .bor 8) (g2 := GK t n mm CL (n / 12) (.own (.lst RL) false false) row o PS .un .un ++ [.own (.lst [.str f, .str nm]) false false]) hL2 rfl (l := [.str f, .str nm]) (k := PS) rfl rfl (by rw [q1]; exact Nat.le_trans (show [D.str f, D.str nm].length + ks.length ≤ 5 by show 2 + ks.length ≤ 5; omega) (by decide))
        exact sr_ret (er_tupL (er_cons cat er_nil) rfl) (end_post rfl ⟨_, rfl, r3 (k + 1) PS q1 q2⟩)
      obtain ⟨fr, h, d, rfl, hd⟩ := P
      exact ⟨d, hd, h⟩
end Qk14
set_option Elab.async false
set_option linter.all false
set_option maxRecDepth 100000
set_option maxHeartbeats 4000000
namespace Qk14
open PySem PySem.Spec PyProof.Rows L2 Z
local macro_rules | `(tactic| walk_at "l") => `(tactic| first | (simp only [wipeG_nil, wipeG_cons, List.set_cons_succ, List.set_cons_zero, List.take_succ_cons, List.take_zero, List.take_nil, List.cons_append, List.nil_append, List.length_cons, List.length_nil, List.set_nil, List.getElem?_cons_zero, List.getElem?_cons_succ, Nat.zero_add, Nat.reduceAdd]; first | done | exact rfl) | exact rfl)
local macro_rules | `(tactic| walk_at "d") => `(tactic| first
  | with_reducible assumption
  | (with_reducible apply dr_div) <;> decide
  | (with_reducible apply dr_mod) <;> decide
  | (with_reducible apply dr_mulr); decide
  | (with_reducible apply dr_mull); decide
  | (with_reducible apply dr_divB) <;> omega
  | (with_reducible apply dr_mulrB) <;> omega
  | (with_reducible apply dr_mullB) <;> omega
  | (with_reducible apply dr_mulC) <;> omega
  | (with_reducible apply dr_mod) <;> omega
  | (with_reducible refine isi_of ?_ ?_); (exact rfl); (first | exact kb_int_int | exact kb_int_bool | exact kb_bool_bool | exact kb_bool_int | exact kb_str_int | exact kb_str_bool | exact kb_str_str | exact kb_int_str | exact kb_bool_str | exact kb_non_int | exact kb_non_bool | exact kb_non_str | exact kb_list_list | exact kb_tuple_tuple | exact kb_list_tuple | exact kb_tuple_list)
  | with_reducible exact dr_abs
  | (with_reducible exact dr_neL _ _)
  | (simp only [Cn.d]; with_reducible assumption)
  | (simp only [Cn.d]; with_reducible exact dr_neL _ _)
  | with_reducible exact in_ints _ _
  | (simp only [Cn.d]; with_reducible exact in_ints _ _)
  | ((with_reducible apply dr_cat); (try simp only [List.length_append, List.length_cons, List.length_nil]); omega)
  | with_reducible exact dr_eqI
  | with_reducible exact dr_eqB
  | with_reducible exact dr_neB
  | with_reducible exact dr_eqS
  | with_reducible exact dr_neI
  | with_reducible exact dr_neS
  | exact rfl)
local macro_rules | `(tactic| walk_at "c") => `(tactic| first | with_reducible assumption | (simp only [Cn.d]; with_reducible assumption))
local macro_rules | `(tactic| walk_at "e") => `(tactic| first
  | with_reducible exact er_C
  | with_reducible exact er_nil
  | (with_reducible apply er_varD); exact rfl
  | (with_reducible apply er_varO); exact rfl
  | (with_reducible apply er_varF); exact rfl
  | (with_reducible apply er_op); walk_at "e"; walk_at "e"; exact rfl; exact rfl; walk_at "d"; exact rfl
  | (with_reducible apply er_chain); walk_at "e"; walk_at "e"; exact rfl; exact rfl; walk_at "d"; (intro _h; walk_at "e"); exact rfl; walk_at "d"
  | (with_reducible apply er_slS); walk_at "e"; walk_at "o"; walk_at "o"; exact rfl; walk_at "z"
  | (with_reducible apply er_slL); walk_at "e"; walk_at "o"; walk_at "o"; exact rfl
  | (with_reducible apply er_list); walk_at "e"; exact rfl; exact rfl
  | (with_reducible apply er_tupL); walk_at "e"; exact rfl
  | (with_reducible apply er_un); walk_at "e"; exact rfl; exact rfl; exact rfl
  | (with_reducible apply er_tst); walk_at "e"
  | (with_reducible apply er_tru); walk_at "e"; exact rfl; exact rfl
  | (with_reducible apply er_andT); walk_at "e"; (intro _h; walk_at "e")
  | (with_reducible apply er_orT); walk_at "e"; (intro _h; walk_at "e")
  | (with_reducible apply er_andTT); walk_at "e"; exact rfl; walk_at "e"
  | (with_reducible apply er_orTF); walk_at "e"; exact rfl; walk_at "e"
  | (with_reducible apply er_notT); walk_at "e"
  | (with_reducible apply er_andV); walk_at "e"; (intro _h; walk_at "e")
  | (with_reducible apply er_orV); walk_at "e"; (intro _h; walk_at "e")
  | (with_reducible apply er_notV); walk_at "e"
  | (with_reducible apply er_andVT); walk_at "e"; exact rfl; walk_at "e"
  | (with_reducible apply er_orVF); walk_at "e"; exact rfl; walk_at "e"
  | (with_reducible apply er_ix); walk_at "e"; walk_at "e"; exact rfl; walk_at "x"
  | (with_reducible apply er_callS); walk_at "e"; exact rfl; walk_at "d"; exact rfl
  | (with_reducible apply er_cons); walk_at "e"; walk_at "e"
  | (with_reducible apply er_callG); walk_at "e"; exact rfl; exact rfl; walk_at "c"; exact rfl
  | (with_reducible apply er_callH); walk_at "e"; exact rfl; exact rfl; walk_at "c"; exact rfl
  | (with_reducible apply er_callV); walk_at "e"; exact rfl; walk_at "c"; exact rfl
  | (with_reducible apply er_callGF); walk_at "e"; exact rfl; exact rfl; walk_at "c"; exact rfl
  | (with_reducible apply er_callHF); walk_at "e"; exact rfl; exact rfl; walk_at "c"; exact rfl
  | (with_reducible apply er_callM); walk_at "e"; exact rfl; exact rfl; exact rfl; exact rfl; exact rfl; walk_at "c"; exact rfl
  | (with_reducible apply er_catL); walk_at "e"; walk_at "e"; exact rfl; exact rfl; walk_at "z"
  | (with_reducible apply er_mt); walk_at "e"; exact rfl; exact rfl; walk_at "e"; exact rfl; exact rfl; walk_at "m"; exact rfl
  | (with_reducible apply er_tup); walk_at "e"; exact rfl; walk_at "z" 
  | (with_reducible apply er_lst); walk_at "e"; exact rfl; walk_at "z")
local macro_rules | `(tactic| walk_at "o") => `(tactic| first | exact er_zoN | ((with_reducible apply er_zoS); walk_at "e"))
local macro_rules | `(tactic| walk_at "x") => `(tactic| first | with_reducible assumption | (simp only [Cn.d]; with_reducible assumption) | exact rfl)
local macro_rules | `(tactic| walk_at "m") => `(tactic| first | with_reducible assumption | (simp only [Cn.d]; with_reducible assumption) | exact rfl)
local macro_rules | `(tactic| walk_at "st") => `(tactic| first
  | ((with_reducible apply set_dat); (walk_at "e"); (exact rfl); walk_at "l")
  | ((with_reducible apply set_own); (walk_at "e"); (exact Nat.le_of_ble_eq_true rfl); (exact rfl); (exact rfl); walk_at "l")
  | ((with_reducible apply asg_run); (walk_at "e"); (exact rfl); walk_at "l")
  | ((with_reducible apply aug_run); (exact rfl); (exact rfl); (walk_at "e"); (exact rfl); (walk_at "d"); (exact rfl); (exact rfl); walk_at "l")
  | ((with_reducible apply sto_run); (walk_at "e"); (walk_at "e"); (walk_at "e"); (exact rfl); (walk_at "x"); walk_at "l")
  | ((with_reducible apply app_run); (walk_at "e"); (exact rfl); (walk_at "e"); (exact rfl); (exact rfl); (walk_at "z"); walk_at "l"))
local macro_rules | `(tactic| walk_at "z") => `(tactic| first | assumption | exact Nat.le_of_ble_eq_true rfl | (simp; omega))
local macro_rules | `(tactic| walk_at "s") => `(tactic| first
  | with_reducible apply sr_nx
  | with_reducible apply sr_assoc
  | with_reducible apply ap_fg
  | ((with_reducible apply fgK_nx); (exact rfl); (walk_at "l"); skip)
  | ((with_reducible apply fgK_ct); (exact rfl); (walk_at "l"); skip)
  | ((with_reducible apply fgK_bk); (exact rfl); (walk_at "l"); skip)
  | with_reducible apply fgK_ret
  | with_reducible apply sr_bk1
  | with_reducible apply sr_ct1
  | with_reducible apply sr_nx1
  | with_reducible apply sr_ct
  | with_reducible apply sr_bk
  | (with_reducible apply sr_retS); (walk_at "e"); skip
  | (with_reducible apply sr_ret); (walk_at "e"); skip
  | (with_reducible apply sr_if); (walk_at "e"); (walk_at "l")
  | (with_reducible apply sr_if1); (walk_at "e"); (walk_at "l")
  | (with_reducible apply seq_nx); (walk_at "st")
  | (with_reducible apply one_nx); (walk_at "st"))
local macro_rules | `(tactic| walk_at "r") => `(tactic| repeat' (first | (intro _) | walk_at "s"))
local macro_rules | `(tactic| walk_at "k") => `(tactic| (intro q; (try simp only [decide_eq_true_eq, decide_eq_false_iff_not, beq_iff_eq, beq_eq_false_iff_ne, ne_eq, Bool.not_eq_true', Bool.not_eq_false', Bool.and_eq_true, Bool.or_eq_true, Bool.and_eq_false_iff, Bool.or_eq_false_iff, Int.not_lt, Int.not_le, List.cons.injEq, and_true, reduceCtorEq, beq_self_eq_true, Bool.not_true, Bool.not_false, Bool.or_false, Bool.false_or, Bool.or_true, Bool.true_or, Bool.and_false, Bool.false_and, Bool.and_true, Bool.true_and, not_true_eq_false, Bool.false_eq_true] at q) <;> (try (exfalso; first | (cases q; done) | omega | contradiction))))
local macro_rules | `(tactic| walk_at "w") => `(tactic| repeat' (first | (walk_at "k") | walk_at "s"))
theorem col1 {d : D} (h : ∃ t ∈ KS, ∃ b, d = .tup [.str t, .bl b]) : d.rok = true ∧ d.dp ≤ 1 ∧ d.wt ≤ 300 := by
  obtain ⟨t, ht, b, rfl⟩ := h
  have k : ∀ t ∈ KS, ∀ b : Bool, (D.tup [.str t, .bl b]).rok = true ∧ (D.tup [.str t, .bl b]).dp ≤ 1 ∧ (D.tup [.str t, .bl b]).wt ≤ 300 := by decide +kernel
  exact k t ht b
theorem cols_rok {CL : List D} (hl : CL.length = 5) (h : ∀ d ∈ CL, ∃ t ∈ KS, ∃ b, d = .tup [.str t, .bl b]) : (D.lst CL).rok = true ∧ (D.lst CL).dp ≤ 2 ∧ (D.lst CL).wt ≤ 2000 := by
  match CL, hl with
  | [a, b, c, d, e], _ =>
    obtain ⟨a1, a2, a3⟩ := col1 (h a (by simp))
    obtain ⟨b1, b2, b3⟩ := col1 (h b (by simp))
    obtain ⟨c1, c2, c3⟩ := col1 (h c (by simp))
    obtain ⟨d1, d2, d3⟩ := col1 (h d (by simp))
    obtain ⟨e1, e2, e3⟩ := col1 (h e (by simp))
    refine ⟨?_, ?_, ?_⟩
    · show (a.rok && (b.rok && (c.rok && (d.rok && (e.rok && true))))) = true
      rw [a1, b1, c1, d1, e1]; rfl
    · show max a.dp (max b.dp (max c.dp (max d.dp (max e.dp 0)))) + 1 ≤ 2
      omega
    · show a.wt + 1 + (b.wt + 1 + (c.wt + 1 + (d.wt + 1 + (e.wt + 1 + 0)))) ≤ 2000
      omega
def GL (ns : List Int) (NS : List D) (s2 s3 s4 s5 : Sl) (d : D) (o : Sl) : G := [.dat (scriptD ns), .frz (.lst NS), s2, s3, s4, s5, .dat d, o]
theorem eqv_two (a b : List Nat) : D.eqv (.tup [.str a, .str b]) (.tup [.str a, .str b]) = true := by
  show ((a == a) && ((b == b) && true)) = true
  simp
abbrev KL : D := .lst [.str [98, 111, 111, 108], .str [105, 110, 116], .str [116, 101, 120, 116], .str [100, 97, 116, 101], .str [100, 101, 99, 105, 109, 97, 108]]
theorem kl_ne : neqD KL KL = some (.bl false) := by
  have e := dr_neR (d := KL) (e := KL) rfl (Nat.le_of_ble_eq_true rfl) rfl (Nat.le_of_ble_eq_true rfl)
  rw [show D.eqv KL KL = true by decide +kernel] at e
  exact e
theorem end2 (ns : List Int) (NS CL : List D) (d z : D) (o s2 : Sl) (a b : List Nat) (hd : reprD [d] = some (.str a)) (qa : (D.str a).rok = true) (qb : (D.str b).rok = true) (kz : IsK z)
    (hr : ∀ k, zCallS reprD (zCons (zVar 2) zNil) (GL ns NS s2 (.dat (.tup [.str a, .str b])) (.dat z) (.dat z) d o ++ k) = some (.dat (.str b), GL ns NS s2 (.dat (.tup [.str a, .str b])) (.dat z) (.dat z) d o ++ k)) :
    ap finK ((zSeq (zIfS 8 (zOrT (zTst (zOp neqD (z_list (zCons (zC c_KINDS) (zNil))) (zLst (zCons (zC (.str [98, 111, 111, 108])) (zCons (zC (.str [105, 110, 116])) (zCons (zC (.str [116, 101, 120, 116])) (zCons (zC (.str [100, 97, 116, 101])) (zCons (zC (.str [100, 101, 99, 105, 109, 97, 108])) (zNil))))))))) (zTst (zOp neqD (zTup (zCons (zCallS reprD (zCons (zVar 6) (zNil))) (zCons (zCallS reprD (zCons (zVar 2) (zNil))) (zNil)))) (zVar 3)))) (zRet (zC (.bl false))) (zNx)) (zSeq (zIfS 8 (zTst (zOp isD (zVar 4) (zC .non))) (zRet (zOp isD (zVar 5) (zC .non))) (zNx)) (zSeq (zIfS 8 (zOrT (zNotT (zTru (zCallS isiD (zCons (zVar 5) (zCons (zC (.raw (.ty "tuple"))) (zNil)))))) (zOrT (zTst (zOp neqD (zCallS lenD (zCons (zVar 5) (zNil))) (zC (.int 2)))) (zTst (zOp neqD (zIx (zVar 5) (zC (.int 0))) (zIx (zVar 4) (zC (.int 0))))))) (zRet (zC (.bl false))) (zNx)) (zSeq (zIfS 8 (zTru (zIx (zVar 4) (zC (.int 1)))) (zRet (zOp isD (zIx (zVar 5) (zC (.int 1))) (zC (.bl true)))) (zNx)) (zRet (zOp isD (zIx (zVar 5) (zC (.int 1))) (zC (.bl false)))))))) (GL ns NS s2 (.dat (.tup [.str a, .str b])) (.dat z) (.dat z) d o)) = some (.dat (.bl true)) := by
  have qt : (D.tup [.str a, .str b]).rok = true := by
    show ((D.str a).rok && ((D.str b).rok && true)) = true
    rw [qa, qb]; rfl
  have eqs : neqD (.tup [.str a, .str b]) (.tup [.str a, .str b]) = some (.bl false) := by
    have e := dr_neR qt (Nat.le_of_ble_eq_true rfl) qt (Nat.le_of_ble_eq_true rfl)
    rw [eqv_two] at e
    exact e
  have t1 := er_orTF (s := zTst (zOp neqD (z_list (zCons (zC c_KINDS) (zNil))) (zLst (zCons (zC (.str [98, 111, 111, 108])) (zCons (zC (.str [105, 110, 116])) (zCons (zC (.str [116, 101, 120, 116])) (zCons (zC (.str [100, 97, 116, 101])) (zCons (zC (.str [100, 101, 99, 105, 109, 97, 108])) (zNil))))))))) (t := zTst (zOp neqD (zTup (zCons (zCallS reprD (zCons (zVar 6) (zNil))) (zCons (zCallS reprD (zCons (zVar 2) (zNil))) (zNil)))) (zVar 3)))
    (er_tst (er_op (g := GL ns NS s2 (.dat (.tup [.str a, .str b])) (.dat z) (.dat z) d o) (er_list (er_cons er_C er_nil) rfl rfl) (er_lst (er_cons er_C (er_cons er_C (er_cons er_C (er_cons er_C (er_cons er_C er_nil))))) rfl (Nat.le_of_ble_eq_true rfl)) rfl rfl kl_ne rfl)) rfl
    (er_tst (er_op (er_tup (er_cons (er_callS (er_cons rfl er_nil) rfl hd rfl) (er_cons (hr _) er_nil)) rfl (Nat.le_of_ble_eq_true rfl)) rfl rfl rfl eqs rfl))
  refine sr_if (g2 := GL ns NS s2 (.dat (.tup [.str a, .str b])) (.dat z) (.dat z) d o) t1 rfl (fun q => by cases q) (fun _ => ?_)
  rcases kz with rfl | ⟨t, ht, c, rfl⟩
  · have t2 : zTst (zOp isD (zVar 4) (zC .non)) (GL ns NS s2 (.dat (.tup [.str a, .str b])) (.dat .non) (.dat .non) d o) = some (true, GL ns NS s2 (.dat (.tup [.str a, .str b])) (.dat .non) (.dat .non) d o) := rfl
    refine sr_nx (sr_if t2 rfl (fun _ => ?_) (fun q => by cases q))
    exact sr_retS rfl rfl
  · have i0 : ixD (.tup [.str t, .bl c]) 0 = some (.str t) := rfl
    have i1 : ixD (.tup [.str t, .bl c]) 1 = some (.bl c) := rfl
    have hi : isiD [.tup [.str t, .bl c], .raw (.ty "tuple")] = some (.bl true) := isi_of rfl kb_tuple_tuple
    have hn : isD (.tup [.str t, .bl c]) .non = some (.bl false) := rfl
    have hl : lenD [.tup [.str t, .bl c]] = some (.int 2) := rfl
    have n0 : neqD (.str t) (.str t) = some (.bl false) := by rw [neS]; simp
    generalize D.tup [.str t, .bl c] = z at *
    generalize D.tup [.str a, .str b] = ab at *
    have t2 : zTst (zOp isD (zVar 4) (zC .non)) (GL ns NS s2 (.dat ab) (.dat z) (.dat z) d o) = some (false, GL ns NS s2 (.dat ab) (.dat z) (.dat z) d o) := er_tst (er_op rfl er_C rfl rfl hn rfl)
    refine sr_nx (sr_if t2 rfl (fun q => by cases q) (fun _ => ?_))
    have t3 : zOrT (zNotT (zTru (zCallS isiD (zCons (zVar 5) (zCons (zC (.raw (.ty "tuple"))) (zNil)))))) (zOrT (zTst (zOp neqD (zCallS lenD (zCons (zVar 5) (zNil))) (zC (.int 2)))) (zTst (zOp neqD (zIx (zVar 5) (zC (.int 0))) (zIx (zVar 4) (zC (.int 0)))))) (GL ns NS s2 (.dat ab) (.dat z) (.dat z) d o) = some (false, GL ns NS s2 (.dat ab) (.dat z) (.dat z) d o) :=
      er_orT (b1 := false) (b2 := false) (er_notT (b := true) (er_tru (er_callS (er_cons rfl (er_cons er_C er_nil)) rfl hi rfl) rfl rfl)) (fun _ => er_orT (b1 := false) (b2 := false) (er_tst (er_op (er_callS (er_cons rfl er_nil) rfl hl rfl) er_C rfl rfl rfl rfl)) (fun _ => er_tst (er_op (er_ix rfl er_C rfl i0) (er_ix rfl er_C rfl i0) rfl rfl n0 rfl)))
    refine sr_nx (sr_if t3 rfl (fun q => by cases q) (fun _ => ?_))
    have t4 : zTru (zIx (zVar 4) (zC (.int 1))) (GL ns NS s2 (.dat ab) (.dat z) (.dat z) d o) = some (c, GL ns NS s2 (.dat ab) (.dat z) (.dat z) d o) := er_tru (er_ix rfl er_C rfl i1) rfl rfl
    refine sr_nx (sr_if t4 rfl (fun h => ?_) (fun h => ?_))
    · subst h
      exact sr_retS (er_op (er_ix rfl er_C rfl i1) er_C rfl rfl rfl rfl) rfl
    · subst h
      exact sr_nx (sr_ret (er_op (er_ix rfl er_C rfl i1) er_C rfl rfl rfl rfl) rfl)
theorem end1 (ns : List Int) (NS CL : List D) (d z : D) (o s2 : Sl) (h2 : s2 = .own (.lst CL) false false ∨ s2 = .frz (.lst CL)) (hd : reprD [d] = some (.str (shownD d))) (hC : reprD [.lst CL] = some (.str (shownD (.lst CL)))) (rd : d.rok = true) (rC : (D.lst CL).rok = true)
    (kz : IsK z) (hc : (Cn.lst CL).scal = false) (e1 : d_kind_of 40 [d, .lst CL] = some (.dat z)) (e2 : d__law_kind 40 [d, .lst CL] = some (.dat z)) :
    ap finK ((zSeq (zSet 8 3 (zTup (zCons (zCallS reprD (zCons (zVar 6) (zNil))) (zCons (zCallS reprD (zCons (zVar 2) (zNil))) (zNil))))) (zSeq (zSet 8 4 (zCall (d__law_kind 40) (zCons (zVar 6) (zCons (zVar 2) (zNil))))) (zSeq (zSet 8 5 (zCall (d_kind_of 40) (zCons (zVar 6) (zCons (zVar 2) (zNil))))) (zSeq (zIfS 8 (zOrT (zTst (zOp neqD (z_list (zCons (zC c_KINDS) (zNil))) (zLst (zCons (zC (.str [98, 111, 111, 108])) (zCons (zC (.str [105, 110, 116])) (zCons (zC (.str [116, 101, 120, 116])) (zCons (zC (.str [100, 97, 116, 101])) (zCons (zC (.str [100, 101, 99, 105, 109, 97, 108])) (zNil))))))))) (zTst (zOp neqD (zTup (zCons (zCallS reprD (zCons (zVar 6) (zNil))) (zCons (zCallS reprD (zCons (zVar 2) (zNil))) (zNil)))) (zVar 3)))) (zRet (zC (.bl false))) (zNx)) (zSeq (zIfS 8 (zTst (zOp isD (zVar 4) (zC .non))) (zRet (zOp isD (zVar 5) (zC .non))) (zNx)) (zSeq (zIfS 8 (zOrT (zNotT (zTru (zCallS isiD (zCons (zVar 5) (zCons (zC (.raw (.ty "tuple"))) (zNil)))))) (zOrT (zTst (zOp neqD (zCallS lenD (zCons (zVar 5) (zNil))) (zC (.int 2)))) (zTst (zOp neqD (zIx (zVar 5) (zC (.int 0))) (zIx (zVar 4) (zC (.int 0))))))) (zRet (zC (.bl false))) (zNx)) (zSeq (zIfS 8 (zTru (zIx (zVar 4) (zC (.int 1)))) (zRet (zOp isD (zIx (zVar 5) (zC (.int 1))) (zC (.bl true)))) (zNx)) (zRet (zOp isD (zIx (zVar 5) (zC (.int 1))) (zC (.bl false))))))))))) (GL ns NS s2 .un .un .un d o)) = some (.dat (.bl true)) := by
  have qa := shown_rok rd
  have qb := shown_rok rC
  generalize shownD d = a at *
  generalize shownD (.lst CL) = b at *
  generalize d_kind_of 40 = F at *
  generalize d__law_kind 40 = F2 at *
  have en2 : ∀ s2 : Sl, (s2 = .own (.lst CL) false false ∨ s2 = .frz (.lst CL)) → ap finK ((zSeq (zIfS 8 (zOrT (zTst (zOp neqD (z_list (zCons (zC c_KINDS) (zNil))) (zLst (zCons (zC (.str [98, 111, 111, 108])) (zCons (zC (.str [105, 110, 116])) (zCons (zC (.str [116, 101, 120, 116])) (zCons (zC (.str [100, 97, 116, 101])) (zCons (zC (.str [100, 101, 99, 105, 109, 97, 108])) (zNil))))))))) (zTst (zOp neqD (zTup (zCons (zCallS reprD (zCons (zVar 6) (zNil))) (zCons (zCallS reprD (zCons (zVar 2) (zNil))) (zNil)))) (zVar 3)))) (zRet (zC (.bl false))) (zNx)) (zSeq (zIfS 8 (zTst (zOp isD (zVar 4) (zC .non))) (zRet (zOp isD (zVar 5) (zC .non))) (zNx)) (zSeq (zIfS 8 (zOrT (zNotT (zTru (zCallS isiD (zCons (zVar 5) (zCons (zC (.raw (.ty "tuple"))) (zNil)))))) (zOrT (zTst (zOp neqD (zCallS lenD (zCons (zVar 5) (zNil))) (zC (.int 2)))) (zTst (zOp neqD (zIx (zVar 5) (zC (.int 0))) (zIx (zVar 4) (zC (.int 0))))))) (zRet (zC (.bl false))) (zNx)) (zSeq (zIfS 8 (zTru (zIx (zVar 4) (zC (.int 1)))) (zRet (zOp isD (zIx (zVar 5) (zC (.int 1))) (zC (.bl true)))) (zNx)) (zRet (zOp isD (zIx (zVar 5) (zC (.int 1))) (zC (.bl false)))))))) (GL ns NS s2 (.dat (.tup [.str a, .str b])) (.dat z) (.dat z) d o)) = some (.dat (.bl true)) := fun s2 h2 => by
    refine end2 ns NS CL d z o s2 a b hd qa qb kz (fun k => ?_)
    rcases h2 with rfl | rfl
    · exact er_callS (er_cons (er_varO rfl) er_nil) rfl hC rfl
    · exact er_callS (er_cons (er_varF rfl) er_nil) rfl hC rfl
  rcases h2 with rfl | rfl
  · refine seq_nx (g1 := GL ns NS (.own (.lst CL) false false) (.dat (.tup [.str a, .str b])) .un .un d o) (set_dat (er_tup (er_cons (er_callS (er_cons rfl er_nil) rfl hd rfl) (er_cons (er_callS (er_cons rfl er_nil) rfl hC rfl) er_nil)) rfl (Nat.le_of_ble_eq_true rfl)) rfl rfl) ?_
    rcases kz with rfl | ⟨t, ht, c, rfl⟩
    · refine seq_nx (g1 := GL ns NS (.own (.lst CL) false false) (.dat (.tup [.str a, .str b])) (.dat .non) .un d o) (set_dat (er_callV (er_cons rfl (er_cons rfl er_nil)) rfl e2 rfl) rfl rfl) ?_
      refine seq_nx (g1 := GL ns NS (.own (.lst CL) false false) (.dat (.tup [.str a, .str b])) (.dat .non) (.dat .non) d o) (set_dat (er_callV (er_cons rfl (er_cons rfl er_nil)) rfl e1 rfl) rfl rfl) ?_
      exact en2 _ (.inl rfl)
    · refine seq_nx (g1 := GL ns NS (.frz (.lst CL)) (.dat (.tup [.str a, .str b])) (.dat (.tup [.str t, .bl c])) .un d o) (set_dat (er_callGF (er_cons rfl (er_cons rfl er_nil)) rfl rfl e2 rfl) rfl rfl) ?_
      refine seq_nx (g1 := GL ns NS (.frz (.lst CL)) (.dat (.tup [.str a, .str b])) (.dat (.tup [.str t, .bl c])) (.dat (.tup [.str t, .bl c])) d o) (set_dat (er_call (ds := [d, .lst CL]) (er_cons rfl (er_cons rfl er_nil)) e1) rfl rfl) ?_
      exact en2 _ (.inr rfl)
  · refine seq_nx (g1 := GL ns NS (.frz (.lst CL)) (.dat (.tup [.str a, .str b])) .un .un d o) (set_dat (er_tup (er_cons (er_callS (er_cons rfl er_nil) rfl hd rfl) (er_cons (er_callS (er_cons rfl er_nil) rfl hC rfl) er_nil)) rfl (Nat.le_of_ble_eq_true rfl)) rfl rfl) ?_
    refine seq_nx (g1 := GL ns NS (.frz (.lst CL)) (.dat (.tup [.str a, .str b])) (.dat z) .un d o) (set_dat (er_call (ds := [d, .lst CL]) (er_cons rfl (er_cons rfl er_nil)) e2) rfl rfl) ?_
    refine seq_nx (g1 := GL ns NS (.frz (.lst CL)) (.dat (.tup [.str a, .str b])) (.dat z) (.dat z) d o) (set_dat (er_call (ds := [d, .lst CL]) (er_cons rfl (er_cons rfl er_nil)) e1) rfl rfl) ?_
    exact en2 _ (.inr rfl)
theorem kx_ref {k : Nat} {d : D} (h : Kx k d) : isRef d = true ∧ d.scal = false := by cases h <;> exact ⟨rfl, rfl⟩
theorem law_true (ns : List Int) (hn : ns.length ≤ 63) : d_law [scriptD ns] = some (.dat (.bl true)) := by
  obtain ⟨L, hL, hl⟩ := numbers_ok ns 12 hn (by decide)
  have hL : d__law_numbers [scriptD ns, .int 12] = some (.new (.lst (L.map D.int))) := hL
  have hl : L.length = 12 := hl
  obtain ⟨CL, cw, cl, cx⟩ := columns_ok L hl
  obtain ⟨rC, pC, wC⟩ := cols_rok cl cx
  have hC : reprD [.lst CL] = some (.str (shownD (.lst CL))) := dr_repr (rok_repr rfl rC (Nat.le_trans pC (by decide)) (Nat.le_trans wC (by decide)))
  have hc : (Cn.lst CL).scal = false := by
    match CL, cl with
    | a :: CL, _ =>
      obtain ⟨t, _, b, rfl⟩ := cx a (by simp)
      rfl
  have en : ∀ (d : D) (o s2 : Sl), Kx 5 d → (s2 = .own (.lst CL) false false ∨ s2 = .frz (.lst CL)) → ap finK ((zSeq (zSet 8 3 (zTup (zCons (zCallS reprD (zCons (zVar 6) (zNil))) (zCons (zCallS reprD (zCons (zVar 2) (zNil))) (zNil))))) (zSeq (zSet 8 4 (zCall (d__law_kind 40) (zCons (zVar 6) (zCons (zVar 2) (zNil))))) (zSeq (zSet 8 5 (zCall (d_kind_of 40) (zCons (zVar 6) (zCons (zVar 2) (zNil))))) (zSeq (zIfS 8 (zOrT (zTst (zOp neqD (z_list (zCons (zC c_KINDS) (zNil))) (zLst (zCons (zC (.str [98, 111, 111, 108])) (zCons (zC (.str [105, 110, 116])) (zCons (zC (.str [116, 101, 120, 116])) (zCons (zC (.str [100, 97, 116, 101])) (zCons (zC (.str [100, 101, 99, 105, 109, 97, 108])) (zNil))))))))) (zTst (zOp neqD (zTup (zCons (zCallS reprD (zCons (zVar 6) (zNil))) (zCons (zCallS reprD (zCons (zVar 2) (zNil))) (zNil)))) (zVar 3)))) (zRet (zC (.bl false))) (zNx)) (zSeq (zIfS 8 (zTst (zOp isD (zVar 4) (zC .non))) (zRet (zOp isD (zVar 5) (zC .non))) (zNx)) (zSeq (zIfS 8 (zOrT (zNotT (zTru (zCallS isiD (zCons (zVar 5) (zCons (zC (.raw (.ty "tuple"))) (zNil)))))) (zOrT (zTst (zOp neqD (zCallS lenD (zCons (zVar 5) (zNil))) (zC (.int 2)))) (zTst (zOp neqD (zIx (zVar 5) (zC (.int 0))) (zIx (zVar 4) (zC (.int 0))))))) (zRet (zC (.bl false))) (zNx)) (zSeq (zIfS 8 (zTru (zIx (zVar 4) (zC (.int 1)))) (zRet (zOp isD (zIx (zVar 5) (zC (.int 1))) (zC (.bl true)))) (zNx)) (zRet (zOp isD (zIx (zVar 5) (zC (.int 1))) (zC (.bl false))))))))))) (GL ns (L.map D.int) s2 .un .un .un d o)) = some (.dat (.bl true)) := fun d o s2 hk h2 => by
    obtain ⟨r1, r2, r3⟩ := kx_rok hk
    obtain ⟨z, kz, e1, e2⟩ := kinds_ok (fun d h => .inr (cx d h)) hk (by decide) 40 (by decide)
    exact end1 ns (L.map D.int) CL d z o s2 h2 (dr_repr (rok_repr (kx_ref hk).1 r1 (by omega) (Nat.le_trans r3 (by decide)))) hC r1 rC kz hc e1 e2
  have x5 : ixD (.lst (L.map D.int)) 5 = some (.int L[5]) := ixn (j := 5) (by omega)
  have x6 : ixD (.lst (L.map D.int)) 6 = some (.int L[6]) := ixn (j := 6) (by omega)
  have x10 : ixD (.lst (L.map D.int)) 10 = some (.int L[10]) := ixn (j := 10) (by omega)
  have x11 : ixD (.lst (L.map D.int)) 11 = some (.int L[11]) := ixn (j := 11) (by omega)
  obtain ⟨m, hm⟩ : ∃ m : Nat, (m : Int) = 1 + L[5] / 2 % 4 := ⟨(1 + L[5] / 2 % 4).toNat, by omega⟩
  obtain ⟨d1, k1, w1⟩ := drawn_ok L hl m (by omega)
  obtain ⟨t, ht, et⟩ := ks_ix (L[5] / 2)
  obtain ⟨k, hk⟩ : ∃ k : Nat, (k : Int) = 1 + L[5] / 10 % 3 := ⟨(1 + L[5] / 10 % 3).toNat, by omega⟩
  obtain ⟨d2, k2, w2⟩ := kinded_ok cl cx k (by omega) t ht L[6] 40 (by omega)
  have k2 : Kx 5 d2 := k2.up (by omega)
  obtain ⟨d3, k3, w3⟩ := exchanged_ok k2 L[11]
  rw [hm] at w1
  rw [hk] at w2
  have s1 := (kx_ref k1).2
  have s2 := (kx_ref k2).2
  generalize L.map D.int = NS at *
  unfold d_law b_law
  refine runP_ap (g := [.dat (scriptD ns), .un, .un, .un, .un, .un, .un, .un]) rfl rfl ?_
  generalize d__law_kinded 40 = F at *
  refine seq_nx (g1 := [.dat (scriptD ns), .own (.lst NS) false false, .un, .un, .un, .un, .un, .un]) (set_own (er_callL (ds := [scriptD ns, .int 12]) (er_cons rfl (er_cons er_C er_nil)) hL) (Nat.le_of_ble_eq_true rfl) rfl rfl rfl) ?_
  refine seq_nx (g1 := [.dat (scriptD ns), .frz (.lst NS), .own (.lst CL) false false, .un, .un, .un, .un, .un]) (set_own (er_callHF (er_cons rfl (er_cons er_C (er_cons er_C er_nil))) rfl rfl cw hc) (Nat.le_of_ble_eq_true rfl) rfl rfl rfl) ?_
  have n5 : ∀ k : G, zCallS intU (zCons (zIx (zVar 1) (zC (.int 5))) zNil) (.dat (scriptD ns) :: .frz (.lst NS) :: k) = some (.dat (.int L[5]), .dat (scriptD ns) :: .frz (.lst NS) :: k) := fun k => er_callS (er_cons (er_ix (er_varF rfl) er_C rfl x5) er_nil) rfl rfl rfl
  have n10 : ∀ k : G, zCallS intU (zCons (zIx (zVar 1) (zC (.int 10))) zNil) (.dat (scriptD ns) :: .frz (.lst NS) :: k) = some (.dat (.int L[10]), .dat (scriptD ns) :: .frz (.lst NS) :: k) := fun k => er_callS (er_cons (er_ix (er_varF rfl) er_C rfl x10) er_nil) rfl rfl rfl
  have tt : zTst (zOp eqD (zOp modD (zCallS intU (zCons (zIx (zVar 1) (zC (.int 5))) (zNil))) (zC (.int 2))) (zC (.int 0))) [.dat (scriptD ns), .frz (.lst NS), .own (.lst CL) false false, .un, .un, .un, .un, .un] = some (L[5] % 2 == 0, [.dat (scriptD ns), .frz (.lst NS), .own (.lst CL) false false, .un, .un, .un, .un, .un]) := er_tst (er_op (er_op (n5 _) er_C rfl rfl (dr_mod (by decide)) rfl) er_C rfl rfl rfl rfl)
  refine sr_if tt rfl (fun _ => ?_) (fun _ => ?_)
  · refine seq_nx (g1 := GL ns NS (.own (.lst CL) false false) .un .un .un d1 .un) (set_dat (er_call (ds := [.lst NS, .int 6, .int (1 + L[5] / 2 % 4), .int 6]) (er_cons (er_varF rfl) (er_cons er_C (er_cons (er_op er_C (er_op (er_op (n5 _) er_C rfl rfl (dr_div (by decide) (by decide)) rfl) er_C rfl rfl (dr_mod (by decide)) rfl) rfl rfl rfl rfl) (er_cons er_C er_nil)))) w1) rfl rfl) ?_
    exact en d1 .un _ k1 (.inl rfl)
  · refine sr_assoc (seq_nx (g1 := [.dat (scriptD ns), .frz (.lst NS), .own (.lst CL) false false, .un, .un, .un, .un, .dat (.str t)]) (set_dat (er_ix (er_lst (er_cons er_C (er_cons er_C (er_cons er_C (er_cons er_C (er_cons er_C er_nil))))) rfl (Nat.le_of_ble_eq_true rfl)) (er_op (er_op (n5 _) er_C rfl rfl (dr_div (by decide) (by decide)) rfl) er_C rfl rfl (dr_mod (by decide)) rfl) rfl et) rfl rfl) ?_)
    refine sr_assoc (seq_nx (g1 := GL ns NS (.frz (.lst CL)) .un .un .un d2 (.dat (.str t))) (set_dat (er_callGF (er_cons (er_varD rfl) (er_cons (er_ix (er_varF rfl) er_C rfl x6) (er_cons (er_op er_C (er_op (er_op (n5 _) er_C rfl rfl (dr_div (by decide) (by decide)) rfl) er_C rfl rfl (dr_mod (by decide)) rfl) rfl rfl rfl rfl) (er_cons (er_varO rfl) er_nil)))) rfl rfl w2 s2) rfl rfl) ?_)
    have tt2 : zTst (zOp eqD (zOp modD (zCallS intU (zCons (zIx (zVar 1) (zC (.int 10))) (zNil))) (zC (.int 3))) (zC (.int 0))) (GL ns NS (.frz (.lst CL)) .un .un .un d2 (.dat (.str t))) = some (L[10] % 3 == 0, GL ns NS (.frz (.lst CL)) .un .un .un d2 (.dat (.str t))) := er_tst (er_op (er_op (n10 _) er_C rfl rfl (dr_mod (by decide)) rfl) er_C rfl rfl rfl rfl)
    refine sr_if tt2 rfl (fun _ => ?_) (fun _ => ?_)
    · refine seq_nx (g1 := GL ns NS (.frz (.lst CL)) .un .un .un d3 (.dat (.str t))) (set_dat (er_call (ds := [d2, .int L[11]]) (er_cons (er_varD rfl) (er_cons (er_ix (er_varF rfl) er_C rfl x11) er_nil)) w3) rfl rfl) ?_
      exact en d3 _ _ k3 (.inr rfl)
    · exact sr_nx (en d2 _ _ k2 (.inr rfl))
end Qk14
set_option Elab.async false
set_option linter.all false
set_option maxRecDepth 100000
set_option maxHeartbeats 4000000
namespace Qk14
open PySem PySem.Spec PyProof.Rows L2 Z
theorem all_mk {P : Program} {w : World} {K : PySem.W.Frag} {h : Heap} {mg : Str → Option Value} {fa : Addr} (X : K.In h) (G : h.Ns mainGlobals mg) (hfa : mg "law" = some (.ref fa))
    {od0 an0 : Option Addr} {sl0 : Array (Option Value)} {oc0 kV0 dc0 pm0 cd0 ct0 : Value} {f0 : Addr}
    (a0 : PySem.W.nsIn K mainGlobals "_law_numbers" = some (some (.ref f0))) (l0 : K.lookup f0 = some ⟨oc0, od0, .func (PySem.W.fnOf "_law_numbers" "_law_numbers" (defArgs st__law_numbers) (defBody st__law_numbers) (defScope st__law_numbers) .none kV0 dc0 pm0 an0 cd0 ct0), sl0⟩) (e0 : PySem.W.codeIn K cd0 "_law_numbers" = true) (k0 : PySem.W.keepIn K (.ref f0) = true)
    {od1 an1 : Option Addr} {sl1 : Array (Option Value)} {oc1 kV1 dc1 pm1 cd1 ct1 : Value} {f1 : Addr}
    (a1 : PySem.W.nsIn K mainGlobals "_law_columns_of" = some (some (.ref f1))) (l1 : K.lookup f1 = some ⟨oc1, od1, .func (PySem.W.fnOf "_law_columns_of" "_law_columns_of" (defArgs st__law_columns_of) (defBody st__law_columns_of) (defScope st__law_columns_of) .none kV1 dc1 pm1 an1 cd1 ct1), sl1⟩) (e1 : PySem.W.codeIn K cd1 "_law_columns_of" = true) (k1 : PySem.W.keepIn K (.ref f1) = true)
    {od2 an2 : Option Addr} {sl2 : Array (Option Value)} {oc2 kV2 dc2 pm2 cd2 ct2 : Value} {f2 : Addr}
    (a2 : PySem.W.nsIn K mainGlobals "_law_choice_kind" = some (some (.ref f2))) (l2 : K.lookup f2 = some ⟨oc2, od2, .func (PySem.W.fnOf "_law_choice_kind" "_law_choice_kind" (defArgs st__law_choice_kind) (defBody st__law_choice_kind) (defScope st__law_choice_kind) .none kV2 dc2 pm2 an2 cd2 ct2), sl2⟩) (e2 : PySem.W.codeIn K cd2 "_law_choice_kind" = true) (k2 : PySem.W.keepIn K (.ref f2) = true)
    {od3 an3 : Option Addr} {sl3 : Array (Option Value)} {oc3 kV3 dc3 pm3 cd3 ct3 : Value} {f3 : Addr}
    (a3 : PySem.W.nsIn K mainGlobals "_law_unary_kind" = some (some (.ref f3))) (l3 : K.lookup f3 = some ⟨oc3, od3, .func (PySem.W.fnOf "_law_unary_kind" "_law_unary_kind" (defArgs st__law_unary_kind) (defBody st__law_unary_kind) (defScope st__law_unary_kind) .none kV3 dc3 pm3 an3 cd3 ct3), sl3⟩) (e3 : PySem.W.codeIn K cd3 "_law_unary_kind" = true) (k3 : PySem.W.keepIn K (.ref f3) = true)
    {od4 an4 : Option Addr} {sl4 : Array (Option Value)} {oc4 kV4 dc4 pm4 cd4 ct4 : Value} {f4 : Addr}
    (a4 : PySem.W.nsIn K mainGlobals "_law_binary_kind" = some (some (.ref f4))) (l4 : K.lookup f4 = some ⟨oc4, od4, .func (PySem.W.fnOf "_law_binary_kind" "_law_binary_kind" (defArgs st__law_binary_kind) (defBody st__law_binary_kind) (defScope st__law_binary_kind) .none kV4 dc4 pm4 an4 cd4 ct4), sl4⟩) (e4 : PySem.W.codeIn K cd4 "_law_binary_kind" = true) (k4 : PySem.W.keepIn K (.ref f4) = true)
    {od5 an5 : Option Addr} {sl5 : Array (Option Value)} {oc5 kV5 dc5 pm5 cd5 ct5 : Value} {f5 : Addr}
    (a5 : PySem.W.nsIn K mainGlobals "_law_rank" = some (some (.ref f5))) (l5 : K.lookup f5 = some ⟨oc5, od5, .func (PySem.W.fnOf "_law_rank" "_law_rank" (defArgs st__law_rank) (defBody st__law_rank) (defScope st__law_rank) .none kV5 dc5 pm5 an5 cd5 ct5), sl5⟩) (e5 : PySem.W.codeIn K cd5 "_law_rank" = true) (k5 : PySem.W.keepIn K (.ref f5) = true)
    {od6 an6 : Option Addr} {sl6 : Array (Option Value)} {oc6 kV6 dc6 pm6 cd6 ct6 : Value} {f6 : Addr}
    (a6 : PySem.W.nsIn K mainGlobals "_law_kind" = some (some (.ref f6))) (l6 : K.lookup f6 = some ⟨oc6, od6, .func (PySem.W.fnOf "_law_kind" "_law_kind" (defArgs st__law_kind) (defBody st__law_kind) (defScope st__law_kind) .none kV6 dc6 pm6 an6 cd6 ct6), sl6⟩) (e6 : PySem.W.codeIn K cd6 "_law_kind" = true) (k6 : PySem.W.keepIn K (.ref f6) = true)
    {od7 an7 : Option Addr} {sl7 : Array (Option Value)} {oc7 kV7 dc7 pm7 cd7 ct7 : Value} {f7 : Addr}
    (a7 : PySem.W.nsIn K mainGlobals "constant_kind" = some (some (.ref f7))) (l7 : K.lookup f7 = some ⟨oc7, od7, .func (PySem.W.fnOf "constant_kind" "constant_kind" (defArgs st_constant_kind) (defBody st_constant_kind) (defScope st_constant_kind) .none kV7 dc7 pm7 an7 cd7 ct7), sl7⟩) (e7 : PySem.W.codeIn K cd7 "constant_kind" = true) (k7 : PySem.W.keepIn K (.ref f7) = true)
    {od8 an8 : Option Addr} {sl8 : Array (Option Value)} {oc8 kV8 dc8 pm8 cd8 ct8 : Value} {f8 : Addr}
    (a8 : PySem.W.nsIn K mainGlobals "choice_kind" = some (some (.ref f8))) (l8 : K.lookup f8 = some ⟨oc8, od8, .func (PySem.W.fnOf "choice_kind" "choice_kind" (defArgs st_choice_kind) (defBody st_choice_kind) (defScope st_choice_kind) .none kV8 dc8 pm8 an8 cd8 ct8), sl8⟩) (e8 : PySem.W.codeIn K cd8 "choice_kind" = true) (k8 : PySem.W.keepIn K (.ref f8) = true)
    {od9 an9 : Option Addr} {sl9 : Array (Option Value)} {oc9 kV9 dc9 pm9 cd9 ct9 : Value} {f9 : Addr}
    (a9 : PySem.W.nsIn K mainGlobals "unary_kind" = some (some (.ref f9))) (l9 : K.lookup f9 = some ⟨oc9, od9, .func (PySem.W.fnOf "unary_kind" "unary_kind" (defArgs st_unary_kind) (defBody st_unary_kind) (defScope st_unary_kind) .none kV9 dc9 pm9 an9 cd9 ct9), sl9⟩) (e9 : PySem.W.codeIn K cd9 "unary_kind" = true) (k9 : PySem.W.keepIn K (.ref f9) = true)
    {od10 an10 : Option Addr} {sl10 : Array (Option Value)} {oc10 kV10 dc10 pm10 cd10 ct10 : Value} {f10 : Addr}
    (a10 : PySem.W.nsIn K mainGlobals "binary_kind" = some (some (.ref f10))) (l10 : K.lookup f10 = some ⟨oc10, od10, .func (PySem.W.fnOf "binary_kind" "binary_kind" (defArgs st_binary_kind) (defBody st_binary_kind) (defScope st_binary_kind) .none kV10 dc10 pm10 an10 cd10 ct10), sl10⟩) (e10 : PySem.W.codeIn K cd10 "binary_kind" = true) (k10 : PySem.W.keepIn K (.ref f10) = true)
    {od11 an11 : Option Addr} {sl11 : Array (Option Value)} {oc11 kV11 dc11 pm11 cd11 ct11 : Value} {f11 : Addr}
    (a11 : PySem.W.nsIn K mainGlobals "kind_of" = some (some (.ref f11))) (l11 : K.lookup f11 = some ⟨oc11, od11, .func (PySem.W.fnOf "kind_of" "kind_of" (defArgs st_kind_of) (defBody st_kind_of) (defScope st_kind_of) .none kV11 dc11 pm11 an11 cd11 ct11), sl11⟩) (e11 : PySem.W.codeIn K cd11 "kind_of" = true) (k11 : PySem.W.keepIn K (.ref f11) = true)
    {od12 an12 : Option Addr} {sl12 : Array (Option Value)} {oc12 kV12 dc12 pm12 cd12 ct12 : Value} {f12 : Addr}
    (a12 : PySem.W.nsIn K mainGlobals "_law_text" = some (some (.ref f12))) (l12 : K.lookup f12 = some ⟨oc12, od12, .func (PySem.W.fnOf "_law_text" "_law_text" (defArgs st__law_text) (defBody st__law_text) (defScope st__law_text) .none kV12 dc12 pm12 an12 cd12 ct12), sl12⟩) (e12 : PySem.W.codeIn K cd12 "_law_text" = true) (k12 : PySem.W.keepIn K (.ref f12) = true)
    {od13 an13 : Option Addr} {sl13 : Array (Option Value)} {oc13 kV13 dc13 pm13 cd13 ct13 : Value} {f13 : Addr}
    (a13 : PySem.W.nsIn K mainGlobals "_law_value" = some (some (.ref f13))) (l13 : K.lookup f13 = some ⟨oc13, od13, .func (PySem.W.fnOf "_law_value" "_law_value" (defArgs st__law_value) (defBody st__law_value) (defScope st__law_value) .none kV13 dc13 pm13 an13 cd13 ct13), sl13⟩) (e13 : PySem.W.codeIn K cd13 "_law_value" = true) (k13 : PySem.W.keepIn K (.ref f13) = true)
    {od14 an14 : Option Addr} {sl14 : Array (Option Value)} {oc14 kV14 dc14 pm14 cd14 ct14 : Value} {f14 : Addr}
    (a14 : PySem.W.nsIn K mainGlobals "_law_expression" = some (some (.ref f14))) (l14 : K.lookup f14 = some ⟨oc14, od14, .func (PySem.W.fnOf "_law_expression" "_law_expression" (defArgs st__law_expression) (defBody st__law_expression) (defScope st__law_expression) .none kV14 dc14 pm14 an14 cd14 ct14), sl14⟩) (e14 : PySem.W.codeIn K cd14 "_law_expression" = true) (k14 : PySem.W.keepIn K (.ref f14) = true)
    {od15 an15 : Option Addr} {sl15 : Array (Option Value)} {oc15 kV15 dc15 pm15 cd15 ct15 : Value} {f15 : Addr}
    (a15 : PySem.W.nsIn K mainGlobals "_law_drawn" = some (some (.ref f15))) (l15 : K.lookup f15 = some ⟨oc15, od15, .func (PySem.W.fnOf "_law_drawn" "_law_drawn" (defArgs st__law_drawn) (defBody st__law_drawn) (defScope st__law_drawn) .none kV15 dc15 pm15 an15 cd15 ct15), sl15⟩) (e15 : PySem.W.codeIn K cd15 "_law_drawn" = true) (k15 : PySem.W.keepIn K (.ref f15) = true)
    {od16 an16 : Option Addr} {sl16 : Array (Option Value)} {oc16 kV16 dc16 pm16 cd16 ct16 : Value} {f16 : Addr}
    (a16 : PySem.W.nsIn K mainGlobals "_law_leaf" = some (some (.ref f16))) (l16 : K.lookup f16 = some ⟨oc16, od16, .func (PySem.W.fnOf "_law_leaf" "_law_leaf" (defArgs st__law_leaf) (defBody st__law_leaf) (defScope st__law_leaf) .none kV16 dc16 pm16 an16 cd16 ct16), sl16⟩) (e16 : PySem.W.codeIn K cd16 "_law_leaf" = true) (k16 : PySem.W.keepIn K (.ref f16) = true)
    {od17 an17 : Option Addr} {sl17 : Array (Option Value)} {oc17 kV17 dc17 pm17 cd17 ct17 : Value} {f17 : Addr}
    (a17 : PySem.W.nsIn K mainGlobals "_law_makers" = some (some (.ref f17))) (l17 : K.lookup f17 = some ⟨oc17, od17, .func (PySem.W.fnOf "_law_makers" "_law_makers" (defArgs st__law_makers) (defBody st__law_makers) (defScope st__law_makers) .none kV17 dc17 pm17 an17 cd17 ct17), sl17⟩) (e17 : PySem.W.codeIn K cd17 "_law_makers" = true) (k17 : PySem.W.keepIn K (.ref f17) = true)
    {od18 an18 : Option Addr} {sl18 : Array (Option Value)} {oc18 kV18 dc18 pm18 cd18 ct18 : Value} {f18 : Addr}
    (a18 : PySem.W.nsIn K mainGlobals "_law_kinded" = some (some (.ref f18))) (l18 : K.lookup f18 = some ⟨oc18, od18, .func (PySem.W.fnOf "_law_kinded" "_law_kinded" (defArgs st__law_kinded) (defBody st__law_kinded) (defScope st__law_kinded) .none kV18 dc18 pm18 an18 cd18 ct18), sl18⟩) (e18 : PySem.W.codeIn K cd18 "_law_kinded" = true) (k18 : PySem.W.keepIn K (.ref f18) = true)
    {od19 an19 : Option Addr} {sl19 : Array (Option Value)} {oc19 kV19 dc19 pm19 cd19 ct19 : Value} {f19 : Addr}
    (a19 : PySem.W.nsIn K mainGlobals "_law_exchanged" = some (some (.ref f19))) (l19 : K.lookup f19 = some ⟨oc19, od19, .func (PySem.W.fnOf "_law_exchanged" "_law_exchanged" (defArgs st__law_exchanged) (defBody st__law_exchanged) (defScope st__law_exchanged) .none kV19 dc19 pm19 an19 cd19 ct19), sl19⟩) (e19 : PySem.W.codeIn K cd19 "_law_exchanged" = true) (k19 : PySem.W.keepIn K (.ref f19) = true)
    {od20 an20 : Option Addr} {sl20 : Array (Option Value)} {oc20 kV20 dc20 pm20 cd20 ct20 : Value} {f20 : Addr}
    (a20 : PySem.W.nsIn K mainGlobals "law" = some (some (.ref f20))) (l20 : K.lookup f20 = some ⟨oc20, od20, .func (PySem.W.fnOf "law" "law" (defArgs st_law) (defBody st_law) (defScope st_law) .none kV20 dc20 pm20 an20 cd20 ct20), sl20⟩) (e20 : PySem.W.codeIn K cd20 "law" = true) (k20 : PySem.W.keepIn K (.ref f20) = true)
    (z_bool : PySem.W.nsIn K mainGlobals "bool" = some none)
    (z_int : PySem.W.nsIn K mainGlobals "int" = some none)
    (z_isinstance : PySem.W.nsIn K mainGlobals "isinstance" = some none)
    (z_len : PySem.W.nsIn K mainGlobals "len" = some none)
    (z_list : PySem.W.nsIn K mainGlobals "list" = some none)
    (z_range : PySem.W.nsIn K mainGlobals "range" = some none)
    (z_repr : PySem.W.nsIn K mainGlobals "repr" = some none)
    (z_str : PySem.W.nsIn K mainGlobals "str" = some none)
    (z_tuple : PySem.W.nsIn K mainGlobals "tuple" = some none)
    {caKINDS : Addr} {ciKINDS : Array Value} {cnKINDS : Nat} {csKINDS : Array (Option Value)} {ddKINDS : Option Addr} (cvKINDS : PySem.W.nsIn K mainGlobals "KINDS" = some (some (.ref caKINDS))) (clKINDS : K.lookup caKINDS = some ⟨.type "tuple", ddKINDS, .seq ciKINDS cnKINDS, csKINDS⟩) (cdKINDS : absPs ciKINDS.toList = some [.str [98, 111, 111, 108], .str [105, 110, 116], .str [116, 101, 120, 116], .str [100, 97, 116, 101], .str [100, 101, 99, 105, 109, 97, 108]]) (czKINDS : Nat.ble ciKINDS.size 1000 = true)
    {caOPEN : Addr} {ciOPEN : Array Value} {cnOPEN : Nat} {csOPEN : Array (Option Value)} {ddOPEN : Option Addr} (cvOPEN : PySem.W.nsIn K mainGlobals "OPEN" = some (some (.ref caOPEN))) (clOPEN : K.lookup caOPEN = some ⟨.type "tuple", ddOPEN, .seq ciOPEN cnOPEN, csOPEN⟩) (cdOPEN : absPs ciOPEN.toList = some [.str [97, 115, 32, 100, 97, 116, 101], .str [116, 111, 32, 100, 101, 99, 105, 109, 97, 108], .str [116, 101, 120, 116, 32, 116, 111, 32, 105, 110, 116], .str [116, 101, 120, 116, 32, 116, 111, 32, 100, 97, 116, 101], .str [116, 101, 120, 116, 32, 116, 111, 32, 100, 101, 99, 105, 109, 97, 108], .str [97, 100, 100], .str [115, 117, 98, 116, 114, 97, 99, 116], .str [114, 101, 115, 116], .str [109, 117, 108, 116, 105, 112, 108, 121], .str [100, 105, 118, 105, 100, 101], .str [109, 117, 108, 116, 105, 112, 108, 121, 32, 100, 101, 99, 105, 109, 97, 108, 115], .str [100, 105, 118, 105, 100, 101, 32, 100, 101, 99, 105, 109, 97, 108, 115], .str [106, 111, 105, 110], .str [97, 100, 100, 32, 100, 97, 121, 115], .str [97, 100, 100, 32, 109, 111, 110, 116, 104, 115]]) (czOPEN : Nat.ble ciOPEN.size 1000 = true)
    {caUNARY : Addr} {ciUNARY : Array Value} {cnUNARY : Nat} {csUNARY : Array (Option Value)} {ddUNARY : Option Addr} (cvUNARY : PySem.W.nsIn K mainGlobals "UNARY" = some (some (.ref caUNARY))) (clUNARY : K.lookup caUNARY = some ⟨.type "tuple", ddUNARY, .seq ciUNARY cnUNARY, csUNARY⟩) (cdUNARY : absPs ciUNARY.toList = some [.str [110, 111, 116], .str [110, 101, 103, 97, 116, 101], .str [97, 98, 115], .str [115, 105, 103, 110], .str [105, 115, 32, 110, 117, 108, 108], .str [108, 111, 119, 101, 114], .str [117, 112, 112, 101, 114], .str [108, 101, 110, 103, 116, 104], .str [116, 114, 105, 109], .str [121, 101, 97, 114], .str [109, 111, 110, 116, 104], .str [100, 97, 121], .str [119, 101, 101, 107, 100, 97, 121], .str [109, 111, 110, 116, 104, 32, 115, 116, 97, 114, 116], .str [121, 101, 97, 114, 32, 115, 116, 97, 114, 116], .str [119, 101, 101, 107, 32, 115, 116, 97, 114, 116], .str [97, 115, 32, 100, 97, 116, 101], .str [97, 115, 32, 100, 101, 99, 105, 109, 97, 108], .str [116, 111, 32, 100, 101, 99, 105, 109, 97, 108], .str [116, 111, 32, 105, 110, 116], .str [105, 110, 116, 32, 116, 111, 32, 116, 101, 120, 116], .str [100, 101, 99, 105, 109, 97, 108, 32, 116, 111, 32, 116, 101, 120, 116], .str [100, 97, 116, 101, 32, 116, 111, 32, 116, 101, 120, 116], .str [116, 101, 120, 116, 32, 116, 111, 32, 105, 110, 116], .str [116, 101, 120, 116, 32, 116, 111, 32, 100, 101, 99, 105, 109, 97, 108], .str [116, 101, 120, 116, 32, 116, 111, 32, 100, 97, 116, 101]]) (czUNARY : Nat.ble ciUNARY.size 1000 = true)
    {caBINARY : Addr} {ciBINARY : Array Value} {cnBINARY : Nat} {csBINARY : Array (Option Value)} {ddBINARY : Option Addr} (cvBINARY : PySem.W.nsIn K mainGlobals "BINARY" = some (some (.ref caBINARY))) (clBINARY : K.lookup caBINARY = some ⟨.type "tuple", ddBINARY, .seq ciBINARY cnBINARY, csBINARY⟩) (cdBINARY : absPs ciBINARY.toList = some [.str [97, 110, 100], .str [111, 114], .str [101, 113, 117, 97, 108], .str [108, 101, 115, 115], .str [97, 116, 32, 109, 111, 115, 116], .str [115, 97, 109, 101], .str [108, 101, 97, 115, 116], .str [103, 114, 101, 97, 116, 101, 115, 116], .str [97, 100, 100], .str [115, 117, 98, 116, 114, 97, 99, 116], .str [109, 117, 108, 116, 105, 112, 108, 121], .str [100, 105, 118, 105, 100, 101], .str [114, 101, 115, 116], .str [109, 117, 108, 116, 105, 112, 108, 121, 32, 100, 101, 99, 105, 109, 97, 108, 115], .str [100, 105, 118, 105, 100, 101, 32, 100, 101, 99, 105, 109, 97, 108, 115], .str [106, 111, 105, 110], .str [108, 105, 107, 101], .str [112, 111, 115, 105, 116, 105, 111, 110], .str [99, 111, 97, 108, 101, 115, 99, 101], .str [97, 100, 100, 32, 100, 97, 121, 115], .str [97, 100, 100, 32, 109, 111, 110, 116, 104, 115]]) (czBINARY : Nat.ble ciBINARY.size 1000 = true)
    {caTERNARY : Addr} {ciTERNARY : Array Value} {cnTERNARY : Nat} {csTERNARY : Array (Option Value)} {ddTERNARY : Option Addr} (cvTERNARY : PySem.W.nsIn K mainGlobals "TERNARY" = some (some (.ref caTERNARY))) (clTERNARY : K.lookup caTERNARY = some ⟨.type "tuple", ddTERNARY, .seq ciTERNARY cnTERNARY, csTERNARY⟩) (cdTERNARY : absPs ciTERNARY.toList = some [.str [112, 97, 114, 116], .str [115, 112, 108, 105, 116], .str [114, 101, 112, 108, 97, 99, 101], .str [112, 97, 100]]) (czTERNARY : Nat.ble ciTERNARY.size 1000 = true)
    {taUNARY_KINDS : Addr} {teUNARY_KINDS : Array DictEntry} {tpUNARY_KINDS : Nat} {tsUNARY_KINDS : Array (Option Value)} (tvUNARY_KINDS : PySem.W.nsIn K mainGlobals "UNARY_KINDS" = some (some (.ref taUNARY_KINDS))) (tlUNARY_KINDS : K.lookup taUNARY_KINDS = some ⟨.type "dict", none, .dict teUNARY_KINDS tpUNARY_KINDS, tsUNARY_KINDS⟩) (thUNARY_KINDS : (teUNARY_KINDS.toList.all fun e => isExactStrKey e.key) = true) (tdUNARY_KINDS : tabOf K 3 teUNARY_KINDS kt_UNARY_KINDS = some dt_UNARY_KINDS)
    {taBINARY_KINDS : Addr} {teBINARY_KINDS : Array DictEntry} {tpBINARY_KINDS : Nat} {tsBINARY_KINDS : Array (Option Value)} (tvBINARY_KINDS : PySem.W.nsIn K mainGlobals "BINARY_KINDS" = some (some (.ref taBINARY_KINDS))) (tlBINARY_KINDS : K.lookup taBINARY_KINDS = some ⟨.type "dict", none, .dict teBINARY_KINDS tpBINARY_KINDS, tsBINARY_KINDS⟩) (thBINARY_KINDS : (teBINARY_KINDS.toList.all fun e => isExactStrKey e.key) = true) (tdBINARY_KINDS : tabOf K 3 teBINARY_KINDS kt_BINARY_KINDS = some dt_BINARY_KINDS)
    {taTERNARY_KINDS : Addr} {teTERNARY_KINDS : Array DictEntry} {tpTERNARY_KINDS : Nat} {tsTERNARY_KINDS : Array (Option Value)} (tvTERNARY_KINDS : PySem.W.nsIn K mainGlobals "TERNARY_KINDS" = some (some (.ref taTERNARY_KINDS))) (tlTERNARY_KINDS : K.lookup taTERNARY_KINDS = some ⟨.type "dict", none, .dict teTERNARY_KINDS tpTERNARY_KINDS, tsTERNARY_KINDS⟩) (thTERNARY_KINDS : (teTERNARY_KINDS.toList.all fun e => isExactStrKey e.key) = true) (tdTERNARY_KINDS : tabOf K 3 teTERNARY_KINDS kt_TERNARY_KINDS = some dt_TERNARY_KINDS) :
    ∃ fd : FuncData, (∀ (s : Shared) (v : Value), BindsTo s fd ⟨[v], []⟩ [("_law_script", v)]) ∧ ∀ base : Heap, K.In base → base.Ns mainGlobals mg → base.NoDigits → FnA P w K mg base callerA fa fd ["_law_script"] (spP K d_law) := by
  have D__law_numbers : DefAt K mg "_law_numbers" st__law_numbers := ⟨f0, _, PySem.W.mg_of X G a0, fun_mk (st := st__law_numbers) l0 e0 k0⟩
  have D__law_columns_of : DefAt K mg "_law_columns_of" st__law_columns_of := ⟨f1, _, PySem.W.mg_of X G a1, fun_mk (st := st__law_columns_of) l1 e1 k1⟩
  have D__law_choice_kind : DefAt K mg "_law_choice_kind" st__law_choice_kind := ⟨f2, _, PySem.W.mg_of X G a2, fun_mk (st := st__law_choice_kind) l2 e2 k2⟩
  have D__law_unary_kind : DefAt K mg "_law_unary_kind" st__law_unary_kind := ⟨f3, _, PySem.W.mg_of X G a3, fun_mk (st := st__law_unary_kind) l3 e3 k3⟩
  have D__law_binary_kind : DefAt K mg "_law_binary_kind" st__law_binary_kind := ⟨f4, _, PySem.W.mg_of X G a4, fun_mk (st := st__law_binary_kind) l4 e4 k4⟩
  have D__law_rank : DefAt K mg "_law_rank" st__law_rank := ⟨f5, _, PySem.W.mg_of X G a5, fun_mk (st := st__law_rank) l5 e5 k5⟩
  have D__law_kind : DefAt K mg "_law_kind" st__law_kind := ⟨f6, _, PySem.W.mg_of X G a6, fun_mk (st := st__law_kind) l6 e6 k6⟩
  have D_constant_kind : DefAt K mg "constant_kind" st_constant_kind := ⟨f7, _, PySem.W.mg_of X G a7, fun_mk (st := st_constant_kind) l7 e7 k7⟩
  have D_choice_kind : DefAt K mg "choice_kind" st_choice_kind := ⟨f8, _, PySem.W.mg_of X G a8, fun_mk (st := st_choice_kind) l8 e8 k8⟩
  have D_unary_kind : DefAt K mg "unary_kind" st_unary_kind := ⟨f9, _, PySem.W.mg_of X G a9, fun_mk (st := st_unary_kind) l9 e9 k9⟩
  have D_binary_kind : DefAt K mg "binary_kind" st_binary_kind := ⟨f10, _, PySem.W.mg_of X G a10, fun_mk (st := st_binary_kind) l10 e10 k10⟩
  have D_kind_of : DefAt K mg "kind_of" st_kind_of := ⟨f11, _, PySem.W.mg_of X G a11, fun_mk (st := st_kind_of) l11 e11 k11⟩
  have D__law_text : DefAt K mg "_law_text" st__law_text := ⟨f12, _, PySem.W.mg_of X G a12, fun_mk (st := st__law_text) l12 e12 k12⟩
  have D__law_value : DefAt K mg "_law_value" st__law_value := ⟨f13, _, PySem.W.mg_of X G a13, fun_mk (st := st__law_value) l13 e13 k13⟩
  have D__law_expression : DefAt K mg "_law_expression" st__law_expression := ⟨f14, _, PySem.W.mg_of X G a14, fun_mk (st := st__law_expression) l14 e14 k14⟩
  have D__law_drawn : DefAt K mg "_law_drawn" st__law_drawn := ⟨f15, _, PySem.W.mg_of X G a15, fun_mk (st := st__law_drawn) l15 e15 k15⟩
  have D__law_leaf : DefAt K mg "_law_leaf" st__law_leaf := ⟨f16, _, PySem.W.mg_of X G a16, fun_mk (st := st__law_leaf) l16 e16 k16⟩
  have D__law_makers : DefAt K mg "_law_makers" st__law_makers := ⟨f17, _, PySem.W.mg_of X G a17, fun_mk (st := st__law_makers) l17 e17 k17⟩
  have D__law_kinded : DefAt K mg "_law_kinded" st__law_kinded := ⟨f18, _, PySem.W.mg_of X G a18, fun_mk (st := st__law_kinded) l18 e18 k18⟩
  have D__law_exchanged : DefAt K mg "_law_exchanged" st__law_exchanged := ⟨f19, _, PySem.W.mg_of X G a19, fun_mk (st := st__law_exchanged) l19 e19 k19⟩
  have D_law : DefAt K mg "law" st_law := ⟨f20, _, PySem.W.mg_of X G a20, fun_mk (st := st_law) l20 e20 k20⟩
  have m_bool : mg "bool" = none := PySem.W.mg_none_of X G z_bool
  have m_int : mg "int" = none := PySem.W.mg_none_of X G z_int
  have m_isinstance : mg "isinstance" = none := PySem.W.mg_none_of X G z_isinstance
  have m_len : mg "len" = none := PySem.W.mg_none_of X G z_len
  have m_list : mg "list" = none := PySem.W.mg_none_of X G z_list
  have m_range : mg "range" = none := PySem.W.mg_none_of X G z_range
  have m_repr : mg "repr" = none := PySem.W.mg_none_of X G z_repr
  have m_str : mg "str" = none := PySem.W.mg_none_of X G z_str
  have m_tuple : mg "tuple" = none := PySem.W.mg_none_of X G z_tuple
  have hc_KINDS := (constT X G cvKINDS clKINDS cdKINDS czKINDS : ConstD K mg "KINDS" c_KINDS)
  have hc_OPEN := (constT X G cvOPEN clOPEN cdOPEN czOPEN : ConstD K mg "OPEN" c_OPEN)
  have hc_UNARY := (constT X G cvUNARY clUNARY cdUNARY czUNARY : ConstD K mg "UNARY" c_UNARY)
  have hc_BINARY := (constT X G cvBINARY clBINARY cdBINARY czBINARY : ConstD K mg "BINARY" c_BINARY)
  have hc_TERNARY := (constT X G cvTERNARY clTERNARY cdTERNARY czTERNARY : ConstD K mg "TERNARY" c_TERNARY)
  refine ⟨PySem.W.fnOf "law" "law" (defArgs st_law) (defBody st_law) (defScope st_law) .none kV20 dc20 pm20 an20 cd20 ct20, fun s v => .of_eq rfl, fun base _ _ hnd => ?_⟩
  have t_UNARY_KINDS := tabK_mk X G tvUNARY_KINDS tlUNARY_KINDS thUNARY_KINDS tdUNARY_KINDS
  have t_BINARY_KINDS := tabK_mk X G tvBINARY_KINDS tlBINARY_KINDS thBINARY_KINDS tdBINARY_KINDS
  have t_TERNARY_KINDS := tabK_mk X G tvTERNARY_KINDS tlTERNARY_KINDS thTERNARY_KINDS tdTERNARY_KINDS
  have c__law_numbers := ok__law_numbers (P := P) (w := w) (base := base) D__law_numbers m_int m_len m_range
  have c__law_columns_of := ok__law_columns_of (P := P) (w := w) (base := base) D__law_columns_of m_int m_range
  have c__law_choice_kind := ok__law_choice_kind (P := P) (w := w) (base := base) D__law_choice_kind
  have c__law_unary_kind := ok__law_unary_kind (P := P) (w := w) (base := base) D__law_unary_kind
  have c__law_binary_kind := ok__law_binary_kind (P := P) (w := w) (base := base) D__law_binary_kind m_int
  have c__law_rank := ok__law_rank (P := P) (w := w) (base := base) D__law_rank m_isinstance m_str
  have c__law_kind := ok__law_kind (P := P) (w := w) (base := base) D__law_kind m_len m_range m_tuple c__law_choice_kind c__law_unary_kind c__law_binary_kind c__law_rank 40
  have c_constant_kind := ok_constant_kind (P := P) (w := w) (base := base) D_constant_kind m_bool m_isinstance m_str
  have c_unary_kind := ok_unary_kind (P := P) (w := w) (base := base) D_unary_kind hc_OPEN t_UNARY_KINDS
  have c_binary_kind := ok_binary_kind (P := P) (w := w) (base := base) D_binary_kind hc_OPEN t_BINARY_KINDS
  have c_kind_of := ok_kind_of (P := P) (w := w) (base := base) D_kind_of D_choice_kind m_len m_tuple t_TERNARY_KINDS c_constant_kind c_unary_kind c_binary_kind 40
  have c__law_text := ok__law_text (P := P) (w := w) (base := base) D__law_text m_int m_range
  have c__law_value := ok__law_value (P := P) (w := w) (base := base) D__law_value m_int c__law_text
  have c__law_expression := ok__law_expression (P := P) (w := w) (base := base) D__law_expression m_int hc_UNARY hc_BINARY hc_TERNARY c__law_value 40
  have c__law_drawn := ok__law_drawn (P := P) (w := w) (base := base) D__law_drawn m_int hc_BINARY hc_UNARY hc_TERNARY c__law_expression
  have c__law_leaf := ok__law_leaf (P := P) (w := w) (base := base) D__law_leaf m_int m_len m_range c__law_text
  have c__law_makers := ok__law_makers (P := P) (w := w) (base := base) D__law_makers
  have c__law_kinded := ok__law_kinded (P := P) (w := w) (base := base) D__law_kinded m_int m_len m_range m_tuple c__law_leaf c__law_makers 40
  have c__law_exchanged := ok__law_exchanged (P := P) (w := w) (base := base) D__law_exchanged m_int hc_UNARY hc_BINARY
  cases hfa.symm.trans (PySem.W.mg_of X G a20)
  exact ok_law (P := P) (w := w) (base := base) (fun_mk (st := st_law) l20 e20 k20) m_int m_isinstance m_len m_list m_repr m_tuple hc_KINDS c__law_numbers c__law_columns_of c__law_kind c_kind_of c__law_drawn c__law_kinded c__law_exchanged
end Qk14
open PySem PySem.W PyProof.Rows
set_option maxHeartbeats 0 in
theorem PySem.Challenge.cw_stylobate_k14_kinds_of_expressions_holds : PySem.Challenge.rw_stylobate_k14_kinds_of_expressions.Holds := by
  w_on
  refine headZ ?_
  k_fill
  refine Z.walk_ofA (l := PySem.Challenge.rw_stylobate_k14_kinds_of_expressions) (n := 63) (x := "_law_script") (f := Qk14.d_law) rfl (by decide) rfl (fun w h Y => PySem.W.kIn_of Y) ?F (fun ns hl => Qk14.law_true ns hl)
  case F =>
    intro w mg fa h KX G hmg
    refine' Qk14.all_mk KX G hmg ?a0 ?l0 ?e0 ?k0 ?a1 ?l1 ?e1 ?k1 ?a2 ?l2 ?e2 ?k2 ?a3 ?l3 ?e3 ?k3 ?a4 ?l4 ?e4 ?k4 ?a5 ?l5 ?e5 ?k5 ?a6 ?l6 ?e6 ?k6 ?a7 ?l7 ?e7 ?k7 ?a8 ?l8 ?e8 ?k8 ?a9 ?l9 ?e9 ?k9 ?a10 ?l10 ?e10 ?k10 ?a11 ?l11 ?e11 ?k11 ?a12 ?l12 ?e12 ?k12 ?a13 ?l13 ?e13 ?k13 ?a14 ?l14 ?e14 ?k14 ?a15 ?l15 ?e15 ?k15 ?a16 ?l16 ?e16 ?k16 ?a17 ?l17 ?e17 ?k17 ?a18 ?l18 ?e18 ?k18 ?a19 ?l19 ?e19 ?k19 ?a20 ?l20 ?e20 ?k20 ?z_bool ?z_int ?z_isinstance ?z_len ?z_list ?z_range ?z_repr ?z_str ?z_tuple ?cvKINDS ?clKINDS ?cdKINDS ?czKINDS ?cvOPEN ?clOPEN ?cdOPEN ?czOPEN ?cvUNARY ?clUNARY ?cdUNARY ?czUNARY ?cvBINARY ?clBINARY ?cdBINARY ?czBINARY ?cvTERNARY ?clTERNARY ?cdTERNARY ?czTERNARY ?tvUNARY_KINDS ?tlUNARY_KINDS ?thUNARY_KINDS ?tdUNARY_KINDS ?tvBINARY_KINDS ?tlBINARY_KINDS ?thBINARY_KINDS ?tdBINARY_KINDS ?tvTERNARY_KINDS ?tlTERNARY_KINDS ?thTERNARY_KINDS ?tdTERNARY_KINDS
    (case a0 => k_is); (case l0 => k_is); (case e0 => k_is); (case k0 => k_is); (case a1 => k_is); (case l1 => k_is); (case e1 => k_is); (case k1 => k_is); (case a2 => k_is); (case l2 => k_is); (case e2 => k_is); (case k2 => k_is); (case a3 => k_is); (case l3 => k_is); (case e3 => k_is); (case k3 => k_is); (case a4 => k_is); (case l4 => k_is); (case e4 => k_is); (case k4 => k_is); (case a5 => k_is); (case l5 => k_is); (case e5 => k_is); (case k5 => k_is); (case a6 => k_is); (case l6 => k_is); (case e6 => k_is); (case k6 => k_is); (case a7 => k_is); (case l7 => k_is); (case e7 => k_is); (case k7 => k_is); (case a8 => k_is); (case l8 => k_is); (case e8 => k_is); (case k8 => k_is); (case a9 => k_is); (case l9 => k_is); (case e9 => k_is); (case k9 => k_is); (case a10 => k_is); (case l10 => k_is); (case e10 => k_is); (case k10 => k_is); (case a11 => k_is); (case l11 => k_is); (case e11 => k_is); (case k11 => k_is); (case a12 => k_is); (case l12 => k_is); (case e12 => k_is); (case k12 => k_is); (case a13 => k_is); (case l13 => k_is); (case e13 => k_is); (case k13 => k_is); (case a14 => k_is); (case l14 => k_is); (case e14 => k_is); (case k14 => k_is); (case a15 => k_is); (case l15 => k_is); (case e15 => k_is); (case k15 => k_is); (case a16 => k_is); (case l16 => k_is); (case e16 => k_is); (case k16 => k_is); (case a17 => k_is); (case l17 => k_is); (case e17 => k_is); (case k17 => k_is); (case a18 => k_is); (case l18 => k_is); (case e18 => k_is); (case k18 => k_is); (case a19 => k_is); (case l19 => k_is); (case e19 => k_is); (case k19 => k_is); (case a20 => k_is); (case l20 => k_is); (case e20 => k_is); (case k20 => k_is); (case z_bool => k_is); (case z_int => k_is); (case z_isinstance => k_is); (case z_len => k_is); (case z_list => k_is); (case z_range => k_is); (case z_repr => k_is); (case z_str => k_is); (case z_tuple => k_is); (case cvKINDS => k_is); (case clKINDS => k_is); (case cdKINDS => exact rfl); (case czKINDS => exact rfl); (case cvOPEN => k_is); (case clOPEN => k_is); (case cdOPEN => exact rfl); (case czOPEN => exact rfl); (case cvUNARY => k_is); (case clUNARY => k_is); (case cdUNARY => exact rfl); (case czUNARY => exact rfl); (case cvBINARY => k_is); (case clBINARY => k_is); (case cdBINARY => exact rfl); (case czBINARY => exact rfl); (case cvTERNARY => k_is); (case clTERNARY => k_is); (case cdTERNARY => exact rfl); (case czTERNARY => exact rfl); (case tvUNARY_KINDS => k_is); (case tlUNARY_KINDS => k_is); (case thUNARY_KINDS => exact rfl); (case tdUNARY_KINDS => exact rfl); (case tvBINARY_KINDS => k_is); (case tlBINARY_KINDS => k_is); (case thBINARY_KINDS => exact rfl); (case tdBINARY_KINDS => exact rfl); (case tvTERNARY_KINDS => k_is); (case tlTERNARY_KINDS => k_is); (case thTERNARY_KINDS => exact rfl); (case tdTERNARY_KINDS => exact rfl)
#print axioms PySem.Challenge.cw_stylobate_k14_kinds_of_expressions_holds
