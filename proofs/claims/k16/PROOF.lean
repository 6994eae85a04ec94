import PyProof.Rows.All
import Wide.All
import OpenK.AllK
import Wide.FinOn
import HandS.ForMost
import HandS.Style
import HandS.IsInst
import HandS.Wide
import HandS.Deep
import PyProof.Rows.EqBoolInt
import HandS.WideBits
import HandS.TupAny
import HandS.Comp
import HandS.Iter
import HandS.Replace
import PyProof.ReprRoads
import PyProof.ReprLen
import PyProof.StrBlock2
import HandS.TupLe
import HandS.FStr
import HandS.Small
import KE.KxField
import KE.IntTextLaws
import HandS.StrMore
import HandS.RaiseMore
import HandS.Codes
import PyProof.Rows.StrFirst
import HandS.Dict
import KE.KTab
import PyProof.Rows.StrDigitsNeg
import HandS.SetFor
import HandS.Strs
import HandS.IterVal
import KE.KSortKey
import HandS.SortOrd
import HandS.SortKw
import KE.KeyNested
import HandS.TupSets
import HandS.SetKeys
import PySem.Challenge.RW_stylobate_k16_different_rows_and_limits
set_option Elab.async false
set_option linter.all false
set_option maxRecDepth 100000 in
set_option maxHeartbeats 0 in
open_top headZ for PySem.Challenge.rw_stylobate_k16_different_rows_and_limits
set_option Elab.async false
set_option linter.all false
set_option maxRecDepth 100000
set_option maxHeartbeats 4000000
namespace Z
open PySem PySem.Spec PyProof.Rows L2
inductive D where
  | non | bl (b : Bool) | int (i : Int) | str (s : List Nat) | tup (l : List D) | lst (l : List D) | raw (v : V) | dic (ks : List (List Nat)) (vs : List D)
  deriving Inhabited
/-- a text as a dict's key -/
def kS (s : List Nat) : Key := .inr ⟨s.toArray⟩
mutual
inductive Dz (K : PySem.W.Frag) (H : Hp) : V → D → Prop
  | non : Dz K H .non .non
  | bl (b : Bool) : Dz K H (.bl b) (.bl b)
  | int (i : Int) : Dz K H (.int i) (.int i)
  | str (s : List Nat) : Dz K H (.str ⟨s.toArray⟩) (.str s)
  | tup {a : Addr} {xs : List V} {ds : List D} : SqT K H a xs → DzA K H xs ds → Dz K H (.ref a) (.tup ds)
  | lst {a : Addr} {xs : List V} {ds : List D} : SqL K H a xs → DzA K H xs ds → Dz K H (.ref a) (.lst ds)
  | raw (v : V) : Dz K H v (.raw v)
  | dic {a : Addr} {ks : List (List Nat)} {xs : List V} {ds : List D} : H a = some (.dK ((ks.map kS).zip xs)) → ks.length = xs.length → DzA K H xs ds → Dz K H (.ref a) (.dic ks ds)
inductive DzA (K : PySem.W.Frag) (H : Hp) : List V → List D → Prop
  | nil : DzA K H [] []
  | cons {v : V} {vs : List V} {d : D} {ds : List D} : Dz K H v d → DzA K H vs ds → DzA K H (v :: vs) (d :: ds)
end
theorem sameT {K : PySem.W.Frag} {H H' : Hp} {a : Addr} {xs : List V} (e : Same H H') (h : SqT K H a xs) : SqT K H' a xs := by
  rcases h with (h | ⟨o, h⟩) | h
  · exact .inl (.inl (e _ _ h))
  · exact .inl (.inr ⟨o, e _ _ h⟩)
  · exact .inr h
section
variable {K : PySem.W.Frag} {H H' : Hp}
mutual
theorem Dz.mono (e : Same H H') : ∀ {v : V} {d : D}, Dz K H v d → Dz K H' v d
  | _, _, .non => .non
  | _, _, .bl b => .bl b
  | _, _, .int i => .int i
  | _, _, .str s => .str s
  | _, _, .tup s a => .tup (sameT e s) (DzA.mono e a)
  | _, _, .lst s a => .lst (e.seq s) (DzA.mono e a)
  | _, _, .raw v => .raw v
  | _, _, .dic s n a => .dic (e _ _ s) n (DzA.mono e a)
theorem DzA.mono (e : Same H H') : ∀ {vs : List V} {ds : List D}, DzA K H vs ds → DzA K H' vs ds
  | _, _, .nil => .nil
  | _, _, .cons h t => .cons (Dz.mono e h) (DzA.mono e t)
end
theorem DzA.length : ∀ {vs : List V} {ds : List D}, DzA K H vs ds → vs.length = ds.length
  | _, _, .nil => rfl
  | _, _, .cons _ t => by rw [List.length_cons, List.length_cons, DzA.length t]
theorem DzA.get : ∀ {vs : List V} {ds : List D} {i : Nat} {d : D}, DzA K H vs ds → ds[i]? = some d → ∃ v, vs[i]? = some v ∧ Dz K H v d
  | _, _, _, _, .nil, e => by simp at e
  | _, _, 0, _, .cons h _, e => by simp at e; subst e; exact ⟨_, rfl, h⟩
  | _, _, i + 1, d, .cons _ t, e => by
    obtain ⟨v, h1, h2⟩ := DzA.get (i := i) t (by simpa using e)
    exact ⟨v, by simpa using h1, h2⟩
theorem DzA.getV : ∀ {vs : List V} {ds : List D} {i : Nat} {v : V}, DzA K H vs ds → vs[i]? = some v → ∃ d, ds[i]? = some d ∧ Dz K H v d
  | _, _, _, _, .nil, e => by simp at e
  | _, _, 0, _, .cons h _, e => by simp at e; subst e; exact ⟨_, rfl, h⟩
  | _, _, i + 1, d, .cons _ t, e => by
    obtain ⟨v, h1, h2⟩ := DzA.getV (i := i) t (by simpa using e)
    exact ⟨v, by simpa using h1, h2⟩
theorem DzA.append : ∀ {vs ws : List V} {ds es : List D}, DzA K H vs ds → DzA K H ws es → DzA K H (vs ++ ws) (ds ++ es)
  | _, _, _, _, .nil, s => s
  | _, _, _, _, .cons h t, s => .cons h (DzA.append t s)
theorem DzA.take : ∀ {vs : List V} {ds : List D} (n : Nat), DzA K H vs ds → DzA K H (vs.take n) (ds.take n)
  | _, _, 0, _ => .nil
  | _, _, _ + 1, .nil => .nil
  | _, _, n + 1, .cons h t => .cons h (DzA.take n t)
theorem DzA.drop : ∀ {vs : List V} {ds : List D} (n : Nat), DzA K H vs ds → DzA K H (vs.drop n) (ds.drop n)
  | _, _, 0, r => r
  | _, _, _ + 1, .nil => .nil
  | _, _, n + 1, .cons _ t => DzA.drop n t
theorem DzA.set {v : V} {d : D} (r : Dz K H v d) : ∀ {vs : List V} {ds : List D} (i : Nat), DzA K H vs ds → DzA K H (vs.set i v) (ds.set i d)
  | _, _, _, .nil => .nil
  | _, _, 0, .cons _ t => .cons r t
  | _, _, i + 1, .cons q t => .cons q (DzA.set r i t)
end
/-- no reference within: true in any heap -/
def D.scal : D → Bool
  | .non => true | .bl _ => true | .int _ => true | .str _ => true | .raw _ => true
  | _ => false
theorem Dz.any {K : PySem.W.Frag} {H H' : Hp} {v : V} {d : D} (s : d.scal = true) (h : Dz K H v d) : Dz K H' v d := by
  cases h with
  | non => exact .non
  | bl b => exact .bl b
  | int i => exact .int i
  | str z => exact .str z
  | raw v => exact .raw v
  | dic _ _ _ => exact absurd s (by simp [D.scal])
  | tup _ _ => exact absurd s (by simp [D.scal])
  | lst _ _ => exact absurd s (by simp [D.scal])
theorem DzA.any {K : PySem.W.Frag} {H H' : Hp} : ∀ {vs : List V} {ds : List D}, ds.all D.scal = true → DzA K H vs ds → DzA K H' vs ds
  | _, _, _, .nil => .nil
  | _, _, s, .cons h t => by
    rw [List.all_cons, Bool.and_eq_true] at s
    exact .cons (h.any s.1) (DzA.any s.2 t)
/-- what a container of the def's own holds -/
inductive Cn where
  | lst (l : List D)
  deriving Inhabited
def CnOk (K : PySem.W.Frag) (Hs : Hp) : Cn → HO → Prop
  | .lst ds, .lst vs => DzA K Hs vs ds
  | _, _ => False
def Cn.d : Cn → D
  | .lst l => .lst l
def Cn.scal : Cn → Bool
  | .lst l => l.all D.scal
theorem CnOk.mono {K : PySem.W.Frag} {H H' : Hp} (e : Same H H') {c : Cn} {o : HO} (h : CnOk K H c o) : CnOk K H' c o := by
  cases c with
  | lst l =>
    cases o with
    | lst vs => exact DzA.mono e (show DzA K H vs l from h)
    | _ => exact (show False from h).elim
theorem CnOk.any {K : PySem.W.Frag} {H H' : Hp} {c : Cn} {o : HO} (s : c.scal = true) (h : CnOk K H c o) : CnOk K H' c o := by
  cases c with
  | lst l =>
    cases o with
    | lst vs => exact DzA.any s (show DzA K H vs l from h)
    | _ => exact (show False from h).elim
theorem CnOk.dz {K : PySem.W.Frag} {H : Hp} {c : Cn} {o : HO} {a : Addr} (h : CnOk K H c o) (e : H a = some o) : Dz K H (.ref a) c.d := by
  cases c with
  | lst l =>
    cases o with
    | lst vs => exact .lst (SqL.of e) (show DzA K H vs l from h)
    | _ => exact (show False from h).elim
/-- a slot: nothing known; data; a container of the def's own (pin: a parameter's; lock: walked now); a container that is data from now on -/
inductive Sl where
  | un | dat (d : D) | own (c : Cn) (pin lock : Bool) | frz (d : D) | rws (l : List (List D))
  deriving Inhabited
/-- an expression's value: data, or the container at a slot -/
inductive R where
  | dat (d : D) | bor (j : Nat)
  deriving Inhabited
/-- of a def: its names' number, the heap and the known heap at the entry, its parameters that it may change -/
structure Ct where
  K : PySem.W.Frag
  n : Nat
  H0 : Hp
  Hs0 : Hp
  pins : List (Nat × Addr)
  locks : List (Nat × Addr × Cn)
  plt : ∀ q ∈ pins, q.1 < n
  llt : ∀ q ∈ locks, q.1 < n
def kidsOf : Option HO → List Addr
  | some (.lst vs) => vs.filterMap fun v => match v with
    | .ref b => some b
    | _ => none
  | _ => []
theorem kidsOf_refs (ks : List Addr) : kidsOf (some (.lst (ks.map V.ref))) = ks := by
  show (ks.map V.ref).filterMap _ = ks
  induction ks with
  | nil => rfl
  | cons k ks ih => rw [List.map_cons, List.filterMap_cons]; simp only; rw [ih]
def KdOk (K : PySem.W.Frag) (Hs H : Hp) : List Addr → List (List D) → Prop
  | [], [] => True
  | b :: bs, l :: ls => (∃ us, H b = some (.lst us) ∧ DzA K Hs us l) ∧ KdOk K Hs H bs ls
  | _, _ => False
theorem KdOk.live {K : PySem.W.Frag} {Hs H : Hp} : ∀ {ks : List Addr} {ls : List (List D)}, KdOk K Hs H ks ls → ∀ x ∈ ks, ∃ o, H x = some o
  | [], [], _, _, m => (List.not_mem_nil m).elim
  | b :: bs, l :: ls, h, x, m => by
    rcases List.mem_cons.mp m with rfl | m
    · obtain ⟨us, e, _⟩ := h.1
      exact ⟨_, e⟩
    · exact KdOk.live h.2 x m
  | [], _ :: _, h, _, _ => h.elim
  | _ :: _, [], h, _, _ => h.elim
theorem KdOk.move {K : PySem.W.Frag} {Hs Hs' H H' : Hp} (s : Same Hs Hs') : ∀ {ks : List Addr} {ls : List (List D)}, KdOk K Hs H ks ls → (∀ x ∈ ks, ∀ o, H x = some o → H' x = some o) → KdOk K Hs' H' ks ls
  | [], [], _, _ => trivial
  | b :: bs, l :: ls, h, m => by
    obtain ⟨us, e, z⟩ := h.1
    exact ⟨⟨us, m b List.mem_cons_self _ e, z.mono s⟩, KdOk.move s h.2 fun x hx => m x (List.mem_cons_of_mem _ hx)⟩
  | [], _ :: _, h, _ => h.elim
  | _ :: _, [], h, _ => h.elim
theorem KdOk.len {K : PySem.W.Frag} {Hs H : Hp} : ∀ {ks : List Addr} {ls : List (List D)}, KdOk K Hs H ks ls → ks.length = ls.length
  | [], [], _ => rfl
  | _ :: _, _ :: _, h => by rw [List.length_cons, List.length_cons, KdOk.len h.2]
  | [], _ :: _, h => h.elim
  | _ :: _, [], h => h.elim
/-- as data -/
theorem KdOk.dz {K : PySem.W.Frag} {Hs H : Hp} (s : Same Hs H) : ∀ {ks : List Addr} {ls : List (List D)}, KdOk K Hs H ks ls → DzA K H (ks.map V.ref) (ls.map D.lst)
  | [], [], _ => .nil
  | b :: bs, l :: ls, h => by
    obtain ⟨us, e, z⟩ := h.1
    exact .cons (.lst (SqL.of e) (z.mono s)) (KdOk.dz s h.2)
  | [], _ :: _, h => h.elim
  | _ :: _, [], h => h.elim
structure Kd (K : PySem.W.Frag) (Hs H0 H : Hp) (a : Addr) (ks : List Addr) (ls : List (List D)) : Prop where
  hd : H a = some (.lst (ks.map V.ref))
  nd : (a :: ks).Nodup
  fr : ∀ x ∈ a :: ks, Hs x = none ∧ H0 x = none
  kd : KdOk K Hs H ks ls
theorem Kd.live {K : PySem.W.Frag} {Hs H0 H : Hp} {a : Addr} {ks : List Addr} {ls : List (List D)} (k : Kd K Hs H0 H a ks ls) : ∀ x ∈ a :: ks, ∃ o, H x = some o := fun x m => by
  rcases List.mem_cons.mp m with rfl | m
  · exact ⟨_, k.hd⟩
  · exact k.kd.live x m
def RwOk (C : Ct) (Hs : Hp) (A : List Addr) (g : List Sl) (σ : L2.St) (H : Hp) : Prop := ∀ (i : Nat) (ls : List (List D)), g[i]? = some (.rws ls) → ∃ a ks, A[i]? = some a ∧ (i < C.n → σ[i]? = some (some (.ref a))) ∧ Kd C.K Hs C.H0 H a ks ls ∧
  (∀ (j : Nat) (c : Cn) (p l : Bool) (b : Addr), g[j]? = some (.own c p l) → A[j]? = some b → b ∉ a :: ks) ∧
  (∀ (j : Nat) (ms : List (List D)) (b x : Addr), g[j]? = some (.rws ms) → A[j]? = some b → x ∈ b :: kidsOf (H b) → x ∈ a :: ks → j = i)
theorem RwOk.step {C C' : Ct} {Hs Hs' : Hp} {A A' : List Addr} {g g' : List Sl} {σ σ' : L2.St} {H H' : Hp} (w : RwOk C Hs A g σ H) (hK : C'.K = C.K) (hn : C'.n = C.n) (s : Same Hs Hs')
    (hx : ∀ x o, H x = some o → Hs x = none → C.H0 x = none → (∀ (j : Nat) (c : Cn) (p l : Bool), g[j]? = some (.own c p l) → A[j]? ≠ some x) → H' x = some o ∧ Hs' x = none ∧ C'.H0 x = none)
    (hg : ∀ (i : Nat) (ls : List (List D)), g'[i]? = some (.rws ls) → g[i]? = some (.rws ls) ∧ A'[i]? = A[i]? ∧ (i < C.n → σ'[i]? = σ[i]?))
    (ho : ∀ (j : Nat) (c : Cn) (p l : Bool) (b : Addr), g'[j]? = some (.own c p l) → A'[j]? = some b → (∃ (k : Nat) (c : Cn) (p l : Bool), g[k]? = some (.own c p l) ∧ A[k]? = some b) ∨ H b = none) : RwOk C' Hs' A' g' σ' H' := by
  have good : ∀ (i : Nat) (ls : List (List D)), g[i]? = some (.rws ls) → ∀ a ks, Kd C.K Hs C.H0 H a ks ls → (∀ (j : Nat) (c : Cn) (p l : Bool) (b : Addr), g[j]? = some (.own c p l) → A[j]? = some b → b ∉ a :: ks) → ∀ x ∈ a :: ks, ∀ o, H x = some o → H' x = some o ∧ Hs' x = none ∧ C'.H0 x = none := fun i ls e a ks k no x m o ex =>
    hx x o ex (k.fr x m).1 (k.fr x m).2 fun j c p l hj z => no j c p l x hj z m
  intro i ls e
  obtain ⟨e1, eA, eσ⟩ := hg i ls e
  obtain ⟨a, ks, q1, q2, q3, q4, q5⟩ := w i ls e1
  have gd := good i ls e1 a ks q3 q4
  refine ⟨a, ks, eA.trans q1, fun h => by rw [eσ (hn ▸ h)]; exact q2 (hn ▸ h), ⟨(gd a List.mem_cons_self _ q3.hd).1, q3.nd, fun x m => ?_, ?_⟩, fun j c p l b ej ab m => ?_, fun j ms b x ej ab m1 m2 => ?_⟩
  · obtain ⟨o, ho⟩ := q3.live x m
    exact (gd x m o ho).2
  · rw [hK]
    exact q3.kd.move s fun x m o h => (gd x (List.mem_cons_of_mem _ m) o h).1
  · rcases ho j c p l b ej ab with ⟨k, c', p', l', z1, z2⟩ | z
    · exact q4 k c' p' l' b z1 z2 m
    · obtain ⟨o, h⟩ := q3.live b m
      rw [z] at h; cases h
  · obtain ⟨f1, fA, _⟩ := hg j ms ej
    obtain ⟨b', ks', r1, _, r3, r4, _⟩ := w j ms f1
    rw [fA] at ab
    rw [ab] at r1
    have eb : b = b' := Option.some.inj r1
    subst eb
    rw [(good j ms f1 b ks' r3 r4 b List.mem_cons_self _ r3.hd).1, ← r3.hd] at m1
    exact q5 j ms b x f1 ab m1 m2
structure Ok (C : Ct) (Hs : Hp) (A : List Addr) (g : List Sl) (σ : L2.St) (H : Hp) : Prop where
  ln : σ.length = C.n
  lg : C.n ≤ g.length
  la : A.length = g.length
  base : Same C.Hs0 Hs
  same : Same Hs H
  dat : ∀ (i : Nat) (d : D), g[i]? = some (.dat d) → ∃ v, σ[i]? = some (some v) ∧ Dz C.K Hs v d
  frz : ∀ (i : Nat) (d : D), g[i]? = some (.frz d) → ∃ a, A[i]? = some a ∧ (i < C.n → σ[i]? = some (some (.ref a))) ∧ Dz C.K Hs (.ref a) d
  own : ∀ (i : Nat) (c : Cn) (p l : Bool), g[i]? = some (.own c p l) → ∃ a o, A[i]? = some a ∧ (i < C.n → σ[i]? = some (some (.ref a))) ∧ Hs a = none ∧ H a = some o ∧ CnOk C.K Hs c o ∧ (p = false → C.H0 a = none)
  inj : ∀ (i j : Nat) (c : Cn) (p l : Bool) (c' : Cn) (p' l' : Bool) (a : Addr), g[i]? = some (.own c p l) → g[j]? = some (.own c' p' l') → A[i]? = some a → A[j]? = some a → i = j
  grow : ∀ b o, Hs b = some o → C.Hs0 b = some o ∨ C.H0 b = none
  keep : ∀ b o, C.H0 b = some o → (∀ q ∈ C.pins, q.2 ≠ b) → H b = some o
  pinned : ∀ q ∈ C.pins, ∃ c l, g[q.1]? = some (.own c true l) ∧ A[q.1]? = some q.2
  pin1 : ∀ (i : Nat) (c : Cn) (l : Bool) (a : Addr), g[i]? = some (.own c true l) → A[i]? = some a → (i, a) ∈ C.pins
  locked : ∀ q ∈ C.locks, ∃ p, g[q.1]? = some (.own q.2.2 p true) ∧ A[q.1]? = some q.2.1
  rws : RwOk C Hs A g σ H
def RelR (K : PySem.W.Frag) (Hs : Hp) (A : List Addr) (v : V) : R → Prop
  | .dat d => Dz K Hs v d
  | .bor j => ∃ a, A[j]? = some a ∧ v = .ref a
def Pre (A A' : List Addr) : Prop := ∀ (j : Nat) (a : Addr), A[j]? = some a → A'[j]? = some a
theorem Pre.refl (A : List Addr) : Pre A A := fun _ _ h => h
theorem Pre.trans {A B C : List Addr} (a : Pre A B) (b : Pre B C) : Pre A C := fun j x h => b j x (a j x h)
theorem Pre.app (A B : List Addr) : Pre A (A ++ B) := fun j a h => by
  have hj := (List.getElem?_eq_some_iff.mp h).1
  rw [List.getElem?_append_left hj]
  exact h
theorem RelR.mono {K : PySem.W.Frag} {Hs Hs' : Hp} {A A' : List Addr} {v : V} {r : R} (s : Same Hs Hs') (p : Pre A A') (h : RelR K Hs A v r) : RelR K Hs' A' v r := by
  cases r with
  | dat d => exact Dz.mono s (show Dz K Hs v d from h)
  | bor j =>
    obtain ⟨a, h1, h2⟩ := (show ∃ a, A[j]? = some a ∧ v = .ref a from h)
    exact ⟨a, p j a h1, h2⟩
/-- what a value is as data -/
def rd (g : List Sl) : R → Option D
  | .dat d => some d
  | .bor j => match g[j]? with
    | some (.own c _ _) => some c.d
    | some (.frz d) => some d
    | _ => none
/-- .. of a list of own lists too (what is known of the present heap only) -/
def rdX (g : List Sl) : R → Option D
  | .dat d => some d
  | .bor j => match g[j]? with
    | some (.own c _ _) => some c.d
    | some (.frz d) => some d
    | some (.rws ls) => some (.lst (ls.map D.lst))
    | _ => none
section
variable {C : Ct} {Hs : Hp} {A : List Addr} {g : List Sl} {σ : L2.St} {H : Hp}
theorem Ok.rd (ok : Ok C Hs A g σ H) {v : V} {r : R} {d : D} (h : RelR C.K Hs A v r) (e : Z.rd g r = some d) : Dz C.K H v d := by
  cases r with
  | dat d' =>
    have e' : d' = d := Option.some.inj e
    subst e'
    exact Dz.mono ok.same (show Dz C.K Hs v d' from h)
  | bor j =>
    obtain ⟨a, h1, rfl⟩ := (show ∃ a, A[j]? = some a ∧ v = .ref a from h)
    have e : (match g[j]? with
      | some (.own c _ _) => some c.d
      | some (.frz d) => some d
      | _ => none) = some d := e
    split at e
    · rename_i c p l hg
      obtain ⟨a', o, ha, _, _, ho, hc, _⟩ := ok.own j c p l hg
      rw [h1] at ha
      have e1 : a = a' := Option.some.inj ha
      subst e1
      have e2 : c.d = d := Option.some.inj e
      subst e2
      exact (hc.mono ok.same).dz ho
    · rename_i d' hg
      obtain ⟨a', ha, _, hd⟩ := ok.frz j d' hg
      rw [h1] at ha
      have e1 : a = a' := Option.some.inj ha
      subst e1
      have e2 : d' = d := Option.some.inj e
      subst e2
      exact hd.mono ok.same
    · cases e
theorem Ok.rdX (ok : Ok C Hs A g σ H) {v : V} {r : R} {d : D} (h : RelR C.K Hs A v r) (e : Z.rdX g r = some d) : Dz C.K H v d := by
  cases r with
  | dat d' => exact ok.rd h e
  | bor j =>
    have e0 : (match g[j]? with
      | some (.own c _ _) => some c.d
      | some (.frz d) => some d
      | some (.rws ls) => some (.lst (ls.map D.lst))
      | _ => none) = some d := e
    split at e0
    · rename_i c p l hg
      exact ok.rd h (by show (match g[j]? with | some (.own c _ _) => some c.d | some (.frz d) => some d | _ => none) = some d; rw [hg]; exact e0)
    · rename_i d' hg
      exact ok.rd h (by show (match g[j]? with | some (.own c _ _) => some c.d | some (.frz d) => some d | _ => none) = some d; rw [hg]; exact e0)
    · rename_i ls hg
      obtain ⟨a, h1, rfl⟩ := (show ∃ a, A[j]? = some a ∧ v = .ref a from h)
      obtain ⟨a', ks, ha, _, hk, _⟩ := ok.rws j ls hg
      rw [h1] at ha
      have e1 : a = a' := Option.some.inj ha
      subst e1
      have e2 : D.lst (ls.map D.lst) = d := Option.some.inj e0
      subst e2
      exact .lst (SqL.of hk.hd) (hk.kd.dz ok.same)
    · cases e0
theorem Ok.fresh0 (ok : Ok C Hs A g σ H) {a : Addr} (h : H a = none) : Hs a = none ∧ C.H0 a = none := by
  constructor
  · cases q : Hs a with
    | none => rfl
    | some o => rw [ok.same a o q] at h; cases h
  · cases q : C.H0 a with
    | none => rfl
    | some o =>
      have : H a = some o := by
        refine ok.keep a o q fun p hp e => ?_
        obtain ⟨c, l, h1, h2⟩ := ok.pinned p hp
        obtain ⟨a', o', ha, _, _, ho, _⟩ := ok.own _ _ _ _ h1
        rw [h2] at ha
        have e1 : p.2 = a' := Option.some.inj ha
        rw [← e1, e] at ho
        rw [ho] at h; cases h
      rw [this] at h; cases h
/-- a new container, held aside -/
theorem Ok.tmp (ok : Ok C Hs A g σ H) {a : Addr} {o : HO} {c : Cn} (h : H a = none) (hc : CnOk C.K Hs c o) : Ok C Hs (A ++ [a]) (g ++ [.own c false false]) σ (upd H a o) := by
  obtain ⟨f1, f2⟩ := ok.fresh0 h
  have old : ∀ (i : Nat) (s : Sl), (g ++ [Sl.own c false false])[i]? = some s → g[i]? = some s ∨ (i = g.length ∧ s = .own c false false) := fun i s e => by
    by_cases hi : i < g.length
    · rw [List.getElem?_append_left hi] at e; exact .inl e
    · rw [List.getElem?_append_right (by omega)] at e
      have : i - g.length = 0 := by
        have := (List.getElem?_eq_some_iff.mp e).1
        simp at this; omega
      rw [this] at e
      exact .inr ⟨by omega, (Option.some.inj e).symm⟩
  have neA : ∀ (i : Nat) (c' : Cn) (p l : Bool) (a' : Addr), g[i]? = some (.own c' p l) → A[i]? = some a' → a' ≠ a := fun i c' p l a' e ha z => by
    obtain ⟨a2, o2, ha2, _, _, ho, _⟩ := ok.own i c' p l e
    rw [ha] at ha2
    have := Option.some.inj ha2
    rw [← this, z, h] at ho; cases ho
  have pre := Pre.app A [a]
  have last : (A ++ [a])[g.length]? = some a := by rw [← ok.la]; simp
  have alt : ∀ (i : Nat), i < g.length → (A ++ [a])[i]? = A[i]? := fun i hi => List.getElem?_append_left (by rw [ok.la]; exact hi)
  refine ⟨ok.ln, by rw [List.length_append]; have := ok.lg; omega, by simp [ok.la], ok.base, fun b o' e => ?_, fun i d e => ?_, fun i d e => ?_, fun i c' p l e => ?_, fun i j c1 p1 l1 c2 p2 l2 a' e1 e2 h1 h2 => ?_, ok.grow, fun b o' e k => ?_, fun q hq => ?_, fun i c' l a' e ha => ?_, fun q hq => ?_, ?_⟩
  · rw [upd_ne (fun z => by rw [z, f1] at e; cases e)]
    exact ok.same b o' e
  · rcases old i _ e with e | ⟨_, e⟩
    · exact ok.dat i d e
    · cases e
  · rcases old i _ e with e | ⟨_, e⟩
    · obtain ⟨a', q1, q2, q3⟩ := ok.frz i d e
      exact ⟨a', pre _ _ q1, q2, q3⟩
    · cases e
  · rcases old i _ e with e | ⟨ei, e⟩
    · obtain ⟨a', o', q1, q2, q3, q4, q5, q6⟩ := ok.own i c' p l e
      exact ⟨a', o', pre _ _ q1, q2, q3, by rw [upd_ne (neA _ _ _ _ _ e q1)]; exact q4, q5, q6⟩
    · cases e
      subst ei
      exact ⟨a, o, last, fun hi => absurd hi (by have := ok.lg; omega), f1, upd_same, hc, fun _ => f2⟩
  · rcases old i _ e1 with e1 | ⟨ei, e1⟩ <;> rcases old j _ e2 with e2 | ⟨ej, e2⟩
    · have hi := (List.getElem?_eq_some_iff.mp e1).1
      have hj := (List.getElem?_eq_some_iff.mp e2).1
      rw [alt i hi] at h1
      rw [alt j hj] at h2
      exact ok.inj i j _ _ _ _ _ _ a' e1 e2 h1 h2
    · have hi := (List.getElem?_eq_some_iff.mp e1).1
      rw [alt i hi] at h1
      subst ej
      rw [last] at h2
      exact absurd (Option.some.inj h2).symm (neA _ _ _ _ _ e1 h1)
    · have hj := (List.getElem?_eq_some_iff.mp e2).1
      rw [alt j hj] at h2
      subst ei
      rw [last] at h1
      exact absurd (Option.some.inj h1).symm (neA _ _ _ _ _ e2 h2)
    · omega
  · rw [upd_ne (fun z => by rw [z, f2] at e; cases e)]
    exact ok.keep b o' e k
  · obtain ⟨c', l, h1, h2⟩ := ok.pinned q hq
    have hi := (List.getElem?_eq_some_iff.mp h1).1
    exact ⟨c', l, by rw [List.getElem?_append_left hi]; exact h1, pre _ _ h2⟩
  · rcases old i _ e with e | ⟨ei, e⟩
    · have hi := (List.getElem?_eq_some_iff.mp e).1
      rw [alt i hi] at ha
      exact ok.pin1 i c' l a' e ha
    · cases e
  · obtain ⟨p, h1, h2⟩ := ok.locked q hq
    have hi := (List.getElem?_eq_some_iff.mp h1).1
    exact ⟨p, by rw [List.getElem?_append_left hi]; exact h1, pre _ _ h2⟩
  · refine RwOk.step ok.rws rfl rfl (Same.refl _) (fun x u ex n1 n2 _ => ⟨by rw [upd_ne (fun z => by rw [z, h] at ex; cases ex)]; exact ex, n1, n2⟩) (fun i ls e => ?_) (fun i c' p l b e hb => ?_)
    · rcases old i _ e with e | ⟨_, e⟩
      · exact ⟨e, alt i (List.getElem?_eq_some_iff.mp e).1, fun _ => rfl⟩
      · cases e
    · rcases old i _ e with e | ⟨ei, e⟩
      · rw [alt i (List.getElem?_eq_some_iff.mp e).1] at hb
        exact .inl ⟨i, c', p, l, e, hb⟩
      · subst ei
        rw [last] at hb
        cases hb
        exact .inr h
/-- a new object that is data from now on -/
theorem Ok.lay (ok : Ok C Hs A g σ H) {a : Addr} {o : HO} (h : H a = none) : Ok C (upd Hs a o) A g σ (upd H a o) ∧ Same Hs (upd Hs a o) := by
  obtain ⟨f1, f2⟩ := ok.fresh0 h
  have sm : Same Hs (upd Hs a o) := fun b o' e => by
    rw [upd_ne (fun z => by rw [z, f1] at e; cases e)]
    exact e
  refine ⟨⟨ok.ln, ok.lg, ok.la, ok.base.trans sm, fun b o' e => ?_, fun i d e => ?_, fun i d e => ?_, fun i c' p l e => ?_, ok.inj, fun b o' e => ?_, fun b o' e k => ?_, ok.pinned, ok.pin1, ok.locked, ?_⟩, sm⟩
  · by_cases z : b = a
    · subst z
      rw [upd_same] at e ⊢
      exact e
    · rw [upd_ne z] at e ⊢
      exact ok.same b o' e
  · obtain ⟨v, q1, q2⟩ := ok.dat i d e
    exact ⟨v, q1, q2.mono sm⟩
  · obtain ⟨v, q1, q2, q3⟩ := ok.frz i d e
    exact ⟨v, q1, q2, q3.mono sm⟩
  · obtain ⟨a', o', q1, q2, q3, q4, q5, q6⟩ := ok.own i c' p l e
    have ne : a' ≠ a := fun z => by rw [z, h] at q4; cases q4
    exact ⟨a', o', q1, q2, by rw [upd_ne ne]; exact q3, by rw [upd_ne ne]; exact q4, q5.mono sm, q6⟩
  · by_cases z : b = a
    · subst z; exact .inr f2
    · rw [upd_ne z] at e; exact ok.grow b o' e
  · rw [upd_ne (fun z => by rw [z, f2] at e; cases e)]
    exact ok.keep b o' e k
  · refine RwOk.step ok.rws rfl rfl sm (fun x u ex n1 n2 _ => ?_) (fun i ls e => ⟨e, rfl, fun _ => rfl⟩) (fun i c' p l b e hb => .inl ⟨i, c', p, l, e, hb⟩)
    have ne : x ≠ a := fun z => by rw [z, h] at ex; cases ex
    exact ⟨by rw [upd_ne ne]; exact ex, by rw [upd_ne ne]; exact n1, n2⟩
/-- the heap grew by things that nobody knows -/
theorem Ok.more (ok : Ok C Hs A g σ H) {H' : Hp} (s : Same H H') : Ok C Hs A g σ H' :=
  ⟨ok.ln, ok.lg, ok.la, ok.base, ok.same.trans s, ok.dat, ok.frz, fun i c p l e => by
    obtain ⟨a, o, q1, q2, q3, q4, q5, q6⟩ := ok.own i c p l e
    exact ⟨a, o, q1, q2, q3, s _ _ q4, q5, q6⟩, ok.inj, ok.grow, fun b o e k => s _ _ (ok.keep b o e k), ok.pinned, ok.pin1, ok.locked,
    RwOk.step ok.rws rfl rfl (Same.refl _) (fun x u ex n1 n2 _ => ⟨s _ _ ex, n1, n2⟩) (fun i ls e => ⟨e, rfl, fun _ => rfl⟩) (fun i c' p l b e hb => .inl ⟨i, c', p, l, e, hb⟩)⟩
/-- .. and by known things -/
theorem Ok.moreS (ok : Ok C Hs A g σ H) {Hs' H' : Hp} (s : Same H H') (s1 : Same Hs Hs') (s2 : Same Hs' H') (gr : ∀ b o, Hs' b = some o → Hs b = some o ∨ H b = none) : Ok C Hs' A g σ H' := by
  refine ⟨ok.ln, ok.lg, ok.la, ok.base.trans s1, s2, fun i d e => ?_, fun i d e => ?_, fun i c p l e => ?_, ok.inj, fun b o e => ?_, fun b o e k => s _ _ (ok.keep b o e k), ok.pinned, ok.pin1, ok.locked, ?_⟩
  · obtain ⟨v, q1, q2⟩ := ok.dat i d e
    exact ⟨v, q1, q2.mono s1⟩
  · obtain ⟨v, q1, q2, q3⟩ := ok.frz i d e
    exact ⟨v, q1, q2, q3.mono s1⟩
  · obtain ⟨a, o, q1, q2, q3, q4, q5, q6⟩ := ok.own i c p l e
    refine ⟨a, o, q1, q2, ?_, s _ _ q4, q5.mono s1, q6⟩
    cases z : Hs' a with
    | none => rfl
    | some o' =>
      rcases gr a o' z with w | w
      · rw [q3] at w; cases w
      · rw [q4] at w; cases w
  · rcases gr b o e with w | w
    · exact ok.grow b o w
    · exact .inr (ok.fresh0 w).2
  · refine RwOk.step ok.rws rfl rfl s1 (fun x u ex n1 n2 _ => ⟨s _ _ ex, ?_, n2⟩) (fun i ls e => ⟨e, rfl, fun _ => rfl⟩) (fun i c' p l b e hb => .inl ⟨i, c', p, l, e, hb⟩)
    cases z : Hs' x with
    | none => rfl
    | some o' =>
      rcases gr x o' z with w | w
      · rw [n1] at w; cases w
      · rw [ex] at w; cases w
end
/-- the container at slot j becomes data -/
def frzAt (j : Nat) (g : List Sl) : Option (D × List Sl) := match g[j]? with
  | some (.own c false false) => some (c.d, g.set j (.frz c.d))
  | some (.frz d) => some (d, g)
  | some (.rws ls) => some (.lst (ls.map D.lst), g.set j (.frz (.lst (ls.map D.lst))))
  | _ => none
def frzR (r : R) (g : List Sl) : Option (D × List Sl) := match r with
  | .dat d => some (d, g)
  | .bor j => frzAt j g
section
variable {C : Ct} {Hs : Hp} {A : List Addr} {g g' : List Sl} {σ : L2.St} {H : Hp} {j : Nat} {d : D} {v : V} {r : R}
/-- slots are changed one by one: a helper -/
theorem set_some {α : Type} {g : List α} {i j : Nat} {s t : α} (e : (g.set j t)[i]? = some s) : (i = j ∧ s = t ∧ j < g.length) ∨ (i ≠ j ∧ g[i]? = some s) := by
  by_cases h : i = j
  · subst h
    by_cases hl : i < g.length
    · rw [List.getElem?_set_self hl] at e
      exact .inl ⟨rfl, (Option.some.inj e).symm, hl⟩
    · have := (List.getElem?_eq_some_iff.mp e).1
      rw [List.length_set] at this
      exact absurd this hl
  · rw [List.getElem?_set_ne (Ne.symm h)] at e
    exact .inr ⟨h, e⟩
theorem Ok.frzAt (ok : Ok C Hs A g σ H) (e : frzAt j g = some (d, g')) : ∃ Hs' a, Same Hs Hs' ∧ Ok C Hs' A g' σ H ∧ A[j]? = some a ∧ Dz C.K Hs' (.ref a) d := by
  unfold Z.frzAt at e
  split at e
  · rename_i c hg
    cases e
    obtain ⟨a, o, q1, q2, q3, q4, q5, q6⟩ := ok.own j c _ _ hg
    have sm : Same Hs (upd Hs a o) := fun b o' e => by
      rw [upd_ne (fun z => by rw [z, q3] at e; cases e)]
      exact e
    have dz : Dz C.K (upd Hs a o) (.ref a) c.d := (q5.mono sm).dz upd_same
    refine ⟨upd Hs a o, a, sm, ⟨ok.ln, by rw [List.length_set]; exact ok.lg, by rw [List.length_set]; exact ok.la, ok.base.trans sm, fun b o' e => ?_, fun i d e => ?_, fun i d e => ?_, fun i c' p l e => ?_, fun i k c1 p1 l1 c2 p2 l2 a' e1 e2 h1 h2 => ?_, fun b o' e => ?_, ok.keep, fun q hq => ?_, fun i c' l a' e ha => ?_, fun q hq => ?_, ?_⟩, q1, dz⟩
    · by_cases z : b = a
      · subst z
        rw [upd_same] at e; cases e; exact q4
      · rw [upd_ne z] at e
        exact ok.same b o' e
    · rcases set_some e with ⟨_, e, _⟩ | ⟨_, e⟩
      · cases e
      · obtain ⟨v, w1, w2⟩ := ok.dat i d e
        exact ⟨v, w1, w2.mono sm⟩
    · rcases set_some e with ⟨ei, e, _⟩ | ⟨_, e⟩
      · cases e
        subst ei
        exact ⟨a, q1, q2, dz⟩
      · obtain ⟨v, w1, w2, w3⟩ := ok.frz i d e
        exact ⟨v, w1, w2, w3.mono sm⟩
    · rcases set_some e with ⟨_, e, _⟩ | ⟨ne, e⟩
      · cases e
      · obtain ⟨a', o', w1, w2, w3, w4, w5, w6⟩ := ok.own i c' p l e
        have na : a' ≠ a := fun z => by
          subst z
          exact ne (ok.inj i j _ _ _ _ _ _ a' e hg w1 q1)
        exact ⟨a', o', w1, w2, by rw [upd_ne na]; exact w3, w4, w5.mono sm, w6⟩
    · rcases set_some e1 with ⟨_, e1, _⟩ | ⟨_, e1⟩
      · cases e1
      · rcases set_some e2 with ⟨_, e2, _⟩ | ⟨_, e2⟩
        · cases e2
        · exact ok.inj i k _ _ _ _ _ _ a' e1 e2 h1 h2
    · by_cases z : b = a
      · subst z; exact .inr (q6 rfl)
      · rw [upd_ne z] at e; exact ok.grow b o' e
    · obtain ⟨c', l, h1, h2⟩ := ok.pinned q hq
      refine ⟨c', l, ?_, h2⟩
      rw [List.getElem?_set_ne]
      · exact h1
      · intro z
        subst z
        rw [hg] at h1; cases h1
    · rcases set_some e with ⟨_, e, _⟩ | ⟨_, e⟩
      · cases e
      · exact ok.pin1 i c' l a' e ha
    · obtain ⟨p, h1, h2⟩ := ok.locked q hq
      refine ⟨p, ?_, h2⟩
      rw [List.getElem?_set_ne]
      · exact h1
      · intro z
        subst z
        rw [hg] at h1; cases h1
    · refine RwOk.step ok.rws rfl rfl sm (fun x u ex n1 n2 no => ⟨ex, ?_, n2⟩) (fun i ls e => ?_) (fun i c' p l b e hb => ?_)
      · rw [upd_ne (fun z => no j c _ _ hg (by rw [z]; exact q1))]; exact n1
      · rcases set_some e with ⟨_, e, _⟩ | ⟨_, e⟩
        · cases e
        · exact ⟨e, rfl, fun _ => rfl⟩
      · rcases set_some e with ⟨_, e, _⟩ | ⟨_, e⟩
        · cases e
        · exact .inl ⟨i, c', p, l, e, hb⟩
  · rename_i d' hg
    cases e
    obtain ⟨a, q1, q2, q3⟩ := ok.frz j d hg
    exact ⟨Hs, a, Same.refl _, ok, q1, q3⟩
  · rename_i ls hg
    cases e
    obtain ⟨a, ks, q1, q2, q3, q4, q5⟩ := ok.rws j ls hg
    have dec : ∀ x, Decidable (x ∈ a :: ks) := fun x => inferInstance
    have hin : ∀ x, x ∈ a :: ks → (fun b => if b ∈ a :: ks then H b else Hs b : Hp) x = H x := fun x m => if_pos m
    have hout : ∀ x, x ∉ a :: ks → (fun b => if b ∈ a :: ks then H b else Hs b : Hp) x = Hs x := fun x m => if_neg m
    generalize (fun b => if b ∈ a :: ks then H b else Hs b : Hp) = Hn at hin hout
    have sm : Same Hs Hn := fun b o' e => by
      by_cases m : b ∈ a :: ks
      · rw [(q3.fr b m).1] at e; cases e
      · rw [hout b m]; exact e
    have sn : Same Hn H := fun b o' e => by
      by_cases m : b ∈ a :: ks
      · rw [hin b m] at e; exact e
      · rw [hout b m] at e; exact ok.same b o' e
    have dz : Dz C.K Hn (.ref a) (.lst (ls.map D.lst)) := by
      refine .lst (SqL.of ((hin a List.mem_cons_self).trans q3.hd)) ?_
      have k2 : KdOk C.K Hn Hn ks ls := q3.kd.move sm fun x m o h => (hin x (List.mem_cons_of_mem _ m)).trans h
      exact k2.dz (Same.refl _)
    refine ⟨Hn, a, sm, ⟨ok.ln, by rw [List.length_set]; exact ok.lg, by rw [List.length_set]; exact ok.la, ok.base.trans sm, sn, fun i d e => ?_, fun i d e => ?_, fun i c' p l e => ?_, fun i k c1 p1 l1 c2 p2 l2 a' e1 e2 h1 h2 => ?_, fun b o' e => ?_, ok.keep, fun q hq => ?_, fun i c' l a' e ha => ?_, fun q hq => ?_, fun i ms e => ?_⟩, q1, dz⟩
    · rcases set_some e with ⟨_, e, _⟩ | ⟨_, e⟩
      · cases e
      · obtain ⟨v, w1, w2⟩ := ok.dat i d e
        exact ⟨v, w1, w2.mono sm⟩
    · rcases set_some e with ⟨ei, e, _⟩ | ⟨_, e⟩
      · cases e
        subst ei
        exact ⟨a, q1, q2, dz⟩
      · obtain ⟨v, w1, w2, w3⟩ := ok.frz i d e
        exact ⟨v, w1, w2, w3.mono sm⟩
    · rcases set_some e with ⟨_, e, _⟩ | ⟨ne, e⟩
      · cases e
      · obtain ⟨a', o', w1, w2, w3, w4, w5, w6⟩ := ok.own i c' p l e
        exact ⟨a', o', w1, w2, by rw [hout a' (q4 i c' p l a' e w1)]; exact w3, w4, w5.mono sm, w6⟩
    · rcases set_some e1 with ⟨_, e1, _⟩ | ⟨_, e1⟩
      · cases e1
      · rcases set_some e2 with ⟨_, e2, _⟩ | ⟨_, e2⟩
        · cases e2
        · exact ok.inj i k _ _ _ _ _ _ a' e1 e2 h1 h2
    · by_cases m : b ∈ a :: ks
      · exact .inr (q3.fr b m).2
      · rw [hout b m] at e; exact ok.grow b o' e
    · obtain ⟨c', l, h1, h2⟩ := ok.pinned q hq
      refine ⟨c', l, ?_, h2⟩
      rw [List.getElem?_set_ne]
      · exact h1
      · intro z
        subst z
        rw [hg] at h1; cases h1
    · rcases set_some e with ⟨_, e, _⟩ | ⟨_, e⟩
      · cases e
      · exact ok.pin1 i c' l a' e ha
    · obtain ⟨p, h1, h2⟩ := ok.locked q hq
      refine ⟨p, ?_, h2⟩
      rw [List.getElem?_set_ne]
      · exact h1
      · intro z
        subst z
        rw [hg] at h1; cases h1
    · rcases set_some e with ⟨_, e, _⟩ | ⟨ne, e⟩
      · cases e
      · obtain ⟨b, bs, r1, r2, r3, r4, r5⟩ := ok.rws i ms e
        refine ⟨b, bs, r1, r2, ⟨r3.hd, r3.nd, fun x m => ⟨?_, (r3.fr x m).2⟩, r3.kd.move sm fun _ _ _ h => h⟩, fun k c p l y ek => ?_, fun k ns y x ek => ?_⟩
        · rw [hout x (fun z => ne (q5 i ms b x e r1 (by rw [r3.hd, kidsOf_refs]; exact m) z))]
          exact (r3.fr x m).1
        · rcases set_some ek with ⟨_, ek, _⟩ | ⟨_, ek⟩
          · cases ek
          · exact r4 k c p l y ek
        · rcases set_some ek with ⟨_, ek, _⟩ | ⟨_, ek⟩
          · cases ek
          · exact r5 k ns y x ek
  · cases e
theorem Ok.frzR (ok : Ok C Hs A g σ H) (h : RelR C.K Hs A v r) (e : frzR r g = some (d, g')) : ∃ Hs', Same Hs Hs' ∧ Ok C Hs' A g' σ H ∧ Dz C.K Hs' v d := by
  cases r with
  | dat d' =>
    have e' : some (d', g) = some (d, g') := e
    cases e'
    exact ⟨Hs, Same.refl _, ok, h⟩
  | bor j =>
    obtain ⟨a, h1, rfl⟩ := (show ∃ a, A[j]? = some a ∧ v = .ref a from h)
    obtain ⟨Hs', a', s, ok', h2, dz⟩ := ok.frzAt e
    rw [h1] at h2
    have e1 : a = a' := Option.some.inj h2
    subst e1
    exact ⟨Hs', s, ok', dz⟩
/-- the slot j may be overwritten -/
def freeAt (j : Nat) (g : List Sl) : Bool := match g[j]? with
  | some (.own _ true _) => false
  | some (.own _ _ true) => false
  | some _ => true
  | none => false
def setDat (i : Nat) (d : D) (g : List Sl) : Option (List Sl) := if freeAt i g = true then some (g.set i (.dat d)) else none
theorem freeAt_lt (e : freeAt j g = true) : j < g.length := by
  unfold freeAt at e
  by_cases h : j < g.length
  · exact h
  · rw [List.getElem?_eq_none_iff.mpr (by omega)] at e
    cases e
theorem freeAt_pin (e : freeAt j g = true) {c : Cn} {l : Bool} (h : g[j]? = some (.own c true l)) : False := by
  unfold freeAt at e
  rw [h] at e
  cases e
theorem freeAt_lock (e : freeAt j g = true) {c : Cn} {p : Bool} (h : g[j]? = some (.own c p true)) : False := by
  unfold freeAt at e
  rw [h] at e
  cases p <;> cases e
/-- a slot forgotten, or filled with data; σ may change there -/
theorem Ok.put (ok : Ok C Hs A g σ H) {s : Sl} {σ' : L2.St} (hf : freeAt j g = true) (hl : σ'.length = σ.length) (hσ : ∀ (i : Nat), i ≠ j → σ'[i]? = σ[i]?) (hs : s = .un ∨ ∃ d v, s = .dat d ∧ σ'[j]? = some (some v) ∧ Dz C.K Hs v d) : Ok C Hs A (g.set j s) σ' H := by
  have no : ∀ {i : Nat} {c : Cn} {p l : Bool}, (g.set j s)[i]? = some (.own c p l) → i ≠ j ∧ g[i]? = some (.own c p l) := fun {i c p l} e => by
    rcases set_some e with ⟨_, e, _⟩ | ⟨ne, e⟩
    · rcases hs with z | ⟨_, _, z, _⟩ <;> rw [z] at e <;> cases e
    · exact ⟨ne, e⟩
  refine ⟨hl.trans ok.ln, by rw [List.length_set]; exact ok.lg, by rw [List.length_set]; exact ok.la, ok.base, ok.same, fun i d e => ?_, fun i d e => ?_, fun i c' p l e => ?_, fun i k c1 p1 l1 c2 p2 l2 a' e1 e2 h1 h2 => ok.inj i k _ _ _ _ _ _ a' (no e1).2 (no e2).2 h1 h2, ok.grow, ok.keep, fun q hq => ?_, fun i c' l a' e ha => ok.pin1 i c' l a' (no e).2 ha, fun q hq => ?_, ?_⟩
  · rcases set_some e with ⟨ei, e3, _⟩ | ⟨ne, e3⟩
    · subst ei
      rcases hs with z | ⟨d', v, z, w1, w2⟩
      · rw [z] at e3; cases e3
      · rw [z] at e3; cases e3; exact ⟨v, w1, w2⟩
    · rw [hσ i ne]; exact ok.dat i d e3
  · rcases set_some e with ⟨ei, e3, _⟩ | ⟨ne, e3⟩
    · rcases hs with z | ⟨d', v, z, w1, w2⟩ <;> rw [z] at e3 <;> cases e3
    · rw [hσ i ne]; exact ok.frz i d e3
  · obtain ⟨ne, e⟩ := no e
    rw [hσ i ne]; exact ok.own i c' p l e
  · obtain ⟨c', l, h1, h2⟩ := ok.pinned q hq
    refine ⟨c', l, ?_, h2⟩
    rw [List.getElem?_set_ne]
    · exact h1
    · intro z
      subst z
      exact freeAt_pin hf h1
  · obtain ⟨p, h1, h2⟩ := ok.locked q hq
    refine ⟨p, ?_, h2⟩
    rw [List.getElem?_set_ne]
    · exact h1
    · intro z
      subst z
      exact freeAt_lock hf h1
  · refine RwOk.step ok.rws rfl rfl (Same.refl _) (fun x u ex n1 n2 _ => ⟨ex, n1, n2⟩) (fun i ls e => ?_) (fun i c' p l b e hb => .inl ⟨i, c', p, l, (no e).2, hb⟩)
    rcases set_some e with ⟨_, e, _⟩ | ⟨ne, e⟩
    · rcases hs with z | ⟨_, _, z, _⟩ <;> rw [z] at e <;> cases e
    · exact ⟨e, rfl, fun _ => hσ i ne⟩
theorem Ok.set (ok : Ok C Hs A g σ H) (e : setDat j d g = some g') (hj : j < C.n) (h : Dz C.K Hs v d) : Ok C Hs A g' (σ.set j (some v)) H := by
  unfold setDat at e
  split at e
  · rename_i hf
    cases e
    refine ok.put hf (by rw [List.length_set]) (fun i ne => List.getElem?_set_ne (Ne.symm ne)) (.inr ⟨d, v, rfl, ?_, h⟩)
    exact List.getElem?_set_self (by rw [ok.ln]; exact hj)
  · cases e
/-- a container held aside becomes the slot's own -/
theorem Ok.move (ok : Ok C Hs A g σ H) {t : Nat} {c : Cn} {a : Addr} (hf : freeAt j g = true) (hj : j < C.n) (ht : C.n ≤ t) (e : g[t]? = some (.own c false false)) (ha : A[t]? = some a) :
    Ok C Hs (A.set j a) ((g.set j (.own c false false)).set t .un) (σ.set j (some (.ref a))) H := by
  have htl := (List.getElem?_eq_some_iff.mp e).1
  have hjl := freeAt_lt hf
  have jt : j ≠ t := by omega
  have oc : ∀ {i : Nat} {s : Sl}, ((g.set j (.own c false false)).set t .un)[i]? = some s → (i = t ∧ s = .un) ∨ (i = j ∧ s = .own c false false) ∨ (i ≠ t ∧ i ≠ j ∧ g[i]? = some s) := fun {i s} e => by
    rcases set_some e with ⟨ei, e, _⟩ | ⟨ne, e⟩
    · exact .inl ⟨ei, e⟩
    · rcases set_some e with ⟨ei, e, _⟩ | ⟨ne2, e⟩
      · exact .inr (.inl ⟨ei, e⟩)
      · exact .inr (.inr ⟨ne, ne2, e⟩)
  have A1 : (A.set j a)[j]? = some a := List.getElem?_set_self (by rw [ok.la]; exact hjl)
  have A2 : ∀ (i : Nat), i ≠ j → (A.set j a)[i]? = A[i]? := fun i ne => List.getElem?_set_ne (Ne.symm ne)
  have S2 : ∀ (i : Nat), i ≠ j → (σ.set j (some (V.ref a)))[i]? = σ[i]? := fun i ne => List.getElem?_set_ne (Ne.symm ne)
  obtain ⟨a0, o, q1, q2, q3, q4, q5, q6⟩ := ok.own t c _ _ e
  rw [ha] at q1
  have ea : a = a0 := Option.some.inj q1
  subst ea
  have neo : ∀ {i : Nat} {c' : Cn} {p l : Bool} {a' : Addr}, i ≠ t → g[i]? = some (.own c' p l) → A[i]? = some a' → a' ≠ a := fun {i c' p l a'} ne e' h z => by
    subst z
    exact ne (ok.inj i t _ _ _ _ _ _ a' e' e h ha)
  refine ⟨by rw [List.length_set]; exact ok.ln, by rw [List.length_set, List.length_set]; exact ok.lg, by rw [List.length_set, List.length_set, List.length_set]; exact ok.la, ok.base, ok.same, fun i d e => ?_, fun i d e => ?_, fun i c' p l e => ?_, fun i k c1 p1 l1 c2 p2 l2 a' e1' e2' h1 h2 => ?_, ok.grow, ok.keep, fun q hq => ?_, fun i c' l a' e ha => ?_, fun q hq => ?_, ?_⟩
  · rcases oc e with ⟨_, e⟩ | ⟨_, e⟩ | ⟨_, ne, e⟩
    · cases e
    · cases e
    · rw [S2 i ne]; exact ok.dat i d e
  · rcases oc e with ⟨_, e⟩ | ⟨_, e⟩ | ⟨_, ne, e⟩
    · cases e
    · cases e
    · rw [S2 i ne, A2 i ne]; exact ok.frz i d e
  · rcases oc e with ⟨_, e⟩ | ⟨ei, e⟩ | ⟨_, ne, e⟩
    · cases e
    · cases e
      subst ei
      exact ⟨a, o, A1, fun _ => List.getElem?_set_self (by rw [ok.ln]; exact hj), q3, q4, q5, fun _ => q6 rfl⟩
    · rw [S2 i ne, A2 i ne]; exact ok.own i c' p l e
  · rcases oc e1' with ⟨_, e1⟩ | ⟨ei, e1⟩ | ⟨nt, ne, e1⟩
    · cases e1
    · rcases oc e2' with ⟨_, e2⟩ | ⟨ek, e2⟩ | ⟨nt2, ne2, e2⟩
      · cases e2
      · omega
      · subst ei
        rw [A1] at h1
        rw [A2 k ne2] at h2
        exact absurd (Option.some.inj h1).symm (neo nt2 e2 h2)
    · rcases oc e2' with ⟨_, e2⟩ | ⟨ek, e2⟩ | ⟨nt2, ne2, e2⟩
      · cases e2
      · subst ek
        rw [A1] at h2
        rw [A2 i ne] at h1
        exact absurd (Option.some.inj h2).symm (neo nt e1 h1)
      · rw [A2 i ne] at h1
        rw [A2 k ne2] at h2
        exact ok.inj i k _ _ _ _ _ _ a' e1 e2 h1 h2
  · obtain ⟨c', l, h1, h2⟩ := ok.pinned q hq
    have n1 : q.1 ≠ j := fun z => by rw [z] at h1; exact freeAt_pin hf h1
    have n2 : q.1 ≠ t := fun z => by rw [z, e] at h1; cases h1
    refine ⟨c', l, ?_, by rw [A2 _ n1]; exact h2⟩
    rw [List.getElem?_set_ne (Ne.symm n2), List.getElem?_set_ne (Ne.symm n1)]
    exact h1
  · rcases oc e with ⟨_, e⟩ | ⟨ei, e⟩ | ⟨_, ne, e⟩
    · cases e
    · cases e
    · rw [A2 i ne] at ha
      exact ok.pin1 i c' l a' e ha
  · obtain ⟨p, h1, h2⟩ := ok.locked q hq
    have n1 : q.1 ≠ j := fun z => by rw [z] at h1; exact freeAt_lock hf h1
    have n2 : q.1 ≠ t := fun z => by rw [z, e] at h1; cases h1
    refine ⟨p, ?_, by rw [A2 _ n1]; exact h2⟩
    rw [List.getElem?_set_ne (Ne.symm n2), List.getElem?_set_ne (Ne.symm n1)]
    exact h1
  · refine RwOk.step ok.rws rfl rfl (Same.refl _) (fun x u ex n1 n2 _ => ⟨ex, n1, n2⟩) (fun i ls e => ?_) (fun i c' p l b e2 hb => ?_)
    · rcases oc e with ⟨_, e⟩ | ⟨_, e⟩ | ⟨_, ne, e⟩
      · cases e
      · cases e
      · exact ⟨e, A2 i ne, fun _ => S2 i ne⟩
    · rcases oc e2 with ⟨_, e2⟩ | ⟨ei, e2⟩ | ⟨_, ne, e2⟩
      · cases e2
      · subst ei
        rw [A1] at hb
        exact .inl ⟨t, _, _, _, e, ha.trans hb⟩
      · rw [A2 i ne] at hb
        exact .inl ⟨i, c', p, l, e2, hb⟩
/-- what was held aside is dropped -/
theorem Ok.cut (ok : Ok C Hs A g σ H) : Ok C Hs (A.take C.n) (g.take C.n) σ H := by
  have tk : ∀ {α : Type} {l : List α} {i : Nat} {s : α}, (l.take C.n)[i]? = some s → i < C.n ∧ l[i]? = some s := fun {α l i s} e => by
    by_cases h : i < C.n
    · rw [List.getElem?_take_of_lt h] at e; exact ⟨h, e⟩
    · have := (List.getElem?_eq_some_iff.mp e).1
      rw [List.length_take] at this; omega
  have kt : ∀ {α : Type} {l : List α} {i : Nat} {s : α}, i < C.n → l[i]? = some s → (l.take C.n)[i]? = some s := fun {α l i s} h e => by
    rw [List.getElem?_take_of_lt h]; exact e
  refine ⟨ok.ln, by rw [List.length_take]; have := ok.lg; omega, by rw [List.length_take, List.length_take, ok.la], ok.base, ok.same, fun i d e => ok.dat i d (tk e).2, fun i d e => ?_, fun i c' p l e => ?_, fun i k c1 p1 l1 c2 p2 l2 a' e1 e2 h1 h2 => ok.inj i k _ _ _ _ _ _ a' (tk e1).2 (tk e2).2 (tk h1).2 (tk h2).2, ok.grow, ok.keep, fun q hq => ?_, fun i c' l a' e ha => ok.pin1 i c' l a' (tk e).2 (tk ha).2, fun q hq => ?_, ?_⟩
  · obtain ⟨a, q1, q2⟩ := ok.frz i d (tk e).2
    exact ⟨a, kt (tk e).1 q1, q2⟩
  · obtain ⟨a, o, q1, q2⟩ := ok.own i c' p l (tk e).2
    exact ⟨a, o, kt (tk e).1 q1, q2⟩
  · obtain ⟨c', l, h1, h2⟩ := ok.pinned q hq
    exact ⟨c', l, kt (C.plt q hq) h1, kt (C.plt q hq) h2⟩
  · obtain ⟨p, h1, h2⟩ := ok.locked q hq
    exact ⟨p, kt (C.llt q hq) h1, kt (C.llt q hq) h2⟩
  · exact RwOk.step ok.rws rfl rfl (Same.refl _) (fun x u ex n1 n2 _ => ⟨ex, n1, n2⟩) (fun i ls e => ⟨(tk e).2, List.getElem?_take_of_lt (tk e).1, fun _ => rfl⟩) (fun i c' p l b e hb => .inl ⟨i, c', p, l, (tk e).2, (tk hb).2⟩)
/-- the container at j is written -/
theorem Ok.wr (ok : Ok C Hs A g σ H) {c c' : Cn} {p : Bool} {a : Addr} {o : HO} (e : g[j]? = some (.own c p false)) (ha : A[j]? = some a) (hc : CnOk C.K Hs c' o) : Ok C Hs A (g.set j (.own c' p false)) σ (upd H a o) := by
  obtain ⟨a0, o0, q1, q2, q3, q4, q5, q6⟩ := ok.own j c _ _ e
  rw [ha] at q1
  have ea : a = a0 := Option.some.inj q1
  subst ea
  have hj := (List.getElem?_eq_some_iff.mp e).1
  have oc : ∀ {i : Nat} {s : Sl}, (g.set j (.own c' p false))[i]? = some s → (i = j ∧ s = .own c' p false) ∨ (i ≠ j ∧ g[i]? = some s) := fun {i s} e => by
    rcases set_some e with ⟨ei, e, _⟩ | ⟨ne, e⟩
    · exact .inl ⟨ei, e⟩
    · exact .inr ⟨ne, e⟩
  have ow : ∀ {i : Nat} {c1 : Cn} {p1 l1 : Bool}, (g.set j (.own c' p false))[i]? = some (.own c1 p1 l1) → ∃ c2, g[i]? = some (.own c2 p1 l1) := fun {i c1 p1 l1} e' => by
    rcases oc e' with ⟨ei, e'⟩ | ⟨_, e'⟩
    · cases e'; subst ei; exact ⟨c, e⟩
    · exact ⟨c1, e'⟩
  refine ⟨ok.ln, by rw [List.length_set]; exact ok.lg, by rw [List.length_set]; exact ok.la, ok.base, fun b o' e => ?_, fun i d e => ?_, fun i d e => ?_, fun i c1 p1 l1 e1 => ?_, fun i k c1 p1 l1 c2 p2 l2 a' e1 e2 h1 h2 => ?_, ok.grow, fun b o' e2 k => ?_, fun q hq => ?_, fun i c1 l1 a' e1 ha' => ?_, fun q hq => ?_, ?_⟩
  · rw [upd_ne (fun z => by rw [z, q3] at e; cases e)]
    exact ok.same b o' e
  · rcases oc e with ⟨_, e⟩ | ⟨_, e⟩
    · cases e
    · exact ok.dat i d e
  · rcases oc e with ⟨_, e⟩ | ⟨_, e⟩
    · cases e
    · exact ok.frz i d e
  · rcases oc e1 with ⟨ei, e1⟩ | ⟨ne, e1⟩
    · cases e1
      subst ei
      exact ⟨a, o, ha, q2, q3, upd_same, hc, q6⟩
    · obtain ⟨a', o', w1, w2, w3, w4, w5, w6⟩ := ok.own i c1 p1 l1 e1
      have na : a' ≠ a := fun z => by
        subst z
        exact ne (ok.inj i j _ _ _ _ _ _ a' e1 e w1 ha)
      exact ⟨a', o', w1, w2, w3, by rw [upd_ne na]; exact w4, w5, w6⟩
  · obtain ⟨x, hx⟩ := ow e1
    obtain ⟨y, hy⟩ := ow e2
    exact ok.inj i k _ _ _ _ _ _ a' hx hy h1 h2
  · have nb : b ≠ a := fun z => by
      subst z
      cases p with
      | true => exact k _ (ok.pin1 j c false b e ha) rfl
      | false => rw [q6 rfl] at e2; cases e2
    rw [upd_ne nb]
    exact ok.keep b o' e2 k
  · obtain ⟨c1, l, h1, h2⟩ := ok.pinned q hq
    by_cases z : q.1 = j
    · rw [z, e] at h1
      cases h1
      exact ⟨c', false, by rw [z]; exact List.getElem?_set_self hj, h2⟩
    · exact ⟨c1, l, by rw [List.getElem?_set_ne (Ne.symm z)]; exact h1, h2⟩
  · rcases oc e1 with ⟨ei, e1⟩ | ⟨ne, e1⟩
    · cases e1
      subst ei
      exact ok.pin1 i c false a' e ha'
    · exact ok.pin1 i c1 l1 a' e1 ha'
  · obtain ⟨p', h1, h2⟩ := ok.locked q hq
    have n1 : q.1 ≠ j := fun z => by rw [z, e] at h1; cases h1
    exact ⟨p', by rw [List.getElem?_set_ne (Ne.symm n1)]; exact h1, h2⟩
  · refine RwOk.step ok.rws rfl rfl (Same.refl _) (fun x u ex n1 n2 no => ⟨by rw [upd_ne (fun z => no j c _ _ e (by rw [z]; exact ha))]; exact ex, n1, n2⟩) (fun i ls e => ?_) (fun i c1 p1 l1 b e1 hb => ?_)
    · rcases oc e with ⟨_, e⟩ | ⟨_, e⟩
      · cases e
      · exact ⟨e, rfl, fun _ => rfl⟩
    · obtain ⟨x, hx⟩ := ow e1
      exact .inl ⟨i, _, _, _, hx, hb⟩
/-- locked and unlocked: C' has other locks -/
theorem Ok.lk {C' : Ct} (ok : Ok C Hs A g σ H) {c : Cn} {p l l' : Bool} (e : g[j]? = some (.own c p l)) (hK : C'.K = C.K) (hn : C'.n = C.n) (h0 : C'.H0 = C.H0) (hs0 : C'.Hs0 = C.Hs0) (hp : C'.pins = C.pins)
    (hl : ∀ q ∈ C'.locks, (q.1 = j ∧ q.2.2 = c ∧ l' = true ∧ A[j]? = some q.2.1) ∨ (q.1 ≠ j ∧ q ∈ C.locks)) : Ok C' Hs A (g.set j (.own c p l')) σ H := by
  have hj := (List.getElem?_eq_some_iff.mp e).1
  have oc : ∀ {i : Nat} {s : Sl}, (g.set j (.own c p l'))[i]? = some s → (i = j ∧ s = .own c p l') ∨ (i ≠ j ∧ g[i]? = some s) := fun {i s} e => by
    rcases set_some e with ⟨ei, e, _⟩ | ⟨ne, e⟩
    · exact .inl ⟨ei, e⟩
    · exact .inr ⟨ne, e⟩
  have ow : ∀ {i : Nat} {c1 : Cn} {p1 l1 : Bool}, (g.set j (.own c p l'))[i]? = some (.own c1 p1 l1) → ∃ l2, g[i]? = some (.own c1 p1 l2) := fun {i c1 p1 l1} e' => by
    rcases oc e' with ⟨ei, e'⟩ | ⟨_, e'⟩
    · cases e'; subst ei; exact ⟨l, e⟩
    · exact ⟨l1, e'⟩
  refine ⟨by rw [hn]; exact ok.ln, by rw [List.length_set, hn]; exact ok.lg, by rw [List.length_set]; exact ok.la, by rw [hs0]; exact ok.base, ok.same, fun i d e => ?_, fun i d e => ?_, fun i c1 p1 l1 e1 => ?_, fun i k c1 p1 l1 c2 p2 l2 a' e1 e2 h1 h2 => ?_, by rw [hs0, h0]; exact ok.grow, by rw [h0, hp]; exact ok.keep, fun q hq => ?_, fun i c1 l1 a' e1 ha => ?_, fun q hq => ?_, ?_⟩
  · rcases oc e with ⟨_, e⟩ | ⟨_, e⟩
    · cases e
    · rw [hK]; exact ok.dat i d e
  · rcases oc e with ⟨_, e⟩ | ⟨_, e⟩
    · cases e
    · rw [hK, hn]; exact ok.frz i d e
  · obtain ⟨l2, h⟩ := ow e1
    rw [hK, hn, h0]
    exact ok.own i c1 p1 l2 h
  · obtain ⟨x, hx⟩ := ow e1
    obtain ⟨y, hy⟩ := ow e2
    exact ok.inj i k _ _ _ _ _ _ a' hx hy h1 h2
  · obtain ⟨c1, l1, h1, h2⟩ := ok.pinned q (by rw [← hp]; exact hq)
    by_cases z : q.1 = j
    · rw [z, e] at h1
      cases h1
      exact ⟨c, l', by rw [z]; exact List.getElem?_set_self hj, h2⟩
    · exact ⟨c1, l1, by rw [List.getElem?_set_ne (Ne.symm z)]; exact h1, h2⟩
  · obtain ⟨l2, h⟩ := ow e1
    rw [hp]
    exact ok.pin1 i c1 l2 a' h ha
  · rcases hl q hq with ⟨e1, e2, e3, e4⟩ | ⟨ne, hq⟩
    · exact ⟨p, by rw [e1, List.getElem?_set_self hj, e2, e3], by rw [e1]; exact e4⟩
    · obtain ⟨p', h1, h2⟩ := ok.locked q hq
      exact ⟨p', by rw [List.getElem?_set_ne (Ne.symm ne)]; exact h1, h2⟩
  · refine RwOk.step ok.rws hK hn (Same.refl _) (fun x u ex n1 n2 _ => ⟨ex, n1, by rw [h0]; exact n2⟩) (fun i ls e => ?_) (fun i c1 p1 l1 b e1 hb => ?_)
    · rcases oc e with ⟨_, e⟩ | ⟨_, e⟩
      · cases e
      · exact ⟨e, rfl, fun _ => rfl⟩
    · obtain ⟨l2, h⟩ := ow e1
      exact .inl ⟨i, _, _, _, h, hb⟩
theorem Kd.low {K : PySem.W.Frag} {Hs H0 H1 H : Hp} {a : Addr} {ks : List Addr} {ls : List (List D)} (k : Kd K Hs H1 H a ks ls) (h : ∀ x ∈ a :: ks, H0 x = none) : Kd K Hs H0 H a ks ls :=
  ⟨k.hd, k.nd, fun x m => ⟨(k.fr x m).1, h x m⟩, k.kd⟩
theorem Ok.deadO (ok : Ok C Hs A g σ H) {c : Cn} {p l : Bool} {b : Addr} (e1 : g[j]? = some (.own c p l)) (e2 : A[j]? = some b) (h : H b = none) : False := by
  obtain ⟨a', o, ha, _, _, ho, _⟩ := ok.own j c p l e1
  rw [e2] at ha
  cases ha
  rw [h] at ho; cases ho
theorem Ok.deadR (ok : Ok C Hs A g σ H) {ms : List (List D)} {b x : Addr} (e1 : g[j]? = some (.rws ms)) (e2 : A[j]? = some b) (m : x ∈ b :: kidsOf (H b)) (h : H x = none) : False := by
  obtain ⟨a', ks, ha, _, k, _⟩ := ok.rws j ms e1
  rw [e2] at ha
  cases ha
  rw [k.hd, kidsOf_refs] at m
  obtain ⟨o, ho⟩ := k.live x m
  rw [h] at ho; cases ho
/-- a list of lists of its own, held aside -/
theorem Ok.addR (ok : Ok C Hs A g σ H) {a : Addr} {ks : List Addr} {ls : List (List D)} (k0 : Kd C.K Hs C.H0 H a ks ls)
    (hno : ∀ (j : Nat) (c : Cn) (p l : Bool) (b : Addr), g[j]? = some (.own c p l) → A[j]? = some b → b ∉ a :: ks)
    (hnr : ∀ (j : Nat) (ms : List (List D)) (b x : Addr), g[j]? = some (.rws ms) → A[j]? = some b → x ∈ b :: kidsOf (H b) → x ∈ a :: ks → False) : Ok C Hs (A ++ [a]) (g ++ [.rws ls]) σ H := by
  have old : ∀ (i : Nat) (s : Sl), (g ++ [Sl.rws ls])[i]? = some s → (i < g.length ∧ g[i]? = some s) ∨ (i = g.length ∧ s = .rws ls) := fun i s e => by
    by_cases hi : i < g.length
    · rw [List.getElem?_append_left hi] at e; exact .inl ⟨hi, e⟩
    · rw [List.getElem?_append_right (by omega)] at e
      have : i - g.length = 0 := by
        have := (List.getElem?_eq_some_iff.mp e).1
        simp at this; omega
      rw [this] at e
      exact .inr ⟨by omega, (Option.some.inj e).symm⟩
  have pre := Pre.app A [a]
  have last : (A ++ [a])[g.length]? = some a := by rw [← ok.la]; simp
  have alt : ∀ {i : Nat}, i < g.length → (A ++ [a])[i]? = A[i]? := fun {i} hi => List.getElem?_append_left (by rw [ok.la]; exact hi)
  refine ⟨ok.ln, by rw [List.length_append]; have := ok.lg; omega, by simp [ok.la], ok.base, ok.same, fun i d e => ?_, fun i d e => ?_, fun i c' p l e => ?_, fun i j c1 p1 l1 c2 p2 l2 a' e1 e2 h1 h2 => ?_, ok.grow, ok.keep, fun q hq => ?_, fun i c' l a' e ha => ?_, fun q hq => ?_, fun i ms e => ?_⟩
  · rcases old i _ e with ⟨_, e⟩ | ⟨_, e⟩
    · exact ok.dat i d e
    · cases e
  · rcases old i _ e with ⟨_, e⟩ | ⟨_, e⟩
    · obtain ⟨a', q1, q2, q3⟩ := ok.frz i d e
      exact ⟨a', pre _ _ q1, q2, q3⟩
    · cases e
  · rcases old i _ e with ⟨_, e⟩ | ⟨_, e⟩
    · obtain ⟨a', o', q1, q2⟩ := ok.own i c' p l e
      exact ⟨a', o', pre _ _ q1, q2⟩
    · cases e
  · rcases old i _ e1 with ⟨hi, e1⟩ | ⟨_, e1⟩
    · rcases old j _ e2 with ⟨hj, e2⟩ | ⟨_, e2⟩
      · rw [alt hi] at h1
        rw [alt hj] at h2
        exact ok.inj i j _ _ _ _ _ _ a' e1 e2 h1 h2
      · cases e2
    · cases e1
  · obtain ⟨c', l, h1, h2⟩ := ok.pinned q hq
    have hi := (List.getElem?_eq_some_iff.mp h1).1
    exact ⟨c', l, by rw [List.getElem?_append_left hi]; exact h1, pre _ _ h2⟩
  · rcases old i _ e with ⟨hi, e⟩ | ⟨_, e⟩
    · rw [alt hi] at ha
      exact ok.pin1 i c' l a' e ha
    · cases e
  · obtain ⟨p, h1, h2⟩ := ok.locked q hq
    have hi := (List.getElem?_eq_some_iff.mp h1).1
    exact ⟨p, by rw [List.getElem?_append_left hi]; exact h1, pre _ _ h2⟩
  · rcases old i _ e with ⟨hi, e⟩ | ⟨ei, e⟩
    · obtain ⟨b, bs, r1, r2, r3, r4, r5⟩ := ok.rws i ms e
      refine ⟨b, bs, pre _ _ r1, r2, r3, fun k c p l y ek ay m => ?_, fun k ns y x ek ay m1 m2 => ?_⟩
      · rcases old k _ ek with ⟨hk, ek⟩ | ⟨_, ek⟩
        · rw [alt hk] at ay
          exact r4 k c p l y ek ay m
        · cases ek
      · rcases old k _ ek with ⟨hk, ek⟩ | ⟨ek', ek⟩
        · rw [alt hk] at ay
          exact r5 k ns y x ek ay m1 m2
        · subst ek'
          rw [last] at ay
          cases ay
          rw [k0.hd, kidsOf_refs] at m1
          exact (hnr i ms b x e r1 (by rw [r3.hd, kidsOf_refs]; exact m2) m1).elim
    · cases e
      subst ei
      refine ⟨a, ks, last, fun hi => absurd hi (by have := ok.lg; omega), k0, fun k c p l y ek ay m => ?_, fun k ns y x ek ay m1 m2 => ?_⟩
      · rcases old k _ ek with ⟨hk, ek⟩ | ⟨_, ek⟩
        · rw [alt hk] at ay
          exact hno k c p l y ek ay m
        · cases ek
      · rcases old k _ ek with ⟨hk, ek⟩ | ⟨ek', _⟩
        · rw [alt hk] at ay
          exact (hnr k ns y x ek ay m1 m2).elim
        · exact ek'
/-- .. becomes the slot's own -/
theorem Ok.moveR (ok : Ok C Hs A g σ H) {t : Nat} {ls : List (List D)} {a : Addr} (hf : freeAt j g = true) (hj : j < C.n) (ht : C.n ≤ t) (e0 : g[t]? = some (.rws ls)) (ha0 : A[t]? = some a) :
    Ok C Hs (A.set j a) ((g.set j (.rws ls)).set t .un) (σ.set j (some (.ref a))) H := by
  have htl := (List.getElem?_eq_some_iff.mp e0).1
  have hjl := freeAt_lt hf
  have jt : j ≠ t := by omega
  have oc : ∀ {i : Nat} {s : Sl}, ((g.set j (.rws ls)).set t .un)[i]? = some s → (i = t ∧ s = .un) ∨ (i = j ∧ s = .rws ls) ∨ (i ≠ t ∧ i ≠ j ∧ g[i]? = some s) := fun {i s} e => by
    rcases set_some e with ⟨ei, e, _⟩ | ⟨ne, e⟩
    · exact .inl ⟨ei, e⟩
    · rcases set_some e with ⟨ei, e, _⟩ | ⟨ne2, e⟩
      · exact .inr (.inl ⟨ei, e⟩)
      · exact .inr (.inr ⟨ne, ne2, e⟩)
  have A1 : (A.set j a)[j]? = some a := List.getElem?_set_self (by rw [ok.la]; exact hjl)
  have A2 : ∀ (i : Nat), i ≠ j → (A.set j a)[i]? = A[i]? := fun i ne => List.getElem?_set_ne (Ne.symm ne)
  have S2 : ∀ (i : Nat), i ≠ j → (σ.set j (some (V.ref a)))[i]? = σ[i]? := fun i ne => List.getElem?_set_ne (Ne.symm ne)
  obtain ⟨a0, ks, q1, q2, q3, q4, q5⟩ := ok.rws t ls e0
  rw [ha0] at q1
  have ea : a = a0 := Option.some.inj q1
  subst ea
  refine ⟨by rw [List.length_set]; exact ok.ln, by rw [List.length_set, List.length_set]; exact ok.lg, by rw [List.length_set, List.length_set, List.length_set]; exact ok.la, ok.base, ok.same, fun i d e => ?_, fun i d e => ?_, fun i c' p l e => ?_, fun i k c1 p1 l1 c2 p2 l2 a' e1' e2' h1 h2 => ?_, ok.grow, ok.keep, fun q hq => ?_, fun i c' l a' e ha => ?_, fun q hq => ?_, fun i ms e => ?_⟩
  · rcases oc e with ⟨_, e⟩ | ⟨_, e⟩ | ⟨_, ne, e⟩
    · cases e
    · cases e
    · rw [S2 i ne]; exact ok.dat i d e
  · rcases oc e with ⟨_, e⟩ | ⟨_, e⟩ | ⟨_, ne, e⟩
    · cases e
    · cases e
    · rw [S2 i ne, A2 i ne]; exact ok.frz i d e
  · rcases oc e with ⟨_, e⟩ | ⟨ei, e⟩ | ⟨_, ne, e⟩
    · cases e
    · cases e
    · rw [S2 i ne, A2 i ne]; exact ok.own i c' p l e
  · rcases oc e1' with ⟨_, e1⟩ | ⟨ei, e1⟩ | ⟨nt, ne, e1⟩
    · cases e1
    · cases e1
    · rcases oc e2' with ⟨_, e2⟩ | ⟨ek, e2⟩ | ⟨nt2, ne2, e2⟩
      · cases e2
      · cases e2
      · rw [A2 i ne] at h1
        rw [A2 k ne2] at h2
        exact ok.inj i k _ _ _ _ _ _ a' e1 e2 h1 h2
  · obtain ⟨c', l, h1, h2⟩ := ok.pinned q hq
    have n1 : q.1 ≠ j := fun z => by rw [z] at h1; exact freeAt_pin hf h1
    have n2 : q.1 ≠ t := fun z => by rw [z, e0] at h1; cases h1
    refine ⟨c', l, ?_, by rw [A2 _ n1]; exact h2⟩
    rw [List.getElem?_set_ne (Ne.symm n2), List.getElem?_set_ne (Ne.symm n1)]
    exact h1
  · rcases oc e with ⟨_, e⟩ | ⟨ei, e⟩ | ⟨_, ne, e⟩
    · cases e
    · cases e
    · rw [A2 i ne] at ha
      exact ok.pin1 i c' l a' e ha
  · obtain ⟨p, h1, h2⟩ := ok.locked q hq
    have n1 : q.1 ≠ j := fun z => by rw [z] at h1; exact freeAt_lock hf h1
    have n2 : q.1 ≠ t := fun z => by rw [z, e0] at h1; cases h1
    refine ⟨p, ?_, by rw [A2 _ n1]; exact h2⟩
    rw [List.getElem?_set_ne (Ne.symm n2), List.getElem?_set_ne (Ne.symm n1)]
    exact h1
  · rcases oc e with ⟨_, e⟩ | ⟨ei, e⟩ | ⟨nt, ne, e⟩
    · cases e
    · cases e
      subst ei
      refine ⟨a, ks, A1, fun _ => List.getElem?_set_self (by rw [ok.ln]; exact hj), q3, fun k c p l b ek ab => ?_, fun k ns b x ek ab m1 m2 => ?_⟩
      · rcases oc ek with ⟨_, ek⟩ | ⟨_, ek⟩ | ⟨_, nk, ek⟩
        · cases ek
        · cases ek
        · rw [A2 k nk] at ab
          exact q4 k c p l b ek ab
      · rcases oc ek with ⟨_, ek⟩ | ⟨ek', _⟩ | ⟨nt2, nk, ek⟩
        · cases ek
        · exact ek'
        · rw [A2 k nk] at ab
          exact absurd (q5 k ns b x ek ab m1 m2) nt2
    · obtain ⟨b, bs, r1, r2, r3, r4, r5⟩ := ok.rws i ms e
      refine ⟨b, bs, by rw [A2 i ne]; exact r1, by rw [S2 i ne]; exact r2, r3, fun k c p l y ek ay => ?_, fun k ns y x ek ay m1 m2 => ?_⟩
      · rcases oc ek with ⟨_, ek⟩ | ⟨_, ek⟩ | ⟨_, nk, ek⟩
        · cases ek
        · cases ek
        · rw [A2 k nk] at ay
          exact r4 k c p l y ek ay
      · rcases oc ek with ⟨_, ek⟩ | ⟨ek', ek⟩ | ⟨_, nk, ek⟩
        · cases ek
        · subst ek'
          rw [A1] at ay
          cases ay
          exact absurd (r5 t ls a x e0 ha0 m1 m2).symm nt
        · rw [A2 k nk] at ay
          exact r5 k ns y x ek ay m1 m2
end
end Z
set_option Elab.async false
set_option linter.all false
set_option maxRecDepth 100000
set_option maxHeartbeats 4000000
namespace Z
open PySem PySem.Spec PyProof.Rows L2
abbrev G := List Sl
abbrev ZM := G → Option (R × G)
abbrev ZT := G → Option (Bool × G)
abbrev ZAr := G → Option (List R × G)
def RelRs (K : PySem.W.Frag) (Hs : Hp) (A : List Addr) : List V → List R → Prop
  | [], [] => True
  | v :: vs, r :: rs => RelR K Hs A v r ∧ RelRs K Hs A vs rs
  | _, _ => False
theorem RelRs.mono {K : PySem.W.Frag} {Hs Hs' : Hp} {A A' : List Addr} (s : Same Hs Hs') (p : Pre A A') : ∀ {vs : List V} {rs : List R}, RelRs K Hs A vs rs → RelRs K Hs' A' vs rs
  | [], [], _ => trivial
  | _ :: _, _ :: _, h => ⟨h.1.mono s p, RelRs.mono s p h.2⟩
  | [], _ :: _, h => h.elim
  | _ :: _, [], h => h.elim
/-- readings by data: n the number of the def's names -/
def tZ (K : PySem.W.Frag) (n : Nat) (m : ZM) : TE := fun σ H Q => ∃ (C : Ct) (Hs : Hp) (A : List Addr) (g : G) (r : R) (g' : G), C.K = K ∧ C.n = n ∧ Ok C Hs A g σ H ∧ m g = some (r, g') ∧
  ∀ (Hs' : Hp) (A' : List Addr) (v : V) (H' : Hp), Same Hs Hs' → Pre A A' → Ok C Hs' A' g' σ H' → RelR C.K Hs' A' v r → Q v H'
def tZT (K : PySem.W.Frag) (n : Nat) (m : ZT) : TT := fun σ H Q => ∃ (C : Ct) (Hs : Hp) (A : List Addr) (g : G) (b : Bool) (g' : G), C.K = K ∧ C.n = n ∧ Ok C Hs A g σ H ∧ m g = some (b, g') ∧
  ∀ (Hs' : Hp) (A' : List Addr) (H' : Hp), Same Hs Hs' → Pre A A' → Ok C Hs' A' g' σ H' → Q b H'
def tZA (K : PySem.W.Frag) (n : Nat) (m : ZAr) : TA := fun σ H Q => ∃ (C : Ct) (Hs : Hp) (A : List Addr) (g : G) (rs : List R) (g' : G), C.K = K ∧ C.n = n ∧ Ok C Hs A g σ H ∧ m g = some (rs, g') ∧
  ∀ (Hs' : Hp) (A' : List Addr) (vs : List V) (H' : Hp), Same Hs Hs' → Pre A A' → Ok C Hs' A' g' σ H' → RelRs C.K Hs' A' vs rs → Q vs H'
theorem PE.of {X : Cx} {e : Expr} {t t' : TE} (h : PE X e t) (w : ∀ σ H Q, t' σ H Q → t σ H Q) : PE X e t' := ⟨fun pins s σ H Q I q => h.run pins s σ H Q I (w σ H Q q)⟩
theorem PT.of {X : Cx} {e : Expr} {t t' : TT} (h : PT X e t) (w : ∀ σ H Q, t' σ H Q → t σ H Q) : PT X e t' := ⟨fun pins s σ H Q I q => h.run pins s σ H Q I (w σ H Q q)⟩
theorem PW.of {X : Cx} {e : Expr} {t t' : TT} (h : PW X e t) (w : ∀ σ H Q, t' σ H Q → t σ H Q) : PW X e t' := ⟨fun wh pins s σ H Q I q => h.run wh pins s σ H Q I (w σ H Q q)⟩
theorem PA.of {X : Cx} {es : List Expr} {t t' : TA} (h : PA X es t) (w : ∀ σ H Q, t' σ H Q → t σ H Q) : PA X es t' := ⟨fun pos pins s σ H Q I q => h.run pos pins s σ H Q I (w σ H Q q)⟩
theorem PS.of {X : Cx} {st : Stmt} {t t' : TS} (h : PS X st t) (w : ∀ D σ H, t' D σ H → t D σ H) : PS X st t' := ⟨fun pins s σ H D I q => h.run pins s σ H D I (w D σ H q)⟩
theorem PSs.of {X : Cx} {st : List Stmt} {t t' : TS} (h : PSs X st t) (w : ∀ D σ H, t' D σ H → t D σ H) : PSs X st t' := ⟨fun pins s σ H D I q => h.run pins s σ H D I (w D σ H q)⟩
abbrev ZE (X : Cx) (e : Expr) (m : ZM) : Prop := PE X e (tZ X.K X.N.length m)
abbrev ZTe (X : Cx) (e : Expr) (m : ZT) : Prop := PT X e (tZT X.K X.N.length m)
abbrev ZW (X : Cx) (e : Expr) (m : ZT) : Prop := PW X e (tZT X.K X.N.length m)
abbrev ZAs (X : Cx) (es : List Expr) (m : ZAr) : Prop := PA X es (tZA X.K X.N.length m)
def D.v : D → V
  | .non => .non | .bl b => .bl b | .int i => .int i | .str s => .str ⟨s.toArray⟩ | .raw v => v
  | _ => .non
theorem D.vz {K : PySem.W.Frag} {H : Hp} {z : D} (h : z.scal = true) : Dz K H z.v z := by
  cases z with
  | non => exact .non
  | bl b => exact .bl b
  | int i => exact .int i
  | str s => exact .str s
  | raw v => exact .raw v
  | dic _ _ => exact absurd h (by simp [D.scal])
  | tup _ => exact absurd h (by simp [D.scal])
  | lst _ => exact absurd h (by simp [D.scal])
theorem Dz.v {K : PySem.W.Frag} {H : Hp} {v : V} {z : D} (s : z.scal = true) (h : Dz K H v z) : v = z.v := by
  cases h with
  | non => rfl
  | bl b => rfl
  | int i => rfl
  | str z => rfl
  | raw v => rfl
  | dic _ _ _ => exact absurd s (by simp [D.scal])
  | tup _ _ => exact absurd s (by simp [D.scal])
  | lst _ _ => exact absurd s (by simp [D.scal])
def zVar (i : Nat) : ZM := fun g => match g[i]? with
  | some (.dat d) => some (.dat d, g)
  | some (.frz d) => some (.dat d, g)
  | some (.own _ _ _) => some (.bor i, g)
  | some (.rws _) => some (.bor i, g)
  | _ => none
def zC (d : D) : ZM := fun g => some (.dat d, g)
section
variable {X : Cx} {pos : Pos}
theorem ze_var {i : Nat} {x : Str} (hN : X.N[i]? = some x) (h : PE X (.Name x pos) (tVar i)) : ZE X (.Name x pos) (zVar i) := by
  refine PE.of h fun σ H Q ⟨C, Hs, A, g, r, g', hK, hn, ok, e, q⟩ => ?_
  have hi : i < C.n := by rw [hn]; exact (List.getElem?_eq_some_iff.mp hN).1
  unfold zVar at e
  split at e
  · rename_i d hg
    cases e
    obtain ⟨v, h1, h2⟩ := ok.dat i d hg
    exact ⟨v, h1, q Hs A v H (Same.refl _) (Pre.refl _) ok h2⟩
  · rename_i d hg
    cases e
    obtain ⟨a, h1, h2, h3⟩ := ok.frz i d hg
    exact ⟨_, h2 hi, q Hs A _ H (Same.refl _) (Pre.refl _) ok h3⟩
  · rename_i c p l hg
    cases e
    obtain ⟨a, o, h1, h2, _⟩ := ok.own i c p l hg
    exact ⟨_, h2 hi, q Hs A _ H (Same.refl _) (Pre.refl _) ok ⟨a, h1, rfl⟩⟩
  · rename_i ls hg
    cases e
    obtain ⟨a, ks, h1, h2, _⟩ := ok.rws i ls hg
    exact ⟨_, h2 hi, q Hs A _ H (Same.refl _) (Pre.refl _) ok ⟨a, h1, rfl⟩⟩
  · cases e
theorem ze_const {e : Expr} {v : V} {d : D} (h : PE X e (tC v)) (hd : ∀ H, Dz X.K H v d) : ZE X e (zC d) := by
  refine PE.of h fun σ H Q ⟨C, Hs, A, g, r, g', hK, hn, ok, e, q⟩ => ?_
  cases e
  exact q Hs A v H (Same.refl _) (Pre.refl _) ok (by rw [hK]; exact hd Hs)
theorem ze_int {i j} : ZE X (.Constant (.int i) j pos) (zC (.int i)) := ze_const pe_int fun _ => .int i
theorem ze_bl {b j} : ZE X (.Constant (.bool b) j pos) (zC (.bl b)) := ze_const pe_bl fun _ => .bl b
theorem ze_non {j} : ZE X (.Constant .none j pos) (zC .non) := ze_const pe_non fun _ => .non
theorem ze_str {x j} {s : List Nat} (hs : x = (⟨s.toArray⟩ : Str) := by decide +kernel) : ZE X (.Constant (.str x) j pos) (zC (.str s)) := by
  subst hs
  exact ze_const pe_str fun _ => .str s
theorem ze_bltn {x : Str} {u : Value} {v : V} (hg : Gl X x) (hm : X.mg x = none) (hv : bootBuiltins x = some u) (r : RelV v u) (hn : x ≠ "__name__" := by decide) (hdb : (x == ("__debug__" : Str)) = false := by decide) : ZE X (.Name x pos) (zC (.raw v)) :=
  ze_const (pe_bltn hg hm hv r hn hdb) fun _ => .raw v
/-- r does on values what f does on data -/
def OpS (K : PySem.W.Frag) (r : R2) (f : D → D → Option D) : Prop := ∀ (H : Hp) (x y : V) (d e z : D) (Q : VK), Dz K H x d → Dz K H y e → f d e = some z → Q z.v H → r x y H Q
def zOp (f : D → D → Option D) (ma mb : ZM) : ZM := fun g => do
  let (r1, g1) ← ma g
  let (r2, g2) ← mb g1
  let d ← rd g2 r1
  let e ← rd g2 r2
  let z ← f d e
  if z.scal = true then some (.dat z, g2) else none
theorem zOp_some {f : D → D → Option D} {ma mb : ZM} {g g' : G} {r : R} (e : zOp f ma mb g = some (r, g')) :
    ∃ r1 g1 r2 d1 d2 z, ma g = some (r1, g1) ∧ mb g1 = some (r2, g') ∧ rd g' r1 = some d1 ∧ rd g' r2 = some d2 ∧ f d1 d2 = some z ∧ z.scal = true ∧ r = .dat z := by
  unfold zOp at e
  simp only [Option.bind_eq_bind, Option.bind_eq_some_iff] at e
  obtain ⟨⟨r1, g1⟩, h1, ⟨r2, g2⟩, h2, d1, h3, d2, h4, z, h5, e⟩ := e
  split at e
  · rename_i hs
    cases e
    exact ⟨r1, g1, r2, d1, d2, z, h1, h2, h3, h4, h5, hs, rfl⟩
  · cases e
variable {a b c : Expr} {ma mb mc : ZM}
/-- two in a row, then what is done with both -/
theorem tZ2 {σ : L2.St} {H : Hp} {K : PySem.W.Frag} {n : Nat} {R2' : V → V → Hp → Prop} {C : Ct} {Hs : Hp} {A : List Addr} {g g1 g2 : G} {r1 r2 : R} (hK : C.K = K) (hn : C.n = n) (ok : Ok C Hs A g σ H) (e1 : ma g = some (r1, g1)) (e2 : mb g1 = some (r2, g2))
    (q : ∀ Hs2 A2 v1 v2 H2, Same Hs Hs2 → Pre A A2 → Ok C Hs2 A2 g2 σ H2 → RelR C.K Hs2 A2 v1 r1 → RelR C.K Hs2 A2 v2 r2 → R2' v1 v2 H2) : tZ K n ma σ H fun x H1 => tZ K n mb σ H1 fun y H2 => R2' x y H2 :=
  ⟨C, Hs, A, g, r1, g1, hK, hn, ok, e1, fun Hs1 A1 v1 H1 s1 p1 ok1 rel1 => ⟨C, Hs1, A1, g1, r2, g2, hK, hn, ok1, e2, fun Hs2 A2 v2 H2 s2 p2 ok2 rel2 => q Hs2 A2 v1 v2 H2 (s1.trans s2) (p1.trans p2) ok2 (rel1.mono s2 p2) rel2⟩⟩
theorem zop_of {r : R2} {f : D → D → Option D} {e : Expr} (h : PE X e (tOp r (tZ X.K X.N.length ma) (tZ X.K X.N.length mb))) (hf : OpS X.K r f) : ZE X e (zOp f ma mb) := by
  refine PE.of h fun σ H Q ⟨C, Hs, A, g, r, g', hK, hn, ok, e, q⟩ => ?_
  obtain ⟨r1, g1, r2, d1, d2, z, h1, h2, h3, h4, h5, h6, rfl⟩ := zOp_some e
  refine tZ2 hK hn ok h1 h2 fun Hs2 A2 v1 v2 H2 s p ok2 w1 w2 => ?_
  have x1 := ok2.rd w1 h3
  have x2 := ok2.rd w2 h4
  rw [hK] at x1 x2
  exact hf H2 v1 v2 d1 d2 z Q x1 x2 h5 (q Hs2 A2 z.v H2 s p ok2 (D.vz h6))
theorem ze_op {op : Operator} {r : R2} {f : D → D → Option D} (ho : OpR X (binaryOp op) r) (hf : OpS X.K r f) (ha : ZE X a ma) (hb : ZE X b mb) : ZE X (.BinOp a op b pos) (zOp f ma mb) := zop_of (pe_op ho ha hb) hf
theorem ze_cmp {op : CmpOp} {r : R2} {f : D → D → Option D} (ho : OpR X (compareOp op) r) (hf : OpS X.K r f) (ha : ZE X a ma) (hb : ZE X b mb) (hm : behindInMarks op b = false) : ZE X (.Compare a [op] [b] pos) (zOp f ma mb) := zop_of (pe_cmpR ho ha hb hm) hf
def isB : R → Option Bool
  | .dat (.bl b) => some b
  | _ => none
theorem isB_some {r : R} {b : Bool} (h : isB r = some b) : r = .dat (.bl b) := by
  unfold isB at h
  split at h
  · cases h; rfl
  · cases h
/-- a value that is a bool, as a test -/
def zTst (m : ZM) : ZT := fun g => do
  let (r, g1) ← m g
  let b ← isB r
  some (b, g1)
theorem zTst_some {m : ZM} {g g' : G} {b : Bool} (e : zTst m g = some (b, g')) : m g = some (.dat (.bl b), g') := by
  unfold zTst at e
  simp only [Option.bind_eq_bind, Option.bind_eq_some_iff] at e
  obtain ⟨⟨r, g1⟩, h1, b', h2, e⟩ := e
  cases e
  have h3 : r = .dat (.bl b) := isB_some h2
  rw [h3] at h1
  exact h1
theorem tst_of {m : ZM} {σ : L2.St} {H : Hp} {K : PySem.W.Frag} {n : Nat} {Q : Bool → Hp → Prop} (h : tZT K n (zTst m) σ H Q) : tZ K n m σ H fun x H1 => ∃ k, x = .bl k ∧ Q k H1 := by
  obtain ⟨C, Hs, A, g, b, g', hK, hn, ok, e, q⟩ := h
  refine ⟨C, Hs, A, g, _, _, hK, hn, ok, zTst_some e, fun Hs1 A1 v1 H1 s1 p1 ok1 rel1 => ?_⟩
  have e1 : v1 = .bl b := (show Dz C.K Hs1 v1 (.bl b) from rel1).v rfl
  exact ⟨b, e1, q Hs1 A1 H1 s1 p1 ok1⟩
theorem zt_cmp {op : CmpOp} {r : R2} {f : D → D → Option D} (ho : OpR X (compareOp op) r) (hf : OpS X.K r f) (ha : ZE X a ma) (hb : ZE X b mb) (hm : behindInMarks op b = false) : ZTe X (.Compare a [op] [b] pos) (zTst (zOp f ma mb)) := by
  refine PT.of (pt_cmpR (r := fun x y H Q => r x y H Q) ho ha hb hm) fun σ H Q h => ?_
  have h2 := tst_of h
  obtain ⟨C, Hs, A, g, r, g', hK, hn, ok, e, q⟩ := h2
  obtain ⟨r1, g1, r2, d1, d2, z, h1, h2, h3, h4, h5, h6, rfl⟩ := zOp_some e
  refine tZ2 (R2' := fun x y H2 => _) hK hn ok h1 h2 fun Hs2 A2 v1 v2 H2 s p ok2 w1 w2 => ?_
  have x1 := ok2.rd w1 h3
  have x2 := ok2.rd w2 h4
  rw [hK] at x1 x2
  exact hf H2 v1 v2 d1 d2 z _ x1 x2 h5 (q Hs2 A2 z.v H2 s p ok2 (D.vz h6))
def tru : D → Option Bool
  | .non => some false
  | .bl b => some b
  | .int i => some (i != 0)
  | .str s => if s.length ≤ sizeLine then some ((s.length : Int) != 0) else none
  | .lst l => some (!l.isEmpty)
  | .tup l => some (!l.isEmpty)
  | .raw _ => none
  | .dic _ _ => none
theorem DzA.empty {K : PySem.W.Frag} {H : Hp} {vs : List V} {ds : List D} (h : DzA K H vs ds) : vs.isEmpty = ds.isEmpty := by cases h <;> rfl
theorem tru_of {K : PySem.W.Frag} {H : Hp} {v : V} {d : D} {b : Bool} (h : Dz K H v d) (e : tru d = some b) : TruV K v H b := by
  cases h with
  | non => cases e; rfl
  | bl c => cases e; rfl
  | int i => cases e; rfl
  | str s =>
    have e : (if s.length ≤ sizeLine then some ((s.length : Int) != 0) else none) = some b := e
    split at e
    · rename_i hs
      cases e
      exact ⟨by simpa [Str.length] using hs, by simp [Str.length]⟩
    · cases e
  | lst hs ha => cases e; exact .inl ⟨_, hs, by rw [ha.empty]⟩
  | tup hs ha => cases e; exact .inr (.inl ⟨_, hs, by rw [ha.empty]⟩)
  | raw v => cases e
  | dic _ _ _ => cases e
def zTru (m : ZM) : ZT := fun g => do
  let (r, g1) ← m g
  let d ← rd g1 r
  let b ← tru d
  some (b, g1)
theorem zt_truth {e : Expr} {m : ZM} (h : ZE X e m) (he : ∀ whole, isTrue e X.env whole = (do let v ← whole; standAt e.pos; holding [v] (truthy v)) := by intro _; rfl) : ZTe X e (zTru m) := by
  refine PT.of (pt_truth h he) fun σ H Q ⟨C, Hs, A, g, b, g', hK, hn, ok, e, q⟩ => ?_
  unfold zTru at e
  simp only [Option.bind_eq_bind, Option.bind_eq_some_iff] at e
  obtain ⟨⟨r, g1⟩, h1, d, h2, b', h3, e⟩ := e
  cases e
  refine ⟨C, Hs, A, g, _, _, hK, hn, ok, h1, fun Hs1 A1 v1 H1 s1 p1 ok1 rel1 => ?_⟩
  have x := ok1.rd rel1 h2
  rw [hK] at x
  exact ⟨b, tru_of x h3, q Hs1 A1 H1 s1 p1 ok1⟩
def zAndT (s t : ZT) : ZT := fun g => do
  let (b, g1) ← s g
  if b = true then t g1 else some (false, g1)
def zOrT (s t : ZT) : ZT := fun g => do
  let (b, g1) ← s g
  if b = true then some (true, g1) else t g1
def zNotT (s : ZT) : ZT := fun g => do
  let (b, g1) ← s g
  some (!b, g1)
variable {sA sB : ZT} {rest : List Expr}
theorem zw_and1 (ha : ZTe X a sA) : ZW X (.BoolOp .And [a] pos) sA := pw_and1 ha
theorem zw_or1 (ha : ZTe X a sA) : ZW X (.BoolOp .Or [a] pos) sA := pw_or1 ha
theorem zw_and (ha : ZTe X a sA) (hb : ZW X (.BoolOp .And (b :: rest) pos) sB) : ZW X (.BoolOp .And (a :: b :: rest) pos) (zAndT sA sB) := by
  refine PW.of (pw_and ha hb) fun σ H Q ⟨C, Hs, A, g, b, g', hK, hn, ok, e, q⟩ => ?_
  unfold zAndT at e
  simp only [Option.bind_eq_bind, Option.bind_eq_some_iff] at e
  obtain ⟨⟨b1, g1⟩, h1, e⟩ := e
  refine ⟨C, Hs, A, g, b1, g1, hK, hn, ok, h1, fun Hs1 A1 H1 s1 p1 ok1 => ?_⟩
  cases b1 with
  | true => exact ⟨C, Hs1, A1, g1, b, g', hK, hn, ok1, e, fun Hs2 A2 H2 s2 p2 ok2 => q Hs2 A2 H2 (s1.trans s2) (p1.trans p2) ok2⟩
  | false =>
    cases e
    exact q Hs1 A1 H1 s1 p1 ok1
theorem zw_or (ha : ZTe X a sA) (hb : ZW X (.BoolOp .Or (b :: rest) pos) sB) : ZW X (.BoolOp .Or (a :: b :: rest) pos) (zOrT sA sB) := by
  refine PW.of (pw_or ha hb) fun σ H Q ⟨C, Hs, A, g, b, g', hK, hn, ok, e, q⟩ => ?_
  unfold zOrT at e
  simp only [Option.bind_eq_bind, Option.bind_eq_some_iff] at e
  obtain ⟨⟨b1, g1⟩, h1, e⟩ := e
  refine ⟨C, Hs, A, g, b1, g1, hK, hn, ok, h1, fun Hs1 A1 H1 s1 p1 ok1 => ?_⟩
  cases b1 with
  | false => exact ⟨C, Hs1, A1, g1, b, g', hK, hn, ok1, e, fun Hs2 A2 H2 s2 p2 ok2 => q Hs2 A2 H2 (s1.trans s2) (p1.trans p2) ok2⟩
  | true =>
    cases e
    exact q Hs1 A1 H1 s1 p1 ok1
theorem zt_w {e : Expr} (h : ZW X e sA) : ZTe X e sA := h.pt
theorem zt_not (ha : ZTe X a sA) : ZTe X (.UnaryOp .Not a pos) (zNotT sA) := by
  refine PT.of (pt_not ha) fun σ H Q ⟨C, Hs, A, g, b, g', hK, hn, ok, e, q⟩ => ?_
  unfold zNotT at e
  simp only [Option.bind_eq_bind, Option.bind_eq_some_iff] at e
  obtain ⟨⟨b1, g1⟩, h1, e⟩ := e
  cases e
  exact ⟨C, Hs, A, g, b1, _, hK, hn, ok, h1, fun Hs1 A1 H1 s1 p1 ok1 => q Hs1 A1 H1 s1 p1 ok1⟩
/-- .. as values -/
def zAndV (ma mb : ZM) : ZM := fun g => do
  let (r, g1) ← ma g
  let b ← isB r
  if b = true then mb g1 else some (.dat (.bl false), g1)
def zOrV (ma mb : ZM) : ZM := fun g => do
  let (r, g1) ← ma g
  let b ← isB r
  if b = true then some (.dat (.bl true), g1) else mb g1
def zNotV (ma : ZM) : ZM := fun g => do
  let (r, g1) ← ma g
  let b ← isB r
  some (.dat (.bl (!b)), g1)
/-- a one-place operation -/
def zUn (f : D → Option D) (ma : ZM) : ZM := fun g => do
  let (r1, g1) ← ma g
  let d ← rd g1 r1
  let z ← f d
  if z.scal = true then some (.dat z, g1) else none
/-- a op1 b op2 c -/
def zChain (f f' : D → D → Option D) (ma mb mc : ZM) : ZM := fun g => do
  let (r1, g1) ← ma g
  let (r2, g2) ← mb g1
  let d ← rd g2 r1
  let e ← rd g2 r2
  let z ← f d e
  match z with
  | .bl true => do
    let (r3, g3) ← mc g2
    let e2 ← rd g3 r2
    let h ← rd g3 r3
    let z2 ← f' e2 h
    if z2.scal = true then some (.dat z2, g3) else none
  | .bl false => some (.dat (.bl false), g2)
  | _ => none
def zNil : ZAr := fun g => some ([], g)
def zCons (ma : ZM) (mr : ZAr) : ZAr := fun g => do
  let (r, g1) ← ma g
  let (rs, g2) ← mr g1
  some (r :: rs, g2)
theorem za_nil : ZAs X [] zNil := by
  refine PA.of pa_nil fun σ H Q ⟨C, Hs, A, g, rs, g', hK, hn, ok, e, q⟩ => ?_
  cases e
  exact q Hs A [] H (Same.refl _) (Pre.refl _) ok trivial
variable {es : List Expr} {mr : ZAr}
theorem za_cons (ha : ZE X a ma) (hr : ZAs X es mr) (hs : starEach (a :: es) X.env = (false, eval a X.env) :: starEach es X.env := by rfl) : ZAs X (a :: es) (zCons ma mr) := by
  refine PA.of (pa_cons ha hr hs) fun σ H Q ⟨C, Hs, A, g, rs, g', hK, hn, ok, e, q⟩ => ?_
  unfold zCons at e
  simp only [Option.bind_eq_bind, Option.bind_eq_some_iff] at e
  obtain ⟨⟨r1, g1⟩, h1, ⟨rs2, g2⟩, h2, e⟩ := e
  cases e
  exact ⟨C, Hs, A, g, r1, g1, hK, hn, ok, h1, fun Hs1 A1 v1 H1 s1 p1 ok1 rel1 => ⟨C, Hs1, A1, g1, rs2, _, hK, hn, ok1, h2, fun Hs2 A2 vs H2 s2 p2 ok2 rel2 =>
    q Hs2 A2 (v1 :: vs) H2 (s1.trans s2) (p1.trans p2) ok2 ⟨rel1.mono s2 p2, rel2⟩⟩⟩
/-- all are read as data -/
def rdAll (g : G) : List R → Option (List D)
  | [] => some []
  | r :: rs => do
    let d ← rdX g r
    let ds ← rdAll g rs
    some (d :: ds)
theorem rdAll_ok {C : Ct} {Hs : Hp} {A : List Addr} {g : G} {σ : L2.St} {H : Hp} (ok : Ok C Hs A g σ H) : ∀ {vs : List V} {rs : List R} {ds : List D}, RelRs C.K Hs A vs rs → rdAll g rs = some ds → DzA C.K H vs ds
  | [], [], ds, _, e => by cases e; exact .nil
  | v :: vs, r :: rs, ds, h, e => by
    unfold rdAll at e
    simp only [Option.bind_eq_bind, Option.bind_eq_some_iff] at e
    obtain ⟨d, h1, ds', h2, e⟩ := e
    cases e
    exact .cons (ok.rdX h.1 h1) (rdAll_ok ok h.2 h2)
  | [], _ :: _, _, h, _ => h.elim
  | _ :: _, [], _, h, _ => h.elim
/-- all become data -/
def frzAll : List R → G → Option (List D × G)
  | [], g => some ([], g)
  | r :: rs, g => do
    let (d, g1) ← frzR r g
    let (ds, g2) ← frzAll rs g1
    some (d :: ds, g2)
theorem frzAll_ok {C : Ct} {A : List Addr} {σ : L2.St} {H : Hp} : ∀ {g g' : G} {Hs : Hp} {vs : List V} {rs : List R} {ds : List D}, Ok C Hs A g σ H → RelRs C.K Hs A vs rs → frzAll rs g = some (ds, g') → ∃ Hs', Same Hs Hs' ∧ Ok C Hs' A g' σ H ∧ DzA C.K Hs' vs ds
  | g, g', Hs, [], [], ds, ok, _, e => by cases e; exact ⟨Hs, Same.refl _, ok, .nil⟩
  | g, g', Hs, v :: vs, r :: rs, ds, ok, h, e => by
    unfold frzAll at e
    simp only [Option.bind_eq_bind, Option.bind_eq_some_iff] at e
    obtain ⟨⟨d, g1⟩, h1, ⟨ds', g2⟩, h2, e⟩ := e
    cases e
    obtain ⟨Hs1, s1, ok1, z1⟩ := ok.frzR h.1 h1
    obtain ⟨Hs2, s2, ok2, z2⟩ := frzAll_ok ok1 (h.2.mono s1 (Pre.refl _)) h2
    exact ⟨Hs2, s1.trans s2, ok2, .cons (z1.mono s2) z2⟩
  | _, _, _, [], _ :: _, _, _, h, _ => h.elim
  | _, _, _, _ :: _, [], _, _, h, _ => h.elim
def zTup (ma : ZAr) : ZM := fun g => do
  let (rs, g1) ← ma g
  let (ds, g2) ← frzAll rs g1
  if ds.length ≤ sizeLine then some (.dat (.tup ds), g2) else none
def zLst (ma : ZAr) : ZM := fun g => do
  let (rs, g1) ← ma g
  let (ds, g2) ← frzAll rs g1
  if ds.length ≤ sizeLine then some (.bor g2.length, g2 ++ [.own (.lst ds) false false]) else none
theorem ze_tup {x1} {mr : ZAr} (h : ZAs X es mr) : ZE X (.Tuple es x1 pos) (zTup mr) := by
  refine PE.of (pe_tup h) fun σ H Q ⟨C, Hs, A, g, r, g', hK, hn, ok, e, q⟩ => ?_
  unfold zTup at e
  simp only [Option.bind_eq_bind, Option.bind_eq_some_iff] at e
  obtain ⟨⟨rs, g1⟩, h1, ⟨ds, g2⟩, h2, e⟩ := e
  split at e
  · rename_i hz
    cases e
    refine ⟨C, Hs, A, g, rs, g1, hK, hn, ok, h1, fun Hs1 A1 vs H1 s1 p1 ok1 rel1 => ?_⟩
    obtain ⟨Hs2, s2, ok2, z2⟩ := frzAll_ok ok1 rel1 h2
    refine ⟨by rw [z2.length]; exact hz, fun p hp => ?_⟩
    obtain ⟨ok3, s3⟩ := ok2.lay (o := .tup vs) hp
    exact q _ A1 (.ref p) _ ((s1.trans s2).trans s3) p1 ok3 (.tup (SqT.of upd_same) (z2.mono s3))
  · cases e
theorem Ok.tmpR {C : Ct} {Hs : Hp} {A : List Addr} {g : G} {σ : L2.St} {H : Hp} (ok : Ok C Hs A g σ H) (p : Addr) : RelR C.K Hs (A ++ [p]) (.ref p) (.bor g.length) := ⟨p, by rw [← ok.la]; simp, rfl⟩
theorem ze_lst {mr : ZAr} (h : ZAs X es mr) : ZE X (.List es pos) (zLst mr) := by
  refine PE.of (pe_lst h) fun σ H Q ⟨C, Hs, A, g, r, g', hK, hn, ok, e, q⟩ => ?_
  unfold zLst at e
  simp only [Option.bind_eq_bind, Option.bind_eq_some_iff] at e
  obtain ⟨⟨rs, g1⟩, h1, ⟨ds, g2⟩, h2, e⟩ := e
  split at e
  · rename_i hz
    cases e
    refine ⟨C, Hs, A, g, rs, g1, hK, hn, ok, h1, fun Hs1 A1 vs H1 s1 p1 ok1 rel1 => ?_⟩
    obtain ⟨Hs2, s2, ok2, z2⟩ := frzAll_ok ok1 rel1 h2
    refine ⟨by rw [z2.length]; exact hz, fun p hp => ?_⟩
    exact q _ (A1 ++ [p]) (.ref p) _ (s1.trans s2) (p1.trans (Pre.app _ _)) (ok2.tmp (o := .lst vs) (c := .lst ds) hp z2) (ok2.tmpR p)
  · cases e
def CallS (K : PySem.W.Frag) (r : List V → Hp → VK → Prop) (f : List D → Option D) : Prop := ∀ (H : Hp) (vs : List V) (ds : List D) (z : D) (Q : VK), DzA K H vs ds → f ds = some z → Q z.v H → r vs H Q
def zCallS (f : List D → Option D) (ma : ZAr) : ZM := fun g => do
  let (rs, g1) ← ma g
  let ds ← rdAll g1 rs
  let z ← f ds
  if z.scal = true then some (.dat z, g1) else none
theorem zcallS_of {r : List V → Hp → VK → Prop} {f : List D → Option D} {mr : ZAr} {e : Expr} (h : PE X e (tCB r (tZA X.K X.N.length mr))) (hf : CallS X.K r f) : ZE X e (zCallS f mr) := by
  refine PE.of h fun σ H Q ⟨C, Hs, A, g, r, g', hK, hn, ok, e, q⟩ => ?_
  unfold zCallS at e
  simp only [Option.bind_eq_bind, Option.bind_eq_some_iff] at e
  obtain ⟨⟨rs, g1⟩, h1, ds, h2, z, h3, e⟩ := e
  split at e
  · rename_i hs
    cases e
    refine ⟨C, Hs, A, g, rs, _, hK, hn, ok, h1, fun Hs1 A1 vs H1 s1 p1 ok1 rel1 => ?_⟩
    have x := rdAll_ok ok1 rel1 h2
    rw [hK] at x
    exact hf H1 vs ds z Q x h3 (q Hs1 A1 z.v H1 s1 p1 ok1 (D.vz hs))
  · cases e
theorem ze_callB {x : Str} {p : Pos} {id : String} {r : List V → Hp → VK → Prop} {f : List D → Option D} {mr : ZAr} (hc : CallR X (.builtin id) r) (hf : CallS X.K r f) (hg : Gl X x) (hm : X.mg x = none) (hv : bootBuiltins x = some (.builtin id)) (ha : ZAs X (a :: es) mr)
    (hn : x ≠ "__name__" := by decide) (hdb : (x == ("__debug__" : Str)) = false := by decide) (he : starEach (a :: es) X.env = (false, eval a X.env) :: starEach es X.env := by rfl) (hpl : (backTo pos (starEach es X.env)).any (·.1) = false := by rfl) :
    ZE X (.Call (.Name x p) (a :: es) [] pos) (zCallS f mr) := zcallS_of (pe_callB hc hg hm hv ha hn hdb he hpl) hf
theorem ze_callTy {x : Str} {p : Pos} {T : String} {r : List V → Hp → VK → Prop} {f : List D → Option D} {mr : ZAr} (hc : CallR X (.type T) r) (hf : CallS X.K r f) (hg : Gl X x) (hm : X.mg x = none) (hv : bootBuiltins x = some (.type T)) (ha : ZAs X (a :: es) mr)
    (hn : x ≠ "__name__" := by decide) (hdb : (x == ("__debug__" : Str)) = false := by decide) (he : starEach (a :: es) X.env = (false, eval a X.env) :: starEach es X.env := by rfl) (hpl : (backTo pos (starEach es X.env)).any (·.1) = false := by rfl) :
    ZE X (.Call (.Name x p) (a :: es) [] pos) (zCallS f mr) := zcallS_of (pe_callTy hc hg hm hv ha hn hdb he hpl) hf
/-- methods of texts with a plain answer -/
def MtS (K : PySem.W.Frag) (r : V → List V → Hp → VK → Prop) (f : D → List D → Option D) : Prop := ∀ (H : Hp) (x : V) (vs : List V) (d : D) (ds : List D) (z : D) (Q : VK), Dz K H x d → DzA K H vs ds → f d ds = some z → Q z.v H → r x vs H Q
def tyD (T : String) : D → Bool
  | .str _ => T == "str"
  | .int _ => T == "int"
  | .lst _ => T == "list"
  | _ => false
theorem tyD_of {K : PySem.W.Frag} {H : Hp} {T : String} {x : V} {d : D} (h : Dz K H x d) (e : tyD T d = true) : tyV K T x H := by
  cases h with
  | str s => exact (beq_iff_eq.mp e : T = "str")
  | int i => exact (beq_iff_eq.mp e : T = "int")
  | lst hs ha => exact .inl ⟨beq_iff_eq.mp e, _, hs⟩
  | non => exact absurd e (by simp [tyD])
  | bl _ => exact absurd e (by simp [tyD])
  | tup _ _ => exact absurd e (by simp [tyD])
  | raw _ => exact absurd e (by simp [tyD])
  | dic _ _ _ => exact absurd e (by simp [tyD])
def zMt (T : String) (f : D → List D → Option D) (mo : ZM) (ma : ZAr) : ZM := fun g => do
  let (r, g1) ← mo g
  let d ← rd g1 r
  if tyD T d = true then do
    let (rs, g2) ← ma g1
    let d2 ← rd g2 r
    let ds ← rdAll g2 rs
    let z ← f d2 ds
    if z.scal = true then some (.dat z, g2) else none
  else none
theorem zmt_of {T : String} {r : V → List V → Hp → VK → Prop} {f : D → List D → Option D} {mo : ZM} {mr : ZAr} (hf : MtS X.K r f) {σ : L2.St} {H : Hp} {Q : VK} (h : tZ X.K X.N.length (zMt T f mo mr) σ H Q) :
    tBM X.K T r (tZ X.K X.N.length mo) (tZA X.K X.N.length mr) σ H Q := by
  obtain ⟨C, Hs, A, g, r, g', hK, hn, ok, e, q⟩ := h
  unfold zMt at e
  simp only [Option.bind_eq_bind, Option.bind_eq_some_iff] at e
  obtain ⟨⟨r1, g1⟩, h1, d, h2, e⟩ := e
  split at e
  · rename_i ht
    simp only [Option.bind_eq_some_iff] at e
    obtain ⟨⟨rs, g2⟩, h3, d2, h4, ds, h5, z, h6, e⟩ := e
    split at e
    · rename_i hs
      cases e
      refine ⟨C, Hs, A, g, r1, g1, hK, hn, ok, h1, fun Hs1 A1 v1 H1 s1 p1 ok1 rel1 => ?_⟩
      have x := ok1.rd rel1 h2
      rw [hK] at x
      refine ⟨tyD_of x ht, C, Hs1, A1, g1, rs, _, hK, hn, ok1, h3, fun Hs2 A2 vs H2 s2 p2 ok2 rel2 => ?_⟩
      have y := ok2.rd (rel1.mono s2 p2) h4
      have w := rdAll_ok ok2 rel2 h5
      rw [hK] at y w
      exact hf H2 v1 vs d2 ds z Q y w h6 (q Hs2 A2 z.v H2 (s1.trans s2) (p1.trans p2) ok2 (D.vz hs))
    · cases e
  · cases e
theorem ze_mt {o : Expr} {name : Str} {apos : Pos} {T id : String} {r : V → List V → Hp → VK → Prop} {f : D → List D → Option D} {mo : ZM} {mr : ZAr} (pa : PlainAttrs T) (slot : Slot T name id) (hty : typeOf (.builtin id) = pure (.type "method_descriptor")) (hm : MtR X id r) (hf : MtS X.K r f)
    (ho : ZE X o mo) (ha : ZAs X (a :: es) mr)
    (hbase : attributeBase o name X.env (eval o X.env) = eval o X.env := by rfl)
    (hfew : ((backTo pos (starEach (a :: es) X.env)).all (fun x => !x.1) && (backToKw pos (keywordEach [] X.env)).all (fun x => x.1.isSome)
      && decide ((a :: es).length + ([] : List Keyword).length + (if ([] : List Keyword).isEmpty then 0 else 1) < 30)) = true := by rfl)
    (hline : (apos.endLine == pos.line) = true := by rfl) (hs : starEach (a :: es) X.env = (false, eval a X.env) :: starEach es X.env := by rfl) (hplain : (backTo pos (starEach es X.env)).any (·.1) = false := by rfl) :
    ZE X (.Call (.Attribute o name apos) (a :: es) [] pos) (zMt T f mo mr) :=
  PE.of (pe_bm pa slot hty hm ho ha hbase hfew hline hs hplain) fun σ H Q h => zmt_of hf h
end
end Z
set_option Elab.async false
set_option linter.all false
set_option maxRecDepth 100000
set_option maxHeartbeats 4000000
namespace Z
open PySem PySem.Spec PyProof.Rows L2
theorem relB {K : PySem.W.Frag} {Hs : Hp} {A : List Addr} {a : Addr} {j : Nat} (h : A[j]? = some a) : RelR K Hs A (.ref a) (.bor j) := ⟨a, h, rfl⟩
inductive Fl where
  | nx | ret (r : R) | bk | ct
  deriving Inhabited
abbrev SM := G → Option (Fl × G)
def FlP (C : Ct) (Hs : Hp) (g' : G) (D : Ends) : Fl → Prop
  | .nx => ∀ (Hs' : Hp) (A' : List Addr) (σ' : L2.St) (H' : Hp), Same Hs Hs' → Ok C Hs' A' g' σ' H' → D.nx σ' H'
  | .bk => ∀ (Hs' : Hp) (A' : List Addr) (σ' : L2.St) (H' : Hp), Same Hs Hs' → Ok C Hs' A' g' σ' H' → D.bk σ' H'
  | .ct => ∀ (Hs' : Hp) (A' : List Addr) (σ' : L2.St) (H' : Hp), Same Hs Hs' → Ok C Hs' A' g' σ' H' → D.ct σ' H'
  | .ret r => ∀ (Hs' : Hp) (A' : List Addr) (σ' : L2.St) (H' : Hp) (v : V), Same Hs Hs' → Ok C Hs' A' g' σ' H' → RelR C.K Hs' A' v r → D.rt v H'
theorem FlP.mono {C : Ct} {Hs Hs1 : Hp} {g' : G} {D : Ends} {fl : Fl} (s : Same Hs Hs1) (h : FlP C Hs g' D fl) : FlP C Hs1 g' D fl := by
  cases fl with
  | nx => exact fun Hs' A' σ' H' s1 ok => h Hs' A' σ' H' (s.trans s1) ok
  | bk => exact fun Hs' A' σ' H' s1 ok => h Hs' A' σ' H' (s.trans s1) ok
  | ct => exact fun Hs' A' σ' H' s1 ok => h Hs' A' σ' H' (s.trans s1) ok
  | ret r => exact fun Hs' A' σ' H' v s1 ok => h Hs' A' σ' H' v (s.trans s1) ok
def tZS (K : PySem.W.Frag) (n : Nat) (s : SM) : TS := fun D σ H => ∃ (C : Ct) (Hs : Hp) (A : List Addr) (g : G) (fl : Fl) (g' : G), C.K = K ∧ C.n = n ∧ Ok C Hs A g σ H ∧ s g = some (fl, g') ∧ FlP C Hs g' D fl
abbrev ZS (X : Cx) (st : Stmt) (s : SM) : Prop := PS X st (tZS X.K X.N.length s)
abbrev ZSs (X : Cx) (st : List Stmt) (s : SM) : Prop := PSs X st (tZS X.K X.N.length s)
def zNx : SM := fun g => some (.nx, g)
def zBk : SM := fun g => some (.bk, g)
def zCt : SM := fun g => some (.ct, g)
def zSeq (s t : SM) : SM := fun g => do
  let (fl, g1) ← s g
  match fl with
  | .nx => t g1
  | fl => some (fl, g1)
def zRet (m : ZM) : SM := fun g => do
  let (r, g1) ← m g
  some (.ret r, g1)
def zIfS (n : Nat) (t : ZT) (s1 s2 : SM) : SM := fun g => do
  let (b, g1) ← t g
  if b = true then s1 (g1.take n) else s2 (g1.take n)
/-- a value goes to the slot i -/
def setR (n i : Nat) (r : R) (g : G) : Option G := match r with
  | .dat d => setDat i d g
  | .bor j => if n ≤ j then
      match g[j]? with
      | some (.own c false false) => if freeAt i g = true then some ((g.set i (.own c false false)).set j .un) else none
      | some (.frz d) => setDat i d g
      | some (.rws ls) => if freeAt i g = true then some ((g.set i (.rws ls)).set j .un) else none
      | _ => none
    else do
      let (d, g1) ← frzAt j g
      setDat i d g1
def zSet (n i : Nat) (m : ZM) : SM := fun g => do
  let (r, g1) ← m g
  let g2 ← setR n i r g1
  some (.nx, g2.take n)
section
variable {X : Cx} {pos : Pos} {st : Stmt} {rest : List Stmt} {s t : SM} {m : ZM}
theorem zss_nil : ZSs X [] zNx := by
  refine PSs.of pss_nil fun D σ H ⟨C, Hs, A, g, fl, g', hK, hn, ok, e, q⟩ => ?_
  cases e
  exact q Hs A σ H (Same.refl _) ok
theorem seq_of {D : Ends} {σ : L2.St} {H : Hp} {K : PySem.W.Frag} {n : Nat} (h : tZS K n (zSeq s t) D σ H) : tSeq (tZS K n s) (tZS K n t) D σ H := by
  obtain ⟨C, Hs, A, g, fl, g', hK, hn, ok, e, q⟩ := h
  unfold zSeq at e
  simp only [Option.bind_eq_bind, Option.bind_eq_some_iff] at e
  obtain ⟨⟨fl1, g1⟩, h1, e⟩ := e
  refine ⟨C, Hs, A, g, fl1, g1, hK, hn, ok, h1, ?_⟩
  cases fl1 with
  | nx => exact fun Hs' A' σ' H' s1 ok1 => ⟨C, Hs', A', g1, fl, g', hK, hn, ok1, e, q.mono s1⟩
  | bk => cases e; exact q
  | ct => cases e; exact q
  | ret r => cases e; exact q
theorem zss_cons (h1 : ZS X st s) (h2 : ZSs X rest t) : ZSs X (st :: rest) (zSeq s t) := PSs.of (pss_cons h1 h2) fun D σ H h => seq_of h
theorem zss_one (h1 : ZS X st s) : ZSs X [st] s := pss_one h1
theorem zs_ret {e : Expr} (he : ZE X e m) : ZS X (.Return (some e) pos) (zRet m) := by
  refine PS.of (ps_ret he) fun D σ H ⟨C, Hs, A, g, fl, g', hK, hn, ok, e, q⟩ => ?_
  unfold zRet at e
  simp only [Option.bind_eq_bind, Option.bind_eq_some_iff] at e
  obtain ⟨⟨r1, g1⟩, h1, e⟩ := e
  cases e
  exact ⟨C, Hs, A, g, r1, _, hK, hn, ok, h1, fun Hs1 A1 v1 H1 s1 p1 ok1 rel1 => q Hs1 A1 σ H1 v1 s1 ok1 rel1⟩
theorem zs_if {c : Expr} {a b : List Stmt} {tc : ZT} (hc : ZTe X c tc) (ha : ZSs X a s) (hb : ZSs X b t) : ZS X (.If c a b pos) (zIfS X.N.length tc s t) := by
  refine PS.of (ps_if hc ha hb) fun D σ H ⟨C, Hs, A, g, fl, g', hK, hn, ok, e, q⟩ => ?_
  unfold zIfS at e
  simp only [Option.bind_eq_bind, Option.bind_eq_some_iff] at e
  obtain ⟨⟨b1, g1⟩, h1, e⟩ := e
  refine ⟨C, Hs, A, g, b1, g1, hK, hn, ok, h1, fun Hs1 A1 H1 s1 p1 ok1 => ?_⟩
  have ok2 := ok1.cut
  rw [hn] at ok2
  cases b1 with
  | true => exact ⟨C, Hs1, _, _, fl, g', hK, hn, ok2, e, q.mono s1⟩
  | false => exact ⟨C, Hs1, _, _, fl, g', hK, hn, ok2, e, q.mono s1⟩
theorem Ok.setR {C : Ct} {Hs : Hp} {A : List Addr} {g g' : G} {σ : L2.St} {H : Hp} {i : Nat} {v : V} {r : R} (ok : Ok C Hs A g σ H) (hi : i < C.n) (h : RelR C.K Hs A v r) (e : setR C.n i r g = some g') :
    ∃ Hs' A', Same Hs Hs' ∧ Ok C Hs' A' g' (σ.set i (some v)) H := by
  unfold Z.setR at e
  cases r with
  | dat d => exact ⟨Hs, A, Same.refl _, ok.set e hi h⟩
  | bor j =>
    obtain ⟨a, ha, rfl⟩ := (show ∃ a, A[j]? = some a ∧ v = .ref a from h)
    simp only at e
    split at e
    · rename_i hj
      split at e
      · rename_i c hg
        split at e
        · rename_i hf
          cases e
          exact ⟨Hs, _, Same.refl _, ok.move hf hi hj hg ha⟩
        · cases e
      · rename_i d hg
        obtain ⟨a', h1, _, h3⟩ := ok.frz j d hg
        rw [ha] at h1
        have e1 : a = a' := Option.some.inj h1
        subst e1
        exact ⟨Hs, A, Same.refl _, ok.set e hi h3⟩
      · rename_i ls hg
        split at e
        · rename_i hf
          cases e
          exact ⟨Hs, _, Same.refl _, ok.moveR hf hi hj hg ha⟩
        · cases e
      · cases e
    · simp only [Option.bind_eq_bind, Option.bind_eq_some_iff] at e
      obtain ⟨⟨d, g1⟩, h1, e⟩ := e
      obtain ⟨Hs', a', s, ok', h2, dz⟩ := ok.frzAt h1
      rw [ha] at h2
      have e1 : a = a' := Option.some.inj h2
      subst e1
      exact ⟨Hs', A, s, ok'.set e hi dz⟩
theorem set_of {i : Nat} {D : Ends} {σ : L2.St} {H : Hp} {K : PySem.W.Frag} {n : Nat} (hi : i < n) (h : tZS K n (zSet n i m) D σ H) : tAsg (tZ K n m) (gName i) D σ H := by
  obtain ⟨C, Hs, A, g, fl, g', hK, hn, ok, e, q⟩ := h
  unfold zSet at e
  simp only [Option.bind_eq_bind, Option.bind_eq_some_iff] at e
  obtain ⟨⟨r1, g1⟩, h1, g2, h2, e⟩ := e
  cases e
  refine ⟨C, Hs, A, g, r1, g1, hK, hn, ok, h1, fun Hs1 A1 v1 H1 s1 p1 ok1 rel1 => ?_⟩
  rw [← hn] at h2
  obtain ⟨Hs2, A2, s2, ok2⟩ := ok1.setR (by rw [hn]; exact hi) rel1 h2
  have ok3 := ok2.cut
  rw [hn] at ok3
  exact q Hs2 _ _ H1 (s1.trans s2) ok3
/-- name = value -/
theorem zs_set {i : Nat} {x : Str} {e : Expr} {pos' : Pos} (hN : X.N.Nodup) (hi : X.N[i]? = some x) (hx : Loc X.env.scope x) (he : ZE X e m) (hs : swapsWith e (some (.Name x pos')) pos.line X.env = pure false := by rfl) (hf : X.fn x = true ∨ X.env.scope.names.lookup x = some .local := by first | exact .inl rfl | exact .inr rfl | assumption) :
    ZS X (.Assign [.Name x pos'] e pos) (zSet X.N.length i m) :=
  PS.of (ps_set hN hi hx he hs hf) fun D σ H h => set_of (List.getElem?_eq_some_iff.mp hi).1 h
def zAug (n i : Nat) (f : D → D → Option D) (m : ZM) : SM := fun g => do
  let (r0, _) ← zVar i g
  let d ← rd g r0
  if d.scal = true then do
    let (r, g1) ← m g
    let e ← rd g1 r
    let z ← f d e
    if z.scal = true then do
      let g2 ← setDat i z g1
      some (.nx, g2.take n)
    else none
  else none
abbrev TD := D → G → Option G
def tZG (K : PySem.W.Frag) (n : Nat) (tg : TD) : TG := fun v σ H Q => ∃ (C : Ct) (Hs : Hp) (A : List Addr) (g : G) (d : D) (g' : G), C.K = K ∧ C.n = n ∧ Ok C Hs A g σ H ∧ Dz K Hs v d ∧ tg d g = some g' ∧
  ∀ (σ' : L2.St), Ok C Hs A g' σ' H → Q σ' H
abbrev ZG (X : Cx) (e : Expr) (tg : TD) : Prop := PG X e (tZG X.K X.N.length tg)
theorem PG.of {e : Expr} {t t' : TG} (h : PG X e t) (w : ∀ v σ H Q, t' v σ H Q → t v σ H Q) : PG X e t' := ⟨fun pins s σ H v u Q I r q => h.run pins s σ H v u Q I r (w v σ H Q q)⟩
theorem PGs.of {es : List Expr} {t t' : TGs} (h : PGs X es t) (w : ∀ v σ H Q, t' v σ H Q → t v σ H Q) : PGs X es t' := ⟨fun pins s σ H v u Q I r q => h.run pins s σ H v u Q I r (w v σ H Q q)⟩
def gN (i : Nat) : TD := fun d g => setDat i d g
theorem zg_name {i : Nat} {x : Str} (hN : X.N.Nodup) (hi : X.N[i]? = some x) (hx : Loc X.env.scope x) (hf : X.fn x = true ∨ X.env.scope.names.lookup x = some .local := by first | exact .inl rfl | exact .inr rfl | assumption) : ZG X (.Name x pos) (gN i) := by
  refine PG.of (pg_name hN hi hx hf) fun v σ H Q ⟨C, Hs, A, g, d, g', hK, hn, ok, hd, e, q⟩ => ?_
  rw [← hK] at hd
  exact q _ (ok.set e (by rw [hn]; exact (List.getElem?_eq_some_iff.mp hi).1) hd)
/-- target = value -/
def zAsg (n : Nat) (m : ZM) (tg : TD) : SM := fun g => do
  let (r, g1) ← m g
  let (d, g2) ← frzR r g1
  let g3 ← tg d g2
  some (.nx, g3.take n)
def zApp (n : Nat) (mo me : ZM) : SM := fun g => do
  let (ro, g1) ← mo g
  match ro with
  | .bor j => match g1[j]? with
    | some (.own (.lst _) _ _) => do
      let (re, g2) ← me g1
      let (d, g3) ← frzR re g2
      match g3[j]? with
      | some (.own (.lst ds) p false) => if ds.length < sizeLine then some (.nx, (g3.set j (.own (.lst (ds ++ [d])) p false)).take n) else none
      | _ => none
    | _ => none
  | _ => none
theorem CnOk.lst_inv {K : PySem.W.Frag} {H : Hp} {ds : List D} {o : HO} (h : CnOk K H (.lst ds) o) : ∃ vs, o = .lst vs ∧ DzA K H vs ds := by
  cases o with
  | lst vs => exact ⟨vs, rfl, h⟩
  | _ => exact (show False from h).elim
/-- what stands at a borrowed list -/
theorem Ok.bor {C : Ct} {Hs : Hp} {A : List Addr} {g : G} {σ : L2.St} {H : Hp} {v : V} {j : Nat} {ds : List D} {p l : Bool} (ok : Ok C Hs A g σ H) (h : RelR C.K Hs A v (.bor j)) (e : g[j]? = some (.own (.lst ds) p l)) :
    ∃ a vs, v = .ref a ∧ A[j]? = some a ∧ H a = some (.lst vs) ∧ DzA C.K Hs vs ds := by
  obtain ⟨a, ha, rfl⟩ := (show ∃ a, A[j]? = some a ∧ v = .ref a from h)
  obtain ⟨a', o, w1, _, _, w4, w5, _⟩ := ok.own j _ _ _ e
  rw [ha] at w1
  have e1 : a = a' := Option.some.inj w1
  subst e1
  obtain ⟨vs, rfl, z⟩ := w5.lst_inv
  exact ⟨a, vs, rfl, ha, w4, z⟩
theorem zs_app {o e : Expr} {apos cpos : Pos} {mo me : ZM} (ho : ZE X o mo) (he : ZE X e me)
    (hbase : attributeBase o "append" X.env (eval o X.env) = eval o X.env := by rfl)
    (hfew : ((backTo cpos (starEach [e] X.env)).all (fun x => !x.1) && (backToKw cpos (keywordEach [] X.env)).all (fun x => x.1.isSome)
      && decide ([e].length + ([] : List Keyword).length + (if ([] : List Keyword).isEmpty then 0 else 1) < 30)) = true := by rfl)
    (hline : (apos.endLine == cpos.line) = true := by rfl) (hs : starEach [e] X.env = (false, eval e X.env) :: starEach [] X.env := by rfl) (hplain : (backTo cpos (starEach [] X.env)).any (·.1) = false := by rfl)
    (hsw : swapsWith (.Call (.Attribute o "append" apos) [e] [] cpos) none pos.line X.env = pure false := by rfl) :
    ZS X (.Expr (.Call (.Attribute o "append" apos) [e] [] cpos) pos) (zApp X.N.length mo me) := by
  refine PS.of (ps_expr (pe_bm PySem.F.plainAttrs_list PySem.F.slot_list_append PySem.F.type_list_append mt_append ho (pa_cons he pa_nil hs) hbase hfew hline hs hplain) hsw) fun D σ H ⟨C, Hs, A, g, fl, g', hK, hn, ok, e, q⟩ => ?_
  unfold zApp at e
  simp only [Option.bind_eq_bind, Option.bind_eq_some_iff] at e
  obtain ⟨⟨ro, g1⟩, h1, e⟩ := e
  cases ro with
  | dat d => cases e
  | bor j =>
    simp only at e
    split at e
    · rename_i ds0 p0 l0 hg0
      simp only [Option.bind_eq_some_iff] at e
      obtain ⟨⟨re, g2⟩, h2, ⟨d, g3⟩, h3, e⟩ := e
      split at e
      · rename_i ds p hg
        split at e
        · rename_i hz
          cases e
          refine ⟨C, Hs, A, g, _, g1, hK, hn, ok, h1, fun Hs1 A1 v1 H1 s1 p1 ok1 rel1 => ?_⟩
          obtain ⟨a, ys, ev, _, hH, _⟩ := ok1.bor rel1 hg0
          subst ev
          refine ⟨.inl ⟨rfl, ys, SqL.of hH⟩, C, Hs1, A1, g1, re, g2, hK, hn, ok1, h2, fun Hs2 A2 v2 H2 s2 p2 ok2 rel2 => ?_⟩
          obtain ⟨Hs3, s3, ok3, dz⟩ := ok2.frzR rel2 h3
          obtain ⟨a', vs, ea, hA, hH3, hz3⟩ := ok3.bor (rel1.mono (s2.trans s3) p2) hg
          cases ea
          refine ⟨a, vs, v2, rfl, rfl, hH3, by rw [hz3.length]; exact hz, ?_⟩
          have ok4 := (ok3.wr (o := .lst (vs ++ [v2])) (c' := .lst (ds ++ [d])) hg hA (show DzA C.K Hs3 (vs ++ [v2]) (ds ++ [d]) from hz3.append (.cons dz .nil))).cut
          rw [hn] at ok4
          exact q Hs3 _ σ _ ((s1.trans s2).trans s3) ok4
        · cases e
      · cases e
    · cases e
def isI : R → Option Int
  | .dat (.int i) => some i
  | _ => none
theorem isI_some {r : R} {b : Int} (h : isI r = some b) : r = .dat (.int b) := by
  unfold isI at h
  split at h
  · cases h; rfl
  · cases h
/-- xs[i] = e -/
def zSto (n : Nat) (mo mi me : ZM) : SM := fun g => do
  let (re, g1) ← me g
  let (d, g2) ← frzR re g1
  let (ro, g3) ← mo g2
  match ro with
  | .bor j => do
    let (ri, g4) ← mi g3
    let k ← isI ri
    match g4[j]? with
    | some (.own (.lst ds) p false) => match ixN ds.length k with
      | some m => some (.nx, (g4.set j (.own (.lst (ds.set m d)) p false)).take n)
      | none => none
    | _ => none
  | _ => none
end
end Z
set_option Elab.async false
set_option linter.all false
set_option maxRecDepth 100000
set_option maxHeartbeats 4000000
namespace Z
open PySem PySem.Spec PyProof.Rows L2
/-- the source of a walk still stands -/
def Src (K : PySem.W.Frag) (Hs0 : Hp) : Option (Addr × Cn) → Hp → Hp → Prop
  | none, Hs, H => Same Hs0 Hs ∧ Same Hs H
  | some (a, c), Hs, H => ∃ o, H a = some o ∧ CnOk K Hs c o
structure JW (K : PySem.W.Frag) (J : It) (L : List D) (St : Hp → Hp → Prop) : Prop where
  stop : ∀ Hs H (i : Nat), St Hs H → L.length ≤ i → J.stop i H
  go : ∀ Hs H (i : Nat), St Hs H → i < L.length → J.go i H
  yld : ∀ (C : Ct) (Hs : Hp) (A : List Addr) (g : G) (σ : L2.St) (H : Hp) (i : Nat) (x : V) (H' : Hp), C.K = K → Ok C Hs A g σ H → St Hs H → i < L.length → J.yld i H x H' →
    ∃ d Hs', L[i]? = some d ∧ Same Hs Hs' ∧ Ok C Hs' A g σ H' ∧ Dz K Hs' x d
def LkOk (n : Nat) (A : List Addr) (g : G) : Option Nat → Option (Addr × Cn) → Prop
  | none, none => True
  | some j, some (a, c) => A[j]? = some a ∧ (∃ p l, g[j]? = some (.own c p l)) ∧ j < n
  | _, _ => False
abbrev MI := G → Option (List D × Option Nat × G)
def tZI (K : PySem.W.Frag) (n : Nat) (mi : MI) : TI := fun σ H Rr => ∃ (C : Ct) (Hs : Hp) (A : List Addr) (g : G) (L : List D) (lk : Option Nat) (g' : G), C.K = K ∧ C.n = n ∧ Ok C Hs A g σ H ∧ mi g = some (L, lk, g') ∧
  ∀ (Hs' : Hp) (A' : List Addr) (H' : Hp) (J : It) (lk' : Option (Addr × Cn)), Same Hs Hs' → Pre A A' → Ok C Hs' A' g' σ H' → LkOk n A' g' lk lk' → JW K J L (Src K Hs' lk') → Rr J H'
abbrev ZI (X : Cx) (tg iter : Expr) (mi : MI) : Prop := PI X tg iter (tZI X.K X.N.length mi)
theorem PI.of {X : Cx} {tg iter : Expr} {t t' : TI} (h : PI X tg iter t) (w : ∀ σ H Rr, t' σ H Rr → t σ H Rr) : PI X tg iter t' := ⟨fun pins s σ H Rr I q => h.run pins s σ H Rr I (w σ H Rr q)⟩
def ziB (n j : Nat) (g1 : G) : Option (List D × Option Nat × G) := if j < n then
    (match g1[j]? with
    | some (.own (.lst L) _ _) => some (L, some j, g1)
    | some (.frz (.lst L)) => some (L, none, g1)
    | some (.rws ls) => some (ls.map D.lst, none, g1.set j (.frz (.lst (ls.map D.lst))))
    | _ => none)
  else (match frzAt j g1 with
    | some (.lst L, g2) => some (L, none, g2)
    | _ => none)
def ziL (n : Nat) (m : ZM) : MI := fun g => do
  let (r, g1) ← m g
  match r with
  | .dat (.lst L) => some (L, none, g1)
  | .bor j => ziB n j g1
  | _ => none
theorem jw_list {K : PySem.W.Frag} {Hs0 : Hp} {a : Addr} {vs : List V} {L : List D} (h : SqL K Hs0 a vs) (hz : DzA K Hs0 vs L) : JW K (Itl K a) L (Src K Hs0 none) where
  stop := fun Hs H i st hi => ⟨vs, (st.1.trans st.2).seq h, by rw [hz.length]; exact hi⟩
  go := fun Hs H i st hi => by
    have hv : i < vs.length := by rw [hz.length]; exact hi
    exact ⟨vs, vs[i], (st.1.trans st.2).seq h, List.getElem?_eq_getElem hv⟩
  yld := fun C Hs A g σ H i x H' hK ok st hi y => by
    obtain ⟨rfl, y⟩ := y
    obtain ⟨d, h1, h2⟩ := (hz.mono st.1).getV (y vs ((st.1.trans st.2).seq h))
    exact ⟨d, Hs, h1, Same.refl _, ok, h2⟩
theorem jw_own {K : PySem.W.Frag} {Hs0 : Hp} {a : Addr} {L : List D} : JW K (Itl K a) L (Src K Hs0 (some (a, .lst L))) where
  stop := fun Hs H i st hi => by
    obtain ⟨o, h1, h2⟩ := st
    obtain ⟨vs, rfl, hz⟩ := h2.lst_inv
    exact ⟨vs, SqL.of h1, by rw [hz.length]; exact hi⟩
  go := fun Hs H i st hi => by
    obtain ⟨o, h1, h2⟩ := st
    obtain ⟨vs, rfl, hz⟩ := h2.lst_inv
    have hv : i < vs.length := by rw [hz.length]; exact hi
    exact ⟨vs, vs[i], SqL.of h1, List.getElem?_eq_getElem hv⟩
  yld := fun C Hs A g σ H i x H' hK ok st hi y => by
    obtain ⟨o, h1, h2⟩ := st
    obtain ⟨vs, rfl, hz⟩ := h2.lst_inv
    obtain ⟨rfl, y⟩ := y
    obtain ⟨d, w1, w2⟩ := hz.getV (y vs (SqL.of h1))
    exact ⟨d, Hs, w1, Same.refl _, ok, w2⟩
section
variable {X : Cx} {pos : Pos} {tg : Expr} {m : ZM}
theorem zi_list {l : Expr} (hl : ZE X l m) : ZI X tg l (ziL X.N.length m) := by
  refine PI.of (pi_list hl) fun σ H Rr ⟨C, Hs, A, g, L, lk, g', hK, hn, ok, e, q⟩ => ?_
  unfold ziL at e
  simp only [Option.bind_eq_bind, Option.bind_eq_some_iff] at e
  obtain ⟨⟨r, g1⟩, h1, e⟩ := e
  refine ⟨C, Hs, A, g, r, g1, hK, hn, ok, h1, fun Hs1 A1 v1 H1 s1 p1 ok1 rel1 => ?_⟩
  cases r with
  | dat d =>
    cases d with
    | lst L' =>
      cases e
      have hd : Dz C.K Hs1 v1 (.lst L) := rel1
      rw [hK] at hd
      cases hd with
      | lst hs ha => exact ⟨_, rfl, ⟨_, ok1.same.seq hs⟩, q Hs1 A1 H1 _ none s1 p1 ok1 trivial (jw_list hs ha)⟩
    | _ => cases e
  | bor j =>
    obtain ⟨a, ha, rfl⟩ := (show ∃ a, A1[j]? = some a ∧ v1 = .ref a from rel1)
    simp only [ziB] at e
    split at e
    · rename_i hj
      split at e
      · rename_i L' p l hg
        cases e
        obtain ⟨a', vs, ev, hA, hH, hz⟩ := ok1.bor rel1 hg
        cases ev
        refine ⟨a, rfl, ⟨vs, SqL.of hH⟩, q Hs1 A1 H1 _ (some (a, .lst L)) s1 p1 ok1 ⟨ha, ⟨p, l, hg⟩, hj⟩ jw_own⟩
      · rename_i L' hg
        cases e
        obtain ⟨a', w1, _, hd⟩ := ok1.frz j _ hg
        rw [ha] at w1
        cases w1
        rw [hK] at hd
        cases hd with
        | lst hs hz => exact ⟨a, rfl, ⟨_, ok1.same.seq hs⟩, q Hs1 A1 H1 _ none s1 p1 ok1 trivial (jw_list hs hz)⟩
      · rename_i ls hg
        cases e
        obtain ⟨Hs2, a', s2, ok2, w1, hd⟩ := ok1.frzAt (d := .lst (ls.map D.lst)) (g' := g1.set j (.frz (.lst (ls.map D.lst)))) (by unfold Z.frzAt; rw [hg])
        rw [ha] at w1
        cases w1
        rw [hK] at hd
        cases hd with
        | lst hs hz => exact ⟨a, rfl, ⟨_, ok2.same.seq hs⟩, q Hs2 A1 H1 _ none (s1.trans s2) p1 ok2 trivial (jw_list hs hz)⟩
      · cases e
    · split at e
      · rename_i L' g2 h2
        cases e
        obtain ⟨Hs2, a', s2, ok2, w1, hd⟩ := ok1.frzAt h2
        rw [ha] at w1
        cases w1
        rw [hK] at hd
        cases hd with
        | lst hs hz => exact ⟨a, rfl, ⟨_, ok2.same.seq hs⟩, q Hs2 A1 H1 _ none (s1.trans s2) p1 ok2 trivial (jw_list hs hz)⟩
      · cases e
/-- lo, lo + 1, .. -/
def rgD (lo : Int) (n : Nat) : List D := (List.range n).map fun (i : Nat) => D.int (lo + (i : Int))
theorem rgD_len (lo : Int) (n : Nat) : (rgD lo n).length = n := by simp [rgD]
theorem rgD_get {lo : Int} {n i : Nat} (h : i < n) : (rgD lo n)[i]? = some (.int (lo + (i : Int))) := by simp [rgD, h]
theorem jw_range {K : PySem.W.Frag} {lo : Int} {n : Nat} {St : Hp → Hp → Prop} : JW K (Itr lo n) (rgD lo n) St where
  stop := fun Hs H i _ hi => by rw [rgD_len] at hi; exact hi
  go := fun Hs H i _ hi => by rw [rgD_len] at hi; exact hi
  yld := fun C Hs A g σ H i x H' hK ok st hi y => by
    rw [rgD_len] at hi
    obtain ⟨rfl, rfl⟩ := y
    exact ⟨_, Hs, rgD_get hi, Same.refl _, ok, .int _⟩
def rgOk (i : Int) : Bool := decide (-(2 ^ 62) ≤ i) && decide (i < 2 ^ 62)
def ziR1 (ma : ZAr) : MI := fun g => do
  let (rs, g1) ← ma g
  match rs with
  | [.dat (.int j)] => if rgOk j = true then some (rgD 0 j.toNat, none, g1) else none
  | _ => none
theorem rgOk_ok {i : Int} (h : rgOk i = true) : -(2 ^ 62) ≤ i ∧ i < 2 ^ 62 := by
  unfold rgOk at h
  rw [Bool.and_eq_true] at h
  exact ⟨of_decide_eq_true h.1, of_decide_eq_true h.2⟩
theorem relRs1 {K : PySem.W.Frag} {Hs : Hp} {A : List Addr} {vs : List V} {r : R} (h : RelRs K Hs A vs [r]) : ∃ v, vs = [v] ∧ RelR K Hs A v r := by
  cases vs with
  | nil => exact h.elim
  | cons v vs =>
    cases vs with
    | nil => exact ⟨v, rfl, h.1⟩
    | cons _ _ => exact h.2.elim
variable {a b : Expr} {ma : ZAr} {p : Pos}
theorem zi_range1 (hg : Gl X "range") (hm : X.mg "range" = none) (ha : ZAs X [a] ma) (hs : starEach [a] X.env = [(false, eval a X.env)] := by rfl) : ZI X tg (.Call (.Name "range" p) [a] [] pos) (ziR1 ma) := by
  refine PI.of (pi_range1 hg hm ha hs) fun σ H Rr ⟨C, Hs, A, g, L, lk, g', hK, hn, ok, e, q⟩ => ?_
  unfold ziR1 at e
  simp only [Option.bind_eq_bind, Option.bind_eq_some_iff] at e
  obtain ⟨⟨rs, g1⟩, h1, e⟩ := e
  refine ⟨C, Hs, A, g, rs, g1, hK, hn, ok, h1, fun Hs1 A1 vs H1 s1 p1 ok1 rel1 => ?_⟩
  simp only at e
  split at e
  · rename_i j
    split at e
    · rename_i hj
      cases e
      obtain ⟨v, rfl, w⟩ := relRs1 rel1
      have ev : v = .int j := (show Dz C.K Hs1 v (.int j) from w).v rfl
      subst ev
      exact ⟨j, rfl, (rgOk_ok hj).1, (rgOk_ok hj).2, q Hs1 A1 H1 _ none s1 p1 ok1 trivial jw_range⟩
    · cases e
  · cases e
def forL (tg : TD) (body : SM) : List D → SM
  | [], g => some (.nx, g)
  | x :: xs, g => do
    let g1 ← tg x g
    let (fl, g2) ← body g1
    match fl with
    | .nx => forL tg body xs g2
    | .ct => forL tg body xs g2
    | .bk => some (.nx, g2)
    | .ret r => some (.ret r, g2)
def unlk (j : Nat) (l : Bool) (g : G) : G := match g[j]? with
  | some (.own c p _) => g.set j (.own c p l)
  | _ => g
def zFor (n : Nat) (mi : MI) (tg : TD) (body : SM) : SM := fun g => do
  let (L, lk, g1) ← mi g
  match lk with
  | none => forL tg body L (g1.take n)
  | some j => match (g1.take n)[j]? with
    | some (.own c p l) => do
      let (fl, g3) ← forL tg body L ((g1.take n).set j (.own c p true))
      some (fl, unlk j l g3)
    | _ => none
def Ct.lock (C : Ct) (q : Nat × Addr × Cn) (h : q.1 < C.n) : Ct := { C with
  locks := q :: C.locks
  llt := fun r hr => by
    rcases List.mem_cons.mp hr with rfl | hr
    · exact h
    · exact C.llt r hr }
/-- the walk itself -/
theorem for_of {tgd : TD} {body : SM} {W : Ends} {C : Ct} {Hs1 : Hp} {A1 : List Addr} {g2 g3 : G} {σ : L2.St} {H1 : Hp} {L : List D} {J : It} {lk' : Option (Addr × Cn)} {fl : Fl} {K : PySem.W.Frag} {n : Nat} (hK : C.K = K) (hn : C.n = n)
    (ok : Ok C Hs1 A1 g2 σ H1) (jw : JW K J L (Src K Hs1 lk')) (hl : ∀ a c, lk' = some (a, c) → ∃ j, (j, a, c) ∈ C.locks) (e : forL tgd body L g2 = some (fl, g3)) (q : FlP C Hs1 g3 W fl) :
    ∃ Wi : Nat → Nat → L2.St → Hp → Prop, (∃ m, Wi 0 m σ H1) ∧ ∀ i m σ H, Wi i m σ H →
      (J.stop i H ∧ W.nx σ H) ∨ (J.go i H ∧ ∃ N : L2.St → Hp → Prop, (∀ σ' H', N σ' H' → ∃ m', m' < m ∧ Wi (i + 1) m' σ' H') ∧ ∀ x H', J.yld i H x H' → tZG K n tgd x σ H' fun σ2 H2 => tZS K n body { W with nx := N, ct := N, bk := W.nx } σ2 H2) := by
  have src : ∀ {Hs A g σ H}, Same Hs1 Hs → Ok C Hs A g σ H → Src K Hs1 lk' Hs H := fun {Hs A g σ H} s ok => by
    cases lk' with
    | none => exact ⟨s, ok.same⟩
    | some ac =>
      obtain ⟨a, c⟩ := ac
      obtain ⟨j, hj⟩ := hl a c rfl
      obtain ⟨p, h1, h2⟩ := ok.locked _ hj
      obtain ⟨a', o, w1, _, _, w4, w5, _⟩ := ok.own j c p true h1
      have : some a = some a' := h2.symm.trans w1
      cases this
      exact ⟨o, w4, by rw [← hK]; exact w5⟩
  refine ⟨fun i m σ H => m = L.length - i ∧ i ≤ L.length ∧ ∃ Hs A g, Same Hs1 Hs ∧ Ok C Hs A g σ H ∧ forL tgd body (L.drop i) g = some (fl, g3), ⟨L.length, by simp, Nat.zero_le _, Hs1, A1, g2, Same.refl _, ok, by simpa using e⟩, ?_⟩
  rintro i m σ H ⟨rfl, hi, Hs, A, g, s, ok, e⟩
  by_cases hlt : i < L.length
  · refine .inr ⟨jw.go Hs H i (src s ok) hlt, ?_⟩
    rw [List.drop_eq_getElem_cons hlt] at e
    simp only [forL, Option.bind_eq_bind, Option.bind_eq_some_iff] at e
    obtain ⟨ga, e1, ⟨flb, gb⟩, e2, e3⟩ := e
    have fin : ∀ (N : L2.St → Hp → Prop), (∀ Hs', Same Hs Hs' → FlP C Hs' gb { W with nx := N, ct := N, bk := W.nx } flb) → ∀ x H', J.yld i H x H' → tZG K n tgd x σ H' fun σ2 H2 => tZS K n body { W with nx := N, ct := N, bk := W.nx } σ2 H2 := fun N hf x H' y => by
      obtain ⟨d, Hs', hd, s', ok', dz⟩ := jw.yld C Hs A g σ H i x H' hK ok (src s ok) hlt y
      rw [List.getElem?_eq_getElem hlt] at hd
      cases hd
      exact ⟨C, Hs', A, g, _, ga, hK, hn, ok', dz, e1, fun σ2 ok2 => ⟨C, Hs', A, ga, flb, gb, hK, hn, ok2, e2, hf Hs' s'⟩⟩
    cases flb with
    | nx =>
      refine ⟨fun σ' H' => ∃ Hs' A', Same Hs1 Hs' ∧ Ok C Hs' A' gb σ' H', fun σ' H' ⟨Hs', A', s', ok'⟩ => ⟨L.length - (i + 1), by omega, rfl, hlt, Hs', A', gb, s', ok', e3⟩, fin _ fun Hs' s' => ?_⟩
      exact fun Hs2 A2 σ2 H2 s2 ok2 => ⟨Hs2, A2, (s.trans s').trans s2, ok2⟩
    | ct =>
      refine ⟨fun σ' H' => ∃ Hs' A', Same Hs1 Hs' ∧ Ok C Hs' A' gb σ' H', fun σ' H' ⟨Hs', A', s', ok'⟩ => ⟨L.length - (i + 1), by omega, rfl, hlt, Hs', A', gb, s', ok', e3⟩, fin _ fun Hs' s' => ?_⟩
      exact fun Hs2 A2 σ2 H2 s2 ok2 => ⟨Hs2, A2, (s.trans s').trans s2, ok2⟩
    | bk =>
      refine ⟨fun _ _ => False, fun _ _ z => z.elim, fin _ fun Hs' s' => ?_⟩
      cases e3
      exact fun Hs2 A2 σ2 H2 s2 ok2 => q Hs2 A2 σ2 H2 ((s.trans s').trans s2) ok2
    | ret r =>
      refine ⟨fun _ _ => False, fun _ _ z => z.elim, fin _ fun Hs' s' => ?_⟩
      cases e3
      exact fun Hs2 A2 σ2 H2 v s2 ok2 => q Hs2 A2 σ2 H2 v ((s.trans s').trans s2) ok2
  · have ei : i = L.length := by omega
    subst ei
    rw [List.drop_length] at e
    cases e
    exact .inl ⟨jw.stop Hs H _ (src s ok) (Nat.le_refl _), q Hs A σ H s ok⟩
theorem FlP.of {C C' : Ct} {Hs : Hp} {g g' : G} {W : Ends} {fl : Fl} (hK : C'.K = C.K) (h : ∀ Hs' A' σ' H', Ok C' Hs' A' g' σ' H' → Ok C Hs' A' g σ' H') (q : FlP C Hs g W fl) : FlP C' Hs g' W fl := by
  cases fl with
  | nx => exact fun Hs' A' σ' H' s ok => q Hs' A' σ' H' s (h _ _ _ _ ok)
  | bk => exact fun Hs' A' σ' H' s ok => q Hs' A' σ' H' s (h _ _ _ _ ok)
  | ct => exact fun Hs' A' σ' H' s ok => q Hs' A' σ' H' s (h _ _ _ _ ok)
  | ret r => exact fun Hs' A' σ' H' v s ok rel => q Hs' A' σ' H' v s (h _ _ _ _ ok) (by rw [← hK]; exact rel)
theorem zs_for {iter : Expr} {body : List Stmt} {mi : MI} {g : TD} {s : SM} (hp : PassesOwn (model X.prog X.w) X.A X.env X.xe) (hc : X.calm = true) (hi : ZI X tg iter mi) (hg : ZG X tg g) (hb : ZSs X body s)
    (hs : ∀ x, foldedSetIterable iter X.env x = pure x := by intro _; rfl) : ZS X (.For tg iter body [] pos) (zFor X.N.length mi g s) := by
  refine PS.of (ps_for hp hc hi hg hb hs) fun W σ H ⟨C, Hs, A, g, fl, g', hK, hn, ok, e, q⟩ => ?_
  unfold zFor at e
  simp only [Option.bind_eq_bind, Option.bind_eq_some_iff] at e
  obtain ⟨⟨L, lk, g1⟩, h1, e⟩ := e
  refine ⟨C, Hs, A, g, L, lk, g1, hK, hn, ok, h1, fun Hs1 A1 H1 J lk' s1 _p1 ok1 hl jw => ?_⟩
  have okc := ok1.cut
  rw [hn] at okc
  cases lk with
  | none =>
    cases lk' with
    | some _ => exact hl.elim
    | none =>
      exact for_of hK hn okc jw (fun _ _ z => by cases z) e (q.mono s1)
  | some j =>
    cases lk' with
    | none => exact hl.elim
    | some ac =>
      obtain ⟨a, c⟩ := ac
      obtain ⟨ha, ⟨p0, l0, hgj⟩, hj⟩ := hl
      simp only at e
      split at e
      · rename_i c' p l hg2
        rw [List.getElem?_take_of_lt hj, hgj] at hg2
        cases hg2
        simp only [Option.bind_eq_some_iff] at e
        obtain ⟨⟨fl1, g3⟩, e1, e2⟩ := e
        cases e2
        have hgc : (g1.take X.N.length)[j]? = some (.own c p0 l0) := by rw [List.getElem?_take_of_lt hj]; exact hgj
        have hac : (A1.take X.N.length)[j]? = some a := by rw [List.getElem?_take_of_lt hj]; exact ha
        have hjn : j < C.n := by rw [hn]; exact hj
        have okl : Ok (C.lock (j, a, c) hjn) Hs1 (A1.take X.N.length) ((g1.take X.N.length).set j (.own c p0 true)) σ H1 := by
          refine okc.lk hgc rfl rfl rfl rfl rfl fun r hr => ?_
          rcases List.mem_cons.mp hr with rfl | hr
          · exact .inl ⟨rfl, rfl, rfl, hac⟩
          · by_cases z : r.1 = j
            · obtain ⟨p', w1, w2⟩ := okc.locked r hr
              rw [z, hgc] at w1
              cases w1
              rw [z] at w2
              exact .inl ⟨z, rfl, rfl, w2⟩
            · exact .inr ⟨z, hr⟩
        refine for_of (C := C.lock (j, a, c) hjn) hK hn okl jw (fun a' c' z => ⟨j, by cases z; exact List.mem_cons_self⟩) e1 ?_
        refine (q.mono s1).of (C := C) rfl fun Hs' A' σ' H' ok' => ?_
        obtain ⟨p', w1, w2⟩ := ok'.locked (j, a, c) List.mem_cons_self
        unfold unlk
        rw [show g3[j]? = some (.own c p' true) from w1]
        refine ok'.lk (C' := C) w1 rfl rfl rfl rfl rfl fun r hr => ?_
        by_cases z : r.1 = j
        · obtain ⟨p2, y1, y2⟩ := okc.locked r hr
          rw [z, hgc] at y1
          have e3 : some (Sl.own c p0 l0) = some (.own r.2.2 p2 true) := y1
          cases e3
          obtain ⟨p3, x1, x2⟩ := ok'.locked r (List.mem_cons_of_mem _ hr)
          rw [z] at x2
          exact .inl ⟨z, rfl, rfl, x2⟩
        · exact .inr ⟨z, List.mem_cons_of_mem _ hr⟩
      · cases e
end
end Z
set_option Elab.async false
set_option linter.all false
set_option maxRecDepth 100000
set_option maxHeartbeats 4000000
namespace Z
open PySem PySem.Spec PyProof.Rows L2
/-- what a def hands back: data, or a new container -/
inductive FR where
  | dat (d : D) | new (c : Cn) | newR (ls : List (List D))
  deriving Inhabited
def RelF (K : PySem.W.Frag) (Hs' H H' : Hp) (v : V) : FR → Prop
  | .dat d => Dz K Hs' v d
  | .new c => ∃ a o, v = .ref a ∧ H a = none ∧ Hs' a = none ∧ H' a = some o ∧ CnOk K Hs' c o
  | .newR ls => ∃ a ks, v = .ref a ∧ Kd K Hs' H H' a ks ls
/-- the promise of a def that changes nothing -/
def spP (K : PySem.W.Frag) (f : List D → Option FR) : Sp := fun vs H Q _ => ∃ (Hs : Hp) (ds : List D) (fr : FR), Same Hs H ∧ DzA K Hs vs ds ∧ f ds = some fr ∧
  ∀ (v : V) (Hs' H' : Hp), Same Hs Hs' → Same H H' → Same Hs' H' → (∀ b o, Hs' b = some o → Hs b = some o ∨ H b = none) → RelF K Hs' H H' v fr → Q v H'
def fin (g : G) : R → Option FR
  | .dat d => some (.dat d)
  | .bor j => match g[j]? with
    | some (.own c false false) => some (.new c)
    | some (.frz d) => some (.dat d)
    | some (.rws ls) => some (.newR ls)
    | _ => none
def start0 (n : Nat) (ds : List D) : G := ds.map Sl.dat ++ List.replicate (n - ds.length) .un
def runP (n np : Nat) (s : SM) : List D → Option FR := fun ds => if ds.length = np then
    (match s (start0 n ds) with
    | some (.ret r, g) => fin g r
    | some (.nx, _) => some (.dat .non)
    | _ => none)
  else none
theorem start_len {N : List Str} {vs : List V} (h : vs.length ≤ N.length) : (L2.start N vs).length = N.length := by
  unfold L2.start
  rw [List.length_append, List.length_map, List.length_replicate]
  omega
theorem ok_start {K : PySem.W.Frag} {N : List Str} {Hs H : Hp} {vs : List V} {ds : List D} (h : ds.length ≤ N.length) (s : Same Hs H) (hz : DzA K Hs vs ds) :
    Ok { K := K, n := N.length, H0 := H, Hs0 := Hs, pins := [], locks := [], plt := fun _ h => (List.not_mem_nil h).elim, llt := fun _ h => (List.not_mem_nil h).elim } Hs (List.replicate N.length 0) (start0 N.length ds) (L2.start N vs) H := by
  have hvl := hz.length
  have old : ∀ (i : Nat) (t : Sl), (start0 N.length ds)[i]? = some t → (∃ d, ds[i]? = some d ∧ t = .dat d) ∨ t = .un := fun i t e => by
    unfold start0 at e
    by_cases hi : i < ds.length
    · rw [List.getElem?_append_left (by simpa using hi), List.getElem?_map] at e
      rw [List.getElem?_eq_getElem hi] at e
      exact .inl ⟨ds[i], List.getElem?_eq_getElem hi, (Option.some.inj e).symm⟩
    · rw [List.getElem?_append_right (by simpa using hi), List.getElem?_replicate] at e
      split at e
      · exact .inr (Option.some.inj e).symm
      · cases e
  refine ⟨start_len (by omega), by unfold start0; simp; omega, by unfold start0; simp; omega, Same.refl _, s, fun i d e => ?_, fun i d e => ?_, fun i c p l e => ?_, fun i j c p l c' p' l' a e _ _ _ => ?_, fun b o e => .inl e, fun b o e _ => e, fun _ h => (List.not_mem_nil h).elim, fun i c l a e _ => ?_, fun _ h => (List.not_mem_nil h).elim, fun i ls e => ?_⟩
  · rcases old i _ e with ⟨d', h1, h2⟩ | z
    · cases h2
      obtain ⟨v, w1, w2⟩ := hz.get h1
      refine ⟨v, ?_, w2⟩
      have hi := (List.getElem?_eq_some_iff.mp w1).1
      unfold L2.start
      rw [List.getElem?_append_left (by simpa using hi), List.getElem?_map, w1]
      rfl
    · cases z
  · rcases old i _ e with ⟨d', h1, h2⟩ | z
    · cases h2
    · cases z
  · rcases old i _ e with ⟨d', h1, h2⟩ | z
    · cases h2
    · cases z
  · rcases old i _ e with ⟨d', h1, h2⟩ | z
    · cases h2
    · cases z
  · rcases old i _ e with ⟨d', h1, h2⟩ | z
    · cases h2
    · cases z
  · rcases old i _ e with ⟨d', h1, h2⟩ | z
    · cases h2
    · cases z
theorem fin_ok {C : Ct} {Hs H' : Hp} {A : List Addr} {g : G} {σ : L2.St} {v : V} {r : R} {fr : FR} (ok : Ok C Hs A g σ H') (h : RelR C.K Hs A v r) (e : fin g r = some fr) : RelF C.K Hs C.H0 H' v fr := by
  cases r with
  | dat d => cases e; exact h
  | bor j =>
    obtain ⟨a, ha, rfl⟩ := (show ∃ a, A[j]? = some a ∧ v = .ref a from h)
    simp only [fin] at e
    split at e
    · rename_i c hg
      cases e
      obtain ⟨a', o, w1, _, w3, w4, w5, w6⟩ := ok.own j _ _ _ hg
      rw [ha] at w1
      cases w1
      exact ⟨a, o, rfl, w6 rfl, w3, w4, w5⟩
    · rename_i d hg
      cases e
      obtain ⟨a', w1, _, w3⟩ := ok.frz j _ hg
      rw [ha] at w1
      cases w1
      exact w3
    · rename_i ls hg
      cases e
      obtain ⟨a', ks, w1, _, w3, _⟩ := ok.rws j _ hg
      rw [ha] at w1
      cases w1
      exact ⟨a, ks, rfl, w3⟩
    · cases e
section
variable {P : Program} {w : World} {K : PySem.W.Frag} {mg : Str → Option Value} {base : Heap}
/-- THE RULE for a def that changes nothing -/
theorem okP {x qual : Str} {st : Stmt} {f : Addr} {fd : FuncData} {N ps : List Str} {k : Nat} {s : SM} (F : Fun K x qual st f fd) (S : FnScope N ps (defScope st))
    (hbody : ∀ (cdv : Value) (A : Around) (outer : List Env) (s0 : Shared) (H : Hp) (E : XK), Room k (A.deeper (envOfC qual (defScope st) s0.heap.objs.size f cdv)) →
      ZSs (cxOf CX0 P w K mg base N qual (defScope st) f cdv A outer s0 H E).nox (defBody st) s) : FnOk P w K mg base CX0 (k + 1) f fd ps (spP K (runP N.length ps.length s)) := by
  have arity : ∀ vs H Q E, spP K (runP N.length ps.length s) vs H Q E → vs.length = ps.length := fun vs H Q E ⟨Hs, ds, fr, _, hz, e, _⟩ => by
    unfold runP at e
    split at e
    · rename_i h
      rw [hz.length]
      exact h
    · cases e
  refine F.ok S arity (fun cdv A outer s0 H vs Q E hr h => ⟨_, hbody cdv A outer s0 H E hr, ?_⟩)
  have hal := arity vs H Q E h
  obtain ⟨Hs, ds, fr, sm, hz, e, q⟩ := h
  have hpl : ps.length ≤ N.length := by
    have := congrArg List.length S.pre
    rw [List.length_take] at this
    omega
  have hdl : ds.length ≤ N.length := by rw [← hz.length]; omega
  unfold runP at e
  rw [if_pos (by rw [← hz.length]; exact hal)] at e
  split at e
  · rename_i r g' hs
    refine ⟨_, Hs, _, start0 N.length ds, .ret r, g', rfl, rfl, ok_start hdl sm hz, hs, ?_⟩
    exact fun Hs' A' σ' H' v s1 ok1 rel1 => q v Hs' H' s1 (fun b o e => ok1.keep b o e (fun _ h => (List.not_mem_nil h).elim)) ok1.same ok1.grow (fin_ok ok1 rel1 e)
  · rename_i g' hs
    cases e
    refine ⟨_, Hs, _, start0 N.length ds, .nx, g', rfl, rfl, ok_start hdl sm hz, hs, ?_⟩
    exact fun Hs' A' σ' H' s1 ok1 => q .non Hs' H' s1 (fun b o e => ok1.keep b o e (fun _ h => (List.not_mem_nil h).elim)) ok1.same ok1.grow .non
  · cases e
/-- the def that the module's name x holds keeps a promise, by at most level k -/
def Cal (P : Program) (w : World) (K : PySem.W.Frag) (mg : Str → Option Value) (base : Heap) (k : Nat) (x : Str) (sp : Sp) : Prop :=
  ∃ (f : Addr) (fd : FuncData) (ps : List Str), mg x = some (.ref f) ∧ PySem.W.keepIn K (.ref f) = true ∧ Binds K fd ps [] ∧ FnOk P w K mg base CX0 k f fd ps sp
theorem Cal.mono {j k : Nat} {x : Str} {sp : Sp} (c : Cal P w K mg base j x sp) (h : j ≤ k) : Cal P w K mg base k x sp :=
  let ⟨f, fd, ps, h1, h2, h3, h4⟩ := c
  ⟨f, fd, ps, h1, h2, h3, h4.mono h⟩
end
theorem Ok.adopt {C : Ct} {Hs : Hp} {A : List Addr} {g : G} {σ : L2.St} {H H' : Hp} (ok : Ok C Hs A g σ H) {a : Addr} {o : HO} {c : Cn} (h : H a = none) (s : Same H H') (e : H' a = some o) (hc : CnOk C.K Hs c o) : Ok C Hs (A ++ [a]) (g ++ [.own c false false]) σ H' :=
  (ok.tmp h hc).more fun b u q => by
    by_cases z : b = a
    · subst z
      rw [upd_same] at q
      cases q
      exact e
    · rw [upd_ne z] at q
      exact s b u q
/-- .. where the known things grew too -/
theorem Ok.adoptS {C : Ct} {Hs Hs' : Hp} {A : List Addr} {g : G} {σ : L2.St} {H H' : Hp} (ok : Ok C Hs A g σ H) (s : Same H H') (s1 : Same Hs Hs') (s2 : Same Hs' H') (gr : ∀ b o, Hs' b = some o → Hs b = some o ∨ H b = none) {a : Addr} {o : HO} {c : Cn} (h : H a = none) (ha : Hs' a = none) (e : H' a = some o) (hc : CnOk C.K Hs' c o) :
    Ok C Hs' (A ++ [a]) (g ++ [.own c false false]) σ H' := by
  -- first without a
  have ok1 : Ok C Hs' A g σ (fun b => if b = a then none else H' b) := by
    refine ok.moreS (fun b u q => ?_) s1 (fun b u q => ?_) gr
    · have z : b ≠ a := fun z => by rw [z, h] at q; cases q
      show (if b = a then none else H' b) = some u
      rw [if_neg z]
      exact s b u q
    · have z : b ≠ a := fun z => by rw [z, ha] at q; cases q
      show (if b = a then none else H' b) = some u
      rw [if_neg z]
      exact s2 b u q
  refine (ok1.adopt (H' := H') (a := a) (o := o) (by show (if a = a then none else H' a) = none; rw [if_pos rfl]) (fun b u q => ?_) e hc)
  have q' : (if b = a then none else H' b) = some u := q
  split at q'
  · cases q'
  · exact q'
def zCall (f : List D → Option FR) (ma : ZAr) : ZM := fun g => do
  let (rs, g1) ← ma g
  let ds ← rdAll g1 rs
  let fr ← f ds
  match fr with
  | .dat d => if d.scal = true then some (.dat d, g1) else do
    let (ds2, g2) ← frzAll rs g1
    let fr2 ← f ds2
    match fr2 with
    | .dat d2 => some (.dat d2, g2)
    | _ => none
  | .new c => if c.scal = true then some (.bor g1.length, g1 ++ [.own c false false]) else do
    let (ds2, g2) ← frzAll rs g1
    let fr2 ← f ds2
    match fr2 with
    | .new c2 => some (.bor g2.length, g2 ++ [.own c2 false false])
    | _ => none
  | .newR _ => do
    let (ds2, g2) ← frzAll rs g1
    let fr2 ← f ds2
    match fr2 with
    | .newR ls => some (.bor g2.length, g2 ++ [.rws ls])
    | _ => none
section
variable {X : Cx} {f : List D → Option FR} {ma : ZAr}
theorem call_of {σ : L2.St} {H : Hp} {Q : VK} {E : XK} (h : tZ X.K X.N.length (zCall f ma) σ H Q) : tCall (spP X.K f) [] E (tZA X.K X.N.length ma) σ H Q := by
  obtain ⟨C, Hs, A, g, r, g', hK, hn, ok, e, q⟩ := h
  unfold zCall at e
  simp only [Option.bind_eq_bind, Option.bind_eq_some_iff] at e
  obtain ⟨⟨rs, g1⟩, h1, ds, h2, fr, h3, e⟩ := e
  refine ⟨C, Hs, A, g, rs, g1, hK, hn, ok, h1, fun Hs1 A1 vs H1 s1 p1 ok1 rel1 => ?_⟩
  show spP X.K f (vs ++ []) H1 Q E
  rw [List.append_nil]
  have plain : DzA X.K H1 vs ds := by
    have x := rdAll_ok ok1 rel1 h2
    rw [hK] at x
    exact x
  cases fr with
  | dat d =>
    simp only at e
    split at e
    · rename_i hs
      cases e
      refine ⟨H1, ds, .dat d, Same.refl _, plain, h3, fun v Hs' H' _ sH _ _ rf => ?_⟩
      exact q Hs1 A1 v H' s1 p1 (ok1.more sH) (show Dz C.K Hs1 v d from by rw [hK]; exact (show Dz X.K Hs' v d from rf).any hs)
    · simp only [Option.bind_eq_some_iff] at e
      obtain ⟨⟨ds2, g2⟩, h4, fr2, h5, e⟩ := e
      obtain ⟨Hs2, s2, ok2, z2⟩ := frzAll_ok ok1 rel1 h4
      cases fr2 with
      | new _ => cases e
      | newR _ => cases e
      | dat d2 =>
        cases e
        refine ⟨Hs2, ds2, .dat d2, ok2.same, by rw [← hK]; exact z2, h5, fun v Hs' H' sS sH sP gr rf => ?_⟩
        exact q Hs' A1 v H' ((s1.trans s2).trans sS) p1 (ok2.moreS sH sS sP gr) (show Dz C.K Hs' v d2 from by rw [hK]; exact rf)
  | new c =>
    simp only at e
    split at e
    · rename_i hs
      cases e
      refine ⟨H1, ds, .new c, Same.refl _, plain, h3, fun v Hs' H' _ sH _ _ rf => ?_⟩
      obtain ⟨a, o, rfl, w1, w2, w3, w4⟩ := rf
      have w5 : CnOk C.K Hs1 c o := by rw [hK]; exact w4.any hs
      exact q Hs1 (A1 ++ [a]) _ H' s1 (p1.trans (Pre.app _ _)) (ok1.adopt w1 sH w3 w5) (ok1.tmpR a)
    · simp only [Option.bind_eq_some_iff] at e
      obtain ⟨⟨ds2, g2⟩, h4, fr2, h5, e⟩ := e
      obtain ⟨Hs2, s2, ok2, z2⟩ := frzAll_ok ok1 rel1 h4
      cases fr2 with
      | dat _ => cases e
      | newR _ => cases e
      | new c2 =>
        cases e
        refine ⟨Hs2, ds2, .new c2, ok2.same, by rw [← hK]; exact z2, h5, fun v Hs' H' sS sH sP gr rf => ?_⟩
        obtain ⟨a, o, rfl, w1, w2, w3, w4⟩ := rf
        exact q Hs' (A1 ++ [a]) _ H' ((s1.trans s2).trans sS) (p1.trans (Pre.app _ _)) (ok2.adoptS sH sS sP gr w1 w2 w3 (by rw [hK]; exact w4)) (ok2.tmpR a)
  | newR _ =>
    simp only [Option.bind_eq_some_iff] at e
    obtain ⟨⟨ds2, g2⟩, h4, fr2, h5, e⟩ := e
    obtain ⟨Hs2, s2, ok2, z2⟩ := frzAll_ok ok1 rel1 h4
    cases fr2 with
    | dat _ => cases e
    | new _ => cases e
    | newR ls =>
      cases e
      refine ⟨Hs2, ds2, .newR ls, ok2.same, by rw [← hK]; exact z2, h5, fun v Hs' H' sS sH sP gr rf => ?_⟩
      obtain ⟨a, ks, rfl, w⟩ := rf
      rw [← hK] at w
      exact q Hs' (A1 ++ [a]) _ H' ((s1.trans s2).trans sS) (p1.trans (Pre.app _ _)) ((ok2.moreS sH sS sP gr).addR (w.low fun x m => (ok2.fresh0 (w.fr x m).2).2) (fun j c p l b e1 e2 m => ok2.deadO e1 e2 (w.fr b m).2) (fun j ms b x e1 e2 m1 m2 => ok2.deadR e1 e2 (by
        obtain ⟨a2, ks2, r1, _, r3, _⟩ := ok2.rws j ms e1
        rw [e2] at r1
        cases r1
        rw [sH _ _ r3.hd, ← r3.hd] at m1
        exact m1) (w.fr x m2).2)) (ok2.tmpR a)
theorem ze_call {k : Nat} {x : Str} {p pos : Pos} {e : Expr} {es : List Expr} (c : Cal X.prog X.w X.K X.mg X.base k x (spP X.K f)) (hr : Room k X.A) (ha : ZAs X (e :: es) ma) (hg : Gl X x := by rfl)
    (hdb : (x == ("__debug__" : Str)) = false := by decide) (he : starEach (e :: es) X.env = (false, eval e X.env) :: starEach es X.env := by rfl) (hpl : (backTo pos (starEach es X.env)).any (·.1) = false := by rfl) :
    ZE X (.Call (.Name x p) (e :: es) [] pos) (zCall f ma) := by
  obtain ⟨fa, fd, ps, h1, h2, h3, h4⟩ := c
  exact PE.of (pe_call (E := E0) h4 hr hg h1 h2 h3 .nil pass0 ha hdb he hpl) fun σ H Q h => call_of h
end
end Z
set_option Elab.async false
set_option linter.all false
set_option maxRecDepth 100000
set_option maxHeartbeats 4000000
namespace Z
open PySem PySem.Spec PyProof.Rows L2
theorem OpR.or {X : Cx} {f : Value → Value → Sem Value} {r r' : R2} (h : OpR X f r) (h' : OpR X f r') : OpR X f (fun x y H Q => r x y H Q ∨ r' x y H Q) := by
  intro pins s σ H x y v u Q I rx ry q
  rcases q with q | q
  · exact h pins s σ H x y v u Q I rx ry q
  · exact h' pins s σ H x y v u Q I rx ry q
theorem OpR.of {X : Cx} {f : Value → Value → Sem Value} {r r' : R2} (h : OpR X f r) (w : ∀ x y H Q, r' x y H Q → r x y H Q) : OpR X f r' := fun pins s σ H x y v u Q I rx ry q => h pins s σ H x y v u Q I rx ry (w _ _ _ _ q)
def subD : D → D → Option D
  | .int i, .int j => some (.int (i - j))
  | _, _ => none
theorem s_int {K : PySem.W.Frag} {g : Int → Int → D} {f : D → D → Option D} (hg : ∀ i j, (g i j).scal = true) (hf : ∀ d e z, f d e = some z → ∃ i j, d = .int i ∧ e = .int j ∧ z = g i j) : OpS K (rI0 fun i j => (g i j).v) f := by
  intro H x y d e z Q hx hy e1 q
  obtain ⟨i, j, rfl, rfl, rfl⟩ := hf d e z e1
  cases hx
  cases hy
  exact ⟨i, j, rfl, rfl, q⟩
theorem s_intC {K : PySem.W.Frag} {C : Int → Int → Prop} {g : Int → Int → D} {f : D → D → Option D} (hf : ∀ d e z, f d e = some z → ∃ i j, d = .int i ∧ e = .int j ∧ C i j ∧ z = g i j) : OpS K (rI C fun i j => (g i j).v) f := by
  intro H x y d e z Q hx hy e1 q
  obtain ⟨i, j, rfl, rfl, hc, rfl⟩ := hf d e z e1
  cases hx
  cases hy
  exact ⟨i, j, rfl, rfl, hc, q⟩
theorem s_sub {K : PySem.W.Frag} : OpS K (rI0 fun i j => .int (i - j)) subD := s_int (g := fun i j => .int (i - j)) (fun _ _ => rfl) fun d e z h => by
  unfold subD at h
  split at h
  · cases h; exact ⟨_, _, rfl, rfl, rfl⟩
  · cases h
/-- the product of two ints that the model reckons -/
def mulOk (i j : Int) : Bool := decide (i.natAbs < 2 ^ 64) || decide (j.natAbs < 2 ^ 64) || decide (i.natAbs.log2 + j.natAbs.log2 < 1000000)
theorem mulOk_ok {i j : Int} (h : mulOk i j = true) : IntMulOk i j := by
  unfold mulOk at h
  rw [Bool.or_eq_true, Bool.or_eq_true] at h
  rcases h with (h | h) | h
  · exact (show CMul i j from .inl (by have := of_decide_eq_true h; omega)).ok
  · exact (show CMul i j from .inr (by have := of_decide_eq_true h; omega)).ok
  · have h2 : i.natAbs.log2 + j.natAbs.log2 < 1000000 := of_decide_eq_true h
    exact CMulW.ok h2
def mulD : D → D → Option D
  | .int i, .int j => if mulOk i j = true then some (.int (i * j)) else none
  | _, _ => none
theorem o_mul {X : Cx} : OpR X (binaryOp .Mult) (rI (fun i j => mulOk i j = true) fun i j => .int (i * j)) := opI fun _ _ _ _ _ _ _ hc q => mul_int q (mulOk_ok hc)
theorem s_mul {K : PySem.W.Frag} : OpS K (rI (fun i j => mulOk i j = true) fun i j => .int (i * j)) mulD := s_intC (g := fun i j => .int (i * j)) fun d e z h => by
  unfold mulD at h
  split at h
  · split at h
    · cases h; exact ⟨_, _, rfl, rfl, by assumption, rfl⟩
    · cases h
  · cases h
def divOk (j : Int) : Bool := decide (j ≠ 0) && decide (j.natAbs.log2 < 9000)
def fdivV (i j : Int) : Int := if 0 < j then i / j else i.fdiv j
def fmodV (i j : Int) : Int := if 0 < j then i % j else i.fmod j
theorem fdivV_eq (i j : Int) : fdivV i j = i.fdiv j := by
  unfold fdivV
  split
  · rw [Int.fdiv_eq_ediv_of_nonneg i (by omega)]
  · rfl
theorem fmodV_eq (i j : Int) : fmodV i j = i.fmod j := by
  unfold fmodV
  split
  · rw [Int.fmod_eq_emod_of_nonneg i (by omega)]
  · rfl
def divD : D → D → Option D
  | .int i, .int j => if divOk j = true then some (.int (fdivV i j)) else none
  | _, _ => none
theorem o_div {X : Cx} : OpR X (binaryOp .FloorDiv) (rI (fun _ j => divOk j = true) fun i j => .int (fdivV i j)) := opI fun i j _ _ _ _ _ hc q => by
  have h : divOk j = true := hc
  unfold divOk at h
  rw [Bool.and_eq_true] at h
  exact floordiv_int (of_decide_eq_true h.1) (by rw [← fdivV_eq]; exact q) (.inl (PyProof.noPylong_of_log2 (of_decide_eq_true h.2)))
theorem s_div {K : PySem.W.Frag} : OpS K (rI (fun _ j => divOk j = true) fun i j => .int (fdivV i j)) divD := s_intC (g := fun i j => .int (fdivV i j)) fun d e z h => by
  unfold divD at h
  split at h
  · split at h
    · cases h; exact ⟨_, _, rfl, rfl, by assumption, rfl⟩
    · cases h
  · cases h
def modD : D → D → Option D
  | .int i, .int j => if j ≠ 0 then some (.int (fmodV i j)) else none
  | _, _ => none
theorem o_mod {X : Cx} : OpR X (binaryOp .Mod) (rI (fun _ j => j ≠ 0) fun i j => .int (fmodV i j)) := opI fun i j _ _ _ _ _ hc q => mod_int' hc (by rw [← fmodV_eq]; exact q)
theorem s_mod {K : PySem.W.Frag} : OpS K (rI (fun _ j => j ≠ 0) fun i j => .int (fmodV i j)) modD := s_intC (g := fun i j => .int (fmodV i j)) fun d e z h => by
  unfold modD at h
  split at h
  · split at h
    · cases h; exact ⟨_, _, rfl, rfl, by assumption, rfl⟩
    · cases h
  · cases h
def ltD : D → D → Option D
  | .int i, .int j => some (.bl (decide (i < j)))
  | .str a, .str b => some (.bl (decide (a < b)))
  | _, _ => none
def rLtU : R2 := fun x y H Q => (∃ i j, x = .int i ∧ y = .int j ∧ Q (.bl (decide (i < j))) H) ∨ (∃ i j, x = .str i ∧ y = .str j ∧ Q (.bl (decide (i.cps.toList < j.cps.toList))) H)
theorem o_lt {X : Cx} : OpR X (compareOp .Lt) rLtU := OpR.or op_lt op_lt_str
theorem s_lt {K : PySem.W.Frag} : OpS K rLtU ltD := by
  intro H x y d e z Q hx hy e1 q
  unfold ltD at e1
  split at e1
  · cases e1; cases hx; cases hy; exact .inl ⟨_, _, rfl, rfl, q⟩
  · cases e1; cases hx; cases hy; exact .inr ⟨_, _, rfl, rfl, q⟩
  · cases e1
def gtD : D → D → Option D
  | .int i, .int j => some (.bl (decide (j < i)))
  | .str a, .str b => some (.bl (decide (b < a)))
  | _, _ => none
def rGtU : R2 := fun x y H Q => (∃ i j, x = .int i ∧ y = .int j ∧ Q (.bl (decide (j < i))) H) ∨ (∃ i j, x = .str i ∧ y = .str j ∧ Q (.bl (decide (j.cps.toList < i.cps.toList))) H)
theorem o_gt {X : Cx} : OpR X (compareOp .Gt) rGtU := OpR.or op_gt op_gt_str
theorem s_gt {K : PySem.W.Frag} : OpS K rGtU gtD := by
  intro H x y d e z Q hx hy e1 q
  unfold gtD at e1
  split at e1
  · cases e1; cases hx; cases hy; exact .inl ⟨_, _, rfl, rfl, q⟩
  · cases e1; cases hx; cases hy; exact .inr ⟨_, _, rfl, rfl, q⟩
  · cases e1
def geD : D → D → Option D
  | .int i, .int j => some (.bl (decide (j ≤ i)))
  | .str a, .str b => some (.bl (!decide (a < b)))
  | _, _ => none
def rGeU : R2 := fun x y H Q => (∃ i j, x = .int i ∧ y = .int j ∧ Q (.bl (decide (j ≤ i))) H) ∨ (∃ i j, x = .str i ∧ y = .str j ∧ Q (.bl (!decide (i.cps.toList < j.cps.toList))) H)
theorem o_ge {X : Cx} : OpR X (compareOp .GtE) rGeU := OpR.or op_ge op_ge_str
theorem s_ge {K : PySem.W.Frag} : OpS K rGeU geD := by
  intro H x y d e z Q hx hy e1 q
  unfold geD at e1
  split at e1
  · cases e1; cases hx; cases hy; exact .inl ⟨_, _, rfl, rfl, q⟩
  · cases e1; cases hx; cases hy; exact .inr ⟨_, _, rfl, rfl, q⟩
  · cases e1
mutual
def D.eqv : D → D → Bool
  | .non, .non => true
  | .bl a, .bl b => a == b
  | .bl a, .int j => (if a then 1 else 0) == j
  | .int i, .bl b => i == (if b then 1 else 0)
  | .int i, .int j => i == j
  | .str a, .str b => a == b
  | .tup a, .tup b => D.eqvA a b
  | .lst a, .lst b => D.eqvA a b
  | _, _ => false
def D.eqvA : List D → List D → Bool
  | [], [] => true
  | x :: xs, y :: ys => D.eqv x y && D.eqvA xs ys
  | _, _ => false
end
mutual
def D.py : D → PyData
  | .non => .none | .bl b => .bool b | .int i => .int i | .str s => .str ⟨s.toArray⟩
  | .tup l => .tuple (D.pyA l) | .lst l => .list (D.pyA l) | .raw _ => .dict [] | .dic _ _ => .dict []
def D.pyA : List D → List PyData
  | [] => []
  | x :: xs => x.py :: D.pyA xs
end
theorem str_beq (a b : List Nat) : ((⟨a.toArray⟩ : Str) == ⟨b.toArray⟩) = (a == b) := by
  rw [Bool.eq_iff_iff]
  simp
mutual
theorem D.py_eqv : ∀ d e : D, PyData.eqv d.py e.py = D.eqv d e
  | .non, e => by cases e <;> simp [D.py, D.eqv, PyData.eqv]
  | .bl b, e => by cases e <;> simp [D.py, D.eqv, PyData.eqv]
  | .int i, e => by cases e <;> simp [D.py, D.eqv, PyData.eqv]
  | .str s, e => by
    cases e with
    | str t => simp only [D.py, D.eqv, PyData.eqv, str_beq]
    | _ => simp [D.py, D.eqv, PyData.eqv]
  | .tup l, e => by
    cases e with
    | tup m => simp only [D.py, D.eqv, PyData.eqv]; exact D.py_eqvA l m
    | _ => simp [D.py, D.eqv, PyData.eqv]
  | .lst l, e => by
    cases e with
    | lst m => simp only [D.py, D.eqv, PyData.eqv]; exact D.py_eqvA l m
    | _ => simp [D.py, D.eqv, PyData.eqv]
  | .raw v, e => by cases e <;> simp [D.py, D.eqv, PyData.eqv]
  | .dic _ _, e => by cases e <;> simp [D.py, D.eqv, PyData.eqv]
theorem D.py_eqvA : ∀ l m : List D, PyData.eqvAll (D.pyA l) (D.pyA m) = D.eqvA l m
  | [], [] => rfl
  | [], _ :: _ => rfl
  | _ :: _, [] => rfl
  | x :: xs, y :: ys => by simp only [D.pyA, PyData.eqvAll, D.eqvA, D.py_eqv x y, D.py_eqvA xs ys]
end
/-- what == can look through -/
def D.shp (d : D) : Bool := SeqAt.shaped d.py
mutual
theorem Dz.dp {K : PySem.W.Frag} {H : Hp} : ∀ {v : V} {d : D}, Dz K H v d → d.py.canLay0 = true → Dp K H v d.py
  | _, _, .non, _ => .non
  | _, _, .bl b, _ => .bl b
  | _, _, .int i, _ => .int i
  | _, _, .str s, _ => .str _
  | _, _, .tup hs ha, h => .tup hs (DzA.dp ha (by simpa [D.py, PyData.canLay0] using h))
  | _, _, .lst hs ha, h => .lst hs (DzA.dp ha (by simpa [D.py, PyData.canLay0] using h))
  | _, _, .raw v, h => by simp [D.py, PyData.canLay0] at h
  | _, _, .dic _ _ _, h => by simp [D.py, PyData.canLay0] at h
theorem DzA.dp {K : PySem.W.Frag} {H : Hp} : ∀ {vs : List V} {ds : List D}, DzA K H vs ds → PyData.canLayAll0 (D.pyA ds) = true → DpAll K H vs (D.pyA ds)
  | _, _, .nil, _ => .nil
  | _, _, .cons h t, q => by
    simp only [D.pyA, PyData.canLayAll0, Bool.and_eq_true] at q
    exact .cons (Dz.dp h q.1) (DzA.dp t q.2)
end
/-- plain and no object -/
def D.pl : D → Bool
  | .non => true | .bl _ => true | .int _ => true | .str _ => true
  | _ => false
def eqOk (d e : D) : Bool := (d.pl && e.pl) || (d.shp && e.shp)
def eqD (d e : D) : Option D := if eqOk d e = true then some (.bl (D.eqv d e)) else none
def rEqU (K : PySem.W.Frag) : R2 := fun x y H Q => rEq x y H Q ∨ ((∃ b j, x = .bl b ∧ y = .int j ∧ Q (.bl ((if b then 1 else 0) == j)) H) ∨ ((∃ i b, x = .int i ∧ y = .bl b ∧ Q (.bl (i == (if b then 1 else 0))) H) ∨ rEqD K x y H Q))
theorem o_eq {X : Cx} {k : Nat} (hr : Room k X.A) : OpR X (compareOp .Eq) (rEqU X.K) := by
  refine OpR.or op_eq (OpR.or ?_ (OpR.or ?_ (op_eqD hr.units)))
  · intro pins s σ H x y v u Q I rx ry h
    obtain ⟨b, j, rfl, rfl, q⟩ := h
    cases rx
    obtain ⟨t, rfl⟩ := ry
    exact PySem.EqBoolInt.eq_bool_int (fin_bl I q rfl)
  · intro pins s σ H x y v u Q I rx ry h
    obtain ⟨i, b, rfl, rfl, q⟩ := h
    obtain ⟨t, rfl⟩ := rx
    cases ry
    exact PySem.EqBoolInt.eq_int_bool (fin_bl I q rfl)
theorem s_eq {K : PySem.W.Frag} : OpS K (rEqU K) eqD := by
  intro H x y d e z Q hx hy e1 q
  unfold eqD at e1
  split at e1
  · rename_i ho
    cases e1
    unfold eqOk at ho
    rw [Bool.or_eq_true, Bool.and_eq_true, Bool.and_eq_true] at ho
    rcases ho with ⟨p1, p2⟩ | ⟨p1, p2⟩
    · cases hx <;> cases hy <;> simp [D.pl] at p1 p2
      · exact .inl ⟨rfl, q⟩
      · exact .inl ⟨rfl, q⟩
      · exact .inl ⟨rfl, q⟩
      · exact .inl ⟨rfl, q⟩
      · exact .inl ⟨rfl, q⟩
      · exact .inl ⟨rfl, by rw [dec_bl]; exact q⟩
      · exact .inr (.inl ⟨_, _, rfl, rfl, q⟩)
      · exact .inl ⟨rfl, q⟩
      · exact .inl ⟨rfl, q⟩
      · exact .inr (.inr (.inl ⟨_, _, rfl, rfl, q⟩))
      · exact .inl ⟨rfl, by rw [dec_int]; exact q⟩
      · exact .inl ⟨rfl, q⟩
      · exact .inl ⟨rfl, q⟩
      · exact .inl ⟨rfl, q⟩
      · exact .inl ⟨rfl, q⟩
      · exact .inl ⟨rfl, by rw [dec_str, str_beq]; exact q⟩
    · refine .inr (.inr (.inr ⟨d.py, e.py, hx.dp (SeqAt.canLay_of_shaped p1), hy.dp (SeqAt.canLay_of_shaped p2), p1, p2, ?_⟩))
      rw [D.py_eqv]
      exact q
  · cases e1
def rNeU (K : PySem.W.Frag) : R2 := fun x y H Q => rNe x y H Q ∨ rNeD K x y H Q
theorem o_ne {X : Cx} {k : Nat} (hr : Room k X.A) : OpR X (compareOp .NotEq) (rNeU X.K) := OpR.or op_ne (op_neD hr.units)
/-- != asks for plain values of kinds that are told apart, or for shaped data -/
def D.kin : D → D → Bool
  | .bl _, .int _ => false
  | .int _, .bl _ => false
  | _, _ => true
def neOk (d e : D) : Bool := (d.pl && e.pl && D.kin d e) || (d.shp && e.shp)
def neqD (d e : D) : Option D := if neOk d e = true then some (.bl (!D.eqv d e)) else none
theorem s_ne {K : PySem.W.Frag} : OpS K (rNeU K) neqD := by
  intro H x y d e z Q hx hy e1 q
  unfold neqD at e1
  split at e1
  · rename_i ho
    cases e1
    unfold neOk at ho
    rw [Bool.or_eq_true, Bool.and_eq_true, Bool.and_eq_true, Bool.and_eq_true] at ho
    rcases ho with ⟨⟨p1, p2⟩, p3⟩ | ⟨p1, p2⟩
    · cases hx <;> cases hy <;> simp [D.pl, D.kin] at p1 p2 p3
      · exact .inl ⟨rfl, q⟩
      · exact .inl ⟨rfl, q⟩
      · exact .inl ⟨rfl, q⟩
      · exact .inl ⟨rfl, q⟩
      · exact .inl ⟨rfl, q⟩
      · exact .inl ⟨rfl, by rw [dec_bl]; exact q⟩
      · exact .inl ⟨rfl, q⟩
      · exact .inl ⟨rfl, q⟩
      · exact .inl ⟨rfl, by rw [dec_int]; exact q⟩
      · exact .inl ⟨rfl, q⟩
      · exact .inl ⟨rfl, q⟩
      · exact .inl ⟨rfl, q⟩
      · exact .inl ⟨rfl, q⟩
      · exact .inl ⟨rfl, by rw [dec_str, str_beq]; exact q⟩
    · refine .inr ⟨d.py, e.py, hx.dp (SeqAt.canLay_of_shaped p1), hy.dp (SeqAt.canLay_of_shaped p2), p1, p2, ?_⟩
      rw [D.py_eqv]
      exact q
  · cases e1
def isD : D → D → Option D
  | d, .non => (match d with
    | .non => some (.bl true)
    | .raw _ => none
    | _ => some (.bl false))
  | d, .bl b => (match d with
    | .bl c => some (.bl (decide (c = b)))
    | .raw _ => none
    | _ => some (.bl false))
  | _, _ => none
def rIsU (neg : Bool) : R2 := fun x y H Q => (y = .non ∧ Q (.bl (if neg then !decide (x = .non) else decide (x = .non))) H) ∨ ∃ b, y = .bl b ∧ Q (.bl (if neg then !decide (x = .bl b) else decide (x = .bl b))) H
theorem RelV.ne_bl {x : V} {v : Value} {b : Bool} (r : RelV x v) (h : x ≠ .bl b) : v ≠ Value.bool b := by
  intro z
  subst z
  cases x with
  | bl c => cases r; exact h rfl
  | non => cases r
  | int _ => obtain ⟨t, e⟩ := r; cases e
  | str _ => obtain ⟨t, e⟩ := r; cases e
  | byt _ => obtain ⟨t, e⟩ := r; cases e
  | flt _ => obtain ⟨t, e⟩ := r; cases e
  | ref _ => cases r
  | ty _ => cases r
theorem plainB {x : V} {v : Value} {b : Bool} (r : RelV x v) : plainIs v (.bool b) = true := by
  cases x with
  | bl c => cases r; rfl
  | non => cases r; rfl
  | int _ => obtain ⟨t, e⟩ := r; subst e; rfl
  | str _ => obtain ⟨t, e⟩ := r; subst e; rfl
  | byt _ => obtain ⟨t, e⟩ := r; subst e; rfl
  | flt _ => obtain ⟨t, e⟩ := r; subst e; rfl
  | ref _ => cases r; rfl
  | ty _ => cases r; rfl
theorem o_is {X : Cx} : OpR X (compareOp .Is) (rIsU false) := by
  intro pins s σ H x y v u Q I rx ry h
  rcases h with h | ⟨b, rfl, q⟩
  · exact op_isN pins s σ H x y v u Q I rx ry h
  · cases ry
    have q' : Q (.bl (decide (x = .bl b))) H := q
    by_cases e : x = .bl b
    · subst e
      cases rx
      exact wpAny_is_self rfl ⟨.bl true, H, I, rfl, by simpa using q'⟩
    · exact wpAny_is_other (plainB rx) (RelV.ne_bl rx e) ⟨.bl false, H, I, rfl, by simpa [e] using q'⟩
theorem isD_ok {K : PySem.W.Frag} {H : Hp} {x : V} {d e : D} {b : Bool} (hx : Dz K H x d) (h : isD d e = some (.bl b)) : (e = .non ∧ b = decide (x = .non)) ∨ ∃ c, e = .bl c ∧ b = decide (x = .bl c) := by
  cases e with
  | non =>
    refine .inl ⟨rfl, ?_⟩
    cases hx <;> simp [isD] at h ⊢ <;> exact h
  | bl c =>
    refine .inr ⟨c, rfl, ?_⟩
    cases hx <;> simp [isD] at h ⊢ <;> first | exact h | exact h.symm
  | _ => cases d <;> simp [isD] at h
theorem isD_bl {d e z : D} (h : isD d e = some z) : ∃ b, z = .bl b := by
  unfold isD at h
  split at h
  · split at h <;> cases h <;> exact ⟨_, rfl⟩
  · split at h <;> cases h <;> exact ⟨_, rfl⟩
  · cases h
theorem s_is {K : PySem.W.Frag} : OpS K (rIsU false) isD := by
  intro H x y d e z Q hx hy e1 q
  obtain ⟨b, rfl⟩ := isD_bl e1
  rcases isD_ok hx e1 with ⟨rfl, rfl⟩ | ⟨c, rfl, rfl⟩
  · cases hy; exact .inl ⟨rfl, q⟩
  · cases hy; exact .inr ⟨c, rfl, q⟩
end Z
set_option Elab.async false
set_option linter.all false
set_option maxRecDepth 100000
set_option maxHeartbeats 4000000
namespace Z
open PySem PySem.Spec PyProof.Rows L2
/-- a list or tuple by what is read of it -/
theorem Ok.rdL {C : Ct} {Hs : Hp} {A : List Addr} {g : G} {σ : L2.St} {H : Hp} (ok : Ok C Hs A g σ H) {v : V} {r : R} {ds : List D} (h : RelR C.K Hs A v r) (e : Z.rd g r = some (.lst ds)) : ∃ a vs, v = .ref a ∧ SqL C.K H a vs ∧ DzA C.K Hs vs ds := by
  cases r with
  | dat d =>
    cases e
    have hd : Dz C.K Hs v (.lst ds) := h
    cases hd with
    | lst hs ha => exact ⟨_, _, rfl, ok.same.seq hs, ha⟩
  | bor j =>
    obtain ⟨a, h1, rfl⟩ := (show ∃ a, A[j]? = some a ∧ v = .ref a from h)
    have e : (match g[j]? with
      | some (.own c _ _) => some c.d
      | some (.frz d) => some d
      | _ => none) = some (.lst ds) := e
    split at e
    · rename_i c p l hg
      cases c with
      | lst L =>
        cases e
        obtain ⟨a', vs, ev, w1, w2, w3⟩ := ok.bor (relB h1) hg
        cases ev
        exact ⟨a, vs, rfl, SqL.of w2, w3⟩
    · rename_i d hg
      cases e
      obtain ⟨a', w1, _, hd⟩ := ok.frz j _ hg
      rw [h1] at w1
      cases w1
      cases hd with
      | lst hs ha => exact ⟨_, _, rfl, ok.same.seq hs, ha⟩
    · cases e
theorem Ok.rdT {C : Ct} {Hs : Hp} {A : List Addr} {g : G} {σ : L2.St} {H : Hp} (ok : Ok C Hs A g σ H) {v : V} {r : R} {ds : List D} (h : RelR C.K Hs A v r) (e : Z.rd g r = some (.tup ds)) : ∃ a vs, v = .ref a ∧ SqT C.K Hs a vs ∧ DzA C.K Hs vs ds := by
  cases r with
  | dat d =>
    cases e
    have hd : Dz C.K Hs v (.tup ds) := h
    cases hd with
    | tup hs ha => exact ⟨_, _, rfl, hs, ha⟩
  | bor j =>
    obtain ⟨a, h1, rfl⟩ := (show ∃ a, A[j]? = some a ∧ v = .ref a from h)
    have e : (match g[j]? with
      | some (.own c _ _) => some c.d
      | some (.frz d) => some d
      | _ => none) = some (.tup ds) := e
    split at e
    · rename_i c p l hg
      cases c with
      | lst L => cases e
    · rename_i d hg
      cases e
      obtain ⟨a', w1, _, hd⟩ := ok.frz j _ hg
      rw [h1] at w1
      cases w1
      cases hd with
      | tup hs ha => exact ⟨_, _, rfl, hs, ha⟩
    · cases e
def catOk (n m : Nat) : Bool := decide (n + m ≤ sizeLine)
def addS : D → D → Option D
  | .int i, .int j => some (.int (i + j))
  | .int i, .bl b => some (.int (i + b2i b))
  | .str a, .str b => if catOk a.length b.length = true then some (.str (a ++ b)) else none
  | _, _ => none
def rAddS : R2 := fun x y H Q => rI0 (fun i j => .int (i + j)) x y H Q ∨ (∃ i k, x = .int i ∧ y = .bl k ∧ Q (.int (i + b2i k)) H) ∨ (∃ i j, x = .str i ∧ y = .str j ∧ i.length + j.length ≤ sizeLine ∧ Q (.str (i ++ j)) H)
theorem o_add {X : Cx} : OpR X (binaryOp .Add) rAddS := OpR.or op_add (OpR.or op_add_ib op_add_str)
theorem str_app (a b : List Nat) : (⟨a.toArray⟩ : Str) ++ ⟨b.toArray⟩ = ⟨(a ++ b).toArray⟩ := by
  show Str.append _ _ = _
  simp [Str.append]
theorem s_add {K : PySem.W.Frag} : OpS K rAddS addS := by
  intro H x y d e z Q hx hy e1 q
  unfold addS at e1
  split at e1
  · cases e1; cases hx; cases hy; exact .inl ⟨_, _, rfl, rfl, q⟩
  · cases e1; cases hx; cases hy; exact .inr (.inl ⟨_, _, rfl, rfl, q⟩)
  · split at e1
    · rename_i h
      cases e1; cases hx; cases hy
      exact .inr (.inr ⟨_, _, rfl, rfl, by have := of_decide_eq_true h; simpa [Str.length] using this, by rw [str_app]; exact q⟩)
    · cases e1
  · cases e1
/-- o[i] -/
def ixD (d : D) (k : Int) : Option D := match d with
  | .lst l => atI l k
  | .tup l => atI l k
  | .str s => if s.length ≤ sizeLine then (atI s k).map fun c => .str [c] else none
  | _ => none
def zIx (ma mb : ZM) : ZM := fun g => do
  let (r1, g1) ← ma g
  let (r2, g2) ← mb g1
  let d ← rd g2 r1
  let k ← isI r2
  let z ← ixD d k
  some (.dat z, g2)
theorem atI_dz {K : PySem.W.Frag} {H : Hp} {vs : List V} {ds : List D} {k : Int} {z : D} (h : DzA K H vs ds) (e : atI ds k = some z) : ∃ v, atI vs k = some v ∧ Dz K H v z := by
  unfold atI at e ⊢
  rw [h.length]
  cases q : ixN ds.length k with
  | none => rw [q] at e; cases e
  | some j =>
    rw [q] at e
    obtain ⟨v, h1, h2⟩ := h.get (show ds[j]? = some z from e)
    exact ⟨v, h1, h2⟩
section
variable {X : Cx} {pos : Pos} {a b : Expr} {ma mb : ZM}
theorem ze_ix (ha : ZE X a ma) (hb : ZE X b mb) (hs : PlainIx b := by exact fun _ _ => rfl) : ZE X (.Subscript a b pos) (zIx ma mb) := by
  refine PE.of (pe_ix ix_seq ha hb hs) fun σ H Q ⟨C, Hs, A, g, r, g', hK, hn, ok, e, q⟩ => ?_
  unfold zIx at e
  simp only [Option.bind_eq_bind, Option.bind_eq_some_iff] at e
  obtain ⟨⟨r1, g1⟩, h1, ⟨r2, g2⟩, h2, d, h3, k, h4, z, h5, e⟩ := e
  cases e
  have er : r2 = .dat (.int k) := isI_some h4
  subst er
  refine tZ2 hK hn ok h1 h2 fun Hs2 A2 v1 v2 H2 s p ok2 w1 w2 => ?_
  have e2 : v2 = .int k := (show Dz C.K Hs2 v2 (.int k) from w2).v rfl
  subst e2
  cases d with
  | lst l =>
    obtain ⟨a', vs, rfl, y1, y2⟩ := ok2.rdL w1 h3
    obtain ⟨v, x1, x2⟩ := atI_dz y2 h5
    exact .inl ⟨a', vs, k, v, rfl, rfl, by rw [← hK]; exact y1, x1, q Hs2 A2 v H2 s p ok2 x2⟩
  | tup l =>
    obtain ⟨a', vs, rfl, y1, y2⟩ := ok2.rdT w1 h3
    obtain ⟨v, x1, x2⟩ := atI_dz y2 h5
    exact .inr (.inl ⟨a', vs, k, v, rfl, rfl, by rw [← hK]; exact sameT ok2.same y1, x1, q Hs2 A2 v H2 s p ok2 x2⟩)
  | str t =>
    have hd := ok2.rd w1 h3
    cases hd
    simp only [ixD] at h5
    split at h5
    · rename_i hl
      cases ec : atI t k with
      | none => rw [ec] at h5; cases h5
      | some c =>
        rw [ec] at h5
        cases h5
        exact .inr (.inr ⟨_, k, c, rfl, rfl, by simpa [Str.length] using hl, by simpa using ec, q Hs2 A2 _ H2 s p ok2 (.str [c])⟩)
    · cases h5
  | _ => cases h5
theorem len_codes (t : List Nat) : (⟨t.toArray⟩ : Str).length = t.length := by simp [Str.length]
def lenD : List D → Option D
  | [.lst l] => some (.int l.length)
  | [.tup l] => some (.int l.length)
  | [.str s] => if s.length ≤ sizeLine then some (.int s.length) else none
  | _ => none
def rLen (K : PySem.W.Frag) : List V → Hp → VK → Prop := fun xs H Q => ∃ x n, xs = [x] ∧ LenV K x H n ∧ Q (.int n) H
theorem s_len {K : PySem.W.Frag} : CallS K (rLen K) lenD := by
  intro H vs ds z Q hz e q
  unfold lenD at e
  split at e
  · cases e
    cases hz with
    | cons h t =>
      cases t
      cases h with
      | lst hs ha => exact ⟨_, _, rfl, .inl ⟨_, hs, rfl⟩, by rw [ha.length]; exact q⟩
  · cases e
    cases hz with
    | cons h t =>
      cases t
      cases h with
      | tup hs ha => exact ⟨_, _, rfl, .inr ⟨_, hs, rfl⟩, by rw [ha.length]; exact q⟩
  · split at e
    · rename_i hl
      cases e
      cases hz with
      | cons h t =>
        cases t
        cases h with
        | str s => exact ⟨_, _, rfl, ⟨by simpa [Str.length] using hl, rfl⟩, by rw [len_codes]; exact q⟩
    · cases e
  · cases e
def absD : List D → Option D
  | [.int i] => some (.int (if i < 0 then -i else i))
  | _ => none
/-- the texts of a list -/
def txsD : List D → Option (List (List Nat))
  | [] => some []
  | .str s :: r => do
    let t ← txsD r
    some (s :: t)
  | _ :: _ => none
theorem strs_map : ∀ {ds : List D} {ts : List (List Nat)}, txsD ds = some ts → ds = ts.map D.str
  | [], ts, e => by cases e; rfl
  | d :: r, ts, e => by
    cases d with
    | str s =>
      simp only [txsD, Option.bind_eq_bind, Option.bind_eq_some_iff] at e
      obtain ⟨t, h1, e⟩ := e
      cases e
      rw [strs_map h1]
      rfl
    | _ => cases e
theorem dzA_strs {K : PySem.W.Frag} {H : Hp} : ∀ {vs : List V} {ts : List (List Nat)}, DzA K H vs (ts.map D.str) → vs = (ts.map fun t => (⟨t.toArray⟩ : Str)).map V.str
  | [], [], _ => rfl
  | _ :: _, [], h => by cases h
  | [], _ :: _, h => by cases h
  | v :: vs, t :: ts, h => by
    cases h with
    | cons h1 h2 =>
      cases h1
      rw [dzA_strs h2]
      rfl
def joinD : D → List D → Option D
  | .str sep, [.lst l] => do
    let ts ← txsD l
    if (ts.map List.length).sum + ts.length * sep.length ≤ 16777216 then some (.str (TL.joinL sep ts)) else none
  | .str sep, [.tup l] => do
    let ts ← txsD l
    if (ts.map List.length).sum + ts.length * sep.length ≤ 16777216 then some (.str (TL.joinL sep ts)) else none
  | _, _ => none
def rJoin (K : PySem.W.Frag) : V → List V → Hp → VK → Prop := fun x xs H Q => ∃ a p, ∃ ys : List Str, x = .str a ∧ xs = [.ref p] ∧ (SqL K H p (ys.map V.str) ∨ SqT K H p (ys.map V.str)) ∧
    (ys.map (·.length)).sum + ys.length * a.length ≤ 16777216 ∧ Q (.str (Txt.join a ys)) H
theorem join_codes (sep : List Nat) (ts : List (List Nat)) : Txt.join ⟨sep.toArray⟩ (ts.map fun t => (⟨t.toArray⟩ : Str)) = ⟨(TL.joinL sep ts).toArray⟩ := by
  refine TL.ext_tl ?_
  rw [TL.join_eq, TL.tl_join]
  show TL.joinL (TL.tl ⟨sep.toArray⟩) ((ts.map fun t => (⟨t.toArray⟩ : Str)).map TL.tl) = TL.joinL sep ts
  rw [List.map_map, TL.tl_mk]
  congr 1
  exact List.map_id' ts
theorem s_join {K : PySem.W.Frag} : MtS K (rJoin K) joinD := by
  intro H x vs d ds z Q hx hz e q
  unfold joinD at e
  have key : ∀ (sep : List Nat) (ts : List (List Nat)), (ts.map List.length).sum + ts.length * sep.length ≤ 16777216 → ((ts.map fun t => (⟨t.toArray⟩ : Str)).map (·.length)).sum + (ts.map fun t => (⟨t.toArray⟩ : Str)).length * (⟨sep.toArray⟩ : Str).length ≤ 16777216 := fun sep ts h => by
    rw [List.map_map, List.length_map]
    have e1 : ((fun x : Str => x.length) ∘ fun t : List Nat => (⟨t.toArray⟩ : Str)) = List.length := by funext t; simp [Str.length]
    rw [e1]
    simpa [Str.length] using h
  split at e
  · simp only [Option.bind_eq_bind, Option.bind_eq_some_iff] at e
    obtain ⟨ts, h1, e⟩ := e
    split at e
    · rename_i hl
      cases e
      cases hx
      cases hz with
      | cons h t =>
        cases t
        cases h with
        | lst hs ha =>
          rw [strs_map h1] at ha
          have ev := dzA_strs ha
          subst ev
          exact ⟨_, _, _, rfl, rfl, .inl hs, key _ _ hl, by rw [join_codes]; exact q⟩
    · cases e
  · simp only [Option.bind_eq_bind, Option.bind_eq_some_iff] at e
    obtain ⟨ts, h1, e⟩ := e
    split at e
    · rename_i hl
      cases e
      cases hx
      cases hz with
      | cons h t =>
        cases t
        cases h with
        | tup hs ha =>
          rw [strs_map h1] at ha
          have ev := dzA_strs ha
          subst ev
          exact ⟨_, _, _, rfl, rfl, .inr hs, key _ _ hl, by rw [join_codes]; exact q⟩
    · cases e
  · cases e
end
end Z
set_option Elab.async false
set_option linter.all false
set_option maxRecDepth 100000
set_option maxHeartbeats 4000000
namespace Z
open PySem PySem.Spec PyProof.Rows L2
/-- a def of the top stands at its name -/
def DefAt (K : PySem.W.Frag) (mg : Str → Option Value) (x : Str) (st : Stmt) : Prop := ∃ (a : Addr) (fd : FuncData), mg x = some (.ref a) ∧ Fun K x x st a fd
/-- int(x): of an int, a bool, a text -/
def intU : List D → Option D
  | [.int i] => some (.int i)
  | [.bl b] => some (.int (if b then 1 else 0))
  | [.str s] => match PySem.intText? ⟨s.toArray⟩ with
    | some n => if s.length ≤ 640 then some (.int n) else none
    | none => none
  | _ => none
def rIntU : List V → Hp → VK → Prop := fun xs H Q => ((∃ i, xs = [.int i] ∧ Q (.int i) H) ∨ ∃ k, xs = [.bl k] ∧ Q (.int (if k then 1 else 0)) H) ∨ (∃ a n, xs = [.str a] ∧ PySem.intText? a = some n ∧ a.length ≤ 640 ∧ Q (.int n) H)
theorem call_intU {X : Cx} : CallR X (.type "int") rIntU := CallR.or call_int1 call_int_str
theorem s_intU {K : PySem.W.Frag} : CallS K rIntU intU := by
  intro H vs ds z Q hz e q
  unfold intU at e
  split at e
  · cases e
    cases hz with
    | cons h t =>
      cases t
      cases h
      exact .inl (.inl ⟨_, rfl, q⟩)
  · cases e
    cases hz with
    | cons h t =>
      cases t
      cases h
      exact .inl (.inr ⟨_, rfl, q⟩)
  · split at e
    · rename_i n hn
      split at e
      · rename_i hl
        cases e
        cases hz with
        | cons h t =>
          cases t
          cases h
          exact .inr ⟨_, n, rfl, hn, by rw [len_codes]; exact hl, q⟩
      · cases e
    · cases e
  · cases e
/-- the script as data -/
def scriptD (ns : List Int) : D := .lst (ns.map .int)
theorem dzA_ints {K : PySem.W.Frag} {H : Hp} : ∀ ns : List Int, DzA K H (ns.map V.int) (ns.map D.int)
  | [] => .nil
  | n :: r => .cons (.int n) (dzA_ints r)
/-- the law's promise from its function -/
theorem law_sp {K : PySem.W.Frag} {H : Hp} {a : Addr} {ns : List Int} {f : List D → Option FR} (h : SqL K H a (ns.map V.int)) (e : f [scriptD ns] = some (.dat (.bl true))) : spP K f [.ref a] H (fun v _ => v = .bl true) fun _ _ _ => False := by
  refine ⟨H, [scriptD ns], .dat (.bl true), Same.refl _, .cons (.lst h (dzA_ints ns)) .nil, e, fun v Hs' H' _ _ _ _ rf => ?_⟩
  exact (show Dz K Hs' v (.bl true) from rf).v rfl
end Z
set_option Elab.async false
set_option linter.all false
set_option maxRecDepth 100000
set_option maxHeartbeats 4000000
namespace Z
open PySem PySem.Spec PyProof.Rows L2
section
variable {g g1 g2 g3 : G} {r r1 r2 : R} {d e z : D} {ma mb mc m : ZM} {mr : ZAr} {rs : List R} {ds : List D} {b b1 b2 : Bool} {t s : ZT} {n i j : Nat}
theorem er_op {f : D → D → Option D} (h1 : ma g = some (r1, g1)) (h2 : mb g1 = some (r2, g2)) (h3 : rd g2 r1 = some d) (h4 : rd g2 r2 = some e) (h5 : f d e = some z) (h6 : z.scal = true) : zOp f ma mb g = some (.dat z, g2) := by
  unfold zOp; simp only [h1, h2, h3, h4, h5, h6, Option.bind_eq_bind, Option.bind_some, if_true]
theorem er_un {f : D → Option D} (h1 : ma g = some (r1, g1)) (h3 : rd g1 r1 = some d) (h5 : f d = some z) (h6 : z.scal = true) : zUn f ma g = some (.dat z, g1) := by
  unfold zUn; simp only [h1, h3, h5, h6, Option.bind_eq_bind, Option.bind_some, if_true]
theorem er_chain {f f' : D → D → Option D} {r3 : R} {h : D} (h1 : ma g = some (r1, g1)) (h2 : mb g1 = some (r2, g)) (h3 : rd g r1 = some d) (h4 : rd g r2 = some e) (h5 : f d e = some (.bl b1)) (h6 : b1 = true → mc g = some (r3, g)) (h7 : rd g r3 = some h) (h8 : f' e h = some (.bl b2)) :
    zChain f f' ma mb mc g = some (.dat (.bl (b1 && b2)), g) := by
  unfold zChain; simp only [h1, h2, h3, h4, h5, Option.bind_eq_bind, Option.bind_some]
  cases b1 with
  | true => simp only [h6 rfl, h4, h7, h8, Option.bind_some, D.scal, if_true, Bool.true_and]
  | false => rfl
theorem er_tst (h1 : m g = some (.dat (.bl b), g1)) : zTst m g = some (b, g1) := by
  unfold zTst; simp only [h1, isB, Option.bind_eq_bind, Option.bind_some]
theorem er_tru (h1 : m g = some (r, g1)) (h2 : rd g1 r = some d) (h3 : tru d = some b) : zTru m g = some (b, g1) := by
  unfold zTru; simp only [h1, h2, h3, Option.bind_eq_bind, Option.bind_some]
theorem er_andT (h1 : s g = some (b1, g)) (h2 : b1 = true → t g = some (b2, g)) : zAndT s t g = some (b1 && b2, g) := by
  unfold zAndT; simp only [h1, Option.bind_eq_bind, Option.bind_some]
  cases b1 with
  | true => simp only [h2 rfl, if_true, Bool.true_and]
  | false => rfl
theorem er_orT (h1 : s g = some (b1, g)) (h2 : b1 = false → t g = some (b2, g)) : zOrT s t g = some (b1 || b2, g) := by
  unfold zOrT; simp only [h1, Option.bind_eq_bind, Option.bind_some]
  cases b1 with
  | true => rfl
  | false =>
    rw [if_neg Bool.false_ne_true, h2 rfl]
    rfl
theorem er_notT (h1 : s g = some (b, g1)) : zNotT s g = some (!b, g1) := by
  unfold zNotT; simp only [h1, Option.bind_eq_bind, Option.bind_some]
theorem er_andV (h1 : ma g = some (.dat (.bl b1), g)) (h2 : b1 = true → mb g = some (.dat (.bl b2), g)) : zAndV ma mb g = some (.dat (.bl (b1 && b2)), g) := by
  unfold zAndV; simp only [h1, isB, Option.bind_eq_bind, Option.bind_some]
  cases b1 with
  | true => simp only [h2 rfl, if_true, Bool.true_and]
  | false => rfl
theorem er_orV (h1 : ma g = some (.dat (.bl b1), g)) (h2 : b1 = false → mb g = some (.dat (.bl b2), g)) : zOrV ma mb g = some (.dat (.bl (b1 || b2)), g) := by
  unfold zOrV; simp only [h1, isB, Option.bind_eq_bind, Option.bind_some]
  cases b1 with
  | true => rfl
  | false =>
    rw [if_neg Bool.false_ne_true, h2 rfl]
    rfl
theorem er_notV (h1 : ma g = some (.dat (.bl b), g1)) : zNotV ma g = some (.dat (.bl (!b)), g1) := by
  unfold zNotV; simp only [h1, isB, Option.bind_eq_bind, Option.bind_some]
theorem er_cons (h1 : ma g = some (r, g1)) (h2 : mr g1 = some (rs, g2)) : zCons ma mr g = some (r :: rs, g2) := by
  unfold zCons; simp only [h1, h2, Option.bind_eq_bind, Option.bind_some]
theorem er_callS {f : List D → Option D} (h1 : mr g = some (rs, g1)) (h2 : rdAll g1 rs = some ds) (h3 : f ds = some z) (h4 : z.scal = true) : zCallS f mr g = some (.dat z, g1) := by
  unfold zCallS; simp only [h1, h2, h3, h4, Option.bind_eq_bind, Option.bind_some, if_true]
theorem er_callV {f : List D → Option FR} (h1 : mr g = some (rs, g1)) (h2 : rdAll g1 rs = some ds) (h3 : f ds = some (.dat d)) (h4 : d.scal = true) : zCall f mr g = some (.dat d, g1) := by
  unfold zCall; simp only [h1, h2, h3, h4, Option.bind_eq_bind, Option.bind_some, if_true]
theorem frzAll_dat : ∀ (ds : List D) (g : G), frzAll (ds.map R.dat) g = some (ds, g)
  | [], _ => rfl
  | d :: ds, g => by
    simp only [List.map_cons, frzAll, frzR, frzAll_dat ds g, Option.bind_eq_bind, Option.bind_some]
/-- all arguments data: no matter what comes back -/
theorem rdAll_dat : ∀ (ds : List D) (g : G), rdAll g (ds.map R.dat) = some ds
  | [], _ => rfl
  | d :: ds, g => by
    simp only [List.map_cons, rdAll, rdX, rd, rdAll_dat ds g, Option.bind_eq_bind, Option.bind_some]
theorem er_call {f : List D → Option FR} (h1 : mr g = some (ds.map R.dat, g1)) (h3 : f ds = some (.dat d)) : zCall f mr g = some (.dat d, g1) := by
  unfold zCall; simp only [h1, rdAll_dat, frzAll_dat, h3, Option.bind_eq_bind, Option.bind_some]
  split
  · rfl
  · rfl
theorem er_callL {f : List D → Option FR} {c : Cn} (h1 : mr g = some (ds.map R.dat, g1)) (h3 : f ds = some (.new c)) : zCall f mr g = some (.bor g1.length, g1 ++ [.own c false false]) := by
  unfold zCall; simp only [h1, rdAll_dat, frzAll_dat, h3, Option.bind_eq_bind, Option.bind_some]
  split
  · rfl
  · rfl
/-- a call whose arguments are data, or whose answer is plain -/
theorem er_callG {f : List D → Option FR} (h1 : mr g = some (rs, g1)) (h2 : rdAll g1 rs = some ds) (h2' : frzAll rs g1 = some (ds, g2)) (h3 : f ds = some (.dat d)) (h4 : g2 = g1) : zCall f mr g = some (.dat d, g1) := by
  subst h4
  unfold zCall; simp only [h1, h2, h2', h3, Option.bind_eq_bind, Option.bind_some]
  split
  · rfl
  · rfl
theorem er_callH {f : List D → Option FR} {c : Cn} (h1 : mr g = some (rs, g1)) (h2 : rdAll g1 rs = some ds) (h2' : frzAll rs g1 = some (ds, g2)) (h3 : f ds = some (.new c)) (h4 : g2 = g1) : zCall f mr g = some (.bor g1.length, g1 ++ [.own c false false]) := by
  subst h4
  unfold zCall; simp only [h1, h2, h2', h3, Option.bind_eq_bind, Option.bind_some]
  split
  · rfl
  · rfl
theorem er_ix {k : Int} (h1 : ma g = some (r1, g1)) (h2 : mb g1 = some (.dat (.int k), g2)) (h3 : rd g2 r1 = some d) (h4 : ixD d k = some z) : zIx ma mb g = some (.dat z, g2) := by
  unfold zIx; simp only [h1, h2, h3, h4, isI, Option.bind_eq_bind, Option.bind_some]
theorem er_mt {T : String} {f : D → List D → Option D} (h1 : ma g = some (r, g1)) (h2 : rd g1 r = some d) (h3 : tyD T d = true) (h4 : mr g1 = some (rs, g2)) (h5 : rd g2 r = some e) (h6 : rdAll g2 rs = some ds) (h7 : f e ds = some z) (h8 : z.scal = true) : zMt T f ma mr g = some (.dat z, g2) := by
  unfold zMt; simp only [h1, h2, h3, h4, h5, h6, h7, h8, Option.bind_eq_bind, Option.bind_some, if_true]
theorem er_tup (h1 : mr g = some (rs, g1)) (h2 : frzAll rs g1 = some (ds, g2)) (h3 : ds.length ≤ sizeLine) : zTup mr g = some (.dat (.tup ds), g2) := by
  unfold zTup; simp only [h1, h2, h3, Option.bind_eq_bind, Option.bind_some, if_true]
theorem er_lst (h1 : mr g = some (rs, g1)) (h2 : frzAll rs g1 = some (ds, g2)) (h3 : ds.length ≤ sizeLine) : zLst mr g = some (.bor g2.length, g2 ++ [.own (.lst ds) false false]) := by
  unfold zLst; simp only [h1, h2, h3, Option.bind_eq_bind, Option.bind_some, if_true]
def ap {β : Type} (kk : Option (Fl × G) → β) (o : Option (Fl × G)) : β := kk o
variable {β : Type} {kk : Option (Fl × G) → β} {OUT : β} {st st1 st2 rest : SM} {c : Cn}
theorem sr_nx (k : ap kk (rest g) = OUT) : ap kk (zSeq zNx rest g) = OUT := k
theorem sr_assoc {s1 s2 s3 : SM} (k : ap kk (zSeq s1 (zSeq s2 s3) g) = OUT) : ap kk (zSeq (zSeq s1 s2) s3 g) = OUT := by
  have e : zSeq (zSeq s1 s2) s3 g = zSeq s1 (zSeq s2 s3) g := by
    unfold zSeq
    simp only [Option.bind_eq_bind]
    cases s1 g with
    | none => rfl
    | some o =>
      obtain ⟨fl, g1⟩ := o
      cases fl <;> rfl
  rw [e]; exact k
theorem set_dat (h1 : m g = some (.dat d, g1)) (hf : freeAt i g1 = true) (hg : (g1.set i (.dat d)).take n = g2) : zSet n i m g = some (.nx, g2) := by
  unfold zSet; simp only [h1, setR, setDat, hf, hg, Option.bind_eq_bind, Option.bind_some, if_true]
theorem set_own (h1 : m g = some (.bor j, g1)) (hj : n ≤ j) (ho : g1[j]? = some (.own c false false)) (hf : freeAt i g1 = true) (hg : ((g1.set i (.own c false false)).set j .un).take n = g2) : zSet n i m g = some (.nx, g2) := by
  unfold zSet; simp only [h1, setR, if_pos hj, ho, hf, hg, Option.bind_eq_bind, Option.bind_some, if_true]
theorem app_run (h1 : ma g = some (.bor j, g1)) {ds0 : List D} {p0 l0 p : Bool} (h0 : g1[j]? = some (.own (.lst ds0) p0 l0)) (h2 : mb g1 = some (r, g2)) (h3 : frzR r g2 = some (d, g3)) (h4 : g3[j]? = some (.own (.lst ds) p false)) (hz : ds.length < sizeLine) {g4 : G} (hg : (g3.set j (.own (.lst (ds ++ [d])) p false)).take n = g4) :
    zApp n ma mb g = some (.nx, g4) := by
  unfold zApp; simp only [h1, h0, h2, h3, h4, if_pos hz, hg, Option.bind_eq_bind, Option.bind_some]
theorem seq_nx (h : st g = some (.nx, g1)) (k : ap kk (rest g1) = OUT) : ap kk (zSeq st rest g) = OUT := by
  unfold zSeq; simp only [h, Option.bind_eq_bind, Option.bind_some]; exact k
theorem one_nx (h : st g = some (.nx, g1)) (k : ap kk (some (.nx, g1)) = OUT) : ap kk (st g) = OUT := by rw [h]; exact k
theorem sr_if (h1 : t g = some (b, g1)) (hg : g1.take n = g2) (k1 : b = true → ap kk (zSeq st1 rest g2) = OUT) (k2 : b = false → ap kk (zSeq st2 rest g2) = OUT) : ap kk (zSeq (zIfS n t st1 st2) rest g) = OUT := by
  have e : zSeq (zIfS n t st1 st2) rest g = if b = true then zSeq st1 rest g2 else zSeq st2 rest g2 := by
    unfold zSeq zIfS
    simp only [h1, hg, Option.bind_eq_bind, Option.bind_some]
    cases b with
    | true => rfl
    | false => rfl
  rw [e]
  cases b with
  | true => exact k1 rfl
  | false => exact k2 rfl
theorem sr_if1 (h1 : t g = some (b, g1)) (hg : g1.take n = g2) (k1 : b = true → ap kk (st1 g2) = OUT) (k2 : b = false → ap kk (st2 g2) = OUT) : ap kk (zIfS n t st1 st2 g) = OUT := by
  have e : zIfS n t st1 st2 g = if b = true then st1 g2 else st2 g2 := by
    unfold zIfS
    simp only [h1, hg, Option.bind_eq_bind, Option.bind_some]
  rw [e]
  cases b with
  | true => exact k1 rfl
  | false => exact k2 rfl
theorem sr_ret (h : m g = some (r, g1)) (k : ap kk (some (.ret r, g1)) = OUT) : ap kk (zRet m g) = OUT := by
  unfold zRet; simp only [h, Option.bind_eq_bind, Option.bind_some]; exact k
theorem sr_retS (h : m g = some (r, g1)) (k : ap kk (some (.ret r, g1)) = OUT) : ap kk (zSeq (zRet m) rest g) = OUT := by
  unfold zSeq zRet; simp only [h, Option.bind_eq_bind, Option.bind_some]; exact k
/-- what runP does with the end -/
def finK : Option (Fl × G) → Option FR
  | some (.ret r, g) => fin g r
  | some (.nx, _) => some (.dat .non)
  | _ => none
theorem runP_ap {np : Nat} {s : SM} {OUT : Option FR} (hl : ds.length = np) (hg : start0 n ds = g) (k : ap finK (s g) = OUT) : runP n np s ds = OUT := by
  unfold runP
  rw [if_pos hl, hg]
  exact k
/-- .. where only something is said of what comes back -/
theorem runP_post {np : Nat} {s : SM} {post : FR → Prop} (hl : ds.length = np) (hg : start0 n ds = g) (k : ap (fun o => ∃ fr, finK o = some fr ∧ post fr) (s g) = True) : ∃ fr, runP n np s ds = some fr ∧ post fr := by
  have h : ∃ fr, finK (s g) = some fr ∧ post fr := by
    have h1 : (∃ fr, finK (s g) = some fr ∧ post fr) = True := k
    rw [h1]
    trivial
  obtain ⟨fr, h1, h2⟩ := h
  exact ⟨fr, runP_ap hl hg h1, h2⟩
theorem end_post {post : FR → Prop} {o : Option (Fl × G)} {fr : FR} (h : finK o = some fr) (h2 : post fr) : ap (fun o => ∃ fr, finK o = some fr ∧ post fr) o = True := eq_true ⟨fr, h, h2⟩
/-- loops -/
theorem for_none {mi : MI} {tg : TD} {L : List D} (h1 : mi g = some (L, none, g1)) (hg : g1.take n = g2) {o : Option (Fl × G)} (h2 : forL tg st L g2 = o) : zFor n mi tg st g = o := by
  unfold zFor; simp only [h1, hg, h2, Option.bind_eq_bind, Option.bind_some]
theorem for_lock {mi : MI} {tg : TD} {L : List D} {p l : Bool} {fl : Fl} (h1 : mi g = some (L, some j, g1)) (hg : g1.take n = g2) (h2 : g2[j]? = some (.own c p l)) (hg3 : g2.set j (.own c p true) = g3) {g4 g5 : G} (h3 : forL tg st L g3 = some (fl, g4)) (hu : unlk j l g4 = g5) : zFor n mi tg st g = some (fl, g5) := by
  unfold zFor; simp only [h1, hg, h2, hg3, h3, hu, Option.bind_eq_bind, Option.bind_some]
theorem mi_R1 {k : Int} (h1 : mr g = some ([.dat (.int k)], g1)) (h2 : rgOk k = true) : ziR1 mr g = some (rgD 0 k.toNat, none, g1) := by
  unfold ziR1; simp only [h1, h2, Option.bind_eq_bind, Option.bind_some, if_true]
theorem mi_Ld {L : List D} (h1 : m g = some (.dat (.lst L), g1)) : ziL n m g = some (L, none, g1) := by
  unfold ziL; simp only [h1, Option.bind_eq_bind, Option.bind_some]
theorem mi_Lb {L : List D} {p l : Bool} (h1 : m g = some (.bor j, g1)) (hj : j < n) (h2 : g1[j]? = some (.own (.lst L) p l)) : ziL n m g = some (L, some j, g1) := by
  unfold ziL; simp only [h1, ziB, if_pos hj, h2, Option.bind_eq_bind, Option.bind_some]
/-- a loop by an invariant that only says something of the slots -/
theorem forL_inv {tg : TD} : ∀ {L : List D} (I : Nat → G → Prop) (k : Nat) (g : G), I k g → (∀ i d g, L[i]? = some d → I (k + i) g → ∃ g1 g2, tg d g = some g1 ∧ (st g1 = some (.nx, g2) ∨ st g1 = some (.ct, g2)) ∧ I (k + i + 1) g2) → ∃ g2, forL tg st L g = some (.nx, g2) ∧ I (k + L.length) g2
  | [], I, k, g, h0, _ => ⟨g, rfl, h0⟩
  | d :: L, I, k, g, h0, h => by
    obtain ⟨g1, g2, h1, h2, h3⟩ := h 0 d g rfl h0
    obtain ⟨g3, e3, i3⟩ := forL_inv (L := L) I (k + 1) g2 h3 fun i d' g' hd hi => by
      have := h (i + 1) d' g' (by simpa using hd) (by rw [show k + (i + 1) = k + 1 + i by omega]; exact hi)
      rw [show k + (i + 1) = k + 1 + i by omega] at this
      exact this
    refine ⟨g3, ?_, by rw [show k + (d :: L).length = k + 1 + L.length by simp; omega]; exact i3⟩
    simp only [forL, Option.bind_eq_bind]
    rw [h1]
    simp only [Option.bind_some]
    rcases h2 with h2 | h2
    · rw [h2]; exact e3
    · rw [h2]; exact e3
/-- the size of a number -/
def iabs (i : Int) : Int := if i < 0 then -i else i
theorem dr_div {i j : Int} (h : 0 < j) (h2 : j.natAbs.log2 < 9000) : divD (.int i) (.int j) = some (.int (i / j)) := by
  have h0 : j ≠ 0 := by omega
  simp [divD, divOk, fdivV, h, h0, h2]
theorem dr_divB {i j : Int} (h : 0 < j) (h2 : j < 2 ^ 256) : divD (.int i) (.int j) = some (.int (i / j)) := by
  refine dr_div h (Nat.lt_of_lt_of_le (PySem.Flt.log2_lt_of (k := 256) (by decide) (by omega)) (by decide))
theorem dr_mod {i j : Int} (h : 0 < j) : modD (.int i) (.int j) = some (.int (i % j)) := by
  have h0 : j ≠ 0 := by omega
  simp [modD, fmodV, h, h0]
theorem dr_mulr {i j : Int} (h : decide (j.natAbs < 2 ^ 64) = true) : mulD (.int i) (.int j) = some (.int (i * j)) := by
  simp only [mulD, mulOk, h, Bool.or_true, Bool.true_or, if_true]
theorem dr_mull {i j : Int} (h : decide (i.natAbs < 2 ^ 64) = true) : mulD (.int i) (.int j) = some (.int (i * j)) := by
  simp only [mulD, mulOk, h, Bool.or_true, Bool.true_or, if_true]
theorem dr_mulrB {i j : Int} (h : -(2 ^ 64) < j) (h2 : j < 2 ^ 64) : mulD (.int i) (.int j) = some (.int (i * j)) := dr_mulr (decide_eq_true (by omega))
theorem dr_mullB {i j : Int} (h : -(2 ^ 64) < i) (h2 : i < 2 ^ 64) : mulD (.int i) (.int j) = some (.int (i * j)) := dr_mull (decide_eq_true (by omega))
theorem dr_mulC {i j : Int} (h : -(2 ^ 256) < i) (h2 : i < 2 ^ 256) (h3 : -(2 ^ 256) < j) (h4 : j < 2 ^ 256) : mulD (.int i) (.int j) = some (.int (i * j)) := by
  have a : i.natAbs.log2 < 256 := PySem.Flt.log2_lt_of (by decide) (by omega)
  have b : j.natAbs.log2 < 256 := PySem.Flt.log2_lt_of (by decide) (by omega)
  have c : i.natAbs.log2 + j.natAbs.log2 < 1000000 := by omega
  simp only [mulD, mulOk, decide_eq_true c, Bool.or_true, if_true]
theorem dr_neB {a b : Bool} : neqD (.bl a) (.bl b) = some (.bl (!(a == b))) := rfl
theorem dr_eqB {a b : Bool} : eqD (.bl a) (.bl b) = some (.bl (a == b)) := rfl
theorem dr_abs {i : Int} : absD [.int i] = some (.int (iabs i)) := rfl
theorem dr_eqI {i j : Int} : eqD (.int i) (.int j) = some (.bl (i == j)) := rfl
theorem dr_eqS {a b : List Nat} : eqD (.str a) (.str b) = some (.bl (a == b)) := rfl
theorem dr_neI {i j : Int} : neqD (.int i) (.int j) = some (.bl (!(i == j))) := rfl
theorem dr_neS {a b : List Nat} : neqD (.str a) (.str b) = some (.bl (!(a == b))) := rfl
theorem dr_cat {a b : List Nat} (h : a.length + b.length ≤ sizeLine) : addS (.str a) (.str b) = some (.str (a ++ b)) := by
  simp only [addS, catOk, decide_eq_true h, if_true]
theorem dr_ixS {a : List Nat} {k : Int} {c : Nat} (h : a.length ≤ sizeLine) (h2 : atI a k = some c) : ixD (.str a) k = some (.str [c]) := by
  unfold ixD
  simp only [if_pos h, h2, Option.map_some]
end
theorem rgD_at {lo : Int} {n i : Nat} {d : D} (h : (rgD lo n)[i]? = some d) : i < n ∧ d = .int (lo + (i : Int)) := by
  have hi := (List.getElem?_eq_some_iff.mp h).1
  rw [rgD_len] at hi
  rw [rgD_get hi] at h
  exact ⟨hi, (Option.some.inj h).symm⟩
theorem atI_lt {α : Type} {xs : List α} {k : Int} (h0 : 0 ≤ k) (h1 : k < xs.length) : ∃ x, atI xs k = some x ∧ x ∈ xs := by
  have hk : k.toNat < xs.length := by omega
  refine ⟨xs[k.toNat], ?_, List.getElem_mem hk⟩
  have := atI_nat (xs := xs) (j := k.toNat) (List.getElem?_eq_getElem hk)
  rw [Int.toNat_of_nonneg h0] at this
  exact this
theorem atI_map {α β : Type} {f : α → β} {xs : List α} {k : Int} {x : α} (h : atI xs k = some x) : atI (xs.map f) k = some (f x) := by
  unfold atI at h ⊢
  rw [List.length_map]
  cases e : ixN xs.length k with
  | none => rw [e] at h; cases h
  | some j =>
    rw [e] at h
    show (xs.map f)[j]? = _
    rw [List.getElem?_map, show xs[j]? = some x from h]
    rfl
/-- the cell that k means, taken round -/
theorem round_in {k n : Int} (h0 : 0 ≤ k) (hn : 0 < n) : 0 ≤ k - k / n * n ∧ k - k / n * n < n := by
  have h1 := Int.emod_nonneg k (show n ≠ 0 by omega)
  have h2 := Int.emod_lt_of_pos k hn
  have h3 := Int.emod_add_mul_ediv k n
  have h4 : k / n * n = n * (k / n) := Int.mul_comm _ _
  omega
theorem rgOk_of {k : Int} (h : -(2 ^ 62) ≤ k) (h2 : k < 2 ^ 62) : rgOk k = true := by
  unfold rgOk
  rw [decide_eq_true h, decide_eq_true h2]
  rfl
end Z
set_option Elab.async false
set_option linter.all false
set_option maxRecDepth 100000
set_option maxHeartbeats 4000000
namespace Z
open PySem PySem.Spec PyProof.Rows L2
def tyNm : D → Option String
  | .non => some "NoneType" | .bl _ => some "bool" | .int _ => some "int" | .str _ => some "str" | .lst _ => some "list" | .tup _ => some "tuple" | .raw _ => none | .dic _ _ => none
theorem tyNm_ok {K : PySem.W.Frag} {H : Hp} {v : V} {d : D} {t : String} (h : Dz K H v d) (e : tyNm d = some t) : TyX K H v (.type t) := by
  cases h with
  | non => cases e; exact .base .non
  | bl b => cases e; exact .base (.bl b)
  | int i => cases e; exact .base (.int i)
  | str s => cases e; exact .base (.str _)
  | lst hs ha =>
    cases e
    rcases hs with (hs | ⟨o, hs⟩) | ⟨o, its, n, h1, h2, _⟩
    · exact .base (.lst hs)
    · exact .base (.frz hs)
    · exact .kList h1 h2
  | tup hs ha =>
    cases e
    rcases hs with (hs | ⟨o, hs⟩) | ⟨o, its, n, h1, h2, _⟩
    · exact .base (.tup hs)
    · exact .fTuple hs
    · exact .kTuple h1 h2
  | raw v => cases e
  | dic _ _ _ => cases e
def isiD : List D → Option D
  | [d, .raw (.ty n)] => do
    let t ← tyNm d
    let b ← kitB t n
    some (.bl b)
  | _ => none
theorem call_isiU {X : Cx} : CallR X (.builtin "isinstance") (rIsi X.K) := call_isi
theorem s_isi {K : PySem.W.Frag} : CallS K (rIsi K) isiD := by
  intro H vs ds z Q hz e q
  unfold isiD at e
  split at e
  · rename_i d n
    simp only [Option.bind_eq_bind, Option.bind_eq_some_iff] at e
    obtain ⟨t, h1, b, h2, e⟩ := e
    cases e
    cases hz with
    | cons h r =>
      cases r with
      | cons h3 r =>
        cases r
        cases h3
        exact ⟨_, .ty n, .type t, .type n, b, rfl, .ty n, tyNm_ok h h1, kit_ty h2, q⟩
  · cases e
theorem isi_of {d : D} {t n : String} {b : Bool} (h : tyNm d = some t) (h2 : kitB t n = some b) : isiD [d, .raw (.ty n)] = some (.bl b) := by
  simp only [isiD, h, h2, Option.bind_eq_bind, Option.bind_some]
theorem kb_int_int : kitB "int" "int" = some true := by decide +kernel
theorem kb_int_bool : kitB "int" "bool" = some false := by decide +kernel
theorem kb_bool_bool : kitB "bool" "bool" = some true := by decide +kernel
theorem kb_bool_int : kitB "bool" "int" = some true := by decide +kernel
theorem kb_str_int : kitB "str" "int" = some false := by decide +kernel
theorem kb_str_bool : kitB "str" "bool" = some false := by decide +kernel
theorem kb_str_str : kitB "str" "str" = some true := by decide +kernel
theorem kb_int_str : kitB "int" "str" = some false := by decide +kernel
theorem kb_bool_str : kitB "bool" "str" = some false := by decide +kernel
theorem kb_non_int : kitB "NoneType" "int" = some false := by decide +kernel
theorem kb_non_bool : kitB "NoneType" "bool" = some false := by decide +kernel
theorem kb_non_str : kitB "NoneType" "str" = some false := by decide +kernel
theorem kb_list_list : kitB "list" "list" = some true := by decide +kernel
theorem kb_tuple_tuple : kitB "tuple" "tuple" = some true := by decide +kernel
theorem kb_list_tuple : kitB "list" "tuple" = some false := by decide +kernel
theorem kb_tuple_list : kitB "tuple" "list" = some false := by decide +kernel
end Z
set_option Elab.async false
set_option linter.all false
set_option maxRecDepth 100000
set_option maxHeartbeats 4000000
namespace Z
open PySem PySem.Spec PyProof.Rows L2
def inL (x : D) (l : List D) : Bool := l.any fun y => D.eqv y x
def inB (x y : D) : Option Bool := match y with
  | .lst l => if (x.pl && l.all D.pl) = true then some (inL x l) else if (x.shp && (D.lst l).shp) = true then some (inL x l) else none
  | .tup l => if (x.pl && l.all D.pl) = true then some (inL x l) else if (x.shp && (D.tup l).shp) = true then some (inL x l) else none
  | .str t => match x with
    | .str [c] => some (decide (c ∈ t))
    | _ => none
  | _ => none
def inD (x y : D) : Option D := (inB x y).map D.bl
def notinD (x y : D) : Option D := (inB x y).map fun b => D.bl (!b)
def rInT (K : PySem.W.Frag) (neg : Bool) : R2 := fun x y H Q => ∃ d ds, Dp K H x d ∧ Dp K H y (.tuple ds) ∧ SeqAt.shaped d = true ∧ SeqAt.shaped (.tuple ds) = true ∧ Q (.bl (if neg then !(ds.any fun z => PyData.eqv z d) else ds.any fun z => PyData.eqv z d)) H
theorem op_inT {X : Cx} (hu : X.A.units + 65 < cLine) : OpR X (compareOp .In) (rInT X.K false) := by
  intro pins s σ H x y v u Q I rx ry h
  obtain ⟨d, ds, hd, he, sd, se, q⟩ := h
  obtain ⟨as, r1⟩ := Dp.reads I d x v hd rx
  obtain ⟨bs, r2⟩ := Dp.reads I (.tuple ds) y u he ry
  exact SeqAt.in_tuple_reads r2 r1 (SeqAt.canLay_of_shaped se) (SeqAt.canLay_of_shaped sd) (room_in_shaped sd hu) ⟨.bl _, H, I, rfl, q⟩
theorem op_notInT {X : Cx} (hu : X.A.units + 65 < cLine) : OpR X (compareOp .NotIn) (rInT X.K true) := by
  intro pins s σ H x y v u Q I rx ry h
  obtain ⟨d, ds, hd, he, sd, se, q⟩ := h
  obtain ⟨as, r1⟩ := Dp.reads I d x v hd rx
  obtain ⟨bs, r2⟩ := Dp.reads I (.tuple ds) y u he ry
  exact SeqAt.notIn_tuple_reads r2 r1 (SeqAt.canLay_of_shaped se) (SeqAt.canLay_of_shaped sd) (room_in_shaped sd hu) ⟨.bl _, H, I, rfl, q⟩
def rInU (K : PySem.W.Frag) : R2 := fun x y H Q => rIn K false x y H Q ∨ rInD K x y H Q ∨ rInT K false x y H Q ∨ (∃ (c : Nat) (z : Str), x = .str ⟨#[c]⟩ ∧ y = .str z ∧ Q (.bl (decide (c ∈ z.cps.toList))) H)
def rNotInU (K : PySem.W.Frag) : R2 := fun x y H Q => rIn K true x y H Q ∨ rNotInD K x y H Q ∨ rInT K true x y H Q ∨ (∃ (c : Nat) (z : Str), x = .str ⟨#[c]⟩ ∧ y = .str z ∧ Q (.bl (!decide (c ∈ z.cps.toList))) H)
theorem o_in {X : Cx} {k : Nat} (hr : Room k X.A) : OpR X (compareOp .In) (rInU X.K) := OpR.or op_in_seq (OpR.or (op_inD (by have := hr.un; omega)) (OpR.or (op_inT (by have := hr.un; omega)) op_in_sign))
theorem o_notin {X : Cx} {k : Nat} (hr : Room k X.A) : OpR X (compareOp .NotIn) (rNotInU X.K) := OpR.or op_notIn_seq (OpR.or (op_notInD (by have := hr.un; omega)) (OpR.or (op_notInT (by have := hr.un; omega)) op_notIn_sign))
theorem eqV_eqv {K : PySem.W.Frag} {H : Hp} {v w : V} {d e : D} (h : Dz K H v d) (h' : Dz K H w e) (p : d.pl = true) (q : e.pl = true) : eqV v w = D.eqv d e := by
  cases h <;> cases h' <;> simp [D.pl] at p q <;> simp [eqV, D.eqv, str_beq]
theorem flat_pl {K : PySem.W.Frag} {H : Hp} {v : V} {d : D} (h : Dz K H v d) (p : d.pl = true) : flatV v = true := by
  cases h <;> simp [D.pl] at p <;> rfl
theorem flats_pl {K : PySem.W.Frag} {H : Hp} : ∀ {vs : List V} {ds : List D}, DzA K H vs ds → ds.all D.pl = true → vs.all flatV = true
  | _, _, .nil, _ => rfl
  | _, _, .cons h t, p => by
    rw [List.all_cons, Bool.and_eq_true] at p
    rw [List.all_cons, flat_pl h p.1, flats_pl t p.2]
    rfl
theorem inV_inL {K : PySem.W.Frag} {H : Hp} {v : V} {d : D} (h : Dz K H v d) (p : d.pl = true) : ∀ {vs : List V} {ds : List D}, DzA K H vs ds → ds.all D.pl = true → inV v vs = inL d ds
  | _, _, .nil, _ => rfl
  | _, _, .cons h2 t, q => by
    rw [List.all_cons, Bool.and_eq_true] at q
    unfold inV inL
    rw [List.any_cons, List.any_cons, eqV_eqv h2 h q.1 p]
    have := inV_inL h p t q.2
    unfold inV inL at this
    rw [this]
theorem pyA_map : ∀ l : List D, D.pyA l = l.map D.py
  | [] => rfl
  | d :: l => by rw [D.pyA, List.map_cons, pyA_map l]
theorem shp_lay {d : D} (h : d.shp = true) : d.py.canLay0 = true := SeqAt.canLay_of_shaped h
theorem s_in {K : PySem.W.Frag} : OpS K (rInU K) inD := by
  intro H x y d e z Q hx hy e1 q
  unfold inD at e1
  rw [Option.map_eq_some_iff] at e1
  obtain ⟨b, e1, rfl⟩ := e1
  have deep : ∀ {l : List D}, d.shp = true → (D.lst l).shp = true → Dz K H y (.lst l) → b = inL d l → rInD K x y H Q := fun {l} p1 p2 hy eb => by
    have hl : Dp K H y (PyData.list (D.pyA l)) := Dz.dp hy (shp_lay p2)
    refine ⟨d.py, D.pyA l, Dz.dp hx (shp_lay p1), hl, p1, p2, ?_⟩
    rw [pyA_map, List.any_map]
    have : ((fun z => PyData.eqv z d.py) ∘ D.py) = fun y => D.eqv y d := by funext y; exact D.py_eqv y d
    rw [this]
    rw [eb] at q
    exact q
  have deepT : ∀ {l : List D}, d.shp = true → (D.tup l).shp = true → Dz K H y (.tup l) → b = inL d l → rInT K false x y H Q := fun {l} p1 p2 hy eb => by
    have hl : Dp K H y (PyData.tuple (D.pyA l)) := Dz.dp hy (shp_lay p2)
    refine ⟨d.py, D.pyA l, Dz.dp hx (shp_lay p1), hl, p1, p2, ?_⟩
    rw [if_neg Bool.false_ne_true, pyA_map, List.any_map]
    have : ((fun z => PyData.eqv z d.py) ∘ D.py) = fun y => D.eqv y d := by funext y; exact D.py_eqv y d
    rw [this]
    rw [eb] at q
    exact q
  cases e with
  | lst l =>
    simp only [inB] at e1
    split at e1
    · rename_i hp
      cases e1
      rw [Bool.and_eq_true] at hp
      cases hy with
      | lst hs ha => exact .inl ⟨_, _, rfl, .inl hs, flat_pl hx hp.1, flats_pl ha hp.2, by rw [if_neg Bool.false_ne_true, inV_inL hx hp.1 ha hp.2]; exact q⟩
    · split at e1
      · rename_i hp
        cases e1
        rw [Bool.and_eq_true] at hp
        exact .inr (.inl (deep hp.1 hp.2 hy rfl))
      · cases e1
  | tup l =>
    simp only [inB] at e1
    split at e1
    · rename_i hp
      cases e1
      rw [Bool.and_eq_true] at hp
      cases hy with
      | tup hs ha => exact .inl ⟨_, _, rfl, .inr hs, flat_pl hx hp.1, flats_pl ha hp.2, by rw [if_neg Bool.false_ne_true, inV_inL hx hp.1 ha hp.2]; exact q⟩
    · split at e1
      · rename_i hp
        cases e1
        rw [Bool.and_eq_true] at hp
        exact .inr (.inr (.inl (deepT hp.1 hp.2 hy rfl)))
      · cases e1
  | str t =>
    simp only [inB] at e1
    split at e1
    · rename_i c
      cases e1
      cases hx
      cases hy
      exact .inr (.inr (.inr ⟨c, _, rfl, rfl, q⟩))
    · cases e1
  | _ => cases e1
theorem s_notin {K : PySem.W.Frag} : OpS K (rNotInU K) notinD := by
  intro H x y d e z Q hx hy e1 q
  unfold notinD at e1
  rw [Option.map_eq_some_iff] at e1
  obtain ⟨b, e1, rfl⟩ := e1
  have deep : ∀ {l : List D}, d.shp = true → (D.lst l).shp = true → Dz K H y (.lst l) → b = inL d l → rNotInD K x y H Q := fun {l} p1 p2 hy eb => by
    have hl : Dp K H y (PyData.list (D.pyA l)) := Dz.dp hy (shp_lay p2)
    refine ⟨d.py, D.pyA l, Dz.dp hx (shp_lay p1), hl, p1, p2, ?_⟩
    rw [pyA_map, List.any_map]
    have : ((fun z => PyData.eqv z d.py) ∘ D.py) = fun y => D.eqv y d := by funext y; exact D.py_eqv y d
    rw [this]
    rw [eb] at q
    exact q
  have deepT : ∀ {l : List D}, d.shp = true → (D.tup l).shp = true → Dz K H y (.tup l) → b = inL d l → rInT K true x y H Q := fun {l} p1 p2 hy eb => by
    have hl : Dp K H y (PyData.tuple (D.pyA l)) := Dz.dp hy (shp_lay p2)
    refine ⟨d.py, D.pyA l, Dz.dp hx (shp_lay p1), hl, p1, p2, ?_⟩
    rw [if_pos rfl, pyA_map, List.any_map]
    have : ((fun z => PyData.eqv z d.py) ∘ D.py) = fun y => D.eqv y d := by funext y; exact D.py_eqv y d
    rw [this]
    rw [eb] at q
    exact q
  cases e with
  | lst l =>
    simp only [inB] at e1
    split at e1
    · rename_i hp
      cases e1
      rw [Bool.and_eq_true] at hp
      cases hy with
      | lst hs ha => exact .inl ⟨_, _, rfl, .inl hs, flat_pl hx hp.1, flats_pl ha hp.2, by rw [if_pos rfl, inV_inL hx hp.1 ha hp.2]; exact q⟩
    · split at e1
      · rename_i hp
        cases e1
        rw [Bool.and_eq_true] at hp
        exact .inr (.inl (deep hp.1 hp.2 hy rfl))
      · cases e1
  | tup l =>
    simp only [inB] at e1
    split at e1
    · rename_i hp
      cases e1
      rw [Bool.and_eq_true] at hp
      cases hy with
      | tup hs ha => exact .inl ⟨_, _, rfl, .inr hs, flat_pl hx hp.1, flats_pl ha hp.2, by rw [if_pos rfl, inV_inL hx hp.1 ha hp.2]; exact q⟩
    · split at e1
      · rename_i hp
        cases e1
        rw [Bool.and_eq_true] at hp
        exact .inr (.inr (.inl (deepT hp.1 hp.2 hy rfl)))
      · cases e1
  | str t =>
    simp only [inB] at e1
    split at e1
    · rename_i c
      cases e1
      cases hx
      cases hy
      exact .inr (.inr (.inr ⟨c, _, rfl, rfl, q⟩))
    · cases e1
  | _ => cases e1
/-- the items of a list or a tuple -/
def seqD : D → Option (List D)
  | .lst l => some l
  | .tup l => some l
  | _ => none
def z_list (ma : ZAr) : ZM := fun g => do
  let (rs, g1) ← ma g
  match rs with
  | [r] => do
    let d ← rd g1 r
    let l ← seqD d
    some (.bor g1.length, g1 ++ [.own (.lst l) false false])
  | _ => none
def z_tuple (ma : ZAr) : ZM := fun g => do
  let (rs, g1) ← ma g
  match rs with
  | [r] => do
    let d ← rd g1 r
    match d with
    | .lst l => some (.dat (.tup l), g1)
    | .tup l => match r with
      | .dat _ => some (.dat (.tup l), g1)
      | _ => none
    | _ => none
  | _ => none
section
variable {X : Cx} {pos : Pos} {a b : Expr} {ma mb : ZM} {mr : ZAr} {es : List Expr}
theorem ze_list {x : Str} {p : Pos} {k : Nat} (hr : Room k X.A) (hg : Gl X x) (hm : X.mg x = none) (ha : ZAs X (a :: es) mr) (hv : bootBuiltins x = some (.type "list") := by decide +kernel)
    (hn : x ≠ "__name__" := by decide) (hdb : (x == ("__debug__" : Str)) = false := by decide) (he : starEach (a :: es) X.env = (false, eval a X.env) :: starEach es X.env := by rfl) (hpl : (backTo pos (starEach es X.env)).any (·.1) = false := by rfl) :
    ZE X (.Call (.Name x p) (a :: es) [] pos) (z_list mr) := by
  refine PE.of (pe_callTy call_list_of hg hm hv ha hn hdb he hpl) fun σ H Q ⟨C, Hs, A, g, r, g', hK, hn, ok, e, q⟩ => ?_
  unfold z_list at e
  simp only [Option.bind_eq_bind, Option.bind_eq_some_iff] at e
  obtain ⟨⟨rs, g1⟩, h1, e⟩ := e
  refine ⟨C, Hs, A, g, rs, g1, hK, hn, ok, h1, fun Hs1 A1 vs H1 s1 p1 ok1 rel1 => ?_⟩
  simp only at e
  split at e
  · rename_i r1
    simp only [Option.bind_eq_some_iff] at e
    obtain ⟨d, h2, l, h3, e⟩ := e
    cases e
    obtain ⟨v, rfl, w⟩ := relRs1 rel1
    cases d with
    | lst l' =>
      cases h3
      obtain ⟨a, xs, rfl, y1, y2⟩ := ok1.rdL w h2
      exact ⟨a, xs, rfl, .inl (by rw [← hK]; exact y1), fun p hp => q Hs1 (A1 ++ [p]) _ _ s1 (p1.trans (Pre.app _ _)) (ok1.tmp (o := .lst xs) (c := .lst l) hp y2) (ok1.tmpR p)⟩
    | tup l' =>
      cases h3
      obtain ⟨a, xs, rfl, y1, y2⟩ := ok1.rdT w h2
      exact ⟨a, xs, rfl, .inr (by rw [← hK]; exact sameT ok1.same y1), fun p hp => q Hs1 (A1 ++ [p]) _ _ s1 (p1.trans (Pre.app _ _)) (ok1.tmp (o := .lst xs) (c := .lst l) hp y2) (ok1.tmpR p)⟩
    | _ => cases h3
  · cases e
theorem ze_tuple {x : Str} {p : Pos} {k : Nat} (hr : Room k X.A) (hg : Gl X x) (hm : X.mg x = none) (ha : ZAs X (a :: es) mr) (hv : bootBuiltins x = some (.type "tuple") := by decide +kernel)
    (hn : x ≠ "__name__" := by decide) (hdb : (x == ("__debug__" : Str)) = false := by decide) (he : starEach (a :: es) X.env = (false, eval a X.env) :: starEach es X.env := by rfl) (hpl : (backTo pos (starEach es X.env)).any (·.1) = false := by rfl) :
    ZE X (.Call (.Name x p) (a :: es) [] pos) (z_tuple mr) := by
  refine PE.of (pe_callTy call_tuple_of hg hm hv ha hn hdb he hpl) fun σ H Q ⟨C, Hs, A, g, r, g', hK, hn, ok, e, q⟩ => ?_
  unfold z_tuple at e
  simp only [Option.bind_eq_bind, Option.bind_eq_some_iff] at e
  obtain ⟨⟨rs, g1⟩, h1, e⟩ := e
  refine ⟨C, Hs, A, g, rs, g1, hK, hn, ok, h1, fun Hs1 A1 vs H1 s1 p1 ok1 rel1 => ?_⟩
  simp only at e
  split at e
  · rename_i r1
    simp only [Option.bind_eq_some_iff] at e
    obtain ⟨d, h2, e⟩ := e
    obtain ⟨v, rfl, w⟩ := relRs1 rel1
    split at e
    · cases e
      obtain ⟨a, xs, rfl, y1, y2⟩ := ok1.rdL w h2
      refine ⟨a, xs, rfl, .inl ⟨by rw [← hK]; exact y1, fun p hp => ?_⟩⟩
      obtain ⟨ok3, s3⟩ := ok1.lay (o := .tup xs) hp
      exact q _ A1 (.ref p) _ (s1.trans s3) p1 ok3 (.tup (SqT.of upd_same) (y2.mono s3))
    · split at e
      · cases e
        cases h2
        have w' : Dz C.K Hs1 v (.tup _) := w
        cases w' with
        | tup hs hz =>
          exact ⟨_, _, rfl, .inr ⟨by rw [← hK]; exact sameT ok1.same hs, q Hs1 A1 _ H1 s1 p1 ok1 (.tup hs hz)⟩⟩
      · cases e
    · cases e
  · cases e
abbrev ZO := G → Option (Option Int × G)
def tZO (K : PySem.W.Frag) (n : Nat) (m : ZO) : TO := fun σ H Q => ∃ (C : Ct) (Hs : Hp) (A : List Addr) (g : G) (o : Option Int) (g' : G), C.K = K ∧ C.n = n ∧ Ok C Hs A g σ H ∧ m g = some (o, g') ∧
  ∀ (Hs' : Hp) (A' : List Addr) (H' : Hp), Same Hs Hs' → Pre A A' → Ok C Hs' A' g' σ H' → Q o H'
abbrev ZPo (X : Cx) (e : Option Expr) (m : ZO) : Prop := PO X e (tZO X.K X.N.length m)
theorem PO.of {X : Cx} {e : Option Expr} {t t' : TO} (h : PO X e t) (w : ∀ σ H Q, t' σ H Q → t σ H Q) : PO X e t' := ⟨fun pins s σ H Q I q => h.run pins s σ H Q I (w σ H Q q)⟩
def zoN : ZO := fun g => some (none, g)
def zoS (m : ZM) : ZO := fun g => do
  let (r, g1) ← m g
  let k ← isI r
  some (some k, g1)
theorem zo_none : ZPo X none zoN := PO.of po_none fun σ H Q ⟨C, Hs, A, g, o, g', hK, hn, ok, e, q⟩ => by
  cases e
  exact q Hs A H (Same.refl _) (Pre.refl _) ok
theorem zo_some {e : Expr} {m : ZM} (h : ZE X e m) : ZPo X (some e) (zoS m) := by
  refine PO.of (po_some h) fun σ H Q ⟨C, Hs, A, g, o, g', hK, hn, ok, e, q⟩ => ?_
  unfold zoS at e
  simp only [Option.bind_eq_bind, Option.bind_eq_some_iff] at e
  obtain ⟨⟨r, g1⟩, h1, k, h2, e⟩ := e
  cases e
  have er := isI_some h2
  subst er
  refine ⟨C, Hs, A, g, _, _, hK, hn, ok, h1, fun Hs1 A1 v1 H1 s1 p1 ok1 rel1 => ?_⟩
  have ev : v1 = .int k := (show Dz C.K Hs1 v1 (.int k) from rel1).v rfl
  exact ⟨k, ev, q Hs1 A1 H1 s1 p1 ok1⟩
/-- the part of a list -/
def cutL {α : Type} (xs : List α) (lo hi : Option Int) : List α := (xs.drop (HT.sIx xs.length 0 lo)).take (HT.sIx xs.length xs.length hi - HT.sIx xs.length 0 lo)
theorem cutL_dz {K : PySem.W.Frag} {H : Hp} {vs : List V} {ds : List D} (h : DzA K H vs ds) (lo hi : Option Int) : DzA K H (cutV vs lo hi) (cutL ds lo hi) := by
  unfold cutV cutL
  rw [h.length]
  exact (h.drop _).take _
theorem cutL_whole {vs : List V} {ds : List D} {lo hi : Option Int} (hl : vs.length = ds.length) (e1 : HT.sIx vs.length 0 lo = 0) (e2 : HT.sIx vs.length vs.length hi = vs.length) : cutL ds lo hi = ds := by
  unfold cutL
  rw [← hl, e1, e2, hl]
  simp
def zSl (ma : ZM) (ml mh : ZO) : ZM := fun g => do
  let (r, g1) ← ma g
  let (lo, g2) ← ml g1
  let (hi, g3) ← mh g2
  let d ← rd g3 r
  match d with
  | .lst l => some (.bor g3.length, g3 ++ [.own (.lst (cutL l lo hi)) false false])
  | .str t => if t.length ≤ sizeLine then some (.dat (.str (cutL t lo hi)), g3) else none
  | .tup l => match r with
    | .dat _ => some (.dat (.tup (cutL l lo hi)), g3)
    | _ => none
  | _ => none
def rSlU (K : PySem.W.Frag) : V → Option Int → Option Int → Hp → VK → Prop := fun x lo hi H Q => rSlL K x lo hi H Q ∨ rSlS x lo hi H Q ∨ rSlA K x lo hi H Q
theorem sl_U : SlR X (rSlU X.K) := SlR.or sl_list (SlR.or sl_str sl_tupA)
theorem cutS_codes (t : List Nat) (lo hi : Option Int) : cutS ⟨t.toArray⟩ lo hi = ⟨(cutL t lo hi).toArray⟩ := by
  unfold cutS cutL
  simp [Str.length]
theorem ze_sl {lo hi : Option Expr} {p2 : Pos} {ml mh : ZO} (ha : ZE X a ma) (hl : ZPo X lo ml) (hh : ZPo X hi mh) : ZE X (.Subscript a (.Slice lo hi none p2) pos) (zSl ma ml mh) := by
  refine PE.of (pe_slice sl_U ha hl hh) fun σ H Q ⟨C, Hs, A, g, r, g', hK, hn, ok, e, q⟩ => ?_
  unfold zSl at e
  simp only [Option.bind_eq_bind, Option.bind_eq_some_iff] at e
  obtain ⟨⟨r1, g1⟩, h1, ⟨lo', g2⟩, h2, ⟨hi', g3⟩, h3, d, h4, e⟩ := e
  refine ⟨C, Hs, A, g, r1, g1, hK, hn, ok, h1, fun Hs1 A1 v1 H1 s1 p1 ok1 rel1 => ?_⟩
  refine ⟨C, Hs1, A1, g1, lo', g2, hK, hn, ok1, h2, fun Hs2 A2 H2 s2 p2 ok2 => ?_⟩
  refine ⟨C, Hs2, A2, g2, hi', g3, hK, hn, ok2, h3, fun Hs3 A3 H3 s3 p3 ok3 => ?_⟩
  have rel3 := rel1.mono (s2.trans s3) (p2.trans p3)
  have S := (s1.trans s2).trans s3
  have PP := (p1.trans p2).trans p3
  dsimp only at e h4
  split at e
  · cases e
    obtain ⟨a, xs, rfl, y1, y2⟩ := ok3.rdL rel3 h4
    exact .inl ⟨a, xs, rfl, by rw [← hK]; exact y1, fun p hp => q Hs3 (A3 ++ [p]) _ _ S (PP.trans (Pre.app _ _)) (ok3.tmp (o := .lst (cutV xs lo' hi')) (c := .lst (cutL _ lo' hi')) hp (cutL_dz y2 lo' hi')) (ok3.tmpR p)⟩
  · split at e
    · rename_i hz
      cases e
      have hd := ok3.rd rel3 h4
      cases hd
      exact .inr (.inl ⟨_, rfl, by simpa [Str.length] using hz, by rw [cutS_codes]; exact q Hs3 A3 _ H3 S PP ok3 (.str _)⟩)
    · cases e
  · split at e
    · cases e
      cases h4
      have w' : Dz C.K Hs3 v1 (.tup _) := rel3
      cases w' with
      | tup hs hz =>
        rename_i a xs
        refine .inr (.inr ⟨a, xs, rfl, by rw [← hK]; exact sameT ok3.same hs, fun ee => ?_, fun _ p hp => ?_⟩)
        · obtain ⟨e1, e2⟩ := ee
          refine q Hs3 A3 _ H3 S PP ok3 (.tup hs ?_)
          have : cutL _ lo' hi' = _ := cutL_whole hz.length e1 e2
          rw [this]
          exact hz
        · obtain ⟨ok4, s4⟩ := ok3.lay (o := .tup (cutV xs lo' hi')) hp
          exact q _ A3 (.ref p) _ (S.trans s4) PP ok4 (.tup (SqT.of upd_same) ((cutL_dz hz lo' hi').mono s4))
    · cases e
  · cases e
end
end Z
set_option Elab.async false
set_option linter.all false
set_option maxRecDepth 100000
set_option maxHeartbeats 4000000
namespace Z
open PySem PySem.Spec PyProof.Rows L2
section
variable {g g1 g2 g3 : G} {r r1 r2 : R} {d e z : D} {ma mb mc m : ZM} {mr : ZAr} {rs : List R} {ds : List D} {b b1 b2 : Bool} {n i j : Nat}
theorem asg_run {tg : TD} (h1 : m g = some (.dat d, g1)) (h2 : tg d g1 = some g2) (hg : g2.take n = g3) : zAsg n m tg g = some (.nx, g3) := by
  unfold zAsg; simp only [h1, frzR, h2, hg, Option.bind_eq_bind, Option.bind_some]
theorem aug_run {f : D → D → Option D} (h0 : zVar i g = some (.dat d, g)) (hs : d.scal = true) (h1 : m g = some (r, g1)) (h2 : rd g1 r = some e) (h3 : f d e = some z) (hz : z.scal = true) (hf : freeAt i g1 = true) (hg : (g1.set i (.dat z)).take n = g2) : zAug n i f m g = some (.nx, g2) := by
  have h00 : rd g (.dat d) = some d := rfl
  have h4 : setDat i z g1 = some (g1.set i (.dat z)) := by unfold setDat; rw [if_pos hf]
  unfold zAug
  simp only [h0, h00, hs, h1, h2, h3, hz, h4, hg, Option.bind_eq_bind, Option.bind_some, if_true]
theorem sto_run {k : Int} {q : Nat} {p : Bool} (h1 : mc g = some (.dat d, g1)) (h2 : ma g1 = some (.bor j, g2)) (h3 : mb g2 = some (.dat (.int k), g3)) (h4 : g3[j]? = some (.own (.lst ds) p false)) (h5 : ixN ds.length k = some q) {g4 : G} (hg : (g3.set j (.own (.lst (ds.set q d)) p false)).take n = g4) : zSto n ma mb mc g = some (.nx, g4) := by
  unfold zSto; simp only [h1, h2, h3, h4, h5, hg, frzR, isI, Option.bind_eq_bind, Option.bind_some]
theorem er_list {l : List D} (h1 : mr g = some ([r], g1)) (h2 : rd g1 r = some d) (h3 : seqD d = some l) : z_list mr g = some (.bor g1.length, g1 ++ [.own (.lst l) false false]) := by
  unfold z_list; simp only [h1, h2, h3, Option.bind_eq_bind, Option.bind_some]
theorem er_tupL {l : List D} (h1 : mr g = some ([r], g1)) (h2 : rd g1 r = some (.lst l)) : z_tuple mr g = some (.dat (.tup l), g1) := by
  unfold z_tuple; simp only [h1, h2, Option.bind_eq_bind, Option.bind_some]
theorem er_zoN : zoN g = some (none, g) := rfl
theorem er_zoS {k : Int} (h : m g = some (.dat (.int k), g1)) : zoS m g = some (some k, g1) := by
  unfold zoS; simp only [h, isI, Option.bind_eq_bind, Option.bind_some]
theorem er_slS {ml mh : ZO} {lo hi : Option Int} {t : List Nat} (h1 : ma g = some (r, g1)) (h2 : ml g1 = some (lo, g2)) (h3 : mh g2 = some (hi, g3)) (h4 : rd g3 r = some (.str t)) (hz : t.length ≤ sizeLine) : zSl ma ml mh g = some (.dat (.str (cutL t lo hi)), g3) := by
  unfold zSl; simp only [h1, h2, h3, h4, if_pos hz, Option.bind_eq_bind, Option.bind_some]
theorem er_slL {ml mh : ZO} {lo hi : Option Int} {l : List D} (h1 : ma g = some (r, g1)) (h2 : ml g1 = some (lo, g2)) (h3 : mh g2 = some (hi, g3)) (h4 : rd g3 r = some (.lst l)) : zSl ma ml mh g = some (.bor g3.length, g3 ++ [.own (.lst (cutL l lo hi)) false false]) := by
  unfold zSl; simp only [h1, h2, h3, h4, Option.bind_eq_bind, Option.bind_some]
theorem er_C : zC d g = some (.dat d, g) := rfl
theorem er_nil : zNil g = some ([], g) := rfl
theorem er_varD (h : g[i]? = some (.dat d)) : zVar i g = some (.dat d, g) := by unfold zVar; rw [h]
theorem er_varO {c : Cn} {p l : Bool} (h : g[i]? = some (.own c p l)) : zVar i g = some (.bor i, g) := by unfold zVar; rw [h]
theorem er_varF (h : g[i]? = some (.frz d)) : zVar i g = some (.dat d, g) := by unfold zVar; rw [h]
end
end Z
set_option Elab.async false
set_option linter.all false
set_option maxRecDepth 100000
set_option maxHeartbeats 4000000
namespace Z
open PySem PySem.Spec PyProof.Rows L2
def FR.scal : FR → Bool
  | .dat d => d.scal
  | .new c => c.scal
  | .newR _ => false
def noB (j : Nat) : R → Bool
  | .bor i => i != j
  | .dat _ => true
/-- what comes back, put by -/
def putFR (fr : FR) (g : G) : R × G := match fr with
  | .dat d => (.dat d, g)
  | .new c => (.bor g.length, g ++ [.own c false false])
  | .newR ls => (.bor g.length, g ++ [.rws ls])
def zCallM (kk : Nat) (f : Cn → List D → Option (FR × Cn)) (ma : ZAr) : ZM := fun g => do
  let (rs, g1) ← ma g
  match rs[kk]? with
  | some (.bor j) => match g1[j]? with
    | some (.own c p false) =>
      if (rs.eraseIdx kk).all (noB j) = true then do
        let ds ← rdAll g1 (rs.eraseIdx kk)
        let (fr, c') ← f c ds
        if (c'.scal && fr.scal) = true then some (putFR fr (g1.set j (.own c' p false))) else do
          let (ds2, g2) ← frzAll (rs.eraseIdx kk) g1
          match g2[j]? with
          | some (.own c2 p2 false) => do
            let (fr2, c2') ← f c2 ds2
            some (putFR fr2 (g2.set j (.own c2' p2 false)))
          | _ => none
      else none
    | _ => none
  | _ => none
theorem RelRs.get {K : PySem.W.Frag} {Hs : Hp} {A : List Addr} : ∀ {vs : List V} {rs : List R} {i : Nat} {r : R}, RelRs K Hs A vs rs → rs[i]? = some r → ∃ v, vs[i]? = some v ∧ RelR K Hs A v r
  | [], [], _, _, _, e => by simp at e
  | v :: vs, r :: rs, 0, _, h, e => by simp at e; subst e; exact ⟨v, rfl, h.1⟩
  | v :: vs, r :: rs, i + 1, _, h, e => by
    obtain ⟨x, h1, h2⟩ := RelRs.get (i := i) h.2 (by simpa using e)
    exact ⟨x, by simpa using h1, h2⟩
  | [], _ :: _, _, _, h, _ => h.elim
  | _ :: _, [], _, _, h, _ => h.elim
end Z
set_option Elab.async false
set_option linter.all false
set_option maxRecDepth 100000
set_option maxHeartbeats 4000000
namespace Z
open PySem PySem.Spec PyProof.Rows L2
theorem wipe_get (σ : L2.St) : ∀ (vs : List Nat) (i : Nat), (wipe σ vs)[i]? = if i ∈ vs ∧ i < σ.length then some none else σ[i]?
  | [], i => by simp [wipe]
  | v :: vs, i => by
    unfold wipe
    by_cases h : i = v
    · subst h
      by_cases hl : i < σ.length
      · rw [List.getElem?_set_self (by rw [wipe_length]; exact hl), if_pos ⟨List.mem_cons_self, hl⟩]
      · rw [List.getElem?_eq_none (by rw [List.length_set, wipe_length]; omega), if_neg (by omega), List.getElem?_eq_none (by omega)]
    · rw [List.getElem?_set_ne (Ne.symm h), wipe_get σ vs i]
      have : (i ∈ v :: vs) ↔ i ∈ vs := by simp [h]
      simp only [this]
theorem wipe_set {σ : L2.St} {vs : List Nat} {i : Nat} {x : Option V} (h : i ∈ vs) : wipe (σ.set i x) vs = wipe σ vs := by
  refine List.ext_getElem? fun j => ?_
  rw [wipe_get, wipe_get, List.length_set]
  by_cases hj : j ∈ vs ∧ j < σ.length
  · rw [if_pos hj, if_pos hj]
  · rw [if_neg hj, if_neg hj]
    by_cases e : i = j
    · subst e
      have : ¬ i < σ.length := fun z => hj ⟨h, z⟩
      rw [List.getElem?_eq_none (by rw [List.length_set]; omega), List.getElem?_eq_none (by omega)]
    · rw [List.getElem?_set_ne e]
theorem wipe_out {σ : L2.St} {vs : List Nat} {i : Nat} (h : i ∉ vs) : (wipe σ vs)[i]? = σ[i]? := by rw [wipe_get, if_neg (fun z => h z.1)]
def wipeG (g : G) : List Nat → G
  | [] => g
  | v :: vs => (wipeG g vs).set v .un
theorem wipeG_len (g : G) : ∀ vs : List Nat, (wipeG g vs).length = g.length
  | [] => rfl
  | v :: vs => by unfold wipeG; rw [List.length_set, wipeG_len g vs]
theorem wipeG_some {g : G} : ∀ {vs : List Nat} {i : Nat} {s : Sl}, (wipeG g vs)[i]? = some s → s = .un ∨ (i ∉ vs ∧ g[i]? = some s)
  | [], i, s, h => .inr ⟨by simp, h⟩
  | v :: vs, i, s, h => by
    unfold wipeG at h
    rcases set_some h with ⟨_, e, _⟩ | ⟨ne, h⟩
    · exact .inl e
    · rcases wipeG_some h with e | ⟨e1, e2⟩
      · exact .inl e
      · exact .inr ⟨by simp [ne, e1], e2⟩
theorem wipeG_out {g : G} : ∀ {vs : List Nat} {i : Nat}, i ∉ vs → (wipeG g vs)[i]? = g[i]?
  | [], i, _ => rfl
  | v :: vs, i, h => by
    unfold wipeG
    simp only [List.mem_cons, not_or] at h
    rw [List.getElem?_set_ne (Ne.symm h.1), wipeG_out h.2]
def freeAll (g : G) (vs : List Nat) : Bool := vs.all fun v => freeAt v g
theorem freeAll_at {g : G} {vs : List Nat} (h : freeAll g vs = true) {v : Nat} (hv : v ∈ vs) : freeAt v g = true := List.all_eq_true.mp h v hv
/-- slots forgotten; σ may change there -/
theorem Ok.puts {C : Ct} {Hs : Hp} {A : List Addr} {g : G} {σ σ' : L2.St} {H : Hp} {vs : List Nat} (ok : Ok C Hs A g σ H) (hf : freeAll g vs = true) (hl : σ'.length = σ.length) (hσ : ∀ i, i ∉ vs → σ'[i]? = σ[i]?) : Ok C Hs A (wipeG g vs) σ' H := by
  have no : ∀ {i : Nat} {c : Cn} {p l : Bool}, (wipeG g vs)[i]? = some (.own c p l) → i ∉ vs ∧ g[i]? = some (.own c p l) := fun {i c p l} e => by
    rcases wipeG_some e with z | z
    · cases z
    · exact z
  refine ⟨hl.trans ok.ln, by rw [wipeG_len]; exact ok.lg, by rw [wipeG_len]; exact ok.la, ok.base, ok.same, fun i d e => ?_, fun i d e => ?_, fun i c p l e => ?_, fun i k c1 p1 l1 c2 p2 l2 a' e1 e2 h1 h2 => ok.inj i k _ _ _ _ _ _ a' (no e1).2 (no e2).2 h1 h2, ok.grow, ok.keep, fun q hq => ?_, fun i c' l a' e ha => ok.pin1 i c' l a' (no e).2 ha, fun q hq => ?_, ?_⟩
  · rcases wipeG_some e with z | ⟨z1, z2⟩
    · cases z
    · rw [hσ i z1]; exact ok.dat i d z2
  · rcases wipeG_some e with z | ⟨z1, z2⟩
    · cases z
    · rw [hσ i z1]; exact ok.frz i d z2
  · obtain ⟨z1, z2⟩ := no e
    rw [hσ i z1]; exact ok.own i c p l z2
  · obtain ⟨c', l, h1, h2⟩ := ok.pinned q hq
    refine ⟨c', l, ?_, h2⟩
    rw [wipeG_out (fun z => freeAt_pin (freeAll_at hf z) h1)]
    exact h1
  · obtain ⟨p, h1, h2⟩ := ok.locked q hq
    refine ⟨p, ?_, h2⟩
    rw [wipeG_out (fun z => freeAt_lock (freeAll_at hf z) h1)]
    exact h1
  · refine RwOk.step ok.rws rfl rfl (Same.refl _) (fun x u ex n1 n2 _ => ⟨ex, n1, n2⟩) (fun i ls e => ?_) (fun i c' p l b e hb => .inl ⟨i, c', p, l, (no e).2, hb⟩)
    rcases wipeG_some e with z | ⟨z1, z2⟩
    · cases z
    · exact ⟨z2, rfl, fun _ => hσ i z1⟩
/-- what was held aside beyond m is dropped -/
theorem Ok.cutM {C : Ct} {Hs : Hp} {A : List Addr} {g : G} {σ : L2.St} {H : Hp} {m : Nat} (ok : Ok C Hs A g σ H) (hm : C.n ≤ m) : Ok C Hs (A.take m) (g.take m) σ H := by
  have tk : ∀ {α : Type} {l : List α} {i : Nat} {s : α}, (l.take m)[i]? = some s → i < m ∧ l[i]? = some s := fun {α l i s} e => by
    by_cases h : i < m
    · rw [List.getElem?_take_of_lt h] at e; exact ⟨h, e⟩
    · have := (List.getElem?_eq_some_iff.mp e).1
      rw [List.length_take] at this; omega
  have kt : ∀ {α : Type} {l : List α} {i : Nat} {s : α}, i < m → l[i]? = some s → (l.take m)[i]? = some s := fun {α l i s} h e => by
    rw [List.getElem?_take_of_lt h]; exact e
  refine ⟨ok.ln, by rw [List.length_take]; have := ok.lg; omega, by rw [List.length_take, List.length_take, ok.la], ok.base, ok.same, fun i d e => ok.dat i d (tk e).2, fun i d e => ?_, fun i c' p l e => ?_, fun i k c1 p1 l1 c2 p2 l2 a' e1 e2 h1 h2 => ok.inj i k _ _ _ _ _ _ a' (tk e1).2 (tk e2).2 (tk h1).2 (tk h2).2, ok.grow, ok.keep, fun q hq => ?_, fun i c' l a' e ha => ok.pin1 i c' l a' (tk e).2 (tk ha).2, fun q hq => ?_, RwOk.step ok.rws rfl rfl (Same.refl _) (fun x u ex n1 n2 _ => ⟨ex, n1, n2⟩) (fun i ls e => ⟨(tk e).2, List.getElem?_take_of_lt (tk e).1, fun _ => rfl⟩) (fun i c' p l b e hb => .inl ⟨i, c', p, l, (tk e).2, (tk hb).2⟩)⟩
  · obtain ⟨a, q1, q2⟩ := ok.frz i d (tk e).2
    exact ⟨a, kt (tk e).1 q1, q2⟩
  · obtain ⟨a, o, q1, q2⟩ := ok.own i c' p l (tk e).2
    exact ⟨a, o, kt (tk e).1 q1, q2⟩
  · obtain ⟨c', l, h1, h2⟩ := ok.pinned q hq
    have := C.plt q hq
    exact ⟨c', l, kt (by omega) h1, kt (by omega) h2⟩
  · obtain ⟨p, h1, h2⟩ := ok.locked q hq
    have := C.llt q hq
    exact ⟨p, kt (by omega) h1, kt (by omega) h2⟩
def tZGw (K : PySem.W.Frag) (n : Nat) (vs : List Nat) (tg : TD) : TG := fun v σ H Q => ∃ (C : Ct) (Hs : Hp) (A : List Addr) (g : G) (d : D) (g' : G), C.K = K ∧ C.n = n ∧ Ok C Hs A g σ H ∧ Dz K Hs v d ∧ tg d g = some g' ∧
  ∀ (σ' : L2.St), wipe σ' vs = wipe σ vs → Ok C Hs A g' σ' H → Q σ' H
abbrev ZGw (X : Cx) (vs : List Nat) (e : Expr) (tg : TD) : Prop := PG X e (tZGw X.K X.N.length vs tg)
section
variable {X : Cx} {pos : Pos} {vs : List Nat}
theorem zgw_name {i : Nat} {x : Str} (hN : X.N.Nodup) (hi : X.N[i]? = some x) (hx : Loc X.env.scope x) (hv : i ∈ vs) (hf : X.fn x = true ∨ X.env.scope.names.lookup x = some .local := by first | exact .inl rfl | exact .inr rfl | assumption) : ZGw X vs (.Name x pos) (gN i) := by
  refine PG.of (pg_name hN hi hx hf) fun v σ H Q ⟨C, Hs, A, g, d, g', hK, hn, ok, hd, e, q⟩ => ?_
  rw [← hK] at hd
  exact q _ (wipe_set hv) (ok.set e (by rw [hn]; exact (List.getElem?_eq_some_iff.mp hi).1) hd)
def zYes : ZT := fun g => some (true, g)
abbrev ZTs (X : Cx) (es : List Expr) (m : ZT) : Prop := PTs X es (tZT X.K X.N.length m)
theorem zts_nil : ZTs X [] zYes := ⟨fun pins s σ H Q I ⟨C, Hs, A, g, b, g', hK, hn, ok, e, q⟩ => pts_nil.run pins s σ H Q I (by
  cases e
  exact q Hs A H (Same.refl _) (Pre.refl _) ok)⟩
end
def lcL (tg : TD) (tt : ZT) (el : ZM) (vs : List Nat) (t : Nat) : List D → G → Option G
  | [], g => if freeAll g vs = true then some g else none
  | x :: xs, g => if freeAll g vs = true then do
      let g1 ← tg x (wipeG g vs)
      let (b, g2) ← tt g1
      if b = true then do
        let (r, g3) ← el g2
        let (d, g4) ← frzR r g3
        match g4[t]? with
        | some (.own (.lst acc) false false) => if acc.length < sizeLine then lcL tg tt el vs t xs ((g4.set t (.own (.lst (acc ++ [d])) false false)).take (t + 1)) else none
        | _ => none
      else lcL tg tt el vs t xs (g2.take (t + 1))
    else none
def zLc (mi : MI) (tg : TD) (tt : ZT) (el : ZM) (vs : List Nat) : ZM := fun g => do
  let (L, lk, g1) ← mi g
  match lk with
  | none => do
    let g3 ← lcL tg tt el vs g1.length L (g1 ++ [Sl.own (.lst []) false false])
    some (.bor g1.length, wipeG g3 vs)
  | some j => match g1[j]? with
    | some (.own c p l) => do
      let g3 ← lcL tg tt el vs g1.length L ((g1 ++ [Sl.own (.lst []) false false]).set j (.own c p true))
      some (.bor g1.length, unlk j l (wipeG g3 vs))
    | _ => none
theorem lc_of {tgd : TD} {tt : ZT} {el : ZM} {vs : List Nat} {C : Ct} {Hs1 : Hp} {A1 : List Addr} {g1 g3 : G} {σ : L2.St} {H1 : Hp} {L : List D} {J : It} {lk' : Option (Addr × Cn)} {K : PySem.W.Frag} {n t : Nat} {D0 : Addr} {Qd : Hp → Prop} (hK : C.K = K) (hn : C.n = n) (ht : C.n ≤ t)
    (ok : Ok C Hs1 A1 g1 σ H1) (hA : A1[t]? = some D0) (hAl : A1.length = t + 1) (jw : JW K J L (Src K Hs1 lk')) (hl : ∀ a c, lk' = some (a, c) → ∃ j, (j, a, c) ∈ C.locks) (e : lcL tgd tt el vs t L g1 = some g3)
    (q : ∀ Hs A H, Same Hs1 Hs → Ok C Hs A (wipeG g3 vs) σ H → Pre A1 A → Qd H) :
    ∃ W : Nat → Nat → Hp → Prop, (∃ m, W 0 m H1) ∧ ∀ i m H, W i m H → (J.stop i H ∧ Qd H) ∨ (J.go i H ∧ ∃ Nx : Hp → Prop, (∀ H', Nx H' → ∃ m', m' < m ∧ W (i + 1) m' H') ∧ ∀ x H', J.yld i H x H' → tZGw K n vs tgd x (wipe σ vs) H' fun σ2 H2 => wipe σ2 vs = wipe σ vs ∧ tZT K n tt σ2 H2 fun b H3 =>
      if b = true then tZ K n el σ2 H3 fun y H4 => ∃ acc, H4 D0 = some (.lst acc) ∧ acc.length < sizeLine ∧ Nx (upd H4 D0 (.lst (acc ++ [y]))) else Nx H3) := by
  have src : ∀ {Hs A g σ H}, Same Hs1 Hs → Ok C Hs A g σ H → Src K Hs1 lk' Hs H := fun {Hs A g σ H} s ok => by
    cases lk' with
    | none => exact ⟨s, ok.same⟩
    | some ac =>
      obtain ⟨a, c⟩ := ac
      obtain ⟨j, hj⟩ := hl a c rfl
      obtain ⟨p, h1, h2⟩ := ok.locked _ hj
      obtain ⟨a', o, w1, _, _, w4, w5, _⟩ := ok.own j c p true h1
      have : some a = some a' := h2.symm.trans w1
      cases this
      exact ⟨o, w4, by rw [← hK]; exact w5⟩
  have ptk : ∀ {A : List Addr}, Pre A1 A → Pre A1 (A.take (t + 1)) := fun {A} h j a e => by
    have := (List.getElem?_eq_some_iff.mp e).1
    rw [List.getElem?_take_of_lt (by omega)]
    exact h j a e
  refine ⟨fun i m H => m = L.length - i ∧ i ≤ L.length ∧ ∃ Hs A g σ', wipe σ' vs = wipe σ vs ∧ σ'.length = σ.length ∧ Same Hs1 Hs ∧ Ok C Hs A g σ' H ∧ Pre A1 A ∧ lcL tgd tt el vs t (L.drop i) g = some g3, ⟨L.length, by simp, Nat.zero_le _, Hs1, A1, g1, σ, rfl, rfl, Same.refl _, ok, Pre.refl _, by simpa using e⟩, ?_⟩
  rintro i m H ⟨rfl, hi, Hs, A, g, σ', hw, hlen, s, ok, hP, e⟩
  by_cases hlt : i < L.length
  · refine .inr ⟨jw.go Hs H i (src s ok) hlt, ?_⟩
    rw [List.drop_eq_getElem_cons hlt] at e
    simp only [lcL] at e
    split at e
    · rename_i hfr
      simp only [Option.bind_eq_bind, Option.bind_eq_some_iff] at e
      obtain ⟨ga, e1, ⟨b, gb⟩, e2, e3⟩ := e
      have okw : Ok C Hs A (wipeG g vs) (wipe σ vs) H := ok.puts hfr (by rw [wipe_length, hlen]) (fun i hi => by rw [← hw]; exact wipe_out hi)
      refine ⟨fun H' => ∃ Hs' A' g' σ2, wipe σ2 vs = wipe σ vs ∧ σ2.length = σ.length ∧ Same Hs1 Hs' ∧ Ok C Hs' A' g' σ2 H' ∧ Pre A1 A' ∧ lcL tgd tt el vs t (L.drop (i + 1)) g' = some g3, fun H' ⟨Hs', A', g', σ2, w1, w2, w3, w4, w5, w6⟩ => ⟨L.length - (i + 1), by omega, rfl, hlt, Hs', A', g', σ2, w1, w2, w3, w4, w5, w6⟩, fun x H' y => ?_⟩
      obtain ⟨d, Hs', hd, s', ok', dz⟩ := jw.yld C Hs A _ _ H i x H' hK okw (src s ok) hlt y
      rw [List.getElem?_eq_getElem hlt] at hd
      cases hd
      refine ⟨C, Hs', A, _, _, ga, hK, hn, ok', dz, e1, fun σ2 hw2 ok2 => ?_⟩
      have hw3 : wipe σ2 vs = wipe σ vs := by
        rw [hw2]
        refine List.ext_getElem? fun j => ?_
        rw [wipe_get, wipe_get, wipe_length]
        by_cases hj : j ∈ vs ∧ j < σ.length
        · simp only [if_pos hj]
        · simp only [if_neg hj]
      have hl2 : σ2.length = σ.length := by have := ok2.ln; have := ok.ln; omega
      refine ⟨hw3, C, Hs', A, ga, b, gb, hK, hn, ok2, e2, fun Hs3 A3 H3 s3 p3 ok3 => ?_⟩
      cases b with
      | false =>
        show if false = true then _ else _
        rw [if_neg Bool.false_ne_true]
        have e3 : lcL tgd tt el vs t (L.drop (i + 1)) (gb.take (t + 1)) = some g3 := e3
        exact ⟨Hs3, A3.take (t + 1), _, σ2, hw3, hl2, (s.trans s').trans s3, ok3.cutM (by omega), ptk (hP.trans p3), e3⟩
      | true =>
        show if true = true then _ else _
        rw [if_pos rfl]
        simp only [if_true, Option.bind_eq_some_iff] at e3
        obtain ⟨⟨r, gc⟩, e4, ⟨dd, gd⟩, e5, e6⟩ := e3
        refine ⟨C, Hs3, A3, gb, r, gc, hK, hn, ok3, e4, fun Hs4 A4 v4 H4 s4 p4 ok4 rel4 => ?_⟩
        obtain ⟨Hs5, s5, ok5, dz5⟩ := ok4.frzR rel4 e5
        dsimp only at e6
        split at e6
        · rename_i acc hgt
          split at e6
          · rename_i hsz
            have hA4 : A4[t]? = some D0 := p4 _ _ (p3 _ _ (hP _ _ hA))
            obtain ⟨a', vs', ev, w1, w2, w3⟩ := ok5.bor (relB hA4) hgt
            cases ev
            refine ⟨vs', w2, by rw [w3.length]; exact hsz, Hs5, A4.take (t + 1), _, σ2, hw3, hl2, (((s.trans s').trans s3).trans s4).trans s5, (ok5.wr (o := .lst (vs' ++ [v4])) (c' := .lst (acc ++ [dd])) hgt hA4 (show DzA C.K Hs5 (vs' ++ [v4]) (acc ++ [dd]) from w3.append (.cons dz5 .nil))).cutM (by omega), ptk ((hP.trans p3).trans p4), e6⟩
          · cases e6
        · cases e6
    · cases e
  · have ei : i = L.length := by omega
    subst ei
    rw [List.drop_length] at e
    simp only [lcL] at e
    split at e
    · rename_i hfr
      cases e
      refine .inl ⟨jw.stop Hs H _ (src s ok) (Nat.le_refl _), q Hs A H s (ok.puts hfr hlen.symm fun i hi => ?_) hP⟩
      have h1 := wipe_out (σ := σ') hi
      have h2 := wipe_out (σ := σ) hi
      rw [← h1, hw, h2]
    · cases e
section
variable {X : Cx} {pos : Pos}
theorem zlc_of {mi : MI} {tgd : TD} {tt : ZT} {el : ZM} {vs : List Nat} {σ : L2.St} {H : Hp} {Q : VK} (h : tZ X.K X.N.length (zLc mi tgd tt el vs) σ H Q) :
    tLc (tZI X.K X.N.length mi) (tZGw X.K X.N.length vs tgd) (tZT X.K X.N.length tt) (tZ X.K X.N.length el) vs σ H Q := by
  obtain ⟨C, Hs, A, g, r, g', hK, hn, ok, e, q⟩ := h
  unfold zLc at e
  simp only [Option.bind_eq_bind, Option.bind_eq_some_iff] at e
  obtain ⟨⟨L, lk, g1⟩, h1, e⟩ := e
  refine ⟨C, Hs, A, g, L, lk, g1, hK, hn, ok, h1, fun Hs1 A1 H1 J lk' s1 PRE ok1 hl jw D0 hD => ?_⟩
  have ok2 := ok1.tmp (a := D0) (o := .lst []) (c := .lst []) hD (show DzA C.K Hs1 [] [] from .nil)
  have hA2 : (A1 ++ [D0])[g1.length]? = some D0 := by rw [← ok1.la]; simp
  have hAl : (A1 ++ [D0]).length = g1.length + 1 := by rw [List.length_append, ok1.la]; rfl
  cases lk with
  | none =>
    cases lk' with
    | some _ => exact hl.elim
    | none =>
      simp only [Option.bind_eq_some_iff] at e
      obtain ⟨g3, e1, e2⟩ := e
      cases e2
      exact lc_of hK hn ok1.lg ok2 hA2 hAl jw (fun _ _ z => by cases z) e1 fun Hs2 A2 H2 s2 ok3 pre => q Hs2 A2 (.ref D0) H2 (s1.trans s2) (fun j a h => pre j a (Pre.app _ _ j a (PRE j a h))) ok3 ⟨D0, pre _ _ hA2, rfl⟩
  | some j =>
    cases lk' with
    | none => exact hl.elim
    | some ac =>
      obtain ⟨a, c⟩ := ac
      obtain ⟨ha, ⟨p0, l0, hgj⟩, hj⟩ := hl
      simp only at e
      split at e
      · rename_i c' p l hg2
        rw [hgj] at hg2
        cases hg2
        simp only [Option.bind_eq_some_iff] at e
        obtain ⟨g3, e1, e2⟩ := e
        cases e2
        have hjl := (List.getElem?_eq_some_iff.mp hgj).1
        have hgc : (g1 ++ [Sl.own (.lst []) false false])[j]? = some (.own c p0 l0) := by rw [List.getElem?_append_left hjl]; exact hgj
        have hac : (A1 ++ [D0])[j]? = some a := Pre.app _ _ _ _ ha
        have hjn : j < C.n := by rw [hn]; exact hj
        have okl : Ok (C.lock (j, a, c) hjn) Hs1 (A1 ++ [D0]) ((g1 ++ [Sl.own (.lst []) false false]).set j (.own c p0 true)) σ (upd H1 D0 (.lst [])) := by
          refine ok2.lk hgc rfl rfl rfl rfl rfl fun r hr => ?_
          rcases List.mem_cons.mp hr with rfl | hr
          · exact .inl ⟨rfl, rfl, rfl, hac⟩
          · by_cases z : r.1 = j
            · obtain ⟨p', w1, w2⟩ := ok2.locked r hr
              rw [z, hgc] at w1
              cases w1
              rw [z] at w2
              exact .inl ⟨z, rfl, rfl, w2⟩
            · exact .inr ⟨z, hr⟩
        refine lc_of (C := C.lock (j, a, c) hjn) hK hn ok1.lg okl hA2 hAl jw (fun a' c' z => ⟨j, by cases z; exact List.mem_cons_self⟩) e1 fun Hs2 A2 H2 s2 ok' pre => ?_
        have okU : Ok C Hs2 A2 (unlk j l0 (wipeG g3 vs)) σ H2 := by
          obtain ⟨p', w1, w2⟩ := ok'.locked (j, a, c) List.mem_cons_self
          unfold unlk
          rw [show (wipeG g3 vs)[j]? = some (.own c p' true) from w1]
          refine ok'.lk (C' := C) w1 rfl rfl rfl rfl rfl fun r hr => ?_
          by_cases z : r.1 = j
          · obtain ⟨p2, y1, y2⟩ := ok2.locked r hr
            rw [z, hgc] at y1
            have e3 : some (Sl.own c p0 l0) = some (.own r.2.2 p2 true) := y1
            cases e3
            obtain ⟨p3, x1, x2⟩ := ok'.locked r (List.mem_cons_of_mem _ hr)
            rw [z] at x2
            exact .inl ⟨z, rfl, rfl, x2⟩
          · exact .inr ⟨z, List.mem_cons_of_mem _ hr⟩
        exact q Hs2 A2 (.ref D0) H2 (s1.trans s2) (fun j a h => pre j a (Pre.app _ _ j a (PRE j a h))) okU ⟨D0, pre _ _ hA2, rfl⟩
      · cases e
theorem ze_lc {elt tg iter : Expr} {ifs : List Expr} {scope : Scope} {own : List (Str × Nat)} {mi : MI} {g : TD} {tt : ZT} {el : ZM} (hc : X.calm = true) (hN : X.N.Nodup) (hi : ZI X tg iter mi) (ok : BlkOk X.N X.env.scope scope own)
    (hg : ∀ (s : Shared) (H : Hp) (C : Addr) (cl : List (Str × Addr)) (fp : List Addr), ZGw (X.blk s H scope (compEnvC scope cl C X.env) fp) (own.map (·.2)) tg g) (ht : ∀ (s : Shared) (H : Hp) (C : Addr) (cl : List (Str × Addr)) (fp : List Addr), ZTs (X.blk s H scope (compEnvC scope cl C X.env) fp) ifs tt)
    (he : ∀ (s : Shared) (H : Hp) (C : Addr) (cl : List (Str × Addr)) (fp : List Addr), ZE (X.blk s H scope (compEnvC scope cl C X.env) fp) elt el) (hs : ∀ x, foldedSetIterable iter X.env x = pure x := by intro _; rfl) :
    ZE X (.ListComp elt [⟨tg, iter, ifs, 0⟩] scope pos) (zLc mi g tt el (own.map (·.2))) :=
  PE.of (pe_lc hc hN hi ok hg ht he hs) fun σ H Q h => zlc_of h
end
end Z
set_option Elab.async false
set_option linter.all false
set_option maxRecDepth 100000
set_option maxHeartbeats 4000000
namespace Z
open PySem PySem.Spec PyProof.Rows L2
section
variable {X : Cx} {pos : Pos} {tg : Expr} {m : ZM} {ma : ZAr} {a b c : Expr} {p : Pos}
variable {ma' mb : ZM}
def zCatL (ma mb : ZM) : ZM := fun g => do
  let (r1, g1) ← ma g
  let (r2, g2) ← mb g1
  let d ← rd g2 r1
  let e ← rd g2 r2
  match d, e with
  | .lst l, .lst k => if l.length + k.length ≤ sizeLine then some (.bor g2.length, g2 ++ [.own (.lst (l ++ k)) false false]) else none
  | _, _ => none
end
section
variable {g g1 g2 g3 : G} {r r1 r2 : R} {d e z : D} {ma mb mc m : ZM} {mr : ZAr} {rs : List R} {ds : List D} {b b1 b2 : Bool} {n i j : Nat}
theorem er_catL {l k : List D} (h1 : ma g = some (r1, g1)) (h2 : mb g1 = some (r2, g2)) (h3 : rd g2 r1 = some (.lst l)) (h4 : rd g2 r2 = some (.lst k)) (hz : l.length + k.length ≤ sizeLine) : zCatL ma mb g = some (.bor g2.length, g2 ++ [.own (.lst (l ++ k)) false false]) := by
  unfold zCatL; simp only [h1, h2, h3, h4, if_pos hz, Option.bind_eq_bind, Option.bind_some]
/-- a call that changes its kk-th argument, the others data -/
theorem er_callM {kk : Nat} {f : Cn → List D → Option (FR × Cn)} {c c' : Cn} {p : Bool} (h1 : mr g = some (rs, g1)) (h2 : rs[kk]? = some (.bor j)) (h3 : g1[j]? = some (.own c p false)) (h4 : (rs.eraseIdx kk).all (noB j) = true) (h5 : rdAll g1 (rs.eraseIdx kk) = some ds) (h6 : frzAll (rs.eraseIdx kk) g1 = some (ds, g2)) (h8 : f c ds = some (.dat d, c')) (h7 : g2 = g1) :
    zCallM kk f mr g = some (.dat d, g1.set j (.own c' p false)) := by
  subst h7
  unfold zCallM
  simp only [h1, h2, h3, h4, h5, h6, h8, Option.bind_eq_bind, Option.bind_some, if_true]
  split
  · rfl
  · rfl
end
end Z
set_option Elab.async false
set_option linter.all false
set_option maxRecDepth 100000
set_option maxHeartbeats 4000000
namespace Z
open PySem PySem.Spec PyProof.Rows L2
/-- plain, and a text that can stand in a shaped thing -/
def D.okp : D → Bool
  | .str s => PyData.strOk ⟨s.toArray⟩
  | d => d.pl
theorem pl_lay {d : D} (h : d.okp = true) : d.py.canLay0 = true ∧ d.py.depth = 0 := by
  cases d with
  | str s => exact ⟨h, rfl⟩
  | non => exact ⟨rfl, rfl⟩
  | bl b => exact ⟨rfl, rfl⟩
  | int i => exact ⟨rfl, rfl⟩
  | _ => exact absurd h (by simp [D.okp, D.pl])
theorem pls_lay : ∀ {l : List D}, l.all D.okp = true → PyData.canLayAll0 (D.pyA l) = true ∧ PyData.depthAll (D.pyA l) = 0
  | [], _ => ⟨rfl, rfl⟩
  | d :: l, h => by
    rw [List.all_cons, Bool.and_eq_true] at h
    obtain ⟨a1, a2⟩ := pl_lay h.1
    obtain ⟨b1, b2⟩ := pls_lay h.2
    simp [D.pyA, PyData.canLayAll0, PyData.depthAll, a1, a2, b1, b2]
theorem shp_flat {l : List D} (h : l.all D.okp = true) : (D.lst l).shp = true := by
  obtain ⟨b1, b2⟩ := pls_lay h
  show ((D.lst l).py.canLay0 && decide ((D.lst l).py.depth ≤ 64)) = true
  have e1 : (D.lst l).py.canLay0 = true := by show PyData.canLay0 (.list (D.pyA l)) = true; simpa [PyData.canLay0] using b1
  have e2 : (D.lst l).py.depth ≤ 64 := by show PyData.depth (.list (D.pyA l)) ≤ 64; simp [PyData.depth, b2]
  rw [e1, decide_eq_true e2]
  rfl
theorem pl_ints (a : List Int) : (a.map D.int).all D.okp = true := by simp [D.okp, D.pl]
theorem eqvA_ints : ∀ a b : List Int, D.eqvA (a.map D.int) (b.map D.int) = (a == b)
  | [], [] => rfl
  | [], _ :: _ => rfl
  | _ :: _, [] => rfl
  | x :: a, y :: b => by
    show (D.eqv (.int x) (.int y) && D.eqvA (a.map D.int) (b.map D.int)) = _
    rw [eqvA_ints a b]
    rfl
theorem dr_neL (a b : List Int) : neqD (.lst (a.map D.int)) (.lst (b.map D.int)) = some (.bl (!(a == b))) := by
  have : neOk (.lst (a.map D.int)) (.lst (b.map D.int)) = true := by simp [neOk, shp_flat (pl_ints a), shp_flat (pl_ints b)]
  unfold neqD
  rw [if_pos this]
  show some (D.bl (!D.eqvA _ _)) = _
  rw [eqvA_ints]
/-- one turn of a comprehension that takes its item -/
theorem lcL_go {tg : TD} {tt : ZT} {el : ZM} {vs : List Nat} {t : Nat} {x : D} {xs : List D} {g g1 g2 g3 g4 g5 : G} {r : R} {d : D} {acc : List D} {o : Option G} (h0 : freeAll g vs = true) (h1 : tg x (wipeG g vs) = some g1) (h2 : tt g1 = some (true, g2)) (h3 : el g2 = some (r, g3)) (h4 : frzR r g3 = some (d, g4)) (h5 : g4[t]? = some (.own (.lst acc) false false)) (hz : acc.length < sizeLine)
    (hg : (g4.set t (.own (.lst (acc ++ [d])) false false)).take (t + 1) = g5) (k : lcL tg tt el vs t xs g5 = o) : lcL tg tt el vs t (x :: xs) g = o := by
  simp only [lcL, h0, h1, h2, h3, h4, h5, hz, hg, if_true, Option.bind_eq_bind, Option.bind_some]
  exact k
theorem lcL_no {tg : TD} {tt : ZT} {el : ZM} {vs : List Nat} {t : Nat} {x : D} {xs : List D} {g g1 g2 g5 : G} {o : Option G} (h0 : freeAll g vs = true) (h1 : tg x (wipeG g vs) = some g1) (h2 : tt g1 = some (false, g2)) (hg : g2.take (t + 1) = g5) (k : lcL tg tt el vs t xs g5 = o) : lcL tg tt el vs t (x :: xs) g = o := by
  simp only [lcL, h0, h1, h2, hg, if_true, Option.bind_eq_bind, Option.bind_some]
  exact k
theorem lcL_end {tg : TD} {tt : ZT} {el : ZM} {vs : List Nat} {t : Nat} {g : G} (h0 : freeAll g vs = true) : lcL tg tt el vs t [] g = some g := by
  simp only [lcL, h0, if_true]
theorem er_lc {mi : MI} {tg : TD} {tt : ZT} {el : ZM} {vs : List Nat} {g g1 g3 g4 : G} {L : List D} (h1 : mi g = some (L, none, g1)) (h2 : lcL tg tt el vs g1.length L (g1 ++ [Sl.own (.lst []) false false]) = some g3) (hg : wipeG g3 vs = g4) : zLc mi tg tt el vs g = some (.bor g1.length, g4) := by
  unfold zLc
  simp only [h1, h2, hg, Option.bind_eq_bind, Option.bind_some]
theorem er_orTF {s t : ZT} {g g1 g2 : G} {b1 b2 : Bool} (h1 : s g = some (b1, g1)) (hb : b1 = false) (h2 : t g1 = some (b2, g2)) : zOrT s t g = some (b2, g2) := by
  subst hb
  unfold zOrT; simp only [h1, Option.bind_eq_bind, Option.bind_some]
  rw [if_neg Bool.false_ne_true]
  exact h2
theorem er_andTT {s t : ZT} {g g1 g2 : G} {b1 b2 : Bool} (h1 : s g = some (b1, g1)) (hb : b1 = true) (h2 : t g1 = some (b2, g2)) : zAndT s t g = some (b2, g2) := by
  subst hb
  unfold zAndT; simp only [h1, Option.bind_eq_bind, Option.bind_some, if_true]
  exact h2
theorem sr_bk {β : Type} {kk : Option (Fl × G) → β} {OUT : β} {rest : SM} {g : G} (k : ap kk (some (.bk, g)) = OUT) : ap kk (zSeq zBk rest g) = OUT := k
end Z
set_option Elab.async false
set_option linter.all false
set_option maxRecDepth 100000
set_option maxHeartbeats 4000000
namespace Z
open PySem PySem.Spec PyProof.Rows L2
end Z
set_option Elab.async false
set_option linter.all false
set_option maxRecDepth 100000
set_option maxHeartbeats 4000000
namespace Z
open PySem PySem.Spec PyProof.Rows L2
def zFg (vs : List Nat) (s : SM) : SM := fun g => do
  let (fl, g1) ← s g
  match fl with
  | .ret r => some (.ret r, g1)
  | fl => if freeAll g1 vs = true then some (fl, wipeG g1 vs) else none
def zFgB (vs : List Nat) (s : SM) : SM := fun g => if freeAll g vs = true then s (wipeG g vs) else none
section
variable {X : Cx} {st : Stmt} {sts : List Stmt} {s : SM} {vs : List Nat}
theorem fg_of {D : Ends} {σ : L2.St} {H : Hp} {K : PySem.W.Frag} {n : Nat} (h : tZS K n (zFg vs s) D σ H) : tZS K n s D σ H := by
  obtain ⟨C, Hs, A, g, fl, g', hK, hn, ok, e, q⟩ := h
  unfold zFg at e
  simp only [Option.bind_eq_bind, Option.bind_eq_some_iff] at e
  obtain ⟨⟨fl1, g1⟩, h1, e⟩ := e
  refine ⟨C, Hs, A, g, fl1, g1, hK, hn, ok, h1, ?_⟩
  cases fl1 with
  | ret r => cases e; exact q
  | nx =>
    simp only at e
    split at e
    · rename_i hf; cases e; exact fun Hs' A' σ' H' s1 ok1 => q Hs' A' σ' H' s1 (ok1.puts hf rfl (fun _ _ => rfl))
    · cases e
  | bk =>
    simp only at e
    split at e
    · rename_i hf; cases e; exact fun Hs' A' σ' H' s1 ok1 => q Hs' A' σ' H' s1 (ok1.puts hf rfl (fun _ _ => rfl))
    · cases e
  | ct =>
    simp only at e
    split at e
    · rename_i hf; cases e; exact fun Hs' A' σ' H' s1 ok1 => q Hs' A' σ' H' s1 (ok1.puts hf rfl (fun _ _ => rfl))
    · cases e
theorem fgB_of {D : Ends} {σ : L2.St} {H : Hp} {K : PySem.W.Frag} {n : Nat} (h : tZS K n (zFgB vs s) D σ H) : tZS K n s D σ H := by
  obtain ⟨C, Hs, A, g, fl, g', hK, hn, ok, e, q⟩ := h
  unfold zFgB at e
  split at e
  · rename_i hf
    exact ⟨C, Hs, A, wipeG g vs, fl, g', hK, hn, ok.puts hf rfl (fun _ _ => rfl), e, q⟩
  · cases e
theorem zss_fg (h : ZSs X sts s) : ZSs X sts (zFg vs s) := PSs.of h fun D σ H h => fg_of h
theorem zs_fgB (h : ZS X st s) : ZS X st (zFgB vs s) := PS.of h fun D σ H h => fgB_of h
end
section
variable {g g1 g2 : G} {st s rest : SM} {r : R} {vs : List Nat}
/-- what follows a forgetting, told as one's end -/
def fgK {β : Type} (vs : List Nat) (kk : Option (Fl × G) → β) : Option (Fl × G) → β := fun o => kk (o.bind fun q => match q.1 with
  | .ret r => some (.ret r, q.2)
  | fl => if freeAll q.2 vs = true then some (fl, wipeG q.2 vs) else none)
theorem ap_fg {β : Type} {kk : Option (Fl × G) → β} {OUT : β} (k : ap (fgK vs kk) (s g) = OUT) : ap kk (zFg vs s g) = OUT := by
  have e : zFg vs s g = (s g).bind fun q => match q.1 with
    | .ret r => some (.ret r, q.2)
    | fl => if freeAll q.2 vs = true then some (fl, wipeG q.2 vs) else none := by
    unfold zFg
    cases s g with
    | none => rfl
    | some q => rfl
  rw [e]; exact k
theorem fgK_nx {β : Type} {kk : Option (Fl × G) → β} {OUT : β} (hf : freeAll g vs = true) (hg : wipeG g vs = g2) (k : kk (some (.nx, g2)) = OUT) : ap (fgK vs kk) (some (.nx, g)) = OUT := by
  show kk (if freeAll g vs = true then some (.nx, wipeG g vs) else none) = OUT
  rw [if_pos hf, hg]; exact k
theorem fgK_ct {β : Type} {kk : Option (Fl × G) → β} {OUT : β} (hf : freeAll g vs = true) (hg : wipeG g vs = g2) (k : kk (some (.ct, g2)) = OUT) : ap (fgK vs kk) (some (.ct, g)) = OUT := by
  show kk (if freeAll g vs = true then some (.ct, wipeG g vs) else none) = OUT
  rw [if_pos hf, hg]; exact k
theorem fgK_bk {β : Type} {kk : Option (Fl × G) → β} {OUT : β} (hf : freeAll g vs = true) (hg : wipeG g vs = g2) (k : kk (some (.bk, g2)) = OUT) : ap (fgK vs kk) (some (.bk, g)) = OUT := by
  show kk (if freeAll g vs = true then some (.bk, wipeG g vs) else none) = OUT
  rw [if_pos hf, hg]; exact k
theorem fgK_ret {β : Type} {kk : Option (Fl × G) → β} {OUT : β} (k : kk (some (.ret r, g)) = OUT) : ap (fgK vs kk) (some (.ret r, g)) = OUT := k
theorem fgB_run (hf : freeAll g vs = true) (hg : wipeG g vs = g1) {o : Option (Fl × G)} (h : s g1 = o) : zFgB vs s g = o := by
  unfold zFgB; rw [if_pos hf, hg]; exact h
theorem sr_ct {β : Type} {kk : Option (Fl × G) → β} {OUT : β} {rest : SM} {g : G} (k : ap kk (some (.ct, g)) = OUT) : ap kk (zSeq zCt rest g) = OUT := k
theorem sr_bk1 {β : Type} {kk : Option (Fl × G) → β} {OUT : β} {g : G} (k : ap kk (some (.bk, g)) = OUT) : ap kk (zBk g) = OUT := k
theorem sr_ct1 {β : Type} {kk : Option (Fl × G) → β} {OUT : β} {g : G} (k : ap kk (some (.ct, g)) = OUT) : ap kk (zCt g) = OUT := k
theorem sr_nx1 {β : Type} {kk : Option (Fl × G) → β} {OUT : β} {g : G} (k : ap kk (some (.nx, g)) = OUT) : ap kk (zNx g) = OUT := k
theorem wipeG_nil (g : G) : wipeG g [] = g := rfl
theorem wipeG_cons (g : G) (v : Nat) (vs : List Nat) : wipeG g (v :: vs) = (wipeG g vs).set v .un := rfl
theorem for_run {n : Nat} {mi : MI} {tg : TD} {L : List D} {o : Option (Fl × G)} (h1 : mi g = some (L, none, g)) (hg : g.take n = g) (h2 : forL tg st L g = o) : zFor n mi tg st g = o := for_none h1 hg h2
theorem er_andVT {ma mb : ZM} {g3 : G} {b1 b2 : Bool} (h1 : ma g = some (.dat (.bl b1), g1)) (hb : b1 = true) (h2 : mb g1 = some (.dat (.bl b2), g3)) : zAndV ma mb g = some (.dat (.bl b2), g3) := by
  subst hb
  unfold zAndV; simp only [h1, isB, h2, if_true, Option.bind_eq_bind, Option.bind_some]
theorem er_orVF {ma mb : ZM} {g3 : G} {b1 b2 : Bool} (h1 : ma g = some (.dat (.bl b1), g1)) (hb : b1 = false) (h2 : mb g1 = some (.dat (.bl b2), g3)) : zOrV ma mb g = some (.dat (.bl b2), g3) := by
  subst hb
  unfold zOrV; simp only [h1, isB, Option.bind_eq_bind, Option.bind_some]
  rw [if_neg Bool.false_ne_true]
  exact h2
/-- a call that hands out data with references within: what was handed in becomes data -/
theorem er_callGF {f : List D → Option FR} {mr : ZAr} {rs : List R} {ds : List D} {d : D} (h1 : mr g = some (rs, g1)) (h2 : rdAll g1 rs = some ds) (h2' : frzAll rs g1 = some (ds, g2)) (h3 : f ds = some (.dat d)) (hs : d.scal = false) : zCall f mr g = some (.dat d, g2) := by
  unfold zCall; simp only [h1, h2, h2', h3, hs, Option.bind_eq_bind, Option.bind_some]
  rfl
theorem er_callHF {f : List D → Option FR} {mr : ZAr} {rs : List R} {ds : List D} {c : Cn} (h1 : mr g = some (rs, g1)) (h2 : rdAll g1 rs = some ds) (h2' : frzAll rs g1 = some (ds, g2)) (h3 : f ds = some (.new c)) (hs : c.scal = false) : zCall f mr g = some (.bor g2.length, g2 ++ [.own c false false]) := by
  unfold zCall; simp only [h1, h2, h2', h3, hs, Option.bind_eq_bind, Option.bind_some]
  rfl
theorem forL_nx {tg : TD} {x : D} {xs : List D} {g3 : G} {o : Option (Fl × G)} (h1 : tg x g = some g1) (h2 : st g1 = some (.nx, g3)) (h3 : forL tg st xs g3 = o) : forL tg st (x :: xs) g = o := by
  simp only [forL, h1, h2, Option.bind_eq_bind, Option.bind_some]; exact h3
/-- what an item does: b whether it is taken, f what it becomes; base the slots without the new list -/
structure LcItem (tg : TD) (tt : ZT) (el : ZM) (vs : List Nat) (t : Nat) (base : G) (x : D) (b : Bool) (y : D) : Prop where
  run : ∀ acc : List D, ∃ h : G, h.length = t ∧ freeAll (h ++ [.own (.lst acc) false false]) vs = true ∧ (∀ o : Sl, wipeG (h ++ [o]) vs = base ++ [o]) ∧ (∀ o : Sl, freeAll (h ++ [o]) vs = true) ∧ tg x (base ++ [.own (.lst acc) false false]) = some (h ++ [.own (.lst acc) false false]) ∧
    tt (h ++ [.own (.lst acc) false false]) = some (b, h ++ [.own (.lst acc) false false]) ∧
    (b = true → ∃ r g3 g4, el (h ++ [.own (.lst acc) false false]) = some (r, g3) ∧ frzR r g3 = some (y, g4) ∧ g4[t]? = some (.own (.lst acc) false false) ∧ ∀ o : Sl, (g4.set t o).take (t + 1) = h ++ [o])
theorem lcL_fm {tg : TD} {tt : ZT} {el : ZM} {vs : List Nat} {t : Nat} {base : G} {b : D → Bool} {f : D → D} : ∀ {L : List D} (acc : List D) (h : G), h.length = t → (∀ o : Sl, wipeG (h ++ [o]) vs = base ++ [o]) → (∀ o : Sl, freeAll (h ++ [o]) vs = true) → acc.length + L.length ≤ sizeLine → (∀ x ∈ L, LcItem tg tt el vs t base x (b x) (f x)) →
    ∃ g3, lcL tg tt el vs t L (h ++ [.own (.lst acc) false false]) = some g3 ∧ wipeG g3 vs = base ++ [.own (.lst (acc ++ (L.filter b).map f)) false false]
  | [], acc, h, hl, hw, hf, _, _ => ⟨_, lcL_end (hf _), by rw [hw]; simp⟩
  | x :: L, acc, h, hl, hw, hf, hz, hx => by
    obtain ⟨h', q1, q2, q3, q4, q5, q6, q7⟩ := (hx x List.mem_cons_self).run acc
    have hx' : ∀ x ∈ L, LcItem tg tt el vs t base x (b x) (f x) := fun x h => hx x (List.mem_cons_of_mem _ h)
    simp only [List.length_cons] at hz
    cases hb : b x with
    | true =>
      obtain ⟨r, g3, g4, w1, w2, w3, w4⟩ := q7 hb
      obtain ⟨g5, x1, x2⟩ := lcL_fm (L := L) (acc ++ [f x]) h' q1 q3 q4 (by simp; omega) hx'
      refine ⟨g5, lcL_go (hf _) (by rw [hw]; exact q5) (by rw [q6, hb]) w1 w2 w3 (by omega) (w4 _) x1, ?_⟩
      rw [x2, List.filter_cons, hb, if_pos rfl]
      simp
    | false =>
      obtain ⟨g5, x1, x2⟩ := lcL_fm (L := L) acc h' q1 q3 q4 (by omega) hx'
      refine ⟨g5, lcL_no (hf _) (by rw [hw]; exact q5) (by rw [q6, hb]) (by rw [List.take_of_length_le (by simp [q1])]) x1, ?_⟩
      rw [x2, List.filter_cons, hb, if_neg Bool.false_ne_true]
/-- an item whose value is data -/
theorem lc_dat {tg : TD} {tt : ZT} {el : ZM} {vs : List Nat} {t : Nat} {base h : G} {x : D} {b : Bool} {y : D} (hl : h.length = t) (hw : ∀ o : Sl, wipeG (h ++ [o]) vs = base ++ [o]) (hf : ∀ o : Sl, freeAll (h ++ [o]) vs = true) (h1 : ∀ o : Sl, tg x (base ++ [o]) = some (h ++ [o])) (h2 : ∀ o : Sl, tt (h ++ [o]) = some (b, h ++ [o]))
    (h3 : b = true → ∀ o : Sl, el (h ++ [o]) = some (.dat y, h ++ [o])) : LcItem tg tt el vs t base x b y :=
  ⟨fun acc => ⟨h, hl, hf _, hw, hf, h1 _, h2 _, fun hb => ⟨_, _, _, h3 hb _, rfl, by rw [← hl]; simp, fun o => by rw [← hl, List.set_append_right _ _ (Nat.le_refl _)]; simp [List.take_of_length_le]⟩⟩⟩
theorem er_lc1 {mi : MI} {tg : TD} {tt : ZT} {el : ZM} {vs : List Nat} {g : G} {L : List D} {base h : G} {b : D → Bool} {f : D → D} (h1 : mi g = some (L, none, h)) (hw : ∀ o : Sl, wipeG (h ++ [o]) vs = base ++ [o]) (hf : ∀ o : Sl, freeAll (h ++ [o]) vs = true) (hz : L.length ≤ sizeLine) (hx : ∀ x ∈ L, LcItem tg tt el vs h.length base x (b x) (f x)) :
    zLc mi tg tt el vs g = some (.bor h.length, base ++ [.own (.lst ((L.filter b).map f)) false false]) := by
  obtain ⟨g3, x1, x2⟩ := lcL_fm (L := L) [] h rfl hw hf (by simpa using hz) hx
  rw [List.nil_append] at x2
  exact er_lc h1 x1 x2
end
theorem inL_ints (n : Int) : ∀ R : List Int, inL (.int n) (R.map D.int) = decide (n ∈ R)
  | [] => rfl
  | z :: R => by
    have := inL_ints n R
    unfold inL at this ⊢
    rw [List.map_cons, List.any_cons, this]
    show ((z == n) || _) = _
    by_cases h : z = n
    · subst h; simp
    · have : ¬ n = z := fun e => h e.symm
      simp [h, this]
theorem in_ints (n : Int) (R : List Int) : inD (.int n) (.lst (R.map D.int)) = some (.bl (decide (n ∈ R))) := by
  unfold inD
  show Option.map D.bl (if _ then _ else _) = _
  rw [if_pos (by simp [D.pl]), inL_ints]
  rfl
theorem cut_mem {α : Type} {T : List α} {lo hi : Option Int} {c : α} (h : c ∈ cutL T lo hi) : c ∈ T := List.mem_of_mem_drop (List.mem_of_mem_take h)
end Z
set_option Elab.async false
set_option linter.all false
set_option maxRecDepth 100000
set_option maxHeartbeats 4000000
namespace Z
open PySem PySem.Spec PyProof.Rows L2
structure FnA (P : Program) (w : World) (K : PySem.W.Frag) (mg : Str → Option Value) (base : Heap) (A : Around) (f : Addr) (fd : FuncData) (ps : List Str) (sp : Sp) : Prop where
  run : ∀ (out : List Env) (s : Shared) (H : Hp) (ar : Args) (us : List Value) (vs : List V) (Q : VK) (E : XK), Env0 P w K mg base A out s H → BindsTo s fd ar (ps.zip us) → Vals vs us → sp vs H Q E →
    codeAny (model P w) A (.call (.ref f) ar) (CR CX0 out P w H s Q E) s
section
variable {P : Program} {w : World} {K : PySem.W.Frag} {mg : Str → Option Value} {base : Heap}
/-- the reading of a body by runP, wherever it is called -/
theorem runP_reads {N ps : List Str} {s : SM} {vs : List V} {H : Hp} {Q : VK} {E : XK} (hp : ps.length ≤ N.length) (hs : spP K (runP N.length ps.length s) vs H Q E) : tZS K N.length s { nx := fun _ H' => Q .non H', rt := Q } (L2.start N vs) H ∧ vs.length = ps.length := by
  obtain ⟨Hs, ds, fr, sm, hz, e, q⟩ := hs
  unfold runP at e
  split at e
  · rename_i hl
    have hd : ds.length ≤ N.length := by omega
    refine ⟨?_, by rw [hz.length]; exact hl⟩
    split at e
    · rename_i r g' hr
      refine ⟨_, Hs, _, start0 N.length ds, .ret r, g', rfl, rfl, ok_start hd sm hz, hr, ?_⟩
      exact fun Hs' A' σ' H' v s1 ok1 rel1 => q v Hs' H' s1 (fun b o e => ok1.keep b o e (fun _ h => (List.not_mem_nil h).elim)) ok1.same ok1.grow (fin_ok ok1 rel1 e)
    · rename_i g' hr
      cases e
      refine ⟨_, Hs, _, start0 N.length ds, .nx, g', rfl, rfl, ok_start hd sm hz, hr, ?_⟩
      exact fun Hs' A' σ' H' s1 ok1 => q .non Hs' H' s1 (fun b o e => ok1.keep b o e (fun _ h => (List.not_mem_nil h).elim)) ok1.same ok1.grow .non
    · cases e
  · cases e
theorem okA {x qual : Str} {st : Stmt} {f : Addr} {fd : FuncData} {N ps : List Str} {k : Nat} {s : SM} {A : Around} (F : Fun K x qual st f fd) (S : FnScope N ps (defScope st)) (hA : Room (k + 1) A)
    (body : ∀ (cdv : Value) (out : List Env) (s0 : Shared) (H : Hp) (E : XK), Room k (A.deeper (envOfC qual (defScope st) s0.heap.objs.size f cdv)) → ZSs (cxOf CX0 P w K mg base N qual (defScope st) f cdv A out s0 H E).nox (defBody st) s) :
    FnA P w K mg base A f fd ps (spP K (runP N.length ps.length s)) := by
  obtain ⟨oc, od, kV, doc, pm, an, cdv, ct, osl, rfl, atf, hcode⟩ := F.ex
  have hpN : ps.length ≤ N.length := by
    have := congrArg List.length S.pre
    rw [List.length_take] at this
    omega
  constructor
  intro out s0 H ar us vs Q E e0 hbd rel hs
  obtain ⟨reads, lv⟩ := runP_reads hpN hs
  have inK : K.In s0.heap := e0.mod.kin.keeps fun c u z => (e0.bs c u z).1
  have noL : s0.heap.NoLimit := e0.mod.nolimit.keeps fun c u z => (e0.bs c u z).1
  have kinds : ∀ y ∈ ps.zip us, (defScope st).names.lookup y.1 = some .local ∨ ((defScope st).names.lookup y.1 = some .cell ∧ ((cellsFrom (s0.heap.objs.size + 1) (defScope st).names []).lookup y.1).isSome = true) := by
    rintro ⟨n, u⟩ hy
    exact (S.par n (List.of_mem_zip hy).1).imp id fun c => ⟨c, PySem.W.cellsFrom_some _ _ _ (.inl c)⟩
  apply codeAny_call_function hA.depth (inK _ _ atf) rfl S.co S.gen rfl (PySem.W.codeRec_of inK hcode)
  apply hbd
  apply wpAny_newFunctionEnv_cells S.kind kinds
  rintro env rfl s1 new
  refine ⟨noL.keeps new.toInCall.keep, ?_⟩
  apply codeAny_func
  have I0 : Inv (cxOf CX0 P w K mg base N qual (defScope st) f cdv A out s0 H E) [] (L2.start N vs) H s1 := inv_start S hA.hd e0 lv rel new
  have B := (body cdv out s0 H E (hA.deeper _)).nox
  apply wpAny_mono (B.run [] s1 (L2.start N vs) H _ I0 reads)
  · intro fl s2 hfl
    cases fl with
    | ret u =>
      obtain ⟨v, σ2, H2, J, rv, q⟩ := hfl
      exact ⟨v, H2, J.os, J.bare, J.base, J.hok, rv, q⟩
    | next =>
      obtain ⟨σ2, H2, J, q⟩ := hfl
      exact ⟨V.non, H2, J.os, J.bare, J.base, J.hok, rfl, q⟩
    | brk => obtain ⟨_, _, _, q⟩ := hfl; cases q
    | cont => obtain ⟨_, _, _, q⟩ := hfl; cases q
  · exact fun e s2 z => z
end
theorem law_callA {P : Program} {w : World} {K : PySem.W.Frag} {mg mb : Str → Option Value} {fa a : Addr} {fd : FuncData} {x : Str} {f : List D → Option FR} {s1 : Shared} {vs : List Value} {ns : List Int}
    (kin : K.In s1.heap) (gns : s1.heap.Ns mainGlobals mg) (bns : s1.heap.Ns builtinsNs mb) (bbo : ∀ y : Str, y ≠ "__name__" → mb y = bootBuiltins y) (nol : s1.heap.NoLimit) (gens : s1.gens = #[])
    (obj : s1.heap.get? a = some { cls := .type "list", data := .seq vs.toArray }) (hint : IntsAre vs ns) (small : ns.length ≤ sizeLine)
    (nod : s1.heap.NoDigits) (F : ∀ base : Heap, K.In base → base.Ns mainGlobals mg → base.NoDigits → FnA P w K mg base callerA fa fd [x] (spP K f)) (bnd : ∀ (s : Shared) (u : Value), BindsTo s fd ⟨[u], []⟩ [(x, u)])
    (good : f [scriptD ns] = some (.dat (.bl true))) :
    codeAny (model P w) callerA (.call (.ref fa) ⟨[.ref a], []⟩) (fun r s2 => r = .ok (.ret (.bool true)) ∧ OldK s1.heap s2.heap ∧ s2.os = s1.os ∧ AllBare s2.gens) s1 := by
  have relV := vals_ints hint
  -- the heap that is known: nothing, or the script
  obtain ⟨H, only, seq, hok, atA, notK⟩ : ∃ H : Hp, Only H ∧ SqL K H a (ns.map V.int) ∧ HOk P w H s1.heap ∧ (∀ b, H b ≠ none → b = a) ∧ (H a ≠ none → K.lookup a = none) := by
    cases look : K.lookup a with
    | some o =>
      have same := kin a o look
      rw [obj] at same
      cases same
      exact ⟨fun _ => none, fun _ => .inl rfl, .inr ⟨_, vs.toArray, _, look, rfl, rfl, rfl, by rw [List.size_toArray, hint.length]; exact small, by simpa using relV⟩, fun b u z => by simp at z, fun b z => absurd rfl z, fun z => absurd rfl z⟩
    | none =>
      refine ⟨upd (fun _ => none) a (.frz { cls := .type "list", data := .seq vs.toArray } (.lst (ns.map V.int))), fun b => ?_, .inl (.inr ⟨_, upd_same⟩), fun b u z => ?_, fun b z => ?_, fun _ => rfl⟩
      · by_cases e : b = a
        · subst e; exact .inr ⟨_, _, upd_same⟩
        · exact .inl (upd_ne e)
      · by_cases e : b = a
        · subst e
          rw [upd_same] at z
          cases z
          exact ⟨obj, by rw [List.length_map]; exact small, vs, _, relV, obj⟩
        · rw [upd_ne e] at z; cases z
      · by_cases e : b = a
        · exact e
        · exact absurd (upd_ne e) z
  have stays : ∀ {b : Addr} {m : Str → Option Value}, s1.heap.Ns b m → (hidT s1.heap H).Ns b m := by
    rintro b m ⟨o, es, ep, e, d, r⟩
    refine ⟨o, es, ep, hidT_get e ?_, d, r⟩
    cases q : H b with
    | none => rfl
    | some u =>
      have := atA b (by simp [q])
      subst this
      rw [obj] at e
      cases e
      cases d
  have kin0 : K.In (hidT s1.heap H) := by
    intro b o e
    refine hidT_get (kin b o e) ?_
    cases q : H b with
    | none => rfl
    | some u =>
      have := atA b (by simp [q])
      subst this
      rw [notK (by simp [q])] at e
      cases e
  obtain ⟨ml, l1, l2⟩ := nol
  have env : Env0 P w K mg (hidT s1.heap H) callerA [] s1 H :=
    ⟨rfl, ⟨kin0, stays gns, ⟨mb, stays bns, bbo⟩, ⟨ml, stays l1, l2⟩⟩, fun b o e => of_hidT e, Nat.le_of_eq (hidT_size _ _), trivial, fun b hb => absurd (show b ∈ ([] : List Addr) from hb) List.not_mem_nil, hok, .of_eq gens⟩
  obtain ⟨md, d1, d2⟩ := nod
  have ran := (F _ kin0 (stays gns) ⟨md, stays d1, d2⟩).run [] s1 H ⟨[.ref a], []⟩ [.ref a] [.ref a] _ _ env (bnd s1 (.ref a)) (.cons rfl .nil) (law_sp seq good)
  apply codeAny_mono ran
  intro r s2 end2
  match r, end2 with
  | .ok (.ret u), end2 =>
    obtain ⟨v, H2, os, bare, un, hok2, rv, q⟩ := end2
    have ev : v = .bl true := q
    subst ev
    have eu : u = Value.bool true := rv
    subst eu
    refine ⟨rfl, OldK.of_keep ?_, os, bare⟩
    intro b o e
    rcases only b with z | ⟨ob, xs, z⟩
    · exact un.keep b o e z (fun y => absurd (show b ∈ ([] : List Addr) from y) List.not_mem_nil) List.not_mem_nil
    · obtain ⟨e1, _⟩ := hok b _ z
      obtain ⟨e2, _⟩ := hok2 b _ (un.frzs b ob _ z)
      rw [e] at e1
      cases e1
      exact e2
  | .ok .next, z => exact z.elim
  | .ok .brk, z => exact z.elim
  | .ok .cont, z => exact z.elim
  | .error e, z => exact z.elim
theorem walk_ofA {l : PySem.W.OpenLaw} {n : Nat} {q : Program} {loose : List Str} {XP : (Str → Option Value) → Heap → Prop} {YP : World → Heap → Prop} {d : DefRec} {K : Params → PySem.W.Frag} {f : List D → Option FR} {x : Str}
    (most : l.most = some n) (small : n ≤ sizeLine) (plain : d.params.defaults = []) (hY : ∀ (w : World) (h : Heap), YP w h → (K w.params).In h)
    (F : ∀ (w : World) (mg : Str → Option Value) (fa : Addr) (h : Heap), (K w.params).In h → h.Ns mainGlobals mg → mg d.name = some (.ref fa) →
      ∃ fd : FuncData, (∀ (s : Shared) (u : Value), BindsTo s fd ⟨[u], []⟩ [(x, u)]) ∧ ∀ base : Heap, (K w.params).In base → base.Ns mainGlobals mg → base.NoDigits → FnA l.prog w (K w.params) mg base callerA fa fd [x] (spP (K w.params) f))
    (good : ∀ ns : List Int, ns.length ≤ n → f [scriptD ns] = some (.dat (.bl true))) :
    PySem.W.WalkO q loose XP YP l.row.toRowW d [] (fun f vs => PySem.call f vs) := by
  apply Att.attach_call most plain
  intro w s0 s1 mg mb fa o pm cd doc a vs ns Gr Y ho hd hcd hmg hobj hints hlen hg
  obtain ⟨fd, hb, hF⟩ := F w mg fa _ (hY w _ Y) Gr.T.g hmg
  exact law_callA (hY w _ Y) Gr.T.g Gr.T.b Gr.T.builtins Gr.T.nolimit hg hobj hints (Nat.le_trans hlen small) Gr.T.nodigits hF hb (good ns hlen)
def isRef : D → Bool
  | .lst _ => true
  | .tup _ => true
  | _ => false
def shownD (d : D) : List Nat := d.py.shown.cps.toList
def reprOk (d : D) : Bool := isRef d && d.py.canLay0 && d.py.showable && decide (d.py.depth ≤ 64) && decide (d.py.shown.length ≤ sizeLine)
def reprD : List D → Option D
  | [d] => if reprOk d = true then some (.str (shownD d)) else none
  | _ => none
mutual
theorem D.noDict : ∀ d : D, d.py.canLay0 = true → d.py.hasDict = false
  | .non, _ => rfl
  | .bl _, _ => rfl
  | .int _, _ => rfl
  | .str _, _ => rfl
  | .raw _, h => by cases h
  | .dic _ _, h => by cases h
  | .tup l, h => D.noDictA l h
  | .lst l, h => D.noDictA l h
theorem D.noDictA : ∀ l : List D, PyData.canLayAll0 (D.pyA l) = true → PyData.hasDictAll (D.pyA l) = false
  | [], _ => rfl
  | d :: l, h => by
    have h : (PyData.canLay0 d.py && PyData.canLayAll0 (D.pyA l)) = true := h
    rw [Bool.and_eq_true] at h
    show (PyData.hasDict d.py || PyData.hasDictAll (D.pyA l)) = false
    rw [D.noDict d h.1, D.noDictA l h.2]
    rfl
end
def rRepr (K : PySem.W.Frag) : List V → Hp → VK → Prop := fun xs H Q => ∃ (a : Addr) (d : PyData), xs = [.ref a] ∧ Dp K H (.ref a) d ∧ d.showable = true ∧ d.hasDict = false ∧ d.depth ≤ 64 ∧ d.shown.length ≤ sizeLine ∧ Q (.str d.shown) H
theorem call_reprD {X : Cx} (free : X.A.guards = some []) (room : X.A.units + 100 < cLine) : CallR X (.builtin "repr") (rRepr X.K) := by
  intro pins s σ H xs us Q I r h
  obtain ⟨a, d, rfl, dp, sh, nd, dep, siz, q⟩ := h
  obtain ⟨u, rfl, ru⟩ := vals1 r
  obtain ⟨as, rd⟩ := Dp.reads I d _ u dp ru
  have eu : u = .ref a := ru
  subst eu
  exact repr_of_reads' rd sh (PyData.noDict_hsm nd) free (by omega) (fun _ _ e => e) (fun h' u tk hk => ⟨.str _, H, I.kept hk, ⟨_, rfl⟩, q⟩) siz
theorem call_reprR {X : Cx} {k : Nat} (free : X.A.guards = some []) (room : Room k X.A) : CallR X (.builtin "repr") (rRepr X.K) := call_reprD free (by have := room.un; omega)
theorem s_repr {K : PySem.W.Frag} : CallS K (rRepr K) reprD := by
  intro H vs ds z Q hz e q
  unfold reprD at e
  split at e
  · rename_i d
    split at e
    · rename_i ok
      cases e
      unfold reprOk at ok
      simp only [Bool.and_eq_true, decide_eq_true_eq] at ok
      obtain ⟨⟨⟨⟨o1, o2⟩, o3⟩, o4⟩, o5⟩ := ok
      cases hz with
      | cons h t =>
        cases t
        have dp := h.dp o2
        have ref : ∃ a, ‹V› = V.ref a := by
          cases h with
          | lst _ _ => exact ⟨_, rfl⟩
          | tup _ _ => exact ⟨_, rfl⟩
          | _ => cases o1
        obtain ⟨a, rfl⟩ := ref
        refine ⟨a, d.py, rfl, dp, o3, D.noDict d o2, o4, o5, ?_⟩
        have : (D.str (shownD d)).v = V.str d.py.shown := by
          show V.str ⟨d.py.shown.cps.toList.toArray⟩ = _
          rw [Array.toArray_toList]
        rw [← this]
        exact q
    · cases e
  · cases e
end Z
set_option Elab.async false
set_option linter.all false
set_option maxRecDepth 100000
set_option maxHeartbeats 4000000
namespace Z
open PySem PySem.Spec PyProof.Rows L2
local macro_rules | `(tactic| walk_at "l") => `(tactic| first | (simp only [wipeG_nil, wipeG_cons, List.set_cons_succ, List.set_cons_zero, List.take_succ_cons, List.take_zero, List.take_nil, List.cons_append, List.nil_append, List.length_cons, List.length_nil, List.set_nil, List.getElem?_cons_zero, List.getElem?_cons_succ, Nat.zero_add, Nat.reduceAdd]; first | done | exact rfl) | exact rfl)
local macro_rules | `(tactic| walk_at "d") => `(tactic| first
  | with_reducible assumption
  | (with_reducible apply dr_div) <;> decide
  | (with_reducible apply dr_mod) <;> decide
  | (with_reducible apply dr_mulr); decide
  | (with_reducible apply dr_mull); decide
  | (with_reducible apply dr_divB) <;> omega
  | (with_reducible apply dr_mulrB) <;> omega
  | (with_reducible apply dr_mullB) <;> omega
  | (with_reducible apply dr_mulC) <;> omega
  | (with_reducible apply dr_mod) <;> omega
  | (with_reducible refine isi_of ?_ ?_); (exact rfl); (first | exact kb_int_int | exact kb_int_bool | exact kb_bool_bool | exact kb_bool_int | exact kb_str_int | exact kb_str_bool | exact kb_str_str | exact kb_int_str | exact kb_bool_str | exact kb_non_int | exact kb_non_bool | exact kb_non_str | exact kb_list_list | exact kb_tuple_tuple | exact kb_list_tuple | exact kb_tuple_list)
  | with_reducible exact dr_abs
  | (with_reducible exact dr_neL _ _)
  | (simp only [Cn.d]; with_reducible assumption)
  | (simp only [Cn.d]; with_reducible exact dr_neL _ _)
  | with_reducible exact in_ints _ _
  | (simp only [Cn.d]; with_reducible exact in_ints _ _)
  | ((with_reducible apply dr_cat); (try simp only [List.length_append, List.length_cons, List.length_nil]); omega)
  | with_reducible exact dr_eqI
  | with_reducible exact dr_eqB
  | with_reducible exact dr_neB
  | with_reducible exact dr_eqS
  | with_reducible exact dr_neI
  | with_reducible exact dr_neS
  | exact rfl)
local macro_rules | `(tactic| walk_at "c") => `(tactic| first | with_reducible assumption | (simp only [Cn.d]; with_reducible assumption))
local macro_rules | `(tactic| walk_at "e") => `(tactic| first
  | with_reducible exact er_C
  | with_reducible exact er_nil
  | (with_reducible apply er_varD); exact rfl
  | (with_reducible apply er_varO); exact rfl
  | (with_reducible apply er_varF); exact rfl
  | (with_reducible apply er_op); walk_at "e"; walk_at "e"; exact rfl; exact rfl; walk_at "d"; exact rfl
  | (with_reducible apply er_chain); walk_at "e"; walk_at "e"; exact rfl; exact rfl; walk_at "d"; (intro _h; walk_at "e"); exact rfl; walk_at "d"
  | (with_reducible apply er_slS); walk_at "e"; walk_at "o"; walk_at "o"; exact rfl; walk_at "z"
  | (with_reducible apply er_slL); walk_at "e"; walk_at "o"; walk_at "o"; exact rfl
  | (with_reducible apply er_list); walk_at "e"; exact rfl; exact rfl
  | (with_reducible apply er_tupL); walk_at "e"; exact rfl
  | (with_reducible apply er_un); walk_at "e"; exact rfl; exact rfl; exact rfl
  | (with_reducible apply er_tst); walk_at "e"
  | (with_reducible apply er_tru); walk_at "e"; exact rfl; exact rfl
  | (with_reducible apply er_andT); walk_at "e"; (intro _h; walk_at "e")
  | (with_reducible apply er_orT); walk_at "e"; (intro _h; walk_at "e")
  | (with_reducible apply er_andTT); walk_at "e"; exact rfl; walk_at "e"
  | (with_reducible apply er_orTF); walk_at "e"; exact rfl; walk_at "e"
  | (with_reducible apply er_notT); walk_at "e"
  | (with_reducible apply er_andV); walk_at "e"; (intro _h; walk_at "e")
  | (with_reducible apply er_orV); walk_at "e"; (intro _h; walk_at "e")
  | (with_reducible apply er_notV); walk_at "e"
  | (with_reducible apply er_andVT); walk_at "e"; exact rfl; walk_at "e"
  | (with_reducible apply er_orVF); walk_at "e"; exact rfl; walk_at "e"
  | (with_reducible apply er_ix); walk_at "e"; walk_at "e"; exact rfl; walk_at "x"
  | (with_reducible apply er_callS); walk_at "e"; exact rfl; walk_at "d"; exact rfl
  | (with_reducible apply er_cons); walk_at "e"; walk_at "e"
  | (with_reducible apply er_callG); walk_at "e"; exact rfl; exact rfl; walk_at "c"; exact rfl
  | (with_reducible apply er_callH); walk_at "e"; exact rfl; exact rfl; walk_at "c"; exact rfl
  | (with_reducible apply er_callV); walk_at "e"; exact rfl; walk_at "c"; exact rfl
  | (with_reducible apply er_callGF); walk_at "e"; exact rfl; exact rfl; walk_at "c"; exact rfl
  | (with_reducible apply er_callHF); walk_at "e"; exact rfl; exact rfl; walk_at "c"; exact rfl
  | (with_reducible apply er_callM); walk_at "e"; exact rfl; exact rfl; exact rfl; exact rfl; exact rfl; walk_at "c"; exact rfl
  | (with_reducible apply er_catL); walk_at "e"; walk_at "e"; exact rfl; exact rfl; walk_at "z"
  | (with_reducible apply er_mt); walk_at "e"; exact rfl; exact rfl; walk_at "e"; exact rfl; exact rfl; walk_at "m"; exact rfl
  | (with_reducible apply er_tup); walk_at "e"; exact rfl; walk_at "z" 
  | (with_reducible apply er_lst); walk_at "e"; exact rfl; walk_at "z")
local macro_rules | `(tactic| walk_at "o") => `(tactic| first | exact er_zoN | ((with_reducible apply er_zoS); walk_at "e"))
local macro_rules | `(tactic| walk_at "x") => `(tactic| first | with_reducible assumption | (simp only [Cn.d]; with_reducible assumption) | exact rfl)
local macro_rules | `(tactic| walk_at "m") => `(tactic| first | with_reducible assumption | (simp only [Cn.d]; with_reducible assumption) | exact rfl)
local macro_rules | `(tactic| walk_at "st") => `(tactic| first
  | ((with_reducible apply set_dat); (walk_at "e"); (exact rfl); walk_at "l")
  | ((with_reducible apply set_own); (walk_at "e"); (exact Nat.le_of_ble_eq_true rfl); (exact rfl); (exact rfl); walk_at "l")
  | ((with_reducible apply asg_run); (walk_at "e"); (exact rfl); walk_at "l")
  | ((with_reducible apply aug_run); (exact rfl); (exact rfl); (walk_at "e"); (exact rfl); (walk_at "d"); (exact rfl); (exact rfl); walk_at "l")
  | ((with_reducible apply sto_run); (walk_at "e"); (walk_at "e"); (walk_at "e"); (exact rfl); (walk_at "x"); walk_at "l")
  | ((with_reducible apply app_run); (walk_at "e"); (exact rfl); (walk_at "e"); (exact rfl); (exact rfl); (walk_at "z"); walk_at "l"))
local macro_rules | `(tactic| walk_at "z") => `(tactic| first | assumption | exact Nat.le_of_ble_eq_true rfl | (simp; omega))
local macro_rules | `(tactic| walk_at "s") => `(tactic| first
  | with_reducible apply sr_nx
  | with_reducible apply sr_assoc
  | with_reducible apply ap_fg
  | ((with_reducible apply fgK_nx); (exact rfl); (walk_at "l"); skip)
  | ((with_reducible apply fgK_ct); (exact rfl); (walk_at "l"); skip)
  | ((with_reducible apply fgK_bk); (exact rfl); (walk_at "l"); skip)
  | with_reducible apply fgK_ret
  | with_reducible apply sr_bk1
  | with_reducible apply sr_ct1
  | with_reducible apply sr_nx1
  | with_reducible apply sr_ct
  | with_reducible apply sr_bk
  | (with_reducible apply sr_retS); (walk_at "e"); skip
  | (with_reducible apply sr_ret); (walk_at "e"); skip
  | (with_reducible apply sr_if); (walk_at "e"); (walk_at "l")
  | (with_reducible apply sr_if1); (walk_at "e"); (walk_at "l")
  | (with_reducible apply seq_nx); (walk_at "st")
  | (with_reducible apply one_nx); (walk_at "st"))
local macro_rules | `(tactic| walk_at "r") => `(tactic| repeat' (first | (intro _) | walk_at "s"))
local macro_rules | `(tactic| walk_at "k") => `(tactic| (intro q; (try simp only [decide_eq_true_eq, decide_eq_false_iff_not, beq_iff_eq, beq_eq_false_iff_ne, ne_eq, Bool.not_eq_true', Bool.not_eq_false', Bool.and_eq_true, Bool.or_eq_true, Bool.and_eq_false_iff, Bool.or_eq_false_iff, Int.not_lt, Int.not_le, List.cons.injEq, and_true, reduceCtorEq, beq_self_eq_true, Bool.not_true, Bool.not_false, Bool.or_false, Bool.false_or, Bool.or_true, Bool.true_or, Bool.and_false, Bool.false_and, Bool.and_true, Bool.true_and, not_true_eq_false, Bool.false_eq_true] at q) <;> (try (exfalso; first | (cases q; done) | omega | contradiction))))
local macro_rules | `(tactic| walk_at "w") => `(tactic| repeat' (first | (walk_at "k") | walk_at "s"))
mutual
def D.rok : D → Bool
  | .non => true
  | .bl _ => true
  | .int i => decide (i.natAbs < 10 ^ 60)
  | .str s => s.all fun c => decide (c < 1114112)
  | .raw _ => false
  | .dic _ _ => false
  | .tup l => D.rokA l
  | .lst l => D.rokA l
def D.rokA : List D → Bool
  | [] => true
  | d :: l => d.rok && D.rokA l
end
mutual
def D.wt : D → Nat
  | .str s => s.length
  | .int _ => 200
  | .tup l => D.wtA l
  | .lst l => D.wtA l
  | _ => 0
def D.wtA : List D → Nat
  | [] => 0
  | d :: l => d.wt + 1 + D.wtA l
end
mutual
def D.dp : D → Nat
  | .tup l => D.dpA l + 1
  | .lst l => D.dpA l + 1
  | _ => 0
def D.dpA : List D → Nat
  | [] => 0
  | d :: l => max d.dp (D.dpA l)
end
theorem big60 {i : Int} (h : i.natAbs < 10 ^ 60) : i.natAbs.log2 < 200 := by
  by_cases z : i.natAbs = 0
  · rw [z]; decide
  · rw [Nat.log2_lt z]
    exact Nat.lt_trans h (by decide)
mutual
theorem rok_lay : ∀ d : D, d.rok = true → d.py.canLay0 = true ∧ d.py.showable = true ∧ d.py.intsShort 61 = true ∧ d.py.depth = d.dp ∧ d.py.weight ≤ d.wt
  | .non, _ => ⟨rfl, rfl, rfl, rfl, Nat.le_refl _⟩
  | .bl _, _ => ⟨rfl, rfl, rfl, rfl, Nat.le_refl _⟩
  | .int i, h => by
    have h : i.natAbs < 10 ^ 60 := of_decide_eq_true h
    have l := big60 h
    refine ⟨rfl, decide_eq_true (by omega), decide_eq_true ?_, rfl, ?_⟩
    · have e := int_text_length_le10 (k := 60) (by decide) h
      show (Str.ofString (toString i)).length ≤ 61
      rw [PySem.ofString_length]
      exact e
    · show (if (i == 0) = true then 0 else i.natAbs.log2 + 1) ≤ 200
      split <;> omega
  | .str s, h => by
    have h : (s.all fun c => decide (c < 1114112)) = true := h
    refine ⟨?_, rfl, rfl, rfl, ?_⟩
    · show PyData.strOk ⟨s.toArray⟩ = true
      simpa [PyData.strOk] using h
    · show s.toArray.size ≤ s.length
      simp
  | .raw _, h => by cases h
  | .dic _ _, h => by cases h
  | .tup l, h => by
    obtain ⟨a, b, c, d, e⟩ := rok_layA l h
    exact ⟨a, b, c, by show PyData.depthAll _ + 1 = D.dpA l + 1; rw [d], e⟩
  | .lst l, h => by
    obtain ⟨a, b, c, d, e⟩ := rok_layA l h
    exact ⟨a, b, c, by show PyData.depthAll _ + 1 = D.dpA l + 1; rw [d], e⟩
theorem rok_layA : ∀ l : List D, D.rokA l = true → PyData.canLayAll0 (D.pyA l) = true ∧ PyData.showableAll (D.pyA l) = true ∧ PyData.intsShortAll 61 (D.pyA l) = true ∧ PyData.depthAll (D.pyA l) = D.dpA l ∧ PyData.weightAll (D.pyA l) ≤ D.wtA l
  | [], _ => ⟨rfl, rfl, rfl, rfl, Nat.le_refl _⟩
  | d :: l, h => by
    have h : (d.rok && D.rokA l) = true := h
    rw [Bool.and_eq_true] at h
    obtain ⟨a1, b1, c1, d1, e1⟩ := rok_lay d h.1
    obtain ⟨a2, b2, c2, d2, e2⟩ := rok_layA l h.2
    refine ⟨?_, ?_, ?_, ?_, ?_⟩
    · show (PyData.canLay0 d.py && PyData.canLayAll0 (D.pyA l)) = true
      rw [a1, a2]; rfl
    · show (PyData.showable d.py && PyData.showableAll (D.pyA l)) = true
      rw [b1, b2]; rfl
    · show (PyData.intsShort 61 d.py && PyData.intsShortAll 61 (D.pyA l)) = true
      rw [c1, c2]; rfl
    · show max (PyData.depth d.py) (PyData.depthAll (D.pyA l)) = max d.dp (D.dpA l)
      rw [d1, d2]
    · show PyData.weight d.py + 1 + PyData.weightAll (D.pyA l) ≤ d.wt + 1 + D.wtA l
      omega
end
theorem rok_shp {d : D} (h : d.rok = true) (h2 : d.dp ≤ 60) : d.shp = true := by
  obtain ⟨a, _, _, e, _⟩ := rok_lay d h
  show (d.py.canLay0 && decide (d.py.depth ≤ 64)) = true
  rw [a, e, decide_eq_true (by omega)]
  rfl
theorem rok_repr {d : D} (r : isRef d = true) (h : d.rok = true) (h2 : d.dp ≤ 60) (h3 : d.wt ≤ 100000) : reprOk d = true := by
  obtain ⟨a, b, c, e, w⟩ := rok_lay d h
  have s := PyData.shown_le 61 (by decide) d.py (PyData.leavesShort_of_canLay0 61 d.py a c)
  have m : (61 + 2) * d.py.weight ≤ (61 + 2) * 100000 := Nat.mul_le_mul_left _ (by omega)
  have z : (7000000 : Nat) ≤ sizeLine := by decide
  unfold reprOk
  rw [r, a, b, decide_eq_true (show d.py.depth ≤ 64 by omega), decide_eq_true (show d.py.shown.length ≤ sizeLine by omega)]
  rfl
theorem dr_repr {d : D} (h : reprOk d = true) : reprD [d] = some (.str (shownD d)) := by
  unfold reprD
  simp only [h, if_true]
theorem dr_neR {d e : D} (h : d.rok = true) (h2 : d.dp ≤ 60) (k : e.rok = true) (k2 : e.dp ≤ 60) : neqD d e = some (.bl (!D.eqv d e)) := by
  unfold neqD neOk
  rw [rok_shp h h2, rok_shp k k2]
  simp
/-- flat lists -/
def D.flat (d : D) : Prop := d.rok = true ∧ d.scal = true ∧ d.wt ≤ 200
theorem flats_rok : ∀ {l : List D}, (∀ d ∈ l, D.flat d) → D.rokA l = true ∧ D.dpA l = 0 ∧ D.wtA l ≤ 201 * l.length
  | [], _ => ⟨rfl, rfl, Nat.le_refl _⟩
  | d :: l, h => by
    obtain ⟨a, b, c⟩ := flats_rok (l := l) fun x hx => h x (List.mem_cons_of_mem _ hx)
    obtain ⟨a1, b1, c1⟩ := h d List.mem_cons_self
    refine ⟨?_, ?_, ?_⟩
    · show (d.rok && D.rokA l) = true
      rw [a1, a]; rfl
    · show max d.dp (D.dpA l) = 0
      have : d.dp = 0 := by cases d <;> first | rfl | cases b1
      rw [this, b]; rfl
    · show d.wt + 1 + D.wtA l ≤ 201 * (l.length + 1)
      omega
theorem to_eqR {α : Type} {o : Option α} {p p' : α} (h : o = some p) (e : p = p') : o = some p' := by rw [h, e]
theorem txs_signs' : ∀ acc : List Nat, txsD (acc.map fun c => D.str [c]) = some (acc.map fun c => [c])
  | [] => rfl
  | c :: r => by simp only [List.map_cons, txsD, txs_signs' r, Option.bind_eq_bind, Option.bind_some]
theorem join_signs' : ∀ acc : List Nat, TL.joinL [] (acc.map fun c => [c]) = acc
  | [] => rfl
  | [c] => rfl
  | c :: d :: r => by
    have := join_signs' (d :: r)
    simp only [List.map_cons, TL.joinL, List.nil_append] at this ⊢
    rw [this]
    rfl
theorem sum_signs' : ∀ acc : List Nat, ((acc.map fun c => [c]).map List.length).sum = acc.length
  | [] => rfl
  | c :: r => by
    have := sum_signs' r
    simp only [List.map_cons, List.sum_cons, List.length_cons, List.length_nil] at this ⊢
    omega
theorem dr_joinS (acc : List Nat) (h : acc.length ≤ 100000) : joinD (.str []) [.lst (acc.map fun c => D.str [c])] = some (.str acc) := by
  have : (100000 : Nat) ≤ sizeLine := by decide
  simp only [joinD, txs_signs', Option.bind_eq_bind, Option.bind_some, sum_signs', join_signs', List.length_nil, Nat.mul_zero, Nat.add_zero]
  rw [if_pos (by omega)]
/-- a sign from the blank to the tilde, but not the percent sign -/
def sg (c : Nat) : Prop := 32 ≤ c ∧ c ≤ 126 ∧ c ≠ 37
instance (c : Nat) : Decidable (sg c) := by unfold sg; exact inferInstance
/-- a drawn value: None, a bool, an int, a text of such signs -/
def DV (v : D) : Prop := match v with
  | .non => True
  | .bl _ => True
  | .int i => i.natAbs < 10 ^ 60
  | .str t => t.length ≤ 200 ∧ ∀ c ∈ t, sg c
  | _ => False
theorem DV.flat {v : D} (h : DV v) : D.flat v := by
  cases v with
  | non => exact ⟨rfl, rfl, by decide⟩
  | bl b => exact ⟨rfl, rfl, by simp [D.wt]⟩
  | int i => exact ⟨decide_eq_true h, rfl, Nat.le_refl _⟩
  | str t =>
    obtain ⟨h1, h2⟩ := (show t.length ≤ 200 ∧ ∀ c ∈ t, sg c from h)
    refine ⟨?_, rfl, h1⟩
    show (t.all fun c => decide (c < 1114112)) = true
    rw [List.all_eq_true]
    intro c hc
    have := h2 c hc
    unfold sg at this
    exact decide_eq_true (by omega)
  | tup _ => exact h.elim
  | lst _ => exact h.elim
  | raw _ => exact h.elim
  | dic _ _ => exact h.elim
end Z
set_option Elab.async false
set_option linter.all false
set_option maxRecDepth 100000
set_option maxHeartbeats 4000000
namespace Z
open PySem PySem.Spec PyProof.Rows L2
end Z
set_option Elab.async false
set_option linter.all false
set_option maxRecDepth 100000
set_option maxHeartbeats 4000000
namespace Z
open PySem PySem.Spec PyProof.Rows L2
section
open PySem.SeqAt PySem.MeetsSeq PySem.MeetsSeq2 PySem.MeetsSeq3 Ob
open PySem.AutoSeq1 (wpAny_loadPart')
theorem tup_meet (p q : Addr) (us ws : Array Value) (n m : Nat) (c1 c2 : Option Addr) (t1 t2 : Array (Option Value)) (e r : Nat → Bool) :
    Meets (Builtin.«tuple.__lt__» ⟨[.ref p, .ref q], []⟩)
      (fun A R s => s.heap.get? p = some { cls := .type "tuple", dict := c1, data := .seq us n, slots := t1 } ∧ s.heap.get? q = some { cls := .type "tuple", dict := c2, data := .seq ws m, slots := t2 } ∧
        (∀ j (h1 : j < us.size) (h2 : j < ws.size), EqAt A.in1 s us[j] ws[j] (e j)) ∧
        (∀ j (h1 : j < us.size) (h2 : j < ws.size), (∀ i, i < j → e i = true) → e j = false → RcOp .Lt A.in1 s us[j] ws[j] (r j)) ∧
        R (.ok (.ret (.bool (lexAt e r (decide (us.size < ws.size)) 0 (min us.size ws.size))))) s) := by
  refine .of_wp fun prog w A R s hyp => ?_
  obtain ⟨hp, gg, dd, tk, os⟩ := s
  obtain ⟨atp, atq, eqs, lts, goal⟩ := hyp
  have subs := AutoSeq1.sub_tuple_tuple
  have zl : (us.toList.zip ws.toList).length = min us.size ws.size := by simp
  wp_walk using wpAny_loadPart' atp, wpAny_loadPart' atq, wpAny_forIn_list _ (fun left acc st => acc.1 = none ∧ st = ⟨hp, gg, dd, tk, os⟩ ∧ ∃ k, left = (us.toList.zip ws.toList).drop k ∧ (∀ i, i < k → e i = true) ∧
    R (.ok (.ret (.bool (lexAt e r (decide (us.size < ws.size)) k (min us.size ws.size - k))))) ⟨hp, gg, dd, tk, os⟩) _
  case turn =>
    rintro ⟨u1, w1⟩ left acc st ⟨_, rfl, k, hz, before, hR⟩
    have hk : k < (us.toList.zip ws.toList).length := by
      by_cases c : k < (us.toList.zip ws.toList).length
      · exact c
      · rw [List.drop_of_length_le (by omega)] at hz
        cases hz
    have hm : k < min us.size ws.size := zl ▸ hk
    have k1 : k < us.size := by omega
    have k2 : k < ws.size := by omega
    rw [List.drop_eq_getElem_cons hk] at hz
    injection hz with pair others
    have eu : u1 = us[k] := by simpa using congrArg Prod.fst pair
    have ew : w1 = ws[k] := by simpa using congrArg Prod.snd pair
    subst eu ew
    rw [show min us.size ws.size - k = (min us.size ws.size - (k + 1)) + 1 by omega, lexAt_succ] at hR
    refine wpAny_bind (eqs k k1 k2 prog w _ _ ?_)
    cases hek : e k with
    | true =>
      rw [hek, if_pos rfl] at hR
      wp_walk
      refine ⟨rfl, rfl, k + 1, others, fun i hi => ?_, hR⟩
      by_cases c : i = k
      · rw [c]; exact hek
      · exact before i (by omega)
    | false =>
      rw [hek, if_neg Bool.false_ne_true] at hR
      have now := lts k k1 k2 before hek prog w
      wp_walk using now
      exact ⟨_, rfl, by simpa using hR⟩
  case fin =>
    rintro ⟨a1, a2⟩ st ⟨ha, rfl, k, hz, _, hR⟩
    simp only at ha
    subst ha
    have over : min us.size ws.size ≤ k := by
      by_cases c : k < (us.toList.zip ws.toList).length
      · rw [List.drop_eq_getElem_cons c] at hz
        cases hz
      · omega
    rw [Nat.sub_eq_zero_of_le over, lexAt_zero] at hR
    wp_walk
    exact ⟨_, rfl, by simpa [Builtin.Tuple.tupleCompareSizes] using hR⟩
  case h =>
    exact ⟨rfl, rfl, 0, rfl, fun i hi => absurd hi (Nat.not_lt_zero i), by simpa using goal⟩
theorem tup_lt {A : Around} {s : Shared} {p q : Addr} {us ws : Array Value} {e r : Nat → Bool} (atp : s.heap.IsTuple p us) (atq : s.heap.IsTuple q ws) (room : A.units < cLine)
    (eqs : ∀ j (h1 : j < us.size) (h2 : j < ws.size), EqAt A.in1 s us[j] ws[j] (e j))
    (lts : ∀ j (h1 : j < us.size) (h2 : j < ws.size), (∀ i, i < j → e i = true) → e j = false → RcOp .Lt A.in1 s us[j] ws[j] (r j)) :
    RcOp .Lt A s (.ref p) (.ref q) (lexAt e r (decide (us.size < ws.size)) 0 (min us.size ws.size)) := by
  intro prog w E Q h
  obtain ⟨⟨k1, c1, d1, t1⟩, o1, rfl, n, rfl⟩ := id atp
  obtain ⟨⟨k2, c2, d2, t2⟩, o2, rfl, m, rfl⟩ := id atq
  exact richCompare_meets_room (op := .Lt) ⟨_, o1, rfl⟩ ⟨_, o2, rfl⟩ F.slot_tuple_lt F.entry_tuple_lt (F.args_tuple_lt_2 _ _) (tup_meet p q us ws n m c1 c2 t1 t2 e r) ⟨o1, o2, eqs, lts, ⟨nofun, h⟩⟩ room
mutual
def ltP : PyData → PyData → Option Bool
  | .int a, .int b => some (decide (a < b))
  | .str x, .str y => some (decide (x.cps.toList < y.cps.toList))
  | .tuple xs, .tuple ys => ltPs xs ys
  | _, _ => none
def ltPs : List PyData → List PyData → Option Bool
  | [], [] => some false
  | [], _ :: _ => some true
  | _ :: _, [] => some false
  | x :: xs, y :: ys => if PyData.eqv x y = true then ltPs xs ys else ltP x y
end
theorem reads_get {h : Heap} : ∀ {vs : List Value} {ds : List PyData} {as : List Addr}, ReadsAll h vs ds as → ∀ {j : Nat} (h1 : j < vs.length) (h2 : j < ds.length), ∃ bs, Reads h vs[j] ds[j] bs
  | _, _, _, .nil, j, h1, _ => absurd h1 (Nat.not_lt_zero j)
  | _, _, _, .cons r _, 0, _, _ => ⟨_, r⟩
  | _, _, _, .cons _ t, j + 1, h1, h2 => reads_get t (Nat.lt_of_succ_lt_succ h1) (Nat.lt_of_succ_lt_succ h2)
theorem reads_len {h : Heap} : ∀ {vs : List Value} {ds : List PyData} {as : List Addr}, ReadsAll h vs ds as → vs.length = ds.length
  | _, _, _, .nil => rfl
  | _, _, _, .cons _ t => congrArg Nat.succ (reads_len t)
theorem first_ne {b : Bool} : ∀ {xs ys : List PyData} {j : Nat} (h1 : j < xs.length) (h2 : j < ys.length), ltPs xs ys = some b → (∀ i (i1 : i < xs.length) (i2 : i < ys.length), i < j → PyData.eqv xs[i] ys[i] = true) → PyData.eqv xs[j] ys[j] = false → ltP xs[j] ys[j] = some b
  | x :: xs, y :: ys, 0, _, _, h, _, ne => by
    have ne : PyData.eqv x y = false := ne
    simp only [ltPs, ne, Bool.false_eq_true, if_false] at h
    exact h
  | x :: xs, y :: ys, j + 1, h1, h2, h, eqs, ne => by
    have e0 : PyData.eqv x y = true := eqs 0 (by simp) (by simp) (by omega)
    simp only [ltPs, e0, if_true] at h
    exact first_ne (xs := xs) (ys := ys) (j := j) (Nat.lt_of_succ_lt_succ h1) (Nat.lt_of_succ_lt_succ h2) h (fun i i1 i2 hi => eqs (i + 1) (Nat.succ_lt_succ i1) (Nat.succ_lt_succ i2) (by omega)) ne
theorem all_eq : ∀ {xs ys : List PyData}, (∀ i (i1 : i < xs.length) (i2 : i < ys.length), PyData.eqv xs[i] ys[i] = true) → ltPs xs ys = some (decide (xs.length < ys.length))
  | [], [], _ => rfl
  | [], _ :: _, _ => by simp [ltPs]
  | _ :: _, [], _ => by simp [ltPs]
  | x :: xs, y :: ys, eqs => by
    have e0 : PyData.eqv x y = true := eqs 0 (by simp) (by simp)
    have ih := all_eq (xs := xs) (ys := ys) fun i i1 i2 => eqs (i + 1) (Nat.succ_lt_succ i1) (Nat.succ_lt_succ i2)
    simp only [ltPs, e0, if_true, ih]
    simp
theorem lexAt_const {e : Nat → Bool} {z b : Bool} : ∀ (k i : Nat), (z = b ∨ ∃ j, i ≤ j ∧ j < i + k ∧ e j = false) → lexAt e (fun _ => b) z i k = b
  | 0, i, h => by
    rcases h with h | ⟨j, h1, h2, _⟩
    · exact h
    · omega
  | k + 1, i, h => by
    rw [lexAt_succ]
    cases he : e i with
    | false => rfl
    | true =>
      rw [if_pos rfl]
      refine lexAt_const k (i + 1) (h.imp id fun ⟨j, h1, h2, h3⟩ => ⟨j, ?_, by omega, h3⟩)
      have : j ≠ i := fun z => by rw [z, he] at h3; cases h3
      omega
theorem depth_mem {x : PyData} : ∀ {xs : List PyData} {j : Nat} (h : j < xs.length), xs[j].depth ≤ PyData.depthAll xs
  | y :: ys, 0, _ => by show PyData.depth y ≤ max (PyData.depth y) (PyData.depthAll ys); omega
  | y :: ys, j + 1, h => by
    have := depth_mem (x := x) (xs := ys) (j := j) (Nat.lt_of_succ_lt_succ h)
    show (ys[j]'(Nat.lt_of_succ_lt_succ h)).depth ≤ max (PyData.depth y) (PyData.depthAll ys)
    omega
theorem lay_mem : ∀ {xs : List PyData} {j : Nat} (h : j < xs.length), PyData.canLayAll0 xs = true → xs[j].canLay0 = true
  | y :: ys, 0, _, hl => by
    have hl : (PyData.canLay0 y && PyData.canLayAll0 ys) = true := hl
    exact (Bool.and_eq_true_iff.mp hl).1
  | y :: ys, j + 1, h, hl => by
    have hl : (PyData.canLay0 y && PyData.canLayAll0 ys) = true := hl
    exact lay_mem (xs := ys) (Nat.lt_of_succ_lt_succ h) (Bool.and_eq_true_iff.mp hl).2
theorem rc_lt : ∀ (n : Nat) (d e : PyData) (b : Bool) (A : Around) (s : Shared) (u v : Value) (as bs : List Addr), d.depth ≤ n → ltP d e = some b → Reads s.heap u d as → Reads s.heap v e bs → d.canLay0 = true → e.canLay0 = true → A.units + n < cLine → RcOp .Lt A s u v b := by
  intro n
  induction n with
  | zero =>
    intro d e b A s u v as bs hn h ru rv ld le room
    cases ru with
    | int i t =>
      cases rv with
      | int j t' => cases h; exact .lt_int i j t t'
      | _ => cases h
    | str x t =>
      cases rv with
      | str y t' => cases h; exact fun prog w E Q q => PySem.P.lt_str q
      | _ => cases h
    | tuple _ _ _ _ =>
      have hn : PyData.depthAll _ + 1 ≤ 0 := hn
      omega
    | _ => cases rv <;> cases h
  | succ n ih =>
    intro d e b A s u v as bs hn h ru rv ld le room
    cases ru with
    | int i t =>
      cases rv with
      | int j t' => cases h; exact .lt_int i j t t'
      | _ => cases h
    | str x t =>
      cases rv with
      | str y t' => cases h; exact fun prog w E Q q => PySem.P.lt_str q
      | _ => cases h
    | tuple h1 h2 h3 h4 =>
      rename_i p o vs n1 xs
      cases rv with
      | tuple g1 g2 g3 g4 =>
        rename_i q o' ws n2 ys
        have h : ltPs xs ys = some b := h
        have hn : PyData.depthAll xs + 1 ≤ n + 1 := hn
        have ld : PyData.canLayAll0 xs = true := by simpa only [PyData.canLay0] using ld
        have le : PyData.canLayAll0 ys = true := by simpa only [PyData.canLay0] using le
        have lx : vs.size = xs.length := by rw [← reads_len h4, Array.length_toList]
        have ly : ws.size = ys.length := by rw [← reads_len g4, Array.length_toList]
        have tp : s.heap.IsTuple p vs := ⟨o, h1, h2, n1, h3⟩
        have tq : s.heap.IsTuple q ws := ⟨o', g1, g2, n2, g3⟩
        have key := tup_lt (A := A) (s := s) (e := fun j => PyData.eqv (xs[j]?.getD .none) (ys[j]?.getD .none)) (r := fun _ => b) tp tq (by omega) (fun j j1 j2 => by
          have a1 : j < xs.length := by omega
          have a2 : j < ys.length := by omega
          obtain ⟨r1, w1⟩ := reads_get h4 (j := j) (by rw [Array.length_toList]; exact j1) a1
          obtain ⟨r2, w2⟩ := reads_get g4 (j := j) (by rw [Array.length_toList]; exact j2) a2
          have dep := depth_mem (x := .none) a1
          simp only [List.getElem?_eq_getElem a1, List.getElem?_eq_getElem a2, Option.getD_some]
          rw [Array.getElem_toList] at w1 w2
          exact eqAt_reads _ _ _ _ _ _ _ _ w1 w2 (lay_mem a1 ld) (lay_mem a2 le) (by show A.units + 1 + _ < cLine; omega)) (fun j j1 j2 bef ne => by
          have a1 : j < xs.length := by omega
          have a2 : j < ys.length := by omega
          obtain ⟨r1, w1⟩ := reads_get h4 (j := j) (by rw [Array.length_toList]; exact j1) a1
          obtain ⟨r2, w2⟩ := reads_get g4 (j := j) (by rw [Array.length_toList]; exact j2) a2
          have dep := depth_mem (x := .none) a1
          rw [Array.getElem_toList] at w1 w2
          simp only [List.getElem?_eq_getElem a1, List.getElem?_eq_getElem a2, Option.getD_some] at ne
          have lt := first_ne a1 a2 h (fun i i1 i2 hi => by
            have := bef i hi
            simpa only [List.getElem?_eq_getElem i1, List.getElem?_eq_getElem i2, Option.getD_some] using this) ne
          exact ih _ _ b _ _ _ _ _ _ (by omega) lt w1 w2 (lay_mem a1 ld) (lay_mem a2 le) (by show A.units + 1 + n < cLine; omega))
        have val : lexAt (fun j => PyData.eqv (xs[j]?.getD .none) (ys[j]?.getD .none)) (fun _ => b) (decide (vs.size < ws.size)) 0 (min vs.size ws.size) = b := by
          apply lexAt_const
          by_cases c : ∀ i (i1 : i < xs.length) (i2 : i < ys.length), PyData.eqv xs[i] ys[i] = true
          · left
            rw [lx, ly]
            have := all_eq c
            rw [h] at this
            exact (Option.some.inj this).symm
          · right
            simp only [Classical.not_forall] at c
            obtain ⟨i, i1, i2, c⟩ := c
            exact ⟨i, Nat.zero_le _, by omega, by simp only [List.getElem?_eq_getElem i1, List.getElem?_eq_getElem i2, Option.getD_some]; exact Bool.eq_false_iff.mpr c⟩
        rw [val] at key
        exact key
      | _ => cases h
    | _ => cases rv <;> cases h
end
mutual
def ltT : D → D → Option Bool
  | .int a, .int b => some (decide (a < b))
  | .str x, .str y => some (decide (x < y))
  | .tup xs, .tup ys => ltTs xs ys
  | _, _ => none
def ltTs : List D → List D → Option Bool
  | [], [] => some false
  | [], _ :: _ => some true
  | _ :: _, [] => some false
  | x :: xs, y :: ys => if D.eqv x y = true then ltTs xs ys else ltT x y
end
mutual
theorem ltT_py : ∀ d e : D, ∀ b, ltT d e = some b → ltP d.py e.py = some b
  | .int a, .int b, _, h => h
  | .str x, .str y, _, h => h
  | .tup xs, .tup ys, b, h => ltTs_py xs ys b h
  | .int _, .non, _, h | .int _, .bl _, _, h | .int _, .str _, _, h | .int _, .tup _, _, h | .int _, .lst _, _, h | .int _, .raw _, _, h | .int _, .dic _ _, _, h => by cases h
  | .str _, .non, _, h | .str _, .bl _, _, h | .str _, .int _, _, h | .str _, .tup _, _, h | .str _, .lst _, _, h | .str _, .raw _, _, h | .str _, .dic _ _, _, h => by cases h
  | .tup _, .non, _, h | .tup _, .bl _, _, h | .tup _, .int _, _, h | .tup _, .str _, _, h | .tup _, .lst _, _, h | .tup _, .raw _, _, h | .tup _, .dic _ _, _, h => by cases h
  | .non, _, _, h | .bl _, _, _, h | .lst _, _, _, h | .raw _, _, _, h | .dic _ _, _, _, h => by cases h
theorem ltTs_py : ∀ l m : List D, ∀ b, ltTs l m = some b → ltPs (D.pyA l) (D.pyA m) = some b
  | [], [], _, h => h
  | [], _ :: _, _, h => h
  | _ :: _, [], _, h => h
  | x :: xs, y :: ys, b, h => by
    show (if PyData.eqv x.py y.py = true then ltPs (D.pyA xs) (D.pyA ys) else ltP x.py y.py) = some b
    rw [D.py_eqv]
    simp only [ltTs] at h
    split at h
    · rename_i c; rw [if_pos c]; exact ltTs_py xs ys b h
    · rename_i c; rw [if_neg c]; exact ltT_py x y b h
end
def ltX (d e : D) : Option D := match d, e with
  | .int i, .int j => some (.bl (decide (i < j)))
  | .str i, .str j => some (.bl (decide (i < j)))
  | .tup l, .tup m => if ((D.tup l).shp && (D.tup m).shp) = true then (ltTs l m).map D.bl else none
  | _, _ => none
def rLtD (K : PySem.W.Frag) : R2 := fun x y H Q => ∃ d e b, Dp K H x d ∧ Dp K H y e ∧ SeqAt.shaped d = true ∧ SeqAt.shaped e = true ∧ ltP d e = some b ∧ Q (.bl b) H
theorem op_ltD {X : Cx} (room : X.A.units + 64 < cLine) : OpR X (compareOp .Lt) (rLtD X.K) := by
  intro pins s σ H x y v u Q I rx ry h
  obtain ⟨d, e, b, hd, he, sd, se, lt, q⟩ := h
  obtain ⟨as, r1⟩ := Dp.reads I d x v hd rx
  obtain ⟨bs, r2⟩ := Dp.reads I e y u he ry
  have key := rc_lt 64 d e b X.A s _ _ _ _ (SeqAt.depth_of_shaped sd) lt r1 r2 (SeqAt.canLay_of_shaped sd) (SeqAt.canLay_of_shaped se) room
  exact key X.prog X.w _ _ ⟨.bl _, H, I, rfl, q⟩
theorem o_ltX {X : Cx} {k : Nat} (hr : Room k X.A) : OpR X (compareOp .Lt) (fun x y H Q => rLtU x y H Q ∨ rLtD X.K x y H Q) := OpR.or o_lt (op_ltD hr.units)
theorem s_ltX {K : PySem.W.Frag} : OpS K (fun x y H Q => rLtU x y H Q ∨ rLtD K x y H Q) ltX := by
  intro H x y d e z Q hx hy h q
  unfold ltX at h
  split at h
  · rename_i i j
    exact .inl (s_lt H x y _ _ z Q hx hy (show ltD (.int i) (.int j) = some z from h) q)
  · rename_i i j
    exact .inl (s_lt H x y _ _ z Q hx hy (show ltD (.str i) (.str j) = some z from h) q)
  · rename_i l m
    split at h
    · rename_i c
      rw [Bool.and_eq_true] at c
      rw [Option.map_eq_some_iff] at h
      obtain ⟨b, hb, rfl⟩ := h
      exact .inr ⟨_, _, b, hx.dp (SeqAt.canLay_of_shaped c.1), hy.dp (SeqAt.canLay_of_shaped c.2), c.1, c.2, ltTs_py l m b hb, q⟩
    · cases h
  · cases h
end Z
set_option Elab.async false
set_option linter.all false
set_option maxRecDepth 100000
set_option maxHeartbeats 4000000
namespace Z
open PySem PySem.Spec PyProof.Rows L2
local macro_rules | `(tactic| walk_at "l") => `(tactic| first | (simp only [wipeG_nil, wipeG_cons, List.set_cons_succ, List.set_cons_zero, List.take_succ_cons, List.take_zero, List.take_nil, List.cons_append, List.nil_append, List.length_cons, List.length_nil, List.set_nil, List.getElem?_cons_zero, List.getElem?_cons_succ, Nat.zero_add, Nat.reduceAdd]; first | done | exact rfl) | exact rfl)
local macro_rules | `(tactic| walk_at "d") => `(tactic| first
  | with_reducible assumption
  | (with_reducible apply dr_div) <;> decide
  | (with_reducible apply dr_mod) <;> decide
  | (with_reducible apply dr_mulr); decide
  | (with_reducible apply dr_mull); decide
  | (with_reducible apply dr_divB) <;> omega
  | (with_reducible apply dr_mulrB) <;> omega
  | (with_reducible apply dr_mullB) <;> omega
  | (with_reducible apply dr_mulC) <;> omega
  | (with_reducible apply dr_mod) <;> omega
  | (with_reducible refine isi_of ?_ ?_); (exact rfl); (first | exact kb_int_int | exact kb_int_bool | exact kb_bool_bool | exact kb_bool_int | exact kb_str_int | exact kb_str_bool | exact kb_str_str | exact kb_int_str | exact kb_bool_str | exact kb_non_int | exact kb_non_bool | exact kb_non_str | exact kb_list_list | exact kb_tuple_tuple | exact kb_list_tuple | exact kb_tuple_list)
  | with_reducible exact dr_abs
  | (with_reducible exact dr_neL _ _)
  | (simp only [Cn.d]; with_reducible assumption)
  | (simp only [Cn.d]; with_reducible exact dr_neL _ _)
  | with_reducible exact in_ints _ _
  | (simp only [Cn.d]; with_reducible exact in_ints _ _)
  | ((with_reducible apply dr_cat); (try simp only [List.length_append, List.length_cons, List.length_nil]); omega)
  | with_reducible exact dr_eqI
  | with_reducible exact dr_eqB
  | with_reducible exact dr_neB
  | with_reducible exact dr_eqS
  | with_reducible exact dr_neI
  | with_reducible exact dr_neS
  | exact rfl)
local macro_rules | `(tactic| walk_at "c") => `(tactic| first | with_reducible assumption | (simp only [Cn.d]; with_reducible assumption))
local macro_rules | `(tactic| walk_at "e") => `(tactic| first
  | with_reducible exact er_C
  | with_reducible exact er_nil
  | (with_reducible apply er_varD); exact rfl
  | (with_reducible apply er_varO); exact rfl
  | (with_reducible apply er_varF); exact rfl
  | (with_reducible apply er_op); walk_at "e"; walk_at "e"; exact rfl; exact rfl; walk_at "d"; exact rfl
  | (with_reducible apply er_chain); walk_at "e"; walk_at "e"; exact rfl; exact rfl; walk_at "d"; (intro _h; walk_at "e"); exact rfl; walk_at "d"
  | (with_reducible apply er_slS); walk_at "e"; walk_at "o"; walk_at "o"; exact rfl; walk_at "z"
  | (with_reducible apply er_slL); walk_at "e"; walk_at "o"; walk_at "o"; exact rfl
  | (with_reducible apply er_list); walk_at "e"; exact rfl; exact rfl
  | (with_reducible apply er_tupL); walk_at "e"; exact rfl
  | (with_reducible apply er_un); walk_at "e"; exact rfl; exact rfl; exact rfl
  | (with_reducible apply er_tst); walk_at "e"
  | (with_reducible apply er_tru); walk_at "e"; exact rfl; exact rfl
  | (with_reducible apply er_andT); walk_at "e"; (intro _h; walk_at "e")
  | (with_reducible apply er_orT); walk_at "e"; (intro _h; walk_at "e")
  | (with_reducible apply er_andTT); walk_at "e"; exact rfl; walk_at "e"
  | (with_reducible apply er_orTF); walk_at "e"; exact rfl; walk_at "e"
  | (with_reducible apply er_notT); walk_at "e"
  | (with_reducible apply er_andV); walk_at "e"; (intro _h; walk_at "e")
  | (with_reducible apply er_orV); walk_at "e"; (intro _h; walk_at "e")
  | (with_reducible apply er_notV); walk_at "e"
  | (with_reducible apply er_andVT); walk_at "e"; exact rfl; walk_at "e"
  | (with_reducible apply er_orVF); walk_at "e"; exact rfl; walk_at "e"
  | (with_reducible apply er_ix); walk_at "e"; walk_at "e"; exact rfl; walk_at "x"
  | (with_reducible apply er_callS); walk_at "e"; exact rfl; walk_at "d"; exact rfl
  | (with_reducible apply er_cons); walk_at "e"; walk_at "e"
  | (with_reducible apply er_callG); walk_at "e"; exact rfl; exact rfl; walk_at "c"; exact rfl
  | (with_reducible apply er_callH); walk_at "e"; exact rfl; exact rfl; walk_at "c"; exact rfl
  | (with_reducible apply er_callV); walk_at "e"; exact rfl; walk_at "c"; exact rfl
  | (with_reducible apply er_callGF); walk_at "e"; exact rfl; exact rfl; walk_at "c"; exact rfl
  | (with_reducible apply er_callHF); walk_at "e"; exact rfl; exact rfl; walk_at "c"; exact rfl
  | (with_reducible apply er_callM); walk_at "e"; exact rfl; exact rfl; exact rfl; exact rfl; exact rfl; walk_at "c"; exact rfl
  | (with_reducible apply er_catL); walk_at "e"; walk_at "e"; exact rfl; exact rfl; walk_at "z"
  | (with_reducible apply er_mt); walk_at "e"; exact rfl; exact rfl; walk_at "e"; exact rfl; exact rfl; walk_at "m"; exact rfl
  | (with_reducible apply er_tup); walk_at "e"; exact rfl; walk_at "z" 
  | (with_reducible apply er_lst); walk_at "e"; exact rfl; walk_at "z")
local macro_rules | `(tactic| walk_at "o") => `(tactic| first | exact er_zoN | ((with_reducible apply er_zoS); walk_at "e"))
local macro_rules | `(tactic| walk_at "x") => `(tactic| first | with_reducible assumption | (simp only [Cn.d]; with_reducible assumption) | exact rfl)
local macro_rules | `(tactic| walk_at "m") => `(tactic| first | with_reducible assumption | (simp only [Cn.d]; with_reducible assumption) | exact rfl)
local macro_rules | `(tactic| walk_at "st") => `(tactic| first
  | ((with_reducible apply set_dat); (walk_at "e"); (exact rfl); walk_at "l")
  | ((with_reducible apply set_own); (walk_at "e"); (exact Nat.le_of_ble_eq_true rfl); (exact rfl); (exact rfl); walk_at "l")
  | ((with_reducible apply asg_run); (walk_at "e"); (exact rfl); walk_at "l")
  | ((with_reducible apply aug_run); (exact rfl); (exact rfl); (walk_at "e"); (exact rfl); (walk_at "d"); (exact rfl); (exact rfl); walk_at "l")
  | ((with_reducible apply sto_run); (walk_at "e"); (walk_at "e"); (walk_at "e"); (exact rfl); (walk_at "x"); walk_at "l")
  | ((with_reducible apply app_run); (walk_at "e"); (exact rfl); (walk_at "e"); (exact rfl); (exact rfl); (walk_at "z"); walk_at "l"))
local macro_rules | `(tactic| walk_at "z") => `(tactic| first | assumption | exact Nat.le_of_ble_eq_true rfl | (simp; omega))
local macro_rules | `(tactic| walk_at "s") => `(tactic| first
  | with_reducible apply sr_nx
  | with_reducible apply sr_assoc
  | with_reducible apply ap_fg
  | ((with_reducible apply fgK_nx); (exact rfl); (walk_at "l"); skip)
  | ((with_reducible apply fgK_ct); (exact rfl); (walk_at "l"); skip)
  | ((with_reducible apply fgK_bk); (exact rfl); (walk_at "l"); skip)
  | with_reducible apply fgK_ret
  | with_reducible apply sr_bk1
  | with_reducible apply sr_ct1
  | with_reducible apply sr_nx1
  | with_reducible apply sr_ct
  | with_reducible apply sr_bk
  | (with_reducible apply sr_retS); (walk_at "e"); skip
  | (with_reducible apply sr_ret); (walk_at "e"); skip
  | (with_reducible apply sr_if); (walk_at "e"); (walk_at "l")
  | (with_reducible apply sr_if1); (walk_at "e"); (walk_at "l")
  | (with_reducible apply seq_nx); (walk_at "st")
  | (with_reducible apply one_nx); (walk_at "st"))
local macro_rules | `(tactic| walk_at "r") => `(tactic| repeat' (first | (intro _) | walk_at "s"))
local macro_rules | `(tactic| walk_at "k") => `(tactic| (intro q; (try simp only [decide_eq_true_eq, decide_eq_false_iff_not, beq_iff_eq, beq_eq_false_iff_ne, ne_eq, Bool.not_eq_true', Bool.not_eq_false', Bool.and_eq_true, Bool.or_eq_true, Bool.and_eq_false_iff, Bool.or_eq_false_iff, Int.not_lt, Int.not_le, List.cons.injEq, and_true, reduceCtorEq, beq_self_eq_true, Bool.not_true, Bool.not_false, Bool.or_false, Bool.false_or, Bool.or_true, Bool.true_or, Bool.and_false, Bool.false_and, Bool.and_true, Bool.true_and, not_true_eq_false, Bool.false_eq_true] at q) <;> (try (exfalso; first | (cases q; done) | omega | contradiction))))
local macro_rules | `(tactic| walk_at "w") => `(tactic| repeat' (first | (walk_at "k") | walk_at "s"))
def VD (v : D) : Prop := match v with
  | .non => True
  | .bl _ => True
  | .int i => i.natAbs < 10 ^ 60
  | .str t => t.length ≤ 200 ∧ ∀ c ∈ t, c < 1114112
  | _ => False
theorem VD.flat {v : D} (h : VD v) : D.flat v := by
  cases v with
  | non => exact ⟨rfl, rfl, by decide⟩
  | bl b => exact ⟨rfl, rfl, by simp [D.wt]⟩
  | int i => exact ⟨decide_eq_true h, rfl, Nat.le_refl _⟩
  | str t =>
    obtain ⟨h1, h2⟩ := (show t.length ≤ 200 ∧ ∀ c ∈ t, c < 1114112 from h)
    refine ⟨?_, rfl, h1⟩
    show (t.all fun c => decide (c < 1114112)) = true
    rw [List.all_eq_true]
    intro c hc
    exact decide_eq_true (h2 c hc)
  | tup _ => exact h.elim
  | lst _ => exact h.elim
  | raw _ => exact h.elim
  | dic _ _ => exact h.elim
def kd : D → Nat
  | .non => 0
  | .bl _ => 1
  | .int _ => 2
  | _ => 3
def kx : D → D
  | .non => .int 0
  | .bl b => .int (if b then 1 else 0)
  | d => d
def rk (v : D) : D := .tup [.int (kd v : Nat), kx v]
theorem rk_rok {v : D} (h : VD v) : (rk v).rok = true ∧ (rk v).dp = 1 ∧ (rk v).wt ≤ 402 := by
  cases v with
  | non => exact ⟨by decide, rfl, by decide⟩
  | bl b => cases b <;> exact ⟨by decide, rfl, by decide⟩
  | int i =>
    refine ⟨?_, rfl, Nat.le_refl 402⟩
    show (decide ((2 : Int).natAbs < 10 ^ 60) && (decide (i.natAbs < 10 ^ 60) && true)) = true
    rw [decide_eq_true (show i.natAbs < 10 ^ 60 from h), decide_eq_true (by decide)]; rfl
  | str t =>
    have f := VD.flat h
    refine ⟨?_, rfl, ?_⟩
    · show (decide ((3 : Int).natAbs < 10 ^ 60) && ((D.str t).rok && true)) = true
      rw [f.1, decide_eq_true (by decide)]; rfl
    · show 200 + 1 + (t.length + 1 + 0) ≤ 402
      have := f.2.2
      have : t.length ≤ 200 := this
      omega
  | tup _ => exact h.elim
  | lst _ => exact h.elim
  | raw _ => exact h.elim
  | dic _ _ => exact h.elim
theorem rks_rok : ∀ {L : List D}, (∀ v ∈ L, VD v) → D.rokA (L.map rk) = true ∧ D.dpA (L.map rk) ≤ 1 ∧ D.wtA (L.map rk) ≤ 403 * L.length
  | [], _ => ⟨rfl, Nat.zero_le _, Nat.le_refl _⟩
  | v :: L, h => by
    obtain ⟨a, b, c⟩ := rks_rok (L := L) fun x hx => h x (List.mem_cons_of_mem _ hx)
    obtain ⟨a1, b1, c1⟩ := rk_rok (h v List.mem_cons_self)
    refine ⟨?_, ?_, ?_⟩
    · show ((rk v).rok && D.rokA (L.map rk)) = true
      rw [a1, a]; rfl
    · show max (rk v).dp (D.dpA (L.map rk)) ≤ 1
      omega
    · show (rk v).wt + 1 + D.wtA (L.map rk) ≤ 403 * (L.length + 1)
      omega
def sameV (v w : D) : Bool := D.eqv (rk v) (rk w)
theorem sameV_eq (v w : D) : sameV v w = (decide (kd v = kd w) && D.eqv (kx v) (kx w)) := by
  show ((((kd v : Nat) : Int) == ((kd w : Nat) : Int)) && (D.eqv (kx v) (kx w) && true)) = _
  rw [Bool.and_true]
  congr 1
  rw [Bool.eq_iff_iff]
  simp
  omega
def sameR (L M : List D) : Bool := D.eqvA (L.map rk) (M.map rk)
theorem ne_rk {v w : D} (hv : VD v) (hw : VD w) : neqD (rk v) (rk w) = some (.bl (!sameV v w)) := by
  obtain ⟨a1, b1, _⟩ := rk_rok hv
  obtain ⟨a2, b2, _⟩ := rk_rok hw
  exact dr_neR a1 (by omega) a2 (by omega)
theorem triR_self {L : List D} (hL : ∀ v ∈ L, VD v) : sameR L L = true := by
  have h : ∀ v, VD v → sameV v v = true := fun v hv => by
    rw [sameV_eq, decide_eq_true rfl, Bool.true_and]
    cases v <;> first | exact hv.elim | rfl | exact beq_self_eq_true _
  induction L with
  | nil => rfl
  | cons v L ih =>
    show (sameV v v && sameR L L) = true
    rw [h v (hL v List.mem_cons_self), ih fun x hx => hL x (List.mem_cons_of_mem _ hx)]
    rfl
end Z
set_option Elab.async false
set_option linter.all false
set_option maxRecDepth 100000
set_option maxHeartbeats 4000000
namespace Z
open PySem PySem.Spec PyProof.Rows L2
end Z
set_option Elab.async false
set_option linter.all false
set_option maxRecDepth 100000
set_option maxHeartbeats 4000000
namespace Z
open PySem PySem.Spec PyProof.Rows L2
local macro_rules | `(tactic| walk_at "l") => `(tactic| first | (simp only [wipeG_nil, wipeG_cons, List.set_cons_succ, List.set_cons_zero, List.take_succ_cons, List.take_zero, List.take_nil, List.cons_append, List.nil_append, List.length_cons, List.length_nil, List.set_nil, List.getElem?_cons_zero, List.getElem?_cons_succ, Nat.zero_add, Nat.reduceAdd]; first | done | exact rfl) | exact rfl)
local macro_rules | `(tactic| walk_at "d") => `(tactic| first
  | with_reducible assumption
  | (with_reducible apply dr_div) <;> decide
  | (with_reducible apply dr_mod) <;> decide
  | (with_reducible apply dr_mulr); decide
  | (with_reducible apply dr_mull); decide
  | (with_reducible apply dr_divB) <;> omega
  | (with_reducible apply dr_mulrB) <;> omega
  | (with_reducible apply dr_mullB) <;> omega
  | (with_reducible apply dr_mulC) <;> omega
  | (with_reducible apply dr_mod) <;> omega
  | (with_reducible refine isi_of ?_ ?_); (exact rfl); (first | exact kb_int_int | exact kb_int_bool | exact kb_bool_bool | exact kb_bool_int | exact kb_str_int | exact kb_str_bool | exact kb_str_str | exact kb_int_str | exact kb_bool_str | exact kb_non_int | exact kb_non_bool | exact kb_non_str | exact kb_list_list | exact kb_tuple_tuple | exact kb_list_tuple | exact kb_tuple_list)
  | with_reducible exact dr_abs
  | (with_reducible exact dr_neL _ _)
  | (simp only [Cn.d]; with_reducible assumption)
  | (simp only [Cn.d]; with_reducible exact dr_neL _ _)
  | with_reducible exact in_ints _ _
  | (simp only [Cn.d]; with_reducible exact in_ints _ _)
  | ((with_reducible apply dr_cat); (try simp only [List.length_append, List.length_cons, List.length_nil]); omega)
  | with_reducible exact dr_eqI
  | with_reducible exact dr_eqB
  | with_reducible exact dr_neB
  | with_reducible exact dr_eqS
  | with_reducible exact dr_neI
  | with_reducible exact dr_neS
  | exact rfl)
local macro_rules | `(tactic| walk_at "c") => `(tactic| first | with_reducible assumption | (simp only [Cn.d]; with_reducible assumption))
local macro_rules | `(tactic| walk_at "e") => `(tactic| first
  | with_reducible exact er_C
  | with_reducible exact er_nil
  | (with_reducible apply er_varD); exact rfl
  | (with_reducible apply er_varO); exact rfl
  | (with_reducible apply er_varF); exact rfl
  | (with_reducible apply er_op); walk_at "e"; walk_at "e"; exact rfl; exact rfl; walk_at "d"; exact rfl
  | (with_reducible apply er_chain); walk_at "e"; walk_at "e"; exact rfl; exact rfl; walk_at "d"; (intro _h; walk_at "e"); exact rfl; walk_at "d"
  | (with_reducible apply er_slS); walk_at "e"; walk_at "o"; walk_at "o"; exact rfl; walk_at "z"
  | (with_reducible apply er_slL); walk_at "e"; walk_at "o"; walk_at "o"; exact rfl
  | (with_reducible apply er_list); walk_at "e"; exact rfl; exact rfl
  | (with_reducible apply er_tupL); walk_at "e"; exact rfl
  | (with_reducible apply er_un); walk_at "e"; exact rfl; exact rfl; exact rfl
  | (with_reducible apply er_tst); walk_at "e"
  | (with_reducible apply er_tru); walk_at "e"; exact rfl; exact rfl
  | (with_reducible apply er_andT); walk_at "e"; (intro _h; walk_at "e")
  | (with_reducible apply er_orT); walk_at "e"; (intro _h; walk_at "e")
  | (with_reducible apply er_andTT); walk_at "e"; exact rfl; walk_at "e"
  | (with_reducible apply er_orTF); walk_at "e"; exact rfl; walk_at "e"
  | (with_reducible apply er_notT); walk_at "e"
  | (with_reducible apply er_andV); walk_at "e"; (intro _h; walk_at "e")
  | (with_reducible apply er_orV); walk_at "e"; (intro _h; walk_at "e")
  | (with_reducible apply er_notV); walk_at "e"
  | (with_reducible apply er_andVT); walk_at "e"; exact rfl; walk_at "e"
  | (with_reducible apply er_orVF); walk_at "e"; exact rfl; walk_at "e"
  | (with_reducible apply er_ix); walk_at "e"; walk_at "e"; exact rfl; walk_at "x"
  | (with_reducible apply er_callS); walk_at "e"; exact rfl; walk_at "d"; exact rfl
  | (with_reducible apply er_cons); walk_at "e"; walk_at "e"
  | (with_reducible apply er_callG); walk_at "e"; exact rfl; exact rfl; walk_at "c"; exact rfl
  | (with_reducible apply er_callH); walk_at "e"; exact rfl; exact rfl; walk_at "c"; exact rfl
  | (with_reducible apply er_callV); walk_at "e"; exact rfl; walk_at "c"; exact rfl
  | (with_reducible apply er_callGF); walk_at "e"; exact rfl; exact rfl; walk_at "c"; exact rfl
  | (with_reducible apply er_callHF); walk_at "e"; exact rfl; exact rfl; walk_at "c"; exact rfl
  | (with_reducible apply er_callM); walk_at "e"; exact rfl; exact rfl; exact rfl; exact rfl; exact rfl; walk_at "c"; exact rfl
  | (with_reducible apply er_catL); walk_at "e"; walk_at "e"; exact rfl; exact rfl; walk_at "z"
  | (with_reducible apply er_mt); walk_at "e"; exact rfl; exact rfl; walk_at "e"; exact rfl; exact rfl; walk_at "m"; exact rfl
  | (with_reducible apply er_tup); walk_at "e"; exact rfl; walk_at "z" 
  | (with_reducible apply er_lst); walk_at "e"; exact rfl; walk_at "z")
local macro_rules | `(tactic| walk_at "o") => `(tactic| first | exact er_zoN | ((with_reducible apply er_zoS); walk_at "e"))
local macro_rules | `(tactic| walk_at "x") => `(tactic| first | with_reducible assumption | (simp only [Cn.d]; with_reducible assumption) | exact rfl)
local macro_rules | `(tactic| walk_at "m") => `(tactic| first | with_reducible assumption | (simp only [Cn.d]; with_reducible assumption) | exact rfl)
local macro_rules | `(tactic| walk_at "st") => `(tactic| first
  | ((with_reducible apply set_dat); (walk_at "e"); (exact rfl); walk_at "l")
  | ((with_reducible apply set_own); (walk_at "e"); (exact Nat.le_of_ble_eq_true rfl); (exact rfl); (exact rfl); walk_at "l")
  | ((with_reducible apply asg_run); (walk_at "e"); (exact rfl); walk_at "l")
  | ((with_reducible apply aug_run); (exact rfl); (exact rfl); (walk_at "e"); (exact rfl); (walk_at "d"); (exact rfl); (exact rfl); walk_at "l")
  | ((with_reducible apply sto_run); (walk_at "e"); (walk_at "e"); (walk_at "e"); (exact rfl); (walk_at "x"); walk_at "l")
  | ((with_reducible apply app_run); (walk_at "e"); (exact rfl); (walk_at "e"); (exact rfl); (exact rfl); (walk_at "z"); walk_at "l"))
local macro_rules | `(tactic| walk_at "z") => `(tactic| first | assumption | exact Nat.le_of_ble_eq_true rfl | (simp; omega))
local macro_rules | `(tactic| walk_at "s") => `(tactic| first
  | with_reducible apply sr_nx
  | with_reducible apply sr_assoc
  | with_reducible apply ap_fg
  | ((with_reducible apply fgK_nx); (exact rfl); (walk_at "l"); skip)
  | ((with_reducible apply fgK_ct); (exact rfl); (walk_at "l"); skip)
  | ((with_reducible apply fgK_bk); (exact rfl); (walk_at "l"); skip)
  | with_reducible apply fgK_ret
  | with_reducible apply sr_bk1
  | with_reducible apply sr_ct1
  | with_reducible apply sr_nx1
  | with_reducible apply sr_ct
  | with_reducible apply sr_bk
  | (with_reducible apply sr_retS); (walk_at "e"); skip
  | (with_reducible apply sr_ret); (walk_at "e"); skip
  | (with_reducible apply sr_if); (walk_at "e"); (walk_at "l")
  | (with_reducible apply sr_if1); (walk_at "e"); (walk_at "l")
  | (with_reducible apply seq_nx); (walk_at "st")
  | (with_reducible apply one_nx); (walk_at "st"))
local macro_rules | `(tactic| walk_at "r") => `(tactic| repeat' (first | (intro _) | walk_at "s"))
local macro_rules | `(tactic| walk_at "k") => `(tactic| (intro q; (try simp only [decide_eq_true_eq, decide_eq_false_iff_not, beq_iff_eq, beq_eq_false_iff_ne, ne_eq, Bool.not_eq_true', Bool.not_eq_false', Bool.and_eq_true, Bool.or_eq_true, Bool.and_eq_false_iff, Bool.or_eq_false_iff, Int.not_lt, Int.not_le, List.cons.injEq, and_true, reduceCtorEq, beq_self_eq_true, Bool.not_true, Bool.not_false, Bool.or_false, Bool.false_or, Bool.or_true, Bool.true_or, Bool.and_false, Bool.false_and, Bool.and_true, Bool.true_and, not_true_eq_false, Bool.false_eq_true] at q) <;> (try (exfalso; first | (cases q; done) | omega | contradiction))))
local macro_rules | `(tactic| walk_at "w") => `(tactic| repeat' (first | (walk_at "k") | walk_at "s"))
end Z
set_option Elab.async false
set_option linter.all false
set_option maxRecDepth 100000
set_option maxHeartbeats 4000000
namespace Z
open PySem PySem.Spec PyProof.Rows L2
end Z
set_option Elab.async false
set_option linter.all false
set_option maxRecDepth 100000
set_option maxHeartbeats 4000000
namespace Z
open PySem PySem.Spec PyProof.Rows L2
end Z
set_option Elab.async false
set_option linter.all false
set_option maxRecDepth 100000
set_option maxHeartbeats 4000000
namespace Z
open PySem PySem.Spec PyProof.Rows L2
local macro_rules | `(tactic| walk_at "l") => `(tactic| first | (simp only [wipeG_nil, wipeG_cons, List.set_cons_succ, List.set_cons_zero, List.take_succ_cons, List.take_zero, List.take_nil, List.cons_append, List.nil_append, List.length_cons, List.length_nil, List.set_nil, List.getElem?_cons_zero, List.getElem?_cons_succ, Nat.zero_add, Nat.reduceAdd]; first | done | exact rfl) | exact rfl)
local macro_rules | `(tactic| walk_at "d") => `(tactic| first
  | with_reducible assumption
  | (with_reducible apply dr_div) <;> decide
  | (with_reducible apply dr_mod) <;> decide
  | (with_reducible apply dr_mulr); decide
  | (with_reducible apply dr_mull); decide
  | (with_reducible apply dr_divB) <;> omega
  | (with_reducible apply dr_mulrB) <;> omega
  | (with_reducible apply dr_mullB) <;> omega
  | (with_reducible apply dr_mulC) <;> omega
  | (with_reducible apply dr_mod) <;> omega
  | (with_reducible refine isi_of ?_ ?_); (exact rfl); (first | exact kb_int_int | exact kb_int_bool | exact kb_bool_bool | exact kb_bool_int | exact kb_str_int | exact kb_str_bool | exact kb_str_str | exact kb_int_str | exact kb_bool_str | exact kb_non_int | exact kb_non_bool | exact kb_non_str | exact kb_list_list | exact kb_tuple_tuple | exact kb_list_tuple | exact kb_tuple_list)
  | with_reducible exact dr_abs
  | (with_reducible exact dr_neL _ _)
  | (simp only [Cn.d]; with_reducible assumption)
  | (simp only [Cn.d]; with_reducible exact dr_neL _ _)
  | with_reducible exact in_ints _ _
  | (simp only [Cn.d]; with_reducible exact in_ints _ _)
  | ((with_reducible apply dr_cat); (try simp only [List.length_append, List.length_cons, List.length_nil]); omega)
  | with_reducible exact dr_eqI
  | with_reducible exact dr_eqB
  | with_reducible exact dr_neB
  | with_reducible exact dr_eqS
  | with_reducible exact dr_neI
  | with_reducible exact dr_neS
  | exact rfl)
local macro_rules | `(tactic| walk_at "c") => `(tactic| first | with_reducible assumption | (simp only [Cn.d]; with_reducible assumption))
local macro_rules | `(tactic| walk_at "e") => `(tactic| first
  | with_reducible exact er_C
  | with_reducible exact er_nil
  | (with_reducible apply er_varD); exact rfl
  | (with_reducible apply er_varO); exact rfl
  | (with_reducible apply er_varF); exact rfl
  | (with_reducible apply er_op); walk_at "e"; walk_at "e"; exact rfl; exact rfl; walk_at "d"; exact rfl
  | (with_reducible apply er_chain); walk_at "e"; walk_at "e"; exact rfl; exact rfl; walk_at "d"; (intro _h; walk_at "e"); exact rfl; walk_at "d"
  | (with_reducible apply er_slS); walk_at "e"; walk_at "o"; walk_at "o"; exact rfl; walk_at "z"
  | (with_reducible apply er_slL); walk_at "e"; walk_at "o"; walk_at "o"; exact rfl
  | (with_reducible apply er_list); walk_at "e"; exact rfl; exact rfl
  | (with_reducible apply er_tupL); walk_at "e"; exact rfl
  | (with_reducible apply er_un); walk_at "e"; exact rfl; exact rfl; exact rfl
  | (with_reducible apply er_tst); walk_at "e"
  | (with_reducible apply er_tru); walk_at "e"; exact rfl; exact rfl
  | (with_reducible apply er_andT); walk_at "e"; (intro _h; walk_at "e")
  | (with_reducible apply er_orT); walk_at "e"; (intro _h; walk_at "e")
  | (with_reducible apply er_andTT); walk_at "e"; exact rfl; walk_at "e"
  | (with_reducible apply er_orTF); walk_at "e"; exact rfl; walk_at "e"
  | (with_reducible apply er_notT); walk_at "e"
  | (with_reducible apply er_andV); walk_at "e"; (intro _h; walk_at "e")
  | (with_reducible apply er_orV); walk_at "e"; (intro _h; walk_at "e")
  | (with_reducible apply er_notV); walk_at "e"
  | (with_reducible apply er_andVT); walk_at "e"; exact rfl; walk_at "e"
  | (with_reducible apply er_orVF); walk_at "e"; exact rfl; walk_at "e"
  | (with_reducible apply er_ix); walk_at "e"; walk_at "e"; exact rfl; walk_at "x"
  | (with_reducible apply er_callS); walk_at "e"; exact rfl; walk_at "d"; exact rfl
  | (with_reducible apply er_cons); walk_at "e"; walk_at "e"
  | (with_reducible apply er_callG); walk_at "e"; exact rfl; exact rfl; walk_at "c"; exact rfl
  | (with_reducible apply er_callH); walk_at "e"; exact rfl; exact rfl; walk_at "c"; exact rfl
  | (with_reducible apply er_callV); walk_at "e"; exact rfl; walk_at "c"; exact rfl
  | (with_reducible apply er_callGF); walk_at "e"; exact rfl; exact rfl; walk_at "c"; exact rfl
  | (with_reducible apply er_callHF); walk_at "e"; exact rfl; exact rfl; walk_at "c"; exact rfl
  | (with_reducible apply er_callM); walk_at "e"; exact rfl; exact rfl; exact rfl; exact rfl; exact rfl; walk_at "c"; exact rfl
  | (with_reducible apply er_catL); walk_at "e"; walk_at "e"; exact rfl; exact rfl; walk_at "z"
  | (with_reducible apply er_mt); walk_at "e"; exact rfl; exact rfl; walk_at "e"; exact rfl; exact rfl; walk_at "m"; exact rfl
  | (with_reducible apply er_tup); walk_at "e"; exact rfl; walk_at "z" 
  | (with_reducible apply er_lst); walk_at "e"; exact rfl; walk_at "z")
local macro_rules | `(tactic| walk_at "o") => `(tactic| first | exact er_zoN | ((with_reducible apply er_zoS); walk_at "e"))
local macro_rules | `(tactic| walk_at "x") => `(tactic| first | with_reducible assumption | (simp only [Cn.d]; with_reducible assumption) | exact rfl)
local macro_rules | `(tactic| walk_at "m") => `(tactic| first | with_reducible assumption | (simp only [Cn.d]; with_reducible assumption) | exact rfl)
local macro_rules | `(tactic| walk_at "st") => `(tactic| first
  | ((with_reducible apply set_dat); (walk_at "e"); (exact rfl); walk_at "l")
  | ((with_reducible apply set_own); (walk_at "e"); (exact Nat.le_of_ble_eq_true rfl); (exact rfl); (exact rfl); walk_at "l")
  | ((with_reducible apply asg_run); (walk_at "e"); (exact rfl); walk_at "l")
  | ((with_reducible apply aug_run); (exact rfl); (exact rfl); (walk_at "e"); (exact rfl); (walk_at "d"); (exact rfl); (exact rfl); walk_at "l")
  | ((with_reducible apply sto_run); (walk_at "e"); (walk_at "e"); (walk_at "e"); (exact rfl); (walk_at "x"); walk_at "l")
  | ((with_reducible apply app_run); (walk_at "e"); (exact rfl); (walk_at "e"); (exact rfl); (exact rfl); (walk_at "z"); walk_at "l"))
local macro_rules | `(tactic| walk_at "z") => `(tactic| first | assumption | exact Nat.le_of_ble_eq_true rfl | (simp; omega))
local macro_rules | `(tactic| walk_at "s") => `(tactic| first
  | with_reducible apply sr_nx
  | with_reducible apply sr_assoc
  | with_reducible apply ap_fg
  | ((with_reducible apply fgK_nx); (exact rfl); (walk_at "l"); skip)
  | ((with_reducible apply fgK_ct); (exact rfl); (walk_at "l"); skip)
  | ((with_reducible apply fgK_bk); (exact rfl); (walk_at "l"); skip)
  | with_reducible apply fgK_ret
  | with_reducible apply sr_bk1
  | with_reducible apply sr_ct1
  | with_reducible apply sr_nx1
  | with_reducible apply sr_ct
  | with_reducible apply sr_bk
  | (with_reducible apply sr_retS); (walk_at "e"); skip
  | (with_reducible apply sr_ret); (walk_at "e"); skip
  | (with_reducible apply sr_if); (walk_at "e"); (walk_at "l")
  | (with_reducible apply sr_if1); (walk_at "e"); (walk_at "l")
  | (with_reducible apply seq_nx); (walk_at "st")
  | (with_reducible apply one_nx); (walk_at "st"))
local macro_rules | `(tactic| walk_at "r") => `(tactic| repeat' (first | (intro _) | walk_at "s"))
local macro_rules | `(tactic| walk_at "k") => `(tactic| (intro q; (try simp only [decide_eq_true_eq, decide_eq_false_iff_not, beq_iff_eq, beq_eq_false_iff_ne, ne_eq, Bool.not_eq_true', Bool.not_eq_false', Bool.and_eq_true, Bool.or_eq_true, Bool.and_eq_false_iff, Bool.or_eq_false_iff, Int.not_lt, Int.not_le, List.cons.injEq, and_true, reduceCtorEq, beq_self_eq_true, Bool.not_true, Bool.not_false, Bool.or_false, Bool.false_or, Bool.or_true, Bool.true_or, Bool.and_false, Bool.false_and, Bool.and_true, Bool.true_and, not_true_eq_false, Bool.false_eq_true] at q) <;> (try (exfalso; first | (cases q; done) | omega | contradiction))))
local macro_rules | `(tactic| walk_at "w") => `(tactic| repeat' (first | (walk_at "k") | walk_at "s"))
end Z
set_option Elab.async false
set_option linter.all false
set_option maxRecDepth 100000
set_option maxHeartbeats 4000000
namespace Z
open PySem PySem.Spec PyProof.Rows L2
end Z
set_option Elab.async false
set_option linter.all false
set_option maxRecDepth 100000
set_option maxHeartbeats 4000000
namespace Z
open PySem PySem.Spec PyProof.Rows L2
abbrev Tab := List (List Nat × (List D → Option FR))
def look : Tab → List Nat → Option (List D → Option FR)
  | [], _ => none
  | (k, F) :: t, s => if k = s then some F else look t s
def inE (es : Array DictEntry) (s : Str) : Option Value := findBy (fun k v => v.isStr k) es s
section
variable (P : Program) (w : World) (K : PySem.W.Frag) (mg : Str → Option Value) (base : Heap)
def FnAt (k : Nat) (f : Addr) (sp : Sp) : Prop := ∃ (fd : FuncData) (ps : List Str), PySem.W.keepIn K (.ref f) = true ∧ Binds K fd ps [] ∧ FnOk P w K mg base CX0 k f fd ps sp
def TabIn (k : Nat) (es : Array DictEntry) (tab : Tab) : Prop := ∀ s F, look tab s = some F → ∃ f, inE es ⟨s.toArray⟩ = some (.ref f) ∧ FnAt P w K mg base k f (spP K F)
def TabOk (k : Nat) (x : Str) (tab : Tab) : Prop := ∃ (a : Addr) (es : Array DictEntry) (ep : Nat) (sl : Array (Option Value)),
  mg x = some (.ref a) ∧ K.lookup a = some ⟨.type "dict", none, .dict es ep, sl⟩ ∧ (es.all fun e => isExactStrKey e.key) = true ∧ TabIn P w K mg base k es tab
end
section
variable {P : Program} {w : World} {K : PySem.W.Frag} {mg : Str → Option Value} {base : Heap}
theorem FnAt.mono {j k : Nat} {f : Addr} {sp : Sp} (h : FnAt P w K mg base j f sp) (le : j ≤ k) : FnAt P w K mg base k f sp :=
  let ⟨fd, ps, a, b, c⟩ := h
  ⟨fd, ps, a, b, c.mono le⟩
theorem Cal.at {k : Nat} {x : Str} {sp : Sp} {f : Addr} (c : Cal P w K mg base k x sp) (hm : mg x = some (.ref f)) : FnAt P w K mg base k f sp := by
  obtain ⟨g, fd, ps, h1, h2, h3, h4⟩ := c
  rw [h1] at hm
  cases hm
  exact ⟨fd, ps, h2, h3, h4⟩
end
end Z
set_option Elab.async false
set_option linter.all false
set_option maxRecDepth 100000
set_option maxHeartbeats 4000000
namespace Z
open PySem PySem.Spec PyProof.Rows L2
end Z
set_option Elab.async false
set_option linter.all false
set_option maxRecDepth 100000
set_option maxHeartbeats 4000000
namespace Z
open PySem PySem.Spec PyProof.Rows L2
end Z
set_option Elab.async false
set_option linter.all false
set_option maxRecDepth 100000
set_option maxHeartbeats 4000000
namespace Z
open PySem PySem.Spec PyProof.Rows L2
local macro_rules | `(tactic| walk_at "l") => `(tactic| first | (simp only [wipeG_nil, wipeG_cons, List.set_cons_succ, List.set_cons_zero, List.take_succ_cons, List.take_zero, List.take_nil, List.cons_append, List.nil_append, List.length_cons, List.length_nil, List.set_nil, List.getElem?_cons_zero, List.getElem?_cons_succ, Nat.zero_add, Nat.reduceAdd]; first | done | exact rfl) | exact rfl)
local macro_rules | `(tactic| walk_at "d") => `(tactic| first
  | with_reducible assumption
  | (with_reducible apply dr_div) <;> decide
  | (with_reducible apply dr_mod) <;> decide
  | (with_reducible apply dr_mulr); decide
  | (with_reducible apply dr_mull); decide
  | (with_reducible apply dr_divB) <;> omega
  | (with_reducible apply dr_mulrB) <;> omega
  | (with_reducible apply dr_mullB) <;> omega
  | (with_reducible apply dr_mulC) <;> omega
  | (with_reducible apply dr_mod) <;> omega
  | (with_reducible refine isi_of ?_ ?_); (exact rfl); (first | exact kb_int_int | exact kb_int_bool | exact kb_bool_bool | exact kb_bool_int | exact kb_str_int | exact kb_str_bool | exact kb_str_str | exact kb_int_str | exact kb_bool_str | exact kb_non_int | exact kb_non_bool | exact kb_non_str | exact kb_list_list | exact kb_tuple_tuple | exact kb_list_tuple | exact kb_tuple_list)
  | with_reducible exact dr_abs
  | (with_reducible exact dr_neL _ _)
  | (simp only [Cn.d]; with_reducible assumption)
  | (simp only [Cn.d]; with_reducible exact dr_neL _ _)
  | with_reducible exact in_ints _ _
  | (simp only [Cn.d]; with_reducible exact in_ints _ _)
  | ((with_reducible apply dr_cat); (try simp only [List.length_append, List.length_cons, List.length_nil]); omega)
  | with_reducible exact dr_eqI
  | with_reducible exact dr_eqB
  | with_reducible exact dr_neB
  | with_reducible exact dr_eqS
  | with_reducible exact dr_neI
  | with_reducible exact dr_neS
  | exact rfl)
local macro_rules | `(tactic| walk_at "c") => `(tactic| first | with_reducible assumption | (simp only [Cn.d]; with_reducible assumption))
local macro_rules | `(tactic| walk_at "e") => `(tactic| first
  | with_reducible exact er_C
  | with_reducible exact er_nil
  | (with_reducible apply er_varD); exact rfl
  | (with_reducible apply er_varO); exact rfl
  | (with_reducible apply er_varF); exact rfl
  | (with_reducible apply er_op); walk_at "e"; walk_at "e"; exact rfl; exact rfl; walk_at "d"; exact rfl
  | (with_reducible apply er_chain); walk_at "e"; walk_at "e"; exact rfl; exact rfl; walk_at "d"; (intro _h; walk_at "e"); exact rfl; walk_at "d"
  | (with_reducible apply er_slS); walk_at "e"; walk_at "o"; walk_at "o"; exact rfl; walk_at "z"
  | (with_reducible apply er_slL); walk_at "e"; walk_at "o"; walk_at "o"; exact rfl
  | (with_reducible apply er_list); walk_at "e"; exact rfl; exact rfl
  | (with_reducible apply er_tupL); walk_at "e"; exact rfl
  | (with_reducible apply er_un); walk_at "e"; exact rfl; exact rfl; exact rfl
  | (with_reducible apply er_tst); walk_at "e"
  | (with_reducible apply er_tru); walk_at "e"; exact rfl; exact rfl
  | (with_reducible apply er_andT); walk_at "e"; (intro _h; walk_at "e")
  | (with_reducible apply er_orT); walk_at "e"; (intro _h; walk_at "e")
  | (with_reducible apply er_andTT); walk_at "e"; exact rfl; walk_at "e"
  | (with_reducible apply er_orTF); walk_at "e"; exact rfl; walk_at "e"
  | (with_reducible apply er_notT); walk_at "e"
  | (with_reducible apply er_andV); walk_at "e"; (intro _h; walk_at "e")
  | (with_reducible apply er_orV); walk_at "e"; (intro _h; walk_at "e")
  | (with_reducible apply er_notV); walk_at "e"
  | (with_reducible apply er_andVT); walk_at "e"; exact rfl; walk_at "e"
  | (with_reducible apply er_orVF); walk_at "e"; exact rfl; walk_at "e"
  | (with_reducible apply er_ix); walk_at "e"; walk_at "e"; exact rfl; walk_at "x"
  | (with_reducible apply er_callS); walk_at "e"; exact rfl; walk_at "d"; exact rfl
  | (with_reducible apply er_cons); walk_at "e"; walk_at "e"
  | (with_reducible apply er_callG); walk_at "e"; exact rfl; exact rfl; walk_at "c"; exact rfl
  | (with_reducible apply er_callH); walk_at "e"; exact rfl; exact rfl; walk_at "c"; exact rfl
  | (with_reducible apply er_callV); walk_at "e"; exact rfl; walk_at "c"; exact rfl
  | (with_reducible apply er_callGF); walk_at "e"; exact rfl; exact rfl; walk_at "c"; exact rfl
  | (with_reducible apply er_callHF); walk_at "e"; exact rfl; exact rfl; walk_at "c"; exact rfl
  | (with_reducible apply er_callM); walk_at "e"; exact rfl; exact rfl; exact rfl; exact rfl; exact rfl; walk_at "c"; exact rfl
  | (with_reducible apply er_catL); walk_at "e"; walk_at "e"; exact rfl; exact rfl; walk_at "z"
  | (with_reducible apply er_mt); walk_at "e"; exact rfl; exact rfl; walk_at "e"; exact rfl; exact rfl; walk_at "m"; exact rfl
  | (with_reducible apply er_tup); walk_at "e"; exact rfl; walk_at "z" 
  | (with_reducible apply er_lst); walk_at "e"; exact rfl; walk_at "z")
local macro_rules | `(tactic| walk_at "o") => `(tactic| first | exact er_zoN | ((with_reducible apply er_zoS); walk_at "e"))
local macro_rules | `(tactic| walk_at "x") => `(tactic| first | with_reducible assumption | (simp only [Cn.d]; with_reducible assumption) | exact rfl)
local macro_rules | `(tactic| walk_at "m") => `(tactic| first | with_reducible assumption | (simp only [Cn.d]; with_reducible assumption) | exact rfl)
local macro_rules | `(tactic| walk_at "st") => `(tactic| first
  | ((with_reducible apply set_dat); (walk_at "e"); (exact rfl); walk_at "l")
  | ((with_reducible apply set_own); (walk_at "e"); (exact Nat.le_of_ble_eq_true rfl); (exact rfl); (exact rfl); walk_at "l")
  | ((with_reducible apply asg_run); (walk_at "e"); (exact rfl); walk_at "l")
  | ((with_reducible apply aug_run); (exact rfl); (exact rfl); (walk_at "e"); (exact rfl); (walk_at "d"); (exact rfl); (exact rfl); walk_at "l")
  | ((with_reducible apply sto_run); (walk_at "e"); (walk_at "e"); (walk_at "e"); (exact rfl); (walk_at "x"); walk_at "l")
  | ((with_reducible apply app_run); (walk_at "e"); (exact rfl); (walk_at "e"); (exact rfl); (exact rfl); (walk_at "z"); walk_at "l"))
local macro_rules | `(tactic| walk_at "z") => `(tactic| first | assumption | exact Nat.le_of_ble_eq_true rfl | (simp; omega))
local macro_rules | `(tactic| walk_at "s") => `(tactic| first
  | with_reducible apply sr_nx
  | with_reducible apply sr_assoc
  | with_reducible apply ap_fg
  | ((with_reducible apply fgK_nx); (exact rfl); (walk_at "l"); skip)
  | ((with_reducible apply fgK_ct); (exact rfl); (walk_at "l"); skip)
  | ((with_reducible apply fgK_bk); (exact rfl); (walk_at "l"); skip)
  | with_reducible apply fgK_ret
  | with_reducible apply sr_bk1
  | with_reducible apply sr_ct1
  | with_reducible apply sr_nx1
  | with_reducible apply sr_ct
  | with_reducible apply sr_bk
  | (with_reducible apply sr_retS); (walk_at "e"); skip
  | (with_reducible apply sr_ret); (walk_at "e"); skip
  | (with_reducible apply sr_if); (walk_at "e"); (walk_at "l")
  | (with_reducible apply sr_if1); (walk_at "e"); (walk_at "l")
  | (with_reducible apply seq_nx); (walk_at "st")
  | (with_reducible apply one_nx); (walk_at "st"))
local macro_rules | `(tactic| walk_at "r") => `(tactic| repeat' (first | (intro _) | walk_at "s"))
local macro_rules | `(tactic| walk_at "k") => `(tactic| (intro q; (try simp only [decide_eq_true_eq, decide_eq_false_iff_not, beq_iff_eq, beq_eq_false_iff_ne, ne_eq, Bool.not_eq_true', Bool.not_eq_false', Bool.and_eq_true, Bool.or_eq_true, Bool.and_eq_false_iff, Bool.or_eq_false_iff, Int.not_lt, Int.not_le, List.cons.injEq, and_true, reduceCtorEq, beq_self_eq_true, Bool.not_true, Bool.not_false, Bool.or_false, Bool.false_or, Bool.or_true, Bool.true_or, Bool.and_false, Bool.false_and, Bool.and_true, Bool.true_and, not_true_eq_false, Bool.false_eq_true] at q) <;> (try (exfalso; first | (cases q; done) | omega | contradiction))))
local macro_rules | `(tactic| walk_at "w") => `(tactic| repeat' (first | (walk_at "k") | walk_at "s"))
def VW (v : D) : Prop := match v with
  | .non => True
  | .bl _ => True
  | .int i => i.natAbs ≤ 10 ^ 15
  | .str t => t.length ≤ 10000 ∧ ∀ c ∈ t, c < 128
  | _ => False
theorem VW.scal {v : D} (h : VW v) : v.scal = true := by cases v <;> first | exact h.elim | rfl
theorem VW.rok {v : D} (h : VW v) : v.rok = true ∧ v.dp = 0 := by
  cases v with
  | non => exact ⟨rfl, rfl⟩
  | bl b => exact ⟨rfl, rfl⟩
  | int i => exact ⟨decide_eq_true (Nat.lt_of_le_of_lt (show i.natAbs ≤ 10 ^ 15 from h) (by decide)), rfl⟩
  | str t =>
    obtain ⟨h1, h2⟩ := (show t.length ≤ 10000 ∧ ∀ c ∈ t, c < 128 from h)
    refine ⟨?_, rfl⟩
    show (t.all fun c => decide (c < 1114112)) = true
    rw [List.all_eq_true]
    intro c hc
    exact decide_eq_true (Nat.lt_trans (h2 c hc) (by decide))
  | tup _ => exact h.elim
  | lst _ => exact h.elim
  | raw _ => exact h.elim
  | dic _ _ => exact h.elim
end Z
set_option Elab.async false
set_option linter.all false
set_option maxRecDepth 100000
set_option maxHeartbeats 4000000
namespace Z
open PySem PySem.Spec PyProof.Rows L2
end Z
set_option Elab.async false
set_option linter.all false
set_option maxRecDepth 100000
set_option maxHeartbeats 4000000
namespace Z
open PySem PySem.Spec PyProof.Rows L2
section
variable {mo me ma mb : ZM} {mr : ZAr} {g g1 g2 : G} {r : R} {rs : List R} {n : Nat}
theorem forL_all {st : SM} {tg : TD} : ∀ {L : List D}, (∀ d ∈ L, ∃ g1, tg d g = some g1 ∧ st g1 = some (.nx, g)) → forL tg st L g = some (.nx, g)
  | [], _ => rfl
  | d :: L, h => by
    obtain ⟨g1, h1, h2⟩ := h d List.mem_cons_self
    exact forL_nx h1 h2 (forL_all fun x hx => h x (List.mem_cons_of_mem _ hx))
end
end Z
set_option Elab.async false
set_option linter.all false
set_option maxRecDepth 100000
set_option maxHeartbeats 4000000
namespace Z
open PySem PySem.Spec PyProof.Rows L2
end Z
set_option Elab.async false
set_option linter.all false
set_option maxRecDepth 100000
set_option maxHeartbeats 4000000
namespace Z
open PySem PySem.Spec PyProof.Rows L2
end Z
set_option Elab.async false
set_option linter.all false
set_option maxRecDepth 100000
set_option maxHeartbeats 4000000
namespace Z
open PySem PySem.Spec PyProof.Rows L2
end Z
set_option Elab.async false
set_option linter.all false
set_option maxRecDepth 100000
set_option maxHeartbeats 4000000
namespace PySem
open Sem (wp)
end PySem
namespace Z
open PySem PySem.Spec PyProof.Rows L2
end Z
set_option Elab.async false
set_option linter.all false
set_option maxRecDepth 100000
set_option maxHeartbeats 4000000
namespace Z
open PySem PySem.Spec PyProof.Rows L2
end Z
namespace Z
open PySem PySem.Spec PyProof.Rows L2
end Z
set_option Elab.async false
set_option linter.all false
set_option maxRecDepth 100000
set_option maxHeartbeats 4000000
namespace Z
open PySem PySem.Spec PyProof.Rows L2
end Z
set_option Elab.async false
set_option linter.all false
set_option maxRecDepth 100000
set_option maxHeartbeats 4000000
namespace Z
open PySem PySem.Spec PyProof.Rows L2
section
variable {C : Ct} {Hs : Hp} {A : List Addr} {g g' : List Sl} {σ : L2.St} {H H' : Hp} {j : Nat}
/-- the slot j's rows changed, the others stay -/
theorem RwOk.stepJ (w : RwOk C Hs A g σ H) {a : Addr} {ks ks' : List Addr} {ls ls' : List (List D)} (ej : g[j]? = some (.rws ls)) (haj : A[j]? = some a) (kj : Kd C.K Hs C.H0 H a ks ls) (kj' : Kd C.K Hs C.H0 H' a ks' ls')
    (hx : ∀ x o, H x = some o → x ∉ a :: ks → (∀ (i : Nat) (c : Cn) (p l : Bool), g[i]? = some (.own c p l) → A[i]? ≠ some x) → H' x = some o)
    (hg : ∀ (i : Nat) (ms : List (List D)), g'[i]? = some (.rws ms) → (i = j ∧ ms = ls') ∨ (i ≠ j ∧ g[i]? = some (.rws ms)))
    (ho : ∀ (i : Nat) (c : Cn) (p l : Bool), g'[i]? = some (.own c p l) → (∃ c0 : Cn, g[i]? = some (.own c0 p l)) ∧ ∀ b, A[i]? = some b → b ∉ a :: ks')
    (hks : ∀ x ∈ a :: ks', x ∈ a :: ks ∨ ∃ (t : Nat) (c : Cn) (p l : Bool), g[t]? = some (.own c p l) ∧ A[t]? = some x) : RwOk C Hs A g' σ H' := by
  obtain ⟨a0, ks0, t1, t2, t3, t4, t5⟩ := w j ls ej
  rw [haj] at t1
  cases t1
  have ek : ks0 = ks := by
    have e := t3.hd.symm.trans kj.hd
    have e : ks0.map V.ref = ks.map V.ref := by injection (Option.some.inj e)
    exact List.map_inj_right (fun _ _ h => by injection h) |>.mp e
  subst ek
  -- of another slot
  have oth : ∀ (i : Nat) (ms : List (List D)) (b : Addr) (bs : List Addr), i ≠ j → g[i]? = some (.rws ms) → A[i]? = some b → Kd C.K Hs C.H0 H b bs ms →
      (∀ (k : Nat) (c : Cn) (p l : Bool) (y : Addr), g[k]? = some (.own c p l) → A[k]? = some y → y ∉ b :: bs) → ∀ x ∈ b :: bs, x ∉ a :: ks0 ∧ ∀ o, H x = some o → H' x = some o := fun i ms b bs ne e eb kb no x m => by
    have n1 : x ∉ a :: ks0 := fun m2 => ne (t5 i ms b x e eb (by rw [kb.hd, kidsOf_refs]; exact m) m2)
    exact ⟨n1, fun o q => hx x o q n1 fun k c p l hk z => no k c p l x hk z m⟩
  have ntk : ∀ (i : Nat) (ms : List (List D)) (b : Addr) (bs : List Addr), i ≠ j → g[i]? = some (.rws ms) → A[i]? = some b → Kd C.K Hs C.H0 H b bs ms →
      (∀ (k : Nat) (c : Cn) (p l : Bool) (y : Addr), g[k]? = some (.own c p l) → A[k]? = some y → y ∉ b :: bs) → ∀ x ∈ b :: bs, x ∉ a :: ks' := fun i ms b bs ne e eb kb no x m m2 => by
    rcases hks x m2 with z | ⟨t, c, p, l, z1, z2⟩
    · exact (oth i ms b bs ne e eb kb no x m).1 z
    · exact no t c p l x z1 z2 m
  intro i ms e
  rcases hg i ms e with ⟨ei, em⟩ | ⟨ne, e⟩
  · subst ei
    subst em
    refine ⟨a, ks', haj, t2, kj', fun k c p l y ek ay => (ho k c p l ek).2 y ay, fun k ns y x ek ay m1 m2 => ?_⟩
    rcases hg k ns ek with ⟨z, _⟩ | ⟨nk, ek⟩
    · exact z
    · obtain ⟨b, bs, r1, _, r3, r4, _⟩ := w k ns ek
      rw [ay] at r1
      cases r1
      rw [(oth k ns y bs nk ek ay r3 r4 y List.mem_cons_self).2 _ r3.hd, kidsOf_refs] at m1
      exact (ntk k ns y bs nk ek ay r3 r4 x m1 m2).elim
  · obtain ⟨b, bs, r1, r2, r3, r4, r5⟩ := w i ms e
    have ot := oth i ms b bs ne e r1 r3 r4
    refine ⟨b, bs, r1, r2, ⟨(ot b List.mem_cons_self).2 _ r3.hd, r3.nd, r3.fr, r3.kd.move (Same.refl _) fun x m => (ot x (List.mem_cons_of_mem _ m)).2⟩, fun k c p l y ek ay => ?_, fun k ns y x ek ay m1 m2 => ?_⟩
    · obtain ⟨c0, z⟩ := (ho k c p l ek).1
      exact r4 k c0 p l y z ay
    · rcases hg k ns ek with ⟨z, _⟩ | ⟨nk, ek⟩
      · subst z
        rw [haj] at ay
        cases ay
        rw [kj'.hd, kidsOf_refs] at m1
        exact (ntk i ms b bs ne e r1 r3 r4 x m2 m1).elim
      · obtain ⟨y', ys, q1, _, q3, q4, _⟩ := w k ns ek
        rw [ay] at q1
        cases q1
        rw [(oth k ns y ys nk ek ay q3 q4 y List.mem_cons_self).2 _ q3.hd, ← q3.hd] at m1
        exact r5 k ns y x ek ay m1 m2
/-- a heap changed at things that nobody else knows -/
theorem Ok.chR (ok : Ok C Hs A g σ H) (hl : g'.length = g.length) {F : Addr → Prop} (hF : ∀ x, F x → Hs x = none ∧ C.H0 x = none) (hH : ∀ x, ¬ F x → H' x = H x)
    (hnF : ∀ (i : Nat) (c : Cn) (p l : Bool) (b : Addr), g'[i]? = some (.own c p l) → A[i]? = some b → ¬ F b)
    (hd : ∀ (i : Nat) (d : D), g'[i]? = some (.dat d) → g[i]? = some (.dat d)) (hf : ∀ (i : Nat) (d : D), g'[i]? = some (.frz d) → g[i]? = some (.frz d)) (ho : ∀ (i : Nat) (c : Cn) (p l : Bool), g'[i]? = some (.own c p l) → g[i]? = some (.own c p l))
    (hp : ∀ (i : Nat) (c : Cn) (l : Bool), g[i]? = some (.own c true l) → g'[i]? = some (.own c true l)) (hk : ∀ (i : Nat) (c : Cn) (p : Bool), g[i]? = some (.own c p true) → g'[i]? = some (.own c p true)) (hr : RwOk C Hs A g' σ H') : Ok C Hs A g' σ H' := by
  refine ⟨ok.ln, by rw [hl]; exact ok.lg, by rw [hl]; exact ok.la, ok.base, fun b o e => ?_, fun i d e => ok.dat i d (hd i d e), fun i d e => ok.frz i d (hf i d e), fun i c p l e => ?_, fun i k c1 p1 l1 c2 p2 l2 a' e1 e2 h1 h2 => ok.inj i k _ _ _ _ _ _ a' (ho _ _ _ _ e1) (ho _ _ _ _ e2) h1 h2, ok.grow, fun b o e k => ?_, fun q hq => ?_, fun i c l a' e ha => ok.pin1 i c l a' (ho _ _ _ _ e) ha, fun q hq => ?_, hr⟩
  · rw [hH b (fun z => by rw [(hF b z).1] at e; cases e)]
    exact ok.same b o e
  · obtain ⟨a, o, q1, q2, q3, q4, q5⟩ := ok.own i c p l (ho _ _ _ _ e)
    exact ⟨a, o, q1, q2, q3, by rw [hH a (hnF i c p l a e q1)]; exact q4, q5⟩
  · rw [hH b (fun z => by rw [(hF b z).2] at e; cases e)]
    exact ok.keep b o e k
  · obtain ⟨c, l, h1, h2⟩ := ok.pinned q hq
    exact ⟨c, l, hp _ _ _ h1, h2⟩
  · obtain ⟨p, h1, h2⟩ := ok.locked q hq
    exact ⟨p, hk _ _ _ h1, h2⟩
theorem KdOk.at {K : PySem.W.Frag} {Hs H : Hp} : ∀ {ks : List Addr} {ls : List (List D)} {k : Nat} {b : Addr}, KdOk K Hs H ks ls → ks[k]? = some b → ∃ l us, ls[k]? = some l ∧ H b = some (.lst us) ∧ DzA K Hs us l
  | b :: bs, l :: ls, 0, _, h, e => by
    cases e
    obtain ⟨us, h1, h2⟩ := h.1
    exact ⟨l, us, rfl, h1, h2⟩
  | b :: bs, l :: ls, k + 1, _, h, e => KdOk.at (k := k) h.2 e
  | [], _, k, _, _, e => by simp at e
  | _ :: _, [], _, _, h, _ => h.elim
theorem KdOk.put {K : PySem.W.Frag} {Hs H : Hp} {l' : List D} {us' : List V} (hz : DzA K Hs us' l') : ∀ {ks : List Addr} {ls : List (List D)} {k : Nat} {b : Addr}, KdOk K Hs H ks ls → ks.Nodup → ks[k]? = some b → KdOk K Hs (upd H b (.lst us')) ks (ls.set k l')
  | b :: bs, l :: ls, 0, _, h, nd, e => by
    cases e
    have nd := List.nodup_cons.mp nd
    exact ⟨⟨us', upd_same, hz⟩, KdOk.move (Same.refl _) h.2 fun x m o q => by rw [upd_ne (fun z => nd.1 (by rw [← z]; exact m))]; exact q⟩
  | b :: bs, l :: ls, k + 1, b', h, nd, e => by
    have nd := List.nodup_cons.mp nd
    have m : b' ∈ bs := List.mem_of_getElem? (i := k) e
    obtain ⟨us, h1, h2⟩ := h.1
    exact ⟨⟨us, by rw [upd_ne (fun z => nd.1 (by rw [z]; exact m))]; exact h1, h2⟩, KdOk.put (k := k) hz h.2 nd.2 e⟩
  | [], _, k, _, _, _, e => by simp at e
  | _ :: _, [], _, _, h, _, _ => h.elim
/-- one row is written -/
theorem Ok.kidW (ok : Ok C Hs A g σ H) {a b : Addr} {ks : List Addr} {ls : List (List D)} {k : Nat} {l' : List D} {us' : List V} (e : g[j]? = some (.rws ls)) (ha : A[j]? = some a) (hH : H a = some (.lst (ks.map V.ref))) (hb : ks[k]? = some b) (hz : DzA C.K Hs us' l') :
    Ok C Hs A (g.set j (.rws (ls.set k l'))) σ (upd H b (.lst us')) := by
  obtain ⟨a0, ks0, t1, t2, t3, t4, t5⟩ := ok.rws j ls e
  rw [ha] at t1
  cases t1
  have ek : ks0 = ks := by
    have e := t3.hd.symm.trans hH
    have e : ks0.map V.ref = ks.map V.ref := by injection (Option.some.inj e)
    exact List.map_inj_right (fun _ _ h => by injection h) |>.mp e
  subst ek
  have mb : b ∈ ks0 := List.mem_of_getElem? hb
  have nd := List.nodup_cons.mp t3.nd
  have nab : a ≠ b := fun z => nd.1 (z ▸ mb)
  have old : ∀ {i : Nat} {s : Sl}, (g.set j (.rws (ls.set k l')))[i]? = some s → (i = j ∧ s = .rws (ls.set k l')) ∨ (i ≠ j ∧ g[i]? = some s) := fun {i s} e => by
    rcases set_some e with ⟨ei, e, _⟩ | ⟨ne, e⟩
    · exact .inl ⟨ei, e⟩
    · exact .inr ⟨ne, e⟩
  have own' : ∀ (i : Nat) (c : Cn) (p l : Bool), (g.set j (.rws (ls.set k l')))[i]? = some (.own c p l) → g[i]? = some (.own c p l) := fun i c p l e => by
    rcases old e with ⟨_, e⟩ | ⟨_, e⟩
    · cases e
    · exact e
  have keepO : ∀ (i : Nat) (c : Cn) (p l : Bool), g[i]? = some (.own c p l) → (g.set j (.rws (ls.set k l')))[i]? = some (.own c p l) := fun i c p l q => by
    rw [List.getElem?_set_ne (fun z => by rw [← z, e] at q; cases q)]
    exact q
  refine ok.chR (F := fun x => x = b) (by rw [List.length_set]) (fun x z => by rw [z]; exact t3.fr b (List.mem_cons_of_mem _ mb)) (fun x z => upd_ne z) (fun i c p l y q1 q2 z => t4 i c p l y (own' _ _ _ _ q1) q2 (by rw [z]; exact List.mem_cons_of_mem _ mb)) (fun i d q => ?_) (fun i d q => ?_) own' (fun i c l q => keepO _ _ _ _ q) (fun i c p q => keepO _ _ _ _ q) ?_
  · rcases old q with ⟨_, q⟩ | ⟨_, q⟩
    · cases q
    · exact q
  · rcases old q with ⟨_, q⟩ | ⟨_, q⟩
    · cases q
    · exact q
  · refine RwOk.stepJ ok.rws (ks' := ks0) (ls' := ls.set k l') e ha t3 ⟨by rw [upd_ne nab]; exact t3.hd, t3.nd, t3.fr, t3.kd.put hz nd.2 hb⟩ (fun x o q n _ => by rw [upd_ne (fun z => n (by rw [z]; exact List.mem_cons_of_mem _ mb))]; exact q) (fun i ms q => ?_) (fun i c p l q => ⟨⟨c, own' _ _ _ _ q⟩, fun y hy => t4 i c p l y (own' _ _ _ _ q) hy⟩) (fun x m => .inl m)
    rcases old q with ⟨ei, q⟩ | ⟨ne, q⟩
    · cases q; exact .inl ⟨ei, rfl⟩
    · exact .inr ⟨ne, q⟩
end
end Z
set_option Elab.async false
set_option linter.all false
set_option maxRecDepth 100000
set_option maxHeartbeats 4000000
namespace Z
open PySem PySem.Spec PyProof.Rows L2
section
variable {X : Cx} {pos : Pos} {st : Stmt} {s : SM}
/-- for x in xs: x.append(d) -/
def zForApp (n j i : Nat) (d : D) : SM := fun g => match g[j]? with
  | some (.rws ls) => if (i != j && freeAt i g && ls.all fun l => decide (l.length < sizeLine)) = true then some (.nx, ((g.set j (.rws (ls.map (· ++ [d])))).set i .un).take n) else none
  | _ => none
theorem map_at {α : Type} (f : α → α) (l : List α) (k : Nat) (h : k < l.length) : ((l.take k).map f ++ l.drop k).set k (f l[k]) = (l.take (k + 1)).map f ++ l.drop (k + 1) := by
  have hl : ((l.take k).map f).length = k := by rw [List.length_map, List.length_take]; omega
  rw [List.set_append_right _ _ (by omega), hl, Nat.sub_self, List.drop_eq_getElem_cons h, List.set_cons_zero, List.take_succ_eq_append_getElem h, List.map_append, List.append_assoc]
  rfl
theorem map_get {α : Type} (f : α → α) (l : List α) (k : Nat) (h : k < l.length) : ((l.take k).map f ++ l.drop k)[k]? = some l[k] := by
  have hl : ((l.take k).map f).length = k := by rw [List.length_map, List.length_take]; omega
  rw [List.getElem?_append_right (by omega), hl, Nat.sub_self, List.drop_eq_getElem_cons h]
  rfl
theorem zs_forApp {i j : Nat} {x y : Str} {p1 p2 p3 apos cpos spos : Pos} {e : Expr} {d : D} {cv : V} (hp : PassesOwn (model X.prog X.w) X.A X.env X.xe) (hc : X.calm = true) (hN : X.N.Nodup) (hi : X.N[i]? = some x) (hlx : Loc X.env.scope x)
    (hy : PE X (.Name y p2) (tVar j)) (hx : PE X (.Name x p3) (tVar i)) (he : PE X e (tC cv)) (hv : ∀ H, Dz X.K H cv d) (hj : j < X.N.length) (hf : X.fn x = true ∨ X.env.scope.names.lookup x = some .local := by first | exact .inl rfl | exact .inr rfl | assumption)
    (hbase : attributeBase (.Name x p3) "append" X.env (eval (.Name x p3) X.env) = eval (.Name x p3) X.env := by rfl)
    (hfew : ((backTo cpos (starEach [e] X.env)).all (fun x => !x.1) && (backToKw cpos (keywordEach [] X.env)).all (fun x => x.1.isSome)
      && decide ([e].length + ([] : List Keyword).length + (if ([] : List Keyword).isEmpty then 0 else 1) < 30)) = true := by rfl)
    (hline : (apos.endLine == cpos.line) = true := by rfl) (hs : starEach [e] X.env = (false, eval e X.env) :: starEach [] X.env := by rfl) (hplain : (backTo cpos (starEach [] X.env)).any (·.1) = false := by rfl)
    (hsw : swapsWith (.Call (.Attribute (.Name x p3) "append" apos) [e] [] cpos) none spos.line X.env = pure false := by rfl)
    (hfs : ∀ v, foldedSetIterable (.Name y p2) X.env v = pure v := by intro _; rfl) :
    ZS X (.For (.Name x p1) (.Name y p2) [.Expr (.Call (.Attribute (.Name x p3) "append" apos) [e] [] cpos) spos] [] pos) (zForApp X.N.length j i d) := by
  refine PS.of (ps_for hp hc (pi_list hy) (pg_name hN hi hlx hf) (pss_one (ps_expr (pe_bm PySem.F.plainAttrs_list PySem.F.slot_list_append PySem.F.type_list_append mt_append hx (pa_cons he pa_nil hs) hbase hfew hline hs hplain) hsw)) hfs) fun W σ H ⟨C, Hs, A, g, fl, g', hK, hn, ok, e, q⟩ => ?_
  unfold zForApp at e
  split at e
  · rename_i ls hg
    split at e
    · rename_i hcond
      cases e
      simp only [Bool.and_eq_true, bne_iff_ne, ne_eq, List.all_eq_true, decide_eq_true_eq] at hcond
      obtain ⟨⟨nij, hfree⟩, hlen⟩ := hcond
      have hin : i < C.n := by rw [hn]; exact (List.getElem?_eq_some_iff.mp hi).1
      have hjn : j < C.n := by rw [hn]; exact hj
      have hjl := (List.getElem?_eq_some_iff.mp hg).1
      have hil : i < g.length := by have := ok.lg; omega
      obtain ⟨a, ks, r1, r2, r3, _⟩ := ok.rws j ls hg
      have hkl : ks.length = ls.length := r3.kd.len
      refine ⟨.ref a, r2 hjn, a, rfl, ⟨_, SqL.of r3.hd⟩, ?_⟩
      let gk : Nat → G := fun k => (g.set j (.rws ((ls.take k).map (· ++ [d]) ++ ls.drop k))).set i .un
      have gj : ∀ k, (gk k)[j]? = some (.rws ((ls.take k).map (· ++ [d]) ++ ls.drop k)) := fun k => by
        show ((g.set j _).set i .un)[j]? = _
        rw [List.getElem?_set_ne nij, List.getElem?_set_self hjl]
      have gf : ∀ k, freeAt i (gk k) = true := fun k => by
        unfold freeAt
        rw [show (gk k)[i]? = some .un from List.getElem?_set_self (by rw [List.length_set]; exact hil)]
      refine ⟨fun k m σ' H' => m = ls.length - k ∧ k ≤ ls.length ∧ ∃ Hs' A', Same Hs Hs' ∧ Ok C Hs' A' (gk k) σ' H' ∧ A'[j]? = some a ∧ H' a = some (.lst (ks.map V.ref)), ⟨ls.length, by omega, Nat.zero_le _, Hs, A, Same.refl _, ?_, r1, r3.hd⟩, ?_⟩
      · have e0 : g.set j (.rws ((ls.take 0).map (· ++ [d]) ++ ls.drop 0)) = g := by
          rw [List.take_zero, List.map_nil, List.nil_append, List.drop_zero]
          obtain ⟨h1, h2⟩ := List.getElem?_eq_some_iff.mp hg
          rw [← h2, List.set_getElem_self]
        show Ok C Hs A ((g.set j _).set i .un) σ H
        rw [e0]
        exact ok.put hfree rfl (fun _ _ => rfl) (.inl rfl)
      · rintro k m σ' H' ⟨rfl, hk, Hs', A', s', ok', a', hH'⟩
        by_cases hlt : k < ls.length
        · have hkk : k < ks.length := by omega
          refine .inr ⟨⟨_, .ref ks[k], SqL.of hH', by rw [List.getElem?_map, List.getElem?_eq_getElem hkk]; rfl⟩, fun σ2 H2 => ∃ Hs2 A2, Same Hs Hs2 ∧ Ok C Hs2 A2 (gk (k + 1)) σ2 H2 ∧ A2[j]? = some a ∧ H2 a = some (.lst (ks.map V.ref)), fun σ2 H2 ⟨Hs2, A2, z1, z2, z3, z4⟩ => ⟨ls.length - (k + 1), by omega, rfl, hlt, Hs2, A2, z1, z2, z3, z4⟩, fun v H2 yv => ?_⟩
          obtain ⟨rfl, yv⟩ := yv
          have ev := yv _ (SqL.of hH')
          rw [List.getElem?_map, List.getElem?_eq_getElem hkk] at ev
          cases ev
          have ok2 : Ok C Hs' A' (gk k) (σ'.set i (some (.ref ks[k]))) H2 := by
            have w := ok'.put (σ' := σ'.set i (some (.ref ks[k]))) (gf k) (by rw [List.length_set]) (fun t ne => List.getElem?_set_ne (Ne.symm ne)) (.inl rfl)
            have e2 : (gk k).set i .un = gk k := by
              show (((g.set j _).set i .un).set i .un) = _
              rw [List.set_set]
            rw [e2] at w
            exact w
          obtain ⟨a1, ks1, u1, _, u3, _⟩ := ok2.rws j _ (gj k)
          rw [a'] at u1
          cases u1
          have ek : ks1 = ks := by
            have e := u3.hd.symm.trans hH'
            have e : ks1.map V.ref = ks.map V.ref := by injection (Option.some.inj e)
            exact List.map_inj_right (fun _ _ h => by injection h) |>.mp e
          subst ek
          obtain ⟨l, us, w1, w2, w3⟩ := u3.kd.at (k := k) (List.getElem?_eq_getElem hkk)
          rw [map_get (· ++ [d]) ls k hlt] at w1
          cases w1
          have hself : (σ'.set i (some (V.ref ks1[k])))[i]? = some (some (.ref ks1[k])) := List.getElem?_set_self (by rw [ok'.ln]; exact hin)
          have hz : us.length < sizeLine := by rw [w3.length]; exact hlen _ (List.getElem_mem hlt)
          have okW := ok2.kidW (l' := ls[k] ++ [d]) (us' := us ++ [cv]) (gj k) a' hH' (List.getElem?_eq_getElem hkk) (w3.append (.cons (by rw [hK]; exact hv _) .nil))
          have eg : (gk k).set j (.rws (((ls.take k).map (· ++ [d]) ++ ls.drop k).set k (ls[k] ++ [d]))) = gk (k + 1) := by
            show ((g.set j _).set i .un).set j _ = (g.set j _).set i .un
            rw [map_at (· ++ [d]) ls k hlt, List.set_comm _ _ nij, List.set_set]
          rw [eg] at okW
          have nab : a ≠ ks1[k] := fun z => (List.nodup_cons.mp u3.nd).1 (by rw [z]; exact List.getElem_mem hkk)
          refine ⟨.ref ks1[k], hself, .inl ⟨rfl, us, SqL.of w2⟩, ks1[k], us, cv, rfl, rfl, w2, hz, Hs', A', s', okW, a', ?_⟩
          rw [upd_ne nab]
          exact hH'
        · have ek : k = ls.length := by omega
          subst ek
          refine .inl ⟨⟨_, SqL.of hH', by rw [List.length_map]; omega⟩, ?_⟩
          have okc := ok'.cut
          rw [hn] at okc
          have e3 : gk ls.length = (g.set j (.rws (ls.map (· ++ [d])))).set i .un := by
            show (g.set j (.rws ((ls.take ls.length).map (· ++ [d]) ++ ls.drop ls.length))).set i .un = _
            rw [List.take_length, List.drop_length, List.append_nil]
          rw [e3] at okc
          exact q Hs' _ σ' H' s' okc
    · cases e
  · cases e
end
end Z
set_option Elab.async false
set_option linter.all false
set_option maxRecDepth 100000
set_option maxHeartbeats 4000000
namespace Z
open PySem PySem.Spec PyProof.Rows L2
theorem forApp_run {n j i : Nat} {d : D} {g g4 : G} {ls : List (List D)} (hg : g[j]? = some (.rws ls)) (ne : i ≠ j) (hf : freeAt i g = true) (hz : ∀ l ∈ ls, l.length < sizeLine) (e : ((g.set j (.rws (ls.map (· ++ [d])))).set i .un).take n = g4) : zForApp n j i d g = some (.nx, g4) := by
  have c : (i != j && freeAt i g && ls.all fun l => decide (l.length < sizeLine)) = true := by
    rw [hf, Bool.and_true, Bool.and_eq_true, List.all_eq_true]
    exact ⟨by simpa using ne, fun l hl => decide_eq_true (hz l hl)⟩
  unfold zForApp; simp only [hg, c, if_true, e]
/-- a call that gives a list of own lists -/
theorem er_callR {f : List D → Option FR} {mr : ZAr} {g g1 g2 : G} {rs : List R} {ds : List D} {ls : List (List D)} (h1 : mr g = some (rs, g1)) (h2 : rdAll g1 rs = some ds) (h2' : frzAll rs g1 = some (ds, g2)) (h3 : f ds = some (.newR ls)) : zCall f mr g = some (.bor g2.length, g2 ++ [.rws ls]) := by
  unfold zCall; simp only [h1, h2, h2', h3, Option.bind_eq_bind, Option.bind_some]
theorem set_rws {n i t : Nat} {m : ZM} {g g1 g4 : G} {ls : List (List D)} (h1 : m g = some (.bor t, g1)) (ht : n ≤ t) (hg : g1[t]? = some (.rws ls)) (hf : freeAt i g1 = true) (e : ((g1.set i (.rws ls)).set t .un).take n = g4) : zSet n i m g = some (.nx, g4) := by
  unfold zSet setR; simp only [h1, if_pos ht, hg, hf, if_true, e, Option.bind_eq_bind, Option.bind_some]
end Z
set_option Elab.async false
set_option linter.all false
set_option maxRecDepth 100000
set_option maxHeartbeats 4000000
set_option Elab.async false
set_option linter.all false
set_option maxRecDepth 100000
set_option maxHeartbeats 4000000
set_option Elab.async false
set_option linter.all false
set_option maxRecDepth 100000
set_option maxHeartbeats 4000000
namespace ZN
open PySem PySem.Spec PyProof.Rows L2
/-- the tuple at a is the key k -/
def NK (h : Heap) (k : NestedKey) (a : Addr) : Prop := NestedIs h k (.ref a) ∧ k.depth ≤ 8
section
variable {P : Program} {w : World}
mutual
theorem ofA_key : ∀ (k : NestedKey) (v : Value) (n : Nat) (A : Around) (E : Value → Shared → Prop) (s : Shared) (Q : Bool → Shared → Prop), NestedIs s.heap k v → k.depth ≤ n → Q false s → wpAny (model P w) A (ofAClassStatement n v) Q E s
  | .none, _, n, A, E, s, Q, x, _, q => by cases x; cases n <;> exact wpAny_pure q
  | .num i, _, n, A, E, s, Q, x, _, q => by cases x <;> cases n <;> exact wpAny_pure q
  | .text y, _, n, A, E, s, Q, x, _, q => by cases x; cases n <;> exact wpAny_pure q
  | .tup ks, _, n, A, E, s, Q, x, hn, q => by
    cases x with
    | @tup a o vs m _ hg hc hd hk =>
      simp only [NestedKey.depth] at hn
      cases n with
      | zero => omega
      | succ n =>
        have all := ofA_keys ks _ n A E s hk (by omega)
        unfold ofAClassStatement
        refine wpAny_bind (wpAny_typeOf (show s.TypeIs (.ref a) "tuple" from ⟨o, hg, hc⟩) ?_)
        dsimp only
        rw [if_pos (show (("tuple" : String) == "tuple") = true by decide)]
        try refine wpAny_bind (wpAny_pure ?_)
        simp only [Bool.not_true, Bool.false_eq_true, if_false, pure_bind]
        refine wpAny_bind (wpAny_seqItems hg hd ?_)
        dsimp only
        refine wpAny_bind ?_
        show wpAny _ _ (forIn vs _ _) _ _ s
        rw [← Array.forIn_toList]
        refine wpAny_forIn_list _ (fun left acc st => (∀ v ∈ left, v ∈ vs.toList) ∧ acc.1 = none ∧ st = s) _ (fun v left acc st ⟨a1, a2, a3⟩ => ?_) (fun acc st ⟨_, a2, a3⟩ => ?_) _ _ ⟨fun _ m => m, rfl, rfl⟩
        · subst a3
          refine wpAny_bind (all v (a1 v List.mem_cons_self) _ ?_)
          simp only [Bool.false_eq_true, if_false]
          exact wpAny_pure ⟨fun u m => a1 u (List.mem_cons_of_mem _ m), rfl, rfl⟩
        · subst a3
          obtain ⟨c1, c2⟩ := acc
          obtain rfl : c1 = none := a2
          exact wpAny_pure q
theorem ofA_keys : ∀ (ks : List NestedKey) (vs : List Value) (n : Nat) (A : Around) (E : Value → Shared → Prop) (s : Shared), NestedAll s.heap ks vs → NestedKey.depthAll ks ≤ n → ∀ v ∈ vs, ∀ R : Bool → Shared → Prop, R false s → wpAny (model P w) A (ofAClassStatement n v) R E s
  | [], _, n, A, E, s, x, _, v, m, R, r => by cases x; cases m
  | k :: ks, _, n, A, E, s, x, hn, v, m, R, r => by
    cases x with
    | cons x1 x2 =>
      simp only [NestedKey.depthAll] at hn
      rcases List.mem_cons.mp m with e | m
      · rw [e]; exact ofA_key k _ n A E s R x1 (by omega) r
      · exact ofA_keys ks _ n A E s x2 (by omega) v m R r
end
mutual
/-- whether its hash is by value: some answer -/
theorem hv_key : ∀ (k : NestedKey) (v : Value) (n : Nat) (A : Around) (E : Value → Shared → Prop) (s : Shared) (Q : Bool → Shared → Prop), NestedIs s.heap k v → (∀ b, Q b s) → wpAny (model P w) A (hashByValue n v) Q E s
  | .none, _, n, A, E, s, Q, x, q => by cases x; cases n <;> exact wpAny_pure (q _)
  | .num i, _, n, A, E, s, Q, x, q => by cases x <;> cases n <;> exact wpAny_pure (q _)
  | .text y, _, n, A, E, s, Q, x, q => by cases x; cases n <;> exact wpAny_pure (q _)
  | .tup ks, _, n, A, E, s, Q, x, q => by
    cases x with
    | @tup a o vs m _ hg hc hd hk =>
      cases n with
      | zero => exact wpAny_pure (q _)
      | succ n =>
        have all := hv_keys ks _ n A E s hk
        unfold hashByValue
        refine wpAny_bind (wpAny_specialOf (show s.TypeIs (.ref a) "tuple" from ⟨o, hg, hc⟩) F.slot_tuple_hash.lookup ?_)
        show wpAny _ _ (seqItems? (.ref a) >>= _) _ _ s
        refine wpAny_bind (wpAny_seqItems hg hd ?_)
        refine wpAny_bind ?_
        show wpAny _ _ (forIn vs _ _) _ _ s
        rw [← Array.forIn_toList]
        refine wpAny_forIn_list _ (fun left acc st => (∀ v ∈ left, v ∈ vs.toList) ∧ acc.1 = none ∧ st = s) _ (fun v left acc st ⟨a1, a2, a3⟩ => ?_) (fun acc st ⟨_, a2, a3⟩ => ?_) _ _ ⟨fun _ m => m, rfl, rfl⟩
        · subst a3
          refine wpAny_bind (all v (a1 v List.mem_cons_self) _ fun b => ?_)
          cases b with
          | true =>
            simp only [Bool.not_true, Bool.false_eq_true, if_false]
            exact wpAny_pure ⟨fun u m => a1 u (List.mem_cons_of_mem _ m), rfl, rfl⟩
          | false =>
            simp only [Bool.not_false, if_true]
            exact wpAny_pure (wpAny_pure (q _))
        · subst a3
          obtain ⟨c1, c2⟩ := acc
          obtain rfl : c1 = none := a2
          exact wpAny_pure (q _)
theorem hv_keys : ∀ (ks : List NestedKey) (vs : List Value) (n : Nat) (A : Around) (E : Value → Shared → Prop) (s : Shared), NestedAll s.heap ks vs → ∀ v ∈ vs, ∀ R : Bool → Shared → Prop, (∀ b, R b s) → wpAny (model P w) A (hashByValue n v) R E s
  | [], _, n, A, E, s, x, v, m, R, r => by cases x; cases m
  | k :: ks, _, n, A, E, s, x, v, m, R, r => by
    cases x with
    | cons x1 x2 =>
      rcases List.mem_cons.mp m with e | m
      · rw [e]; exact hv_key k _ n A E s R x1 r
      · exact hv_keys ks _ n A E s x2 v m R r
end
variable {A : Around} {E : Value → Shared → Prop} {s : Shared}
/-- a search among such keys shows nothing of the table -/
theorem quiet_search {k : NestedKey} {x : Addr} {ys : List Value} {Q : Bool → Shared → Prop} (hx : NK s.heap k x) (hy : ∀ y ∈ ys, ∃ k' c, y = Value.ref c ∧ NK s.heap k' c) (q : Q false s) : wpAny (model P w) A (searchCouldBeSeen (.ref x) ys) Q E s := by
  unfold searchCouldBeSeen
  refine wpAny_bind (wpAny_forIn_list _ (fun left acc st => (∀ y ∈ left, y ∈ ys) ∧ acc.1 = none ∧ st = s) _ (fun v left acc st ⟨a1, a2, a3⟩ => ?_) (fun acc st ⟨_, a2, a3⟩ => ?_) _ _ ⟨fun _ m => m, rfl, rfl⟩)
  · subst a3
    obtain ⟨k', c, rfl, hc⟩ := hy v (a1 _ List.mem_cons_self)
    have on : (fun (left : List Value) (acc : MProd (Option Bool) PUnit) (st' : Shared) => (∀ y ∈ left, y ∈ ys) ∧ acc.1 = none ∧ st' = st) left ⟨none, ⟨⟩⟩ st := ⟨fun u m => a1 u (List.mem_cons_of_mem _ m), rfl, rfl⟩
    dsimp only
    split
    · exact wpAny_pure on
    · refine wpAny_bind ((quiet_key k _ 8 st hx.1 hx.2) A E _ ?_)
      simp only [Bool.not_true, Bool.false_eq_true, if_false]
      refine wpAny_bind ((quiet_key k' _ 8 st hc.1 hc.2) A E _ ?_)
      simp only [Bool.not_true, Bool.false_eq_true, if_false]
      refine wpAny_bind (ofA_key k _ 8 A E st _ hx.1 hx.2 ?_)
      simp only [Bool.false_eq_true, if_false]
      refine wpAny_bind (ofA_key k' _ 8 A E st _ hc.1 hc.2 ?_)
      simp only [Bool.false_eq_true, if_false]
      exact wpAny_pure on
  · subst a3
    obtain ⟨c1, c2⟩ := acc
    obtain rfl : c1 = none := a2
    exact wpAny_pure q
end
end ZN
set_option Elab.async false
set_option linter.all false
set_option maxRecDepth 100000
set_option maxHeartbeats 4000000
namespace ZN
open PySem PySem.Spec PyProof.Rows L2
/-- the rows of the table -/
def cells (w : World) (L : List (Addr × NestedKey)) : List (Int × Value) := L.map fun p => (p.2.hash w, .ref p.1)
/-- the set at a holds the keys L -/
structure NS (w : World) (h : Heap) (a : Addr) (L : List (Addr × NestedKey)) (es : Array (Int × Value)) (ep : Nat) (t : SetTable) : Prop where
  obj : ∃ o, h.get? a = some o ∧ o.ExactSet ∧ o.data = .set es ep t
  lay : es.toList = cells w L
  tab : TabOk t (L.map fun p => p.2.hash w)
  one : (L.map (·.2)).Nodup
  mem : ∀ p ∈ L, NK h p.2 p.1
  room : L.length * 5 < t.mask * 3
  few : L.length < 64
/-- the way that a hash goes, from its c-th step -/
abbrev pth (m : Nat) (H : Int) (c : Nat) : SetTable.Probe := nth m (runAt m (SetTable.bits H % (m + 1)) (SetTable.bits H)) c
theorem pth_on (m : Nat) (H : Int) (c q : Nat) : nth m (pth m H c) q = pth m H (c + q) := (nth_add m c _ q).symm
theorem nth_clean {m : Nat} : ∀ (n : Nat) {p : SetTable.Probe}, p.dummy = none → (nth m p n).dummy = none
  | 0, _, h => h
  | n + 1, p, h => nth_clean n (p := adv m p) (by unfold adv; split <;> exact h)
section
variable {P : Program} {w : World} {A : Around} {E : Value → Shared → Prop} {s : Shared} {a : Addr} {L : List (Addr × NestedKey)} {es : Array (Int × Value)} {ep : Nat} {t : SetTable}
theorem cells_at {i : Nat} {p : Addr × NestedKey} (h : es.toList = cells w L) (e : L[i]? = some p) : es[i]? = some (p.2.hash w, Value.ref p.1) := by
  rw [← Array.getElem?_toList, h, cells, List.getElem?_map, e]; rfl
theorem NS.size (R : NS w s.heap a L es ep t) : es.size = L.length := by
  rw [← Array.length_toList, R.lay, cells, List.length_map]
theorem NS.places (R : NS w s.heap a L es ep t) : t.place.toList.length = L.length := by
  rw [Array.length_toList, R.tab.sz, List.length_map]
theorem NS.fits (R : NS w s.heap a L es ep t) : t.fits es.size = true := by
  have h1 := R.places
  have h2 := R.size
  have h3 := R.room
  rw [Array.length_toList] at h1
  simp only [SetTable.fits, SetTable.fill, R.tab.dm, Bool.and_eq_true, beq_iff_eq, decide_eq_true_eq, List.size_toArray, List.length_nil]
  omega
theorem NS.odd (R : NS w s.heap a L es ep t) : t.gaveWay = false := by
  simp only [SetTable.gaveWay, mask_odd R.tab.mok]
  decide
theorem seek (R : NS w s.heap a L es ep t) {k : NestedKey} {x : Addr} (hx : NK s.heap k x) (hu : A.units + 8 < cLine) (ad : Bool) {K : Nat} (lim : K < 10 * SetTable.turns t.mask) (hK : way t.mask (k.hash w) K ∉ t.place.toList) (hb : ∀ c, c < K → way t.mask (k.hash w) c ∈ t.place.toList)
    {Q : SetFound → Shared → Prop} (yes : ∀ r : Option Nat, (ad = false → r.isSome = true) → k ∈ L.map (·.2) → Q (.there r) s) (no : k ∉ L.map (·.2) → Q (.free (way t.mask (k.hash w) K) false) s) :
    ∀ (f c : Nat) (st : Option SetTable.Probe), st.getD (t.probeStart (k.hash w)) = pth t.mask (k.hash w) c → c ≤ K → K < f + c → (∀ (i : Nat) p, L[i]? = some p → p.2 = k → ∃ c', c ≤ c' ∧ c' < K ∧ t.place.toList[i]? = some (way t.mask (k.hash w) c')) →
      wpAny (model P w) A (setSearchFrom a (.ref x) (k.hash w) ad f st) Q E s
  | 0, c, st, _, h1, h2, _ => absurd h2 (by omega)
  | f + 1, c, st, hst, h1, h2, ahead => by
    obtain ⟨o, ho, hex, hd⟩ := R.obj
    have stepJ : ∀ q, (nth t.mask (pth t.mask (k.hash w) c) q).j = way t.mask (k.hash w) (c + q) := fun q => congrArg SetTable.Probe.j (pth_on ..)
    have hashes : ∀ (i : Nat) p, L[i]? = some p → (fun i => (es[i]?.map (·.1)).getD 0) i = p.2.hash w := fun i p e => by
      show (es[i]?.map (·.1)).getD 0 = _
      rw [cells_at R.lay e]; rfl
    have here : ∀ (i : Nat) p, L[i]? = some p → p.2 = k → (fun i => (es[i]?.map (·.1)).getD 0) i = k.hash w := fun i p e ek => (hashes i p e).trans (by rw [ek])
    have word := go_spec t R.tab.ris R.tab.dm (fun i => (es[i]?.map (·.1)).getD 0) (k.hash w) (10 * SetTable.turns t.mask) (K - c) (pth t.mask (k.hash w) c) (nth_clean c rfl) (by omega)
      (fun q hq => by rw [stepJ]; exact hb _ (by omega)) (by rw [stepJ, Nat.add_sub_cancel' h1]; exact hK)
    rw [setSearchFrom_succ]
    refine wpAny_bind (wpAny_setState_of ho hd R.fits ?_)
    dsimp only
    refine wp_if_neg (by rw [R.odd]; decide) ?_
    try refine wpAny_bind (wpAny_pure ?_)
    rcases word with ⟨q, i, hq, hi, hh, none_before, met⟩ | ⟨none_at_all, met⟩
    · have met2 : t.probe (fun i => (es[i]?.map (·.1)).getD 0) (k.hash w) (st.getD (t.probeStart (k.hash w))) = some (.candidate (way t.mask (k.hash w) (c + q)) i (pth t.mask (k.hash w) (c + (q + 1)))) := by
        rw [hst, ← stepJ, ← pth_on]
        exact met
      rw [stepJ] at hi
      rw [met2]
      dsimp only
      obtain ⟨p, ep'⟩ : ∃ p, L[i]? = some p := ⟨_, List.getElem?_eq_getElem (by rw [← R.places]; exact (List.getElem?_eq_some_iff.mp hi).1)⟩
      have hp := List.mem_of_getElem? ep'
      have live := slot_live R.tab.ris hi
      have tail : wpAny (model P w) A (searchRest a (.ref x) (k.hash w) ad f es t (way t.mask (k.hash w) (c + q)) i (pth t.mask (k.hash w) (c + (q + 1)))) Q E s := by
        unfold searchRest
        rw [cells_at R.lay ep']
        dsimp only
        refine wpAny_bind (wpAny_holding ((nestedKind P w).eqBool (show A.units + 8 < cLine from hu) (R.mem p hp) hx ?_))
        refine wpAny_bind (wpAny_setState_of ho hd R.fits ?_)
        dsimp only
        have later : ∀ (z : Bool), (z = true → k ∈ L.map (·.2) ∧ ad = false) → (z = false → p.2 ≠ k) → wpAny (model P w) A (if z = true then pure (SetFound.there (some i)) else setSearchFrom a (.ref x) (k.hash w) ad f (some (pth t.mask (k.hash w) (c + (q + 1))))) Q E s := fun z z1 z2 => by
          cases z with
          | true =>
            rw [if_pos rfl]
            exact wpAny_pure (yes _ (fun _ => rfl) (z1 rfl).1)
          | false =>
            rw [if_neg Bool.false_ne_true]
            refine seek R hx hu ad lim hK hb yes no f (c + (q + 1)) _ rfl (by omega) (by omega) fun j r er ek => ?_
            obtain ⟨c', b1, b2, b3⟩ := ahead j r er ek
            refine ⟨c', ?_, b2, b3⟩
            rcases Nat.lt_trichotomy c' (c + q) with lt | eq | gt
            · exact absurd (here j r er ek) (none_before (c' - c) j (by omega) (by rw [stepJ, Nat.add_sub_cancel' b1]; exact b3))
            · rw [eq] at b3
              have l2 := slot_live R.tab.ris b3
              rw [live] at l2
              cases l2
              rw [ep'] at er
              cases er
              exact absurd ek (z2 rfl)
            · omega
        by_cases ek : p.2 = k
        · have hin : k ∈ L.map (·.2) := List.mem_map.mpr ⟨p, hp, ek⟩
          have dk : decide (p.2 = k) = true := decide_eq_true ek
          cases ad with
          | true =>
            refine wp_if_pos (by rw [dk]; rfl) ?_
            exact wpAny_pure (yes none (fun z => by cases z) hin)
          | false =>
            refine wp_if_neg (by simp) ?_
            try refine wpAny_bind (wpAny_pure ?_)
            rw [sameMem]
            dsimp only
            simp only [if_true, live, cells_at R.lay ep']
            refine wpAny_bind (wpAny_isSame_ref_self (wpAny_bind (wpAny_pure ?_)))
            simp only [if_true]
            exact later _ (fun _ => ⟨hin, rfl⟩) fun z => by rw [dk] at z; cases z
        · have dk : decide (p.2 = k) = false := decide_eq_false ek
          refine wp_if_neg (by rw [dk]; simp) ?_
          try refine wpAny_bind (wpAny_pure ?_)
          rw [sameMem]
          dsimp only
          simp only [if_true, live, cells_at R.lay ep']
          refine wpAny_bind (wpAny_isSame_ref_self (wpAny_bind (wpAny_pure ?_)))
          simp only [if_true]
          exact later _ (fun z => by rw [dk] at z; cases z) fun _ => ek
      cases hl : t.led with
      | true =>
        refine wp_if_neg (by simp) ?_
        try refine wpAny_bind (wpAny_pure ?_)
        exact tail
      | false =>
        refine wp_if_pos (by simp) ?_
        refine wpAny_bind (quiet_search hx (fun y hy => ?_) ?_)
        · obtain ⟨e, he, rfl⟩ := List.mem_map.mp hy
          have h3 : e ∈ es.toList := by
            have h4 : e ∈ es ∧ e.1 = k.hash w := by simpa using he
            simpa using h4.1
          rw [R.lay] at h3
          obtain ⟨r, hr, rfl⟩ := List.mem_map.mp h3
          exact ⟨r.2, r.1, rfl, R.mem r hr⟩
        · refine wp_if_neg (by decide) ?_
          try refine wpAny_bind (wpAny_pure ?_)
          exact tail
    · have met2 : t.probe (fun i => (es[i]?.map (·.1)).getD 0) (k.hash w) (st.getD (t.probeStart (k.hash w))) = some (.empty (way t.mask (k.hash w) K) none) := by
        rw [hst, show way t.mask (k.hash w) K = (nth t.mask (pth t.mask (k.hash w) c) (K - c)).j by rw [stepJ, Nat.add_sub_cancel' h1]]
        exact met
      rw [met2]
      dsimp only
      refine wpAny_pure (no fun hm => ?_)
      obtain ⟨r, hr, ek⟩ := List.mem_map.mp hm
      obtain ⟨j, er⟩ := List.getElem?_of_mem hr
      obtain ⟨c', b1, b2, b3⟩ := ahead j r er ek
      exact none_at_all (c' - c) j (by omega) (by rw [stepJ, Nat.add_sub_cancel' b1]; exact b3) (here j r er ek)
/-- .. from the beginning -/
theorem seek_all (R : NS w s.heap a L es ep t) {k : NestedKey} {x : Addr} (hx : NK s.heap k x) (hu : A.units + 8 < cLine) (ad : Bool) {Q : SetFound → Shared → Prop} (yes : ∀ r : Option Nat, (ad = false → r.isSome = true) → k ∈ L.map (·.2) → Q (.there r) s)
    (no : ∀ K, k ∉ L.map (·.2) → way t.mask (k.hash w) K ∉ t.place.toList → (∀ c, c < K → way t.mask (k.hash w) c ∈ t.place.toList) → Q (.free (way t.mask (k.hash w) K) false) s) : wpAny (model P w) A (setSearch a (.ref x) (k.hash w) ad) Q E s := by
  have hr := R.room
  obtain ⟨K, lim, hK, hb⟩ := R.tab.first (by rw [List.length_map]; omega) (k.hash w)
  have big : K < 100000 := by
    have : SetTable.turns t.mask ≤ 1000 := by
      unfold SetTable.turns
      rcases R.tab.mok with e | e | e <;> omega
    omega
  refine seek R hx hu ad lim hK hb yes (fun n => no K n hK hb) 100000 0 none rfl (Nat.zero_le _) big fun i p e ek => ?_
  have hi : i < t.place.toList.length := by rw [R.places]; exact (List.getElem?_eq_some_iff.mp e).1
  obtain ⟨c, h1, h2⟩ := R.tab.before (i := i) (h := k.hash w) hK (by rw [List.getElem?_map, e, ← ek]; rfl) (List.getElem?_eq_getElem hi)
  exact ⟨c, Nat.zero_le _, h1, by rw [h2]; exact List.getElem?_eq_getElem hi⟩
end
end ZN
set_option Elab.async false
set_option linter.all false
set_option maxRecDepth 100000
set_option maxHeartbeats 4000000
namespace ZN
open PySem PySem.Spec PyProof.Rows L2
/-- keys stay where all but a set stays -/
theorem NK.stay {h h' : Heap} {a x : Addr} {k : NestedKey} {o : Obj} {es : Array (Int × Value)} {ep : Nat} {t : SetTable} (hk : NK h k x) (ho : h.get? a = some o) (hd : o.data = .set es ep t) (sb : Heap.SameBut a h h') : NK h' k x :=
  ⟨NestedIs.at (fun b u vs n hb hu => (sb.2 b fun z => by subst z; rw [ho] at hb; cases hb; rw [hd] at hu; cases hu).trans hb) k _ hk.1, hk.2⟩
theorem NK.keep {h h' : Heap} {x : Addr} {k : NestedKey} (hk : NK h k x) (keep : ∀ b o, h.get? b = some o → h'.get? b = some o) : NK h' k x := ⟨NestedIs.at (fun b u _ _ hb _ => keep b u hb) k _ hk.1, hk.2⟩
theorem range_all {α : Type} (L : List α) : (List.range L.length).filterMap (fun i => L[i]?) = L := by
  have e : (List.range L.length).map (fun i => L[i]?) = L.map some := by
    apply List.ext_getElem?
    intro i
    rw [List.getElem?_map, List.getElem?_map]
    by_cases hi : i < L.length
    · rw [List.getElem?_range hi, List.getElem?_eq_getElem hi, Option.map_some, Option.map_some, List.getElem?_eq_getElem hi]
    · rw [List.getElem?_eq_none (by rw [List.length_range]; omega), List.getElem?_eq_none (by omega)]; rfl
  have e2 : ∀ (l : List Nat), l.filterMap (fun i => L[i]?) = (l.map fun i => L[i]?).filterMap id := fun l => by rw [List.filterMap_map]; rfl
  rw [e2, e, List.filterMap_map]
  induction L with
  | nil => rfl
  | cons x L ih => simp
section
variable {w : World}
theorem cells_any {L : List (Addr × NestedKey)} {es : Array (Int × Value)} (h : es.toList = cells w L) (i : Nat) : es[i]? = (L[i]?).map fun p => (p.2.hash w, Value.ref p.1) := by
  rw [← Array.getElem?_toList, h, cells, List.getElem?_map]
/-- the rows in another order -/
theorem ordered_cells {L : List (Addr × NestedKey)} {es : Array (Int × Value)} {ord : Array Nat} (h : es.toList = cells w L) (pm : ord.toList.Perm (List.range L.length)) :
    ∃ L2 : List (Addr × NestedKey), L2.Perm L ∧ (ord.filterMap (es[·]?)).toList = cells w L2 ∧ (L2.map fun p => p.2.hash w) = ord.toList.map fun i => (es.map (·.1)).getD i 0 := by
  refine ⟨ord.toList.filterMap fun i => L[i]?, ?_, ?_, ?_⟩
  · have := pm.filterMap fun i => L[i]?
    rwa [range_all] at this
  · rw [Array.toList_filterMap, cells, List.map_filterMap]
    congr 1
    funext i
    exact cells_any h i
  · have : ∀ (l : List Nat), (∀ i ∈ l, i < L.length) → ((l.filterMap fun i => L[i]?).map fun p => p.2.hash w) = l.map fun i => (es.map (·.1)).getD i 0 := by
      intro l
      induction l with
      | nil => intro _; rfl
      | cons i l ih =>
        intro hl
        have hi := hl i List.mem_cons_self
        have e1 := cells_any h i
        rw [List.getElem?_eq_getElem hi] at e1
        rw [List.filterMap_cons_some (List.getElem?_eq_getElem hi), List.map_cons, List.map_cons, ih fun j m => hl j (List.mem_cons_of_mem _ m)]
        congr 1
        rw [Array.getD_eq_getD_getElem?, Array.getElem?_map, e1]
        rfl
    exact this _ fun i m => List.mem_range.mp (pm.mem_iff.mp m)
end
section
variable {P : Program} {w : World} {A : Around} {E : Value → Shared → Prop} {s : Shared} {a : Addr} {L : List (Addr × NestedKey)} {es : Array (Int × Value)} {ep : Nat} {t : SetTable}
theorem relay {o : Obj} (ho : s.heap.get? a = some o) (hex : o.ExactSet) (hd : o.data = .set es ep t) (lay : es.toList = cells w L) (tab : TabOk t (L.map fun p => p.2.hash w)) (one : (L.map (·.2)).Nodup) (mem : ∀ p ∈ L, NK s.heap p.2 p.1) (few : L.length < 64) (le : L.length ≤ t.mask)
    {wanted M : Nat} (h1 : SetTable.sizeAbove wanted = M + 1) (h2 : MaskOk M) (h3 : L.length * 5 < M * 3) {Q : Unit → Shared → Prop} (q : ∀ h' L' es' ep' t', Heap.SameBut a s.heap h' → NS w h' a L' es' ep' t' → L'.Perm L → Q () { s with heap := h' }) :
    wpAny (model P w) A (setRelay a wanted) Q E s := by
  have z : es.size = L.length := by rw [← Array.length_toList, lay, cells, List.length_map]
  have m128 : M ≤ 127 := by rcases h2 with e | e | e <;> omega
  have ft : t.fits es.size = true := by
    have h4 := tab.sz
    rw [List.length_map] at h4
    simp only [SetTable.fits, SetTable.fill, tab.dm, Bool.and_eq_true, beq_iff_eq, decide_eq_true_eq, List.size_toArray, List.length_nil]
    omega
  obtain ⟨t', ord, e, pm, T, em, _, _, _⟩ := relaid_ok t (hs := es.map (·.1)) (wanted := wanted) (M := M) (by omega) h2 (by rw [Array.size_map, z]; omega)
  rw [Array.size_map, z] at pm
  obtain ⟨L2, p2, lay2, hs2⟩ := ordered_cells lay pm
  rw [← hs2] at T
  have z2 : (ord.filterMap (es[·]?)).size = es.size := by rw [← Array.length_toList, lay2, cells, List.length_map, p2.length_eq, z]
  rw [setRelay_eq]
  refine wpAny_bind (wpAny_setState_of ho hd ft ?_)
  dsimp only
  refine wp_if_neg (by rw [sizeLine_eq]; omega) ?_
  try refine wpAny_bind (wpAny_pure ?_)
  rw [e]
  dsimp only
  refine wpAny_bind ?_
  refine wp_if_neg (by rw [z2]; simp) ?_
  try refine wpAny_bind (wpAny_pure ?_)
  refine wpAny_pure ?_
  dsimp only
  refine wpAny_storeSet_of ho hd ?_ (by rw [z2, z, sizeLine_eq]; omega)
  have sb : Heap.SameBut a s.heap (s.heap.update a (Obj.putSet (ord.filterMap (es[·]?)) t')) := Heap.SameBut.update ..
  exact q _ L2 _ _ t' sb ⟨⟨_, store_at ho hd, ⟨hex.1, hex.2.1, hex.2.2⟩, rfl⟩, lay2, T, (p2.map _).nodup_iff.mpr one, fun p m => (mem p (p2.mem_iff.mp m)).stay ho hd sb, by rw [p2.length_eq, em]; exact h3, by rw [p2.length_eq]; exact few⟩ p2
/-- one member more -/
theorem adds (R : NS w s.heap a L es ep t) {k : NestedKey} {x : Addr} (hx : NK s.heap k x) (hu : A.units + 8 < cLine) (few : L.length + 1 < 64) {Q : Bool → Shared → Prop}
    (q : ∀ b h' L' es' ep' t', Heap.SameBut a s.heap h' → NS w h' a L' es' ep' t' → (k ∈ L.map (·.2) → L' = L) → (k ∉ L.map (·.2) → L'.Perm ((x, k) :: L)) → Q b { s with heap := h' }) :
    wpAny (model P w) A (setAddHashed a (.ref x) (k.hash w)) Q E s := by
  obtain ⟨o, ho, hex, hd⟩ := R.obj
  have hr := R.room
  have z := R.size
  unfold setAddHashed
  rw [show (100000 : Nat) = 99999 + 1 from rfl, setAddHashedIn_succ]
  refine wpAny_holding (wpAny_bind (wpAny_setState_of ho hd R.fits ?_))
  dsimp only
  refine wp_if_neg (by simp [byScan, Value.scannable]) ?_
  try refine wpAny_bind (wpAny_pure ?_)
  refine wpAny_bind (seek_all R hx hu true (fun r _ hm => ?_) fun K hm hK hb => ?_)
  · exact wpAny_pure (q false s.heap L es ep t (Heap.SameBut.refl a s.heap) R (fun _ => rfl) fun n => absurd hm n)
  · dsimp only
    refine wpAny_bind (wpAny_setState_of ho hd R.fits ?_)
    dsimp only
    obtain ⟨e1, c1, T1, e2, _, _, _, _, e3⟩ := R.tab.put hK hb
    rw [List.length_map] at c1 e3
    generalize hb0 : SetTable.below t.place (way t.mask (k.hash w) K) = p0 at *
    generalize hpt : t.put (way t.mask (k.hash w) K) = pt at *
    obtain ⟨t1, p⟩ := pt
    dsimp only at *
    subst e1
    -- the row put in
    have pm : (L.take p ++ (x, k) :: L.drop p).Perm ((x, k) :: L) := by
      have := List.perm_middle (a := (x, k)) (l₁ := L.take p) (l₂ := L.drop p)
      rwa [List.take_append_drop] at this
    have lay1 : (SetTable.insertAt es p (k.hash w, Value.ref x)).toList = cells w (L.take p ++ (x, k) :: L.drop p) := by
      rw [SetTable.toList_insertAt, R.lay]
      simp only [cells, List.map_append, List.map_cons, List.map_take, List.map_drop]
    have T2 : TabOk t1 ((L.take p ++ (x, k) :: L.drop p).map fun p => p.2.hash w) := by
      rw [List.map_append, List.map_cons, List.map_take, List.map_drop]
      exact T1
    have one1 : ((L.take p ++ (x, k) :: L.drop p).map (·.2)).Nodup := (pm.map _).nodup_iff.mpr (List.nodup_cons.mpr ⟨hm, R.one⟩)
    have ln : (L.take p ++ (x, k) :: L.drop p).length = L.length + 1 := pm.length_eq
    generalize SetTable.insertAt es p (k.hash w, Value.ref x) = es1 at *
    generalize L.take p ++ (x, k) :: L.drop p = L1 at *
    have z1 : es1.size = L.length + 1 := by rw [← Array.length_toList, lay1, cells, List.length_map, ln]
    -- what follows, for any table that differs in plain alone
    have go : ∀ t2 : SetTable, TabOk t2 (L1.map fun p => p.2.hash w) → t2.mask = t.mask → t2.fill = L.length + 1 →
        wpAny (model P w) A (do storeSet a es1 t2; if (!false && t2.tooFull) = true then (do setRelay a (SetTable.grown (es.size + 1)); pure true) else pure true) Q E s := fun t2 T m2 f2 => by
      refine wpAny_bind (wpAny_storeSet_of ho hd ?_ (by rw [z1, sizeLine_eq]; omega))
      have sb : Heap.SameBut a s.heap (s.heap.update a (Obj.putSet es1 t2)) := Heap.SameBut.update ..
      have ho1 := store_at (es' := es1) (t' := t2) ho hd
      generalize s.heap.update a (Obj.putSet es1 t2) = h1 at sb ho1 ⊢
      have mem1 : ∀ r ∈ L1, NK h1 r.2 r.1 := fun r m => by
        rcases List.mem_cons.mp (pm.mem_iff.mp m) with rfl | m
        · exact hx.stay ho hd sb
        · exact (R.mem r m).stay ho hd sb
      have full : t2.tooFull = true ↔ (L.length + 1) * 5 ≥ t2.mask * 3 := by
        unfold SetTable.tooFull
        rw [decide_eq_true_eq, f2]
      by_cases hf : t2.tooFull = true
      · have hf2 := full.mp hf
        rw [m2] at hf2
        refine wp_if_pos (by simp [hf]) ?_
        rw [z]
        have next : ∀ M, SetTable.sizeAbove (SetTable.grown (L.length + 1)) = M + 1 → MaskOk M → (L.length + 1) * 5 < M * 3 → wpAny (model P w) A (setRelay a (SetTable.grown (L.length + 1))) (fun _ s' => wpAny (model P w) A (pure true) Q E s') E { s with heap := h1 } := fun M g1 g2 g3 =>
          relay (s := { s with heap := h1 }) ho1 ⟨hex.1, hex.2.1, hex.2.2⟩ rfl lay1 T one1 mem1 (by omega) (by rw [ln, m2]; rcases R.tab.mok with e | e | e <;> omega) g1 g2 (by rw [ln]; exact g3) fun h' L' es' ep' t' sb' R' p' =>
            wpAny_pure (q true h' L' es' ep' t' (sb.trans sb') R' (fun n => absurd n hm) fun _ => p'.trans pm)
        refine wpAny_bind ?_
        rcases R.tab.mok with e | e | e
        · have : L.length = 4 := by omega
          exact next 31 (by rw [this]; exact size_20) (.inr (.inl rfl)) (by omega)
        · have : L.length = 18 := by omega
          exact next 127 (by rw [this]; exact size_76) (.inr (.inr rfl)) (by omega)
        · omega
      · refine wp_if_neg (by simp [hf]) ?_
        rw [full] at hf
        exact wpAny_pure (q true h1 L1 es1 (ep + 1) t2 sb ⟨⟨_, ho1, ⟨hex.1, hex.2.1, hex.2.2⟩, rfl⟩, lay1, T, one1, mem1, by omega, by omega⟩ (fun n => absurd n hm) fun _ => pm)
    have both : ∀ b : Bool, wpAny (model P w) A (do storeSet a es1 (if b = true then t1 else { t1 with plain := false }); if (!false && (if b = true then t1 else { t1 with plain := false }).tooFull) = true then (do setRelay a (SetTable.grown (es.size + 1)); pure true) else pure true) Q E s := fun b => by
      cases b with
      | true => exact go t1 T2 e2 e3
      | false => exact go { t1 with plain := false } ⟨T2.ris, T2.dm, T2.sz, T2.mok, T2.bd, T2.reach⟩ e2 e3
    by_cases hp : t1.plain = true
    · first
        | (refine wpAny_bind ?_; refine wp_if_pos hp ?_; refine hv_key k _ 8 A E s _ hx.1 fun b => ?_; exact both b)
        | (refine wp_if_pos hp (wpAny_bind (hv_key k _ 8 A E s _ hx.1 fun b => ?_)); exact both b)
    · first
        | (refine wpAny_bind ?_; refine wp_if_neg hp ?_; refine wpAny_pure ?_; exact both true)
        | (refine wp_if_neg hp (wpAny_bind (wpAny_pure ?_)); exact both true)
        | (refine wp_if_neg hp ?_; exact both true)
theorem NS.typeIs (R : NS w s.heap a L es ep t) : s.TypeIs (.ref a) "set" := let ⟨o, ho, hc, _⟩ := R.obj; ⟨o, ho, hc.1⟩
theorem NS.noDict (R : NS w s.heap a L es ep t) : ∀ b, Value.ref a = .ref b → ∃ ob, s.heap.get? b = some ob ∧ ob.dict = none := fun b e => by
  injection e with e
  subst e
  obtain ⟨o, ho, hc, _⟩ := R.obj
  exact ⟨o, ho, hc.2.1⟩
theorem NS.at (R : NS w s.heap a L es ep t) {h' : Heap} (keep : ∀ b o, s.heap.get? b = some o → h'.get? b = some o) : NS w h' a L es ep t :=
  let ⟨o, ho, hc⟩ := R.obj
  ⟨⟨o, keep _ _ ho, hc⟩, R.lay, R.tab, R.one, fun p m => (R.mem p m).keep keep, R.room, R.few⟩
/-- found or not -/
theorem finds (R : NS w s.heap a L es ep t) {k : NestedKey} {x : Addr} (hx : NK s.heap k x) (hu : A.units + 8 < cLine) {Q : Option Nat → Shared → Prop} (q : ∀ r : Option Nat, r.isSome = decide (k ∈ L.map (·.2)) → Q r s) : wpAny (model P w) A (setFind a (.ref x) (k.hash w)) Q E s := by
  obtain ⟨o, ho, hex, hd⟩ := R.obj
  unfold setFind
  rw [show (100000 : Nat) = 99999 + 1 from rfl]
  unfold setFindIn
  refine wpAny_bind (wpAny_setState_of ho hd R.fits ?_)
  dsimp only
  refine wp_if_neg (by simp [byScan, Value.scannable]) ?_
  try refine wpAny_bind (wpAny_pure ?_)
  refine wpAny_bind (seek_all R hx hu false (fun r hr hm => ?_) fun K hm _ _ => ?_)
  · exact wpAny_pure (q r ((hr rfl).trans (decide_eq_true hm).symm))
  · exact wpAny_pure (q none (decide_eq_false hm).symm)
end
end ZN
set_option Elab.async false
set_option linter.all false
set_option maxRecDepth 100000
set_option maxHeartbeats 4000000
namespace ZN
open PySem PySem.Spec PyProof.Rows L2 Z
/-- NS without the members' own objects -/
structure NS0 (w : World) (h : Heap) (a : Addr) (L : List (Addr × NestedKey)) : Prop where
  ex : ∃ es ep t, (∃ o, h.get? a = some o ∧ o.ExactSet ∧ o.data = .set es ep t) ∧ es.toList = cells w L ∧ TabOk t (L.map fun p => p.2.hash w) ∧ L.length * 5 < t.mask * 3
  one : (L.map (·.2)).Nodup
  few : L.length < 64
theorem NS.low {w : World} {h : Heap} {a : Addr} {L : List (Addr × NestedKey)} {es : Array (Int × Value)} {ep : Nat} {t : SetTable} (R : NS w h a L es ep t) : NS0 w h a L := ⟨⟨es, ep, t, R.obj, R.lay, R.tab, R.room⟩, R.one, R.few⟩
theorem NS0.up {w : World} {h : Heap} {a : Addr} {L : List (Addr × NestedKey)} (R : NS0 w h a L) (m : ∀ p ∈ L, NK h p.2 p.1) : ∃ es ep t, NS w h a L es ep t :=
  let ⟨es, ep, t, o, l, tb, r⟩ := R.ex
  ⟨es, ep, t, o, l, tb, R.one, m, r, R.few⟩
/-- the set of the keys L, tracked -/
def NSetO (w : World) (a : Addr) (L : List (Addr × NestedKey)) : HO := .ext fun h => NS0 w h a L
theorem nset_ok {P : Program} {w : World} {H : Hp} {h : Heap} {a : Addr} {L : List (Addr × NestedKey)} (R : NS0 w h a L) : ObjOk P w H h a (NSetO w a L) := by
  have ⟨_, _, _, ⟨o, ho, _⟩, _⟩ := R.ex
  exact ⟨R, ⟨o, ho⟩, fun h1 h2 p k => let ⟨es, ep, t, ⟨o, ho, hc⟩, r⟩ := p.ex; ⟨⟨es, ep, t, ⟨o, k o ho, hc⟩, r⟩, p.one, p.few⟩⟩
mutual
def nkD : D → Option NestedKey
  | .non => some .none
  | .bl b => some (.num (if b = true then 1 else 0))
  | .int i => some (.num i)
  | .str x => some (.text ⟨x.toArray⟩)
  | .tup l => match nkDs l with
    | some ks => some (.tup ks)
    | none => none
  | _ => none
def nkDs : List D → Option (List NestedKey)
  | [] => some []
  | d :: ds => match nkD d, nkDs ds with
    | some k, some ks => some (k :: ks)
    | _, _ => none
end
section
variable {X : Cx} {pins : List (Addr × Obj)} {σ : L2.St} {H : Hp} {s : Shared}
mutual
theorem nk_is (I : Inv X pins σ H s) : ∀ {v : V} {d : D} {u : Value} {k : NestedKey}, Dz X.K H v d → RelV v u → nkD d = some k → NestedIs s.heap k u
  | _, _, _, _, .non, r, e => by
    simp only [nkD] at e
    cases e
    obtain rfl : _ = Value.none := r
    exact .none
  | _, _, _, _, .bl b, r, e => by
    simp only [nkD] at e
    cases e
    obtain rfl : _ = Value.bool b := r
    exact .bool rfl
  | _, _, _, _, .int i, r, e => by
    simp only [nkD] at e
    cases e
    obtain ⟨t, rfl⟩ := r
    exact .int i t
  | _, _, _, _, .str x, r, e => by
    simp only [nkD] at e
    cases e
    obtain ⟨t, rfl⟩ := r
    exact .text _ t
  | _, _, _, _, .tup (a := a) sq zs, r, e => by
    simp only [nkD] at e
    split at e
    · rename_i ks hk
      cases e
      obtain rfl : _ = Value.ref a := r
      obtain ⟨its, rv, ⟨o, ho, hc, n, hd⟩, _⟩ := I.tuple sq
      exact .tup ho hc hd (by simpa using nk_all I zs rv hk)
    · cases e
  | _, _, _, _, .lst _ _, _, e => by simp [nkD] at e
  | _, _, _, _, .raw _, _, e => by simp [nkD] at e
  | _, _, _, _, .dic _ _ _, _, e => by simp [nkD] at e
theorem nk_all (I : Inv X pins σ H s) : ∀ {vs : List V} {ds : List D} {us : List Value} {ks : List NestedKey}, DzA X.K H vs ds → Vals vs us → nkDs ds = some ks → NestedAll s.heap ks us
  | _, _, _, _, .nil, r, e => by
    simp only [nkDs] at e
    cases e
    cases r
    exact .nil
  | _, _, _, _, .cons z zs, r, e => by
    simp only [nkDs] at e
    split at e
    · rename_i k ks h1 h2
      cases e
      cases r with
      | cons r rs => exact .cons (nk_is I z r h1) (nk_all I zs rs h2)
    · cases e
end
/-- the tracked tuple at b is the key k -/
def KeyH (K : PySem.W.Frag) (H : Hp) (k : NestedKey) (b : Addr) : Prop := ∃ d, Dz K H (.ref b) d ∧ nkD d = some k ∧ k.depth ≤ 8
theorem KeyH.mono {K : PySem.W.Frag} {H H' : Hp} {k : NestedKey} {b : Addr} (h : KeyH K H k b) (e : Same H H') : KeyH K H' k b := let ⟨d, z, r⟩ := h; ⟨d, z.mono e, r⟩
theorem KeyH.nk {k : NestedKey} {b : Addr} (h : KeyH X.K H k b) (I : Inv X pins σ H s) : NK s.heap k b := let ⟨_, z, e, r⟩ := h; ⟨nk_is I z rfl e, r⟩
theorem nset_get {a : Addr} {L : List (Addr × NestedKey)} (I : Inv X pins σ H s) (ha : H a = some (NSetO X.w a L)) (m : ∀ p ∈ L, KeyH X.K H p.2 p.1) : ∃ es ep t, NS X.w s.heap a L es ep t := NS0.up (show NS0 X.w s.heap a L from (I.hok a _ ha).1) fun p hp => (m p hp).nk I
end
section
variable {P : Program} {w : World} {A : Around} {E : Value → Shared → Prop} {s : Shared} {a x : Addr} {L : List (Addr × NestedKey)} {es : Array (Int × Value)} {ep : Nat} {t : SetTable} {k : NestedKey}
/-- is it in? -/
theorem has_it (R : NS w s.heap a L es ep t) (hx : NK s.heap k x) (hu : A.units + 64 < cLine) {Q : Bool → Shared → Prop} (q : Q (decide (k ∈ L.map (·.2))) { s with toks := s.toks + k.draws }) : wpAny (model P w) A (contains (.ref a) (.ref x)) Q E s := by
  have ty := R.typeIs
  unfold contains
  try with_reducible refine wpAny_holding ?_
  refine wpAny_bind (wpAny_specialOf ty F.slot_set_contains.lookup ?_)
  show wpAny _ _ (if (some (Value.builtin "set.__contains__") == some Value.none) = true then _ else _) Q E s
  rw [if_neg (by rw [beq_builtin_none]; decide)]
  refine wpAny_bind (wpAny_callSpecialUnlessNone?_slot (name := Str.ofString "__contains__") ty F.slot_set_contains (wpAny_call_entry F.slot_set_contains ty entry_set_contains ?_ (F.args_set_contains_2 ..)))
  unfold Builtin.«frozenset.__contains__»
  unfold Builtin.Frozenset.oneOther Builtin.Frozenset.addrOf
  simp only [bind_assoc, List.isEmpty_nil]
  unfold setContains Builtin.Frozenset.withSetAsKey
  refine wpAny_bind (wpAny_pure ?_)
  try dsimp only
  refine wpAny_bind (wpAny_pure ?_)
  try dsimp only
  refine wpAny_bind (wpAny_tryCatch (wpAny_holding (wpAny_bind ?_)))
  refine pyHash_key k _ _ _ _ hx.1 (by have := hx.2; simp only [Around.in1_units]; omega) (wpAny_bind ?_)
  refine finds (s := { s with toks := s.toks + k.draws }) R hx (by simp only [Around.in1_units]; omega) fun r hr => wpAny_pure ?_
  show wpAny _ _ (ret (Value.bool r.isSome)) _ _ _
  rw [hr]
  exact wpAny_pure ⟨_, rfl, wpAny_truthy_bool q⟩
/-- s.add(k) -/
theorem add_it (R : NS w s.heap a L es ep t) (hx : NK s.heap k x) (hu : A.units + 64 < cLine) (few : L.length + 1 < 64) {Q : Value → Shared → Prop}
    (q : ∀ h' L' es' ep' t', Heap.SameBut a s.heap h' → NS w h' a L' es' ep' t' → (k ∈ L.map (·.2) → L' = L) → (k ∉ L.map (·.2) → L'.Perm ((x, k) :: L)) → Q .none { s with heap := h', toks := s.toks + k.draws }) :
    wpAny (model P w) A (call (.builtin "set.add") [.ref a, .ref x]) Q E s := by
  refine wpAny_call_entry F.slot_set_add R.typeIs F.entry_set_add ?_ (F.args_set_add_2 ..)
  unfold Builtin.«set.add» Builtin.Frozenset.oneOther Builtin.Frozenset.addrOf
  simp only [bind_assoc, List.isEmpty_nil]
  unfold setAdd
  refine wpAny_bind (wpAny_pure ?_)
  try dsimp only
  refine wpAny_bind (wpAny_pure ?_)
  try dsimp only
  refine wpAny_bind (wpAny_holding (wpAny_bind ?_))
  refine pyHash_key k _ _ _ _ hx.1 (by have := hx.2; simp only [Around.in1_units]; omega) ?_
  refine adds (s := { s with toks := s.toks + k.draws }) R hx (by simp only [Around.in1_units]; omega) few fun b h' L' es' ep' t' sb R' e1 e2 => ?_
  show wpAny _ _ (ret Value.none) _ _ _
  exact wpAny_pure ⟨_, rfl, q h' L' es' ep' t' sb R' e1 e2⟩
end
section
variable {X : Cx}
/-- set() -/
def rNSet (w : World) : List V → Hp → VK → Prop := fun xs H Q => xs = [] ∧ ∀ p, H p = none → Q (.ref p) (upd H p (NSetO w p []))
theorem cr_nset : CallR X (.type "set") (rNSet X.w) := by
  intro pins s σ H xs us Q I r h
  obtain ⟨rfl, q⟩ := h
  cases r
  refine setR_new fun _ => ?_
  have T := setTR_fresh (P := X.prog) (w := X.w) (h := s.heap.push { cls := .type "set", dict := none, data := .set #[] 0 (.fresh 0 0 (!X.w.params.followText "set-order")) }) (a := s.heap.objs.size) (Heap.get?_push_size _ rfl)
  have R : NS0 X.w (s.heap.push { cls := .type "set", dict := none, data := .set #[] 0 (.fresh 0 0 (!X.w.params.followText "set-order")) }) s.heap.objs.size [] := ⟨⟨_, _, _, T.ob, rfl, T.tab, T.room⟩, List.nodup_nil, by decide⟩
  exact ⟨.ref _, upd H s.heap.objs.size (NSetO X.w s.heap.objs.size []), I.laid (t' := s.toks) (fun b u e => Heap.get?_push_of_some _ e) (Nat.le_refl _) (nset_ok R), rfl, q _ (I.hok.fresh (Nat.le_refl _))⟩
/-- x in s, x not in s -/
def rNIn (K : PySem.W.Frag) (w : World) (neg : Bool) : V → V → Hp → VK → Prop := fun x y H Q => ∃ (k : NestedKey) (b a : Addr) (L : List (Addr × NestedKey)), x = .ref b ∧ y = .ref a ∧ H a = some (NSetO w a L) ∧ (∀ p ∈ L, KeyH K H p.2 p.1) ∧ KeyH K H k b ∧
  Q (.bl (if neg = true then !decide (k ∈ L.map (·.2)) else decide (k ∈ L.map (·.2)))) H
theorem or_nnotin (hu : X.A.units + 64 < cLine) : OpR X (compareOp .NotIn) (rNIn X.K X.w true) := by
  intro pins s σ H x y v u Q I rx ry h
  obtain ⟨k, b, a, L, rfl, rfl, ha, hm, hk, q⟩ := h
  cases rx
  cases ry
  obtain ⟨es, ep, t, R⟩ := nset_get I ha hm
  exact wpAny_bind (has_it R (hk.nk I) hu (wpAny_pure ⟨.bl _, H, I.tok _, rfl, q⟩))
/-- s.add(e) -/
def rNAdd (K : PySem.W.Frag) (w : World) (a : Addr) : List V → Hp → VK → Prop := fun xs H Q => ∃ (k : NestedKey) (b : Addr) (L : List (Addr × NestedKey)), xs = [.ref b] ∧ H a = some (NSetO w a L) ∧ (∀ p ∈ L, KeyH K H p.2 p.1) ∧ KeyH K H k b ∧ L.length + 1 < 64 ∧
  ∀ L', (k ∈ L.map (·.2) → L' = L) → (k ∉ L.map (·.2) → L'.Perm ((b, k) :: L)) → Q .non (upd H a (NSetO w a L'))
def tNAdd (K : PySem.W.Frag) (w : World) (to : TE) (t : TA) : TE := fun σ H Q => to σ H fun x H1 => ∃ a L, x = .ref a ∧ H1 a = some (NSetO w a L) ∧ t σ H1 fun xs H2 => rNAdd K w a xs H2 Q
variable {o e : Expr} {es : List Expr} {to : TE} {t : TA} {apos cpos : Pos}
theorem pe_nadd (hu : X.A.units + 64 < cLine) (ho : PE X o to) (ha : PA X (e :: es) t) (hbase : attributeBase o "add" X.env (eval o X.env) = eval o X.env := by rfl)
    (hfew : ((backTo cpos (starEach (e :: es) X.env)).all (fun x => !x.1) && (backToKw cpos (keywordEach [] X.env)).all (fun x => x.1.isSome) && decide ((e :: es).length + ([] : List Keyword).length + (if ([] : List Keyword).isEmpty then 0 else 1) < 30)) = true := by rfl)
    (hline : (apos.endLine == cpos.line) = true := by rfl) (hs : starEach (e :: es) X.env = (false, eval e X.env) :: starEach es X.env := by rfl) (hplain : (backTo cpos (starEach es X.env)).any (·.1) = false := by rfl) :
    PE X (.Call (.Attribute o "add" apos) (e :: es) [] cpos) (tNAdd X.K X.w to t) := by
  refine ⟨fun pins s σ H Q I h => wpAny_Call_method_late hbase hfew hline rfl (thn (ho.run pins s σ H _ I h) fun v s1 ⟨x, H1, I1, r1, a, L, ex, hL, q1⟩ => ?_)⟩
  subst ex
  obtain rfl : v = Value.ref a := r1
  have low : NS0 X.w s1.heap a L := (I1.hok a _ hL).1
  obtain ⟨_, _, _, ⟨ob, hob, hcl, _⟩, _⟩ := low.ex
  refine ⟨"set", "set.add", F.plainAttrs_set, F.slot_set_add, F.type_set_add, ⟨ob, hob, hcl.1⟩, fun b z => by cases z; exact ⟨ob, hob, hcl.2.1⟩, ?_⟩
  have args := ha.run cpos pins s1 σ H1 _ I1 q1
  rw [hs] at args ⊢
  refine Calls.callWith_builtin (show (false || (backTo cpos (starEach es X.env)).any (·.1)) = false by rw [hplain]; rfl) (Calls.evalArgs_plain (thn args fun us s2 ⟨vs, H2, I2, r2, k, b, L2, ev, hL2, hm, hk, few, q2⟩ => ?_))
  subst ev
  obtain rfl := Vals.ref1 r2
  obtain ⟨es, ep, t, R⟩ := nset_get I2 hL2 hm
  refine add_it R (hk.nk I2) hu few fun h' L' es' ep' t' sb R' e1 e2 => ?_
  exact ⟨.non, upd H2 a (NSetO X.w a L'), I2.write (e := a) (by rw [hL2]; trivial) (.inl rfl) (fun c u hc hu' => (sb.2 c hc).trans hu') (let ⟨o', ho', _⟩ := R'.obj; ⟨o', ho'⟩) (nset_ok R'.low), rfl, q2 L' e1 e2⟩
end
end ZN
set_option Elab.async false
set_option linter.all false
set_option maxRecDepth 100000
set_option maxHeartbeats 4000000
namespace ZN
open PySem PySem.Spec PyProof.Rows L2 Z
def keyD (fk : List D → Option FR) (r : D) : Option NestedKey := match fk [r] with
  | some (.dat (.tup l)) => match nkD (.tup l) with
    | some k => if k.depth ≤ 8 then some k else none
    | none => none
  | _ => none
def distF (fk : List D → Option FR) : List D → List NestedKey → List (List D) → Option (List (List D))
  | [], _, out => some out
  | r :: rs, seen, out => match r, keyD fk r with
    | .lst l, some k => if k ∈ seen then distF fk rs seen out else distF fk rs (k :: seen) (out ++ [l])
    | _, _ => none
def distD (fk : List D → Option FR) : List D → Option FR
  | [.lst rows] => if rows.length < 63 then (distF fk rows [] []).map FR.newR else none
  | _ => none
def rLs (K : PySem.W.Frag) : List V → Hp → VK → Prop := fun xs H Q => ∃ p ys, xs = [.ref p] ∧ (SqL K H p ys ∨ SqT K H p ys) ∧ ∀ l, H l = none → Q (.ref l) (upd H l (.lst ys))
theorem cr_ls {X : Cx} : CallR X (.type "list") (rLs X.K) := call_list_of
def tDist (K : PySem.W.Frag) (w : World) (fk : List D → Option FR) : TS :=
  tSeq (tAsg (tCB (rNSet w) tNil) (gName 1)) (tSeq (tAsg (tLst tNil) (gName 2)) (tSeq (tFor (iList K (tVar 0)) (gName 3)
    (tSeq (tAsg (tCall (spP K fk) [] (fun _ _ _ => False) (tCons (tVar 3) tNil)) (gName 4))
      (tIfS (tTest (tOp (rNIn K w true) (tVar 4) (tVar 1))) (tSeq (tDrop (tNAdd K w (tVar 1) (tCons (tVar 4) tNil))) (tDrop (tBM K "list" rAppend (tVar 2) (tCons (tCB (rLs K) (tCons (tVar 3) tNil)) tNil)))) tNext)))
    (tRet (tVar 2))))
theorem same_upd {H H' : Hp} {x : Addr} {o : HO} (s : Same H H') (n : H x = none) : Same H (upd H' x o) := fun b u e => by
  rw [upd_ne (fun z => by rw [z, n] at e; cases e)]
  exact s b u e
structure DI (K : PySem.W.Frag) (w : World) (fk : List D → Option FR) (H0 Hs : Hp) (a : Addr) (rows : List D) (res : List (List D)) (i : Nat) (σ : L2.St) (H : Hp) (Hk : Hp) (p q : Addr) (L : List (Addr × NestedKey)) (ks : List Addr) (seen : List NestedKey) (out : List (List D)) : Prop where
  ln : σ.length = 5
  s0 : σ[0]? = some (some (.ref a))
  s1 : σ[1]? = some (some (.ref p))
  s2 : σ[2]? = some (some (.ref q))
  sk : Same Hs Hk
  kh : Same Hk H
  h0 : Same H0 H
  gr : ∀ b o, Hk b = some o → Hs b = some o ∨ H0 b = none
  hp : H p = some (NSetO w p L)
  kp : Hk p = none
  op : H0 p = none
  np : p ∉ q :: ks
  hq : H q = some (.lst (ks.map V.ref))
  nd : (q :: ks).Nodup
  fr : ∀ x ∈ q :: ks, Hk x = none ∧ H0 x = none
  kd : KdOk K Hs H ks out
  ky : ∀ r ∈ L, KeyH K Hk r.2 r.1
  me : ∀ k, k ∈ L.map (·.2) ↔ k ∈ seen
  ll : L.length ≤ i
  kl : ks.length ≤ i
  un : distF fk (rows.drop i) seen out = some res
theorem set3 {σ : L2.St} {i j : Nat} {v : Option V} (h : i ≠ j) : (σ.set j v)[i]? = σ[i]? := List.getElem?_set_ne (Ne.symm h)
theorem dist_sem {K : PySem.W.Frag} {w : World} {fk : List D → Option FR} {v : V} {σ : L2.St} {H : Hp} {Q : VK} {E : XK} (hl : σ.length = 5) (h0 : σ[0]? = some (some v)) (h : spP K (distD fk) [v] H Q E) (W : Ends) (hr : W.rt = Q) : tDist K w fk W σ H := by
  obtain ⟨Hs, ds, fr, sm, hz, e, q⟩ := h
  cases hz with
  | @cons _ _ d ds' z zs =>
  cases zs
  cases z with
  | @lst a us rows sq zr =>
    simp only [distD] at e
    split at e
    · rename_i h63
      obtain ⟨res, hres, e⟩ := Option.map_eq_some_iff.mp e
      subst e
      refine ⟨rfl, fun p hp => ?_⟩
      refine ⟨Nat.zero_le _, fun r hr' => ?_⟩
      have npr : r ≠ p := fun z => by rw [z, upd_same] at hr'; cases hr'
      have hr0 : H r = none := by rw [upd_ne npr] at hr'; exact hr'
      have l1 : 1 < σ.length := by omega
      have l2 : 2 < (σ.set 1 (some (V.ref p))).length := by rw [List.length_set]; omega
      have sn : ∀ {x}, H x = none → Hs x = none := fun {x} hx => Same.free sm hx
      refine ⟨.ref a, (by rw [set3 (by decide), set3 (by decide)]; exact h0), a, rfl, ⟨us, ?_⟩, ?_⟩
      · exact (same_upd (same_upd sm (sn hp)) (sn hr0)).seq sq
      refine for_list (xs := us) (fun i σ' H' => ∃ Hk p q L ks seen out, DI K w fk H Hs a rows res i σ' H' Hk p q L ks seen out) ⟨Hs, p, r, [], [], [], [], ?_⟩ ?_ ?_ ?_
      · refine ⟨by rw [List.length_set, List.length_set]; exact hl, by rw [set3 (by decide), set3 (by decide)]; exact h0, by rw [set3 (by decide)]; exact List.getElem?_set_self l1, List.getElem?_set_self l2, Same.refl _, same_upd (same_upd sm (sn hp)) (sn hr0), same_upd (same_upd (Same.refl H) hp) hr0, fun b o e => .inl e, ?_, sn hp, hp, ?_, upd_same, ?_, ?_, trivial, ?_, ?_, Nat.zero_le _, Nat.zero_le _, hres⟩
        · rw [upd_ne (Ne.symm npr), upd_same]
        · intro m; exact npr (List.mem_singleton.mp m).symm
        · simp
        · intro x m
          rw [List.mem_singleton.mp m]
          exact ⟨sn hr0, hr0⟩
        · intro r m; cases m
        · intro k; simp
      · rintro i σ' H' _ ⟨Hk, p, q, L, ks, seen, out, I⟩
        exact (I.sk.trans I.kh).seq sq
      · rintro i x σ' H' hx ⟨Hk, p, q, L, ks, seen, out, I⟩
        obtain ⟨d, hd, dz⟩ := zr.getV hx
        have hi : i < rows.length := (List.getElem?_eq_some_iff.mp hd).1
        have un := I.un
        have hdr : rows.drop i = d :: rows.drop (i + 1) := by rw [List.drop_eq_getElem_cons hi]; congr 1; exact Option.some.inj ((List.getElem?_eq_getElem hi).symm.trans hd)
        rw [hdr] at un
        unfold distF at un
        split at un
        · rename_i l k hkey
          unfold keyD at hkey
          split at hkey
          · rename_i tl hfk
            split at hkey
            · rename_i k' hk'
              split at hkey
              · rename_i hdep
                cases hkey
                -- key = f(row)
                have s3 : (σ'.set 3 (some x))[3]? = some (some x) := List.getElem?_set_self (by rw [I.ln]; decide)
                refine ⟨x, s3, Hk, [.lst l], .dat (.tup tl), I.kh, .cons (dz.mono I.sk) .nil, hfk, fun y Hk' H1 c1 c2 c3 c4 rel => ?_⟩
                have rel : Dz K Hk' y (.tup tl) := rel
                obtain ⟨b, rfl⟩ : ∃ b, y = V.ref b := by cases rel with | @tup b _ _ _ _ => exact ⟨b, rfl⟩
                have sk1 := I.sk.trans c1
                have key1 : KeyH K Hk' k b := ⟨_, rel, hk', hdep⟩
                have ky1 : ∀ r ∈ L, KeyH K Hk' r.2 r.1 := fun r m => (I.ky r m).mono c1
                have new : ∀ {x o}, H' x = some o → Hk x = none → Hk' x = none := fun {x o} e n => by
                  cases z : Hk' x with
                  | none => rfl
                  | some u =>
                    rcases c4 x u z with y | y
                    · rw [n] at y; cases y
                    · rw [e] at y; cases y
                have kp1 : Hk' p = none := new I.hp I.kp
                have hp1 := c2 _ _ I.hp
                have hq1 := c2 _ _ I.hq
                have live : ∀ x ∈ q :: ks, ∃ o, H' x = some o := fun x m => by
                  rcases List.mem_cons.mp m with rfl | m
                  · exact ⟨_, I.hq⟩
                  · exact I.kd.live x m
                have fr1 : ∀ x ∈ q :: ks, Hk' x = none ∧ H x = none := fun x m => by
                  obtain ⟨o, ho⟩ := live x m
                  exact ⟨new ho (I.fr x m).1, (I.fr x m).2⟩
                have gr1 : ∀ b o, Hk' b = some o → Hs b = some o ∨ H b = none := fun b o e => by
                  rcases c4 b o e with y | y
                  · exact I.gr b o y
                  · exact .inr (Same.free I.h0 y)
                have kd1 : KdOk K Hs H1 ks out := I.kd.move (Same.refl _) fun x _ o e => c2 x o e
                have h01 : Same H H1 := I.h0.trans c2
                generalize hσ : (σ'.set 3 (some x)).set 4 (some (V.ref b)) = τ
                have t0 : τ[0]? = some (some (.ref a)) := by rw [← hσ, set3 (by decide), set3 (by decide)]; exact I.s0
                have t1 : τ[1]? = some (some (.ref p)) := by rw [← hσ, set3 (by decide), set3 (by decide)]; exact I.s1
                have t2 : τ[2]? = some (some (.ref q)) := by rw [← hσ, set3 (by decide), set3 (by decide)]; exact I.s2
                have t3 : τ[3]? = some (some x) := by rw [← hσ, set3 (by decide)]; exact s3
                have t4 : τ[4]? = some (some (.ref b)) := by rw [← hσ]; exact List.getElem?_set_self (by rw [List.length_set, I.ln]; decide)
                have tl5 : τ.length = 5 := by rw [← hσ, List.length_set, List.length_set]; exact I.ln
                dsimp only [gName]
                rw [hσ]
                refine ⟨_, t4, _, t1, k, b, p, L, rfl, rfl, hp1, fun r m => (ky1 r m).mono c3, key1.mono c3, _, rfl, ?_⟩
                by_cases hm : k ∈ L.map (·.2)
                · rw [if_pos ((I.me k).mp hm)] at un
                  rw [if_pos rfl, decide_eq_true hm]
                  simp only [Bool.not_true, Bool.false_eq_true, if_false]
                  exact ⟨Hk', p, q, L, ks, seen, out, tl5, t0, t1, t2, sk1, c3, h01, gr1, hp1, kp1, I.op, I.np, hq1, I.nd, fr1, kd1, ky1, I.me, Nat.le_succ_of_le I.ll, Nat.le_succ_of_le I.kl, un⟩
                · rw [if_neg fun z => hm ((I.me k).mpr z)] at un
                  rw [if_pos rfl, decide_eq_false hm]
                  simp only [Bool.not_false, if_true]
                  refine ⟨_, t1, p, L, rfl, hp1, _, t4, k, b, L, rfl, hp1, fun r m => (ky1 r m).mono c3, key1.mono c3, by have := I.ll; omega, fun L' _ e2 => ?_⟩
                  have pm := e2 hm
                  have hq2 : (upd H1 p (NSetO w p L')) q = some (.lst (ks.map V.ref)) := by
                    rw [upd_ne (fun z => I.np (by rw [← z]; exact List.mem_cons_self))]
                    exact hq1
                  refine ⟨_, t2, .inl ⟨rfl, _, SqL.of hq2⟩, _, t3, ?_⟩
                  have c32 := same_upd (o := NSetO w p L') c3 kp1
                  cases dz with
                  | @lst xa xus _ xsq xzs =>
                    refine ⟨xa, xus, rfl, .inl ((sk1.trans c32).seq xsq), fun r hr2 => ?_⟩
                    have npr : p ≠ r := fun z => by rw [← z, upd_same] at hr2; cases hr2
                    have hr1 : H1 r = none := by rw [upd_ne (Ne.symm npr)] at hr2; exact hr2
                    have hrk : Hk' r = none := Same.free c3 hr1
                    have hr0 : H r = none := Same.free h01 hr1
                    have dead : ∀ x ∈ q :: ks, x ≠ r := fun x m z => by
                      obtain ⟨o, ho⟩ := live x m
                      have := c2 _ _ ho
                      rw [z, hr1] at this; cases this
                    have nqr : q ≠ r := dead q List.mem_cons_self
                    have hq3 : (upd (upd H1 p (NSetO w p L')) r (.lst xus)) q = some (.lst (ks.map V.ref)) := by rw [upd_ne nqr]; exact hq2
                    refine ⟨q, ks.map V.ref, .ref r, rfl, rfl, hq3, ?_, ?_⟩
                    · rw [List.length_map]
                      have := I.kl
                      exact Nat.lt_of_le_of_lt (m := 100) (by omega) (by decide)
                    have kq : Hk' q = none := (fr1 q List.mem_cons_self).1
                    have q0 : H q = none := (fr1 q List.mem_cons_self).2
                    refine ⟨Hk', p, q, L', ks ++ [r], k :: seen, out ++ [l], tl5, t0, t1, t2, sk1, same_upd (same_upd c32 hrk) kq, same_upd (same_upd (same_upd h01 I.op) hr0) q0, gr1, ?_, kp1, I.op, ?_, ?_, ?_, ?_, ?_, ?_, ?_, ?_, ?_, un⟩
                    · rw [upd_ne (fun z => I.np (by rw [z]; exact List.mem_cons_self)), upd_ne npr, upd_same]
                    · intro m
                      rcases List.mem_append.mp (show p ∈ (q :: ks) ++ [r] from m) with m | m
                      · exact I.np m
                      · exact npr (List.mem_singleton.mp m)
                    · rw [upd_same, List.map_append]; rfl
                    · show ((q :: ks) ++ [r]).Nodup
                      exact List.nodup_append.mpr ⟨I.nd, by simp, fun x m y m2 => by rw [List.mem_singleton.mp m2]; exact dead x m⟩
                    · intro x m
                      rcases List.mem_append.mp (show x ∈ (q :: ks) ++ [r] from m) with m | m
                      · exact fr1 x m
                      · rw [List.mem_singleton.mp m]; exact ⟨hrk, hr0⟩
                    · have old : KdOk K Hs (upd (upd (upd H1 p (NSetO w p L')) r (.lst xus)) q (.lst (ks.map V.ref ++ [.ref r]))) ks out := kd1.move (Same.refl _) fun x m o e => by
                        have nq : x ≠ q := fun z => (List.nodup_cons.mp I.nd).1 (by rw [← z]; exact m)
                        have np' : x ≠ p := fun z => I.np (by rw [← z]; exact List.mem_cons_of_mem _ m)
                        rw [upd_ne nq, upd_ne (dead x (List.mem_cons_of_mem _ m)), upd_ne np']
                        exact e
                      have app : ∀ {ks : List Addr} {ls : List (List D)} {HH : Hp}, KdOk K Hs HH ks ls → (∃ us, HH r = some (.lst us) ∧ DzA K Hs us l) → KdOk K Hs HH (ks ++ [r]) (ls ++ [l]) := by
                        intro ks
                        induction ks with
                        | nil =>
                          intro ls HH h1 h2
                          cases ls with
                          | nil => exact ⟨h2, trivial⟩
                          | cons _ _ => exact h1.elim
                        | cons y ys ih =>
                          intro ls HH h1 h2
                          cases ls with
                          | nil => exact h1.elim
                          | cons _ _ => exact ⟨h1.1, ih h1.2 h2⟩
                      exact app old ⟨xus, by rw [upd_ne (Ne.symm nqr), upd_same], xzs⟩
                    · intro r' m
                      rcases List.mem_cons.mp (pm.mem_iff.mp m) with rfl | m
                      · exact key1
                      · exact ky1 r' m
                    · intro k'
                      rw [(pm.map (·.2)).mem_iff, List.map_cons, List.mem_cons, List.mem_cons, I.me k']
                    · rw [pm.length_eq, List.length_cons]
                      have := I.ll
                      omega
                    · rw [List.length_append, List.length_singleton]
                      have := I.kl
                      omega
              · cases hkey
            · cases hkey
          · cases hkey
        · cases un
      · rintro σ' H' ⟨Hk, p, q', L, ks, seen, out, I⟩
        have un := I.un
        rw [List.drop_of_length_le (by rw [zr.length]; exact Nat.le_refl _)] at un
        cases un
        refine ⟨_, I.s2, ?_⟩
        show W.rt (.ref q') H'
        rw [hr]
        exact q _ Hs H' (Same.refl _) I.h0 (I.sk.trans I.kh) (fun b o e => .inl e) ⟨q', ks, rfl, I.hq, I.nd, fun x m => ⟨Same.free I.sk (I.fr x m).1, (I.fr x m).2⟩, I.kd⟩
    · cases e
  | _ => simp [distD] at e
/-- THE RULE for such a def -/
theorem okDist {P : Program} {w : World} {K : PySem.W.Frag} {mg : Str → Option Value} {base : Heap} {x qual : Str} {st : Stmt} {f : Addr} {fd : FuncData} {N ps : List Str} {k : Nat} {fk : List D → Option FR} (F : Fun K x qual st f fd) (S : FnScope N ps (defScope st)) (h5 : N.length = 5) (h1 : ps.length = 1)
    (hbody : ∀ (cdv : Value) (A : Around) (outer : List Env) (s0 : Shared) (H : Hp) (E : XK), Room k (A.deeper (envOfC qual (defScope st) s0.heap.objs.size f cdv)) →
      PSs (cxOf CX0 P w K mg base N qual (defScope st) f cdv A outer s0 H E).nox (defBody st) (tDist K w fk)) : FnOk P w K mg base CX0 (k + 1) f fd ps (spP K (distD fk)) := by
  have arity : ∀ vs H Q E, spP K (distD fk) vs H Q E → vs.length = ps.length := fun vs H Q E ⟨Hs, ds, fr, _, hz, e, _⟩ => by
    rw [hz.length, h1]
    match ds, e with
    | [_], _ => rfl
    | [], e => simp [distD] at e
    | _ :: _ :: _, e => simp [distD] at e
  refine F.ok S arity (fun cdv A outer s0 H vs Q E hr h => ⟨_, hbody cdv A outer s0 H E hr, ?_⟩)
  have hv : vs.length = 1 := (arity vs H Q E h).trans h1
  match vs, hv with
  | [v], _ =>
    refine dist_sem (σ := L2.start N [v]) (by rw [start_len (by rw [h5]; show 1 ≤ 5; decide)]; exact h5) rfl h _ rfl
end ZN
set_option Elab.async false
set_option linter.all false
set_option maxRecDepth 100000
set_option maxHeartbeats 4000000
namespace Z
open PySem PySem.Spec PyProof.Rows L2
/-- what a name holds, as data of this moment -/
def pick (i : Nat) (g : G) : Option D := match zVar i g with
  | some (r, _) => rdX g r
  | none => none
theorem pick_ok {C : Ct} {Hs : Hp} {A : List Addr} {g : G} {σ : L2.St} {H : Hp} {i : Nat} {d : D} (ok : Ok C Hs A g σ H) (hi : i < C.n) (e : pick i g = some d) : ∃ v, σ[i]? = some (some v) ∧ Dz C.K H v d := by
  unfold pick zVar at e
  cases hg : g[i]? with
  | none => rw [hg] at e; cases e
  | some s =>
    rw [hg] at e
    cases s with
    | un => cases e
    | dat d' =>
      cases e
      obtain ⟨v, h1, h2⟩ := ok.dat i _ hg
      exact ⟨v, h1, h2.mono ok.same⟩
    | frz d' =>
      cases e
      obtain ⟨a, _, h2, h3⟩ := ok.frz i _ hg
      exact ⟨_, h2 hi, h3.mono ok.same⟩
    | own c p l =>
      obtain ⟨a, o, h1, h2, _⟩ := ok.own i c p l hg
      exact ⟨_, h2 hi, ok.rdX (r := .bor i) ⟨a, h1, rfl⟩ e⟩
    | rws ls =>
      obtain ⟨a, ks, h1, h2, _⟩ := ok.rws i ls hg
      exact ⟨_, h2 hi, ok.rdX (r := .bor i) ⟨a, h1, rfl⟩ e⟩
def isLI : D → D → Option D
  | .lst l, .int k => atI l k
  | _, _ => none
def zCallKK (f : List D → Option FR) (j jj i : Nat) : ZM := fun g => do
  let d1 ← pick j g
  let d2 ← pick jj g
  let k ← pick i g
  let l1 ← isLI d1 k
  let l2 ← isLI d2 k
  let fr ← f [l1, l2]
  match fr with
  | .dat d => if d.scal = true then some (.dat d, g) else none
  | _ => none
theorem isLI_ok {K : PySem.W.Frag} {H : Hp} {v u : V} {d k z : D} (hd : Dz K H v d) (hk : Dz K H u k) (e : isLI d k = some z) : ∃ a xs n y, v = .ref a ∧ u = .int n ∧ SqL K H a xs ∧ atI xs n = some y ∧ Dz K H y z := by
  cases hd with
  | lst sq zs =>
    cases hk with
    | int n =>
      obtain ⟨y, h1, h2⟩ := atI_dz zs e
      exact ⟨_, _, n, y, rfl, rfl, sq, h1, h2⟩
    | _ => cases e
  | _ => cases e
section
variable {X : Cx} {f : List D → Option FR}
theorem ze_callKK {k i j jj : Nat} {x y1 y2 y3 y4 : Str} {p pos p1 p2 p3 p4 s1 s2 : Pos} (c : Cal X.prog X.w X.K X.mg X.base k x (spP X.K f)) (hr : Room k X.A) (h1 : PE X (.Name y1 p1) (tVar j)) (h2 : PE X (.Name y2 p2) (tVar i)) (h3 : PE X (.Name y3 p3) (tVar jj)) (h4 : PE X (.Name y4 p4) (tVar i))
    (hi : i < X.N.length) (hj : j < X.N.length) (hjj : jj < X.N.length) (hg : Gl X x := by rfl) (hdb : (x == ("__debug__" : Str)) = false := by decide) :
    ZE X (.Call (.Name x p) [.Subscript (.Name y1 p1) (.Name y2 p2) s1, .Subscript (.Name y3 p3) (.Name y4 p4) s2] [] pos) (zCallKK f j jj i) := by
  obtain ⟨fa, fd, ps, c1, c2, c3, c4⟩ := c
  refine PE.of (pe_call (E := E0) c4 hr hg c1 c2 c3 .nil pass0 (pa_cons (pe_ix ix_seq h1 h2 (fun _ _ => rfl)) (pa_cons (pe_ix ix_seq h3 h4 (fun _ _ => rfl)) pa_nil)) hdb rfl rfl) fun σ H Q ⟨C, Hs, A, g, r, g', hK, hn, ok, e, q⟩ => ?_
  unfold zCallKK at e
  simp only [Option.bind_eq_bind, Option.bind_eq_some_iff] at e
  obtain ⟨d1, e1, d2, e2, dk, e3, l1, e4, l2, e5, fr, e6, e⟩ := e
  obtain ⟨v1, w1, z1⟩ := pick_ok ok (by rw [hn]; exact hj) e1
  obtain ⟨v2, w2, z2⟩ := pick_ok ok (by rw [hn]; exact hjj) e2
  obtain ⟨vi, w3, z3⟩ := pick_ok ok (by rw [hn]; exact hi) e3
  obtain ⟨a1, xs1, n1, y1, rfl, rfl, q1, t1, u1⟩ := isLI_ok z1 z3 e4
  obtain ⟨a2, xs2, n2, y2, rfl, en, q2, t2, u2⟩ := isLI_ok z2 z3 e5
  cases en
  rw [hK] at q1 q2 u1 u2
  cases fr with
  | dat d =>
    simp only at e
    split at e
    · rename_i hs
      cases e
      refine ⟨_, w1, _, w3, .inl ⟨a1, xs1, n1, y1, rfl, rfl, q1, t1, _, w2, _, w3, .inl ⟨a2, xs2, n1, y2, rfl, rfl, q2, t2, ?_⟩⟩⟩
      exact ⟨H, [l1, l2], .dat d, Same.refl _, .cons u1 (.cons u2 .nil), e6, fun v Hs' H' _ sH _ _ rf => q Hs A v H' (Same.refl _) (Pre.refl _) (ok.more sH) (show Dz C.K Hs v d by rw [hK]; exact (show Dz X.K Hs' v d from rf).any hs)⟩
    · cases e
  | new _ => cases e
  | newR _ => cases e
end
section
variable {f : List D → Option FR} {g : G}
theorem er_callKK {i j jj : Nat} {xs ys : List D} {k : Int} {l1 l2 d : D} (e1 : pick j g = some (.lst xs)) (e2 : pick jj g = some (.lst ys)) (e3 : pick i g = some (.int k)) (e4 : atI xs k = some l1) (e5 : atI ys k = some l2) (e6 : f [l1, l2] = some (.dat d)) (hs : d.scal = true) : zCallKK f j jj i g = some (.dat d, g) := by
  unfold zCallKK
  simp only [Option.bind_eq_bind, e1, e2, e3, Option.bind_some, isLI, e4, e5, e6, hs, if_true]
end
end Z
set_option Elab.async false
set_option linter.all false
set_option maxRecDepth 100000
set_option maxHeartbeats 4000000
namespace Qk16
open PySem PySem.Spec PyProof.Rows L2 Z
def topS (i : Nat) : Stmt := PySem.Challenge.pw_stylobate_k16_different_rows_and_limits.main.body.getD i (.Pass ⟨0, 0, 0, 0⟩)
noncomputable section
variable {P : Program} {w : World} {K : PySem.W.Frag} {mg : Str → Option Value} {base : Heap}
abbrev st__law_numbers : Stmt := topS 5
theorem sc__law_numbers : FnScope ["_law_script", "_law_count", "_law_numbers_here", "_law_k", "_law_cell"] ["_law_script", "_law_count"] (defScope st__law_numbers) := ⟨rfl, rfl, rfl, by decide +kernel, rfl, by decide +kernel, by decide +kernel⟩
def lb__law_numbers_1 : SM := zFg [3, 4] (zSeq (zSet 5 4 (zC (.int 0))) (zSeq (zIfS 5 (zTst (zOp gtD (zCallS lenD (zCons (zVar 0) (zNil))) (zC (.int 0)))) (zSet 5 4 (zCallS intU (zCons (zIx (zVar 0) (zOp subD (zVar 3) (zOp mulD (zOp divD (zVar 3) (zCallS lenD (zCons (zVar 0) (zNil)))) (zCallS lenD (zCons (zVar 0) (zNil)))))) (zNil)))) (zNx)) (zSeq (zIfS 5 (zTst (zOp ltX (zVar 4) (zC (.int 0)))) (zSet 5 4 (zOp subD (zC (.int 1)) (zOp mulD (zC (.int 2)) (zVar 4)))) (zNx)) (zSeq (zIfS 5 (zOrT (zTst (zOp geD (zVar 3) (zCallS lenD (zCons (zVar 0) (zNil))))) (zTst (zOp ltX (zVar 4) (zC (.int 1000000000))))) (zSeq (zSet 5 4 (zOp modD (zCallS intU (zCons (zOp addS (zOp mulD (zOp addS (zOp addS (zVar 4) (zOp mulD (zC (.int 101)) (zVar 3))) (zC (.int 13))) (zC (.int 40692))) (zOp mulD (zOp mulD (zVar 3) (zVar 3)) (zC (.int 6271)))) (zNil))) (zC (.int 2147483399)))) (zSet 5 4 (zOp modD (zCallS intU (zCons (zOp mulD (zOp addS (zOp addS (zVar 4) (zOp mulD (zC (.int 29)) (zVar 3))) (zC (.int 5))) (zC (.int 3935559000370003845))) (zNil))) (zC (.int 18446744073709551533))))) (zNx)) (zApp 5 (zVar 2) (zVar 4))))))
def b__law_numbers : SM := zSeq (zSet 5 2 (zLst (zNil))) (zSeq (zFor 5 (ziR1 (zCons (zVar 1) (zNil))) (gN 3) (lb__law_numbers_1)) (zRet (zVar 2)))
def d__law_numbers : List D → Option FR := runP 5 2 b__law_numbers
set_option maxHeartbeats 4000000 in
theorem ok__law_numbers (h : DefAt K mg "_law_numbers" st__law_numbers) (m_int : mg "int" = none) (m_len : mg "len" = none) (m_range : mg "range" = none) : Cal P w K mg base 1 "_law_numbers" (spP K d__law_numbers) := by
  obtain ⟨a, fd, h1, F⟩ := h
  exact ⟨a, fd, _, h1, F.kp, F.binds (ps := ["_law_script", "_law_count"]) fun _ _ _ _ _ _ us hl => match us, hl with | [_, _], _ => rfl, okP F sc__law_numbers fun cdv A outer s0 H E hr =>
    zss_cons (zs_set (i := 2) sc__law_numbers.nd rfl (Or.inl rfl) (ze_lst (za_nil))) (zss_cons (zs_for PassesOwn.never rfl (zi_range1 (by rfl) m_range (za_cons (ze_var rfl (pv 1)) (za_nil))) (zg_name (i := 3) sc__law_numbers.nd rfl (Or.inl rfl)) (zss_fg (vs := [3, 4]) (zss_cons (zs_set (i := 4) sc__law_numbers.nd rfl (Or.inl rfl) (ze_int)) (zss_cons (zs_if (zt_cmp o_gt s_gt (ze_callB call_len s_len (by rfl) m_len PySem.boot_len (za_cons (ze_var rfl (pv 0)) (za_nil))) (ze_int) (nomark _)) (zss_one (zs_set (i := 4) sc__law_numbers.nd rfl (Or.inl rfl) (ze_callTy call_intU s_intU (by rfl) m_int (by decide +kernel) (za_cons (ze_ix (ze_var rfl (pv 0)) (ze_op op_sub s_sub (ze_var rfl (pv 3)) (ze_op o_mul s_mul (ze_op o_div s_div (ze_var rfl (pv 3)) (ze_callB call_len s_len (by rfl) m_len PySem.boot_len (za_cons (ze_var rfl (pv 0)) (za_nil)))) (ze_callB call_len s_len (by rfl) m_len PySem.boot_len (za_cons (ze_var rfl (pv 0)) (za_nil)))))) (za_nil))))) (zss_nil)) (zss_cons (zs_if (zt_cmp (o_ltX hr) s_ltX (ze_var rfl (pv 4)) (ze_int) (nomark _)) (zss_one (zs_set (i := 4) sc__law_numbers.nd rfl (Or.inl rfl) (ze_op op_sub s_sub (ze_int) (ze_op o_mul s_mul (ze_int) (ze_var rfl (pv 4)))))) (zss_nil)) (zss_cons (zs_if (zt_w (zw_or (zt_cmp o_ge s_ge (ze_var rfl (pv 3)) (ze_callB call_len s_len (by rfl) m_len PySem.boot_len (za_cons (ze_var rfl (pv 0)) (za_nil))) (nomark _)) (zw_or1 (zt_cmp (o_ltX hr) s_ltX (ze_var rfl (pv 4)) (ze_int) (nomark _))))) (zss_cons (zs_set (i := 4) sc__law_numbers.nd rfl (Or.inl rfl) (ze_op o_mod s_mod (ze_callTy call_intU s_intU (by rfl) m_int (by decide +kernel) (za_cons (ze_op o_add s_add (ze_op o_mul s_mul (ze_op o_add s_add (ze_op o_add s_add (ze_var rfl (pv 4)) (ze_op o_mul s_mul (ze_int) (ze_var rfl (pv 3)))) (ze_int)) (ze_int)) (ze_op o_mul s_mul (ze_op o_mul s_mul (ze_var rfl (pv 3)) (ze_var rfl (pv 3))) (ze_int))) (za_nil))) (ze_int))) (zss_one (zs_set (i := 4) sc__law_numbers.nd rfl (Or.inl rfl) (ze_op o_mod s_mod (ze_callTy call_intU s_intU (by rfl) m_int (by decide +kernel) (za_cons (ze_op o_mul s_mul (ze_op o_add s_add (ze_op o_add s_add (ze_var rfl (pv 4)) (ze_op o_mul s_mul (ze_int) (ze_var rfl (pv 3)))) (ze_int)) (ze_int)) (za_nil))) (ze_int))))) (zss_nil)) (zss_one (zs_app (ze_var rfl (pv 2)) (ze_var rfl (pv 4)))))))))) (zss_one (zs_ret (ze_var rfl (pv 2)))))⟩
abbrev st_rank : Stmt := topS 1
theorem sc_rank : FnScope ["value"] ["value"] (defScope st_rank) := ⟨rfl, rfl, rfl, by decide +kernel, rfl, by decide +kernel, by decide +kernel⟩
def b_rank : SM := zSeq (zIfS 1 (zTst (zOp isD (zVar 0) (zC .non))) (zRet (zTup (zCons (zC (.int 0)) (zCons (zC (.int 0)) (zNil))))) (zNx)) (zSeq (zIfS 1 (zTru (zCallS isiD (zCons (zVar 0) (zCons (zC (.raw (.ty "bool"))) (zNil))))) (zRet (zTup (zCons (zC (.int 1)) (zCons (zCallS intU (zCons (zVar 0) (zNil))) (zNil))))) (zNx)) (zSeq (zIfS 1 (zTru (zCallS isiD (zCons (zVar 0) (zCons (zC (.raw (.ty "int"))) (zNil))))) (zRet (zTup (zCons (zC (.int 2)) (zCons (zVar 0) (zNil))))) (zNx)) (zRet (zTup (zCons (zC (.int 3)) (zCons (zVar 0) (zNil)))))))
def d_rank : List D → Option FR := runP 1 1 b_rank
set_option maxHeartbeats 4000000 in
theorem ok_rank (h : DefAt K mg "rank" st_rank) (m_bool : mg "bool" = none) (m_int : mg "int" = none) (m_isinstance : mg "isinstance" = none) : Cal P w K mg base 1 "rank" (spP K d_rank) := by
  obtain ⟨a, fd, h1, F⟩ := h
  exact ⟨a, fd, _, h1, F.kp, F.binds (ps := ["value"]) fun _ _ _ _ _ _ us hl => match us, hl with | [_], _ => rfl, okP F sc_rank fun cdv A outer s0 H E hr =>
    zss_cons (zs_if (zt_cmp o_is s_is (ze_var rfl (pv 0)) (ze_non) (nomark _)) (zss_one (zs_ret (ze_tup (za_cons (ze_int) (za_cons (ze_int) (za_nil)))))) (zss_nil)) (zss_cons (zs_if (zt_truth (ze_callB call_isiU s_isi (by rfl) m_isinstance (by decide +kernel) (za_cons (ze_var rfl (pv 0)) (za_cons (ze_bltn (by rfl) m_bool (by decide +kernel) rfl) (za_nil))))) (zss_one (zs_ret (ze_tup (za_cons (ze_int) (za_cons (ze_callTy call_intU s_intU (by rfl) m_int (by decide +kernel) (za_cons (ze_var rfl (pv 0)) (za_nil))) (za_nil)))))) (zss_nil)) (zss_cons (zs_if (zt_truth (ze_callB call_isiU s_isi (by rfl) m_isinstance (by decide +kernel) (za_cons (ze_var rfl (pv 0)) (za_cons (ze_bltn (by rfl) m_int (by decide +kernel) rfl) (za_nil))))) (zss_one (zs_ret (ze_tup (za_cons (ze_int) (za_cons (ze_var rfl (pv 0)) (za_nil)))))) (zss_nil)) (zss_one (zs_ret (ze_tup (za_cons (ze_int) (za_cons (ze_var rfl (pv 0)) (za_nil))))))))⟩
abbrev st_row_rank : Stmt := topS 2
theorem sc_row_rank : FnScope ["row", "value"] ["row"] (defScope st_row_rank) := ⟨rfl, rfl, rfl, by decide +kernel, rfl, by decide +kernel, by decide +kernel⟩
def b_row_rank : SM := zRet (z_tuple (zCons (zLc (ziL 2 (zVar 0)) (gN 1) (zYes) (zCall d_rank (zCons (zVar 1) (zNil))) [1]) (zNil)))
def d_row_rank : List D → Option FR := runP 2 1 b_row_rank
set_option maxHeartbeats 4000000 in
theorem ok_row_rank (h : DefAt K mg "row_rank" st_row_rank) (m_tuple : mg "tuple" = none) (c_rank : Cal P w K mg base 1 "rank" (spP K d_rank)) : Cal P w K mg base 2 "row_rank" (spP K d_row_rank) := by
  obtain ⟨a, fd, h1, F⟩ := h
  exact ⟨a, fd, _, h1, F.kp, F.binds (ps := ["row"]) fun _ _ _ _ _ _ us hl => match us, hl with | [_], _ => rfl, okP F sc_row_rank fun cdv A outer s0 H E hr =>
    zss_one (zs_ret (ze_tuple hr (by rfl) m_tuple (za_cons (ze_lc (own := [("value", 1)]) rfl sc_row_rank.nd (zi_list (ze_var rfl (pv 0))) (blkOk_by (N := ["row", "value"]) (own := [("value", 1)]) (sc := defScope st_row_rank) (by decide +kernel)) (fun _ _ _ _ _ => zgw_name (i := 1) sc_row_rank.nd rfl (Or.inl rfl) (by decide)) (fun _ _ _ _ _ => zts_nil) (fun _ _ _ _ _ => ze_call (c_rank.mono (by decide)) hr (za_cons (ze_var rfl (pv 1)) (za_nil)))) (za_nil))))⟩
abbrev st_different_rows : Stmt := topS 3
theorem sc_different_rows : FnScope ["rows", "seen", "result", "row", "key"] ["rows"] (defScope st_different_rows) := ⟨rfl, rfl, rfl, by decide +kernel, rfl, by decide +kernel, by decide +kernel⟩
def d_different_rows : List D → Option FR := ZN.distD d_row_rank
set_option maxHeartbeats 4000000 in
theorem ok_different_rows (h : DefAt K mg "different_rows" st_different_rows) (m_list : mg "list" = none) (m_set : mg "set" = none) (c_row_rank : Cal P w K mg base 2 "row_rank" (spP K d_row_rank)) : Cal P w K mg base 3 "different_rows" (spP K d_different_rows) := by
  obtain ⟨a, fd, h1, F⟩ := h
  exact ⟨a, fd, _, h1, F.kp, F.binds (ps := ["rows"]) fun _ _ _ _ _ _ us hl => match us, hl with | [_], _ => rfl, ZN.okDist F sc_different_rows rfl rfl fun cdv A outer s0 H E hr => by
    obtain ⟨fa, fd', ps', c1, c2, c3, c4⟩ := c_row_rank
    exact pss_cons (ps_set sc_different_rows.nd rfl (Or.inl rfl) (pe_callTy0 ZN.cr_nset (by rfl) m_set (by decide +kernel))) (pss_cons (ps_set sc_different_rows.nd rfl (Or.inl rfl) (pe_lst pa_nil)) (pss_cons (ps_for PassesOwn.never rfl (pi_list (pv 0)) (pg_name sc_different_rows.nd rfl (Or.inl rfl)) (pss_cons (ps_set sc_different_rows.nd rfl (Or.inl rfl) (pe_call c4 (hr.mono (by decide)) (by rfl) c1 c2 c3 .nil pass0 (pa_cons (pv 3) pa_nil))) (pss_one (ps_if (pt_cmpR (ZN.or_nnotin hr.units) (pv 4) (pv 1) (by rfl)) (pss_cons (ps_expr (ZN.pe_nadd hr.units (pv 1) (pa_cons (pv 4) pa_nil))) (pss_one (ps_expr (pe_bm PySem.F.plainAttrs_list PySem.F.slot_list_append PySem.F.type_list_append mt_append (pv 2) (pa_cons (pe_callTy ZN.cr_ls (by rfl) m_list (by decide +kernel) (pa_cons (pv 3) pa_nil)) pa_nil))))) pss_nil)))) (pss_one (ps_ret (pv 2)))))⟩
abbrev st__law_rank : Stmt := topS 6
theorem sc__law_rank : FnScope ["_law_value_here"] ["_law_value_here"] (defScope st__law_rank) := ⟨rfl, rfl, rfl, by decide +kernel, rfl, by decide +kernel, by decide +kernel⟩
def b__law_rank : SM := zSeq (zIfS 1 (zTst (zOp isD (zVar 0) (zC .non))) (zRet (zTup (zCons (zC (.int 0)) (zCons (zC (.int 0)) (zNil))))) (zNx)) (zSeq (zIfS 1 (zTst (zOp isD (zVar 0) (zC (.bl true)))) (zRet (zTup (zCons (zC (.int 1)) (zCons (zC (.int 1)) (zNil))))) (zNx)) (zSeq (zIfS 1 (zTst (zOp isD (zVar 0) (zC (.bl false)))) (zRet (zTup (zCons (zC (.int 1)) (zCons (zC (.int 0)) (zNil))))) (zNx)) (zSeq (zIfS 1 (zTru (zCallS isiD (zCons (zVar 0) (zCons (zC (.raw (.ty "str"))) (zNil))))) (zRet (zTup (zCons (zC (.int 3)) (zCons (zVar 0) (zNil))))) (zNx)) (zRet (zTup (zCons (zC (.int 2)) (zCons (zVar 0) (zNil))))))))
def d__law_rank : List D → Option FR := runP 1 1 b__law_rank
set_option maxHeartbeats 4000000 in
theorem ok__law_rank (h : DefAt K mg "_law_rank" st__law_rank) (m_isinstance : mg "isinstance" = none) (m_str : mg "str" = none) : Cal P w K mg base 1 "_law_rank" (spP K d__law_rank) := by
  obtain ⟨a, fd, h1, F⟩ := h
  exact ⟨a, fd, _, h1, F.kp, F.binds (ps := ["_law_value_here"]) fun _ _ _ _ _ _ us hl => match us, hl with | [_], _ => rfl, okP F sc__law_rank fun cdv A outer s0 H E hr =>
    zss_cons (zs_if (zt_cmp o_is s_is (ze_var rfl (pv 0)) (ze_non) (nomark _)) (zss_one (zs_ret (ze_tup (za_cons (ze_int) (za_cons (ze_int) (za_nil)))))) (zss_nil)) (zss_cons (zs_if (zt_cmp o_is s_is (ze_var rfl (pv 0)) (ze_bl) (nomark _)) (zss_one (zs_ret (ze_tup (za_cons (ze_int) (za_cons (ze_int) (za_nil)))))) (zss_nil)) (zss_cons (zs_if (zt_cmp o_is s_is (ze_var rfl (pv 0)) (ze_bl) (nomark _)) (zss_one (zs_ret (ze_tup (za_cons (ze_int) (za_cons (ze_int) (za_nil)))))) (zss_nil)) (zss_cons (zs_if (zt_truth (ze_callB call_isiU s_isi (by rfl) m_isinstance (by decide +kernel) (za_cons (ze_var rfl (pv 0)) (za_cons (ze_bltn (by rfl) m_str (by decide +kernel) rfl) (za_nil))))) (zss_one (zs_ret (ze_tup (za_cons (ze_int) (za_cons (ze_var rfl (pv 0)) (za_nil)))))) (zss_nil)) (zss_one (zs_ret (ze_tup (za_cons (ze_int) (za_cons (ze_var rfl (pv 0)) (za_nil)))))))))⟩
abbrev st__law_is_list : Stmt := topS 9
theorem sc__law_is_list : FnScope ["_law_actual", "_law_expected", "_law_k"] ["_law_actual", "_law_expected"] (defScope st__law_is_list) := ⟨rfl, rfl, rfl, by decide +kernel, rfl, by decide +kernel, by decide +kernel⟩
def lb__law_is_list_1 : SM := zFg [2] (zIfS 3 (zTst (zOp neqD (zCall d__law_rank (zCons (zIx (zVar 0) (zVar 2)) (zNil))) (zCall d__law_rank (zCons (zIx (zVar 1) (zVar 2)) (zNil))))) (zRet (zC (.bl false))) (zNx))
def b__law_is_list : SM := zSeq (zIfS 3 (zOrT (zNotT (zTru (zCallS isiD (zCons (zVar 0) (zCons (zC (.raw (.ty "list"))) (zNil)))))) (zTst (zOp neqD (zCallS lenD (zCons (zVar 0) (zNil))) (zCallS lenD (zCons (zVar 1) (zNil)))))) (zRet (zC (.bl false))) (zNx)) (zSeq (zFor 3 (ziR1 (zCons (zCallS lenD (zCons (zVar 1) (zNil))) (zNil))) (gN 2) (lb__law_is_list_1)) (zRet (zC (.bl true))))
def d__law_is_list : List D → Option FR := runP 3 2 b__law_is_list
set_option maxHeartbeats 4000000 in
theorem ok__law_is_list (h : DefAt K mg "_law_is_list" st__law_is_list) (m_isinstance : mg "isinstance" = none) (m_len : mg "len" = none) (m_list : mg "list" = none) (m_range : mg "range" = none) (c__law_rank : Cal P w K mg base 1 "_law_rank" (spP K d__law_rank)) : Cal P w K mg base 2 "_law_is_list" (spP K d__law_is_list) := by
  obtain ⟨a, fd, h1, F⟩ := h
  exact ⟨a, fd, _, h1, F.kp, F.binds (ps := ["_law_actual", "_law_expected"]) fun _ _ _ _ _ _ us hl => match us, hl with | [_, _], _ => rfl, okP F sc__law_is_list fun cdv A outer s0 H E hr =>
    zss_cons (zs_if (zt_w (zw_or (zt_not (zt_truth (ze_callB call_isiU s_isi (by rfl) m_isinstance (by decide +kernel) (za_cons (ze_var rfl (pv 0)) (za_cons (ze_bltn (by rfl) m_list (by decide +kernel) rfl) (za_nil)))))) (zw_or1 (zt_cmp (o_ne hr) s_ne (ze_callB call_len s_len (by rfl) m_len PySem.boot_len (za_cons (ze_var rfl (pv 0)) (za_nil))) (ze_callB call_len s_len (by rfl) m_len PySem.boot_len (za_cons (ze_var rfl (pv 1)) (za_nil))) (nomark _))))) (zss_one (zs_ret (ze_bl))) (zss_nil)) (zss_cons (zs_for PassesOwn.never rfl (zi_range1 (by rfl) m_range (za_cons (ze_callB call_len s_len (by rfl) m_len PySem.boot_len (za_cons (ze_var rfl (pv 1)) (za_nil))) (za_nil))) (zg_name (i := 2) sc__law_is_list.nd rfl (Or.inl rfl)) (zss_fg (vs := [2]) (zss_one (zs_if (zt_cmp (o_ne hr) s_ne (ze_call (c__law_rank.mono (by decide)) hr (za_cons (ze_ix (ze_var rfl (pv 0)) (ze_var rfl (pv 2))) (za_nil))) (ze_call (c__law_rank.mono (by decide)) hr (za_cons (ze_ix (ze_var rfl (pv 1)) (ze_var rfl (pv 2))) (za_nil))) (nomark _)) (zss_one (zs_ret (ze_bl))) (zss_nil))))) (zss_one (zs_ret (ze_bl))))⟩
abbrev st__law_text : Stmt := topS 7
theorem sc__law_text : FnScope ["_law_number", "_law_size", "_law_signs", "_law_few", "_law_word", "_law_rest", "_law_k"] ["_law_number", "_law_size"] (defScope st__law_text) := ⟨rfl, rfl, rfl, by decide +kernel, rfl, by decide +kernel, by decide +kernel⟩
def lb__law_text_1 : SM := zFg [6] (zIfS 7 (zTst (zOp eqD (zOp modD (zCallS intU (zCons (zVar 0) (zNil))) (zC (.int 3))) (zC (.int 0)))) (zSeq (zApp 7 (zVar 4) (zIx (zVar 2) (zOp modD (zCallS intU (zCons (zVar 5) (zNil))) (zC (.int 94))))) (zSet 7 5 (zOp addS (zOp divD (zVar 5) (zC (.int 94))) (zOp mulD (zC (.int 7)) (zVar 6))))) (zSeq (zApp 7 (zVar 4) (zIx (zVar 3) (zOp modD (zCallS intU (zCons (zVar 5) (zNil))) (zC (.int 10))))) (zSet 7 5 (zOp addS (zOp divD (zVar 5) (zC (.int 10))) (zOp mulD (zC (.int 7)) (zVar 6))))))
def b__law_text : SM := zSeq (zSet 7 2 (zC (.str [32, 33, 34, 35, 36, 38, 39, 40, 41, 42, 43, 44, 45, 46, 47, 48, 49, 50, 51, 52, 53, 54, 55, 56, 57, 58, 59, 60, 61, 62, 63, 64, 65, 66, 67, 68, 69, 70, 71, 72, 73, 74, 75, 76, 77, 78, 79, 80, 81, 82, 83, 84, 85, 86, 87, 88, 89, 90, 91, 92, 93, 94, 95, 96, 97, 98, 99, 100, 101, 102, 103, 104, 105, 106, 107, 108, 109, 110, 111, 112, 113, 114, 115, 116, 117, 118, 119, 120, 121, 122, 123, 124, 125, 126]))) (zSeq (zSet 7 3 (zC (.str [97, 98, 42, 63, 92, 32, 45, 39, 34, 65]))) (zSeq (zSet 7 4 (zLst (zNil))) (zSeq (zSet 7 5 (zOp divD (zCallS intU (zCons (zVar 0) (zNil))) (zC (.int 3)))) (zSeq (zFor 7 (ziR1 (zCons (zVar 1) (zNil))) (gN 6) (lb__law_text_1)) (zRet (zMt "str" joinD (zC (.str [])) (zCons (zVar 4) (zNil))))))))
def d__law_text : List D → Option FR := runP 7 2 b__law_text
set_option maxHeartbeats 4000000 in
theorem ok__law_text (h : DefAt K mg "_law_text" st__law_text) (m_int : mg "int" = none) (m_range : mg "range" = none) : Cal P w K mg base 1 "_law_text" (spP K d__law_text) := by
  obtain ⟨a, fd, h1, F⟩ := h
  exact ⟨a, fd, _, h1, F.kp, F.binds (ps := ["_law_number", "_law_size"]) fun _ _ _ _ _ _ us hl => match us, hl with | [_, _], _ => rfl, okP F sc__law_text fun cdv A outer s0 H E hr =>
    zss_cons (zs_set (i := 2) sc__law_text.nd rfl (Or.inl rfl) (ze_str)) (zss_cons (zs_set (i := 3) sc__law_text.nd rfl (Or.inl rfl) (ze_str)) (zss_cons (zs_set (i := 4) sc__law_text.nd rfl (Or.inl rfl) (ze_lst (za_nil))) (zss_cons (zs_set (i := 5) sc__law_text.nd rfl (Or.inl rfl) (ze_op o_div s_div (ze_callTy call_intU s_intU (by rfl) m_int (by decide +kernel) (za_cons (ze_var rfl (pv 0)) (za_nil))) (ze_int))) (zss_cons (zs_for PassesOwn.never rfl (zi_range1 (by rfl) m_range (za_cons (ze_var rfl (pv 1)) (za_nil))) (zg_name (i := 6) sc__law_text.nd rfl (Or.inl rfl)) (zss_fg (vs := [6]) (zss_one (zs_if (zt_cmp (o_eq hr) s_eq (ze_op o_mod s_mod (ze_callTy call_intU s_intU (by rfl) m_int (by decide +kernel) (za_cons (ze_var rfl (pv 0)) (za_nil))) (ze_int)) (ze_int) (nomark _)) (zss_cons (zs_app (ze_var rfl (pv 4)) (ze_ix (ze_var rfl (pv 2)) (ze_op o_mod s_mod (ze_callTy call_intU s_intU (by rfl) m_int (by decide +kernel) (za_cons (ze_var rfl (pv 5)) (za_nil))) (ze_int)))) (zss_one (zs_set (i := 5) sc__law_text.nd rfl (Or.inl rfl) (ze_op o_add s_add (ze_op o_div s_div (ze_var rfl (pv 5)) (ze_int)) (ze_op o_mul s_mul (ze_int) (ze_var rfl (pv 6))))))) (zss_cons (zs_app (ze_var rfl (pv 4)) (ze_ix (ze_var rfl (pv 3)) (ze_op o_mod s_mod (ze_callTy call_intU s_intU (by rfl) m_int (by decide +kernel) (za_cons (ze_var rfl (pv 5)) (za_nil))) (ze_int)))) (zss_one (zs_set (i := 5) sc__law_text.nd rfl (Or.inl rfl) (ze_op o_add s_add (ze_op o_div s_div (ze_var rfl (pv 5)) (ze_int)) (ze_op o_mul s_mul (ze_int) (ze_var rfl (pv 6))))))))))) (zss_one (zs_ret (ze_mt PySem.F.plainAttrs_str PySem.F.slot_str_join PySem.F.type_str_join mt_join s_join (ze_str) (za_cons (ze_var rfl (pv 4)) (za_nil)))))))))⟩
abbrev st__law_value : Stmt := topS 8
theorem sc__law_value : FnScope ["_law_number", "_law_rest", "_law_choice"] ["_law_number"] (defScope st__law_value) := ⟨rfl, rfl, rfl, by decide +kernel, rfl, by decide +kernel, by decide +kernel⟩
def b__law_value : SM := zSeq (zSet 3 1 (zOp divD (zCallS intU (zCons (zVar 0) (zNil))) (zC (.int 8)))) (zSeq (zSet 3 2 (zOp modD (zCallS intU (zCons (zVar 0) (zNil))) (zC (.int 8)))) (zSeq (zIfS 3 (zTst (zOp eqD (zVar 2) (zC (.int 0)))) (zRet (zC .non)) (zNx)) (zSeq (zIfS 3 (zTst (zOp eqD (zVar 2) (zC (.int 1)))) (zRet (zOp eqD (zOp modD (zVar 1) (zC (.int 2))) (zC (.int 0)))) (zNx)) (zSeq (zIfS 3 (zTst (zOp eqD (zVar 2) (zC (.int 2)))) (zRet (zOp subD (zOp modD (zCallS intU (zCons (zVar 1) (zNil))) (zC (.int 3))) (zC (.int 1)))) (zNx)) (zSeq (zIfS 3 (zTst (zOp eqD (zVar 2) (zC (.int 3)))) (zRet (zOp subD (zOp modD (zCallS intU (zCons (zVar 1) (zNil))) (zC (.int 2000000000000001))) (zC (.int 1000000000000000)))) (zNx)) (zSeq (zIfS 3 (zTst (zOp eqD (zVar 2) (zC (.int 4)))) (zRet (zOp subD (zOp modD (zCallS intU (zCons (zVar 1) (zNil))) (zC (.int 3652059))) (zC (.int 719162)))) (zNx)) (zSeq (zIfS 3 (zTst (zOp eqD (zVar 2) (zC (.int 5)))) (zRet (zOp subD (zOp modD (zCallS intU (zCons (zVar 1) (zNil))) (zC (.int 40))) (zC (.int 20)))) (zNx)) (zRet (zCall d__law_text (zCons (zOp divD (zVar 1) (zC (.int 13))) (zCons (zOp modD (zCallS intU (zCons (zVar 1) (zNil))) (zC (.int 13))) (zNil))))))))))))
def d__law_value : List D → Option FR := runP 3 1 b__law_value
set_option maxHeartbeats 4000000 in
theorem ok__law_value (h : DefAt K mg "_law_value" st__law_value) (m_int : mg "int" = none) (c__law_text : Cal P w K mg base 1 "_law_text" (spP K d__law_text)) : Cal P w K mg base 2 "_law_value" (spP K d__law_value) := by
  obtain ⟨a, fd, h1, F⟩ := h
  exact ⟨a, fd, _, h1, F.kp, F.binds (ps := ["_law_number"]) fun _ _ _ _ _ _ us hl => match us, hl with | [_], _ => rfl, okP F sc__law_value fun cdv A outer s0 H E hr =>
    zss_cons (zs_set (i := 1) sc__law_value.nd rfl (Or.inl rfl) (ze_op o_div s_div (ze_callTy call_intU s_intU (by rfl) m_int (by decide +kernel) (za_cons (ze_var rfl (pv 0)) (za_nil))) (ze_int))) (zss_cons (zs_set (i := 2) sc__law_value.nd rfl (Or.inl rfl) (ze_op o_mod s_mod (ze_callTy call_intU s_intU (by rfl) m_int (by decide +kernel) (za_cons (ze_var rfl (pv 0)) (za_nil))) (ze_int))) (zss_cons (zs_if (zt_cmp (o_eq hr) s_eq (ze_var rfl (pv 2)) (ze_int) (nomark _)) (zss_one (zs_ret (ze_non))) (zss_nil)) (zss_cons (zs_if (zt_cmp (o_eq hr) s_eq (ze_var rfl (pv 2)) (ze_int) (nomark _)) (zss_one (zs_ret (ze_cmp (o_eq hr) s_eq (ze_op o_mod s_mod (ze_var rfl (pv 1)) (ze_int)) (ze_int) (nomark _)))) (zss_nil)) (zss_cons (zs_if (zt_cmp (o_eq hr) s_eq (ze_var rfl (pv 2)) (ze_int) (nomark _)) (zss_one (zs_ret (ze_op op_sub s_sub (ze_op o_mod s_mod (ze_callTy call_intU s_intU (by rfl) m_int (by decide +kernel) (za_cons (ze_var rfl (pv 1)) (za_nil))) (ze_int)) (ze_int)))) (zss_nil)) (zss_cons (zs_if (zt_cmp (o_eq hr) s_eq (ze_var rfl (pv 2)) (ze_int) (nomark _)) (zss_one (zs_ret (ze_op op_sub s_sub (ze_op o_mod s_mod (ze_callTy call_intU s_intU (by rfl) m_int (by decide +kernel) (za_cons (ze_var rfl (pv 1)) (za_nil))) (ze_int)) (ze_int)))) (zss_nil)) (zss_cons (zs_if (zt_cmp (o_eq hr) s_eq (ze_var rfl (pv 2)) (ze_int) (nomark _)) (zss_one (zs_ret (ze_op op_sub s_sub (ze_op o_mod s_mod (ze_callTy call_intU s_intU (by rfl) m_int (by decide +kernel) (za_cons (ze_var rfl (pv 1)) (za_nil))) (ze_int)) (ze_int)))) (zss_nil)) (zss_cons (zs_if (zt_cmp (o_eq hr) s_eq (ze_var rfl (pv 2)) (ze_int) (nomark _)) (zss_one (zs_ret (ze_op op_sub s_sub (ze_op o_mod s_mod (ze_callTy call_intU s_intU (by rfl) m_int (by decide +kernel) (za_cons (ze_var rfl (pv 1)) (za_nil))) (ze_int)) (ze_int)))) (zss_nil)) (zss_one (zs_ret (ze_call (c__law_text.mono (by decide)) hr (za_cons (ze_op o_div s_div (ze_var rfl (pv 1)) (ze_int)) (za_cons (ze_op o_mod s_mod (ze_callTy call_intU s_intU (by rfl) m_int (by decide +kernel) (za_cons (ze_var rfl (pv 1)) (za_nil))) (ze_int)) (za_nil)))))))))))))⟩
abbrev st__law_twin : Stmt := topS 10
theorem sc__law_twin : FnScope ["_law_row", "_law_number", "_law_result", "_law_value_here"] ["_law_row", "_law_number"] (defScope st__law_twin) := ⟨rfl, rfl, rfl, by decide +kernel, rfl, by decide +kernel, by decide +kernel⟩
def lb__law_twin_1 : SM := zFg [3] (zIfS 4 (zAndT (zTst (zOp eqD (zOp modD (zCallS intU (zCons (zVar 1) (zNil))) (zC (.int 3))) (zC (.int 0)))) (zOrT (zTst (zOp isD (zVar 3) (zC (.bl true)))) (zTst (zOp isD (zVar 3) (zC (.bl false)))))) (zApp 4 (zVar 2) (zCallS intU (zCons (zVar 3) (zNil)))) (zIfS 4 (zAndT (zTst (zOp eqD (zOp modD (zCallS intU (zCons (zVar 1) (zNil))) (zC (.int 3))) (zC (.int 1)))) (zAndT (zTru (zCallS isiD (zCons (zVar 3) (zCons (zC (.raw (.ty "int"))) (zNil))))) (zTst (zOp inD (zVar 3) (zTup (zCons (zC (.int 0)) (zCons (zC (.int 1)) (zNil)))))))) (zApp 4 (zVar 2) (zOp eqD (zVar 3) (zC (.int 1)))) (zApp 4 (zVar 2) (zVar 3))))
def b__law_twin : SM := zSeq (zSet 4 2 (zLst (zNil))) (zSeq (zFor 4 (ziL 4 (zVar 0)) (gN 3) (lb__law_twin_1)) (zRet (zVar 2)))
def d__law_twin : List D → Option FR := runP 4 2 b__law_twin
set_option maxHeartbeats 4000000 in
theorem ok__law_twin (h : DefAt K mg "_law_twin" st__law_twin) (m_int : mg "int" = none) (m_isinstance : mg "isinstance" = none) : Cal P w K mg base 1 "_law_twin" (spP K d__law_twin) := by
  obtain ⟨a, fd, h1, F⟩ := h
  exact ⟨a, fd, _, h1, F.kp, F.binds (ps := ["_law_row", "_law_number"]) fun _ _ _ _ _ _ us hl => match us, hl with | [_, _], _ => rfl, okP F sc__law_twin fun cdv A outer s0 H E hr =>
    zss_cons (zs_set (i := 2) sc__law_twin.nd rfl (Or.inl rfl) (ze_lst (za_nil))) (zss_cons (zs_for PassesOwn.never rfl (zi_list (ze_var rfl (pv 0))) (zg_name (i := 3) sc__law_twin.nd rfl (Or.inl rfl)) (zss_fg (vs := [3]) (zss_one (zs_if (zt_w (zw_and (zt_cmp (o_eq hr) s_eq (ze_op o_mod s_mod (ze_callTy call_intU s_intU (by rfl) m_int (by decide +kernel) (za_cons (ze_var rfl (pv 1)) (za_nil))) (ze_int)) (ze_int) (nomark _)) (zw_and1 (zt_w (zw_or (zt_cmp o_is s_is (ze_var rfl (pv 3)) (ze_bl) (nomark _)) (zw_or1 (zt_cmp o_is s_is (ze_var rfl (pv 3)) (ze_bl) (nomark _)))))))) (zss_one (zs_app (ze_var rfl (pv 2)) (ze_callTy call_intU s_intU (by rfl) m_int (by decide +kernel) (za_cons (ze_var rfl (pv 3)) (za_nil))))) (zss_one (zs_if (zt_w (zw_and (zt_cmp (o_eq hr) s_eq (ze_op o_mod s_mod (ze_callTy call_intU s_intU (by rfl) m_int (by decide +kernel) (za_cons (ze_var rfl (pv 1)) (za_nil))) (ze_int)) (ze_int) (nomark _)) (zw_and (zt_truth (ze_callB call_isiU s_isi (by rfl) m_isinstance (by decide +kernel) (za_cons (ze_var rfl (pv 3)) (za_cons (ze_bltn (by rfl) m_int (by decide +kernel) rfl) (za_nil))))) (zw_and1 (zt_cmp (o_in hr) s_in (ze_var rfl (pv 3)) (ze_tup (za_cons (ze_int) (za_cons (ze_int) (za_nil)))) (by rfl)))))) (zss_one (zs_app (ze_var rfl (pv 2)) (ze_cmp (o_eq hr) s_eq (ze_var rfl (pv 3)) (ze_int) (nomark _)))) (zss_one (zs_app (ze_var rfl (pv 2)) (ze_var rfl (pv 3)))))))))) (zss_one (zs_ret (ze_var rfl (pv 2)))))⟩
abbrev st_law : Stmt := topS 11
theorem sc_law : FnScope ["_law_script", "_law_numbers_here", "_law_rows", "_law_k", "_law_kept", "_law_seen", "_law_due", "_law_row", "_law_told", "_law_choice", "_law_rank_here", "_law_old", "_law_rest", "_law_value_here", "_law_j"] ["_law_script"] (defScope st_law) := ⟨rfl, rfl, rfl, by decide +kernel, rfl, by decide +kernel, by decide +kernel⟩
def lb_law_1 : SM := zFg [3, 9, 11, 12] (zSeq (zSet 15 9 (zOp modD (zCallS intU (zCons (zIx (zVar 1) (zOp addS (zC (.int 1)) (zOp mulD (zC (.int 2)) (zVar 3)))) (zNil))) (zC (.int 4)))) (zIfS 15 (zAndT (zTst (zOp gtD (zVar 9) (zC (.int 0)))) (zTst (zOp gtD (zCallS lenD (zCons (zVar 2) (zNil))) (zC (.int 0))))) (zSeq (zSet 15 11 (zIx (zVar 2) (zOp modD (zOp divD (zCallS intU (zCons (zIx (zVar 1) (zOp addS (zC (.int 1)) (zOp mulD (zC (.int 2)) (zVar 3)))) (zNil))) (zC (.int 4))) (zCallS lenD (zCons (zVar 2) (zNil)))))) (zApp 15 (zVar 2) (zIx (zLst (zCons (z_list (zCons (zVar 11) (zNil))) (zCons (zCall d__law_twin (zCons (zVar 11) (zCons (zIx (zVar 1) (zOp addS (zC (.int 2)) (zOp mulD (zC (.int 2)) (zVar 3)))) (zNil)))) (zCons (zSl (z_list (zCons (zVar 11) (zNil))) (zoS (zC (.int 1))) (zoN)) (zNil))))) (zOp subD (zVar 9) (zC (.int 1)))))) (zSeq (zSet 15 12 (zCallS intU (zCons (zIx (zVar 1) (zOp addS (zC (.int 2)) (zOp mulD (zC (.int 2)) (zVar 3)))) (zNil)))) (zApp 15 (zVar 2) (zLc (ziR1 (zCons (zOp modD (zOp divD (zCallS intU (zCons (zIx (zVar 1) (zOp addS (zC (.int 1)) (zOp mulD (zC (.int 2)) (zVar 3)))) (zNil))) (zC (.int 4))) (zC (.int 4))) (zNil))) (gN 14) (zYes) (zCall d__law_value (zCons (zOp addS (zOp divD (zVar 12) (zOp addS (zOp mulD (zC (.int 5)) (zVar 14)) (zC (.int 1)))) (zVar 14)) (zNil))) [14])))))
def lb_law_2 : SM := zFg [7, 10] (zSeq (zSet 15 10 (z_tuple (zCons (zLc (ziL 15 (zVar 7)) (gN 13) (zYes) (zCall d__law_rank (zCons (zVar 13) (zNil))) [13]) (zNil)))) (zIfS 15 (zTst (zOp notinD (zVar 10) (zVar 5))) (zSeq (zApp 15 (zVar 5) (zVar 10)) (zApp 15 (zVar 6) (z_list (zCons (zVar 7) (zNil))))) (zNx)))
def lb_law_3 : SM := zFg [3] (zIfS 15 (zNotT (zTru (zCallKK d__law_is_list 8 6 3))) (zRet (zC (.bl false))) (zNx))
def b_law : SM := zSeq (zSet 15 1 (zCall d__law_numbers (zCons (zVar 0) (zCons (zC (.int 26)) (zNil))))) (zSeq (zSet 15 2 (zLst (zNil))) (zSeq (zFgB [3] (zFor 15 (ziR1 (zCons (zOp modD (zCallS intU (zCons (zIx (zVar 1) (zC (.int 0))) (zNil))) (zC (.int 13))) (zNil))) (gN 3) (lb_law_1))) (zSeq (zSet 15 4 (zCallS reprD (zCons (zVar 2) (zNil)))) (zSeq (zSet 15 5 (zLst (zNil))) (zSeq (zSet 15 6 (zLst (zNil))) (zSeq (zFgB [7] (zFor 15 (ziL 15 (zVar 2)) (gN 7) (lb_law_2))) (zSeq (zSet 15 8 (zCall d_different_rows (zCons (zVar 2) (zNil)))) (zSeq (zIfS 15 (zOrT (zNotT (zTru (zCallS isiD (zCons (zVar 8) (zCons (zC (.raw (.ty "list"))) (zNil)))))) (zTst (zOp neqD (zCallS lenD (zCons (zVar 8) (zNil))) (zCallS lenD (zCons (zVar 6) (zNil)))))) (zRet (zC (.bl false))) (zNx)) (zSeq (zFgB [3] (zFor 15 (ziR1 (zCons (zCallS lenD (zCons (zVar 6) (zNil))) (zNil))) (gN 3) (lb_law_3))) (zSeq (zForApp 15 8 7 .non) (zRet (zOp eqD (zCallS reprD (zCons (zVar 2) (zNil))) (zVar 4)))))))))))))
def d_law : List D → Option FR := runP 15 1 b_law
set_option maxHeartbeats 4000000 in
theorem ok_law {f : Addr} {fd : FuncData} (F : Fun K "law" "law" st_law f fd) (m_int : mg "int" = none) (m_isinstance : mg "isinstance" = none) (m_len : mg "len" = none) (m_list : mg "list" = none) (m_range : mg "range" = none) (m_repr : mg "repr" = none) (m_tuple : mg "tuple" = none) (c__law_numbers : Cal P w K mg base 1 "_law_numbers" (spP K d__law_numbers)) (c_different_rows : Cal P w K mg base 3 "different_rows" (spP K d_different_rows)) (c__law_is_list : Cal P w K mg base 2 "_law_is_list" (spP K d__law_is_list)) (c__law_rank : Cal P w K mg base 1 "_law_rank" (spP K d__law_rank)) (c__law_value : Cal P w K mg base 2 "_law_value" (spP K d__law_value)) (c__law_twin : Cal P w K mg base 1 "_law_twin" (spP K d__law_twin)) : FnA P w K mg base callerA f fd ["_law_script"] (spP K d_law) :=
  okA (k := 3) F sc_law ⟨rfl, by decide, by decide⟩ fun cdv outer s0 H E hr =>
    zss_cons (zs_set (i := 1) sc_law.nd rfl (Or.inl rfl) (ze_call (c__law_numbers.mono (by decide)) hr (za_cons (ze_var rfl (pv 0)) (za_cons (ze_int) (za_nil))))) (zss_cons (zs_set (i := 2) sc_law.nd rfl (Or.inl rfl) (ze_lst (za_nil))) (zss_cons (zs_fgB (vs := [3]) (zs_for PassesOwn.never rfl (zi_range1 (by rfl) m_range (za_cons (ze_op o_mod s_mod (ze_callTy call_intU s_intU (by rfl) m_int (by decide +kernel) (za_cons (ze_ix (ze_var rfl (pv 1)) (ze_int)) (za_nil))) (ze_int)) (za_nil))) (zg_name (i := 3) sc_law.nd rfl (Or.inl rfl)) (zss_fg (vs := [3, 9, 11, 12]) (zss_cons (zs_set (i := 9) sc_law.nd rfl (Or.inl rfl) (ze_op o_mod s_mod (ze_callTy call_intU s_intU (by rfl) m_int (by decide +kernel) (za_cons (ze_ix (ze_var rfl (pv 1)) (ze_op o_add s_add (ze_int) (ze_op o_mul s_mul (ze_int) (ze_var rfl (pv 3))))) (za_nil))) (ze_int))) (zss_one (zs_if (zt_w (zw_and (zt_cmp o_gt s_gt (ze_var rfl (pv 9)) (ze_int) (nomark _)) (zw_and1 (zt_cmp o_gt s_gt (ze_callB call_len s_len (by rfl) m_len PySem.boot_len (za_cons (ze_var rfl (pv 2)) (za_nil))) (ze_int) (nomark _))))) (zss_cons (zs_set (i := 11) sc_law.nd rfl (Or.inl rfl) (ze_ix (ze_var rfl (pv 2)) (ze_op o_mod s_mod (ze_op o_div s_div (ze_callTy call_intU s_intU (by rfl) m_int (by decide +kernel) (za_cons (ze_ix (ze_var rfl (pv 1)) (ze_op o_add s_add (ze_int) (ze_op o_mul s_mul (ze_int) (ze_var rfl (pv 3))))) (za_nil))) (ze_int)) (ze_callB call_len s_len (by rfl) m_len PySem.boot_len (za_cons (ze_var rfl (pv 2)) (za_nil)))))) (zss_one (zs_app (ze_var rfl (pv 2)) (ze_ix (ze_lst (za_cons (ze_list hr (by rfl) m_list (za_cons (ze_var rfl (pv 11)) (za_nil))) (za_cons (ze_call (c__law_twin.mono (by decide)) hr (za_cons (ze_var rfl (pv 11)) (za_cons (ze_ix (ze_var rfl (pv 1)) (ze_op o_add s_add (ze_int) (ze_op o_mul s_mul (ze_int) (ze_var rfl (pv 3))))) (za_nil)))) (za_cons (ze_sl (ze_list hr (by rfl) m_list (za_cons (ze_var rfl (pv 11)) (za_nil))) (zo_some (ze_int)) (zo_none)) (za_nil))))) (ze_op op_sub s_sub (ze_var rfl (pv 9)) (ze_int)))))) (zss_cons (zs_set (i := 12) sc_law.nd rfl (Or.inr rfl) (ze_callTy call_intU s_intU (by rfl) m_int (by decide +kernel) (za_cons (ze_ix (ze_var rfl (pv 1)) (ze_op o_add s_add (ze_int) (ze_op o_mul s_mul (ze_int) (ze_var rfl (pv 3))))) (za_nil)))) (zss_one (zs_app (ze_var rfl (pv 2)) (ze_lc (own := [("_law_j", 14)]) rfl sc_law.nd (zi_range1 (by rfl) m_range (za_cons (ze_op o_mod s_mod (ze_op o_div s_div (ze_callTy call_intU s_intU (by rfl) m_int (by decide +kernel) (za_cons (ze_ix (ze_var rfl (pv 1)) (ze_op o_add s_add (ze_int) (ze_op o_mul s_mul (ze_int) (ze_var rfl (pv 3))))) (za_nil))) (ze_int)) (ze_int)) (za_nil))) (blkOk_by (N := ["_law_script", "_law_numbers_here", "_law_rows", "_law_k", "_law_kept", "_law_seen", "_law_due", "_law_row", "_law_told", "_law_choice", "_law_rank_here", "_law_old", "_law_rest", "_law_value_here", "_law_j"]) (own := [("_law_j", 14)]) (sc := defScope st_law) (by decide +kernel)) (fun _ _ _ _ _ => zgw_name (i := 14) sc_law.nd rfl (Or.inl rfl) (by decide)) (fun _ _ _ _ _ => zts_nil) (fun _ _ _ _ _ => ze_call (c__law_value.mono (by decide)) hr (za_cons (ze_op o_add s_add (ze_op o_div s_div (ze_var rfl (pv 12)) (ze_op o_add s_add (ze_op o_mul s_mul (ze_int) (ze_var rfl (pv 14))) (ze_int))) (ze_var rfl (pv 14))) (za_nil))))))))))))) (zss_cons (zs_set (i := 4) sc_law.nd rfl (Or.inl rfl) (ze_callB (call_reprR rfl hr) s_repr (by rfl) m_repr (by decide +kernel) (za_cons (ze_var rfl (pv 2)) (za_nil)))) (zss_cons (zs_set (i := 5) sc_law.nd rfl (Or.inl rfl) (ze_lst (za_nil))) (zss_cons (zs_set (i := 6) sc_law.nd rfl (Or.inl rfl) (ze_lst (za_nil))) (zss_cons (zs_fgB (vs := [7]) (zs_for PassesOwn.never rfl (zi_list (ze_var rfl (pv 2))) (zg_name (i := 7) sc_law.nd rfl (Or.inl rfl)) (zss_fg (vs := [7, 10]) (zss_cons (zs_set (i := 10) sc_law.nd rfl (Or.inl rfl) (ze_tuple hr (by rfl) m_tuple (za_cons (ze_lc (own := [("_law_value_here", 13)]) rfl sc_law.nd (zi_list (ze_var rfl (pv 7))) (blkOk_by (N := ["_law_script", "_law_numbers_here", "_law_rows", "_law_k", "_law_kept", "_law_seen", "_law_due", "_law_row", "_law_told", "_law_choice", "_law_rank_here", "_law_old", "_law_rest", "_law_value_here", "_law_j"]) (own := [("_law_value_here", 13)]) (sc := defScope st_law) (by decide +kernel)) (fun _ _ _ _ _ => zgw_name (i := 13) sc_law.nd rfl (Or.inl rfl) (by decide)) (fun _ _ _ _ _ => zts_nil) (fun _ _ _ _ _ => ze_call (c__law_rank.mono (by decide)) hr (za_cons (ze_var rfl (pv 13)) (za_nil)))) (za_nil)))) (zss_one (zs_if (zt_cmp (o_notin hr) s_notin (ze_var rfl (pv 10)) (ze_var rfl (pv 5)) (by rfl)) (zss_cons (zs_app (ze_var rfl (pv 5)) (ze_var rfl (pv 10))) (zss_one (zs_app (ze_var rfl (pv 6)) (ze_list hr (by rfl) m_list (za_cons (ze_var rfl (pv 7)) (za_nil)))))) (zss_nil))))))) (zss_cons (zs_set (i := 8) sc_law.nd rfl (Or.inl rfl) (ze_call (c_different_rows.mono (by decide)) hr (za_cons (ze_var rfl (pv 2)) (za_nil)))) (zss_cons (zs_if (zt_w (zw_or (zt_not (zt_truth (ze_callB call_isiU s_isi (by rfl) m_isinstance (by decide +kernel) (za_cons (ze_var rfl (pv 8)) (za_cons (ze_bltn (by rfl) m_list (by decide +kernel) rfl) (za_nil)))))) (zw_or1 (zt_cmp (o_ne hr) s_ne (ze_callB call_len s_len (by rfl) m_len PySem.boot_len (za_cons (ze_var rfl (pv 8)) (za_nil))) (ze_callB call_len s_len (by rfl) m_len PySem.boot_len (za_cons (ze_var rfl (pv 6)) (za_nil))) (nomark _))))) (zss_one (zs_ret (ze_bl))) (zss_nil)) (zss_cons (zs_fgB (vs := [3]) (zs_for PassesOwn.never rfl (zi_range1 (by rfl) m_range (za_cons (ze_callB call_len s_len (by rfl) m_len PySem.boot_len (za_cons (ze_var rfl (pv 6)) (za_nil))) (za_nil))) (zg_name (i := 3) sc_law.nd rfl (Or.inl rfl)) (zss_fg (vs := [3]) (zss_one (zs_if (zt_not (zt_truth (ze_callKK (c__law_is_list.mono (by decide)) hr (pv 8) (pv 3) (pv 6) (pv 3) (Nat.le_of_ble_eq_true rfl) (Nat.le_of_ble_eq_true rfl) (Nat.le_of_ble_eq_true rfl)))) (zss_one (zs_ret (ze_bl))) (zss_nil)))))) (zss_cons (zs_forApp (i := 7) (j := 8) (d := .non) PassesOwn.never rfl sc_law.nd rfl (Or.inl rfl) (pv 8) (pv 7) pe_non (fun _ => .non) (Nat.le_of_ble_eq_true rfl)) (zss_one (zs_ret (ze_cmp (o_eq hr) s_eq (ze_callB (call_reprR rfl hr) s_repr (by rfl) m_repr (by decide +kernel) (za_cons (ze_var rfl (pv 2)) (za_nil))) (ze_var rfl (pv 4)) (nomark _))))))))))))))
end
end Qk16
set_option Elab.async false
set_option linter.all false
set_option maxRecDepth 100000
set_option maxHeartbeats 4000000
namespace Qk16
open PySem PySem.Spec PyProof.Rows L2 Z
local macro_rules | `(tactic| walk_at "l") => `(tactic| first | (simp only [wipeG_nil, wipeG_cons, List.set_cons_succ, List.set_cons_zero, List.take_succ_cons, List.take_zero, List.take_nil, List.cons_append, List.nil_append, List.length_cons, List.length_nil, List.set_nil, List.getElem?_cons_zero, List.getElem?_cons_succ, Nat.zero_add, Nat.reduceAdd]; first | done | exact rfl) | exact rfl)
local macro_rules | `(tactic| walk_at "d") => `(tactic| first
  | with_reducible assumption
  | (with_reducible apply dr_div) <;> decide
  | (with_reducible apply dr_mod) <;> decide
  | (with_reducible apply dr_mulr); decide
  | (with_reducible apply dr_mull); decide
  | (with_reducible apply dr_divB) <;> omega
  | (with_reducible apply dr_mulrB) <;> omega
  | (with_reducible apply dr_mullB) <;> omega
  | (with_reducible apply dr_mulC) <;> omega
  | (with_reducible apply dr_mod) <;> omega
  | (with_reducible refine isi_of ?_ ?_); (exact rfl); (first | exact kb_int_int | exact kb_int_bool | exact kb_bool_bool | exact kb_bool_int | exact kb_str_int | exact kb_str_bool | exact kb_str_str | exact kb_int_str | exact kb_bool_str | exact kb_non_int | exact kb_non_bool | exact kb_non_str | exact kb_list_list | exact kb_tuple_tuple | exact kb_list_tuple | exact kb_tuple_list)
  | with_reducible exact dr_abs
  | (with_reducible exact dr_neL _ _)
  | (simp only [Cn.d]; with_reducible assumption)
  | (simp only [Cn.d]; with_reducible exact dr_neL _ _)
  | with_reducible exact in_ints _ _
  | (simp only [Cn.d]; with_reducible exact in_ints _ _)
  | ((with_reducible apply dr_cat); (try simp only [List.length_append, List.length_cons, List.length_nil]); omega)
  | with_reducible exact dr_eqI
  | with_reducible exact dr_eqB
  | with_reducible exact dr_neB
  | with_reducible exact dr_eqS
  | with_reducible exact dr_neI
  | with_reducible exact dr_neS
  | exact rfl)
local macro_rules | `(tactic| walk_at "c") => `(tactic| first | with_reducible assumption | (simp only [Cn.d]; with_reducible assumption))
local macro_rules | `(tactic| walk_at "e") => `(tactic| first
  | with_reducible exact er_C
  | with_reducible exact er_nil
  | (with_reducible apply er_varD); exact rfl
  | (with_reducible apply er_varO); exact rfl
  | (with_reducible apply er_varF); exact rfl
  | (with_reducible apply er_op); walk_at "e"; walk_at "e"; exact rfl; exact rfl; walk_at "d"; exact rfl
  | (with_reducible apply er_chain); walk_at "e"; walk_at "e"; exact rfl; exact rfl; walk_at "d"; (intro _h; walk_at "e"); exact rfl; walk_at "d"
  | (with_reducible apply er_slS); walk_at "e"; walk_at "o"; walk_at "o"; exact rfl; walk_at "z"
  | (with_reducible apply er_slL); walk_at "e"; walk_at "o"; walk_at "o"; exact rfl
  | (with_reducible apply er_list); walk_at "e"; exact rfl; exact rfl
  | (with_reducible apply er_tupL); walk_at "e"; exact rfl
  | (with_reducible apply er_un); walk_at "e"; exact rfl; exact rfl; exact rfl
  | (with_reducible apply er_tst); walk_at "e"
  | (with_reducible apply er_tru); walk_at "e"; exact rfl; exact rfl
  | (with_reducible apply er_andT); walk_at "e"; (intro _h; walk_at "e")
  | (with_reducible apply er_orT); walk_at "e"; (intro _h; walk_at "e")
  | (with_reducible apply er_andTT); walk_at "e"; exact rfl; walk_at "e"
  | (with_reducible apply er_orTF); walk_at "e"; exact rfl; walk_at "e"
  | (with_reducible apply er_notT); walk_at "e"
  | (with_reducible apply er_andV); walk_at "e"; (intro _h; walk_at "e")
  | (with_reducible apply er_orV); walk_at "e"; (intro _h; walk_at "e")
  | (with_reducible apply er_notV); walk_at "e"
  | (with_reducible apply er_andVT); walk_at "e"; exact rfl; walk_at "e"
  | (with_reducible apply er_orVF); walk_at "e"; exact rfl; walk_at "e"
  | (with_reducible apply er_ix); walk_at "e"; walk_at "e"; exact rfl; walk_at "x"
  | (with_reducible apply er_callS); walk_at "e"; exact rfl; walk_at "d"; exact rfl
  | (with_reducible apply er_cons); walk_at "e"; walk_at "e"
  | (with_reducible apply er_callG); walk_at "e"; exact rfl; exact rfl; walk_at "c"; exact rfl
  | (with_reducible apply er_callH); walk_at "e"; exact rfl; exact rfl; walk_at "c"; exact rfl
  | (with_reducible apply er_callV); walk_at "e"; exact rfl; walk_at "c"; exact rfl
  | (with_reducible apply er_callGF); walk_at "e"; exact rfl; exact rfl; walk_at "c"; exact rfl
  | (with_reducible apply er_callHF); walk_at "e"; exact rfl; exact rfl; walk_at "c"; exact rfl
  | (with_reducible apply er_callM); walk_at "e"; exact rfl; exact rfl; exact rfl; exact rfl; exact rfl; walk_at "c"; exact rfl
  | (with_reducible apply er_catL); walk_at "e"; walk_at "e"; exact rfl; exact rfl; walk_at "z"
  | (with_reducible apply er_mt); walk_at "e"; exact rfl; exact rfl; walk_at "e"; exact rfl; exact rfl; walk_at "m"; exact rfl
  | (with_reducible apply er_tup); walk_at "e"; exact rfl; walk_at "z" 
  | (with_reducible apply er_lst); walk_at "e"; exact rfl; walk_at "z")
local macro_rules | `(tactic| walk_at "o") => `(tactic| first | exact er_zoN | ((with_reducible apply er_zoS); walk_at "e"))
local macro_rules | `(tactic| walk_at "x") => `(tactic| first | with_reducible assumption | (simp only [Cn.d]; with_reducible assumption) | exact rfl)
local macro_rules | `(tactic| walk_at "m") => `(tactic| first | with_reducible assumption | (simp only [Cn.d]; with_reducible assumption) | exact rfl)
local macro_rules | `(tactic| walk_at "st") => `(tactic| first
  | ((with_reducible apply set_dat); (walk_at "e"); (exact rfl); walk_at "l")
  | ((with_reducible apply set_own); (walk_at "e"); (exact Nat.le_of_ble_eq_true rfl); (exact rfl); (exact rfl); walk_at "l")
  | ((with_reducible apply asg_run); (walk_at "e"); (exact rfl); walk_at "l")
  | ((with_reducible apply aug_run); (exact rfl); (exact rfl); (walk_at "e"); (exact rfl); (walk_at "d"); (exact rfl); (exact rfl); walk_at "l")
  | ((with_reducible apply sto_run); (walk_at "e"); (walk_at "e"); (walk_at "e"); (exact rfl); (walk_at "x"); walk_at "l")
  | ((with_reducible apply app_run); (walk_at "e"); (exact rfl); (walk_at "e"); (exact rfl); (exact rfl); (walk_at "z"); walk_at "l"))
local macro_rules | `(tactic| walk_at "z") => `(tactic| first | assumption | exact Nat.le_of_ble_eq_true rfl | (simp; omega))
local macro_rules | `(tactic| walk_at "s") => `(tactic| first
  | with_reducible apply sr_nx
  | with_reducible apply sr_assoc
  | with_reducible apply ap_fg
  | ((with_reducible apply fgK_nx); (exact rfl); (walk_at "l"); skip)
  | ((with_reducible apply fgK_ct); (exact rfl); (walk_at "l"); skip)
  | ((with_reducible apply fgK_bk); (exact rfl); (walk_at "l"); skip)
  | with_reducible apply fgK_ret
  | with_reducible apply sr_bk1
  | with_reducible apply sr_ct1
  | with_reducible apply sr_nx1
  | with_reducible apply sr_ct
  | with_reducible apply sr_bk
  | (with_reducible apply sr_retS); (walk_at "e"); skip
  | (with_reducible apply sr_ret); (walk_at "e"); skip
  | (with_reducible apply sr_if); (walk_at "e"); (walk_at "l")
  | (with_reducible apply sr_if1); (walk_at "e"); (walk_at "l")
  | (with_reducible apply seq_nx); (walk_at "st")
  | (with_reducible apply one_nx); (walk_at "st"))
local macro_rules | `(tactic| walk_at "r") => `(tactic| repeat' (first | (intro _) | walk_at "s"))
local macro_rules | `(tactic| walk_at "k") => `(tactic| (intro q; (try simp only [decide_eq_true_eq, decide_eq_false_iff_not, beq_iff_eq, beq_eq_false_iff_ne, ne_eq, Bool.not_eq_true', Bool.not_eq_false', Bool.and_eq_true, Bool.or_eq_true, Bool.and_eq_false_iff, Bool.or_eq_false_iff, Int.not_lt, Int.not_le, List.cons.injEq, and_true, reduceCtorEq, beq_self_eq_true, Bool.not_true, Bool.not_false, Bool.or_false, Bool.false_or, Bool.or_true, Bool.true_or, Bool.and_false, Bool.false_and, Bool.and_true, Bool.true_and, not_true_eq_false, Bool.false_eq_true] at q) <;> (try (exfalso; first | (cases q; done) | omega | contradiction))))
local macro_rules | `(tactic| walk_at "w") => `(tactic| repeat' (first | (walk_at "k") | walk_at "s"))
def NumG (ns : List Int) (m : Int) (acc : List Int) : G := [.dat (scriptD ns), .dat (.int m), .own (.lst (acc.map D.int)) false false, .un, .un]
theorem num_app (acc : List Int) (c : Int) : acc.map D.int ++ [D.int c] = (acc ++ [c]).map D.int := by simp
theorem num_turn (ns : List Int) (m : Int) (k : Nat) (acc : List Int) (hn : ns.length ≤ 63) (hk : k ≤ 100) (ha : acc.length ≤ 100) :
    ap (fun o => ∃ c, o = some (.nx, NumG ns m (acc ++ [c]))) (lb__law_numbers_1 [.dat (scriptD ns), .dat (.int m), .own (.lst (acc.map D.int)) false false, .dat (.int (0 + (k : Int))), .un]) = True := by
  have hz : (acc.map D.int).length < sizeLine := by rw [List.length_map]; exact Nat.lt_of_le_of_lt ha (by decide)
  have hl : (ns.map D.int).length = ns.length := List.length_map _
  have hx : 0 < ((ns.map D.int).length : Int) → ∃ c, ixD (scriptD ns) ((0 + (k : Int)) - (0 + (k : Int)) / ((ns.map D.int).length : Int) * ((ns.map D.int).length : Int)) = some (.int c) := fun h => by
    have r := round_in (k := 0 + (k : Int)) (by omega) h
    obtain ⟨x, h1, _⟩ := atI_lt (xs := ns) r.1 (by rw [← hl]; exact r.2)
    exact ⟨x, atI_map (f := D.int) h1⟩
  unfold lb__law_numbers_1 NumG
  simp only [← num_app]
  walk_at "s"
  walk_at "s"
  walk_at "s"
  · intro h
    have h := of_decide_eq_true h
    obtain ⟨c, hx⟩ := hx h
    walk_at "s"
    walk_at "r"
    all_goals exact eq_true ⟨_, rfl⟩
  · walk_at "r"
    all_goals exact eq_true ⟨_, rfl⟩
theorem numbers_ok (ns : List Int) (m : Nat) (hn : ns.length ≤ 63) (hm : m ≤ 100) : ∃ L : List Int, d__law_numbers [scriptD ns, .int m] = some (.new (.lst (L.map D.int))) ∧ L.length = m := by
  obtain ⟨g2, h1, acc, h2, h3⟩ := forL_inv (st := lb__law_numbers_1) (tg := gN 3) (L := rgD 0 m) (fun i g => ∃ acc, acc.length = i ∧ g = NumG ns m acc) 0 (NumG ns m [])
    ⟨[], rfl, rfl⟩ (fun i d g hd ⟨acc, h1, h2⟩ => by
      obtain ⟨hi, rfl⟩ := rgD_at hd
      subst h2
      obtain ⟨c, e⟩ := of_eq_true (num_turn ns m i acc hn (by omega) (by omega))
      exact ⟨_, _, rfl, .inl e, acc ++ [c], by simp; omega, rfl⟩)
  subst h3
  refine ⟨acc, ?_, by rw [h2, rgD_len]; omega⟩
  unfold d__law_numbers b__law_numbers
  refine runP_ap (g := [.dat (scriptD ns), .dat (.int m), .un, .un, .un]) rfl rfl ?_
  walk_at "s"
  refine seq_nx (for_run (mi_R1 (k := (m : Int)) rfl (rgOk_of (by omega) (by omega))) rfl (by rw [Int.toNat_natCast]; exact h1)) ?_
  unfold NumG
  walk_at "s"
  exact rfl
abbrev sign1 (c : Nat) : D := .str [c]
def S94 : List Nat := [32, 33, 34, 35, 36, 38, 39, 40, 41, 42, 43, 44, 45, 46, 47, 48, 49, 50, 51, 52, 53, 54, 55, 56, 57, 58, 59, 60, 61, 62, 63, 64, 65, 66, 67, 68, 69, 70, 71, 72, 73, 74, 75, 76, 77, 78, 79, 80, 81, 82, 83, 84, 85, 86, 87, 88, 89, 90, 91, 92, 93, 94, 95, 96, 97, 98, 99, 100, 101, 102, 103, 104, 105, 106, 107, 108, 109, 110, 111, 112, 113, 114, 115, 116, 117, 118, 119, 120, 121, 122, 123, 124, 125, 126]
def S10 : List Nat := [97, 98, 42, 63, 92, 32, 45, 39, 34, 65]
def TxtG (n k : Int) (acc : List Nat) (r : Int) (a : Sl) : G := [.dat (.int n), .dat (.int k), .dat (.str S94), .dat (.str S10), .own (.lst (acc.map sign1)) false false, .dat (.int r), a]
theorem txt_app (acc : List Nat) (c : Nat) : acc.map sign1 ++ [D.str [c]] = (acc ++ [c]).map sign1 := by rw [List.map_append]; rfl
theorem sign_in (s : List Nat) (k : Int) (hs : 0 < s.length) (hz : s.length ≤ sizeLine) {n : Int} (hn : n = s.length) : ∃ c, ixD (.str s) (k % n) = some (.str [c]) ∧ c ∈ s := by
  subst hn
  obtain ⟨c, h1, h2⟩ := atI_lt (xs := s) (Int.emod_nonneg k (by omega)) (Int.emod_lt_of_pos k (by omega))
  exact ⟨c, dr_ixS hz h1, h2⟩
theorem txt_turn (n k r : Int) (acc : List Nat) (i : Nat) (ha : acc.length ≤ 100) :
    ap (fun o => ∃ c r', o = some (.nx, TxtG n k (acc ++ [c]) r' .un) ∧ c < 127) (lb__law_text_1 (TxtG n k acc r (.dat (.int (0 + i))))) = True := by
  have hz : (acc.map sign1).length < sizeLine := by rw [List.length_map]; exact Nat.lt_of_le_of_lt ha (by decide)
  obtain ⟨c1, hx1, hm1⟩ := sign_in S94 r (by decide) (by decide) (n := 94) (by decide)
  obtain ⟨c2, hx2, hm2⟩ := sign_in S10 r (by decide) (by decide) (n := 10) (by decide)
  have b1 : c1 < 127 := by clear hx1; revert c1; decide
  have b2 : c2 < 127 := by clear hx2; revert c2; decide
  unfold lb__law_text_1 TxtG
  simp only [← txt_app]
  generalize S94 = s1 at *
  generalize S10 = s2 at *
  walk_at "r"
  · exact eq_true ⟨_, _, rfl, b1⟩
  · exact eq_true ⟨_, _, rfl, b2⟩
theorem text_ok (n : Int) (m : Nat) (hm : m ≤ 100) : ∃ s : List Nat, d__law_text [.int n, .int m] = some (.dat (.str s)) ∧ s.length = m ∧ ∀ c ∈ s, c < 127 := by
  obtain ⟨g2, h1, acc, r, h2, h5, h3⟩ := forL_inv (st := lb__law_text_1) (tg := gN 6) (L := rgD 0 m) (fun i g => ∃ acc r, acc.length = i ∧ (∀ c ∈ acc, c < 127) ∧ g = TxtG n m acc r .un) 0 (TxtG n m [] (n / 3) .un)
    ⟨[], _, rfl, fun _ h => (List.not_mem_nil h).elim, rfl⟩ (fun i d g hd ⟨acc, r, h1, h5, h2⟩ => by
      obtain ⟨hi, rfl⟩ := rgD_at hd
      subst h2
      obtain ⟨c, r', e2, hc⟩ := of_eq_true (txt_turn n m r acc i (by omega))
      exact ⟨TxtG n m acc r (.dat (.int (0 + (i : Int)))), _, rfl, .inl e2, acc ++ [c], r', by simp; omega, fun x hx => by
        rcases List.mem_append.mp hx with h | h
        · exact h5 x h
        · rw [List.mem_singleton.mp h]; exact hc, rfl⟩)
  subst h3
  rw [rgD_len] at h2
  refine ⟨acc, ?_, by omega, h5⟩
  unfold d__law_text b__law_text
  refine runP_ap (g := [.dat (.int n), .dat (.int m), .un, .un, .un, .un, .un]) rfl rfl ?_
  walk_at "s"
  walk_at "s"
  walk_at "s"
  walk_at "s"
  refine seq_nx (for_run (mi_R1 (k := (m : Int)) rfl (rgOk_of (by omega) (by omega))) rfl (by rw [Int.toNat_natCast]; exact h1)) ?_
  have j : joinD (.str []) [.lst (acc.map sign1)] = some (.str acc) := dr_joinS acc (by omega)
  unfold TxtG
  walk_at "s"
  exact rfl
theorem nvalue_ok (n : Int) : ∃ v, d__law_value [.int n] = some (.dat v) ∧ VD v := by
  have P : ∃ fr, d__law_value [.int n] = some fr ∧ ∃ v, fr = .dat v ∧ VD v := by
    obtain ⟨m, hm⟩ := Int.eq_ofNat_of_zero_le (Int.emod_nonneg (n / 8) (show (13 : Int) ≠ 0 by decide))
    have hm2 := Int.emod_lt_of_pos (n / 8) (show (0 : Int) < 13 by decide)
    obtain ⟨s, hs, hl, hc⟩ := text_ok (n / 8 / 13) m (by omega)
    rw [← hm] at hs
    unfold d__law_value b__law_value
    refine runP_post (g := [.dat (.int n), .un, .un]) rfl rfl ?_
    walk_at "w"
    · exact end_post rfl ⟨_, rfl, trivial⟩
    · exact end_post rfl ⟨_, rfl, trivial⟩
    · exact end_post rfl ⟨_, rfl, show (n / 8 % 3 - 1).natAbs < 10 ^ 60 by omega⟩
    · exact end_post rfl ⟨_, rfl, show (n / 8 % 2000000000000001 - 1000000000000000).natAbs < 10 ^ 60 by omega⟩
    · exact end_post rfl ⟨_, rfl, show (n / 8 % 3652059 - 719162).natAbs < 10 ^ 60 by omega⟩
    · exact end_post rfl ⟨_, rfl, show (n / 8 % 40 - 20).natAbs < 10 ^ 60 by omega⟩
    · exact end_post rfl ⟨_, rfl, show s.length ≤ 200 ∧ ∀ c ∈ s, c < 1114112 from ⟨by omega, fun c h => by have := hc c h; omega⟩⟩
  obtain ⟨fr, h, v, rfl, hv⟩ := P
  exact ⟨v, h, hv⟩
def valV (n : Int) : D := match d__law_value [.int n] with
  | some (.dat v) => v
  | _ => .non
theorem valV_ok (n : Int) : d__law_value [.int n] = some (.dat (valV n)) ∧ VD (valV n) := by
  obtain ⟨v, h, hv⟩ := nvalue_ok n
  have e : valV n = v := by unfold valV; rw [h]
  rw [e]
  exact ⟨h, hv⟩
theorem rank_ok (v : D) (h : VD v) : d_rank [v] = some (.dat (rk v)) := by
  cases v with
  | non =>
    unfold d_rank b_rank
    refine runP_ap (g := [.dat .non]) rfl rfl ?_
    walk_at "w"
    exact rfl
  | bl b =>
    unfold d_rank b_rank
    refine runP_ap (g := [.dat (.bl b)]) rfl rfl ?_
    walk_at "w"
    exact rfl
  | int i =>
    unfold d_rank b_rank
    refine runP_ap (g := [.dat (.int i)]) rfl rfl ?_
    walk_at "w"
    exact rfl
  | str t =>
    unfold d_rank b_rank
    refine runP_ap (g := [.dat (.str t)]) rfl rfl ?_
    walk_at "w"
    exact rfl
  | _ => exact h.elim
theorem row_rank_ok (L : List D) (h : ∀ v ∈ L, VD v) (hz : L.length ≤ 10000) : d_row_rank [.lst L] = some (.dat (.tup (L.map rk))) := by
  have e := er_lc1 (b := fun _ => true) (f := rk) (tg := gN 1) (tt := zYes) (el := zCall d_rank (zCons (zVar 1) (zNil))) (vs := [1]) (base := [.dat (.lst L), .un]) (mi := ziL 2 (zVar 0)) (g := [.dat (.lst L), .un]) (mi_Ld rfl) (fun o => rfl) (fun o => rfl) (Nat.le_trans hz (by decide))
    (fun d hd => lc_dat (h := [.dat (.lst L), .dat d]) rfl (fun o => rfl) (fun o => rfl) (fun o => rfl) (fun o => rfl) (fun _ o => by
      have hr := rank_ok d (h d hd)
      apply to_eqR
      walk_at "e"
      exact rfl))
  rw [List.filter_eq_self.mpr (fun _ _ => rfl)] at e
  unfold d_row_rank b_row_rank
  refine runP_ap (g := [.dat (.lst L), .un]) rfl rfl ?_
  exact sr_ret (er_tupL (er_cons e er_nil) rfl) rfl
theorem lrank_ok (v : D) (h : VD v) : d__law_rank [v] = some (.dat (rk v)) := by
  cases v with
  | non =>
    unfold d__law_rank b__law_rank
    refine runP_ap (g := [.dat .non]) rfl rfl ?_
    walk_at "w"
    exact rfl
  | bl b =>
    unfold d__law_rank b__law_rank
    refine runP_ap (g := [.dat (.bl b)]) rfl rfl ?_
    cases b <;> walk_at "w" <;> exact rfl
  | int i =>
    unfold d__law_rank b__law_rank
    refine runP_ap (g := [.dat (.int i)]) rfl rfl ?_
    walk_at "w"
    exact rfl
  | str t =>
    unfold d__law_rank b__law_rank
    refine runP_ap (g := [.dat (.str t)]) rfl rfl ?_
    walk_at "w"
    exact rfl
  | _ => exact h.elim
theorem sameV_self {v : D} (h : VD v) : sameV v v = true := by
  have := triR_self (L := [v]) (by intro x hx; rw [List.mem_singleton.mp hx]; exact h)
  have e : sameR [v] [v] = (sameV v v && true) := rfl
  rw [e, Bool.and_true] at this
  exact this
theorem islist_turn (L : List D) (i : Nat) (v : D) (hv : VD v) (h1 : L[i]? = some v) : lb__law_is_list_1 [.dat (.lst L), .dat (.lst L), .dat (.int (0 + (i : Int)))] = some (.nx, [.dat (.lst L), .dat (.lst L), .un]) := by
  have q := ne_rk hv hv
  rw [sameV_self hv] at q
  have i1 : ixD (.lst L) (0 + (i : Int)) = some v := by rw [Int.zero_add]; exact atI_nat h1
  have c1 := lrank_ok v hv
  generalize rk v = K at *
  generalize (0 + (i : Int)) = z at *
  show ap id (zFg [2] _ _) = _
  have t : zTst (zOp neqD (zCall d__law_rank (zCons (zIx (zVar 0) (zVar 2)) (zNil))) (zCall d__law_rank (zCons (zIx (zVar 1) (zVar 2)) (zNil)))) [.dat (.lst L), .dat (.lst L), .dat (.int z)] = some (false, [.dat (.lst L), .dat (.lst L), .dat (.int z)]) :=
    er_tst (er_op (er_call (ds := [v]) (er_cons (er_ix rfl rfl rfl i1) er_nil) c1) (er_call (ds := [v]) (er_cons (er_ix rfl rfl rfl i1) er_nil) c1) rfl rfl q rfl)
  refine ap_fg (sr_if1 (g2 := [.dat (.lst L), .dat (.lst L), .dat (.int z)]) t rfl (fun q => by cases q) (fun _ => ?_))
  exact fgK_nx rfl rfl rfl
theorem islist_ok {L : List D} (h : ∀ v ∈ L, VD v) (hl : L.length ≤ 1000) : d__law_is_list [.lst L, .lst L] = some (.dat (.bl true)) := by
  have il : isiD [.lst L, .raw (.ty "list")] = some (.bl true) := isi_of rfl kb_list_list
  have lp : forL (gN 2) lb__law_is_list_1 (rgD 0 L.length) [.dat (.lst L), .dat (.lst L), .un] = some (.nx, [.dat (.lst L), .dat (.lst L), .un]) := forL_all fun d hd => by
    obtain ⟨i, hi⟩ := List.getElem?_of_mem hd
    obtain ⟨h2, rfl⟩ := rgD_at hi
    exact ⟨_, rfl, islist_turn L i _ (h _ (List.getElem_mem h2)) (List.getElem?_eq_getElem h2)⟩
  unfold d__law_is_list b__law_is_list
  refine runP_ap (g := [.dat (.lst L), .dat (.lst L), .un]) rfl rfl ?_
  have t0 : zOrT (zNotT (zTru (zCallS isiD (zCons (zVar 0) (zCons (zC (.raw (.ty "list"))) (zNil)))))) (zTst (zOp neqD (zCallS lenD (zCons (zVar 0) (zNil))) (zCallS lenD (zCons (zVar 1) (zNil))))) [.dat (.lst L), .dat (.lst L), .un] = some (false, [.dat (.lst L), .dat (.lst L), .un]) := by
    have n0 : neqD (.int (L.length : Nat)) (.int (L.length : Nat)) = some (.bl false) := by rw [dr_neI]; simp
    exact er_orT (b1 := false) (b2 := false) (er_notT (b := true) (er_tru (er_callS (er_cons rfl (er_cons er_C er_nil)) rfl il rfl) rfl rfl)) (fun _ => er_tst (er_op (er_callS (er_cons rfl er_nil) rfl rfl rfl) (er_callS (er_cons rfl er_nil) rfl rfl rfl) rfl rfl n0 rfl))
  refine sr_if (g2 := [.dat (.lst L), .dat (.lst L), .un]) t0 rfl (fun q => by cases q) (fun _ => ?_)
  refine sr_nx (seq_nx (for_run (mi_R1 (k := ((L.length : Nat) : Int)) (er_cons (er_callS (z := .int (L.length : Nat)) (er_cons rfl er_nil) rfl rfl rfl) er_nil) (rgOk_of (by omega) (by omega))) rfl (by rw [Int.toNat_natCast]; exact lp)) ?_)
  exact sr_ret er_C rfl
def TwG (r : List D) (n : Int) (acc : List D) (a : Sl) : G := [.dat (.lst r), .dat (.int n), .own (.lst acc) false false, a]
theorem twin_turn (r : List D) (n : Int) (acc : List D) (v : D) (hv : VD v) (ha : acc.length ≤ 100) : ap (fun o => ∃ w, o = some (.nx, TwG r n (acc ++ [w]) .un) ∧ VD w) (lb__law_twin_1 (TwG r n acc (.dat v))) = True := by
  have hz : acc.length < sizeLine := Nat.lt_of_le_of_lt ha (by decide)
  have vi : ∀ i : Int, i.natAbs ≤ 1 → VD (.int i) := fun i h => show i.natAbs < 10 ^ 60 by omega
  unfold lb__law_twin_1 TwG
  cases v with
  | non =>
    walk_at "r"
    all_goals first
      | exact eq_true ⟨_, rfl, hv⟩
      | (exfalso; simp_all [D.eqv, inL])
  | bl b =>
    cases b
    all_goals walk_at "r"
    all_goals first
      | exact eq_true ⟨_, rfl, hv⟩
      | exact eq_true ⟨_, rfl, vi _ (by decide)⟩
      | exact eq_true ⟨_, rfl, trivial⟩
  | int i =>
    walk_at "r"
    all_goals first
      | exact eq_true ⟨_, rfl, hv⟩
      | exact eq_true ⟨_, rfl, trivial⟩
  | str t =>
    walk_at "r"
    all_goals first
      | exact eq_true ⟨_, rfl, hv⟩
      | (exfalso; simp_all [D.eqv, inL])
  | _ => exact hv.elim
theorem twin_ok (r : List D) (n : Int) (h : ∀ v ∈ r, VD v) (hl : r.length ≤ 20) : ∃ R, d__law_twin [.lst r, .int n] = some (.new (.lst R)) ∧ R.length = r.length ∧ ∀ v ∈ R, VD v := by
  obtain ⟨g2, h1, acc, h2, h3, h4⟩ := forL_inv (st := lb__law_twin_1) (tg := gN 3) (L := r) (fun i g => ∃ acc, acc.length = i ∧ g = TwG r n acc .un ∧ ∀ v ∈ acc, VD v) 0 (TwG r n [] .un)
    ⟨[], rfl, rfl, fun _ h => (List.not_mem_nil h).elim⟩ (fun i d g hd ⟨acc, h1, h2, h3⟩ => by
      have hi := (List.getElem?_eq_some_iff.mp hd).1
      subst h2
      obtain ⟨w, e, hw⟩ := of_eq_true (twin_turn r n acc d (h d (List.mem_of_getElem? hd)) (by omega))
      exact ⟨TwG r n acc (.dat d), _, rfl, .inl e, acc ++ [w], by simp; omega, rfl, fun x hx => by
        rcases List.mem_append.mp hx with hx | hx
        · exact h3 x hx
        · rw [List.mem_singleton.mp hx]; exact hw⟩)
  subst h3
  refine ⟨acc, ?_, by omega, h4⟩
  unfold d__law_twin b__law_twin
  refine runP_ap (g := [.dat (.lst r), .dat (.int n), .un, .un]) rfl rfl ?_
  refine seq_nx (g1 := TwG r n [] .un) (set_own (er_lst er_nil rfl (Nat.le_of_ble_eq_true rfl)) (Nat.le_of_ble_eq_true rfl) rfl rfl rfl) ?_
  refine seq_nx (for_run (mi_Ld rfl) rfl h1) ?_
  exact sr_ret rfl rfl
def xN : D → NestedKey
  | .int i => .num i
  | .str t => .text ⟨t.toArray⟩
  | _ => .none
def kN (v : D) : NestedKey := .tup [.num (kd v : Nat), xN (kx v)]
def kR (r : List D) : NestedKey := .tup (r.map kN)
theorem nk_rk {v : D} (h : VD v) : ZN.nkD (rk v) = some (kN v) := by
  cases v with
  | non => rfl
  | bl b => cases b <;> rfl
  | int i => rfl
  | str t => rfl
  | _ => exact h.elim
theorem nk_rks : ∀ {r : List D}, (∀ v ∈ r, VD v) → ZN.nkDs (r.map rk) = some (r.map kN)
  | [], _ => by simp [ZN.nkDs]
  | v :: r, h => by
    rw [List.map_cons, List.map_cons, ZN.nkDs, nk_rk (h v List.mem_cons_self), nk_rks fun x hx => h x (List.mem_cons_of_mem _ hx)]
theorem kN_eq {v w : D} (hv : VD v) (hw : VD w) : NestedKey.beq (kN v) (kN w) = sameV v w := by
  rw [sameV_eq]
  show (decide (((kd v : Nat) : Int) = ((kd w : Nat) : Int)) && (NestedKey.beq (xN (kx v)) (xN (kx w)) && true)) = _
  rw [Bool.and_true]
  have e0 : decide (((kd v : Nat) : Int) = ((kd w : Nat) : Int)) = decide (kd v = kd w) := by
    rw [Bool.eq_iff_iff, decide_eq_true_iff, decide_eq_true_iff]
    omega
  rw [e0]
  congr 1
  have i1 : ∀ a b : Int, NestedKey.beq (.num a) (.num b) = (a == b) := fun a b => by simp only [NestedKey.beq]; rfl
  have s1 : ∀ a b : List Nat, NestedKey.beq (.text ⟨a.toArray⟩) (.text ⟨b.toArray⟩) = (a == b) := fun a b => by
    simp only [NestedKey.beq]
    rw [Bool.eq_iff_iff, decide_eq_true_iff, beq_iff_eq]
    constructor
    · intro h
      injection h with h
      simpa using congrArg Array.toList h
    · rintro rfl; rfl
  cases v <;> first | exact hv.elim | skip
  all_goals cases w <;> first | exact hw.elim | skip
  all_goals first
    | exact i1 _ _
    | exact s1 _ _
    | rfl
theorem kR_eq : ∀ {r s : List D}, (∀ v ∈ r, VD v) → (∀ v ∈ s, VD v) → NestedKey.beqAll (r.map kN) (s.map kN) = sameR r s
  | [], [], _, _ => rfl
  | [], _ :: _, _, _ => rfl
  | _ :: _, [], _, _ => rfl
  | v :: r, w :: s, hr, hs => by
    rw [List.map_cons, List.map_cons, NestedKey.beqAll, kN_eq (hr v List.mem_cons_self) (hs w List.mem_cons_self), kR_eq (fun x hx => hr x (List.mem_cons_of_mem _ hx)) fun x hx => hs x (List.mem_cons_of_mem _ hx)]
    rfl
theorem kR_iff {r s : List D} (hr : ∀ v ∈ r, VD v) (hs : ∀ v ∈ s, VD v) : kR r = kR s ↔ sameR r s = true := by
  rw [← kR_eq hr hs]
  constructor
  · intro h
    unfold kR at h
    injection h with h
    rw [h]
    exact NestedKey.beqAll_self _
  · intro h
    unfold kR
    rw [NestedKey.eq_of_beqAll _ _ h]
theorem dp_kN (v : D) : (kN v).depth = 1 := by
  cases v <;> simp [kN, kx, xN, NestedKey.depth, NestedKey.depthAll]
theorem dp_kR (r : List D) : (kR r).depth ≤ 8 := by
  have : ∀ l : List D, NestedKey.depthAll (l.map kN) ≤ 1 := by
    intro l
    induction l with
    | nil => simp [NestedKey.depthAll]
    | cons v l ih =>
      rw [List.map_cons, NestedKey.depthAll, dp_kN]
      omega
  have := this r
  unfold kR
  rw [NestedKey.depth]
  omega
theorem key_row {r : List D} (h : ∀ v ∈ r, VD v) (hz : r.length ≤ 10000) : ZN.keyD d_row_rank (.lst r) = some (kR r) := by
  unfold ZN.keyD
  rw [row_rank_ok r h hz]
  simp only [ZN.nkD, nk_rks h]
  exact if_pos (dp_kR r)
/-- rows that differ -/
def due : List (List D) → List (List D) → List (List D)
  | [], out => out
  | r :: rs, out => if (out.any fun y => sameR y r) = true then due rs out else due rs (out ++ [r])
theorem dist_due : ∀ (rows : List (List D)) (seen : List NestedKey) (out : List (List D)), (∀ r ∈ rows, (∀ v ∈ r, VD v) ∧ r.length ≤ 10000) → (∀ r ∈ out, ∀ v ∈ r, VD v) → (∀ k, k ∈ seen ↔ k ∈ out.map kR) → ZN.distF d_row_rank (rows.map D.lst) seen out = some (due rows out)
  | [], _, _, _, _, _ => rfl
  | r :: rs, seen, out, h, ho, hs => by
    obtain ⟨h1, h2⟩ := h r List.mem_cons_self
    have hr : ∀ s ∈ rs, (∀ v ∈ s, VD v) ∧ s.length ≤ 10000 := fun s m => h s (List.mem_cons_of_mem _ m)
    have key : kR r ∈ seen ↔ (out.any fun y => sameR y r) = true := by
      rw [hs, List.mem_map, List.any_eq_true]
      exact ⟨fun ⟨y, m, e⟩ => ⟨y, m, (kR_iff (ho y m) h1).mp e⟩, fun ⟨y, m, e⟩ => ⟨y, m, (kR_iff (ho y m) h1).mpr e⟩⟩
    rw [List.map_cons]
    unfold ZN.distF
    rw [key_row h1 h2]
    simp only
    unfold due
    by_cases c : (out.any fun y => sameR y r) = true
    · rw [if_pos c, if_pos (key.mpr c)]
      exact dist_due rs seen out hr ho hs
    · rw [if_neg c, if_neg fun z => c (key.mp z)]
      refine dist_due rs _ _ hr (fun s m => ?_) fun k => ?_
      · rcases List.mem_append.mp m with m | m
        · exact ho s m
        · rw [List.mem_singleton.mp m]; exact h1
      · rw [List.mem_cons, List.map_append, List.mem_append, hs k, List.map_cons, List.map_nil, List.mem_singleton]
        exact or_comm
theorem due_in : ∀ {rows out : List (List D)} {P : List D → Prop}, (∀ r ∈ rows, P r) → (∀ r ∈ out, P r) → ∀ r ∈ due rows out, P r
  | [], _, _, _, ho => ho
  | r :: rs, out, P, h, ho => by
    unfold due
    split
    · exact due_in (fun s m => h s (List.mem_cons_of_mem _ m)) ho
    · exact due_in (fun s m => h s (List.mem_cons_of_mem _ m)) fun s m => by
        rcases List.mem_append.mp m with m | m
        · exact ho s m
        · rw [List.mem_singleton.mp m]; exact h r List.mem_cons_self
theorem due_len : ∀ (rows out : List (List D)), (due rows out).length ≤ rows.length + out.length
  | [], out => by simp [due]
  | r :: rs, out => by
    unfold due
    split
    · have := due_len rs out
      rw [List.length_cons]; omega
    · have := due_len rs (out ++ [r])
      rw [List.length_append, List.length_singleton] at this
      rw [List.length_cons]; omega
end Qk16
set_option Elab.async false
set_option linter.all false
set_option maxRecDepth 100000
set_option maxHeartbeats 4000000
namespace Qk16
open PySem PySem.Spec PyProof.Rows L2 Z
local macro_rules | `(tactic| walk_at "l") => `(tactic| first | (simp only [wipeG_nil, wipeG_cons, List.set_cons_succ, List.set_cons_zero, List.take_succ_cons, List.take_zero, List.take_nil, List.cons_append, List.nil_append, List.length_cons, List.length_nil, List.set_nil, List.getElem?_cons_zero, List.getElem?_cons_succ, Nat.zero_add, Nat.reduceAdd]; first | done | exact rfl) | exact rfl)
local macro_rules | `(tactic| walk_at "d") => `(tactic| first
  | with_reducible assumption
  | (with_reducible apply dr_div) <;> decide
  | (with_reducible apply dr_mod) <;> decide
  | (with_reducible apply dr_mulr); decide
  | (with_reducible apply dr_mull); decide
  | (with_reducible apply dr_divB) <;> omega
  | (with_reducible apply dr_mulrB) <;> omega
  | (with_reducible apply dr_mullB) <;> omega
  | (with_reducible apply dr_mulC) <;> omega
  | (with_reducible apply dr_mod) <;> omega
  | (with_reducible refine isi_of ?_ ?_); (exact rfl); (first | exact kb_int_int | exact kb_int_bool | exact kb_bool_bool | exact kb_bool_int | exact kb_str_int | exact kb_str_bool | exact kb_str_str | exact kb_int_str | exact kb_bool_str | exact kb_non_int | exact kb_non_bool | exact kb_non_str | exact kb_list_list | exact kb_tuple_tuple | exact kb_list_tuple | exact kb_tuple_list)
  | with_reducible exact dr_abs
  | (with_reducible exact dr_neL _ _)
  | (simp only [Cn.d]; with_reducible assumption)
  | (simp only [Cn.d]; with_reducible exact dr_neL _ _)
  | with_reducible exact in_ints _ _
  | (simp only [Cn.d]; with_reducible exact in_ints _ _)
  | ((with_reducible apply dr_cat); (try simp only [List.length_append, List.length_cons, List.length_nil]); omega)
  | with_reducible exact dr_eqI
  | with_reducible exact dr_eqB
  | with_reducible exact dr_neB
  | with_reducible exact dr_eqS
  | with_reducible exact dr_neI
  | with_reducible exact dr_neS
  | exact rfl)
local macro_rules | `(tactic| walk_at "c") => `(tactic| first | with_reducible assumption | (simp only [Cn.d]; with_reducible assumption))
local macro_rules | `(tactic| walk_at "e") => `(tactic| first
  | with_reducible exact er_C
  | with_reducible exact er_nil
  | (with_reducible apply er_varD); exact rfl
  | (with_reducible apply er_varO); exact rfl
  | (with_reducible apply er_varF); exact rfl
  | (with_reducible apply er_op); walk_at "e"; walk_at "e"; exact rfl; exact rfl; walk_at "d"; exact rfl
  | (with_reducible apply er_chain); walk_at "e"; walk_at "e"; exact rfl; exact rfl; walk_at "d"; (intro _h; walk_at "e"); exact rfl; walk_at "d"
  | (with_reducible apply er_slS); walk_at "e"; walk_at "o"; walk_at "o"; exact rfl; walk_at "z"
  | (with_reducible apply er_slL); walk_at "e"; walk_at "o"; walk_at "o"; exact rfl
  | (with_reducible apply er_list); walk_at "e"; exact rfl; exact rfl
  | (with_reducible apply er_tupL); walk_at "e"; exact rfl
  | (with_reducible apply er_un); walk_at "e"; exact rfl; exact rfl; exact rfl
  | (with_reducible apply er_tst); walk_at "e"
  | (with_reducible apply er_tru); walk_at "e"; exact rfl; exact rfl
  | (with_reducible apply er_andT); walk_at "e"; (intro _h; walk_at "e")
  | (with_reducible apply er_orT); walk_at "e"; (intro _h; walk_at "e")
  | (with_reducible apply er_andTT); walk_at "e"; exact rfl; walk_at "e"
  | (with_reducible apply er_orTF); walk_at "e"; exact rfl; walk_at "e"
  | (with_reducible apply er_notT); walk_at "e"
  | (with_reducible apply er_andV); walk_at "e"; (intro _h; walk_at "e")
  | (with_reducible apply er_orV); walk_at "e"; (intro _h; walk_at "e")
  | (with_reducible apply er_notV); walk_at "e"
  | (with_reducible apply er_andVT); walk_at "e"; exact rfl; walk_at "e"
  | (with_reducible apply er_orVF); walk_at "e"; exact rfl; walk_at "e"
  | (with_reducible apply er_ix); walk_at "e"; walk_at "e"; exact rfl; walk_at "x"
  | (with_reducible apply er_callS); walk_at "e"; exact rfl; walk_at "d"; exact rfl
  | (with_reducible apply er_cons); walk_at "e"; walk_at "e"
  | (with_reducible apply er_callG); walk_at "e"; exact rfl; exact rfl; walk_at "c"; exact rfl
  | (with_reducible apply er_callH); walk_at "e"; exact rfl; exact rfl; walk_at "c"; exact rfl
  | (with_reducible apply er_callV); walk_at "e"; exact rfl; walk_at "c"; exact rfl
  | (with_reducible apply er_callGF); walk_at "e"; exact rfl; exact rfl; walk_at "c"; exact rfl
  | (with_reducible apply er_callHF); walk_at "e"; exact rfl; exact rfl; walk_at "c"; exact rfl
  | (with_reducible apply er_callM); walk_at "e"; exact rfl; exact rfl; exact rfl; exact rfl; exact rfl; walk_at "c"; exact rfl
  | (with_reducible apply er_catL); walk_at "e"; walk_at "e"; exact rfl; exact rfl; walk_at "z"
  | (with_reducible apply er_mt); walk_at "e"; exact rfl; exact rfl; walk_at "e"; exact rfl; exact rfl; walk_at "m"; exact rfl
  | (with_reducible apply er_tup); walk_at "e"; exact rfl; walk_at "z" 
  | (with_reducible apply er_lst); walk_at "e"; exact rfl; walk_at "z")
local macro_rules | `(tactic| walk_at "o") => `(tactic| first | exact er_zoN | ((with_reducible apply er_zoS); walk_at "e"))
local macro_rules | `(tactic| walk_at "x") => `(tactic| first | with_reducible assumption | (simp only [Cn.d]; with_reducible assumption) | exact rfl)
local macro_rules | `(tactic| walk_at "m") => `(tactic| first | with_reducible assumption | (simp only [Cn.d]; with_reducible assumption) | exact rfl)
local macro_rules | `(tactic| walk_at "st") => `(tactic| first
  | ((with_reducible apply set_dat); (walk_at "e"); (exact rfl); walk_at "l")
  | ((with_reducible apply set_own); (walk_at "e"); (exact Nat.le_of_ble_eq_true rfl); (exact rfl); (exact rfl); walk_at "l")
  | ((with_reducible apply asg_run); (walk_at "e"); (exact rfl); walk_at "l")
  | ((with_reducible apply aug_run); (exact rfl); (exact rfl); (walk_at "e"); (exact rfl); (walk_at "d"); (exact rfl); (exact rfl); walk_at "l")
  | ((with_reducible apply sto_run); (walk_at "e"); (walk_at "e"); (walk_at "e"); (exact rfl); (walk_at "x"); walk_at "l")
  | ((with_reducible apply app_run); (walk_at "e"); (exact rfl); (walk_at "e"); (exact rfl); (exact rfl); (walk_at "z"); walk_at "l"))
local macro_rules | `(tactic| walk_at "z") => `(tactic| first | assumption | exact Nat.le_of_ble_eq_true rfl | (simp; omega))
local macro_rules | `(tactic| walk_at "s") => `(tactic| first
  | with_reducible apply sr_nx
  | with_reducible apply sr_assoc
  | with_reducible apply ap_fg
  | ((with_reducible apply fgK_nx); (exact rfl); (walk_at "l"); skip)
  | ((with_reducible apply fgK_ct); (exact rfl); (walk_at "l"); skip)
  | ((with_reducible apply fgK_bk); (exact rfl); (walk_at "l"); skip)
  | with_reducible apply fgK_ret
  | with_reducible apply sr_bk1
  | with_reducible apply sr_ct1
  | with_reducible apply sr_nx1
  | with_reducible apply sr_ct
  | with_reducible apply sr_bk
  | (with_reducible apply sr_retS); (walk_at "e"); skip
  | (with_reducible apply sr_ret); (walk_at "e"); skip
  | (with_reducible apply sr_if); (walk_at "e"); (walk_at "l")
  | (with_reducible apply sr_if1); (walk_at "e"); (walk_at "l")
  | (with_reducible apply seq_nx); (walk_at "st")
  | (with_reducible apply one_nx); (walk_at "st"))
local macro_rules | `(tactic| walk_at "r") => `(tactic| repeat' (first | (intro _) | walk_at "s"))
local macro_rules | `(tactic| walk_at "k") => `(tactic| (intro q; (try simp only [decide_eq_true_eq, decide_eq_false_iff_not, beq_iff_eq, beq_eq_false_iff_ne, ne_eq, Bool.not_eq_true', Bool.not_eq_false', Bool.and_eq_true, Bool.or_eq_true, Bool.and_eq_false_iff, Bool.or_eq_false_iff, Int.not_lt, Int.not_le, List.cons.injEq, and_true, reduceCtorEq, beq_self_eq_true, Bool.not_true, Bool.not_false, Bool.or_false, Bool.false_or, Bool.or_true, Bool.true_or, Bool.and_false, Bool.false_and, Bool.and_true, Bool.true_and, not_true_eq_false, Bool.false_eq_true] at q) <;> (try (exfalso; first | (cases q; done) | omega | contradiction))))
local macro_rules | `(tactic| walk_at "w") => `(tactic| repeat' (first | (walk_at "k") | walk_at "s"))
def GR (r : List D) : Prop := (∀ v ∈ r, VD v) ∧ r.length ≤ 3
theorem cut_len {α : Type} (l : List α) (lo hi : Option Int) : (cutL l lo hi).length ≤ l.length := by
  unfold cutL
  rw [List.length_take, List.length_drop]
  omega
def LA (ns : List Int) (NS RL : List D) (s3 s9 s11 s12 : Sl) : G := [.dat (scriptD ns), .own (.lst NS) false false, .own (.lst RL) false false, s3, .un, .un, .un, .un, .un, s9, .un, s11, s12, .un, .un]
theorem pick3 (c : Int) (h1 : 0 < c) (h2 : c < 4) (A B C : List D) (hA : GR A) (hB : GR B) (hC : GR C) : ∃ X, GR X ∧ ixD (.lst [.lst A, .lst B, .lst C]) (c - 1) = some (.lst X) := by
  rcases (show c = 1 ∨ c = 2 ∨ c = 3 by omega) with h | h | h <;> rw [h]
  · exact ⟨A, hA, rfl⟩
  · exact ⟨B, hB, rfl⟩
  · exact ⟨C, hC, rfl⟩
theorem rows_turn (ns L : List Int) (hL : L.length = 26) (rows : List (List D)) (k : Nat) (hk : k ≤ 11) (hr : ∀ r ∈ rows, GR r) (hn : rows.length ≤ 12) :
    ∃ R, GR R ∧ lb_law_1 (LA ns (L.map D.int) (rows.map D.lst) (.dat (.int (0 + (k : Int)))) .un .un .un) = some (.nx, LA ns (L.map D.int) ((rows ++ [R]).map D.lst) .un .un .un .un) := by
  have ix : ∀ z : Int, 0 ≤ z → z < 26 → ∃ a, ixD (.lst (L.map D.int)) z = some (.int a) := fun z h0 h1 => by
    obtain ⟨x, h, _⟩ := atI_lt (xs := L) h0 (by omega)
    exact ⟨x, atI_map (f := D.int) h⟩
  obtain ⟨a, ha⟩ := ix (1 + 2 * (0 + (k : Int))) (by omega) (by omega)
  obtain ⟨b, hb⟩ := ix (2 + 2 * (0 + (k : Int))) (by omega) (by omega)
  have hz : (rows.map D.lst).length < sizeLine := by rw [List.length_map]; exact Nat.lt_of_le_of_lt hn (by decide)
  have hl : (rows.map D.lst).length = rows.length := List.length_map _
  have old : 0 < rows.length → ∃ r, GR r ∧ ixD (.lst (rows.map D.lst)) (a / 4 % ((rows.map D.lst).length : Int)) = some (.lst r) := fun h => by
    rw [hl]
    obtain ⟨r, h1, h2⟩ := atI_lt (xs := rows) (Int.emod_nonneg (a / 4) (show ((rows.length : Nat) : Int) ≠ 0 by omega)) (Int.emod_lt_of_pos (a / 4) (show (0 : Int) < ((rows.length : Nat) : Int) by omega))
    exact ⟨r, hr r h2, atI_map (f := D.lst) h1⟩
  have app : ∀ R : List D, (rows ++ [R]).map D.lst = rows.map D.lst ++ [.lst R] := fun R => by rw [List.map_append]; rfl
  have hc0 := Int.emod_nonneg a (show (4 : Int) ≠ 0 by decide)
  have hc1 := Int.emod_lt_of_pos a (show (0 : Int) < 4 by decide)
  simp only [app]
  have h0 : (0 < rows.length) ↔ ((0 : Int) < ((rows.map D.lst).length : Int)) := by rw [hl]; omega
  rw [h0] at old
  generalize rows.map D.lst = RL at *
  generalize L.map D.int = NS at *
  generalize (0 + (k : Int)) = z at *
  have na : ∀ (s9 s11 s12 : Sl), zCallS intU (zCons (zIx (zVar 1) (zOp addS (zC (.int 1)) (zOp mulD (zC (.int 2)) (zVar 3)))) (zNil)) (LA ns NS RL (.dat (.int z)) s9 s11 s12) = some (.dat (.int a), LA ns NS RL (.dat (.int z)) s9 s11 s12) := fun s9 s11 s12 =>
    er_callS (er_cons (er_ix rfl (er_op er_C (er_op er_C rfl rfl rfl (dr_mull (by decide)) rfl) rfl rfl rfl rfl) rfl ha) er_nil) rfl rfl rfl
  have nb : ∀ (s9 s11 s12 : Sl) (t : G), zIx (zVar 1) (zOp addS (zC (.int 2)) (zOp mulD (zC (.int 2)) (zVar 3))) (LA ns NS RL (.dat (.int z)) s9 s11 s12 ++ t) = some (.dat (.int b), LA ns NS RL (.dat (.int z)) s9 s11 s12 ++ t) := fun s9 s11 s12 t =>
    er_ix rfl (er_op er_C (er_op er_C rfl rfl rfl (dr_mull (by decide)) rfl) rfl rfl rfl rfl) rfl hb
  have nb0 : ∀ (s9 s11 s12 : Sl), zIx (zVar 1) (zOp addS (zC (.int 2)) (zOp mulD (zC (.int 2)) (zVar 3))) (LA ns NS RL (.dat (.int z)) s9 s11 s12) = some (.dat (.int b), LA ns NS RL (.dat (.int z)) s9 s11 s12) := fun s9 s11 s12 =>
    er_ix rfl (er_op er_C (er_op er_C rfl rfl rfl (dr_mull (by decide)) rfl) rfl rfl rfl rfl) rfl hb
  have t : ∀ (c : Int), zAndT (zTst (zOp gtD (zVar 9) (zC (.int 0)))) (zTst (zOp gtD (zCallS lenD (zCons (zVar 2) (zNil))) (zC (.int 0)))) (LA ns NS RL (.dat (.int z)) (.dat (.int c)) .un .un) = some (decide (0 < c) && decide ((0 : Int) < (RL.length : Int)), LA ns NS RL (.dat (.int z)) (.dat (.int c)) .un .un) := fun c =>
    er_andT (er_tst (er_op rfl er_C rfl rfl rfl rfl)) (fun _ => er_tst (er_op (er_callS (er_cons rfl er_nil) rfl rfl rfl) er_C rfl rfl rfl rfl))
  have first : zSet 15 9 (zOp modD (zCallS intU (zCons (zIx (zVar 1) (zOp addS (zC (.int 1)) (zOp mulD (zC (.int 2)) (zVar 3)))) (zNil))) (zC (.int 4))) (LA ns NS RL (.dat (.int z)) .un .un .un) = some (.nx, LA ns NS RL (.dat (.int z)) (.dat (.int (a % 4))) .un .un) :=
    set_dat (er_op (na _ _ _) er_C rfl rfl (dr_mod (by decide)) rfl) rfl rfl
  by_cases hbr : 0 < a % 4 ∧ (0 : Int) < (RL.length : Int)
  · obtain ⟨r, gr, hold⟩ := old hbr.2
    obtain ⟨R', hR', lR, vR⟩ := twin_ok r b gr.1 (by have := gr.2; omega)
    obtain ⟨X, gX, hX⟩ := pick3 (a % 4) hbr.1 hc1 r R' (cutL r (some 1) none) gr ⟨vR, by rw [lR]; exact gr.2⟩ ⟨fun v m => gr.1 v (cut_mem m), Nat.le_trans (cut_len ..) gr.2⟩
    refine ⟨X, gX, ?_⟩
    show ap id (zFg [3, 9, 11, 12] _ _) = _
    refine ap_fg (seq_nx first (sr_if1 (g2 := LA ns NS RL (.dat (.int z)) (.dat (.int (a % 4))) .un .un) (t _) rfl (fun _ => ?_) (fun q => ?_)))
    · refine seq_nx (g1 := LA ns NS RL (.dat (.int z)) (.dat (.int (a % 4))) (.dat (.lst r)) .un) (set_dat (er_ix rfl (er_op (er_op (na _ _ _) er_C rfl rfl (dr_div (by decide) (by decide)) rfl) (er_callS (er_cons rfl er_nil) rfl rfl rfl) rfl rfl (dr_mod hbr.2) rfl) rfl hold) rfl rfl) ?_
      have e1 : zCall d__law_twin (zCons (zVar 11) (zCons (zIx (zVar 1) (zOp addS (zC (.int 2)) (zOp mulD (zC (.int 2)) (zVar 3)))) (zNil))) (LA ns NS RL (.dat (.int z)) (.dat (.int (a % 4))) (.dat (.lst r)) .un ++ [.own (.lst r) false false]) = some (.bor 16, LA ns NS RL (.dat (.int z)) (.dat (.int (a % 4))) (.dat (.lst r)) .un ++ [.own (.lst r) false false] ++ [.own (.lst R') false false]) :=
        er_callL (ds := [.lst r, .int b]) (er_cons rfl (er_cons (nb (.dat (.int (a % 4))) (.dat (.lst r)) .un [.own (.lst r) false false]) er_nil)) hR'
      have e2 : zLst (zCons (z_list (zCons (zVar 11) (zNil))) (zCons (zCall d__law_twin (zCons (zVar 11) (zCons (zIx (zVar 1) (zOp addS (zC (.int 2)) (zOp mulD (zC (.int 2)) (zVar 3)))) (zNil)))) (zCons (zSl (z_list (zCons (zVar 11) (zNil))) (zoS (zC (.int 1))) (zoN)) (zNil)))) (LA ns NS RL (.dat (.int z)) (.dat (.int (a % 4))) (.dat (.lst r)) .un) =
          some (.bor 19, LA ns NS RL (.dat (.int z)) (.dat (.int (a % 4))) (.dat (.lst r)) .un ++ [.frz (.lst r), .frz (.lst R'), .own (.lst r) false false, .frz (.lst (cutL r (some 1) none))] ++ [.own (.lst [.lst r, .lst R', .lst (cutL r (some 1) none)]) false false]) :=
        er_lst (g2 := LA ns NS RL (.dat (.int z)) (.dat (.int (a % 4))) (.dat (.lst r)) .un ++ [.frz (.lst r), .frz (.lst R'), .own (.lst r) false false, .frz (.lst (cutL r (some 1) none))]) (ds := [.lst r, .lst R', .lst (cutL r (some 1) none)]) (er_cons (er_list (er_cons rfl er_nil) rfl rfl) (er_cons e1 (er_cons (er_slL (er_list (er_cons rfl er_nil) rfl rfl) rfl rfl rfl) er_nil))) rfl (Nat.le_of_ble_eq_true rfl)
      have e3 := er_ix (mb := zOp subD (zVar 9) (zC (.int 1))) e2 (er_op rfl er_C rfl rfl rfl rfl) rfl hX
      refine one_nx (app_run (j := 2) (ds0 := RL) (ds := RL) (d := .lst X) (p := false) rfl rfl e3 rfl rfl hz rfl) ?_
      exact fgK_nx (g2 := LA ns NS (RL ++ [.lst X]) .un .un .un .un) rfl rfl rfl
    · rw [decide_eq_true hbr.1, decide_eq_true hbr.2] at q
      cases q
  · obtain ⟨m, hm⟩ : ∃ m : Nat, (m : Int) = a / 4 % 4 := ⟨(a / 4 % 4).toNat, Int.toNat_of_nonneg (Int.emod_nonneg _ (by decide))⟩
    have hm4 : m ≤ 3 := by
      have := Int.emod_lt_of_pos (a / 4) (show (0 : Int) < 4 by decide)
      omega
    let f : D → D := fun d => match d with
      | .int j => valV (b / (5 * j + 1) + j)
      | _ => .non
    have hf : ∀ v ∈ (rgD 0 m).map f, VD v := fun v hv => by
      obtain ⟨d, hd, rfl⟩ := List.mem_map.mp hv
      obtain ⟨i, hi⟩ := List.getElem?_of_mem hd
      obtain ⟨_, rfl⟩ := rgD_at hi
      exact (valV_ok _).2
    refine ⟨(rgD 0 m).map f, ⟨hf, by rw [List.length_map, rgD_len]; exact hm4⟩, ?_⟩
    show ap id (zFg [3, 9, 11, 12] _ _) = _
    refine ap_fg (seq_nx first (sr_if1 (g2 := LA ns NS RL (.dat (.int z)) (.dat (.int (a % 4))) .un .un) (t _) rfl (fun q => ?_) (fun _ => ?_)))
    · rw [Bool.and_eq_true, decide_eq_true_iff, decide_eq_true_iff] at q
      exact absurd q hbr
    · refine seq_nx (g1 := LA ns NS RL (.dat (.int z)) (.dat (.int (a % 4))) .un (.dat (.int b))) (set_dat (er_callS (er_cons (nb0 _ _ _) er_nil) rfl rfl rfl) rfl rfl) ?_
      have e := er_lc1 (b := fun _ => true) (f := f) (tg := gN 14) (tt := zYes) (el := zCall d__law_value (zCons (zOp addS (zOp divD (zVar 12) (zOp addS (zOp mulD (zC (.int 5)) (zVar 14)) (zC (.int 1)))) (zVar 14)) (zNil))) (vs := [14]) (base := LA ns NS RL (.dat (.int z)) (.dat (.int (a % 4))) .un (.dat (.int b)))
        (mi_R1 (k := (m : Int)) (g := LA ns NS RL (.dat (.int z)) (.dat (.int (a % 4))) .un (.dat (.int b))) (er_cons (by rw [hm]; exact er_op (er_op (na (.dat (.int (a % 4))) .un (.dat (.int b))) er_C rfl rfl (dr_div (by decide) (by decide)) rfl) er_C rfl rfl (dr_mod (by decide)) rfl) er_nil) (rgOk_of (by omega) (by omega))) (fun o => rfl) (fun o => rfl) (by rw [rgD_len]; exact Nat.le_trans (show _ ≤ 3 by omega) (by decide))
        (fun d hd => by
          obtain ⟨i, hi'⟩ := List.getElem?_of_mem hd
          obtain ⟨hi2, rfl⟩ := rgD_at hi'
          have hi3 : 0 ≤ 0 + (i : Int) ∧ 0 + (i : Int) < 10 := by rw [Int.toNat_natCast] at hi2; omega
          obtain ⟨hv, hvd⟩ := valV_ok (b / (5 * (0 + (i : Int)) + 1) + (0 + (i : Int)))
          have sc : (valV (b / (5 * (0 + (i : Int)) + 1) + (0 + (i : Int)))).scal = true := (VD.flat hvd).2.1
          generalize hj : (0 + (i : Int)) = j at *
          refine lc_dat (h := [.dat (scriptD ns), .own (.lst NS) false false, .own (.lst RL) false false, .dat (.int z), .un, .un, .un, .un, .un, .dat (.int (a % 4)), .un, .un, .dat (.int b), .un, .dat (.int j)]) rfl (fun o => rfl) (fun o => rfl) (fun o => rfl) (fun o => rfl) (fun _ o => ?_)
          show _ = some (R.dat (valV (b / (5 * j + 1) + j)), _)
          exact er_callV (ds := [.int (b / (5 * j + 1) + j)]) (er_cons (er_op (er_op rfl (er_op (er_op er_C rfl rfl rfl (dr_mull (by decide)) rfl) er_C rfl rfl rfl rfl) rfl rfl (dr_divB (by omega) (by omega)) rfl) rfl rfl rfl rfl rfl) er_nil) rfl hv sc)
      rw [List.filter_eq_self.mpr (fun _ _ => rfl), Int.toNat_natCast] at e
      refine one_nx (app_run (j := 2) (ds0 := RL) (ds := RL) (d := .lst ((rgD 0 m).map f)) (p := false) rfl rfl e rfl rfl hz rfl) ?_
      exact fgK_nx (g2 := LA ns NS (RL ++ [.lst ((rgD 0 m).map f)]) .un .un .un .un) rfl rfl rfl
def keyT (y : List D) : D := .tup (y.map rk)
theorem gr_rok {y : List D} (h : GR y) : D.rokA (y.map rk) = true ∧ D.dpA (y.map rk) ≤ 1 := ⟨(rks_rok h.1).1, (rks_rok h.1).2.1⟩
theorem seen_rok : ∀ {out : List (List D)}, (∀ y ∈ out, GR y) → D.rokA (out.map keyT) = true ∧ D.dpA (out.map keyT) ≤ 2
  | [], _ => ⟨rfl, Nat.zero_le _⟩
  | y :: out, h => by
    obtain ⟨a, b⟩ := seen_rok fun z m => h z (List.mem_cons_of_mem _ m)
    obtain ⟨c, d⟩ := gr_rok (h y List.mem_cons_self)
    refine ⟨?_, ?_⟩
    · show (D.rokA (y.map rk) && D.rokA (out.map keyT)) = true
      rw [a, c]; rfl
    · show max (D.dpA (y.map rk) + 1) (D.dpA (out.map keyT)) ≤ 2
      omega
theorem notin_ok {out : List (List D)} {r : List D} (h : ∀ y ∈ out, GR y) (hr : GR r) : notinD (.tup (r.map rk)) (.lst (out.map keyT)) = some (.bl (!(out.any fun y => sameR y r))) := by
  obtain ⟨a, b⟩ := seen_rok h
  obtain ⟨c, d⟩ := gr_rok hr
  have s1 : (D.tup (r.map rk)).shp = true := rok_shp c (show D.dpA (r.map rk) + 1 ≤ 60 by omega)
  have s2 : (D.lst (out.map keyT)).shp = true := rok_shp a (show D.dpA (out.map keyT) + 1 ≤ 60 by omega)
  have e : inL (.tup (r.map rk)) (out.map keyT) = out.any fun y => sameR y r := by
    unfold inL
    rw [List.any_map]
    rfl
  have q : inB (.tup (r.map rk)) (.lst (out.map keyT)) = some (out.any fun y => sameR y r) := by
    rw [← e]
    simp only [inB]
    rw [if_neg (by simp [D.pl]), if_pos (by rw [s1, s2]; rfl)]
  unfold notinD
  rw [q]
  rfl
def LB (ns : List Int) (NS RL : List D) (kept : D) (SN DU : List D) (s7 s10 : Sl) : G := [.dat (scriptD ns), .own (.lst NS) false false, .own (.lst RL) false true, .un, .dat kept, .own (.lst SN) false false, .own (.lst DU) false false, s7, .un, .un, s10, .un, .un, .un, .un]
theorem due_turn (ns : List Int) (NS RL : List D) (kept : D) (out : List (List D)) (r : List D) (h : ∀ y ∈ out, GR y) (hr : GR r) (hl : out.length ≤ 12) :
    lb_law_2 (LB ns NS RL kept (out.map keyT) (out.map D.lst) (.dat (.lst r)) .un) = some (.nx, LB ns NS RL kept ((due [r] out).map keyT) ((due [r] out).map D.lst) .un .un) := by
  have hn := notin_ok h hr
  have z1 : (out.map keyT).length < sizeLine := by rw [List.length_map]; exact Nat.lt_of_le_of_lt hl (by decide)
  have z2 : (out.map D.lst).length < sizeLine := by rw [List.length_map]; exact Nat.lt_of_le_of_lt hl (by decide)
  have m1 : (due [r] out).map keyT = if (out.any fun y => sameR y r) = true then out.map keyT else out.map keyT ++ [.tup (r.map rk)] := by
    unfold due
    split
    · rfl
    · unfold due; rw [List.map_append]; rfl
  have m2 : (due [r] out).map D.lst = if (out.any fun y => sameR y r) = true then out.map D.lst else out.map D.lst ++ [.lst r] := by
    unfold due
    split
    · rfl
    · unfold due; rw [List.map_append]; rfl
  rw [m1, m2]
  generalize (out.any fun y => sameR y r) = b at *
  generalize out.map keyT = SN at *
  generalize out.map D.lst = DU at *
  have e := er_lc1 (b := fun _ => true) (f := rk) (tg := gN 13) (tt := zYes) (el := zCall d__law_rank (zCons (zVar 13) (zNil))) (vs := [13]) (base := LB ns NS RL kept SN DU (.dat (.lst r)) .un) (mi := ziL 15 (zVar 7)) (g := LB ns NS RL kept SN DU (.dat (.lst r)) .un) (L := r) (mi_Ld rfl) (fun o => rfl) (fun o => rfl) (Nat.le_trans hr.2 (by decide))
    (fun v hv => lc_dat (h := [.dat (scriptD ns), .own (.lst NS) false false, .own (.lst RL) false true, .un, .dat kept, .own (.lst SN) false false, .own (.lst DU) false false, .dat (.lst r), .un, .un, .un, .un, .un, .dat v, .un]) rfl (fun o => rfl) (fun o => rfl) (fun o => rfl) (fun o => rfl) (fun _ o => er_call (ds := [v]) (er_cons rfl er_nil) (lrank_ok v (hr.1 v hv))))
  rw [List.filter_eq_self.mpr (fun _ _ => rfl)] at e
  generalize r.map rk = K at *
  show ap id (zFg [7, 10] _ _) = _
  refine ap_fg (seq_nx (g1 := LB ns NS RL kept SN DU (.dat (.lst r)) (.dat (.tup K))) (set_dat (er_tupL (er_cons e er_nil) rfl) rfl rfl) ?_)
  have t : zTst (zOp notinD (zVar 10) (zVar 5)) (LB ns NS RL kept SN DU (.dat (.lst r)) (.dat (.tup K))) = some (!b, LB ns NS RL kept SN DU (.dat (.lst r)) (.dat (.tup K))) := er_tst (er_op rfl rfl rfl rfl hn rfl)
  refine sr_if1 (g2 := LB ns NS RL kept SN DU (.dat (.lst r)) (.dat (.tup K))) t rfl (fun q => ?_) (fun q => ?_)
  · obtain rfl : b = false := by cases b <;> first | rfl | cases q
    refine seq_nx (g1 := LB ns NS RL kept (SN ++ [.tup K]) DU (.dat (.lst r)) (.dat (.tup K))) (app_run (j := 5) (ds0 := SN) (ds := SN) (d := .tup K) (p := false) rfl rfl rfl rfl rfl z1 rfl) ?_
    refine one_nx (app_run (j := 6) (ds0 := DU) (ds := DU) (d := .lst r) (p := false) rfl rfl (er_list (er_cons rfl er_nil) rfl rfl) rfl rfl z2 rfl) ?_
    exact fgK_nx (g2 := LB ns NS RL kept (SN ++ [.tup K]) (DU ++ [.lst r]) .un .un) rfl rfl rfl
  · obtain rfl : b = true := by cases b <;> first | rfl | cases q
    exact fgK_nx (g2 := LB ns NS RL kept SN DU .un .un) rfl rfl rfl
theorem due_one (r : List D) (rs out : List (List D)) : due (r :: rs) out = due rs (due [r] out) := by
  conv => lhs; unfold due
  have : due [r] out = if (out.any fun y => sameR y r) = true then out else out ++ [r] := by
    unfold due
    split <;> rfl
  rw [this]
  split <;> rfl
theorem due_loop (ns : List Int) (NS RL : List D) (kept : D) : ∀ (rows out : List (List D)), (∀ r ∈ rows, GR r) → (∀ y ∈ out, GR y) → rows.length + out.length ≤ 12 →
    forL (gN 7) lb_law_2 (rows.map D.lst) (LB ns NS RL kept (out.map keyT) (out.map D.lst) .un .un) = some (.nx, LB ns NS RL kept ((due rows out).map keyT) ((due rows out).map D.lst) .un .un)
  | [], _, _, _, _ => rfl
  | r :: rs, out, h, ho, hl => by
    have hr := h r List.mem_cons_self
    have h1 : ∀ s ∈ [r], GR s := fun s m => by rw [List.mem_singleton.mp m]; exact hr
    have z := due_len [r] out
    rw [List.length_cons] at hl
    have e1 := due_turn ns NS RL kept out r ho hr (by omega)
    have ih := due_loop ns NS RL kept rs (due [r] out) (fun s m => h s (List.mem_cons_of_mem _ m)) (due_in h1 ho) (by simp at z; omega)
    rw [List.map_cons, forL_nx (g1 := LB ns NS RL kept (out.map keyT) (out.map D.lst) (.dat (.lst r)) .un) rfl e1 ih, due_one r rs out]
def LC (ns : List Int) (NS RL : List D) (s3 : Sl) (kept : D) (SN DU : List D) (X : List (List D)) : G := [.dat (scriptD ns), .own (.lst NS) false false, .frz (.lst RL), s3, .dat kept, .own (.lst SN) false false, .own (.lst DU) false false, .un, .rws X, .un, .un, .un, .un, .un, .un]
theorem told_turn (ns : List Int) (NS RL : List D) (kept : D) (SN : List D) (X : List (List D)) (h : ∀ r ∈ X, GR r) (i : Nat) (hi : i < X.length) :
    lb_law_3 (LC ns NS RL (.dat (.int (0 + (i : Int)))) kept SN (X.map D.lst) X) = some (.nx, LC ns NS RL .un kept SN (X.map D.lst) X) := by
  have hx : atI (X.map D.lst) (0 + (i : Int)) = some (.lst X[i]) := by
    rw [Int.zero_add]
    exact atI_nat (by rw [List.getElem?_map, List.getElem?_eq_getElem hi]; rfl)
  have gi := h _ (List.getElem_mem hi)
  have ok := islist_ok gi.1 (by have := gi.2; omega)
  generalize (0 + (i : Int)) = z at *
  have c : zCallKK d__law_is_list 8 6 3 (LC ns NS RL (.dat (.int z)) kept SN (X.map D.lst) X) = some (.dat (.bl true), LC ns NS RL (.dat (.int z)) kept SN (X.map D.lst) X) := er_callKK rfl rfl rfl hx hx ok rfl
  show ap id (zFg [3] _ _) = _
  refine ap_fg (sr_if1 (g2 := LC ns NS RL (.dat (.int z)) kept SN (X.map D.lst) X) (er_notT (b := true) (er_tru c rfl rfl)) rfl (fun q => by cases q) (fun _ => ?_))
  exact fgK_nx (g2 := LC ns NS RL .un kept SN (X.map D.lst) X) rfl rfl rfl
theorem rows_rok : ∀ {X : List (List D)}, (∀ r ∈ X, GR r) → D.rokA (X.map D.lst) = true ∧ D.dpA (X.map D.lst) ≤ 1 ∧ D.wtA (X.map D.lst) ≤ 604 * X.length
  | [], _ => ⟨rfl, Nat.zero_le _, Nat.le_refl _⟩
  | r :: X, h => by
    obtain ⟨a, b, c⟩ := rows_rok fun z m => h z (List.mem_cons_of_mem _ m)
    obtain ⟨g1, g2⟩ := h r List.mem_cons_self
    obtain ⟨r1, r2, r3⟩ := flats_rok fun v hv => (g1 v hv).flat
    refine ⟨?_, ?_, ?_⟩
    · show (D.rokA r && D.rokA (X.map D.lst)) = true
      rw [r1, a]; rfl
    · show max (D.dpA r + 1) (D.dpA (X.map D.lst)) ≤ 1
      omega
    · show D.wtA r + 1 + D.wtA (X.map D.lst) ≤ 604 * (X.length + 1)
      omega
theorem law_true (ns : List Int) (hn : ns.length ≤ 63) : d_law [scriptD ns] = some (.dat (.bl true)) := by
  obtain ⟨L, hL, hl⟩ := numbers_ok ns 26 hn (by decide)
  obtain ⟨a0, hx0, _⟩ := atI_lt (xs := L) (show (0 : Int) ≤ 0 by decide) (by omega)
  have x0 : ixD (.lst (L.map D.int)) 0 = some (.int a0) := atI_map (f := D.int) hx0
  obtain ⟨m, hm⟩ : ∃ m : Nat, (m : Int) = a0 % 13 := ⟨(a0 % 13).toNat, Int.toNat_of_nonneg (Int.emod_nonneg _ (by decide))⟩
  have hm2 : m ≤ 12 := by
    have := Int.emod_lt_of_pos a0 (show (0 : Int) < 13 by decide)
    omega
  obtain ⟨g2, lp1, rows, z1, rfl, gr⟩ := forL_inv (st := lb_law_1) (tg := gN 3) (L := rgD 0 m) (fun i g => ∃ rows : List (List D), rows.length = i ∧ g = LA ns (L.map D.int) (rows.map D.lst) .un .un .un .un ∧ ∀ r ∈ rows, GR r) 0 (LA ns (L.map D.int) [] .un .un .un .un)
    ⟨[], rfl, rfl, fun _ h => (List.not_mem_nil h).elim⟩ (fun i d g hd ⟨rows, h1, h2, h3⟩ => by
      obtain ⟨hi, rfl⟩ := rgD_at hd
      subst h2
      obtain ⟨R, gR, e⟩ := rows_turn ns L hl rows i (by omega) h3 (by omega)
      exact ⟨_, _, rfl, .inl e, rows ++ [R], by simp; omega, rfl, fun x hx => by
        rcases List.mem_append.mp hx with hx | hx
        · exact h3 x hx
        · rw [List.mem_singleton.mp hx]; exact gR⟩)
  rw [rgD_len] at z1
  have zr : rows.length ≤ 12 := by omega
  obtain ⟨k1, k2, k3⟩ := rows_rok gr
  have hrep : reprD [.lst (rows.map D.lst)] = some (.str (shownD (.lst (rows.map D.lst)))) := by
    refine dr_repr (rok_repr rfl k1 ?_ ?_)
    · show D.dpA (rows.map D.lst) + 1 ≤ 60
      omega
    · show D.wtA (rows.map D.lst) ≤ 100000
      omega
  generalize shownD (.lst (rows.map D.lst)) = kept at *
  have lp2 := due_loop ns (L.map D.int) (rows.map D.lst) (.str kept) rows [] gr (fun _ h => (List.not_mem_nil h).elim) (by simpa using zr)
  have told : d_different_rows [.lst (rows.map D.lst)] = some (.newR (due rows [])) := by
    show (if (rows.map D.lst).length < 63 then (ZN.distF d_row_rank (rows.map D.lst) [] []).map FR.newR else none) = _
    rw [if_pos (by rw [List.length_map]; omega), dist_due rows [] [] (fun r m => ⟨(gr r m).1, Nat.le_trans (gr r m).2 (by decide)⟩) (fun _ h => (List.not_mem_nil h).elim) (fun k => by simp)]
    rfl
  have gd : ∀ r ∈ due rows [], GR r := due_in gr fun _ h => (List.not_mem_nil h).elim
  have zX : (due rows []).length ≤ 12 := Nat.le_trans (due_len rows []) (by simpa using zr)
  generalize due rows [] = X at *
  generalize rows.map D.lst = RL at *
  generalize X.map keyT = SN at *
  have lp3 : forL (gN 3) lb_law_3 (rgD 0 X.length) (LC ns (L.map D.int) RL .un (.str kept) SN (X.map D.lst) X) = some (.nx, LC ns (L.map D.int) RL .un (.str kept) SN (X.map D.lst) X) := forL_all fun d hd => by
    obtain ⟨i, hi⟩ := List.getElem?_of_mem hd
    obtain ⟨h2, rfl⟩ := rgD_at hi
    exact ⟨_, rfl, told_turn ns (L.map D.int) RL (.str kept) SN X gd i h2⟩
  have lX : (X.map D.lst).length = X.length := List.length_map _
  generalize L.map D.int = NS at *
  unfold d_law b_law
  refine runP_ap (g := [.dat (scriptD ns), .un, .un, .un, .un, .un, .un, .un, .un, .un, .un, .un, .un, .un, .un]) rfl rfl ?_
  refine seq_nx (g1 := [.dat (scriptD ns), .own (.lst NS) false false, .un, .un, .un, .un, .un, .un, .un, .un, .un, .un, .un, .un, .un]) (set_own (er_callL (ds := [scriptD ns, .int 26]) (er_cons rfl (er_cons er_C er_nil)) hL) (Nat.le_of_ble_eq_true rfl) rfl rfl rfl) ?_
  refine seq_nx (g1 := LA ns NS [] .un .un .un .un) (set_own (er_lst er_nil rfl (Nat.le_of_ble_eq_true rfl)) (Nat.le_of_ble_eq_true rfl) rfl rfl rfl) ?_
  refine seq_nx (g1 := LA ns NS RL .un .un .un .un) (fgB_run rfl rfl (for_run (mi_R1 (k := (m : Int)) (er_cons (by rw [hm]; exact er_op (er_callS (er_cons (er_ix (er_varO rfl) er_C rfl x0) er_nil) rfl rfl rfl) er_C rfl rfl (dr_mod (by decide)) rfl) er_nil) (rgOk_of (by omega) (by omega))) rfl (by rw [Int.toNat_natCast]; exact lp1))) ?_
  refine seq_nx (g1 := [.dat (scriptD ns), .own (.lst NS) false false, .own (.lst RL) false false, .un, .dat (.str kept), .un, .un, .un, .un, .un, .un, .un, .un, .un, .un]) (set_dat (er_callS (ds := [.lst RL]) (er_cons rfl er_nil) rfl hrep rfl) rfl rfl) ?_
  refine seq_nx (g1 := [.dat (scriptD ns), .own (.lst NS) false false, .own (.lst RL) false false, .un, .dat (.str kept), .own (.lst []) false false, .un, .un, .un, .un, .un, .un, .un, .un, .un]) (set_own (er_lst er_nil rfl (Nat.le_of_ble_eq_true rfl)) (Nat.le_of_ble_eq_true rfl) rfl rfl rfl) ?_
  refine seq_nx (g1 := [.dat (scriptD ns), .own (.lst NS) false false, .own (.lst RL) false false, .un, .dat (.str kept), .own (.lst []) false false, .own (.lst []) false false, .un, .un, .un, .un, .un, .un, .un, .un]) (set_own (er_lst er_nil rfl (Nat.le_of_ble_eq_true rfl)) (Nat.le_of_ble_eq_true rfl) rfl rfl rfl) ?_
  refine seq_nx (g1 := [.dat (scriptD ns), .own (.lst NS) false false, .own (.lst RL) false false, .un, .dat (.str kept), .own (.lst SN) false false, .own (.lst (X.map D.lst)) false false, .un, .un, .un, .un, .un, .un, .un, .un]) (fgB_run rfl rfl (for_lock (j := 2) (p := false) (l := false) (mi_Lb (er_varO rfl) (Nat.le_of_ble_eq_true rfl) rfl) rfl rfl rfl lp2 rfl)) ?_
  have ct : zCall d_different_rows (zCons (zVar 2) (zNil)) [.dat (scriptD ns), .own (.lst NS) false false, .own (.lst RL) false false, .un, .dat (.str kept), .own (.lst SN) false false, .own (.lst (X.map D.lst)) false false, .un, .un, .un, .un, .un, .un, .un, .un] =
      some (.bor 15, [.dat (scriptD ns), .own (.lst NS) false false, .frz (.lst RL), .un, .dat (.str kept), .own (.lst SN) false false, .own (.lst (X.map D.lst)) false false, .un, .un, .un, .un, .un, .un, .un, .un] ++ [.rws X]) :=
    er_callR (g1 := [.dat (scriptD ns), .own (.lst NS) false false, .own (.lst RL) false false, .un, .dat (.str kept), .own (.lst SN) false false, .own (.lst (X.map D.lst)) false false, .un, .un, .un, .un, .un, .un, .un, .un]) (g2 := [.dat (scriptD ns), .own (.lst NS) false false, .frz (.lst RL), .un, .dat (.str kept), .own (.lst SN) false false, .own (.lst (X.map D.lst)) false false, .un, .un, .un, .un, .un, .un, .un, .un]) (rs := [.bor 2]) (ds := [.lst RL]) (er_cons rfl er_nil) rfl rfl told
  refine seq_nx (g1 := LC ns NS RL .un (.str kept) SN (X.map D.lst) X) (set_rws (t := 15) (ls := X) ct (Nat.le_of_ble_eq_true rfl) rfl rfl rfl) ?_
  have il : isiD [.lst (X.map D.lst), .raw (.ty "list")] = some (.bl true) := isi_of rfl kb_list_list
  have n0 : neqD (.int ((X.map D.lst).length : Nat)) (.int ((X.map D.lst).length : Nat)) = some (.bl false) := by rw [dr_neI]; simp
  have t0 : zOrT (zNotT (zTru (zCallS isiD (zCons (zVar 8) (zCons (zC (.raw (.ty "list"))) (zNil)))))) (zTst (zOp neqD (zCallS lenD (zCons (zVar 8) (zNil))) (zCallS lenD (zCons (zVar 6) (zNil))))) (LC ns NS RL .un (.str kept) SN (X.map D.lst) X) = some (false, LC ns NS RL .un (.str kept) SN (X.map D.lst) X) :=
    er_orT (b1 := false) (b2 := false) (er_notT (b := true) (er_tru (er_callS (er_cons rfl (er_cons er_C er_nil)) rfl il rfl) rfl rfl)) (fun _ => er_tst (er_op (er_callS (er_cons rfl er_nil) rfl rfl rfl) (er_callS (er_cons rfl er_nil) rfl rfl rfl) rfl rfl n0 rfl))
  refine sr_if (g2 := LC ns NS RL .un (.str kept) SN (X.map D.lst) X) t0 rfl (fun q => by cases q) (fun _ => sr_nx ?_)
  refine seq_nx (g1 := LC ns NS RL .un (.str kept) SN (X.map D.lst) X) (fgB_run rfl rfl (for_run (mi_R1 (k := ((X.length : Nat) : Int)) (er_cons (er_callS (z := .int (X.length : Nat)) (er_cons rfl er_nil) rfl (by rw [← lX]; rfl) rfl) er_nil) (rgOk_of (by omega) (by omega))) rfl (by rw [Int.toNat_natCast]; exact lp3))) ?_
  refine seq_nx (g1 := LC ns NS RL .un (.str kept) SN (X.map D.lst) (X.map (· ++ [.non]))) (forApp_run (ls := X) rfl (by decide) rfl (fun l m => Nat.lt_of_le_of_lt (gd l m).2 (by decide)) rfl) ?_
  have eq : eqD (.str kept) (.str kept) = some (.bl true) := by
    show some (D.bl (kept == kept)) = _
    rw [beq_self_eq_true]
  exact sr_ret (er_op (er_callS (ds := [.lst RL]) (er_cons rfl er_nil) rfl hrep rfl) rfl rfl rfl eq rfl) rfl
end Qk16
set_option Elab.async false
set_option linter.all false
set_option maxRecDepth 100000
set_option maxHeartbeats 4000000
namespace Qk16
open PySem PySem.Spec PyProof.Rows L2 Z
theorem all_mk {P : Program} {w : World} {K : PySem.W.Frag} {h : Heap} {mg : Str → Option Value} {fa : Addr} (X : K.In h) (G : h.Ns mainGlobals mg) (hfa : mg "law" = some (.ref fa))
    {od0 an0 : Option Addr} {sl0 : Array (Option Value)} {oc0 kV0 dc0 pm0 cd0 ct0 : Value} {f0 : Addr}
    (a0 : PySem.W.nsIn K mainGlobals "_law_numbers" = some (some (.ref f0))) (l0 : K.lookup f0 = some ⟨oc0, od0, .func (PySem.W.fnOf "_law_numbers" "_law_numbers" (defArgs st__law_numbers) (defBody st__law_numbers) (defScope st__law_numbers) .none kV0 dc0 pm0 an0 cd0 ct0), sl0⟩) (e0 : PySem.W.codeIn K cd0 "_law_numbers" = true) (k0 : PySem.W.keepIn K (.ref f0) = true)
    {od1 an1 : Option Addr} {sl1 : Array (Option Value)} {oc1 kV1 dc1 pm1 cd1 ct1 : Value} {f1 : Addr}
    (a1 : PySem.W.nsIn K mainGlobals "rank" = some (some (.ref f1))) (l1 : K.lookup f1 = some ⟨oc1, od1, .func (PySem.W.fnOf "rank" "rank" (defArgs st_rank) (defBody st_rank) (defScope st_rank) .none kV1 dc1 pm1 an1 cd1 ct1), sl1⟩) (e1 : PySem.W.codeIn K cd1 "rank" = true) (k1 : PySem.W.keepIn K (.ref f1) = true)
    {od2 an2 : Option Addr} {sl2 : Array (Option Value)} {oc2 kV2 dc2 pm2 cd2 ct2 : Value} {f2 : Addr}
    (a2 : PySem.W.nsIn K mainGlobals "row_rank" = some (some (.ref f2))) (l2 : K.lookup f2 = some ⟨oc2, od2, .func (PySem.W.fnOf "row_rank" "row_rank" (defArgs st_row_rank) (defBody st_row_rank) (defScope st_row_rank) .none kV2 dc2 pm2 an2 cd2 ct2), sl2⟩) (e2 : PySem.W.codeIn K cd2 "row_rank" = true) (k2 : PySem.W.keepIn K (.ref f2) = true)
    {od3 an3 : Option Addr} {sl3 : Array (Option Value)} {oc3 kV3 dc3 pm3 cd3 ct3 : Value} {f3 : Addr}
    (a3 : PySem.W.nsIn K mainGlobals "different_rows" = some (some (.ref f3))) (l3 : K.lookup f3 = some ⟨oc3, od3, .func (PySem.W.fnOf "different_rows" "different_rows" (defArgs st_different_rows) (defBody st_different_rows) (defScope st_different_rows) .none kV3 dc3 pm3 an3 cd3 ct3), sl3⟩) (e3 : PySem.W.codeIn K cd3 "different_rows" = true) (k3 : PySem.W.keepIn K (.ref f3) = true)
    {od4 an4 : Option Addr} {sl4 : Array (Option Value)} {oc4 kV4 dc4 pm4 cd4 ct4 : Value} {f4 : Addr}
    (a4 : PySem.W.nsIn K mainGlobals "_law_rank" = some (some (.ref f4))) (l4 : K.lookup f4 = some ⟨oc4, od4, .func (PySem.W.fnOf "_law_rank" "_law_rank" (defArgs st__law_rank) (defBody st__law_rank) (defScope st__law_rank) .none kV4 dc4 pm4 an4 cd4 ct4), sl4⟩) (e4 : PySem.W.codeIn K cd4 "_law_rank" = true) (k4 : PySem.W.keepIn K (.ref f4) = true)
    {od5 an5 : Option Addr} {sl5 : Array (Option Value)} {oc5 kV5 dc5 pm5 cd5 ct5 : Value} {f5 : Addr}
    (a5 : PySem.W.nsIn K mainGlobals "_law_is_list" = some (some (.ref f5))) (l5 : K.lookup f5 = some ⟨oc5, od5, .func (PySem.W.fnOf "_law_is_list" "_law_is_list" (defArgs st__law_is_list) (defBody st__law_is_list) (defScope st__law_is_list) .none kV5 dc5 pm5 an5 cd5 ct5), sl5⟩) (e5 : PySem.W.codeIn K cd5 "_law_is_list" = true) (k5 : PySem.W.keepIn K (.ref f5) = true)
    {od6 an6 : Option Addr} {sl6 : Array (Option Value)} {oc6 kV6 dc6 pm6 cd6 ct6 : Value} {f6 : Addr}
    (a6 : PySem.W.nsIn K mainGlobals "_law_text" = some (some (.ref f6))) (l6 : K.lookup f6 = some ⟨oc6, od6, .func (PySem.W.fnOf "_law_text" "_law_text" (defArgs st__law_text) (defBody st__law_text) (defScope st__law_text) .none kV6 dc6 pm6 an6 cd6 ct6), sl6⟩) (e6 : PySem.W.codeIn K cd6 "_law_text" = true) (k6 : PySem.W.keepIn K (.ref f6) = true)
    {od7 an7 : Option Addr} {sl7 : Array (Option Value)} {oc7 kV7 dc7 pm7 cd7 ct7 : Value} {f7 : Addr}
    (a7 : PySem.W.nsIn K mainGlobals "_law_value" = some (some (.ref f7))) (l7 : K.lookup f7 = some ⟨oc7, od7, .func (PySem.W.fnOf "_law_value" "_law_value" (defArgs st__law_value) (defBody st__law_value) (defScope st__law_value) .none kV7 dc7 pm7 an7 cd7 ct7), sl7⟩) (e7 : PySem.W.codeIn K cd7 "_law_value" = true) (k7 : PySem.W.keepIn K (.ref f7) = true)
    {od8 an8 : Option Addr} {sl8 : Array (Option Value)} {oc8 kV8 dc8 pm8 cd8 ct8 : Value} {f8 : Addr}
    (a8 : PySem.W.nsIn K mainGlobals "_law_twin" = some (some (.ref f8))) (l8 : K.lookup f8 = some ⟨oc8, od8, .func (PySem.W.fnOf "_law_twin" "_law_twin" (defArgs st__law_twin) (defBody st__law_twin) (defScope st__law_twin) .none kV8 dc8 pm8 an8 cd8 ct8), sl8⟩) (e8 : PySem.W.codeIn K cd8 "_law_twin" = true) (k8 : PySem.W.keepIn K (.ref f8) = true)
    {od9 an9 : Option Addr} {sl9 : Array (Option Value)} {oc9 kV9 dc9 pm9 cd9 ct9 : Value} {f9 : Addr}
    (a9 : PySem.W.nsIn K mainGlobals "law" = some (some (.ref f9))) (l9 : K.lookup f9 = some ⟨oc9, od9, .func (PySem.W.fnOf "law" "law" (defArgs st_law) (defBody st_law) (defScope st_law) .none kV9 dc9 pm9 an9 cd9 ct9), sl9⟩) (e9 : PySem.W.codeIn K cd9 "law" = true) (k9 : PySem.W.keepIn K (.ref f9) = true)
    (z_bool : PySem.W.nsIn K mainGlobals "bool" = some none)
    (z_int : PySem.W.nsIn K mainGlobals "int" = some none)
    (z_isinstance : PySem.W.nsIn K mainGlobals "isinstance" = some none)
    (z_len : PySem.W.nsIn K mainGlobals "len" = some none)
    (z_list : PySem.W.nsIn K mainGlobals "list" = some none)
    (z_range : PySem.W.nsIn K mainGlobals "range" = some none)
    (z_repr : PySem.W.nsIn K mainGlobals "repr" = some none)
    (z_set : PySem.W.nsIn K mainGlobals "set" = some none)
    (z_str : PySem.W.nsIn K mainGlobals "str" = some none)
    (z_tuple : PySem.W.nsIn K mainGlobals "tuple" = some none) :
    ∃ fd : FuncData, (∀ (s : Shared) (v : Value), BindsTo s fd ⟨[v], []⟩ [("_law_script", v)]) ∧ ∀ base : Heap, K.In base → base.Ns mainGlobals mg → base.NoDigits → FnA P w K mg base callerA fa fd ["_law_script"] (spP K d_law) := by
  have D__law_numbers : DefAt K mg "_law_numbers" st__law_numbers := ⟨f0, _, PySem.W.mg_of X G a0, fun_mk (st := st__law_numbers) l0 e0 k0⟩
  have D_rank : DefAt K mg "rank" st_rank := ⟨f1, _, PySem.W.mg_of X G a1, fun_mk (st := st_rank) l1 e1 k1⟩
  have D_row_rank : DefAt K mg "row_rank" st_row_rank := ⟨f2, _, PySem.W.mg_of X G a2, fun_mk (st := st_row_rank) l2 e2 k2⟩
  have D_different_rows : DefAt K mg "different_rows" st_different_rows := ⟨f3, _, PySem.W.mg_of X G a3, fun_mk (st := st_different_rows) l3 e3 k3⟩
  have D__law_rank : DefAt K mg "_law_rank" st__law_rank := ⟨f4, _, PySem.W.mg_of X G a4, fun_mk (st := st__law_rank) l4 e4 k4⟩
  have D__law_is_list : DefAt K mg "_law_is_list" st__law_is_list := ⟨f5, _, PySem.W.mg_of X G a5, fun_mk (st := st__law_is_list) l5 e5 k5⟩
  have D__law_text : DefAt K mg "_law_text" st__law_text := ⟨f6, _, PySem.W.mg_of X G a6, fun_mk (st := st__law_text) l6 e6 k6⟩
  have D__law_value : DefAt K mg "_law_value" st__law_value := ⟨f7, _, PySem.W.mg_of X G a7, fun_mk (st := st__law_value) l7 e7 k7⟩
  have D__law_twin : DefAt K mg "_law_twin" st__law_twin := ⟨f8, _, PySem.W.mg_of X G a8, fun_mk (st := st__law_twin) l8 e8 k8⟩
  have D_law : DefAt K mg "law" st_law := ⟨f9, _, PySem.W.mg_of X G a9, fun_mk (st := st_law) l9 e9 k9⟩
  have m_bool : mg "bool" = none := PySem.W.mg_none_of X G z_bool
  have m_int : mg "int" = none := PySem.W.mg_none_of X G z_int
  have m_isinstance : mg "isinstance" = none := PySem.W.mg_none_of X G z_isinstance
  have m_len : mg "len" = none := PySem.W.mg_none_of X G z_len
  have m_list : mg "list" = none := PySem.W.mg_none_of X G z_list
  have m_range : mg "range" = none := PySem.W.mg_none_of X G z_range
  have m_repr : mg "repr" = none := PySem.W.mg_none_of X G z_repr
  have m_set : mg "set" = none := PySem.W.mg_none_of X G z_set
  have m_str : mg "str" = none := PySem.W.mg_none_of X G z_str
  have m_tuple : mg "tuple" = none := PySem.W.mg_none_of X G z_tuple
  refine ⟨PySem.W.fnOf "law" "law" (defArgs st_law) (defBody st_law) (defScope st_law) .none kV9 dc9 pm9 an9 cd9 ct9, fun s v => .of_eq rfl, fun base _ _ hnd => ?_⟩
  have c__law_numbers := ok__law_numbers (P := P) (w := w) (base := base) D__law_numbers m_int m_len m_range
  have c_rank := ok_rank (P := P) (w := w) (base := base) D_rank m_bool m_int m_isinstance
  have c_row_rank := ok_row_rank (P := P) (w := w) (base := base) D_row_rank m_tuple c_rank
  have c_different_rows := ok_different_rows (P := P) (w := w) (base := base) D_different_rows m_list m_set c_row_rank
  have c__law_rank := ok__law_rank (P := P) (w := w) (base := base) D__law_rank m_isinstance m_str
  have c__law_is_list := ok__law_is_list (P := P) (w := w) (base := base) D__law_is_list m_isinstance m_len m_list m_range c__law_rank
  have c__law_text := ok__law_text (P := P) (w := w) (base := base) D__law_text m_int m_range
  have c__law_value := ok__law_value (P := P) (w := w) (base := base) D__law_value m_int c__law_text
  have c__law_twin := ok__law_twin (P := P) (w := w) (base := base) D__law_twin m_int m_isinstance
  cases hfa.symm.trans (PySem.W.mg_of X G a9)
  exact ok_law (P := P) (w := w) (base := base) (fun_mk (st := st_law) l9 e9 k9) m_int m_isinstance m_len m_list m_range m_repr m_tuple c__law_numbers c_different_rows c__law_is_list c__law_rank c__law_value c__law_twin
end Qk16
open PySem PySem.W PyProof.Rows
set_option maxHeartbeats 0 in
theorem PySem.Challenge.cw_stylobate_k16_different_rows_and_limits_holds : PySem.Challenge.rw_stylobate_k16_different_rows_and_limits.Holds := by
  w_on
  refine headZ ?_
  k_fill
  refine Z.walk_ofA (l := PySem.Challenge.rw_stylobate_k16_different_rows_and_limits) (n := 63) (x := "_law_script") (f := Qk16.d_law) rfl (by decide) rfl (fun w h Y => PySem.W.kIn_of Y) ?F (fun ns hl => Qk16.law_true ns hl)
  case F =>
    intro w mg fa h KX G hmg
    refine' Qk16.all_mk KX G hmg ?a0 ?l0 ?e0 ?k0 ?a1 ?l1 ?e1 ?k1 ?a2 ?l2 ?e2 ?k2 ?a3 ?l3 ?e3 ?k3 ?a4 ?l4 ?e4 ?k4 ?a5 ?l5 ?e5 ?k5 ?a6 ?l6 ?e6 ?k6 ?a7 ?l7 ?e7 ?k7 ?a8 ?l8 ?e8 ?k8 ?a9 ?l9 ?e9 ?k9 ?z_bool ?z_int ?z_isinstance ?z_len ?z_list ?z_range ?z_repr ?z_set ?z_str ?z_tuple
    (case a0 => k_is); (case l0 => k_is); (case e0 => k_is); (case k0 => k_is); (case a1 => k_is); (case l1 => k_is); (case e1 => k_is); (case k1 => k_is); (case a2 => k_is); (case l2 => k_is); (case e2 => k_is); (case k2 => k_is); (case a3 => k_is); (case l3 => k_is); (case e3 => k_is); (case k3 => k_is); (case a4 => k_is); (case l4 => k_is); (case e4 => k_is); (case k4 => k_is); (case a5 => k_is); (case l5 => k_is); (case e5 => k_is); (case k5 => k_is); (case a6 => k_is); (case l6 => k_is); (case e6 => k_is); (case k6 => k_is); (case a7 => k_is); (case l7 => k_is); (case e7 => k_is); (case k7 => k_is); (case a8 => k_is); (case l8 => k_is); (case e8 => k_is); (case k8 => k_is); (case a9 => k_is); (case l9 => k_is); (case e9 => k_is); (case k9 => k_is); (case z_bool => k_is); (case z_int => k_is); (case z_isinstance => k_is); (case z_len => k_is); (case z_list => k_is); (case z_range => k_is); (case z_repr => k_is); (case z_set => k_is); (case z_str => k_is); (case z_tuple => k_is)
#print axioms PySem.Challenge.cw_stylobate_k16_different_rows_and_limits_holds
