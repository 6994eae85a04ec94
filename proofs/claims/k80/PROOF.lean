import PyProof.Rows.All
import Wide.All
import OpenK.AllK
import Wide.FinOn
import HandS.ForMost
import HandS.Style
import HandS.IsInst
import HandS.Wide
import HandS.Deep
import PyProof.Rows.EqBoolInt
import HandS.WideBits
import HandS.TupAny
import HandS.Comp
import HandS.Iter
import HandS.Replace
import PyProof.ReprRoads
import PyProof.ReprLen
import PyProof.StrBlock2
import HandS.TupLe
import HandS.FStr
import HandS.Small
import KE.KxField
import KE.IntTextLaws
import HandS.StrMore
import HandS.RaiseMore
import HandS.Codes
import PyProof.Rows.StrFirst
import HandS.Dict
import KE.KTab
import PyProof.Rows.StrDigitsNeg
import HandS.SetFor
import HandS.Strs
import HandS.IterVal
import KE.KSortKey
import HandS.SortOrd
import HandS.SortKw
import KE.KeyNested
import HandS.TupSets
import HandS.SetKeys
import HandS.More
import HandS.Flt
import HandS.Conv
import PySem.Challenge.RW_stylobate_k80_records_and_fields
set_option Elab.async false
set_option linter.all false
set_option maxRecDepth 100000 in
set_option maxHeartbeats 0 in
open_top headZ for PySem.Challenge.rw_stylobate_k80_records_and_fields
set_option Elab.async false
set_option linter.all false
set_option maxRecDepth 100000
set_option maxHeartbeats 4000000
namespace Z
open PySem PySem.Spec PyProof.Rows L2
inductive D where
  | non | bl (b : Bool) | int (i : Int) | str (s : List Nat) | tup (l : List D) | lst (l : List D) | raw (v : V) | dic (ks : List (List Nat)) (vs : List D) | obj (c : Str) (fs : List Str) (ds : List D)
  deriving Inhabited
/-- a text as a dict's key -/
def kS (s : List Nat) : Key := .inr ⟨s.toArray⟩
mutual
inductive Dz (K : PySem.W.Frag) (H : Hp) : V → D → Prop
  | non : Dz K H .non .non
  | bl (b : Bool) : Dz K H (.bl b) (.bl b)
  | int (i : Int) : Dz K H (.int i) (.int i)
  | str (s : List Nat) : Dz K H (.str ⟨s.toArray⟩) (.str s)
  | tup {a : Addr} {xs : List V} {ds : List D} : SqT K H a xs → DzA K H xs ds → Dz K H (.ref a) (.tup ds)
  | lst {a : Addr} {xs : List V} {ds : List D} : SqL K H a xs → DzA K H xs ds → Dz K H (.ref a) (.lst ds)
  | raw (v : V) : Dz K H v (.raw v)
  | dic {a : Addr} {ks : List (List Nat)} {xs : List V} {ds : List D} : H a = some (.dK ((ks.map kS).zip xs)) → ks.length = xs.length → DzA K H xs ds → Dz K H (.ref a) (.dic ks ds)
  | obj {a C dx : Addr} {c : Str} {fs : List Str} {xs : List V} {ds : List D} : PySem.W.nsIn K mainGlobals c = some (some (.ref C)) → H a = some (.ins C dx (fs.zip xs)) → fs.length = xs.length → DzA K H xs ds → Dz K H (.ref a) (.obj c fs ds)
inductive DzA (K : PySem.W.Frag) (H : Hp) : List V → List D → Prop
  | nil : DzA K H [] []
  | cons {v : V} {vs : List V} {d : D} {ds : List D} : Dz K H v d → DzA K H vs ds → DzA K H (v :: vs) (d :: ds)
end
theorem sameT {K : PySem.W.Frag} {H H' : Hp} {a : Addr} {xs : List V} (e : Same H H') (h : SqT K H a xs) : SqT K H' a xs := by
  rcases h with (h | ⟨o, h⟩) | h
  · exact .inl (.inl (e _ _ h))
  · exact .inl (.inr ⟨o, e _ _ h⟩)
  · exact .inr h
section
variable {K : PySem.W.Frag} {H H' : Hp}
mutual
theorem Dz.mono (e : Same H H') : ∀ {v : V} {d : D}, Dz K H v d → Dz K H' v d
  | _, _, .non => .non
  | _, _, .bl b => .bl b
  | _, _, .int i => .int i
  | _, _, .str s => .str s
  | _, _, .tup s a => .tup (sameT e s) (DzA.mono e a)
  | _, _, .lst s a => .lst (e.seq s) (DzA.mono e a)
  | _, _, .raw v => .raw v
  | _, _, .dic s n a => .dic (e _ _ s) n (DzA.mono e a)
  | _, _, .obj k s n a => .obj k (e _ _ s) n (DzA.mono e a)
theorem DzA.mono (e : Same H H') : ∀ {vs : List V} {ds : List D}, DzA K H vs ds → DzA K H' vs ds
  | _, _, .nil => .nil
  | _, _, .cons h t => .cons (Dz.mono e h) (DzA.mono e t)
end
theorem DzA.length : ∀ {vs : List V} {ds : List D}, DzA K H vs ds → vs.length = ds.length
  | _, _, .nil => rfl
  | _, _, .cons _ t => by rw [List.length_cons, List.length_cons, DzA.length t]
theorem DzA.get : ∀ {vs : List V} {ds : List D} {i : Nat} {d : D}, DzA K H vs ds → ds[i]? = some d → ∃ v, vs[i]? = some v ∧ Dz K H v d
  | _, _, _, _, .nil, e => by simp at e
  | _, _, 0, _, .cons h _, e => by simp at e; subst e; exact ⟨_, rfl, h⟩
  | _, _, i + 1, d, .cons _ t, e => by
    obtain ⟨v, h1, h2⟩ := DzA.get (i := i) t (by simpa using e)
    exact ⟨v, by simpa using h1, h2⟩
theorem DzA.append : ∀ {vs ws : List V} {ds es : List D}, DzA K H vs ds → DzA K H ws es → DzA K H (vs ++ ws) (ds ++ es)
  | _, _, _, _, .nil, s => s
  | _, _, _, _, .cons h t, s => .cons h (DzA.append t s)
theorem DzA.take : ∀ {vs : List V} {ds : List D} (n : Nat), DzA K H vs ds → DzA K H (vs.take n) (ds.take n)
  | _, _, 0, _ => .nil
  | _, _, _ + 1, .nil => .nil
  | _, _, n + 1, .cons h t => .cons h (DzA.take n t)
theorem DzA.drop : ∀ {vs : List V} {ds : List D} (n : Nat), DzA K H vs ds → DzA K H (vs.drop n) (ds.drop n)
  | _, _, 0, r => r
  | _, _, _ + 1, .nil => .nil
  | _, _, n + 1, .cons _ t => DzA.drop n t
theorem DzA.set {v : V} {d : D} (r : Dz K H v d) : ∀ {vs : List V} {ds : List D} (i : Nat), DzA K H vs ds → DzA K H (vs.set i v) (ds.set i d)
  | _, _, _, .nil => .nil
  | _, _, 0, .cons _ t => .cons r t
  | _, _, i + 1, .cons q t => .cons q (DzA.set r i t)
end
/-- no reference within: true in any heap -/
def D.scal : D → Bool
  | .non => true | .bl _ => true | .int _ => true | .str _ => true | .raw _ => true
  | _ => false
theorem Dz.any {K : PySem.W.Frag} {H H' : Hp} {v : V} {d : D} (s : d.scal = true) (h : Dz K H v d) : Dz K H' v d := by
  cases h with
  | non => exact .non
  | bl b => exact .bl b
  | int i => exact .int i
  | str z => exact .str z
  | raw v => exact .raw v
  | dic _ _ _ => exact absurd s (by simp [D.scal])
  | obj _ _ _ _ => exact absurd s (by simp [D.scal])
  | tup _ _ => exact absurd s (by simp [D.scal])
  | lst _ _ => exact absurd s (by simp [D.scal])
theorem DzA.any {K : PySem.W.Frag} {H H' : Hp} : ∀ {vs : List V} {ds : List D}, ds.all D.scal = true → DzA K H vs ds → DzA K H' vs ds
  | _, _, _, .nil => .nil
  | _, _, s, .cons h t => by
    rw [List.all_cons, Bool.and_eq_true] at s
    exact .cons (h.any s.1) (DzA.any s.2 t)
/-- what a container of the def's own holds -/
inductive Cn where
  | lst (l : List D)
  deriving Inhabited
def CnOk (K : PySem.W.Frag) (Hs : Hp) : Cn → HO → Prop
  | .lst ds, .lst vs => DzA K Hs vs ds
  | _, _ => False
def Cn.d : Cn → D
  | .lst l => .lst l
def Cn.scal : Cn → Bool
  | .lst l => l.all D.scal
theorem CnOk.mono {K : PySem.W.Frag} {H H' : Hp} (e : Same H H') {c : Cn} {o : HO} (h : CnOk K H c o) : CnOk K H' c o := by
  cases c with
  | lst l =>
    cases o with
    | lst vs => exact DzA.mono e (show DzA K H vs l from h)
    | _ => exact (show False from h).elim
theorem CnOk.any {K : PySem.W.Frag} {H H' : Hp} {c : Cn} {o : HO} (s : c.scal = true) (h : CnOk K H c o) : CnOk K H' c o := by
  cases c with
  | lst l =>
    cases o with
    | lst vs => exact DzA.any s (show DzA K H vs l from h)
    | _ => exact (show False from h).elim
theorem CnOk.dz {K : PySem.W.Frag} {H : Hp} {c : Cn} {o : HO} {a : Addr} (h : CnOk K H c o) (e : H a = some o) : Dz K H (.ref a) c.d := by
  cases c with
  | lst l =>
    cases o with
    | lst vs => exact .lst (SqL.of e) (show DzA K H vs l from h)
    | _ => exact (show False from h).elim
/-- a slot: nothing known; data; a container of the def's own (pin: a parameter's; lock: walked now); a container that is data from now on -/
inductive Sl where
  | un | dat (d : D) | own (c : Cn) (pin lock : Bool) | frz (d : D) | rws (l : List (List D))
  deriving Inhabited
/-- an expression's value: data, or the container at a slot -/
inductive R where
  | dat (d : D) | bor (j : Nat)
  deriving Inhabited
/-- of a def: its names' number, the heap and the known heap at the entry, its parameters that it may change -/
structure Ct where
  K : PySem.W.Frag
  n : Nat
  H0 : Hp
  Hs0 : Hp
  pins : List (Nat × Addr)
  locks : List (Nat × Addr × Cn)
  plt : ∀ q ∈ pins, q.1 < n
  llt : ∀ q ∈ locks, q.1 < n
def kidsOf : Option HO → List Addr
  | some (.lst vs) => vs.filterMap fun v => match v with
    | .ref b => some b
    | _ => none
  | _ => []
theorem kidsOf_refs (ks : List Addr) : kidsOf (some (.lst (ks.map V.ref))) = ks := by
  show (ks.map V.ref).filterMap _ = ks
  induction ks with
  | nil => rfl
  | cons k ks ih => rw [List.map_cons, List.filterMap_cons]; simp only; rw [ih]
def KdOk (K : PySem.W.Frag) (Hs H : Hp) : List Addr → List (List D) → Prop
  | [], [] => True
  | b :: bs, l :: ls => (∃ us, H b = some (.lst us) ∧ DzA K Hs us l) ∧ KdOk K Hs H bs ls
  | _, _ => False
theorem KdOk.live {K : PySem.W.Frag} {Hs H : Hp} : ∀ {ks : List Addr} {ls : List (List D)}, KdOk K Hs H ks ls → ∀ x ∈ ks, ∃ o, H x = some o
  | [], [], _, _, m => (List.not_mem_nil m).elim
  | b :: bs, l :: ls, h, x, m => by
    rcases List.mem_cons.mp m with rfl | m
    · obtain ⟨us, e, _⟩ := h.1
      exact ⟨_, e⟩
    · exact KdOk.live h.2 x m
  | [], _ :: _, h, _, _ => h.elim
  | _ :: _, [], h, _, _ => h.elim
theorem KdOk.move {K : PySem.W.Frag} {Hs Hs' H H' : Hp} (s : Same Hs Hs') : ∀ {ks : List Addr} {ls : List (List D)}, KdOk K Hs H ks ls → (∀ x ∈ ks, ∀ o, H x = some o → H' x = some o) → KdOk K Hs' H' ks ls
  | [], [], _, _ => trivial
  | b :: bs, l :: ls, h, m => by
    obtain ⟨us, e, z⟩ := h.1
    exact ⟨⟨us, m b List.mem_cons_self _ e, z.mono s⟩, KdOk.move s h.2 fun x hx => m x (List.mem_cons_of_mem _ hx)⟩
  | [], _ :: _, h, _ => h.elim
  | _ :: _, [], h, _ => h.elim
/-- as data -/
theorem KdOk.dz {K : PySem.W.Frag} {Hs H : Hp} (s : Same Hs H) : ∀ {ks : List Addr} {ls : List (List D)}, KdOk K Hs H ks ls → DzA K H (ks.map V.ref) (ls.map D.lst)
  | [], [], _ => .nil
  | b :: bs, l :: ls, h => by
    obtain ⟨us, e, z⟩ := h.1
    exact .cons (.lst (SqL.of e) (z.mono s)) (KdOk.dz s h.2)
  | [], _ :: _, h => h.elim
  | _ :: _, [], h => h.elim
structure Kd (K : PySem.W.Frag) (Hs H0 H : Hp) (a : Addr) (ks : List Addr) (ls : List (List D)) : Prop where
  hd : H a = some (.lst (ks.map V.ref))
  nd : (a :: ks).Nodup
  fr : ∀ x ∈ a :: ks, Hs x = none ∧ H0 x = none
  kd : KdOk K Hs H ks ls
theorem Kd.live {K : PySem.W.Frag} {Hs H0 H : Hp} {a : Addr} {ks : List Addr} {ls : List (List D)} (k : Kd K Hs H0 H a ks ls) : ∀ x ∈ a :: ks, ∃ o, H x = some o := fun x m => by
  rcases List.mem_cons.mp m with rfl | m
  · exact ⟨_, k.hd⟩
  · exact k.kd.live x m
def RwOk (C : Ct) (Hs : Hp) (A : List Addr) (g : List Sl) (σ : L2.St) (H : Hp) : Prop := ∀ (i : Nat) (ls : List (List D)), g[i]? = some (.rws ls) → ∃ a ks, A[i]? = some a ∧ (i < C.n → σ[i]? = some (some (.ref a))) ∧ Kd C.K Hs C.H0 H a ks ls ∧
  (∀ (j : Nat) (c : Cn) (p l : Bool) (b : Addr), g[j]? = some (.own c p l) → A[j]? = some b → b ∉ a :: ks) ∧
  (∀ (j : Nat) (ms : List (List D)) (b x : Addr), g[j]? = some (.rws ms) → A[j]? = some b → x ∈ b :: kidsOf (H b) → x ∈ a :: ks → j = i)
theorem RwOk.step {C C' : Ct} {Hs Hs' : Hp} {A A' : List Addr} {g g' : List Sl} {σ σ' : L2.St} {H H' : Hp} (w : RwOk C Hs A g σ H) (hK : C'.K = C.K) (hn : C'.n = C.n) (s : Same Hs Hs')
    (hx : ∀ x o, H x = some o → Hs x = none → C.H0 x = none → (∀ (j : Nat) (c : Cn) (p l : Bool), g[j]? = some (.own c p l) → A[j]? ≠ some x) → H' x = some o ∧ Hs' x = none ∧ C'.H0 x = none)
    (hg : ∀ (i : Nat) (ls : List (List D)), g'[i]? = some (.rws ls) → g[i]? = some (.rws ls) ∧ A'[i]? = A[i]? ∧ (i < C.n → σ'[i]? = σ[i]?))
    (ho : ∀ (j : Nat) (c : Cn) (p l : Bool) (b : Addr), g'[j]? = some (.own c p l) → A'[j]? = some b → (∃ (k : Nat) (c : Cn) (p l : Bool), g[k]? = some (.own c p l) ∧ A[k]? = some b) ∨ H b = none) : RwOk C' Hs' A' g' σ' H' := by
  have good : ∀ (i : Nat) (ls : List (List D)), g[i]? = some (.rws ls) → ∀ a ks, Kd C.K Hs C.H0 H a ks ls → (∀ (j : Nat) (c : Cn) (p l : Bool) (b : Addr), g[j]? = some (.own c p l) → A[j]? = some b → b ∉ a :: ks) → ∀ x ∈ a :: ks, ∀ o, H x = some o → H' x = some o ∧ Hs' x = none ∧ C'.H0 x = none := fun i ls e a ks k no x m o ex =>
    hx x o ex (k.fr x m).1 (k.fr x m).2 fun j c p l hj z => no j c p l x hj z m
  intro i ls e
  obtain ⟨e1, eA, eσ⟩ := hg i ls e
  obtain ⟨a, ks, q1, q2, q3, q4, q5⟩ := w i ls e1
  have gd := good i ls e1 a ks q3 q4
  refine ⟨a, ks, eA.trans q1, fun h => by rw [eσ (hn ▸ h)]; exact q2 (hn ▸ h), ⟨(gd a List.mem_cons_self _ q3.hd).1, q3.nd, fun x m => ?_, ?_⟩, fun j c p l b ej ab m => ?_, fun j ms b x ej ab m1 m2 => ?_⟩
  · obtain ⟨o, ho⟩ := q3.live x m
    exact (gd x m o ho).2
  · rw [hK]
    exact q3.kd.move s fun x m o h => (gd x (List.mem_cons_of_mem _ m) o h).1
  · rcases ho j c p l b ej ab with ⟨k, c', p', l', z1, z2⟩ | z
    · exact q4 k c' p' l' b z1 z2 m
    · obtain ⟨o, h⟩ := q3.live b m
      rw [z] at h; cases h
  · obtain ⟨f1, fA, _⟩ := hg j ms ej
    obtain ⟨b', ks', r1, _, r3, r4, _⟩ := w j ms f1
    rw [fA] at ab
    rw [ab] at r1
    have eb : b = b' := Option.some.inj r1
    subst eb
    rw [(good j ms f1 b ks' r3 r4 b List.mem_cons_self _ r3.hd).1, ← r3.hd] at m1
    exact q5 j ms b x f1 ab m1 m2
structure Ok (C : Ct) (Hs : Hp) (A : List Addr) (g : List Sl) (σ : L2.St) (H : Hp) : Prop where
  ln : σ.length = C.n
  lg : C.n ≤ g.length
  la : A.length = g.length
  base : Same C.Hs0 Hs
  same : Same Hs H
  dat : ∀ (i : Nat) (d : D), g[i]? = some (.dat d) → ∃ v, σ[i]? = some (some v) ∧ Dz C.K Hs v d
  frz : ∀ (i : Nat) (d : D), g[i]? = some (.frz d) → ∃ a, A[i]? = some a ∧ (i < C.n → σ[i]? = some (some (.ref a))) ∧ Dz C.K Hs (.ref a) d
  own : ∀ (i : Nat) (c : Cn) (p l : Bool), g[i]? = some (.own c p l) → ∃ a o, A[i]? = some a ∧ (i < C.n → σ[i]? = some (some (.ref a))) ∧ Hs a = none ∧ H a = some o ∧ CnOk C.K Hs c o ∧ (p = false → C.H0 a = none)
  inj : ∀ (i j : Nat) (c : Cn) (p l : Bool) (c' : Cn) (p' l' : Bool) (a : Addr), g[i]? = some (.own c p l) → g[j]? = some (.own c' p' l') → A[i]? = some a → A[j]? = some a → i = j
  grow : ∀ b o, Hs b = some o → C.Hs0 b = some o ∨ C.H0 b = none
  keep : ∀ b o, C.H0 b = some o → (∀ q ∈ C.pins, q.2 ≠ b) → H b = some o
  pinned : ∀ q ∈ C.pins, ∃ c l, g[q.1]? = some (.own c true l) ∧ A[q.1]? = some q.2
  pin1 : ∀ (i : Nat) (c : Cn) (l : Bool) (a : Addr), g[i]? = some (.own c true l) → A[i]? = some a → (i, a) ∈ C.pins
  locked : ∀ q ∈ C.locks, ∃ p, g[q.1]? = some (.own q.2.2 p true) ∧ A[q.1]? = some q.2.1
  rws : RwOk C Hs A g σ H
def RelR (K : PySem.W.Frag) (Hs : Hp) (A : List Addr) (v : V) : R → Prop
  | .dat d => Dz K Hs v d
  | .bor j => ∃ a, A[j]? = some a ∧ v = .ref a
def Pre (A A' : List Addr) : Prop := ∀ (j : Nat) (a : Addr), A[j]? = some a → A'[j]? = some a
theorem Pre.refl (A : List Addr) : Pre A A := fun _ _ h => h
theorem Pre.trans {A B C : List Addr} (a : Pre A B) (b : Pre B C) : Pre A C := fun j x h => b j x (a j x h)
theorem Pre.app (A B : List Addr) : Pre A (A ++ B) := fun j a h => by
  have hj := (List.getElem?_eq_some_iff.mp h).1
  rw [List.getElem?_append_left hj]
  exact h
theorem RelR.mono {K : PySem.W.Frag} {Hs Hs' : Hp} {A A' : List Addr} {v : V} {r : R} (s : Same Hs Hs') (p : Pre A A') (h : RelR K Hs A v r) : RelR K Hs' A' v r := by
  cases r with
  | dat d => exact Dz.mono s (show Dz K Hs v d from h)
  | bor j =>
    obtain ⟨a, h1, h2⟩ := (show ∃ a, A[j]? = some a ∧ v = .ref a from h)
    exact ⟨a, p j a h1, h2⟩
/-- what a value is as data -/
def rd (g : List Sl) : R → Option D
  | .dat d => some d
  | .bor j => match g[j]? with
    | some (.own c _ _) => some c.d
    | some (.frz d) => some d
    | _ => none
/-- .. of a list of own lists too (what is known of the present heap only) -/
def rdX (g : List Sl) : R → Option D
  | .dat d => some d
  | .bor j => match g[j]? with
    | some (.own c _ _) => some c.d
    | some (.frz d) => some d
    | some (.rws ls) => some (.lst (ls.map D.lst))
    | _ => none
section
variable {C : Ct} {Hs : Hp} {A : List Addr} {g : List Sl} {σ : L2.St} {H : Hp}
theorem Ok.rd (ok : Ok C Hs A g σ H) {v : V} {r : R} {d : D} (h : RelR C.K Hs A v r) (e : Z.rd g r = some d) : Dz C.K H v d := by
  cases r with
  | dat d' =>
    have e' : d' = d := Option.some.inj e
    subst e'
    exact Dz.mono ok.same (show Dz C.K Hs v d' from h)
  | bor j =>
    obtain ⟨a, h1, rfl⟩ := (show ∃ a, A[j]? = some a ∧ v = .ref a from h)
    have e : (match g[j]? with
      | some (.own c _ _) => some c.d
      | some (.frz d) => some d
      | _ => none) = some d := e
    split at e
    · rename_i c p l hg
      obtain ⟨a', o, ha, _, _, ho, hc, _⟩ := ok.own j c p l hg
      rw [h1] at ha
      have e1 : a = a' := Option.some.inj ha
      subst e1
      have e2 : c.d = d := Option.some.inj e
      subst e2
      exact (hc.mono ok.same).dz ho
    · rename_i d' hg
      obtain ⟨a', ha, _, hd⟩ := ok.frz j d' hg
      rw [h1] at ha
      have e1 : a = a' := Option.some.inj ha
      subst e1
      have e2 : d' = d := Option.some.inj e
      subst e2
      exact hd.mono ok.same
    · cases e
theorem Ok.rdX (ok : Ok C Hs A g σ H) {v : V} {r : R} {d : D} (h : RelR C.K Hs A v r) (e : Z.rdX g r = some d) : Dz C.K H v d := by
  cases r with
  | dat d' => exact ok.rd h e
  | bor j =>
    have e0 : (match g[j]? with
      | some (.own c _ _) => some c.d
      | some (.frz d) => some d
      | some (.rws ls) => some (.lst (ls.map D.lst))
      | _ => none) = some d := e
    split at e0
    · rename_i c p l hg
      exact ok.rd h (by show (match g[j]? with | some (.own c _ _) => some c.d | some (.frz d) => some d | _ => none) = some d; rw [hg]; exact e0)
    · rename_i d' hg
      exact ok.rd h (by show (match g[j]? with | some (.own c _ _) => some c.d | some (.frz d) => some d | _ => none) = some d; rw [hg]; exact e0)
    · rename_i ls hg
      obtain ⟨a, h1, rfl⟩ := (show ∃ a, A[j]? = some a ∧ v = .ref a from h)
      obtain ⟨a', ks, ha, _, hk, _⟩ := ok.rws j ls hg
      rw [h1] at ha
      have e1 : a = a' := Option.some.inj ha
      subst e1
      have e2 : D.lst (ls.map D.lst) = d := Option.some.inj e0
      subst e2
      exact .lst (SqL.of hk.hd) (hk.kd.dz ok.same)
    · cases e0
theorem Ok.fresh0 (ok : Ok C Hs A g σ H) {a : Addr} (h : H a = none) : Hs a = none ∧ C.H0 a = none := by
  constructor
  · cases q : Hs a with
    | none => rfl
    | some o => rw [ok.same a o q] at h; cases h
  · cases q : C.H0 a with
    | none => rfl
    | some o =>
      have : H a = some o := by
        refine ok.keep a o q fun p hp e => ?_
        obtain ⟨c, l, h1, h2⟩ := ok.pinned p hp
        obtain ⟨a', o', ha, _, _, ho, _⟩ := ok.own _ _ _ _ h1
        rw [h2] at ha
        have e1 : p.2 = a' := Option.some.inj ha
        rw [← e1, e] at ho
        rw [ho] at h; cases h
      rw [this] at h; cases h
/-- a new container, held aside -/
theorem Ok.tmp (ok : Ok C Hs A g σ H) {a : Addr} {o : HO} {c : Cn} (h : H a = none) (hc : CnOk C.K Hs c o) : Ok C Hs (A ++ [a]) (g ++ [.own c false false]) σ (upd H a o) := by
  obtain ⟨f1, f2⟩ := ok.fresh0 h
  have old : ∀ (i : Nat) (s : Sl), (g ++ [Sl.own c false false])[i]? = some s → g[i]? = some s ∨ (i = g.length ∧ s = .own c false false) := fun i s e => by
    by_cases hi : i < g.length
    · rw [List.getElem?_append_left hi] at e; exact .inl e
    · rw [List.getElem?_append_right (by omega)] at e
      have : i - g.length = 0 := by
        have := (List.getElem?_eq_some_iff.mp e).1
        simp at this; omega
      rw [this] at e
      exact .inr ⟨by omega, (Option.some.inj e).symm⟩
  have neA : ∀ (i : Nat) (c' : Cn) (p l : Bool) (a' : Addr), g[i]? = some (.own c' p l) → A[i]? = some a' → a' ≠ a := fun i c' p l a' e ha z => by
    obtain ⟨a2, o2, ha2, _, _, ho, _⟩ := ok.own i c' p l e
    rw [ha] at ha2
    have := Option.some.inj ha2
    rw [← this, z, h] at ho; cases ho
  have pre := Pre.app A [a]
  have last : (A ++ [a])[g.length]? = some a := by rw [← ok.la]; simp
  have alt : ∀ (i : Nat), i < g.length → (A ++ [a])[i]? = A[i]? := fun i hi => List.getElem?_append_left (by rw [ok.la]; exact hi)
  refine ⟨ok.ln, by rw [List.length_append]; have := ok.lg; omega, by simp [ok.la], ok.base, fun b o' e => ?_, fun i d e => ?_, fun i d e => ?_, fun i c' p l e => ?_, fun i j c1 p1 l1 c2 p2 l2 a' e1 e2 h1 h2 => ?_, ok.grow, fun b o' e k => ?_, fun q hq => ?_, fun i c' l a' e ha => ?_, fun q hq => ?_, ?_⟩
  · rw [upd_ne (fun z => by rw [z, f1] at e; cases e)]
    exact ok.same b o' e
  · rcases old i _ e with e | ⟨_, e⟩
    · exact ok.dat i d e
    · cases e
  · rcases old i _ e with e | ⟨_, e⟩
    · obtain ⟨a', q1, q2, q3⟩ := ok.frz i d e
      exact ⟨a', pre _ _ q1, q2, q3⟩
    · cases e
  · rcases old i _ e with e | ⟨ei, e⟩
    · obtain ⟨a', o', q1, q2, q3, q4, q5, q6⟩ := ok.own i c' p l e
      exact ⟨a', o', pre _ _ q1, q2, q3, by rw [upd_ne (neA _ _ _ _ _ e q1)]; exact q4, q5, q6⟩
    · cases e
      subst ei
      exact ⟨a, o, last, fun hi => absurd hi (by have := ok.lg; omega), f1, upd_same, hc, fun _ => f2⟩
  · rcases old i _ e1 with e1 | ⟨ei, e1⟩ <;> rcases old j _ e2 with e2 | ⟨ej, e2⟩
    · have hi := (List.getElem?_eq_some_iff.mp e1).1
      have hj := (List.getElem?_eq_some_iff.mp e2).1
      rw [alt i hi] at h1
      rw [alt j hj] at h2
      exact ok.inj i j _ _ _ _ _ _ a' e1 e2 h1 h2
    · have hi := (List.getElem?_eq_some_iff.mp e1).1
      rw [alt i hi] at h1
      subst ej
      rw [last] at h2
      exact absurd (Option.some.inj h2).symm (neA _ _ _ _ _ e1 h1)
    · have hj := (List.getElem?_eq_some_iff.mp e2).1
      rw [alt j hj] at h2
      subst ei
      rw [last] at h1
      exact absurd (Option.some.inj h1).symm (neA _ _ _ _ _ e2 h2)
    · omega
  · rw [upd_ne (fun z => by rw [z, f2] at e; cases e)]
    exact ok.keep b o' e k
  · obtain ⟨c', l, h1, h2⟩ := ok.pinned q hq
    have hi := (List.getElem?_eq_some_iff.mp h1).1
    exact ⟨c', l, by rw [List.getElem?_append_left hi]; exact h1, pre _ _ h2⟩
  · rcases old i _ e with e | ⟨ei, e⟩
    · have hi := (List.getElem?_eq_some_iff.mp e).1
      rw [alt i hi] at ha
      exact ok.pin1 i c' l a' e ha
    · cases e
  · obtain ⟨p, h1, h2⟩ := ok.locked q hq
    have hi := (List.getElem?_eq_some_iff.mp h1).1
    exact ⟨p, by rw [List.getElem?_append_left hi]; exact h1, pre _ _ h2⟩
  · refine RwOk.step ok.rws rfl rfl (Same.refl _) (fun x u ex n1 n2 _ => ⟨by rw [upd_ne (fun z => by rw [z, h] at ex; cases ex)]; exact ex, n1, n2⟩) (fun i ls e => ?_) (fun i c' p l b e hb => ?_)
    · rcases old i _ e with e | ⟨_, e⟩
      · exact ⟨e, alt i (List.getElem?_eq_some_iff.mp e).1, fun _ => rfl⟩
      · cases e
    · rcases old i _ e with e | ⟨ei, e⟩
      · rw [alt i (List.getElem?_eq_some_iff.mp e).1] at hb
        exact .inl ⟨i, c', p, l, e, hb⟩
      · subst ei
        rw [last] at hb
        cases hb
        exact .inr h
/-- a new object that is data from now on -/
theorem Ok.lay (ok : Ok C Hs A g σ H) {a : Addr} {o : HO} (h : H a = none) : Ok C (upd Hs a o) A g σ (upd H a o) ∧ Same Hs (upd Hs a o) := by
  obtain ⟨f1, f2⟩ := ok.fresh0 h
  have sm : Same Hs (upd Hs a o) := fun b o' e => by
    rw [upd_ne (fun z => by rw [z, f1] at e; cases e)]
    exact e
  refine ⟨⟨ok.ln, ok.lg, ok.la, ok.base.trans sm, fun b o' e => ?_, fun i d e => ?_, fun i d e => ?_, fun i c' p l e => ?_, ok.inj, fun b o' e => ?_, fun b o' e k => ?_, ok.pinned, ok.pin1, ok.locked, ?_⟩, sm⟩
  · by_cases z : b = a
    · subst z
      rw [upd_same] at e ⊢
      exact e
    · rw [upd_ne z] at e ⊢
      exact ok.same b o' e
  · obtain ⟨v, q1, q2⟩ := ok.dat i d e
    exact ⟨v, q1, q2.mono sm⟩
  · obtain ⟨v, q1, q2, q3⟩ := ok.frz i d e
    exact ⟨v, q1, q2, q3.mono sm⟩
  · obtain ⟨a', o', q1, q2, q3, q4, q5, q6⟩ := ok.own i c' p l e
    have ne : a' ≠ a := fun z => by rw [z, h] at q4; cases q4
    exact ⟨a', o', q1, q2, by rw [upd_ne ne]; exact q3, by rw [upd_ne ne]; exact q4, q5.mono sm, q6⟩
  · by_cases z : b = a
    · subst z; exact .inr f2
    · rw [upd_ne z] at e; exact ok.grow b o' e
  · rw [upd_ne (fun z => by rw [z, f2] at e; cases e)]
    exact ok.keep b o' e k
  · refine RwOk.step ok.rws rfl rfl sm (fun x u ex n1 n2 _ => ?_) (fun i ls e => ⟨e, rfl, fun _ => rfl⟩) (fun i c' p l b e hb => .inl ⟨i, c', p, l, e, hb⟩)
    have ne : x ≠ a := fun z => by rw [z, h] at ex; cases ex
    exact ⟨by rw [upd_ne ne]; exact ex, by rw [upd_ne ne]; exact n1, n2⟩
/-- the heap grew by things that nobody knows -/
theorem Ok.more (ok : Ok C Hs A g σ H) {H' : Hp} (s : Same H H') : Ok C Hs A g σ H' :=
  ⟨ok.ln, ok.lg, ok.la, ok.base, ok.same.trans s, ok.dat, ok.frz, fun i c p l e => by
    obtain ⟨a, o, q1, q2, q3, q4, q5, q6⟩ := ok.own i c p l e
    exact ⟨a, o, q1, q2, q3, s _ _ q4, q5, q6⟩, ok.inj, ok.grow, fun b o e k => s _ _ (ok.keep b o e k), ok.pinned, ok.pin1, ok.locked,
    RwOk.step ok.rws rfl rfl (Same.refl _) (fun x u ex n1 n2 _ => ⟨s _ _ ex, n1, n2⟩) (fun i ls e => ⟨e, rfl, fun _ => rfl⟩) (fun i c' p l b e hb => .inl ⟨i, c', p, l, e, hb⟩)⟩
/-- .. and by known things -/
theorem Ok.moreS (ok : Ok C Hs A g σ H) {Hs' H' : Hp} (s : Same H H') (s1 : Same Hs Hs') (s2 : Same Hs' H') (gr : ∀ b o, Hs' b = some o → Hs b = some o ∨ H b = none) : Ok C Hs' A g σ H' := by
  refine ⟨ok.ln, ok.lg, ok.la, ok.base.trans s1, s2, fun i d e => ?_, fun i d e => ?_, fun i c p l e => ?_, ok.inj, fun b o e => ?_, fun b o e k => s _ _ (ok.keep b o e k), ok.pinned, ok.pin1, ok.locked, ?_⟩
  · obtain ⟨v, q1, q2⟩ := ok.dat i d e
    exact ⟨v, q1, q2.mono s1⟩
  · obtain ⟨v, q1, q2, q3⟩ := ok.frz i d e
    exact ⟨v, q1, q2, q3.mono s1⟩
  · obtain ⟨a, o, q1, q2, q3, q4, q5, q6⟩ := ok.own i c p l e
    refine ⟨a, o, q1, q2, ?_, s _ _ q4, q5.mono s1, q6⟩
    cases z : Hs' a with
    | none => rfl
    | some o' =>
      rcases gr a o' z with w | w
      · rw [q3] at w; cases w
      · rw [q4] at w; cases w
  · rcases gr b o e with w | w
    · exact ok.grow b o w
    · exact .inr (ok.fresh0 w).2
  · refine RwOk.step ok.rws rfl rfl s1 (fun x u ex n1 n2 _ => ⟨s _ _ ex, ?_, n2⟩) (fun i ls e => ⟨e, rfl, fun _ => rfl⟩) (fun i c' p l b e hb => .inl ⟨i, c', p, l, e, hb⟩)
    cases z : Hs' x with
    | none => rfl
    | some o' =>
      rcases gr x o' z with w | w
      · rw [n1] at w; cases w
      · rw [ex] at w; cases w
end
/-- the container at slot j becomes data -/
def frzAt (j : Nat) (g : List Sl) : Option (D × List Sl) := match g[j]? with
  | some (.own c false false) => some (c.d, g.set j (.frz c.d))
  | some (.frz d) => some (d, g)
  | some (.rws ls) => some (.lst (ls.map D.lst), g.set j (.frz (.lst (ls.map D.lst))))
  | _ => none
def frzR (r : R) (g : List Sl) : Option (D × List Sl) := match r with
  | .dat d => some (d, g)
  | .bor j => frzAt j g
section
variable {C : Ct} {Hs : Hp} {A : List Addr} {g g' : List Sl} {σ : L2.St} {H : Hp} {j : Nat} {d : D} {v : V} {r : R}
/-- slots are changed one by one: a helper -/
theorem set_some {α : Type} {g : List α} {i j : Nat} {s t : α} (e : (g.set j t)[i]? = some s) : (i = j ∧ s = t ∧ j < g.length) ∨ (i ≠ j ∧ g[i]? = some s) := by
  by_cases h : i = j
  · subst h
    by_cases hl : i < g.length
    · rw [List.getElem?_set_self hl] at e
      exact .inl ⟨rfl, (Option.some.inj e).symm, hl⟩
    · have := (List.getElem?_eq_some_iff.mp e).1
      rw [List.length_set] at this
      exact absurd this hl
  · rw [List.getElem?_set_ne (Ne.symm h)] at e
    exact .inr ⟨h, e⟩
theorem Ok.frzAt (ok : Ok C Hs A g σ H) (e : frzAt j g = some (d, g')) : ∃ Hs' a, Same Hs Hs' ∧ Ok C Hs' A g' σ H ∧ A[j]? = some a ∧ Dz C.K Hs' (.ref a) d := by
  unfold Z.frzAt at e
  split at e
  · rename_i c hg
    cases e
    obtain ⟨a, o, q1, q2, q3, q4, q5, q6⟩ := ok.own j c _ _ hg
    have sm : Same Hs (upd Hs a o) := fun b o' e => by
      rw [upd_ne (fun z => by rw [z, q3] at e; cases e)]
      exact e
    have dz : Dz C.K (upd Hs a o) (.ref a) c.d := (q5.mono sm).dz upd_same
    refine ⟨upd Hs a o, a, sm, ⟨ok.ln, by rw [List.length_set]; exact ok.lg, by rw [List.length_set]; exact ok.la, ok.base.trans sm, fun b o' e => ?_, fun i d e => ?_, fun i d e => ?_, fun i c' p l e => ?_, fun i k c1 p1 l1 c2 p2 l2 a' e1 e2 h1 h2 => ?_, fun b o' e => ?_, ok.keep, fun q hq => ?_, fun i c' l a' e ha => ?_, fun q hq => ?_, ?_⟩, q1, dz⟩
    · by_cases z : b = a
      · subst z
        rw [upd_same] at e; cases e; exact q4
      · rw [upd_ne z] at e
        exact ok.same b o' e
    · rcases set_some e with ⟨_, e, _⟩ | ⟨_, e⟩
      · cases e
      · obtain ⟨v, w1, w2⟩ := ok.dat i d e
        exact ⟨v, w1, w2.mono sm⟩
    · rcases set_some e with ⟨ei, e, _⟩ | ⟨_, e⟩
      · cases e
        subst ei
        exact ⟨a, q1, q2, dz⟩
      · obtain ⟨v, w1, w2, w3⟩ := ok.frz i d e
        exact ⟨v, w1, w2, w3.mono sm⟩
    · rcases set_some e with ⟨_, e, _⟩ | ⟨ne, e⟩
      · cases e
      · obtain ⟨a', o', w1, w2, w3, w4, w5, w6⟩ := ok.own i c' p l e
        have na : a' ≠ a := fun z => by
          subst z
          exact ne (ok.inj i j _ _ _ _ _ _ a' e hg w1 q1)
        exact ⟨a', o', w1, w2, by rw [upd_ne na]; exact w3, w4, w5.mono sm, w6⟩
    · rcases set_some e1 with ⟨_, e1, _⟩ | ⟨_, e1⟩
      · cases e1
      · rcases set_some e2 with ⟨_, e2, _⟩ | ⟨_, e2⟩
        · cases e2
        · exact ok.inj i k _ _ _ _ _ _ a' e1 e2 h1 h2
    · by_cases z : b = a
      · subst z; exact .inr (q6 rfl)
      · rw [upd_ne z] at e; exact ok.grow b o' e
    · obtain ⟨c', l, h1, h2⟩ := ok.pinned q hq
      refine ⟨c', l, ?_, h2⟩
      rw [List.getElem?_set_ne]
      · exact h1
      · intro z
        subst z
        rw [hg] at h1; cases h1
    · rcases set_some e with ⟨_, e, _⟩ | ⟨_, e⟩
      · cases e
      · exact ok.pin1 i c' l a' e ha
    · obtain ⟨p, h1, h2⟩ := ok.locked q hq
      refine ⟨p, ?_, h2⟩
      rw [List.getElem?_set_ne]
      · exact h1
      · intro z
        subst z
        rw [hg] at h1; cases h1
    · refine RwOk.step ok.rws rfl rfl sm (fun x u ex n1 n2 no => ⟨ex, ?_, n2⟩) (fun i ls e => ?_) (fun i c' p l b e hb => ?_)
      · rw [upd_ne (fun z => no j c _ _ hg (by rw [z]; exact q1))]; exact n1
      · rcases set_some e with ⟨_, e, _⟩ | ⟨_, e⟩
        · cases e
        · exact ⟨e, rfl, fun _ => rfl⟩
      · rcases set_some e with ⟨_, e, _⟩ | ⟨_, e⟩
        · cases e
        · exact .inl ⟨i, c', p, l, e, hb⟩
  · rename_i d' hg
    cases e
    obtain ⟨a, q1, q2, q3⟩ := ok.frz j d hg
    exact ⟨Hs, a, Same.refl _, ok, q1, q3⟩
  · rename_i ls hg
    cases e
    obtain ⟨a, ks, q1, q2, q3, q4, q5⟩ := ok.rws j ls hg
    have dec : ∀ x, Decidable (x ∈ a :: ks) := fun x => inferInstance
    have hin : ∀ x, x ∈ a :: ks → (fun b => if b ∈ a :: ks then H b else Hs b : Hp) x = H x := fun x m => if_pos m
    have hout : ∀ x, x ∉ a :: ks → (fun b => if b ∈ a :: ks then H b else Hs b : Hp) x = Hs x := fun x m => if_neg m
    generalize (fun b => if b ∈ a :: ks then H b else Hs b : Hp) = Hn at hin hout
    have sm : Same Hs Hn := fun b o' e => by
      by_cases m : b ∈ a :: ks
      · rw [(q3.fr b m).1] at e; cases e
      · rw [hout b m]; exact e
    have sn : Same Hn H := fun b o' e => by
      by_cases m : b ∈ a :: ks
      · rw [hin b m] at e; exact e
      · rw [hout b m] at e; exact ok.same b o' e
    have dz : Dz C.K Hn (.ref a) (.lst (ls.map D.lst)) := by
      refine .lst (SqL.of ((hin a List.mem_cons_self).trans q3.hd)) ?_
      have k2 : KdOk C.K Hn Hn ks ls := q3.kd.move sm fun x m o h => (hin x (List.mem_cons_of_mem _ m)).trans h
      exact k2.dz (Same.refl _)
    refine ⟨Hn, a, sm, ⟨ok.ln, by rw [List.length_set]; exact ok.lg, by rw [List.length_set]; exact ok.la, ok.base.trans sm, sn, fun i d e => ?_, fun i d e => ?_, fun i c' p l e => ?_, fun i k c1 p1 l1 c2 p2 l2 a' e1 e2 h1 h2 => ?_, fun b o' e => ?_, ok.keep, fun q hq => ?_, fun i c' l a' e ha => ?_, fun q hq => ?_, fun i ms e => ?_⟩, q1, dz⟩
    · rcases set_some e with ⟨_, e, _⟩ | ⟨_, e⟩
      · cases e
      · obtain ⟨v, w1, w2⟩ := ok.dat i d e
        exact ⟨v, w1, w2.mono sm⟩
    · rcases set_some e with ⟨ei, e, _⟩ | ⟨_, e⟩
      · cases e
        subst ei
        exact ⟨a, q1, q2, dz⟩
      · obtain ⟨v, w1, w2, w3⟩ := ok.frz i d e
        exact ⟨v, w1, w2, w3.mono sm⟩
    · rcases set_some e with ⟨_, e, _⟩ | ⟨ne, e⟩
      · cases e
      · obtain ⟨a', o', w1, w2, w3, w4, w5, w6⟩ := ok.own i c' p l e
        exact ⟨a', o', w1, w2, by rw [hout a' (q4 i c' p l a' e w1)]; exact w3, w4, w5.mono sm, w6⟩
    · rcases set_some e1 with ⟨_, e1, _⟩ | ⟨_, e1⟩
      · cases e1
      · rcases set_some e2 with ⟨_, e2, _⟩ | ⟨_, e2⟩
        · cases e2
        · exact ok.inj i k _ _ _ _ _ _ a' e1 e2 h1 h2
    · by_cases m : b ∈ a :: ks
      · exact .inr (q3.fr b m).2
      · rw [hout b m] at e; exact ok.grow b o' e
    · obtain ⟨c', l, h1, h2⟩ := ok.pinned q hq
      refine ⟨c', l, ?_, h2⟩
      rw [List.getElem?_set_ne]
      · exact h1
      · intro z
        subst z
        rw [hg] at h1; cases h1
    · rcases set_some e with ⟨_, e, _⟩ | ⟨_, e⟩
      · cases e
      · exact ok.pin1 i c' l a' e ha
    · obtain ⟨p, h1, h2⟩ := ok.locked q hq
      refine ⟨p, ?_, h2⟩
      rw [List.getElem?_set_ne]
      · exact h1
      · intro z
        subst z
        rw [hg] at h1; cases h1
    · rcases set_some e with ⟨_, e, _⟩ | ⟨ne, e⟩
      · cases e
      · obtain ⟨b, bs, r1, r2, r3, r4, r5⟩ := ok.rws i ms e
        refine ⟨b, bs, r1, r2, ⟨r3.hd, r3.nd, fun x m => ⟨?_, (r3.fr x m).2⟩, r3.kd.move sm fun _ _ _ h => h⟩, fun k c p l y ek => ?_, fun k ns y x ek => ?_⟩
        · rw [hout x (fun z => ne (q5 i ms b x e r1 (by rw [r3.hd, kidsOf_refs]; exact m) z))]
          exact (r3.fr x m).1
        · rcases set_some ek with ⟨_, ek, _⟩ | ⟨_, ek⟩
          · cases ek
          · exact r4 k c p l y ek
        · rcases set_some ek with ⟨_, ek, _⟩ | ⟨_, ek⟩
          · cases ek
          · exact r5 k ns y x ek
  · cases e
theorem Ok.frzR (ok : Ok C Hs A g σ H) (h : RelR C.K Hs A v r) (e : frzR r g = some (d, g')) : ∃ Hs', Same Hs Hs' ∧ Ok C Hs' A g' σ H ∧ Dz C.K Hs' v d := by
  cases r with
  | dat d' =>
    have e' : some (d', g) = some (d, g') := e
    cases e'
    exact ⟨Hs, Same.refl _, ok, h⟩
  | bor j =>
    obtain ⟨a, h1, rfl⟩ := (show ∃ a, A[j]? = some a ∧ v = .ref a from h)
    obtain ⟨Hs', a', s, ok', h2, dz⟩ := ok.frzAt e
    rw [h1] at h2
    have e1 : a = a' := Option.some.inj h2
    subst e1
    exact ⟨Hs', s, ok', dz⟩
/-- the slot j may be overwritten -/
def freeAt (j : Nat) (g : List Sl) : Bool := match g[j]? with
  | some (.own _ true _) => false
  | some (.own _ _ true) => false
  | some _ => true
  | none => false
def setDat (i : Nat) (d : D) (g : List Sl) : Option (List Sl) := if freeAt i g = true then some (g.set i (.dat d)) else none
theorem freeAt_lt (e : freeAt j g = true) : j < g.length := by
  unfold freeAt at e
  by_cases h : j < g.length
  · exact h
  · rw [List.getElem?_eq_none_iff.mpr (by omega)] at e
    cases e
theorem freeAt_pin (e : freeAt j g = true) {c : Cn} {l : Bool} (h : g[j]? = some (.own c true l)) : False := by
  unfold freeAt at e
  rw [h] at e
  cases e
theorem freeAt_lock (e : freeAt j g = true) {c : Cn} {p : Bool} (h : g[j]? = some (.own c p true)) : False := by
  unfold freeAt at e
  rw [h] at e
  cases p <;> cases e
/-- a slot forgotten, or filled with data; σ may change there -/
theorem Ok.put (ok : Ok C Hs A g σ H) {s : Sl} {σ' : L2.St} (hf : freeAt j g = true) (hl : σ'.length = σ.length) (hσ : ∀ (i : Nat), i ≠ j → σ'[i]? = σ[i]?) (hs : s = .un ∨ ∃ d v, s = .dat d ∧ σ'[j]? = some (some v) ∧ Dz C.K Hs v d) : Ok C Hs A (g.set j s) σ' H := by
  have no : ∀ {i : Nat} {c : Cn} {p l : Bool}, (g.set j s)[i]? = some (.own c p l) → i ≠ j ∧ g[i]? = some (.own c p l) := fun {i c p l} e => by
    rcases set_some e with ⟨_, e, _⟩ | ⟨ne, e⟩
    · rcases hs with z | ⟨_, _, z, _⟩ <;> rw [z] at e <;> cases e
    · exact ⟨ne, e⟩
  refine ⟨hl.trans ok.ln, by rw [List.length_set]; exact ok.lg, by rw [List.length_set]; exact ok.la, ok.base, ok.same, fun i d e => ?_, fun i d e => ?_, fun i c' p l e => ?_, fun i k c1 p1 l1 c2 p2 l2 a' e1 e2 h1 h2 => ok.inj i k _ _ _ _ _ _ a' (no e1).2 (no e2).2 h1 h2, ok.grow, ok.keep, fun q hq => ?_, fun i c' l a' e ha => ok.pin1 i c' l a' (no e).2 ha, fun q hq => ?_, ?_⟩
  · rcases set_some e with ⟨ei, e3, _⟩ | ⟨ne, e3⟩
    · subst ei
      rcases hs with z | ⟨d', v, z, w1, w2⟩
      · rw [z] at e3; cases e3
      · rw [z] at e3; cases e3; exact ⟨v, w1, w2⟩
    · rw [hσ i ne]; exact ok.dat i d e3
  · rcases set_some e with ⟨ei, e3, _⟩ | ⟨ne, e3⟩
    · rcases hs with z | ⟨d', v, z, w1, w2⟩ <;> rw [z] at e3 <;> cases e3
    · rw [hσ i ne]; exact ok.frz i d e3
  · obtain ⟨ne, e⟩ := no e
    rw [hσ i ne]; exact ok.own i c' p l e
  · obtain ⟨c', l, h1, h2⟩ := ok.pinned q hq
    refine ⟨c', l, ?_, h2⟩
    rw [List.getElem?_set_ne]
    · exact h1
    · intro z
      subst z
      exact freeAt_pin hf h1
  · obtain ⟨p, h1, h2⟩ := ok.locked q hq
    refine ⟨p, ?_, h2⟩
    rw [List.getElem?_set_ne]
    · exact h1
    · intro z
      subst z
      exact freeAt_lock hf h1
  · refine RwOk.step ok.rws rfl rfl (Same.refl _) (fun x u ex n1 n2 _ => ⟨ex, n1, n2⟩) (fun i ls e => ?_) (fun i c' p l b e hb => .inl ⟨i, c', p, l, (no e).2, hb⟩)
    rcases set_some e with ⟨_, e, _⟩ | ⟨ne, e⟩
    · rcases hs with z | ⟨_, _, z, _⟩ <;> rw [z] at e <;> cases e
    · exact ⟨e, rfl, fun _ => hσ i ne⟩
theorem Ok.set (ok : Ok C Hs A g σ H) (e : setDat j d g = some g') (hj : j < C.n) (h : Dz C.K Hs v d) : Ok C Hs A g' (σ.set j (some v)) H := by
  unfold setDat at e
  split at e
  · rename_i hf
    cases e
    refine ok.put hf (by rw [List.length_set]) (fun i ne => List.getElem?_set_ne (Ne.symm ne)) (.inr ⟨d, v, rfl, ?_, h⟩)
    exact List.getElem?_set_self (by rw [ok.ln]; exact hj)
  · cases e
/-- a container held aside becomes the slot's own -/
theorem Ok.move (ok : Ok C Hs A g σ H) {t : Nat} {c : Cn} {a : Addr} (hf : freeAt j g = true) (hj : j < C.n) (ht : C.n ≤ t) (e : g[t]? = some (.own c false false)) (ha : A[t]? = some a) :
    Ok C Hs (A.set j a) ((g.set j (.own c false false)).set t .un) (σ.set j (some (.ref a))) H := by
  have htl := (List.getElem?_eq_some_iff.mp e).1
  have hjl := freeAt_lt hf
  have jt : j ≠ t := by omega
  have oc : ∀ {i : Nat} {s : Sl}, ((g.set j (.own c false false)).set t .un)[i]? = some s → (i = t ∧ s = .un) ∨ (i = j ∧ s = .own c false false) ∨ (i ≠ t ∧ i ≠ j ∧ g[i]? = some s) := fun {i s} e => by
    rcases set_some e with ⟨ei, e, _⟩ | ⟨ne, e⟩
    · exact .inl ⟨ei, e⟩
    · rcases set_some e with ⟨ei, e, _⟩ | ⟨ne2, e⟩
      · exact .inr (.inl ⟨ei, e⟩)
      · exact .inr (.inr ⟨ne, ne2, e⟩)
  have A1 : (A.set j a)[j]? = some a := List.getElem?_set_self (by rw [ok.la]; exact hjl)
  have A2 : ∀ (i : Nat), i ≠ j → (A.set j a)[i]? = A[i]? := fun i ne => List.getElem?_set_ne (Ne.symm ne)
  have S2 : ∀ (i : Nat), i ≠ j → (σ.set j (some (V.ref a)))[i]? = σ[i]? := fun i ne => List.getElem?_set_ne (Ne.symm ne)
  obtain ⟨a0, o, q1, q2, q3, q4, q5, q6⟩ := ok.own t c _ _ e
  rw [ha] at q1
  have ea : a = a0 := Option.some.inj q1
  subst ea
  have neo : ∀ {i : Nat} {c' : Cn} {p l : Bool} {a' : Addr}, i ≠ t → g[i]? = some (.own c' p l) → A[i]? = some a' → a' ≠ a := fun {i c' p l a'} ne e' h z => by
    subst z
    exact ne (ok.inj i t _ _ _ _ _ _ a' e' e h ha)
  refine ⟨by rw [List.length_set]; exact ok.ln, by rw [List.length_set, List.length_set]; exact ok.lg, by rw [List.length_set, List.length_set, List.length_set]; exact ok.la, ok.base, ok.same, fun i d e => ?_, fun i d e => ?_, fun i c' p l e => ?_, fun i k c1 p1 l1 c2 p2 l2 a' e1' e2' h1 h2 => ?_, ok.grow, ok.keep, fun q hq => ?_, fun i c' l a' e ha => ?_, fun q hq => ?_, ?_⟩
  · rcases oc e with ⟨_, e⟩ | ⟨_, e⟩ | ⟨_, ne, e⟩
    · cases e
    · cases e
    · rw [S2 i ne]; exact ok.dat i d e
  · rcases oc e with ⟨_, e⟩ | ⟨_, e⟩ | ⟨_, ne, e⟩
    · cases e
    · cases e
    · rw [S2 i ne, A2 i ne]; exact ok.frz i d e
  · rcases oc e with ⟨_, e⟩ | ⟨ei, e⟩ | ⟨_, ne, e⟩
    · cases e
    · cases e
      subst ei
      exact ⟨a, o, A1, fun _ => List.getElem?_set_self (by rw [ok.ln]; exact hj), q3, q4, q5, fun _ => q6 rfl⟩
    · rw [S2 i ne, A2 i ne]; exact ok.own i c' p l e
  · rcases oc e1' with ⟨_, e1⟩ | ⟨ei, e1⟩ | ⟨nt, ne, e1⟩
    · cases e1
    · rcases oc e2' with ⟨_, e2⟩ | ⟨ek, e2⟩ | ⟨nt2, ne2, e2⟩
      · cases e2
      · omega
      · subst ei
        rw [A1] at h1
        rw [A2 k ne2] at h2
        exact absurd (Option.some.inj h1).symm (neo nt2 e2 h2)
    · rcases oc e2' with ⟨_, e2⟩ | ⟨ek, e2⟩ | ⟨nt2, ne2, e2⟩
      · cases e2
      · subst ek
        rw [A1] at h2
        rw [A2 i ne] at h1
        exact absurd (Option.some.inj h2).symm (neo nt e1 h1)
      · rw [A2 i ne] at h1
        rw [A2 k ne2] at h2
        exact ok.inj i k _ _ _ _ _ _ a' e1 e2 h1 h2
  · obtain ⟨c', l, h1, h2⟩ := ok.pinned q hq
    have n1 : q.1 ≠ j := fun z => by rw [z] at h1; exact freeAt_pin hf h1
    have n2 : q.1 ≠ t := fun z => by rw [z, e] at h1; cases h1
    refine ⟨c', l, ?_, by rw [A2 _ n1]; exact h2⟩
    rw [List.getElem?_set_ne (Ne.symm n2), List.getElem?_set_ne (Ne.symm n1)]
    exact h1
  · rcases oc e with ⟨_, e⟩ | ⟨ei, e⟩ | ⟨_, ne, e⟩
    · cases e
    · cases e
    · rw [A2 i ne] at ha
      exact ok.pin1 i c' l a' e ha
  · obtain ⟨p, h1, h2⟩ := ok.locked q hq
    have n1 : q.1 ≠ j := fun z => by rw [z] at h1; exact freeAt_lock hf h1
    have n2 : q.1 ≠ t := fun z => by rw [z, e] at h1; cases h1
    refine ⟨p, ?_, by rw [A2 _ n1]; exact h2⟩
    rw [List.getElem?_set_ne (Ne.symm n2), List.getElem?_set_ne (Ne.symm n1)]
    exact h1
  · refine RwOk.step ok.rws rfl rfl (Same.refl _) (fun x u ex n1 n2 _ => ⟨ex, n1, n2⟩) (fun i ls e => ?_) (fun i c' p l b e2 hb => ?_)
    · rcases oc e with ⟨_, e⟩ | ⟨_, e⟩ | ⟨_, ne, e⟩
      · cases e
      · cases e
      · exact ⟨e, A2 i ne, fun _ => S2 i ne⟩
    · rcases oc e2 with ⟨_, e2⟩ | ⟨ei, e2⟩ | ⟨_, ne, e2⟩
      · cases e2
      · subst ei
        rw [A1] at hb
        exact .inl ⟨t, _, _, _, e, ha.trans hb⟩
      · rw [A2 i ne] at hb
        exact .inl ⟨i, c', p, l, e2, hb⟩
/-- what was held aside is dropped -/
theorem Ok.cut (ok : Ok C Hs A g σ H) : Ok C Hs (A.take C.n) (g.take C.n) σ H := by
  have tk : ∀ {α : Type} {l : List α} {i : Nat} {s : α}, (l.take C.n)[i]? = some s → i < C.n ∧ l[i]? = some s := fun {α l i s} e => by
    by_cases h : i < C.n
    · rw [List.getElem?_take_of_lt h] at e; exact ⟨h, e⟩
    · have := (List.getElem?_eq_some_iff.mp e).1
      rw [List.length_take] at this; omega
  have kt : ∀ {α : Type} {l : List α} {i : Nat} {s : α}, i < C.n → l[i]? = some s → (l.take C.n)[i]? = some s := fun {α l i s} h e => by
    rw [List.getElem?_take_of_lt h]; exact e
  refine ⟨ok.ln, by rw [List.length_take]; have := ok.lg; omega, by rw [List.length_take, List.length_take, ok.la], ok.base, ok.same, fun i d e => ok.dat i d (tk e).2, fun i d e => ?_, fun i c' p l e => ?_, fun i k c1 p1 l1 c2 p2 l2 a' e1 e2 h1 h2 => ok.inj i k _ _ _ _ _ _ a' (tk e1).2 (tk e2).2 (tk h1).2 (tk h2).2, ok.grow, ok.keep, fun q hq => ?_, fun i c' l a' e ha => ok.pin1 i c' l a' (tk e).2 (tk ha).2, fun q hq => ?_, ?_⟩
  · obtain ⟨a, q1, q2⟩ := ok.frz i d (tk e).2
    exact ⟨a, kt (tk e).1 q1, q2⟩
  · obtain ⟨a, o, q1, q2⟩ := ok.own i c' p l (tk e).2
    exact ⟨a, o, kt (tk e).1 q1, q2⟩
  · obtain ⟨c', l, h1, h2⟩ := ok.pinned q hq
    exact ⟨c', l, kt (C.plt q hq) h1, kt (C.plt q hq) h2⟩
  · obtain ⟨p, h1, h2⟩ := ok.locked q hq
    exact ⟨p, kt (C.llt q hq) h1, kt (C.llt q hq) h2⟩
  · exact RwOk.step ok.rws rfl rfl (Same.refl _) (fun x u ex n1 n2 _ => ⟨ex, n1, n2⟩) (fun i ls e => ⟨(tk e).2, List.getElem?_take_of_lt (tk e).1, fun _ => rfl⟩) (fun i c' p l b e hb => .inl ⟨i, c', p, l, (tk e).2, (tk hb).2⟩)
/-- the container at j is written -/
theorem Ok.wr (ok : Ok C Hs A g σ H) {c c' : Cn} {p : Bool} {a : Addr} {o : HO} (e : g[j]? = some (.own c p false)) (ha : A[j]? = some a) (hc : CnOk C.K Hs c' o) : Ok C Hs A (g.set j (.own c' p false)) σ (upd H a o) := by
  obtain ⟨a0, o0, q1, q2, q3, q4, q5, q6⟩ := ok.own j c _ _ e
  rw [ha] at q1
  have ea : a = a0 := Option.some.inj q1
  subst ea
  have hj := (List.getElem?_eq_some_iff.mp e).1
  have oc : ∀ {i : Nat} {s : Sl}, (g.set j (.own c' p false))[i]? = some s → (i = j ∧ s = .own c' p false) ∨ (i ≠ j ∧ g[i]? = some s) := fun {i s} e => by
    rcases set_some e with ⟨ei, e, _⟩ | ⟨ne, e⟩
    · exact .inl ⟨ei, e⟩
    · exact .inr ⟨ne, e⟩
  have ow : ∀ {i : Nat} {c1 : Cn} {p1 l1 : Bool}, (g.set j (.own c' p false))[i]? = some (.own c1 p1 l1) → ∃ c2, g[i]? = some (.own c2 p1 l1) := fun {i c1 p1 l1} e' => by
    rcases oc e' with ⟨ei, e'⟩ | ⟨_, e'⟩
    · cases e'; subst ei; exact ⟨c, e⟩
    · exact ⟨c1, e'⟩
  refine ⟨ok.ln, by rw [List.length_set]; exact ok.lg, by rw [List.length_set]; exact ok.la, ok.base, fun b o' e => ?_, fun i d e => ?_, fun i d e => ?_, fun i c1 p1 l1 e1 => ?_, fun i k c1 p1 l1 c2 p2 l2 a' e1 e2 h1 h2 => ?_, ok.grow, fun b o' e2 k => ?_, fun q hq => ?_, fun i c1 l1 a' e1 ha' => ?_, fun q hq => ?_, ?_⟩
  · rw [upd_ne (fun z => by rw [z, q3] at e; cases e)]
    exact ok.same b o' e
  · rcases oc e with ⟨_, e⟩ | ⟨_, e⟩
    · cases e
    · exact ok.dat i d e
  · rcases oc e with ⟨_, e⟩ | ⟨_, e⟩
    · cases e
    · exact ok.frz i d e
  · rcases oc e1 with ⟨ei, e1⟩ | ⟨ne, e1⟩
    · cases e1
      subst ei
      exact ⟨a, o, ha, q2, q3, upd_same, hc, q6⟩
    · obtain ⟨a', o', w1, w2, w3, w4, w5, w6⟩ := ok.own i c1 p1 l1 e1
      have na : a' ≠ a := fun z => by
        subst z
        exact ne (ok.inj i j _ _ _ _ _ _ a' e1 e w1 ha)
      exact ⟨a', o', w1, w2, w3, by rw [upd_ne na]; exact w4, w5, w6⟩
  · obtain ⟨x, hx⟩ := ow e1
    obtain ⟨y, hy⟩ := ow e2
    exact ok.inj i k _ _ _ _ _ _ a' hx hy h1 h2
  · have nb : b ≠ a := fun z => by
      subst z
      cases p with
      | true => exact k _ (ok.pin1 j c false b e ha) rfl
      | false => rw [q6 rfl] at e2; cases e2
    rw [upd_ne nb]
    exact ok.keep b o' e2 k
  · obtain ⟨c1, l, h1, h2⟩ := ok.pinned q hq
    by_cases z : q.1 = j
    · rw [z, e] at h1
      cases h1
      exact ⟨c', false, by rw [z]; exact List.getElem?_set_self hj, h2⟩
    · exact ⟨c1, l, by rw [List.getElem?_set_ne (Ne.symm z)]; exact h1, h2⟩
  · rcases oc e1 with ⟨ei, e1⟩ | ⟨ne, e1⟩
    · cases e1
      subst ei
      exact ok.pin1 i c false a' e ha'
    · exact ok.pin1 i c1 l1 a' e1 ha'
  · obtain ⟨p', h1, h2⟩ := ok.locked q hq
    have n1 : q.1 ≠ j := fun z => by rw [z, e] at h1; cases h1
    exact ⟨p', by rw [List.getElem?_set_ne (Ne.symm n1)]; exact h1, h2⟩
  · refine RwOk.step ok.rws rfl rfl (Same.refl _) (fun x u ex n1 n2 no => ⟨by rw [upd_ne (fun z => no j c _ _ e (by rw [z]; exact ha))]; exact ex, n1, n2⟩) (fun i ls e => ?_) (fun i c1 p1 l1 b e1 hb => ?_)
    · rcases oc e with ⟨_, e⟩ | ⟨_, e⟩
      · cases e
      · exact ⟨e, rfl, fun _ => rfl⟩
    · obtain ⟨x, hx⟩ := ow e1
      exact .inl ⟨i, _, _, _, hx, hb⟩
/-- locked and unlocked: C' has other locks -/
theorem Ok.lk {C' : Ct} (ok : Ok C Hs A g σ H) {c : Cn} {p l l' : Bool} (e : g[j]? = some (.own c p l)) (hK : C'.K = C.K) (hn : C'.n = C.n) (h0 : C'.H0 = C.H0) (hs0 : C'.Hs0 = C.Hs0) (hp : C'.pins = C.pins)
    (hl : ∀ q ∈ C'.locks, (q.1 = j ∧ q.2.2 = c ∧ l' = true ∧ A[j]? = some q.2.1) ∨ (q.1 ≠ j ∧ q ∈ C.locks)) : Ok C' Hs A (g.set j (.own c p l')) σ H := by
  have hj := (List.getElem?_eq_some_iff.mp e).1
  have oc : ∀ {i : Nat} {s : Sl}, (g.set j (.own c p l'))[i]? = some s → (i = j ∧ s = .own c p l') ∨ (i ≠ j ∧ g[i]? = some s) := fun {i s} e => by
    rcases set_some e with ⟨ei, e, _⟩ | ⟨ne, e⟩
    · exact .inl ⟨ei, e⟩
    · exact .inr ⟨ne, e⟩
  have ow : ∀ {i : Nat} {c1 : Cn} {p1 l1 : Bool}, (g.set j (.own c p l'))[i]? = some (.own c1 p1 l1) → ∃ l2, g[i]? = some (.own c1 p1 l2) := fun {i c1 p1 l1} e' => by
    rcases oc e' with ⟨ei, e'⟩ | ⟨_, e'⟩
    · cases e'; subst ei; exact ⟨l, e⟩
    · exact ⟨l1, e'⟩
  refine ⟨by rw [hn]; exact ok.ln, by rw [List.length_set, hn]; exact ok.lg, by rw [List.length_set]; exact ok.la, by rw [hs0]; exact ok.base, ok.same, fun i d e => ?_, fun i d e => ?_, fun i c1 p1 l1 e1 => ?_, fun i k c1 p1 l1 c2 p2 l2 a' e1 e2 h1 h2 => ?_, by rw [hs0, h0]; exact ok.grow, by rw [h0, hp]; exact ok.keep, fun q hq => ?_, fun i c1 l1 a' e1 ha => ?_, fun q hq => ?_, ?_⟩
  · rcases oc e with ⟨_, e⟩ | ⟨_, e⟩
    · cases e
    · rw [hK]; exact ok.dat i d e
  · rcases oc e with ⟨_, e⟩ | ⟨_, e⟩
    · cases e
    · rw [hK, hn]; exact ok.frz i d e
  · obtain ⟨l2, h⟩ := ow e1
    rw [hK, hn, h0]
    exact ok.own i c1 p1 l2 h
  · obtain ⟨x, hx⟩ := ow e1
    obtain ⟨y, hy⟩ := ow e2
    exact ok.inj i k _ _ _ _ _ _ a' hx hy h1 h2
  · obtain ⟨c1, l1, h1, h2⟩ := ok.pinned q (by rw [← hp]; exact hq)
    by_cases z : q.1 = j
    · rw [z, e] at h1
      cases h1
      exact ⟨c, l', by rw [z]; exact List.getElem?_set_self hj, h2⟩
    · exact ⟨c1, l1, by rw [List.getElem?_set_ne (Ne.symm z)]; exact h1, h2⟩
  · obtain ⟨l2, h⟩ := ow e1
    rw [hp]
    exact ok.pin1 i c1 l2 a' h ha
  · rcases hl q hq with ⟨e1, e2, e3, e4⟩ | ⟨ne, hq⟩
    · exact ⟨p, by rw [e1, List.getElem?_set_self hj, e2, e3], by rw [e1]; exact e4⟩
    · obtain ⟨p', h1, h2⟩ := ok.locked q hq
      exact ⟨p', by rw [List.getElem?_set_ne (Ne.symm ne)]; exact h1, h2⟩
  · refine RwOk.step ok.rws hK hn (Same.refl _) (fun x u ex n1 n2 _ => ⟨ex, n1, by rw [h0]; exact n2⟩) (fun i ls e => ?_) (fun i c1 p1 l1 b e1 hb => ?_)
    · rcases oc e with ⟨_, e⟩ | ⟨_, e⟩
      · cases e
      · exact ⟨e, rfl, fun _ => rfl⟩
    · obtain ⟨l2, h⟩ := ow e1
      exact .inl ⟨i, _, _, _, h, hb⟩
theorem Kd.low {K : PySem.W.Frag} {Hs H0 H1 H : Hp} {a : Addr} {ks : List Addr} {ls : List (List D)} (k : Kd K Hs H1 H a ks ls) (h : ∀ x ∈ a :: ks, H0 x = none) : Kd K Hs H0 H a ks ls :=
  ⟨k.hd, k.nd, fun x m => ⟨(k.fr x m).1, h x m⟩, k.kd⟩
theorem Ok.deadO (ok : Ok C Hs A g σ H) {c : Cn} {p l : Bool} {b : Addr} (e1 : g[j]? = some (.own c p l)) (e2 : A[j]? = some b) (h : H b = none) : False := by
  obtain ⟨a', o, ha, _, _, ho, _⟩ := ok.own j c p l e1
  rw [e2] at ha
  cases ha
  rw [h] at ho; cases ho
theorem Ok.deadR (ok : Ok C Hs A g σ H) {ms : List (List D)} {b x : Addr} (e1 : g[j]? = some (.rws ms)) (e2 : A[j]? = some b) (m : x ∈ b :: kidsOf (H b)) (h : H x = none) : False := by
  obtain ⟨a', ks, ha, _, k, _⟩ := ok.rws j ms e1
  rw [e2] at ha
  cases ha
  rw [k.hd, kidsOf_refs] at m
  obtain ⟨o, ho⟩ := k.live x m
  rw [h] at ho; cases ho
/-- a list of lists of its own, held aside -/
theorem Ok.addR (ok : Ok C Hs A g σ H) {a : Addr} {ks : List Addr} {ls : List (List D)} (k0 : Kd C.K Hs C.H0 H a ks ls)
    (hno : ∀ (j : Nat) (c : Cn) (p l : Bool) (b : Addr), g[j]? = some (.own c p l) → A[j]? = some b → b ∉ a :: ks)
    (hnr : ∀ (j : Nat) (ms : List (List D)) (b x : Addr), g[j]? = some (.rws ms) → A[j]? = some b → x ∈ b :: kidsOf (H b) → x ∈ a :: ks → False) : Ok C Hs (A ++ [a]) (g ++ [.rws ls]) σ H := by
  have old : ∀ (i : Nat) (s : Sl), (g ++ [Sl.rws ls])[i]? = some s → (i < g.length ∧ g[i]? = some s) ∨ (i = g.length ∧ s = .rws ls) := fun i s e => by
    by_cases hi : i < g.length
    · rw [List.getElem?_append_left hi] at e; exact .inl ⟨hi, e⟩
    · rw [List.getElem?_append_right (by omega)] at e
      have : i - g.length = 0 := by
        have := (List.getElem?_eq_some_iff.mp e).1
        simp at this; omega
      rw [this] at e
      exact .inr ⟨by omega, (Option.some.inj e).symm⟩
  have pre := Pre.app A [a]
  have last : (A ++ [a])[g.length]? = some a := by rw [← ok.la]; simp
  have alt : ∀ {i : Nat}, i < g.length → (A ++ [a])[i]? = A[i]? := fun {i} hi => List.getElem?_append_left (by rw [ok.la]; exact hi)
  refine ⟨ok.ln, by rw [List.length_append]; have := ok.lg; omega, by simp [ok.la], ok.base, ok.same, fun i d e => ?_, fun i d e => ?_, fun i c' p l e => ?_, fun i j c1 p1 l1 c2 p2 l2 a' e1 e2 h1 h2 => ?_, ok.grow, ok.keep, fun q hq => ?_, fun i c' l a' e ha => ?_, fun q hq => ?_, fun i ms e => ?_⟩
  · rcases old i _ e with ⟨_, e⟩ | ⟨_, e⟩
    · exact ok.dat i d e
    · cases e
  · rcases old i _ e with ⟨_, e⟩ | ⟨_, e⟩
    · obtain ⟨a', q1, q2, q3⟩ := ok.frz i d e
      exact ⟨a', pre _ _ q1, q2, q3⟩
    · cases e
  · rcases old i _ e with ⟨_, e⟩ | ⟨_, e⟩
    · obtain ⟨a', o', q1, q2⟩ := ok.own i c' p l e
      exact ⟨a', o', pre _ _ q1, q2⟩
    · cases e
  · rcases old i _ e1 with ⟨hi, e1⟩ | ⟨_, e1⟩
    · rcases old j _ e2 with ⟨hj, e2⟩ | ⟨_, e2⟩
      · rw [alt hi] at h1
        rw [alt hj] at h2
        exact ok.inj i j _ _ _ _ _ _ a' e1 e2 h1 h2
      · cases e2
    · cases e1
  · obtain ⟨c', l, h1, h2⟩ := ok.pinned q hq
    have hi := (List.getElem?_eq_some_iff.mp h1).1
    exact ⟨c', l, by rw [List.getElem?_append_left hi]; exact h1, pre _ _ h2⟩
  · rcases old i _ e with ⟨hi, e⟩ | ⟨_, e⟩
    · rw [alt hi] at ha
      exact ok.pin1 i c' l a' e ha
    · cases e
  · obtain ⟨p, h1, h2⟩ := ok.locked q hq
    have hi := (List.getElem?_eq_some_iff.mp h1).1
    exact ⟨p, by rw [List.getElem?_append_left hi]; exact h1, pre _ _ h2⟩
  · rcases old i _ e with ⟨hi, e⟩ | ⟨ei, e⟩
    · obtain ⟨b, bs, r1, r2, r3, r4, r5⟩ := ok.rws i ms e
      refine ⟨b, bs, pre _ _ r1, r2, r3, fun k c p l y ek ay m => ?_, fun k ns y x ek ay m1 m2 => ?_⟩
      · rcases old k _ ek with ⟨hk, ek⟩ | ⟨_, ek⟩
        · rw [alt hk] at ay
          exact r4 k c p l y ek ay m
        · cases ek
      · rcases old k _ ek with ⟨hk, ek⟩ | ⟨ek', ek⟩
        · rw [alt hk] at ay
          exact r5 k ns y x ek ay m1 m2
        · subst ek'
          rw [last] at ay
          cases ay
          rw [k0.hd, kidsOf_refs] at m1
          exact (hnr i ms b x e r1 (by rw [r3.hd, kidsOf_refs]; exact m2) m1).elim
    · cases e
      subst ei
      refine ⟨a, ks, last, fun hi => absurd hi (by have := ok.lg; omega), k0, fun k c p l y ek ay m => ?_, fun k ns y x ek ay m1 m2 => ?_⟩
      · rcases old k _ ek with ⟨hk, ek⟩ | ⟨_, ek⟩
        · rw [alt hk] at ay
          exact hno k c p l y ek ay m
        · cases ek
      · rcases old k _ ek with ⟨hk, ek⟩ | ⟨ek', _⟩
        · rw [alt hk] at ay
          exact (hnr k ns y x ek ay m1 m2).elim
        · exact ek'
/-- .. becomes the slot's own -/
theorem Ok.moveR (ok : Ok C Hs A g σ H) {t : Nat} {ls : List (List D)} {a : Addr} (hf : freeAt j g = true) (hj : j < C.n) (ht : C.n ≤ t) (e0 : g[t]? = some (.rws ls)) (ha0 : A[t]? = some a) :
    Ok C Hs (A.set j a) ((g.set j (.rws ls)).set t .un) (σ.set j (some (.ref a))) H := by
  have htl := (List.getElem?_eq_some_iff.mp e0).1
  have hjl := freeAt_lt hf
  have jt : j ≠ t := by omega
  have oc : ∀ {i : Nat} {s : Sl}, ((g.set j (.rws ls)).set t .un)[i]? = some s → (i = t ∧ s = .un) ∨ (i = j ∧ s = .rws ls) ∨ (i ≠ t ∧ i ≠ j ∧ g[i]? = some s) := fun {i s} e => by
    rcases set_some e with ⟨ei, e, _⟩ | ⟨ne, e⟩
    · exact .inl ⟨ei, e⟩
    · rcases set_some e with ⟨ei, e, _⟩ | ⟨ne2, e⟩
      · exact .inr (.inl ⟨ei, e⟩)
      · exact .inr (.inr ⟨ne, ne2, e⟩)
  have A1 : (A.set j a)[j]? = some a := List.getElem?_set_self (by rw [ok.la]; exact hjl)
  have A2 : ∀ (i : Nat), i ≠ j → (A.set j a)[i]? = A[i]? := fun i ne => List.getElem?_set_ne (Ne.symm ne)
  have S2 : ∀ (i : Nat), i ≠ j → (σ.set j (some (V.ref a)))[i]? = σ[i]? := fun i ne => List.getElem?_set_ne (Ne.symm ne)
  obtain ⟨a0, ks, q1, q2, q3, q4, q5⟩ := ok.rws t ls e0
  rw [ha0] at q1
  have ea : a = a0 := Option.some.inj q1
  subst ea
  refine ⟨by rw [List.length_set]; exact ok.ln, by rw [List.length_set, List.length_set]; exact ok.lg, by rw [List.length_set, List.length_set, List.length_set]; exact ok.la, ok.base, ok.same, fun i d e => ?_, fun i d e => ?_, fun i c' p l e => ?_, fun i k c1 p1 l1 c2 p2 l2 a' e1' e2' h1 h2 => ?_, ok.grow, ok.keep, fun q hq => ?_, fun i c' l a' e ha => ?_, fun q hq => ?_, fun i ms e => ?_⟩
  · rcases oc e with ⟨_, e⟩ | ⟨_, e⟩ | ⟨_, ne, e⟩
    · cases e
    · cases e
    · rw [S2 i ne]; exact ok.dat i d e
  · rcases oc e with ⟨_, e⟩ | ⟨_, e⟩ | ⟨_, ne, e⟩
    · cases e
    · cases e
    · rw [S2 i ne, A2 i ne]; exact ok.frz i d e
  · rcases oc e with ⟨_, e⟩ | ⟨ei, e⟩ | ⟨_, ne, e⟩
    · cases e
    · cases e
    · rw [S2 i ne, A2 i ne]; exact ok.own i c' p l e
  · rcases oc e1' with ⟨_, e1⟩ | ⟨ei, e1⟩ | ⟨nt, ne, e1⟩
    · cases e1
    · cases e1
    · rcases oc e2' with ⟨_, e2⟩ | ⟨ek, e2⟩ | ⟨nt2, ne2, e2⟩
      · cases e2
      · cases e2
      · rw [A2 i ne] at h1
        rw [A2 k ne2] at h2
        exact ok.inj i k _ _ _ _ _ _ a' e1 e2 h1 h2
  · obtain ⟨c', l, h1, h2⟩ := ok.pinned q hq
    have n1 : q.1 ≠ j := fun z => by rw [z] at h1; exact freeAt_pin hf h1
    have n2 : q.1 ≠ t := fun z => by rw [z, e0] at h1; cases h1
    refine ⟨c', l, ?_, by rw [A2 _ n1]; exact h2⟩
    rw [List.getElem?_set_ne (Ne.symm n2), List.getElem?_set_ne (Ne.symm n1)]
    exact h1
  · rcases oc e with ⟨_, e⟩ | ⟨ei, e⟩ | ⟨_, ne, e⟩
    · cases e
    · cases e
    · rw [A2 i ne] at ha
      exact ok.pin1 i c' l a' e ha
  · obtain ⟨p, h1, h2⟩ := ok.locked q hq
    have n1 : q.1 ≠ j := fun z => by rw [z] at h1; exact freeAt_lock hf h1
    have n2 : q.1 ≠ t := fun z => by rw [z, e0] at h1; cases h1
    refine ⟨p, ?_, by rw [A2 _ n1]; exact h2⟩
    rw [List.getElem?_set_ne (Ne.symm n2), List.getElem?_set_ne (Ne.symm n1)]
    exact h1
  · rcases oc e with ⟨_, e⟩ | ⟨ei, e⟩ | ⟨nt, ne, e⟩
    · cases e
    · cases e
      subst ei
      refine ⟨a, ks, A1, fun _ => List.getElem?_set_self (by rw [ok.ln]; exact hj), q3, fun k c p l b ek ab => ?_, fun k ns b x ek ab m1 m2 => ?_⟩
      · rcases oc ek with ⟨_, ek⟩ | ⟨_, ek⟩ | ⟨_, nk, ek⟩
        · cases ek
        · cases ek
        · rw [A2 k nk] at ab
          exact q4 k c p l b ek ab
      · rcases oc ek with ⟨_, ek⟩ | ⟨ek', _⟩ | ⟨nt2, nk, ek⟩
        · cases ek
        · exact ek'
        · rw [A2 k nk] at ab
          exact absurd (q5 k ns b x ek ab m1 m2) nt2
    · obtain ⟨b, bs, r1, r2, r3, r4, r5⟩ := ok.rws i ms e
      refine ⟨b, bs, by rw [A2 i ne]; exact r1, by rw [S2 i ne]; exact r2, r3, fun k c p l y ek ay => ?_, fun k ns y x ek ay m1 m2 => ?_⟩
      · rcases oc ek with ⟨_, ek⟩ | ⟨_, ek⟩ | ⟨_, nk, ek⟩
        · cases ek
        · cases ek
        · rw [A2 k nk] at ay
          exact r4 k c p l y ek ay
      · rcases oc ek with ⟨_, ek⟩ | ⟨ek', ek⟩ | ⟨_, nk, ek⟩
        · cases ek
        · subst ek'
          rw [A1] at ay
          cases ay
          exact absurd (r5 t ls a x e0 ha0 m1 m2).symm nt
        · rw [A2 k nk] at ay
          exact r5 k ns y x ek ay m1 m2
end
end Z
set_option Elab.async false
set_option linter.all false
set_option maxRecDepth 100000
set_option maxHeartbeats 4000000
namespace Z
open PySem PySem.Spec PyProof.Rows L2
abbrev G := List Sl
abbrev ZM := G → Option (R × G)
abbrev ZT := G → Option (Bool × G)
abbrev ZAr := G → Option (List R × G)
def RelRs (K : PySem.W.Frag) (Hs : Hp) (A : List Addr) : List V → List R → Prop
  | [], [] => True
  | v :: vs, r :: rs => RelR K Hs A v r ∧ RelRs K Hs A vs rs
  | _, _ => False
theorem RelRs.mono {K : PySem.W.Frag} {Hs Hs' : Hp} {A A' : List Addr} (s : Same Hs Hs') (p : Pre A A') : ∀ {vs : List V} {rs : List R}, RelRs K Hs A vs rs → RelRs K Hs' A' vs rs
  | [], [], _ => trivial
  | _ :: _, _ :: _, h => ⟨h.1.mono s p, RelRs.mono s p h.2⟩
  | [], _ :: _, h => h.elim
  | _ :: _, [], h => h.elim
/-- readings by data: n the number of the def's names -/
def tZ (K : PySem.W.Frag) (n : Nat) (m : ZM) : TE := fun σ H Q => ∃ (C : Ct) (Hs : Hp) (A : List Addr) (g : G) (r : R) (g' : G), C.K = K ∧ C.n = n ∧ Ok C Hs A g σ H ∧ m g = some (r, g') ∧
  ∀ (Hs' : Hp) (A' : List Addr) (v : V) (H' : Hp), Same Hs Hs' → Pre A A' → Ok C Hs' A' g' σ H' → RelR C.K Hs' A' v r → Q v H'
def tZT (K : PySem.W.Frag) (n : Nat) (m : ZT) : TT := fun σ H Q => ∃ (C : Ct) (Hs : Hp) (A : List Addr) (g : G) (b : Bool) (g' : G), C.K = K ∧ C.n = n ∧ Ok C Hs A g σ H ∧ m g = some (b, g') ∧
  ∀ (Hs' : Hp) (A' : List Addr) (H' : Hp), Same Hs Hs' → Pre A A' → Ok C Hs' A' g' σ H' → Q b H'
def tZA (K : PySem.W.Frag) (n : Nat) (m : ZAr) : TA := fun σ H Q => ∃ (C : Ct) (Hs : Hp) (A : List Addr) (g : G) (rs : List R) (g' : G), C.K = K ∧ C.n = n ∧ Ok C Hs A g σ H ∧ m g = some (rs, g') ∧
  ∀ (Hs' : Hp) (A' : List Addr) (vs : List V) (H' : Hp), Same Hs Hs' → Pre A A' → Ok C Hs' A' g' σ H' → RelRs C.K Hs' A' vs rs → Q vs H'
theorem PE.of {X : Cx} {e : Expr} {t t' : TE} (h : PE X e t) (w : ∀ σ H Q, t' σ H Q → t σ H Q) : PE X e t' := ⟨fun pins s σ H Q I q => h.run pins s σ H Q I (w σ H Q q)⟩
theorem PT.of {X : Cx} {e : Expr} {t t' : TT} (h : PT X e t) (w : ∀ σ H Q, t' σ H Q → t σ H Q) : PT X e t' := ⟨fun pins s σ H Q I q => h.run pins s σ H Q I (w σ H Q q)⟩
theorem PW.of {X : Cx} {e : Expr} {t t' : TT} (h : PW X e t) (w : ∀ σ H Q, t' σ H Q → t σ H Q) : PW X e t' := ⟨fun wh pins s σ H Q I q => h.run wh pins s σ H Q I (w σ H Q q)⟩
theorem PA.of {X : Cx} {es : List Expr} {t t' : TA} (h : PA X es t) (w : ∀ σ H Q, t' σ H Q → t σ H Q) : PA X es t' := ⟨fun pos pins s σ H Q I q => h.run pos pins s σ H Q I (w σ H Q q)⟩
theorem PS.of {X : Cx} {st : Stmt} {t t' : TS} (h : PS X st t) (w : ∀ D σ H, t' D σ H → t D σ H) : PS X st t' := ⟨fun pins s σ H D I q => h.run pins s σ H D I (w D σ H q)⟩
theorem PSs.of {X : Cx} {st : List Stmt} {t t' : TS} (h : PSs X st t) (w : ∀ D σ H, t' D σ H → t D σ H) : PSs X st t' := ⟨fun pins s σ H D I q => h.run pins s σ H D I (w D σ H q)⟩
abbrev ZE (X : Cx) (e : Expr) (m : ZM) : Prop := PE X e (tZ X.K X.N.length m)
abbrev ZTe (X : Cx) (e : Expr) (m : ZT) : Prop := PT X e (tZT X.K X.N.length m)
abbrev ZW (X : Cx) (e : Expr) (m : ZT) : Prop := PW X e (tZT X.K X.N.length m)
abbrev ZAs (X : Cx) (es : List Expr) (m : ZAr) : Prop := PA X es (tZA X.K X.N.length m)
def D.v : D → V
  | .non => .non | .bl b => .bl b | .int i => .int i | .str s => .str ⟨s.toArray⟩ | .raw v => v
  | _ => .non
theorem D.vz {K : PySem.W.Frag} {H : Hp} {z : D} (h : z.scal = true) : Dz K H z.v z := by
  cases z with
  | non => exact .non
  | bl b => exact .bl b
  | int i => exact .int i
  | str s => exact .str s
  | raw v => exact .raw v
  | dic _ _ => exact absurd h (by simp [D.scal])
  | obj _ _ _ => exact absurd h (by simp [D.scal])
  | tup _ => exact absurd h (by simp [D.scal])
  | lst _ => exact absurd h (by simp [D.scal])
theorem Dz.v {K : PySem.W.Frag} {H : Hp} {v : V} {z : D} (s : z.scal = true) (h : Dz K H v z) : v = z.v := by
  cases h with
  | non => rfl
  | bl b => rfl
  | int i => rfl
  | str z => rfl
  | raw v => rfl
  | dic _ _ _ => exact absurd s (by simp [D.scal])
  | obj _ _ _ _ => exact absurd s (by simp [D.scal])
  | tup _ _ => exact absurd s (by simp [D.scal])
  | lst _ _ => exact absurd s (by simp [D.scal])
def zVar (i : Nat) : ZM := fun g => match g[i]? with
  | some (.dat d) => some (.dat d, g)
  | some (.frz d) => some (.dat d, g)
  | some (.own _ _ _) => some (.bor i, g)
  | some (.rws _) => some (.bor i, g)
  | _ => none
def zC (d : D) : ZM := fun g => some (.dat d, g)
section
variable {X : Cx} {pos : Pos}
theorem ze_var {i : Nat} {x : Str} (hN : X.N[i]? = some x) (h : PE X (.Name x pos) (tVar i)) : ZE X (.Name x pos) (zVar i) := by
  refine PE.of h fun σ H Q ⟨C, Hs, A, g, r, g', hK, hn, ok, e, q⟩ => ?_
  have hi : i < C.n := by rw [hn]; exact (List.getElem?_eq_some_iff.mp hN).1
  unfold zVar at e
  split at e
  · rename_i d hg
    cases e
    obtain ⟨v, h1, h2⟩ := ok.dat i d hg
    exact ⟨v, h1, q Hs A v H (Same.refl _) (Pre.refl _) ok h2⟩
  · rename_i d hg
    cases e
    obtain ⟨a, h1, h2, h3⟩ := ok.frz i d hg
    exact ⟨_, h2 hi, q Hs A _ H (Same.refl _) (Pre.refl _) ok h3⟩
  · rename_i c p l hg
    cases e
    obtain ⟨a, o, h1, h2, _⟩ := ok.own i c p l hg
    exact ⟨_, h2 hi, q Hs A _ H (Same.refl _) (Pre.refl _) ok ⟨a, h1, rfl⟩⟩
  · rename_i ls hg
    cases e
    obtain ⟨a, ks, h1, h2, _⟩ := ok.rws i ls hg
    exact ⟨_, h2 hi, q Hs A _ H (Same.refl _) (Pre.refl _) ok ⟨a, h1, rfl⟩⟩
  · cases e
theorem ze_const {e : Expr} {v : V} {d : D} (h : PE X e (tC v)) (hd : ∀ H, Dz X.K H v d) : ZE X e (zC d) := by
  refine PE.of h fun σ H Q ⟨C, Hs, A, g, r, g', hK, hn, ok, e, q⟩ => ?_
  cases e
  exact q Hs A v H (Same.refl _) (Pre.refl _) ok (by rw [hK]; exact hd Hs)
theorem ze_int {i j} : ZE X (.Constant (.int i) j pos) (zC (.int i)) := ze_const pe_int fun _ => .int i
theorem ze_bl {b j} : ZE X (.Constant (.bool b) j pos) (zC (.bl b)) := ze_const pe_bl fun _ => .bl b
theorem ze_str {x j} {s : List Nat} (hs : x = (⟨s.toArray⟩ : Str) := by decide +kernel) : ZE X (.Constant (.str x) j pos) (zC (.str s)) := by
  subst hs
  exact ze_const pe_str fun _ => .str s
/-- a name of the module -/
theorem ze_glob {x : Str} {u : Value} {v : V} {d : D} (hg : Gl X x) (hm : X.mg x = some u) (r : RelV v u) (hd : ∀ H, Dz X.K H v d) (hdb : (x == ("__debug__" : Str)) = false := by decide) : ZE X (.Name x pos) (zC d) := ze_const (pe_glob hg hm r hdb) hd
theorem ze_bltn {x : Str} {u : Value} {v : V} (hg : Gl X x) (hm : X.mg x = none) (hv : bootBuiltins x = some u) (r : RelV v u) (hn : x ≠ "__name__" := by decide) (hdb : (x == ("__debug__" : Str)) = false := by decide) : ZE X (.Name x pos) (zC (.raw v)) :=
  ze_const (pe_bltn hg hm hv r hn hdb) fun _ => .raw v
/-- r does on values what f does on data -/
def OpS (K : PySem.W.Frag) (r : R2) (f : D → D → Option D) : Prop := ∀ (H : Hp) (x y : V) (d e z : D) (Q : VK), Dz K H x d → Dz K H y e → f d e = some z → Q z.v H → r x y H Q
def zOp (f : D → D → Option D) (ma mb : ZM) : ZM := fun g => do
  let (r1, g1) ← ma g
  let (r2, g2) ← mb g1
  let d ← rd g2 r1
  let e ← rd g2 r2
  let z ← f d e
  if z.scal = true then some (.dat z, g2) else none
theorem zOp_some {f : D → D → Option D} {ma mb : ZM} {g g' : G} {r : R} (e : zOp f ma mb g = some (r, g')) :
    ∃ r1 g1 r2 d1 d2 z, ma g = some (r1, g1) ∧ mb g1 = some (r2, g') ∧ rd g' r1 = some d1 ∧ rd g' r2 = some d2 ∧ f d1 d2 = some z ∧ z.scal = true ∧ r = .dat z := by
  unfold zOp at e
  simp only [Option.bind_eq_bind, Option.bind_eq_some_iff] at e
  obtain ⟨⟨r1, g1⟩, h1, ⟨r2, g2⟩, h2, d1, h3, d2, h4, z, h5, e⟩ := e
  split at e
  · rename_i hs
    cases e
    exact ⟨r1, g1, r2, d1, d2, z, h1, h2, h3, h4, h5, hs, rfl⟩
  · cases e
variable {a b c : Expr} {ma mb mc : ZM}
/-- two in a row, then what is done with both -/
theorem tZ2 {σ : L2.St} {H : Hp} {K : PySem.W.Frag} {n : Nat} {R2' : V → V → Hp → Prop} {C : Ct} {Hs : Hp} {A : List Addr} {g g1 g2 : G} {r1 r2 : R} (hK : C.K = K) (hn : C.n = n) (ok : Ok C Hs A g σ H) (e1 : ma g = some (r1, g1)) (e2 : mb g1 = some (r2, g2))
    (q : ∀ Hs2 A2 v1 v2 H2, Same Hs Hs2 → Pre A A2 → Ok C Hs2 A2 g2 σ H2 → RelR C.K Hs2 A2 v1 r1 → RelR C.K Hs2 A2 v2 r2 → R2' v1 v2 H2) : tZ K n ma σ H fun x H1 => tZ K n mb σ H1 fun y H2 => R2' x y H2 :=
  ⟨C, Hs, A, g, r1, g1, hK, hn, ok, e1, fun Hs1 A1 v1 H1 s1 p1 ok1 rel1 => ⟨C, Hs1, A1, g1, r2, g2, hK, hn, ok1, e2, fun Hs2 A2 v2 H2 s2 p2 ok2 rel2 => q Hs2 A2 v1 v2 H2 (s1.trans s2) (p1.trans p2) ok2 (rel1.mono s2 p2) rel2⟩⟩
theorem zop_of {r : R2} {f : D → D → Option D} {e : Expr} (h : PE X e (tOp r (tZ X.K X.N.length ma) (tZ X.K X.N.length mb))) (hf : OpS X.K r f) : ZE X e (zOp f ma mb) := by
  refine PE.of h fun σ H Q ⟨C, Hs, A, g, r, g', hK, hn, ok, e, q⟩ => ?_
  obtain ⟨r1, g1, r2, d1, d2, z, h1, h2, h3, h4, h5, h6, rfl⟩ := zOp_some e
  refine tZ2 hK hn ok h1 h2 fun Hs2 A2 v1 v2 H2 s p ok2 w1 w2 => ?_
  have x1 := ok2.rd w1 h3
  have x2 := ok2.rd w2 h4
  rw [hK] at x1 x2
  exact hf H2 v1 v2 d1 d2 z Q x1 x2 h5 (q Hs2 A2 z.v H2 s p ok2 (D.vz h6))
theorem ze_op {op : Operator} {r : R2} {f : D → D → Option D} (ho : OpR X (binaryOp op) r) (hf : OpS X.K r f) (ha : ZE X a ma) (hb : ZE X b mb) : ZE X (.BinOp a op b pos) (zOp f ma mb) := zop_of (pe_op ho ha hb) hf
theorem ze_cmp {op : CmpOp} {r : R2} {f : D → D → Option D} (ho : OpR X (compareOp op) r) (hf : OpS X.K r f) (ha : ZE X a ma) (hb : ZE X b mb) (hm : behindInMarks op b = false) : ZE X (.Compare a [op] [b] pos) (zOp f ma mb) := zop_of (pe_cmpR ho ha hb hm) hf
def isB : R → Option Bool
  | .dat (.bl b) => some b
  | _ => none
theorem isB_some {r : R} {b : Bool} (h : isB r = some b) : r = .dat (.bl b) := by
  unfold isB at h
  split at h
  · cases h; rfl
  · cases h
/-- a value that is a bool, as a test -/
def zTst (m : ZM) : ZT := fun g => do
  let (r, g1) ← m g
  let b ← isB r
  some (b, g1)
theorem zTst_some {m : ZM} {g g' : G} {b : Bool} (e : zTst m g = some (b, g')) : m g = some (.dat (.bl b), g') := by
  unfold zTst at e
  simp only [Option.bind_eq_bind, Option.bind_eq_some_iff] at e
  obtain ⟨⟨r, g1⟩, h1, b', h2, e⟩ := e
  cases e
  have h3 : r = .dat (.bl b) := isB_some h2
  rw [h3] at h1
  exact h1
theorem tst_of {m : ZM} {σ : L2.St} {H : Hp} {K : PySem.W.Frag} {n : Nat} {Q : Bool → Hp → Prop} (h : tZT K n (zTst m) σ H Q) : tZ K n m σ H fun x H1 => ∃ k, x = .bl k ∧ Q k H1 := by
  obtain ⟨C, Hs, A, g, b, g', hK, hn, ok, e, q⟩ := h
  refine ⟨C, Hs, A, g, _, _, hK, hn, ok, zTst_some e, fun Hs1 A1 v1 H1 s1 p1 ok1 rel1 => ?_⟩
  have e1 : v1 = .bl b := (show Dz C.K Hs1 v1 (.bl b) from rel1).v rfl
  exact ⟨b, e1, q Hs1 A1 H1 s1 p1 ok1⟩
theorem zt_cmp {op : CmpOp} {r : R2} {f : D → D → Option D} (ho : OpR X (compareOp op) r) (hf : OpS X.K r f) (ha : ZE X a ma) (hb : ZE X b mb) (hm : behindInMarks op b = false) : ZTe X (.Compare a [op] [b] pos) (zTst (zOp f ma mb)) := by
  refine PT.of (pt_cmpR (r := fun x y H Q => r x y H Q) ho ha hb hm) fun σ H Q h => ?_
  have h2 := tst_of h
  obtain ⟨C, Hs, A, g, r, g', hK, hn, ok, e, q⟩ := h2
  obtain ⟨r1, g1, r2, d1, d2, z, h1, h2, h3, h4, h5, h6, rfl⟩ := zOp_some e
  refine tZ2 (R2' := fun x y H2 => _) hK hn ok h1 h2 fun Hs2 A2 v1 v2 H2 s p ok2 w1 w2 => ?_
  have x1 := ok2.rd w1 h3
  have x2 := ok2.rd w2 h4
  rw [hK] at x1 x2
  exact hf H2 v1 v2 d1 d2 z _ x1 x2 h5 (q Hs2 A2 z.v H2 s p ok2 (D.vz h6))
def tru : D → Option Bool
  | .non => some false
  | .bl b => some b
  | .int i => some (i != 0)
  | .str s => if s.length ≤ sizeLine then some ((s.length : Int) != 0) else none
  | .lst l => some (!l.isEmpty)
  | .tup l => some (!l.isEmpty)
  | .raw _ => none
  | .dic _ _ => none
  | .obj _ _ _ => none
theorem DzA.empty {K : PySem.W.Frag} {H : Hp} {vs : List V} {ds : List D} (h : DzA K H vs ds) : vs.isEmpty = ds.isEmpty := by cases h <;> rfl
theorem tru_of {K : PySem.W.Frag} {H : Hp} {v : V} {d : D} {b : Bool} (h : Dz K H v d) (e : tru d = some b) : TruV K v H b := by
  cases h with
  | non => cases e; rfl
  | bl c => cases e; rfl
  | int i => cases e; rfl
  | str s =>
    have e : (if s.length ≤ sizeLine then some ((s.length : Int) != 0) else none) = some b := e
    split at e
    · rename_i hs
      cases e
      exact ⟨by simpa [Str.length] using hs, by simp [Str.length]⟩
    · cases e
  | lst hs ha => cases e; exact .inl ⟨_, hs, by rw [ha.empty]⟩
  | tup hs ha => cases e; exact .inr (.inl ⟨_, hs, by rw [ha.empty]⟩)
  | raw v => cases e
  | dic _ _ _ => cases e
  | obj _ _ _ _ => cases e
def zTru (m : ZM) : ZT := fun g => do
  let (r, g1) ← m g
  let d ← rd g1 r
  let b ← tru d
  some (b, g1)
theorem zt_truth {e : Expr} {m : ZM} (h : ZE X e m) (he : ∀ whole, isTrue e X.env whole = (do let v ← whole; standAt e.pos; holding [v] (truthy v)) := by intro _; rfl) : ZTe X e (zTru m) := by
  refine PT.of (pt_truth h he) fun σ H Q ⟨C, Hs, A, g, b, g', hK, hn, ok, e, q⟩ => ?_
  unfold zTru at e
  simp only [Option.bind_eq_bind, Option.bind_eq_some_iff] at e
  obtain ⟨⟨r, g1⟩, h1, d, h2, b', h3, e⟩ := e
  cases e
  refine ⟨C, Hs, A, g, _, _, hK, hn, ok, h1, fun Hs1 A1 v1 H1 s1 p1 ok1 rel1 => ?_⟩
  have x := ok1.rd rel1 h2
  rw [hK] at x
  exact ⟨b, tru_of x h3, q Hs1 A1 H1 s1 p1 ok1⟩
def zAndT (s t : ZT) : ZT := fun g => do
  let (b, g1) ← s g
  if b = true then t g1 else some (false, g1)
def zOrT (s t : ZT) : ZT := fun g => do
  let (b, g1) ← s g
  if b = true then some (true, g1) else t g1
def zNotT (s : ZT) : ZT := fun g => do
  let (b, g1) ← s g
  some (!b, g1)
variable {sA sB : ZT} {rest : List Expr}
theorem zw_and1 (ha : ZTe X a sA) : ZW X (.BoolOp .And [a] pos) sA := pw_and1 ha
theorem zw_or1 (ha : ZTe X a sA) : ZW X (.BoolOp .Or [a] pos) sA := pw_or1 ha
theorem zw_and (ha : ZTe X a sA) (hb : ZW X (.BoolOp .And (b :: rest) pos) sB) : ZW X (.BoolOp .And (a :: b :: rest) pos) (zAndT sA sB) := by
  refine PW.of (pw_and ha hb) fun σ H Q ⟨C, Hs, A, g, b, g', hK, hn, ok, e, q⟩ => ?_
  unfold zAndT at e
  simp only [Option.bind_eq_bind, Option.bind_eq_some_iff] at e
  obtain ⟨⟨b1, g1⟩, h1, e⟩ := e
  refine ⟨C, Hs, A, g, b1, g1, hK, hn, ok, h1, fun Hs1 A1 H1 s1 p1 ok1 => ?_⟩
  cases b1 with
  | true => exact ⟨C, Hs1, A1, g1, b, g', hK, hn, ok1, e, fun Hs2 A2 H2 s2 p2 ok2 => q Hs2 A2 H2 (s1.trans s2) (p1.trans p2) ok2⟩
  | false =>
    cases e
    exact q Hs1 A1 H1 s1 p1 ok1
theorem zw_or (ha : ZTe X a sA) (hb : ZW X (.BoolOp .Or (b :: rest) pos) sB) : ZW X (.BoolOp .Or (a :: b :: rest) pos) (zOrT sA sB) := by
  refine PW.of (pw_or ha hb) fun σ H Q ⟨C, Hs, A, g, b, g', hK, hn, ok, e, q⟩ => ?_
  unfold zOrT at e
  simp only [Option.bind_eq_bind, Option.bind_eq_some_iff] at e
  obtain ⟨⟨b1, g1⟩, h1, e⟩ := e
  refine ⟨C, Hs, A, g, b1, g1, hK, hn, ok, h1, fun Hs1 A1 H1 s1 p1 ok1 => ?_⟩
  cases b1 with
  | false => exact ⟨C, Hs1, A1, g1, b, g', hK, hn, ok1, e, fun Hs2 A2 H2 s2 p2 ok2 => q Hs2 A2 H2 (s1.trans s2) (p1.trans p2) ok2⟩
  | true =>
    cases e
    exact q Hs1 A1 H1 s1 p1 ok1
theorem zt_w {e : Expr} (h : ZW X e sA) : ZTe X e sA := h.pt
theorem zt_not (ha : ZTe X a sA) : ZTe X (.UnaryOp .Not a pos) (zNotT sA) := by
  refine PT.of (pt_not ha) fun σ H Q ⟨C, Hs, A, g, b, g', hK, hn, ok, e, q⟩ => ?_
  unfold zNotT at e
  simp only [Option.bind_eq_bind, Option.bind_eq_some_iff] at e
  obtain ⟨⟨b1, g1⟩, h1, e⟩ := e
  cases e
  exact ⟨C, Hs, A, g, b1, _, hK, hn, ok, h1, fun Hs1 A1 H1 s1 p1 ok1 => q Hs1 A1 H1 s1 p1 ok1⟩
/-- .. as values -/
def zAndV (ma mb : ZM) : ZM := fun g => do
  let (r, g1) ← ma g
  let b ← isB r
  if b = true then mb g1 else some (.dat (.bl false), g1)
def zOrV (ma mb : ZM) : ZM := fun g => do
  let (r, g1) ← ma g
  let b ← isB r
  if b = true then some (.dat (.bl true), g1) else mb g1
def zNotV (ma : ZM) : ZM := fun g => do
  let (r, g1) ← ma g
  let b ← isB r
  some (.dat (.bl (!b)), g1)
theorem ze_one {op} (h : ZE X a ma) : ZE X (.BoolOp op [a] pos) ma := pe_one h
theorem ze_and (ha : ZE X a ma) (hb : ZE X (.BoolOp .And (b :: rest) pos) mb) : ZE X (.BoolOp .And (a :: b :: rest) pos) (zAndV ma mb) := by
  refine PE.of (pe_and ha hb) fun σ H Q ⟨C, Hs, A, g, r, g', hK, hn, ok, e, q⟩ => ?_
  unfold zAndV at e
  simp only [Option.bind_eq_bind, Option.bind_eq_some_iff] at e
  obtain ⟨⟨r1, g1⟩, h1, b1, h2, e⟩ := e
  have := isB_some h2
  subst this
  refine ⟨C, Hs, A, g, _, g1, hK, hn, ok, h1, fun Hs1 A1 v1 H1 s1 p1 ok1 rel1 => ⟨b1, (show Dz C.K Hs1 v1 (.bl b1) from rel1).v rfl, ?_⟩⟩
  cases b1 with
  | true => exact ⟨C, Hs1, A1, g1, r, g', hK, hn, ok1, e, fun Hs2 A2 v2 H2 s2 p2 ok2 => q Hs2 A2 v2 H2 (s1.trans s2) (p1.trans p2) ok2⟩
  | false =>
    cases e
    exact q Hs1 A1 _ H1 s1 p1 ok1 (.bl false)
theorem ze_or (ha : ZE X a ma) (hb : ZE X (.BoolOp .Or (b :: rest) pos) mb) : ZE X (.BoolOp .Or (a :: b :: rest) pos) (zOrV ma mb) := by
  refine PE.of (pe_or ha hb) fun σ H Q ⟨C, Hs, A, g, r, g', hK, hn, ok, e, q⟩ => ?_
  unfold zOrV at e
  simp only [Option.bind_eq_bind, Option.bind_eq_some_iff] at e
  obtain ⟨⟨r1, g1⟩, h1, b1, h2, e⟩ := e
  have := isB_some h2
  subst this
  refine ⟨C, Hs, A, g, _, g1, hK, hn, ok, h1, fun Hs1 A1 v1 H1 s1 p1 ok1 rel1 => ⟨b1, (show Dz C.K Hs1 v1 (.bl b1) from rel1).v rfl, ?_⟩⟩
  cases b1 with
  | false => exact ⟨C, Hs1, A1, g1, r, g', hK, hn, ok1, e, fun Hs2 A2 v2 H2 s2 p2 ok2 => q Hs2 A2 v2 H2 (s1.trans s2) (p1.trans p2) ok2⟩
  | true =>
    cases e
    exact q Hs1 A1 _ H1 s1 p1 ok1 (.bl true)
theorem ze_not (ha : ZE X a ma) : ZE X (.UnaryOp .Not a pos) (zNotV ma) := by
  refine PE.of (pe_not ha) fun σ H Q ⟨C, Hs, A, g, r, g', hK, hn, ok, e, q⟩ => ?_
  unfold zNotV at e
  simp only [Option.bind_eq_bind, Option.bind_eq_some_iff] at e
  obtain ⟨⟨r1, g1⟩, h1, b1, h2, e⟩ := e
  have := isB_some h2
  subst this
  cases e
  exact ⟨C, Hs, A, g, _, _, hK, hn, ok, h1, fun Hs1 A1 v1 H1 s1 p1 ok1 rel1 => ⟨b1, (show Dz C.K Hs1 v1 (.bl b1) from rel1).v rfl, q Hs1 A1 _ H1 s1 p1 ok1 (.bl (!b1))⟩⟩
/-- a if t else b -/
def zIf (t : ZT) (ma mb : ZM) : ZM := fun g => do
  let (b, g1) ← t g
  if b = true then ma g1 else mb g1
theorem ze_if (hc : ZTe X c sA) (ha : ZE X a ma) (hb : ZE X b mb) : ZE X (.IfExp c a b pos) (zIf sA ma mb) := by
  refine PE.of (pe_ifExp hc ha hb) fun σ H Q ⟨C, Hs, A, g, r, g', hK, hn, ok, e, q⟩ => ?_
  unfold zIf at e
  simp only [Option.bind_eq_bind, Option.bind_eq_some_iff] at e
  obtain ⟨⟨b1, g1⟩, h1, e⟩ := e
  refine ⟨C, Hs, A, g, b1, g1, hK, hn, ok, h1, fun Hs1 A1 H1 s1 p1 ok1 => ?_⟩
  cases b1 with
  | true => exact ⟨C, Hs1, A1, g1, r, g', hK, hn, ok1, e, fun Hs2 A2 v2 H2 s2 p2 ok2 => q Hs2 A2 v2 H2 (s1.trans s2) (p1.trans p2) ok2⟩
  | false => exact ⟨C, Hs1, A1, g1, r, g', hK, hn, ok1, e, fun Hs2 A2 v2 H2 s2 p2 ok2 => q Hs2 A2 v2 H2 (s1.trans s2) (p1.trans p2) ok2⟩
/-- a one-place operation -/
def zUn (f : D → Option D) (ma : ZM) : ZM := fun g => do
  let (r1, g1) ← ma g
  let d ← rd g1 r1
  let z ← f d
  if z.scal = true then some (.dat z, g1) else none
/-- a op1 b op2 c -/
def zChain (f f' : D → D → Option D) (ma mb mc : ZM) : ZM := fun g => do
  let (r1, g1) ← ma g
  let (r2, g2) ← mb g1
  let d ← rd g2 r1
  let e ← rd g2 r2
  let z ← f d e
  match z with
  | .bl true => do
    let (r3, g3) ← mc g2
    let e2 ← rd g3 r2
    let h ← rd g3 r3
    let z2 ← f' e2 h
    if z2.scal = true then some (.dat z2, g3) else none
  | .bl false => some (.dat (.bl false), g2)
  | _ => none
def zNil : ZAr := fun g => some ([], g)
def zCons (ma : ZM) (mr : ZAr) : ZAr := fun g => do
  let (r, g1) ← ma g
  let (rs, g2) ← mr g1
  some (r :: rs, g2)
theorem za_nil : ZAs X [] zNil := by
  refine PA.of pa_nil fun σ H Q ⟨C, Hs, A, g, rs, g', hK, hn, ok, e, q⟩ => ?_
  cases e
  exact q Hs A [] H (Same.refl _) (Pre.refl _) ok trivial
variable {es : List Expr} {mr : ZAr}
theorem za_cons (ha : ZE X a ma) (hr : ZAs X es mr) (hs : starEach (a :: es) X.env = (false, eval a X.env) :: starEach es X.env := by rfl) : ZAs X (a :: es) (zCons ma mr) := by
  refine PA.of (pa_cons ha hr hs) fun σ H Q ⟨C, Hs, A, g, rs, g', hK, hn, ok, e, q⟩ => ?_
  unfold zCons at e
  simp only [Option.bind_eq_bind, Option.bind_eq_some_iff] at e
  obtain ⟨⟨r1, g1⟩, h1, ⟨rs2, g2⟩, h2, e⟩ := e
  cases e
  exact ⟨C, Hs, A, g, r1, g1, hK, hn, ok, h1, fun Hs1 A1 v1 H1 s1 p1 ok1 rel1 => ⟨C, Hs1, A1, g1, rs2, _, hK, hn, ok1, h2, fun Hs2 A2 vs H2 s2 p2 ok2 rel2 =>
    q Hs2 A2 (v1 :: vs) H2 (s1.trans s2) (p1.trans p2) ok2 ⟨rel1.mono s2 p2, rel2⟩⟩⟩
/-- all are read as data -/
def rdAll (g : G) : List R → Option (List D)
  | [] => some []
  | r :: rs => do
    let d ← rdX g r
    let ds ← rdAll g rs
    some (d :: ds)
theorem rdAll_ok {C : Ct} {Hs : Hp} {A : List Addr} {g : G} {σ : L2.St} {H : Hp} (ok : Ok C Hs A g σ H) : ∀ {vs : List V} {rs : List R} {ds : List D}, RelRs C.K Hs A vs rs → rdAll g rs = some ds → DzA C.K H vs ds
  | [], [], ds, _, e => by cases e; exact .nil
  | v :: vs, r :: rs, ds, h, e => by
    unfold rdAll at e
    simp only [Option.bind_eq_bind, Option.bind_eq_some_iff] at e
    obtain ⟨d, h1, ds', h2, e⟩ := e
    cases e
    exact .cons (ok.rdX h.1 h1) (rdAll_ok ok h.2 h2)
  | [], _ :: _, _, h, _ => h.elim
  | _ :: _, [], _, h, _ => h.elim
/-- all become data -/
def frzAll : List R → G → Option (List D × G)
  | [], g => some ([], g)
  | r :: rs, g => do
    let (d, g1) ← frzR r g
    let (ds, g2) ← frzAll rs g1
    some (d :: ds, g2)
theorem frzAll_ok {C : Ct} {A : List Addr} {σ : L2.St} {H : Hp} : ∀ {g g' : G} {Hs : Hp} {vs : List V} {rs : List R} {ds : List D}, Ok C Hs A g σ H → RelRs C.K Hs A vs rs → frzAll rs g = some (ds, g') → ∃ Hs', Same Hs Hs' ∧ Ok C Hs' A g' σ H ∧ DzA C.K Hs' vs ds
  | g, g', Hs, [], [], ds, ok, _, e => by cases e; exact ⟨Hs, Same.refl _, ok, .nil⟩
  | g, g', Hs, v :: vs, r :: rs, ds, ok, h, e => by
    unfold frzAll at e
    simp only [Option.bind_eq_bind, Option.bind_eq_some_iff] at e
    obtain ⟨⟨d, g1⟩, h1, ⟨ds', g2⟩, h2, e⟩ := e
    cases e
    obtain ⟨Hs1, s1, ok1, z1⟩ := ok.frzR h.1 h1
    obtain ⟨Hs2, s2, ok2, z2⟩ := frzAll_ok ok1 (h.2.mono s1 (Pre.refl _)) h2
    exact ⟨Hs2, s1.trans s2, ok2, .cons (z1.mono s2) z2⟩
  | _, _, _, [], _ :: _, _, _, h, _ => h.elim
  | _, _, _, _ :: _, [], _, _, h, _ => h.elim
def zTup (ma : ZAr) : ZM := fun g => do
  let (rs, g1) ← ma g
  let (ds, g2) ← frzAll rs g1
  if ds.length ≤ sizeLine then some (.dat (.tup ds), g2) else none
def zLst (ma : ZAr) : ZM := fun g => do
  let (rs, g1) ← ma g
  let (ds, g2) ← frzAll rs g1
  if ds.length ≤ sizeLine then some (.bor g2.length, g2 ++ [.own (.lst ds) false false]) else none
theorem ze_tup {x1} {mr : ZAr} (h : ZAs X es mr) : ZE X (.Tuple es x1 pos) (zTup mr) := by
  refine PE.of (pe_tup h) fun σ H Q ⟨C, Hs, A, g, r, g', hK, hn, ok, e, q⟩ => ?_
  unfold zTup at e
  simp only [Option.bind_eq_bind, Option.bind_eq_some_iff] at e
  obtain ⟨⟨rs, g1⟩, h1, ⟨ds, g2⟩, h2, e⟩ := e
  split at e
  · rename_i hz
    cases e
    refine ⟨C, Hs, A, g, rs, g1, hK, hn, ok, h1, fun Hs1 A1 vs H1 s1 p1 ok1 rel1 => ?_⟩
    obtain ⟨Hs2, s2, ok2, z2⟩ := frzAll_ok ok1 rel1 h2
    refine ⟨by rw [z2.length]; exact hz, fun p hp => ?_⟩
    obtain ⟨ok3, s3⟩ := ok2.lay (o := .tup vs) hp
    exact q _ A1 (.ref p) _ ((s1.trans s2).trans s3) p1 ok3 (.tup (SqT.of upd_same) (z2.mono s3))
  · cases e
theorem Ok.tmpR {C : Ct} {Hs : Hp} {A : List Addr} {g : G} {σ : L2.St} {H : Hp} (ok : Ok C Hs A g σ H) (p : Addr) : RelR C.K Hs (A ++ [p]) (.ref p) (.bor g.length) := ⟨p, by rw [← ok.la]; simp, rfl⟩
theorem ze_lst {mr : ZAr} (h : ZAs X es mr) : ZE X (.List es pos) (zLst mr) := by
  refine PE.of (pe_lst h) fun σ H Q ⟨C, Hs, A, g, r, g', hK, hn, ok, e, q⟩ => ?_
  unfold zLst at e
  simp only [Option.bind_eq_bind, Option.bind_eq_some_iff] at e
  obtain ⟨⟨rs, g1⟩, h1, ⟨ds, g2⟩, h2, e⟩ := e
  split at e
  · rename_i hz
    cases e
    refine ⟨C, Hs, A, g, rs, g1, hK, hn, ok, h1, fun Hs1 A1 vs H1 s1 p1 ok1 rel1 => ?_⟩
    obtain ⟨Hs2, s2, ok2, z2⟩ := frzAll_ok ok1 rel1 h2
    refine ⟨by rw [z2.length]; exact hz, fun p hp => ?_⟩
    exact q _ (A1 ++ [p]) (.ref p) _ (s1.trans s2) (p1.trans (Pre.app _ _)) (ok2.tmp (o := .lst vs) (c := .lst ds) hp z2) (ok2.tmpR p)
  · cases e
def CallS (K : PySem.W.Frag) (r : List V → Hp → VK → Prop) (f : List D → Option D) : Prop := ∀ (H : Hp) (vs : List V) (ds : List D) (z : D) (Q : VK), DzA K H vs ds → f ds = some z → Q z.v H → r vs H Q
def zCallS (f : List D → Option D) (ma : ZAr) : ZM := fun g => do
  let (rs, g1) ← ma g
  let ds ← rdAll g1 rs
  let z ← f ds
  if z.scal = true then some (.dat z, g1) else none
theorem zcallS_of {r : List V → Hp → VK → Prop} {f : List D → Option D} {mr : ZAr} {e : Expr} (h : PE X e (tCB r (tZA X.K X.N.length mr))) (hf : CallS X.K r f) : ZE X e (zCallS f mr) := by
  refine PE.of h fun σ H Q ⟨C, Hs, A, g, r, g', hK, hn, ok, e, q⟩ => ?_
  unfold zCallS at e
  simp only [Option.bind_eq_bind, Option.bind_eq_some_iff] at e
  obtain ⟨⟨rs, g1⟩, h1, ds, h2, z, h3, e⟩ := e
  split at e
  · rename_i hs
    cases e
    refine ⟨C, Hs, A, g, rs, _, hK, hn, ok, h1, fun Hs1 A1 vs H1 s1 p1 ok1 rel1 => ?_⟩
    have x := rdAll_ok ok1 rel1 h2
    rw [hK] at x
    exact hf H1 vs ds z Q x h3 (q Hs1 A1 z.v H1 s1 p1 ok1 (D.vz hs))
  · cases e
theorem ze_callB {x : Str} {p : Pos} {id : String} {r : List V → Hp → VK → Prop} {f : List D → Option D} {mr : ZAr} (hc : CallR X (.builtin id) r) (hf : CallS X.K r f) (hg : Gl X x) (hm : X.mg x = none) (hv : bootBuiltins x = some (.builtin id)) (ha : ZAs X (a :: es) mr)
    (hn : x ≠ "__name__" := by decide) (hdb : (x == ("__debug__" : Str)) = false := by decide) (he : starEach (a :: es) X.env = (false, eval a X.env) :: starEach es X.env := by rfl) (hpl : (backTo pos (starEach es X.env)).any (·.1) = false := by rfl) :
    ZE X (.Call (.Name x p) (a :: es) [] pos) (zCallS f mr) := zcallS_of (pe_callB hc hg hm hv ha hn hdb he hpl) hf
theorem ze_callTy {x : Str} {p : Pos} {T : String} {r : List V → Hp → VK → Prop} {f : List D → Option D} {mr : ZAr} (hc : CallR X (.type T) r) (hf : CallS X.K r f) (hg : Gl X x) (hm : X.mg x = none) (hv : bootBuiltins x = some (.type T)) (ha : ZAs X (a :: es) mr)
    (hn : x ≠ "__name__" := by decide) (hdb : (x == ("__debug__" : Str)) = false := by decide) (he : starEach (a :: es) X.env = (false, eval a X.env) :: starEach es X.env := by rfl) (hpl : (backTo pos (starEach es X.env)).any (·.1) = false := by rfl) :
    ZE X (.Call (.Name x p) (a :: es) [] pos) (zCallS f mr) := zcallS_of (pe_callTy hc hg hm hv ha hn hdb he hpl) hf
/-- methods of texts with a plain answer -/
def MtS (K : PySem.W.Frag) (r : V → List V → Hp → VK → Prop) (f : D → List D → Option D) : Prop := ∀ (H : Hp) (x : V) (vs : List V) (d : D) (ds : List D) (z : D) (Q : VK), Dz K H x d → DzA K H vs ds → f d ds = some z → Q z.v H → r x vs H Q
def tyD (T : String) : D → Bool
  | .str _ => T == "str"
  | .int _ => T == "int"
  | .lst _ => T == "list"
  | _ => false
theorem tyD_of {K : PySem.W.Frag} {H : Hp} {T : String} {x : V} {d : D} (h : Dz K H x d) (e : tyD T d = true) : tyV K T x H := by
  cases h with
  | str s => exact (beq_iff_eq.mp e : T = "str")
  | int i => exact (beq_iff_eq.mp e : T = "int")
  | lst hs ha => exact .inl ⟨beq_iff_eq.mp e, _, hs⟩
  | non => exact absurd e (by simp [tyD])
  | bl _ => exact absurd e (by simp [tyD])
  | tup _ _ => exact absurd e (by simp [tyD])
  | raw _ => exact absurd e (by simp [tyD])
  | dic _ _ _ => exact absurd e (by simp [tyD])
  | obj _ _ _ _ => exact absurd e (by simp [tyD])
def zMt (T : String) (f : D → List D → Option D) (mo : ZM) (ma : ZAr) : ZM := fun g => do
  let (r, g1) ← mo g
  let d ← rd g1 r
  if tyD T d = true then do
    let (rs, g2) ← ma g1
    let d2 ← rd g2 r
    let ds ← rdAll g2 rs
    let z ← f d2 ds
    if z.scal = true then some (.dat z, g2) else none
  else none
theorem zmt_of {T : String} {r : V → List V → Hp → VK → Prop} {f : D → List D → Option D} {mo : ZM} {mr : ZAr} (hf : MtS X.K r f) {σ : L2.St} {H : Hp} {Q : VK} (h : tZ X.K X.N.length (zMt T f mo mr) σ H Q) :
    tBM X.K T r (tZ X.K X.N.length mo) (tZA X.K X.N.length mr) σ H Q := by
  obtain ⟨C, Hs, A, g, r, g', hK, hn, ok, e, q⟩ := h
  unfold zMt at e
  simp only [Option.bind_eq_bind, Option.bind_eq_some_iff] at e
  obtain ⟨⟨r1, g1⟩, h1, d, h2, e⟩ := e
  split at e
  · rename_i ht
    simp only [Option.bind_eq_some_iff] at e
    obtain ⟨⟨rs, g2⟩, h3, d2, h4, ds, h5, z, h6, e⟩ := e
    split at e
    · rename_i hs
      cases e
      refine ⟨C, Hs, A, g, r1, g1, hK, hn, ok, h1, fun Hs1 A1 v1 H1 s1 p1 ok1 rel1 => ?_⟩
      have x := ok1.rd rel1 h2
      rw [hK] at x
      refine ⟨tyD_of x ht, C, Hs1, A1, g1, rs, _, hK, hn, ok1, h3, fun Hs2 A2 vs H2 s2 p2 ok2 rel2 => ?_⟩
      have y := ok2.rd (rel1.mono s2 p2) h4
      have w := rdAll_ok ok2 rel2 h5
      rw [hK] at y w
      exact hf H2 v1 vs d2 ds z Q y w h6 (q Hs2 A2 z.v H2 (s1.trans s2) (p1.trans p2) ok2 (D.vz hs))
    · cases e
  · cases e
theorem ze_mt {o : Expr} {name : Str} {apos : Pos} {T id : String} {r : V → List V → Hp → VK → Prop} {f : D → List D → Option D} {mo : ZM} {mr : ZAr} (pa : PlainAttrs T) (slot : Slot T name id) (hty : typeOf (.builtin id) = pure (.type "method_descriptor")) (hm : MtR X id r) (hf : MtS X.K r f)
    (ho : ZE X o mo) (ha : ZAs X (a :: es) mr)
    (hbase : attributeBase o name X.env (eval o X.env) = eval o X.env := by rfl)
    (hfew : ((backTo pos (starEach (a :: es) X.env)).all (fun x => !x.1) && (backToKw pos (keywordEach [] X.env)).all (fun x => x.1.isSome)
      && decide ((a :: es).length + ([] : List Keyword).length + (if ([] : List Keyword).isEmpty then 0 else 1) < 30)) = true := by rfl)
    (hline : (apos.endLine == pos.line) = true := by rfl) (hs : starEach (a :: es) X.env = (false, eval a X.env) :: starEach es X.env := by rfl) (hplain : (backTo pos (starEach es X.env)).any (·.1) = false := by rfl) :
    ZE X (.Call (.Attribute o name apos) (a :: es) [] pos) (zMt T f mo mr) :=
  PE.of (pe_bm pa slot hty hm ho ha hbase hfew hline hs hplain) fun σ H Q h => zmt_of hf h
end
end Z
set_option Elab.async false
set_option linter.all false
set_option maxRecDepth 100000
set_option maxHeartbeats 4000000
namespace Z
open PySem PySem.Spec PyProof.Rows L2
theorem relB {K : PySem.W.Frag} {Hs : Hp} {A : List Addr} {a : Addr} {j : Nat} (h : A[j]? = some a) : RelR K Hs A (.ref a) (.bor j) := ⟨a, h, rfl⟩
inductive Fl where
  | nx | ret (r : R) | bk | ct
  deriving Inhabited
abbrev SM := G → Option (Fl × G)
def FlP (C : Ct) (Hs : Hp) (g' : G) (D : Ends) : Fl → Prop
  | .nx => ∀ (Hs' : Hp) (A' : List Addr) (σ' : L2.St) (H' : Hp), Same Hs Hs' → Ok C Hs' A' g' σ' H' → D.nx σ' H'
  | .bk => ∀ (Hs' : Hp) (A' : List Addr) (σ' : L2.St) (H' : Hp), Same Hs Hs' → Ok C Hs' A' g' σ' H' → D.bk σ' H'
  | .ct => ∀ (Hs' : Hp) (A' : List Addr) (σ' : L2.St) (H' : Hp), Same Hs Hs' → Ok C Hs' A' g' σ' H' → D.ct σ' H'
  | .ret r => ∀ (Hs' : Hp) (A' : List Addr) (σ' : L2.St) (H' : Hp) (v : V), Same Hs Hs' → Ok C Hs' A' g' σ' H' → RelR C.K Hs' A' v r → D.rt v H'
theorem FlP.mono {C : Ct} {Hs Hs1 : Hp} {g' : G} {D : Ends} {fl : Fl} (s : Same Hs Hs1) (h : FlP C Hs g' D fl) : FlP C Hs1 g' D fl := by
  cases fl with
  | nx => exact fun Hs' A' σ' H' s1 ok => h Hs' A' σ' H' (s.trans s1) ok
  | bk => exact fun Hs' A' σ' H' s1 ok => h Hs' A' σ' H' (s.trans s1) ok
  | ct => exact fun Hs' A' σ' H' s1 ok => h Hs' A' σ' H' (s.trans s1) ok
  | ret r => exact fun Hs' A' σ' H' v s1 ok => h Hs' A' σ' H' v (s.trans s1) ok
def tZS (K : PySem.W.Frag) (n : Nat) (s : SM) : TS := fun D σ H => ∃ (C : Ct) (Hs : Hp) (A : List Addr) (g : G) (fl : Fl) (g' : G), C.K = K ∧ C.n = n ∧ Ok C Hs A g σ H ∧ s g = some (fl, g') ∧ FlP C Hs g' D fl
abbrev ZS (X : Cx) (st : Stmt) (s : SM) : Prop := PS X st (tZS X.K X.N.length s)
abbrev ZSs (X : Cx) (st : List Stmt) (s : SM) : Prop := PSs X st (tZS X.K X.N.length s)
def zNx : SM := fun g => some (.nx, g)
def zBk : SM := fun g => some (.bk, g)
def zCt : SM := fun g => some (.ct, g)
def zSeq (s t : SM) : SM := fun g => do
  let (fl, g1) ← s g
  match fl with
  | .nx => t g1
  | fl => some (fl, g1)
def zRet (m : ZM) : SM := fun g => do
  let (r, g1) ← m g
  some (.ret r, g1)
def zIfS (n : Nat) (t : ZT) (s1 s2 : SM) : SM := fun g => do
  let (b, g1) ← t g
  if b = true then s1 (g1.take n) else s2 (g1.take n)
/-- a value goes to the slot i -/
def setR (n i : Nat) (r : R) (g : G) : Option G := match r with
  | .dat d => setDat i d g
  | .bor j => if n ≤ j then
      match g[j]? with
      | some (.own c false false) => if freeAt i g = true then some ((g.set i (.own c false false)).set j .un) else none
      | some (.frz d) => setDat i d g
      | some (.rws ls) => if freeAt i g = true then some ((g.set i (.rws ls)).set j .un) else none
      | _ => none
    else do
      let (d, g1) ← frzAt j g
      setDat i d g1
def zSet (n i : Nat) (m : ZM) : SM := fun g => do
  let (r, g1) ← m g
  let g2 ← setR n i r g1
  some (.nx, g2.take n)
section
variable {X : Cx} {pos : Pos} {st : Stmt} {rest : List Stmt} {s t : SM} {m : ZM}
theorem zss_nil : ZSs X [] zNx := by
  refine PSs.of pss_nil fun D σ H ⟨C, Hs, A, g, fl, g', hK, hn, ok, e, q⟩ => ?_
  cases e
  exact q Hs A σ H (Same.refl _) ok
theorem seq_of {D : Ends} {σ : L2.St} {H : Hp} {K : PySem.W.Frag} {n : Nat} (h : tZS K n (zSeq s t) D σ H) : tSeq (tZS K n s) (tZS K n t) D σ H := by
  obtain ⟨C, Hs, A, g, fl, g', hK, hn, ok, e, q⟩ := h
  unfold zSeq at e
  simp only [Option.bind_eq_bind, Option.bind_eq_some_iff] at e
  obtain ⟨⟨fl1, g1⟩, h1, e⟩ := e
  refine ⟨C, Hs, A, g, fl1, g1, hK, hn, ok, h1, ?_⟩
  cases fl1 with
  | nx => exact fun Hs' A' σ' H' s1 ok1 => ⟨C, Hs', A', g1, fl, g', hK, hn, ok1, e, q.mono s1⟩
  | bk => cases e; exact q
  | ct => cases e; exact q
  | ret r => cases e; exact q
theorem zss_cons (h1 : ZS X st s) (h2 : ZSs X rest t) : ZSs X (st :: rest) (zSeq s t) := PSs.of (pss_cons h1 h2) fun D σ H h => seq_of h
theorem zss_one (h1 : ZS X st s) : ZSs X [st] s := pss_one h1
theorem zs_ret {e : Expr} (he : ZE X e m) : ZS X (.Return (some e) pos) (zRet m) := by
  refine PS.of (ps_ret he) fun D σ H ⟨C, Hs, A, g, fl, g', hK, hn, ok, e, q⟩ => ?_
  unfold zRet at e
  simp only [Option.bind_eq_bind, Option.bind_eq_some_iff] at e
  obtain ⟨⟨r1, g1⟩, h1, e⟩ := e
  cases e
  exact ⟨C, Hs, A, g, r1, _, hK, hn, ok, h1, fun Hs1 A1 v1 H1 s1 p1 ok1 rel1 => q Hs1 A1 σ H1 v1 s1 ok1 rel1⟩
theorem zs_if {c : Expr} {a b : List Stmt} {tc : ZT} (hc : ZTe X c tc) (ha : ZSs X a s) (hb : ZSs X b t) : ZS X (.If c a b pos) (zIfS X.N.length tc s t) := by
  refine PS.of (ps_if hc ha hb) fun D σ H ⟨C, Hs, A, g, fl, g', hK, hn, ok, e, q⟩ => ?_
  unfold zIfS at e
  simp only [Option.bind_eq_bind, Option.bind_eq_some_iff] at e
  obtain ⟨⟨b1, g1⟩, h1, e⟩ := e
  refine ⟨C, Hs, A, g, b1, g1, hK, hn, ok, h1, fun Hs1 A1 H1 s1 p1 ok1 => ?_⟩
  have ok2 := ok1.cut
  rw [hn] at ok2
  cases b1 with
  | true => exact ⟨C, Hs1, _, _, fl, g', hK, hn, ok2, e, q.mono s1⟩
  | false => exact ⟨C, Hs1, _, _, fl, g', hK, hn, ok2, e, q.mono s1⟩
theorem Ok.setR {C : Ct} {Hs : Hp} {A : List Addr} {g g' : G} {σ : L2.St} {H : Hp} {i : Nat} {v : V} {r : R} (ok : Ok C Hs A g σ H) (hi : i < C.n) (h : RelR C.K Hs A v r) (e : setR C.n i r g = some g') :
    ∃ Hs' A', Same Hs Hs' ∧ Ok C Hs' A' g' (σ.set i (some v)) H := by
  unfold Z.setR at e
  cases r with
  | dat d => exact ⟨Hs, A, Same.refl _, ok.set e hi h⟩
  | bor j =>
    obtain ⟨a, ha, rfl⟩ := (show ∃ a, A[j]? = some a ∧ v = .ref a from h)
    simp only at e
    split at e
    · rename_i hj
      split at e
      · rename_i c hg
        split at e
        · rename_i hf
          cases e
          exact ⟨Hs, _, Same.refl _, ok.move hf hi hj hg ha⟩
        · cases e
      · rename_i d hg
        obtain ⟨a', h1, _, h3⟩ := ok.frz j d hg
        rw [ha] at h1
        have e1 : a = a' := Option.some.inj h1
        subst e1
        exact ⟨Hs, A, Same.refl _, ok.set e hi h3⟩
      · rename_i ls hg
        split at e
        · rename_i hf
          cases e
          exact ⟨Hs, _, Same.refl _, ok.moveR hf hi hj hg ha⟩
        · cases e
      · cases e
    · simp only [Option.bind_eq_bind, Option.bind_eq_some_iff] at e
      obtain ⟨⟨d, g1⟩, h1, e⟩ := e
      obtain ⟨Hs', a', s, ok', h2, dz⟩ := ok.frzAt h1
      rw [ha] at h2
      have e1 : a = a' := Option.some.inj h2
      subst e1
      exact ⟨Hs', A, s, ok'.set e hi dz⟩
theorem set_of {i : Nat} {D : Ends} {σ : L2.St} {H : Hp} {K : PySem.W.Frag} {n : Nat} (hi : i < n) (h : tZS K n (zSet n i m) D σ H) : tAsg (tZ K n m) (gName i) D σ H := by
  obtain ⟨C, Hs, A, g, fl, g', hK, hn, ok, e, q⟩ := h
  unfold zSet at e
  simp only [Option.bind_eq_bind, Option.bind_eq_some_iff] at e
  obtain ⟨⟨r1, g1⟩, h1, g2, h2, e⟩ := e
  cases e
  refine ⟨C, Hs, A, g, r1, g1, hK, hn, ok, h1, fun Hs1 A1 v1 H1 s1 p1 ok1 rel1 => ?_⟩
  rw [← hn] at h2
  obtain ⟨Hs2, A2, s2, ok2⟩ := ok1.setR (by rw [hn]; exact hi) rel1 h2
  have ok3 := ok2.cut
  rw [hn] at ok3
  exact q Hs2 _ _ H1 (s1.trans s2) ok3
/-- name = value -/
theorem zs_set {i : Nat} {x : Str} {e : Expr} {pos' : Pos} (hN : X.N.Nodup) (hi : X.N[i]? = some x) (hx : Loc X.env.scope x) (he : ZE X e m) (hs : swapsWith e (some (.Name x pos')) pos.line X.env = pure false := by rfl) (hf : X.fn x = true ∨ X.env.scope.names.lookup x = some .local := by first | exact .inl rfl | exact .inr rfl | assumption) :
    ZS X (.Assign [.Name x pos'] e pos) (zSet X.N.length i m) :=
  PS.of (ps_set hN hi hx he hs hf) fun D σ H h => set_of (List.getElem?_eq_some_iff.mp hi).1 h
def zAug (n i : Nat) (f : D → D → Option D) (m : ZM) : SM := fun g => do
  let (r0, _) ← zVar i g
  let d ← rd g r0
  if d.scal = true then do
    let (r, g1) ← m g
    let e ← rd g1 r
    let z ← f d e
    if z.scal = true then do
      let g2 ← setDat i z g1
      some (.nx, g2.take n)
    else none
  else none
abbrev TD := D → G → Option G
def tZG (K : PySem.W.Frag) (n : Nat) (tg : TD) : TG := fun v σ H Q => ∃ (C : Ct) (Hs : Hp) (A : List Addr) (g : G) (d : D) (g' : G), C.K = K ∧ C.n = n ∧ Ok C Hs A g σ H ∧ Dz K Hs v d ∧ tg d g = some g' ∧
  ∀ (σ' : L2.St), Ok C Hs A g' σ' H → Q σ' H
abbrev ZG (X : Cx) (e : Expr) (tg : TD) : Prop := PG X e (tZG X.K X.N.length tg)
abbrev TDs := List D → G → Option G
def tZGs (K : PySem.W.Frag) (n : Nat) (tg : TDs) : TGs := fun vs σ H Q => ∃ (C : Ct) (Hs : Hp) (A : List Addr) (g : G) (ds : List D) (g' : G), C.K = K ∧ C.n = n ∧ Ok C Hs A g σ H ∧ DzA K Hs vs ds ∧ tg ds g = some g' ∧
  ∀ (σ' : L2.St), Ok C Hs A g' σ' H → Q σ' H
abbrev ZGs (X : Cx) (es : List Expr) (tg : TDs) : Prop := PGs X es (tZGs X.K X.N.length tg)
theorem PG.of {e : Expr} {t t' : TG} (h : PG X e t) (w : ∀ v σ H Q, t' v σ H Q → t v σ H Q) : PG X e t' := ⟨fun pins s σ H v u Q I r q => h.run pins s σ H v u Q I r (w v σ H Q q)⟩
theorem PGs.of {es : List Expr} {t t' : TGs} (h : PGs X es t) (w : ∀ v σ H Q, t' v σ H Q → t v σ H Q) : PGs X es t' := ⟨fun pins s σ H v u Q I r q => h.run pins s σ H v u Q I r (w v σ H Q q)⟩
def gN (i : Nat) : TD := fun d g => setDat i d g
theorem zg_name {i : Nat} {x : Str} (hN : X.N.Nodup) (hi : X.N[i]? = some x) (hx : Loc X.env.scope x) (hf : X.fn x = true ∨ X.env.scope.names.lookup x = some .local := by first | exact .inl rfl | exact .inr rfl | assumption) : ZG X (.Name x pos) (gN i) := by
  refine PG.of (pg_name hN hi hx hf) fun v σ H Q ⟨C, Hs, A, g, d, g', hK, hn, ok, hd, e, q⟩ => ?_
  rw [← hK] at hd
  exact q _ (ok.set e (by rw [hn]; exact (List.getElem?_eq_some_iff.mp hi).1) hd)
def gNil' : TDs := fun ds g => match ds with
  | [] => some g
  | _ => none
def gCons' (t : TD) (u : TDs) : TDs := fun ds g => match ds with
  | d :: ds => do
    let g1 ← t d g
    u ds g1
  | [] => none
theorem zgs_nil : ZGs X [] gNil' := by
  refine PGs.of pgs_nil fun vs σ H Q ⟨C, Hs, A, g, ds, g', hK, hn, ok, hd, e, q⟩ => ?_
  cases ds with
  | nil =>
    cases hd
    cases e
    exact ⟨rfl, q σ ok⟩
  | cons _ _ => cases e
theorem zgs_cons {e : Expr} {es : List Expr} {t : TD} {u : TDs} (h1 : ZG X e t) (h2 : ZGs X es u)
    (hs : (assignEach (e :: es) X.env).map (·.2) = assign e X.env :: (assignEach es X.env).map (·.2) := by rfl) : ZGs X (e :: es) (gCons' t u) := by
  refine PGs.of (pgs_cons h1 h2 hs) fun vs σ H Q ⟨C, Hs, A, g, ds, g', hK, hn, ok, hd, e, q⟩ => ?_
  cases hd with
  | nil => cases e
  | cons h1 h2 =>
    simp only [gCons', Option.bind_eq_bind, Option.bind_eq_some_iff] at e
    obtain ⟨g1, e1, e2⟩ := e
    exact ⟨_, _, rfl, C, Hs, A, g, _, g1, hK, hn, ok, h1, e1, fun σ1 ok1 => ⟨C, Hs, A, g1, _, g', hK, hn, ok1, h2, e2, q⟩⟩
def gT (k : Nat) (u : TDs) : TD := fun d g => match d with
  | .tup ds => if ds.length = k then u ds g else none
  | _ => none
theorem zg_tup {es : List Expr} {j : Nat} {t : TDs} {k : Nat} (hc : X.calm = true) (h : ZGs X es t)
    (hn : (assignEach es X.env).length = k := by rfl) (hst : (assignEach es X.env).findIdx? (·.1) = none := by rfl) : ZG X (.Tuple es j pos) (gT k t) := by
  refine PG.of (pg_tup hc h hn hst) fun v σ H Q ⟨C, Hs, A, g, d, g', hK, hn, ok, hd, e, q⟩ => ?_
  cases hd with
  | tup hs ha =>
    simp only [gT] at e
    split at e
    · rename_i hl
      exact ⟨_, _, rfl, sameT ok.same hs, by rw [ha.length]; exact hl, C, Hs, A, g, _, g', hK, hn, ok, ha, e, q⟩
    · cases e
  | _ => cases e
/-- target = value -/
def zAsg (n : Nat) (m : ZM) (tg : TD) : SM := fun g => do
  let (r, g1) ← m g
  let (d, g2) ← frzR r g1
  let g3 ← tg d g2
  some (.nx, g3.take n)
def zApp (n : Nat) (mo me : ZM) : SM := fun g => do
  let (ro, g1) ← mo g
  match ro with
  | .bor j => match g1[j]? with
    | some (.own (.lst _) _ _) => do
      let (re, g2) ← me g1
      let (d, g3) ← frzR re g2
      match g3[j]? with
      | some (.own (.lst ds) p false) => if ds.length < sizeLine then some (.nx, (g3.set j (.own (.lst (ds ++ [d])) p false)).take n) else none
      | _ => none
    | _ => none
  | _ => none
theorem CnOk.lst_inv {K : PySem.W.Frag} {H : Hp} {ds : List D} {o : HO} (h : CnOk K H (.lst ds) o) : ∃ vs, o = .lst vs ∧ DzA K H vs ds := by
  cases o with
  | lst vs => exact ⟨vs, rfl, h⟩
  | _ => exact (show False from h).elim
/-- what stands at a borrowed list -/
theorem Ok.bor {C : Ct} {Hs : Hp} {A : List Addr} {g : G} {σ : L2.St} {H : Hp} {v : V} {j : Nat} {ds : List D} {p l : Bool} (ok : Ok C Hs A g σ H) (h : RelR C.K Hs A v (.bor j)) (e : g[j]? = some (.own (.lst ds) p l)) :
    ∃ a vs, v = .ref a ∧ A[j]? = some a ∧ H a = some (.lst vs) ∧ DzA C.K Hs vs ds := by
  obtain ⟨a, ha, rfl⟩ := (show ∃ a, A[j]? = some a ∧ v = .ref a from h)
  obtain ⟨a', o, w1, _, _, w4, w5, _⟩ := ok.own j _ _ _ e
  rw [ha] at w1
  have e1 : a = a' := Option.some.inj w1
  subst e1
  obtain ⟨vs, rfl, z⟩ := w5.lst_inv
  exact ⟨a, vs, rfl, ha, w4, z⟩
theorem zs_app {o e : Expr} {apos cpos : Pos} {mo me : ZM} (ho : ZE X o mo) (he : ZE X e me)
    (hbase : attributeBase o "append" X.env (eval o X.env) = eval o X.env := by rfl)
    (hfew : ((backTo cpos (starEach [e] X.env)).all (fun x => !x.1) && (backToKw cpos (keywordEach [] X.env)).all (fun x => x.1.isSome)
      && decide ([e].length + ([] : List Keyword).length + (if ([] : List Keyword).isEmpty then 0 else 1) < 30)) = true := by rfl)
    (hline : (apos.endLine == cpos.line) = true := by rfl) (hs : starEach [e] X.env = (false, eval e X.env) :: starEach [] X.env := by rfl) (hplain : (backTo cpos (starEach [] X.env)).any (·.1) = false := by rfl)
    (hsw : swapsWith (.Call (.Attribute o "append" apos) [e] [] cpos) none pos.line X.env = pure false := by rfl) :
    ZS X (.Expr (.Call (.Attribute o "append" apos) [e] [] cpos) pos) (zApp X.N.length mo me) := by
  refine PS.of (ps_expr (pe_bm PySem.F.plainAttrs_list PySem.F.slot_list_append PySem.F.type_list_append mt_append ho (pa_cons he pa_nil hs) hbase hfew hline hs hplain) hsw) fun D σ H ⟨C, Hs, A, g, fl, g', hK, hn, ok, e, q⟩ => ?_
  unfold zApp at e
  simp only [Option.bind_eq_bind, Option.bind_eq_some_iff] at e
  obtain ⟨⟨ro, g1⟩, h1, e⟩ := e
  cases ro with
  | dat d => cases e
  | bor j =>
    simp only at e
    split at e
    · rename_i ds0 p0 l0 hg0
      simp only [Option.bind_eq_some_iff] at e
      obtain ⟨⟨re, g2⟩, h2, ⟨d, g3⟩, h3, e⟩ := e
      split at e
      · rename_i ds p hg
        split at e
        · rename_i hz
          cases e
          refine ⟨C, Hs, A, g, _, g1, hK, hn, ok, h1, fun Hs1 A1 v1 H1 s1 p1 ok1 rel1 => ?_⟩
          obtain ⟨a, ys, ev, _, hH, _⟩ := ok1.bor rel1 hg0
          subst ev
          refine ⟨.inl ⟨rfl, ys, SqL.of hH⟩, C, Hs1, A1, g1, re, g2, hK, hn, ok1, h2, fun Hs2 A2 v2 H2 s2 p2 ok2 rel2 => ?_⟩
          obtain ⟨Hs3, s3, ok3, dz⟩ := ok2.frzR rel2 h3
          obtain ⟨a', vs, ea, hA, hH3, hz3⟩ := ok3.bor (rel1.mono (s2.trans s3) p2) hg
          cases ea
          refine ⟨a, vs, v2, rfl, rfl, hH3, by rw [hz3.length]; exact hz, ?_⟩
          have ok4 := (ok3.wr (o := .lst (vs ++ [v2])) (c' := .lst (ds ++ [d])) hg hA (show DzA C.K Hs3 (vs ++ [v2]) (ds ++ [d]) from hz3.append (.cons dz .nil))).cut
          rw [hn] at ok4
          exact q Hs3 _ σ _ ((s1.trans s2).trans s3) ok4
        · cases e
      · cases e
    · cases e
def isI : R → Option Int
  | .dat (.int i) => some i
  | _ => none
theorem isI_some {r : R} {b : Int} (h : isI r = some b) : r = .dat (.int b) := by
  unfold isI at h
  split at h
  · cases h; rfl
  · cases h
/-- xs[i] = e -/
def zSto (n : Nat) (mo mi me : ZM) : SM := fun g => do
  let (re, g1) ← me g
  let (d, g2) ← frzR re g1
  let (ro, g3) ← mo g2
  match ro with
  | .bor j => do
    let (ri, g4) ← mi g3
    let k ← isI ri
    match g4[j]? with
    | some (.own (.lst ds) p false) => match ixN ds.length k with
      | some m => some (.nx, (g4.set j (.own (.lst (ds.set m d)) p false)).take n)
      | none => none
    | _ => none
  | _ => none
theorem zs_sto {o i e : Expr} {tpos : Pos} {mo mi me : ZM} (he : ZE X e me) (ho : ZE X o mo) (hi : ZE X i mi)
    (ha : ∀ v, assign (.Subscript o i tpos) X.env v = (do
      let ov ← holding [v] (eval o X.env)
      let iv ← holding [v, ov] (eval i X.env)
      standAt tpos
      holding [v, ov, iv] (setItem ov iv v)
      release [v, ov, iv] []) := by intro _; rfl)
    (hs : swapsWithSole [.Subscript o i tpos] e pos.line X.env = pure false := by rfl) (hw : swappedStores [.Subscript o i tpos] e X.env = pure none := by rfl)
    (h1 : (assignEach [.Subscript o i tpos] X.env).map (·.2) = [assign (.Subscript o i tpos) X.env] := by rfl) : ZS X (.Assign [.Subscript o i tpos] e pos) (zSto X.N.length mo mi me) := by
  refine PS.of (ps_asg he (pg_sub ho hi set_list ha) hs hw h1) fun W σ H ⟨C, Hs, A, g, fl, g', hK, hn, ok, e, q⟩ => ?_
  unfold zSto at e
  simp only [Option.bind_eq_bind, Option.bind_eq_some_iff] at e
  obtain ⟨⟨re, g1⟩, h1, ⟨d, g2⟩, h2, ⟨ro, g3⟩, h3, e⟩ := e
  cases ro with
  | dat d => cases e
  | bor j =>
    simp only [Option.bind_eq_some_iff] at e
    obtain ⟨⟨ri, g4⟩, h4, k, hk, e⟩ := e
    have ei : ri = .dat (.int k) := isI_some hk
    subst ei
    split at e
    · rename_i ds p hg
      split at e
      · rename_i m hm
        cases e
        refine ⟨C, Hs, A, g, re, g1, hK, hn, ok, h1, fun Hs1 A1 v1 H1 s1 p1 ok1 rel1 => ?_⟩
        obtain ⟨Hs2, s2, ok2, dz⟩ := ok1.frzR rel1 h2
        refine ⟨C, Hs2, A1, g2, _, g3, hK, hn, ok2, h3, fun Hs3 A3 v3 H3 s3 p3 ok3 rel3 => ?_⟩
        refine ⟨C, Hs3, A3, g3, _, _, hK, hn, ok3, h4, fun Hs4 A4 v4 H4 s4 p4 ok4 rel4 => ?_⟩
        have ek : v4 = .int k := (show Dz C.K Hs4 v4 (.int k) from rel4).v rfl
        subst ek
        obtain ⟨a, vs, ev, hA, hH, hz⟩ := ok4.bor (rel3.mono s4 p4) hg
        subst ev
        refine ⟨a, vs, k, m, rfl, rfl, hH, by rw [hz.length]; exact hm, ?_⟩
        have ok5 := (ok4.wr (o := .lst (vs.set m v1)) (c' := .lst (ds.set m d)) hg hA (show DzA C.K Hs4 (vs.set m v1) (ds.set m d) from DzA.set ((dz.mono s3).mono s4) m hz)).cut
        rw [hn] at ok5
        exact q Hs4 _ σ _ (((s1.trans s2).trans s3).trans s4) ok5
      · cases e
    · cases e
end
end Z
set_option Elab.async false
set_option linter.all false
set_option maxRecDepth 100000
set_option maxHeartbeats 4000000
namespace Z
open PySem PySem.Spec PyProof.Rows L2
/-- the source of a walk still stands -/
def Src (K : PySem.W.Frag) (Hs0 : Hp) : Option (Addr × Cn) → Hp → Hp → Prop
  | none, Hs, H => Same Hs0 Hs ∧ Same Hs H
  | some (a, c), Hs, H => ∃ o, H a = some o ∧ CnOk K Hs c o
structure JW (K : PySem.W.Frag) (J : It) (L : List D) (St : Hp → Hp → Prop) : Prop where
  stop : ∀ Hs H (i : Nat), St Hs H → L.length ≤ i → J.stop i H
  go : ∀ Hs H (i : Nat), St Hs H → i < L.length → J.go i H
  yld : ∀ (C : Ct) (Hs : Hp) (A : List Addr) (g : G) (σ : L2.St) (H : Hp) (i : Nat) (x : V) (H' : Hp), C.K = K → Ok C Hs A g σ H → St Hs H → i < L.length → J.yld i H x H' →
    ∃ d Hs', L[i]? = some d ∧ Same Hs Hs' ∧ Ok C Hs' A g σ H' ∧ Dz K Hs' x d
def LkOk (n : Nat) (A : List Addr) (g : G) : Option Nat → Option (Addr × Cn) → Prop
  | none, none => True
  | some j, some (a, c) => A[j]? = some a ∧ (∃ p l, g[j]? = some (.own c p l)) ∧ j < n
  | _, _ => False
abbrev MI := G → Option (List D × Option Nat × G)
def tZI (K : PySem.W.Frag) (n : Nat) (mi : MI) : TI := fun σ H Rr => ∃ (C : Ct) (Hs : Hp) (A : List Addr) (g : G) (L : List D) (lk : Option Nat) (g' : G), C.K = K ∧ C.n = n ∧ Ok C Hs A g σ H ∧ mi g = some (L, lk, g') ∧
  ∀ (Hs' : Hp) (A' : List Addr) (H' : Hp) (J : It) (lk' : Option (Addr × Cn)), Same Hs Hs' → Pre A A' → Ok C Hs' A' g' σ H' → LkOk n A' g' lk lk' → JW K J L (Src K Hs' lk') → Rr J H'
abbrev ZI (X : Cx) (tg iter : Expr) (mi : MI) : Prop := PI X tg iter (tZI X.K X.N.length mi)
theorem PI.of {X : Cx} {tg iter : Expr} {t t' : TI} (h : PI X tg iter t) (w : ∀ σ H Rr, t' σ H Rr → t σ H Rr) : PI X tg iter t' := ⟨fun pins s σ H Rr I q => h.run pins s σ H Rr I (w σ H Rr q)⟩
section
variable {X : Cx} {pos : Pos} {tg : Expr} {m : ZM}
/-- lo, lo + 1, .. -/
def rgD (lo : Int) (n : Nat) : List D := (List.range n).map fun (i : Nat) => D.int (lo + (i : Int))
theorem rgD_len (lo : Int) (n : Nat) : (rgD lo n).length = n := by simp [rgD]
theorem rgD_get {lo : Int} {n i : Nat} (h : i < n) : (rgD lo n)[i]? = some (.int (lo + (i : Int))) := by simp [rgD, h]
theorem jw_range {K : PySem.W.Frag} {lo : Int} {n : Nat} {St : Hp → Hp → Prop} : JW K (Itr lo n) (rgD lo n) St where
  stop := fun Hs H i _ hi => by rw [rgD_len] at hi; exact hi
  go := fun Hs H i _ hi => by rw [rgD_len] at hi; exact hi
  yld := fun C Hs A g σ H i x H' hK ok st hi y => by
    rw [rgD_len] at hi
    obtain ⟨rfl, rfl⟩ := y
    exact ⟨_, Hs, rgD_get hi, Same.refl _, ok, .int _⟩
def rgOk (i : Int) : Bool := decide (-(2 ^ 62) ≤ i) && decide (i < 2 ^ 62)
def ziR1 (ma : ZAr) : MI := fun g => do
  let (rs, g1) ← ma g
  match rs with
  | [.dat (.int j)] => if rgOk j = true then some (rgD 0 j.toNat, none, g1) else none
  | _ => none
theorem rgOk_ok {i : Int} (h : rgOk i = true) : -(2 ^ 62) ≤ i ∧ i < 2 ^ 62 := by
  unfold rgOk at h
  rw [Bool.and_eq_true] at h
  exact ⟨of_decide_eq_true h.1, of_decide_eq_true h.2⟩
theorem relRs1 {K : PySem.W.Frag} {Hs : Hp} {A : List Addr} {vs : List V} {r : R} (h : RelRs K Hs A vs [r]) : ∃ v, vs = [v] ∧ RelR K Hs A v r := by
  cases vs with
  | nil => exact h.elim
  | cons v vs =>
    cases vs with
    | nil => exact ⟨v, rfl, h.1⟩
    | cons _ _ => exact h.2.elim
variable {a b : Expr} {ma : ZAr} {p : Pos}
theorem zi_range1 (hg : Gl X "range") (hm : X.mg "range" = none) (ha : ZAs X [a] ma) (hs : starEach [a] X.env = [(false, eval a X.env)] := by rfl) : ZI X tg (.Call (.Name "range" p) [a] [] pos) (ziR1 ma) := by
  refine PI.of (pi_range1 hg hm ha hs) fun σ H Rr ⟨C, Hs, A, g, L, lk, g', hK, hn, ok, e, q⟩ => ?_
  unfold ziR1 at e
  simp only [Option.bind_eq_bind, Option.bind_eq_some_iff] at e
  obtain ⟨⟨rs, g1⟩, h1, e⟩ := e
  refine ⟨C, Hs, A, g, rs, g1, hK, hn, ok, h1, fun Hs1 A1 vs H1 s1 p1 ok1 rel1 => ?_⟩
  simp only at e
  split at e
  · rename_i j
    split at e
    · rename_i hj
      cases e
      obtain ⟨v, rfl, w⟩ := relRs1 rel1
      have ev : v = .int j := (show Dz C.K Hs1 v (.int j) from w).v rfl
      subst ev
      exact ⟨j, rfl, (rgOk_ok hj).1, (rgOk_ok hj).2, q Hs1 A1 H1 _ none s1 p1 ok1 trivial jw_range⟩
    · cases e
  · cases e
def forL (tg : TD) (body : SM) : List D → SM
  | [], g => some (.nx, g)
  | x :: xs, g => do
    let g1 ← tg x g
    let (fl, g2) ← body g1
    match fl with
    | .nx => forL tg body xs g2
    | .ct => forL tg body xs g2
    | .bk => some (.nx, g2)
    | .ret r => some (.ret r, g2)
def unlk (j : Nat) (l : Bool) (g : G) : G := match g[j]? with
  | some (.own c p _) => g.set j (.own c p l)
  | _ => g
def zFor (n : Nat) (mi : MI) (tg : TD) (body : SM) : SM := fun g => do
  let (L, lk, g1) ← mi g
  match lk with
  | none => forL tg body L (g1.take n)
  | some j => match (g1.take n)[j]? with
    | some (.own c p l) => do
      let (fl, g3) ← forL tg body L ((g1.take n).set j (.own c p true))
      some (fl, unlk j l g3)
    | _ => none
def Ct.lock (C : Ct) (q : Nat × Addr × Cn) (h : q.1 < C.n) : Ct := { C with
  locks := q :: C.locks
  llt := fun r hr => by
    rcases List.mem_cons.mp hr with rfl | hr
    · exact h
    · exact C.llt r hr }
/-- the walk itself -/
theorem for_of {tgd : TD} {body : SM} {W : Ends} {C : Ct} {Hs1 : Hp} {A1 : List Addr} {g2 g3 : G} {σ : L2.St} {H1 : Hp} {L : List D} {J : It} {lk' : Option (Addr × Cn)} {fl : Fl} {K : PySem.W.Frag} {n : Nat} (hK : C.K = K) (hn : C.n = n)
    (ok : Ok C Hs1 A1 g2 σ H1) (jw : JW K J L (Src K Hs1 lk')) (hl : ∀ a c, lk' = some (a, c) → ∃ j, (j, a, c) ∈ C.locks) (e : forL tgd body L g2 = some (fl, g3)) (q : FlP C Hs1 g3 W fl) :
    ∃ Wi : Nat → Nat → L2.St → Hp → Prop, (∃ m, Wi 0 m σ H1) ∧ ∀ i m σ H, Wi i m σ H →
      (J.stop i H ∧ W.nx σ H) ∨ (J.go i H ∧ ∃ N : L2.St → Hp → Prop, (∀ σ' H', N σ' H' → ∃ m', m' < m ∧ Wi (i + 1) m' σ' H') ∧ ∀ x H', J.yld i H x H' → tZG K n tgd x σ H' fun σ2 H2 => tZS K n body { W with nx := N, ct := N, bk := W.nx } σ2 H2) := by
  have src : ∀ {Hs A g σ H}, Same Hs1 Hs → Ok C Hs A g σ H → Src K Hs1 lk' Hs H := fun {Hs A g σ H} s ok => by
    cases lk' with
    | none => exact ⟨s, ok.same⟩
    | some ac =>
      obtain ⟨a, c⟩ := ac
      obtain ⟨j, hj⟩ := hl a c rfl
      obtain ⟨p, h1, h2⟩ := ok.locked _ hj
      obtain ⟨a', o, w1, _, _, w4, w5, _⟩ := ok.own j c p true h1
      have : some a = some a' := h2.symm.trans w1
      cases this
      exact ⟨o, w4, by rw [← hK]; exact w5⟩
  refine ⟨fun i m σ H => m = L.length - i ∧ i ≤ L.length ∧ ∃ Hs A g, Same Hs1 Hs ∧ Ok C Hs A g σ H ∧ forL tgd body (L.drop i) g = some (fl, g3), ⟨L.length, by simp, Nat.zero_le _, Hs1, A1, g2, Same.refl _, ok, by simpa using e⟩, ?_⟩
  rintro i m σ H ⟨rfl, hi, Hs, A, g, s, ok, e⟩
  by_cases hlt : i < L.length
  · refine .inr ⟨jw.go Hs H i (src s ok) hlt, ?_⟩
    rw [List.drop_eq_getElem_cons hlt] at e
    simp only [forL, Option.bind_eq_bind, Option.bind_eq_some_iff] at e
    obtain ⟨ga, e1, ⟨flb, gb⟩, e2, e3⟩ := e
    have fin : ∀ (N : L2.St → Hp → Prop), (∀ Hs', Same Hs Hs' → FlP C Hs' gb { W with nx := N, ct := N, bk := W.nx } flb) → ∀ x H', J.yld i H x H' → tZG K n tgd x σ H' fun σ2 H2 => tZS K n body { W with nx := N, ct := N, bk := W.nx } σ2 H2 := fun N hf x H' y => by
      obtain ⟨d, Hs', hd, s', ok', dz⟩ := jw.yld C Hs A g σ H i x H' hK ok (src s ok) hlt y
      rw [List.getElem?_eq_getElem hlt] at hd
      cases hd
      exact ⟨C, Hs', A, g, _, ga, hK, hn, ok', dz, e1, fun σ2 ok2 => ⟨C, Hs', A, ga, flb, gb, hK, hn, ok2, e2, hf Hs' s'⟩⟩
    cases flb with
    | nx =>
      refine ⟨fun σ' H' => ∃ Hs' A', Same Hs1 Hs' ∧ Ok C Hs' A' gb σ' H', fun σ' H' ⟨Hs', A', s', ok'⟩ => ⟨L.length - (i + 1), by omega, rfl, hlt, Hs', A', gb, s', ok', e3⟩, fin _ fun Hs' s' => ?_⟩
      exact fun Hs2 A2 σ2 H2 s2 ok2 => ⟨Hs2, A2, (s.trans s').trans s2, ok2⟩
    | ct =>
      refine ⟨fun σ' H' => ∃ Hs' A', Same Hs1 Hs' ∧ Ok C Hs' A' gb σ' H', fun σ' H' ⟨Hs', A', s', ok'⟩ => ⟨L.length - (i + 1), by omega, rfl, hlt, Hs', A', gb, s', ok', e3⟩, fin _ fun Hs' s' => ?_⟩
      exact fun Hs2 A2 σ2 H2 s2 ok2 => ⟨Hs2, A2, (s.trans s').trans s2, ok2⟩
    | bk =>
      refine ⟨fun _ _ => False, fun _ _ z => z.elim, fin _ fun Hs' s' => ?_⟩
      cases e3
      exact fun Hs2 A2 σ2 H2 s2 ok2 => q Hs2 A2 σ2 H2 ((s.trans s').trans s2) ok2
    | ret r =>
      refine ⟨fun _ _ => False, fun _ _ z => z.elim, fin _ fun Hs' s' => ?_⟩
      cases e3
      exact fun Hs2 A2 σ2 H2 v s2 ok2 => q Hs2 A2 σ2 H2 v ((s.trans s').trans s2) ok2
  · have ei : i = L.length := by omega
    subst ei
    rw [List.drop_length] at e
    cases e
    exact .inl ⟨jw.stop Hs H _ (src s ok) (Nat.le_refl _), q Hs A σ H s ok⟩
theorem FlP.of {C C' : Ct} {Hs : Hp} {g g' : G} {W : Ends} {fl : Fl} (hK : C'.K = C.K) (h : ∀ Hs' A' σ' H', Ok C' Hs' A' g' σ' H' → Ok C Hs' A' g σ' H') (q : FlP C Hs g W fl) : FlP C' Hs g' W fl := by
  cases fl with
  | nx => exact fun Hs' A' σ' H' s ok => q Hs' A' σ' H' s (h _ _ _ _ ok)
  | bk => exact fun Hs' A' σ' H' s ok => q Hs' A' σ' H' s (h _ _ _ _ ok)
  | ct => exact fun Hs' A' σ' H' s ok => q Hs' A' σ' H' s (h _ _ _ _ ok)
  | ret r => exact fun Hs' A' σ' H' v s ok rel => q Hs' A' σ' H' v s (h _ _ _ _ ok) (by rw [← hK]; exact rel)
theorem zs_for {iter : Expr} {body : List Stmt} {mi : MI} {g : TD} {s : SM} (hp : PassesOwn (model X.prog X.w) X.A X.env X.xe) (hc : X.calm = true) (hi : ZI X tg iter mi) (hg : ZG X tg g) (hb : ZSs X body s)
    (hs : ∀ x, foldedSetIterable iter X.env x = pure x := by intro _; rfl) : ZS X (.For tg iter body [] pos) (zFor X.N.length mi g s) := by
  refine PS.of (ps_for hp hc hi hg hb hs) fun W σ H ⟨C, Hs, A, g, fl, g', hK, hn, ok, e, q⟩ => ?_
  unfold zFor at e
  simp only [Option.bind_eq_bind, Option.bind_eq_some_iff] at e
  obtain ⟨⟨L, lk, g1⟩, h1, e⟩ := e
  refine ⟨C, Hs, A, g, L, lk, g1, hK, hn, ok, h1, fun Hs1 A1 H1 J lk' s1 _p1 ok1 hl jw => ?_⟩
  have okc := ok1.cut
  rw [hn] at okc
  cases lk with
  | none =>
    cases lk' with
    | some _ => exact hl.elim
    | none =>
      exact for_of hK hn okc jw (fun _ _ z => by cases z) e (q.mono s1)
  | some j =>
    cases lk' with
    | none => exact hl.elim
    | some ac =>
      obtain ⟨a, c⟩ := ac
      obtain ⟨ha, ⟨p0, l0, hgj⟩, hj⟩ := hl
      simp only at e
      split at e
      · rename_i c' p l hg2
        rw [List.getElem?_take_of_lt hj, hgj] at hg2
        cases hg2
        simp only [Option.bind_eq_some_iff] at e
        obtain ⟨⟨fl1, g3⟩, e1, e2⟩ := e
        cases e2
        have hgc : (g1.take X.N.length)[j]? = some (.own c p0 l0) := by rw [List.getElem?_take_of_lt hj]; exact hgj
        have hac : (A1.take X.N.length)[j]? = some a := by rw [List.getElem?_take_of_lt hj]; exact ha
        have hjn : j < C.n := by rw [hn]; exact hj
        have okl : Ok (C.lock (j, a, c) hjn) Hs1 (A1.take X.N.length) ((g1.take X.N.length).set j (.own c p0 true)) σ H1 := by
          refine okc.lk hgc rfl rfl rfl rfl rfl fun r hr => ?_
          rcases List.mem_cons.mp hr with rfl | hr
          · exact .inl ⟨rfl, rfl, rfl, hac⟩
          · by_cases z : r.1 = j
            · obtain ⟨p', w1, w2⟩ := okc.locked r hr
              rw [z, hgc] at w1
              cases w1
              rw [z] at w2
              exact .inl ⟨z, rfl, rfl, w2⟩
            · exact .inr ⟨z, hr⟩
        refine for_of (C := C.lock (j, a, c) hjn) hK hn okl jw (fun a' c' z => ⟨j, by cases z; exact List.mem_cons_self⟩) e1 ?_
        refine (q.mono s1).of (C := C) rfl fun Hs' A' σ' H' ok' => ?_
        obtain ⟨p', w1, w2⟩ := ok'.locked (j, a, c) List.mem_cons_self
        unfold unlk
        rw [show g3[j]? = some (.own c p' true) from w1]
        refine ok'.lk (C' := C) w1 rfl rfl rfl rfl rfl fun r hr => ?_
        by_cases z : r.1 = j
        · obtain ⟨p2, y1, y2⟩ := okc.locked r hr
          rw [z, hgc] at y1
          have e3 : some (Sl.own c p0 l0) = some (.own r.2.2 p2 true) := y1
          cases e3
          obtain ⟨p3, x1, x2⟩ := ok'.locked r (List.mem_cons_of_mem _ hr)
          rw [z] at x2
          exact .inl ⟨z, rfl, rfl, x2⟩
        · exact .inr ⟨z, List.mem_cons_of_mem _ hr⟩
      · cases e
def whF (n : Nat) (c : ZT) (body : SM) : Nat → SM
  | 0, _ => none
  | k + 1, g => do
    let (b, g1) ← c g
    if b = true then do
      let (fl, g2) ← body (g1.take n)
      match fl with
      | .nx => whF n c body k g2
      | .ct => whF n c body k g2
      | .bk => some (.nx, g2)
      | .ret r => some (.ret r, g2)
    else some (.nx, g1.take n)
open Classical in
noncomputable def zWh (n : Nat) (c : ZT) (body : SM) : SM := fun g => if h : ∃ k, (whF n c body k g).isSome = true then whF n c body (Classical.choose h) g else none
theorem whF_mono {n : Nat} {c : ZT} {body : SM} : ∀ {k m : Nat} {g : G} {o : Fl × G}, whF n c body k g = some o → k ≤ m → whF n c body m g = some o
  | 0, _, _, _, e, _ => by cases e
  | k + 1, m + 1, g, o, e, hm => by
    simp only [whF, Option.bind_eq_bind, Option.bind_eq_some_iff] at e ⊢
    obtain ⟨⟨b, g1⟩, h1, e⟩ := e
    refine ⟨(b, g1), h1, ?_⟩
    split at e
    · rename_i hb
      simp only at hb
      simp only [if_pos hb]
      simp only [Option.bind_eq_some_iff] at e ⊢
      obtain ⟨⟨fl, g2⟩, h2, e⟩ := e
      refine ⟨(fl, g2), h2, ?_⟩
      cases fl with
      | nx => exact whF_mono e (by omega)
      | ct => exact whF_mono e (by omega)
      | bk => exact e
      | ret r => exact e
    · rename_i hb
      simp only at hb
      simp only [if_neg hb]
      exact e
  | k + 1, 0, _, _, _, hm => by omega
theorem zWh_of {n : Nat} {c : ZT} {body : SM} {k : Nat} {g : G} {o : Fl × G} (e : whF n c body k g = some o) : zWh n c body g = some o := by
  have h : ∃ k, (whF n c body k g).isSome = true := ⟨k, by rw [e]; rfl⟩
  unfold zWh
  rw [dif_pos h]
  have h2 := Classical.choose_spec h
  obtain ⟨o2, e2⟩ := Option.isSome_iff_exists.mp h2
  have a := whF_mono e (Nat.le_max_left k (Classical.choose h))
  have b := whF_mono e2 (Nat.le_max_right k (Classical.choose h))
  rw [e2, ← b, a]
theorem zWh_some {n : Nat} {c : ZT} {body : SM} {g : G} {o : Fl × G} (e : zWh n c body g = some o) : ∃ k, whF n c body k g = some o := by
  unfold zWh at e
  split at e
  · exact ⟨_, e⟩
  · cases e
theorem zs_while {c : Expr} {body : List Stmt} {tc : ZT} {s : SM} (hp : PassesOwn (model X.prog X.w) X.A X.env X.xe) (hc : ZTe X c tc) (hb : ZSs X body s) : ZS X (.While c body [] pos) (zWh X.N.length tc s) := by
  refine PS.of (ps_while hp hc hb) fun W σ H ⟨C, Hs0, A, g, fl, g', hK, hn, ok, e, q⟩ => ?_
  obtain ⟨k, e⟩ := zWh_some e
  refine ⟨fun m σ H => ∃ Hs A g, Same Hs0 Hs ∧ Ok C Hs A g σ H ∧ whF X.N.length tc s m g = some (fl, g'), ⟨k, Hs0, A, g, Same.refl _, ok, e⟩, ?_⟩
  rintro m σ H ⟨Hs, A, g, s0, ok, e⟩
  cases m with
  | zero => cases e
  | succ m =>
    simp only [whF, Option.bind_eq_bind, Option.bind_eq_some_iff] at e
    obtain ⟨⟨b, g1⟩, h1, e⟩ := e
    refine ⟨C, Hs, A, g, b, g1, hK, hn, ok, h1, fun Hs1 A1 H1 s1 p1 ok1 => ?_⟩
    have ok2 := ok1.cut
    rw [hn] at ok2
    cases b with
    | false =>
      cases e
      show if false = true then _ else W.nx σ H1
      rw [if_neg Bool.false_ne_true]
      exact q Hs1 _ σ H1 (s0.trans s1) ok2
    | true =>
      show if true = true then _ else W.nx σ H1
      rw [if_pos rfl]
      simp only [if_true, Option.bind_eq_some_iff] at e
      obtain ⟨⟨flb, g2⟩, h2, e⟩ := e
      cases flb with
      | nx =>
        refine ⟨fun σ' H' => ∃ Hs' A', Same Hs0 Hs' ∧ Ok C Hs' A' g2 σ' H', fun σ' H' ⟨Hs', A', s', ok'⟩ => ⟨m, by omega, Hs', A', g2, s', ok', e⟩, C, Hs1, _, _, _, _, hK, hn, ok2, h2, ?_⟩
        exact fun Hs2 A2 σ2 H2 s2 ok2 => ⟨Hs2, A2, (s0.trans s1).trans s2, ok2⟩
      | ct =>
        refine ⟨fun σ' H' => ∃ Hs' A', Same Hs0 Hs' ∧ Ok C Hs' A' g2 σ' H', fun σ' H' ⟨Hs', A', s', ok'⟩ => ⟨m, by omega, Hs', A', g2, s', ok', e⟩, C, Hs1, _, _, _, _, hK, hn, ok2, h2, ?_⟩
        exact fun Hs2 A2 σ2 H2 s2 ok2 => ⟨Hs2, A2, (s0.trans s1).trans s2, ok2⟩
      | bk =>
        refine ⟨fun _ _ => False, fun _ _ z => z.elim, C, Hs1, _, _, _, _, hK, hn, ok2, h2, ?_⟩
        cases e
        exact fun Hs2 A2 σ2 H2 s2 ok2 => q Hs2 A2 σ2 H2 ((s0.trans s1).trans s2) ok2
      | ret r =>
        refine ⟨fun _ _ => False, fun _ _ z => z.elim, C, Hs1, _, _, _, _, hK, hn, ok2, h2, ?_⟩
        cases e
        exact fun Hs2 A2 σ2 H2 v s2 ok2 => q Hs2 A2 σ2 H2 v ((s0.trans s1).trans s2) ok2
end
end Z
set_option Elab.async false
set_option linter.all false
set_option maxRecDepth 100000
set_option maxHeartbeats 4000000
namespace Z
open PySem PySem.Spec PyProof.Rows L2
/-- what a def hands back: data, or a new container -/
inductive FR where
  | dat (d : D) | new (c : Cn) | newR (ls : List (List D))
  deriving Inhabited
def RelF (K : PySem.W.Frag) (Hs' H H' : Hp) (v : V) : FR → Prop
  | .dat d => Dz K Hs' v d
  | .new c => ∃ a o, v = .ref a ∧ H a = none ∧ Hs' a = none ∧ H' a = some o ∧ CnOk K Hs' c o
  | .newR ls => ∃ a ks, v = .ref a ∧ Kd K Hs' H H' a ks ls
/-- the promise of a def that changes nothing -/
def spP (K : PySem.W.Frag) (f : List D → Option FR) : Sp := fun vs H Q _ => ∃ (Hs : Hp) (ds : List D) (fr : FR), Same Hs H ∧ DzA K Hs vs ds ∧ f ds = some fr ∧
  ∀ (v : V) (Hs' H' : Hp), Same Hs Hs' → Same H H' → Same Hs' H' → (∀ b o, Hs' b = some o → Hs b = some o ∨ H b = none) → RelF K Hs' H H' v fr → Q v H'
/-- .. of one that changes its k-th argument, a container -/
def spM (K : PySem.W.Frag) (k : Nat) (f : Cn → List D → Option (FR × Cn)) : Sp := fun vs H Q _ => ∃ (Hs : Hp) (ds : List D) (c c' : Cn) (a : Addr) (o : HO) (fr : FR), Same Hs H ∧ vs[k]? = some (.ref a) ∧ DzA K Hs (vs.eraseIdx k) ds ∧ Hs a = none ∧ H a = some o ∧ CnOk K Hs c o ∧ f c ds = some (fr, c') ∧
  ∀ (v : V) (Hs' H' : Hp) (o' : HO), Same Hs Hs' → (∀ b u, b ≠ a → H b = some u → H' b = some u) → Same Hs' H' → (∀ b o, Hs' b = some o → Hs b = some o ∨ H b = none) → Hs' a = none → H' a = some o' → CnOk K Hs' c' o' → RelF K Hs' H H' v fr → Q v H'
def fin (g : G) : R → Option FR
  | .dat d => some (.dat d)
  | .bor j => match g[j]? with
    | some (.own c false false) => some (.new c)
    | some (.frz d) => some (.dat d)
    | some (.rws ls) => some (.newR ls)
    | _ => none
def start0 (n : Nat) (ds : List D) : G := ds.map Sl.dat ++ List.replicate (n - ds.length) .un
def runP (n np : Nat) (s : SM) : List D → Option FR := fun ds => if ds.length = np then
    (match s (start0 n ds) with
    | some (.ret r, g) => fin g r
    | some (.nx, _) => some (.dat .non)
    | _ => none)
  else none
theorem start_len {N : List Str} {vs : List V} (h : vs.length ≤ N.length) : (L2.start N vs).length = N.length := by
  unfold L2.start
  rw [List.length_append, List.length_map, List.length_replicate]
  omega
theorem ok_start {K : PySem.W.Frag} {N : List Str} {Hs H : Hp} {vs : List V} {ds : List D} (h : ds.length ≤ N.length) (s : Same Hs H) (hz : DzA K Hs vs ds) :
    Ok { K := K, n := N.length, H0 := H, Hs0 := Hs, pins := [], locks := [], plt := fun _ h => (List.not_mem_nil h).elim, llt := fun _ h => (List.not_mem_nil h).elim } Hs (List.replicate N.length 0) (start0 N.length ds) (L2.start N vs) H := by
  have hvl := hz.length
  have old : ∀ (i : Nat) (t : Sl), (start0 N.length ds)[i]? = some t → (∃ d, ds[i]? = some d ∧ t = .dat d) ∨ t = .un := fun i t e => by
    unfold start0 at e
    by_cases hi : i < ds.length
    · rw [List.getElem?_append_left (by simpa using hi), List.getElem?_map] at e
      rw [List.getElem?_eq_getElem hi] at e
      exact .inl ⟨ds[i], List.getElem?_eq_getElem hi, (Option.some.inj e).symm⟩
    · rw [List.getElem?_append_right (by simpa using hi), List.getElem?_replicate] at e
      split at e
      · exact .inr (Option.some.inj e).symm
      · cases e
  refine ⟨start_len (by omega), by unfold start0; simp; omega, by unfold start0; simp; omega, Same.refl _, s, fun i d e => ?_, fun i d e => ?_, fun i c p l e => ?_, fun i j c p l c' p' l' a e _ _ _ => ?_, fun b o e => .inl e, fun b o e _ => e, fun _ h => (List.not_mem_nil h).elim, fun i c l a e _ => ?_, fun _ h => (List.not_mem_nil h).elim, fun i ls e => ?_⟩
  · rcases old i _ e with ⟨d', h1, h2⟩ | z
    · cases h2
      obtain ⟨v, w1, w2⟩ := hz.get h1
      refine ⟨v, ?_, w2⟩
      have hi := (List.getElem?_eq_some_iff.mp w1).1
      unfold L2.start
      rw [List.getElem?_append_left (by simpa using hi), List.getElem?_map, w1]
      rfl
    · cases z
  · rcases old i _ e with ⟨d', h1, h2⟩ | z
    · cases h2
    · cases z
  · rcases old i _ e with ⟨d', h1, h2⟩ | z
    · cases h2
    · cases z
  · rcases old i _ e with ⟨d', h1, h2⟩ | z
    · cases h2
    · cases z
  · rcases old i _ e with ⟨d', h1, h2⟩ | z
    · cases h2
    · cases z
  · rcases old i _ e with ⟨d', h1, h2⟩ | z
    · cases h2
    · cases z
theorem fin_ok {C : Ct} {Hs H' : Hp} {A : List Addr} {g : G} {σ : L2.St} {v : V} {r : R} {fr : FR} (ok : Ok C Hs A g σ H') (h : RelR C.K Hs A v r) (e : fin g r = some fr) : RelF C.K Hs C.H0 H' v fr := by
  cases r with
  | dat d => cases e; exact h
  | bor j =>
    obtain ⟨a, ha, rfl⟩ := (show ∃ a, A[j]? = some a ∧ v = .ref a from h)
    simp only [fin] at e
    split at e
    · rename_i c hg
      cases e
      obtain ⟨a', o, w1, _, w3, w4, w5, w6⟩ := ok.own j _ _ _ hg
      rw [ha] at w1
      cases w1
      exact ⟨a, o, rfl, w6 rfl, w3, w4, w5⟩
    · rename_i d hg
      cases e
      obtain ⟨a', w1, _, w3⟩ := ok.frz j _ hg
      rw [ha] at w1
      cases w1
      exact w3
    · rename_i ls hg
      cases e
      obtain ⟨a', ks, w1, _, w3, _⟩ := ok.rws j _ hg
      rw [ha] at w1
      cases w1
      exact ⟨a, ks, rfl, w3⟩
    · cases e
section
variable {P : Program} {w : World} {K : PySem.W.Frag} {mg : Str → Option Value} {base : Heap}
/-- THE RULE for a def that changes nothing -/
theorem okP {x qual : Str} {st : Stmt} {f : Addr} {fd : FuncData} {N ps : List Str} {k : Nat} {s : SM} (F : Fun K x qual st f fd) (S : FnScope N ps (defScope st))
    (hbody : ∀ (cdv : Value) (A : Around) (outer : List Env) (s0 : Shared) (H : Hp) (E : XK), Room k (A.deeper (envOfC qual (defScope st) s0.heap.objs.size f cdv)) →
      ZSs (cxOf CX0 P w K mg base N qual (defScope st) f cdv A outer s0 H E).nox (defBody st) s) : FnOk P w K mg base CX0 (k + 1) f fd ps (spP K (runP N.length ps.length s)) := by
  have arity : ∀ vs H Q E, spP K (runP N.length ps.length s) vs H Q E → vs.length = ps.length := fun vs H Q E ⟨Hs, ds, fr, _, hz, e, _⟩ => by
    unfold runP at e
    split at e
    · rename_i h
      rw [hz.length]
      exact h
    · cases e
  refine F.ok S arity (fun cdv A outer s0 H vs Q E hr h => ⟨_, hbody cdv A outer s0 H E hr, ?_⟩)
  have hal := arity vs H Q E h
  obtain ⟨Hs, ds, fr, sm, hz, e, q⟩ := h
  have hpl : ps.length ≤ N.length := by
    have := congrArg List.length S.pre
    rw [List.length_take] at this
    omega
  have hdl : ds.length ≤ N.length := by rw [← hz.length]; omega
  unfold runP at e
  rw [if_pos (by rw [← hz.length]; exact hal)] at e
  split at e
  · rename_i r g' hs
    refine ⟨_, Hs, _, start0 N.length ds, .ret r, g', rfl, rfl, ok_start hdl sm hz, hs, ?_⟩
    exact fun Hs' A' σ' H' v s1 ok1 rel1 => q v Hs' H' s1 (fun b o e => ok1.keep b o e (fun _ h => (List.not_mem_nil h).elim)) ok1.same ok1.grow (fin_ok ok1 rel1 e)
  · rename_i g' hs
    cases e
    refine ⟨_, Hs, _, start0 N.length ds, .nx, g', rfl, rfl, ok_start hdl sm hz, hs, ?_⟩
    exact fun Hs' A' σ' H' s1 ok1 => q .non Hs' H' s1 (fun b o e => ok1.keep b o e (fun _ h => (List.not_mem_nil h).elim)) ok1.same ok1.grow .non
  · cases e
/-- the def that the module's name x holds keeps a promise, by at most level k -/
def Cal (P : Program) (w : World) (K : PySem.W.Frag) (mg : Str → Option Value) (base : Heap) (k : Nat) (x : Str) (sp : Sp) : Prop :=
  ∃ (f : Addr) (fd : FuncData) (ps : List Str), mg x = some (.ref f) ∧ PySem.W.keepIn K (.ref f) = true ∧ Binds K fd ps [] ∧ FnOk P w K mg base CX0 k f fd ps sp
theorem Cal.mono {j k : Nat} {x : Str} {sp : Sp} (c : Cal P w K mg base j x sp) (h : j ≤ k) : Cal P w K mg base k x sp :=
  let ⟨f, fd, ps, h1, h2, h3, h4⟩ := c
  ⟨f, fd, ps, h1, h2, h3, h4.mono h⟩
end
theorem Ok.adopt {C : Ct} {Hs : Hp} {A : List Addr} {g : G} {σ : L2.St} {H H' : Hp} (ok : Ok C Hs A g σ H) {a : Addr} {o : HO} {c : Cn} (h : H a = none) (s : Same H H') (e : H' a = some o) (hc : CnOk C.K Hs c o) : Ok C Hs (A ++ [a]) (g ++ [.own c false false]) σ H' :=
  (ok.tmp h hc).more fun b u q => by
    by_cases z : b = a
    · subst z
      rw [upd_same] at q
      cases q
      exact e
    · rw [upd_ne z] at q
      exact s b u q
/-- .. where the known things grew too -/
theorem Ok.adoptS {C : Ct} {Hs Hs' : Hp} {A : List Addr} {g : G} {σ : L2.St} {H H' : Hp} (ok : Ok C Hs A g σ H) (s : Same H H') (s1 : Same Hs Hs') (s2 : Same Hs' H') (gr : ∀ b o, Hs' b = some o → Hs b = some o ∨ H b = none) {a : Addr} {o : HO} {c : Cn} (h : H a = none) (ha : Hs' a = none) (e : H' a = some o) (hc : CnOk C.K Hs' c o) :
    Ok C Hs' (A ++ [a]) (g ++ [.own c false false]) σ H' := by
  -- first without a
  have ok1 : Ok C Hs' A g σ (fun b => if b = a then none else H' b) := by
    refine ok.moreS (fun b u q => ?_) s1 (fun b u q => ?_) gr
    · have z : b ≠ a := fun z => by rw [z, h] at q; cases q
      show (if b = a then none else H' b) = some u
      rw [if_neg z]
      exact s b u q
    · have z : b ≠ a := fun z => by rw [z, ha] at q; cases q
      show (if b = a then none else H' b) = some u
      rw [if_neg z]
      exact s2 b u q
  refine (ok1.adopt (H' := H') (a := a) (o := o) (by show (if a = a then none else H' a) = none; rw [if_pos rfl]) (fun b u q => ?_) e hc)
  have q' : (if b = a then none else H' b) = some u := q
  split at q'
  · cases q'
  · exact q'
def zCall (f : List D → Option FR) (ma : ZAr) : ZM := fun g => do
  let (rs, g1) ← ma g
  let ds ← rdAll g1 rs
  let fr ← f ds
  match fr with
  | .dat d => if d.scal = true then some (.dat d, g1) else do
    let (ds2, g2) ← frzAll rs g1
    let fr2 ← f ds2
    match fr2 with
    | .dat d2 => some (.dat d2, g2)
    | _ => none
  | .new c => if c.scal = true then some (.bor g1.length, g1 ++ [.own c false false]) else do
    let (ds2, g2) ← frzAll rs g1
    let fr2 ← f ds2
    match fr2 with
    | .new c2 => some (.bor g2.length, g2 ++ [.own c2 false false])
    | _ => none
  | .newR _ => do
    let (ds2, g2) ← frzAll rs g1
    let fr2 ← f ds2
    match fr2 with
    | .newR ls => some (.bor g2.length, g2 ++ [.rws ls])
    | _ => none
section
variable {X : Cx} {f : List D → Option FR} {ma : ZAr}
theorem call_of {σ : L2.St} {H : Hp} {Q : VK} {E : XK} (h : tZ X.K X.N.length (zCall f ma) σ H Q) : tCall (spP X.K f) [] E (tZA X.K X.N.length ma) σ H Q := by
  obtain ⟨C, Hs, A, g, r, g', hK, hn, ok, e, q⟩ := h
  unfold zCall at e
  simp only [Option.bind_eq_bind, Option.bind_eq_some_iff] at e
  obtain ⟨⟨rs, g1⟩, h1, ds, h2, fr, h3, e⟩ := e
  refine ⟨C, Hs, A, g, rs, g1, hK, hn, ok, h1, fun Hs1 A1 vs H1 s1 p1 ok1 rel1 => ?_⟩
  show spP X.K f (vs ++ []) H1 Q E
  rw [List.append_nil]
  have plain : DzA X.K H1 vs ds := by
    have x := rdAll_ok ok1 rel1 h2
    rw [hK] at x
    exact x
  cases fr with
  | dat d =>
    simp only at e
    split at e
    · rename_i hs
      cases e
      refine ⟨H1, ds, .dat d, Same.refl _, plain, h3, fun v Hs' H' _ sH _ _ rf => ?_⟩
      exact q Hs1 A1 v H' s1 p1 (ok1.more sH) (show Dz C.K Hs1 v d from by rw [hK]; exact (show Dz X.K Hs' v d from rf).any hs)
    · simp only [Option.bind_eq_some_iff] at e
      obtain ⟨⟨ds2, g2⟩, h4, fr2, h5, e⟩ := e
      obtain ⟨Hs2, s2, ok2, z2⟩ := frzAll_ok ok1 rel1 h4
      cases fr2 with
      | new _ => cases e
      | newR _ => cases e
      | dat d2 =>
        cases e
        refine ⟨Hs2, ds2, .dat d2, ok2.same, by rw [← hK]; exact z2, h5, fun v Hs' H' sS sH sP gr rf => ?_⟩
        exact q Hs' A1 v H' ((s1.trans s2).trans sS) p1 (ok2.moreS sH sS sP gr) (show Dz C.K Hs' v d2 from by rw [hK]; exact rf)
  | new c =>
    simp only at e
    split at e
    · rename_i hs
      cases e
      refine ⟨H1, ds, .new c, Same.refl _, plain, h3, fun v Hs' H' _ sH _ _ rf => ?_⟩
      obtain ⟨a, o, rfl, w1, w2, w3, w4⟩ := rf
      have w5 : CnOk C.K Hs1 c o := by rw [hK]; exact w4.any hs
      exact q Hs1 (A1 ++ [a]) _ H' s1 (p1.trans (Pre.app _ _)) (ok1.adopt w1 sH w3 w5) (ok1.tmpR a)
    · simp only [Option.bind_eq_some_iff] at e
      obtain ⟨⟨ds2, g2⟩, h4, fr2, h5, e⟩ := e
      obtain ⟨Hs2, s2, ok2, z2⟩ := frzAll_ok ok1 rel1 h4
      cases fr2 with
      | dat _ => cases e
      | newR _ => cases e
      | new c2 =>
        cases e
        refine ⟨Hs2, ds2, .new c2, ok2.same, by rw [← hK]; exact z2, h5, fun v Hs' H' sS sH sP gr rf => ?_⟩
        obtain ⟨a, o, rfl, w1, w2, w3, w4⟩ := rf
        exact q Hs' (A1 ++ [a]) _ H' ((s1.trans s2).trans sS) (p1.trans (Pre.app _ _)) (ok2.adoptS sH sS sP gr w1 w2 w3 (by rw [hK]; exact w4)) (ok2.tmpR a)
  | newR _ =>
    simp only [Option.bind_eq_some_iff] at e
    obtain ⟨⟨ds2, g2⟩, h4, fr2, h5, e⟩ := e
    obtain ⟨Hs2, s2, ok2, z2⟩ := frzAll_ok ok1 rel1 h4
    cases fr2 with
    | dat _ => cases e
    | new _ => cases e
    | newR ls =>
      cases e
      refine ⟨Hs2, ds2, .newR ls, ok2.same, by rw [← hK]; exact z2, h5, fun v Hs' H' sS sH sP gr rf => ?_⟩
      obtain ⟨a, ks, rfl, w⟩ := rf
      rw [← hK] at w
      exact q Hs' (A1 ++ [a]) _ H' ((s1.trans s2).trans sS) (p1.trans (Pre.app _ _)) ((ok2.moreS sH sS sP gr).addR (w.low fun x m => (ok2.fresh0 (w.fr x m).2).2) (fun j c p l b e1 e2 m => ok2.deadO e1 e2 (w.fr b m).2) (fun j ms b x e1 e2 m1 m2 => ok2.deadR e1 e2 (by
        obtain ⟨a2, ks2, r1, _, r3, _⟩ := ok2.rws j ms e1
        rw [e2] at r1
        cases r1
        rw [sH _ _ r3.hd, ← r3.hd] at m1
        exact m1) (w.fr x m2).2)) (ok2.tmpR a)
theorem ze_call {k : Nat} {x : Str} {p pos : Pos} {e : Expr} {es : List Expr} (c : Cal X.prog X.w X.K X.mg X.base k x (spP X.K f)) (hr : Room k X.A) (ha : ZAs X (e :: es) ma) (hg : Gl X x := by rfl)
    (hdb : (x == ("__debug__" : Str)) = false := by decide) (he : starEach (e :: es) X.env = (false, eval e X.env) :: starEach es X.env := by rfl) (hpl : (backTo pos (starEach es X.env)).any (·.1) = false := by rfl) :
    ZE X (.Call (.Name x p) (e :: es) [] pos) (zCall f ma) := by
  obtain ⟨fa, fd, ps, h1, h2, h3, h4⟩ := c
  exact PE.of (pe_call (E := E0) h4 hr hg h1 h2 h3 .nil pass0 ha hdb he hpl) fun σ H Q h => call_of h
end
end Z
set_option Elab.async false
set_option linter.all false
set_option maxRecDepth 100000
set_option maxHeartbeats 4000000
namespace Z
open PySem PySem.Spec PyProof.Rows L2
theorem OpR.or {X : Cx} {f : Value → Value → Sem Value} {r r' : R2} (h : OpR X f r) (h' : OpR X f r') : OpR X f (fun x y H Q => r x y H Q ∨ r' x y H Q) := by
  intro pins s σ H x y v u Q I rx ry q
  rcases q with q | q
  · exact h pins s σ H x y v u Q I rx ry q
  · exact h' pins s σ H x y v u Q I rx ry q
theorem OpR.of {X : Cx} {f : Value → Value → Sem Value} {r r' : R2} (h : OpR X f r) (w : ∀ x y H Q, r' x y H Q → r x y H Q) : OpR X f r' := fun pins s σ H x y v u Q I rx ry q => h pins s σ H x y v u Q I rx ry (w _ _ _ _ q)
def subD : D → D → Option D
  | .int i, .int j => some (.int (i - j))
  | _, _ => none
theorem s_int {K : PySem.W.Frag} {g : Int → Int → D} {f : D → D → Option D} (hg : ∀ i j, (g i j).scal = true) (hf : ∀ d e z, f d e = some z → ∃ i j, d = .int i ∧ e = .int j ∧ z = g i j) : OpS K (rI0 fun i j => (g i j).v) f := by
  intro H x y d e z Q hx hy e1 q
  obtain ⟨i, j, rfl, rfl, rfl⟩ := hf d e z e1
  cases hx
  cases hy
  exact ⟨i, j, rfl, rfl, q⟩
theorem s_intC {K : PySem.W.Frag} {C : Int → Int → Prop} {g : Int → Int → D} {f : D → D → Option D} (hf : ∀ d e z, f d e = some z → ∃ i j, d = .int i ∧ e = .int j ∧ C i j ∧ z = g i j) : OpS K (rI C fun i j => (g i j).v) f := by
  intro H x y d e z Q hx hy e1 q
  obtain ⟨i, j, rfl, rfl, hc, rfl⟩ := hf d e z e1
  cases hx
  cases hy
  exact ⟨i, j, rfl, rfl, hc, q⟩
theorem s_sub {K : PySem.W.Frag} : OpS K (rI0 fun i j => .int (i - j)) subD := s_int (g := fun i j => .int (i - j)) (fun _ _ => rfl) fun d e z h => by
  unfold subD at h
  split at h
  · cases h; exact ⟨_, _, rfl, rfl, rfl⟩
  · cases h
/-- the product of two ints that the model reckons -/
def mulOk (i j : Int) : Bool := decide (i.natAbs < 2 ^ 64) || decide (j.natAbs < 2 ^ 64) || decide (i.natAbs.log2 + j.natAbs.log2 < 1000000)
theorem mulOk_ok {i j : Int} (h : mulOk i j = true) : IntMulOk i j := by
  unfold mulOk at h
  rw [Bool.or_eq_true, Bool.or_eq_true] at h
  rcases h with (h | h) | h
  · exact (show CMul i j from .inl (by have := of_decide_eq_true h; omega)).ok
  · exact (show CMul i j from .inr (by have := of_decide_eq_true h; omega)).ok
  · have h2 : i.natAbs.log2 + j.natAbs.log2 < 1000000 := of_decide_eq_true h
    exact CMulW.ok h2
def mulD : D → D → Option D
  | .int i, .int j => if mulOk i j = true then some (.int (i * j)) else none
  | _, _ => none
theorem o_mul {X : Cx} : OpR X (binaryOp .Mult) (rI (fun i j => mulOk i j = true) fun i j => .int (i * j)) := opI fun _ _ _ _ _ _ _ hc q => mul_int q (mulOk_ok hc)
theorem s_mul {K : PySem.W.Frag} : OpS K (rI (fun i j => mulOk i j = true) fun i j => .int (i * j)) mulD := s_intC (g := fun i j => .int (i * j)) fun d e z h => by
  unfold mulD at h
  split at h
  · split at h
    · cases h; exact ⟨_, _, rfl, rfl, by assumption, rfl⟩
    · cases h
  · cases h
def divOk (j : Int) : Bool := decide (j ≠ 0) && decide (j.natAbs.log2 < 9000)
def fdivV (i j : Int) : Int := if 0 < j then i / j else i.fdiv j
def fmodV (i j : Int) : Int := if 0 < j then i % j else i.fmod j
theorem fdivV_eq (i j : Int) : fdivV i j = i.fdiv j := by
  unfold fdivV
  split
  · rw [Int.fdiv_eq_ediv_of_nonneg i (by omega)]
  · rfl
theorem fmodV_eq (i j : Int) : fmodV i j = i.fmod j := by
  unfold fmodV
  split
  · rw [Int.fmod_eq_emod_of_nonneg i (by omega)]
  · rfl
def divD : D → D → Option D
  | .int i, .int j => if divOk j = true then some (.int (fdivV i j)) else none
  | _, _ => none
theorem o_div {X : Cx} : OpR X (binaryOp .FloorDiv) (rI (fun _ j => divOk j = true) fun i j => .int (fdivV i j)) := opI fun i j _ _ _ _ _ hc q => by
  have h : divOk j = true := hc
  unfold divOk at h
  rw [Bool.and_eq_true] at h
  exact floordiv_int (of_decide_eq_true h.1) (by rw [← fdivV_eq]; exact q) (.inl (PyProof.noPylong_of_log2 (of_decide_eq_true h.2)))
theorem s_div {K : PySem.W.Frag} : OpS K (rI (fun _ j => divOk j = true) fun i j => .int (fdivV i j)) divD := s_intC (g := fun i j => .int (fdivV i j)) fun d e z h => by
  unfold divD at h
  split at h
  · split at h
    · cases h; exact ⟨_, _, rfl, rfl, by assumption, rfl⟩
    · cases h
  · cases h
def modD : D → D → Option D
  | .int i, .int j => if j ≠ 0 then some (.int (fmodV i j)) else none
  | _, _ => none
theorem o_mod {X : Cx} : OpR X (binaryOp .Mod) (rI (fun _ j => j ≠ 0) fun i j => .int (fmodV i j)) := opI fun i j _ _ _ _ _ hc q => mod_int' hc (by rw [← fmodV_eq]; exact q)
theorem s_mod {K : PySem.W.Frag} : OpS K (rI (fun _ j => j ≠ 0) fun i j => .int (fmodV i j)) modD := s_intC (g := fun i j => .int (fmodV i j)) fun d e z h => by
  unfold modD at h
  split at h
  · split at h
    · cases h; exact ⟨_, _, rfl, rfl, by assumption, rfl⟩
    · cases h
  · cases h
def ltD : D → D → Option D
  | .int i, .int j => some (.bl (decide (i < j)))
  | .str a, .str b => some (.bl (decide (a < b)))
  | _, _ => none
def rLtU : R2 := fun x y H Q => (∃ i j, x = .int i ∧ y = .int j ∧ Q (.bl (decide (i < j))) H) ∨ (∃ i j, x = .str i ∧ y = .str j ∧ Q (.bl (decide (i.cps.toList < j.cps.toList))) H)
theorem o_lt {X : Cx} : OpR X (compareOp .Lt) rLtU := OpR.or op_lt op_lt_str
theorem s_lt {K : PySem.W.Frag} : OpS K rLtU ltD := by
  intro H x y d e z Q hx hy e1 q
  unfold ltD at e1
  split at e1
  · cases e1; cases hx; cases hy; exact .inl ⟨_, _, rfl, rfl, q⟩
  · cases e1; cases hx; cases hy; exact .inr ⟨_, _, rfl, rfl, q⟩
  · cases e1
def gtD : D → D → Option D
  | .int i, .int j => some (.bl (decide (j < i)))
  | .str a, .str b => some (.bl (decide (b < a)))
  | _, _ => none
def rGtU : R2 := fun x y H Q => (∃ i j, x = .int i ∧ y = .int j ∧ Q (.bl (decide (j < i))) H) ∨ (∃ i j, x = .str i ∧ y = .str j ∧ Q (.bl (decide (j.cps.toList < i.cps.toList))) H)
theorem o_gt {X : Cx} : OpR X (compareOp .Gt) rGtU := OpR.or op_gt op_gt_str
theorem s_gt {K : PySem.W.Frag} : OpS K rGtU gtD := by
  intro H x y d e z Q hx hy e1 q
  unfold gtD at e1
  split at e1
  · cases e1; cases hx; cases hy; exact .inl ⟨_, _, rfl, rfl, q⟩
  · cases e1; cases hx; cases hy; exact .inr ⟨_, _, rfl, rfl, q⟩
  · cases e1
def geD : D → D → Option D
  | .int i, .int j => some (.bl (decide (j ≤ i)))
  | .str a, .str b => some (.bl (!decide (a < b)))
  | _, _ => none
def rGeU : R2 := fun x y H Q => (∃ i j, x = .int i ∧ y = .int j ∧ Q (.bl (decide (j ≤ i))) H) ∨ (∃ i j, x = .str i ∧ y = .str j ∧ Q (.bl (!decide (i.cps.toList < j.cps.toList))) H)
theorem o_ge {X : Cx} : OpR X (compareOp .GtE) rGeU := OpR.or op_ge op_ge_str
theorem s_ge {K : PySem.W.Frag} : OpS K rGeU geD := by
  intro H x y d e z Q hx hy e1 q
  unfold geD at e1
  split at e1
  · cases e1; cases hx; cases hy; exact .inl ⟨_, _, rfl, rfl, q⟩
  · cases e1; cases hx; cases hy; exact .inr ⟨_, _, rfl, rfl, q⟩
  · cases e1
mutual
def D.eqv : D → D → Bool
  | .non, .non => true
  | .bl a, .bl b => a == b
  | .bl a, .int j => (if a then 1 else 0) == j
  | .int i, .bl b => i == (if b then 1 else 0)
  | .int i, .int j => i == j
  | .str a, .str b => a == b
  | .tup a, .tup b => D.eqvA a b
  | .lst a, .lst b => D.eqvA a b
  | _, _ => false
def D.eqvA : List D → List D → Bool
  | [], [] => true
  | x :: xs, y :: ys => D.eqv x y && D.eqvA xs ys
  | _, _ => false
end
mutual
def D.py : D → PyData
  | .non => .none | .bl b => .bool b | .int i => .int i | .str s => .str ⟨s.toArray⟩
  | .tup l => .tuple (D.pyA l) | .lst l => .list (D.pyA l) | .raw _ => .dict [] | .dic _ _ => .dict [] | .obj _ _ _ => .dict []
def D.pyA : List D → List PyData
  | [] => []
  | x :: xs => x.py :: D.pyA xs
end
theorem str_beq (a b : List Nat) : ((⟨a.toArray⟩ : Str) == ⟨b.toArray⟩) = (a == b) := by
  rw [Bool.eq_iff_iff]
  simp
mutual
theorem D.py_eqv : ∀ d e : D, PyData.eqv d.py e.py = D.eqv d e
  | .non, e => by cases e <;> simp [D.py, D.eqv, PyData.eqv]
  | .bl b, e => by cases e <;> simp [D.py, D.eqv, PyData.eqv]
  | .int i, e => by cases e <;> simp [D.py, D.eqv, PyData.eqv]
  | .str s, e => by
    cases e with
    | str t => simp only [D.py, D.eqv, PyData.eqv, str_beq]
    | _ => simp [D.py, D.eqv, PyData.eqv]
  | .tup l, e => by
    cases e with
    | tup m => simp only [D.py, D.eqv, PyData.eqv]; exact D.py_eqvA l m
    | _ => simp [D.py, D.eqv, PyData.eqv]
  | .lst l, e => by
    cases e with
    | lst m => simp only [D.py, D.eqv, PyData.eqv]; exact D.py_eqvA l m
    | _ => simp [D.py, D.eqv, PyData.eqv]
  | .raw v, e => by cases e <;> simp [D.py, D.eqv, PyData.eqv]
  | .dic _ _, e => by cases e <;> simp [D.py, D.eqv, PyData.eqv]
  | .obj _ _ _, e => by cases e <;> simp [D.py, D.eqv, PyData.eqv]
theorem D.py_eqvA : ∀ l m : List D, PyData.eqvAll (D.pyA l) (D.pyA m) = D.eqvA l m
  | [], [] => rfl
  | [], _ :: _ => rfl
  | _ :: _, [] => rfl
  | x :: xs, y :: ys => by simp only [D.pyA, PyData.eqvAll, D.eqvA, D.py_eqv x y, D.py_eqvA xs ys]
end
/-- what == can look through -/
def D.shp (d : D) : Bool := SeqAt.shaped d.py
mutual
theorem Dz.dp {K : PySem.W.Frag} {H : Hp} : ∀ {v : V} {d : D}, Dz K H v d → d.py.canLay0 = true → Dp K H v d.py
  | _, _, .non, _ => .non
  | _, _, .bl b, _ => .bl b
  | _, _, .int i, _ => .int i
  | _, _, .str s, _ => .str _
  | _, _, .tup hs ha, h => .tup hs (DzA.dp ha (by simpa [D.py, PyData.canLay0] using h))
  | _, _, .lst hs ha, h => .lst hs (DzA.dp ha (by simpa [D.py, PyData.canLay0] using h))
  | _, _, .raw v, h => by simp [D.py, PyData.canLay0] at h
  | _, _, .dic _ _ _, h => by simp [D.py, PyData.canLay0] at h
  | _, _, .obj _ _ _ _, h => by simp [D.py, PyData.canLay0] at h
theorem DzA.dp {K : PySem.W.Frag} {H : Hp} : ∀ {vs : List V} {ds : List D}, DzA K H vs ds → PyData.canLayAll0 (D.pyA ds) = true → DpAll K H vs (D.pyA ds)
  | _, _, .nil, _ => .nil
  | _, _, .cons h t, q => by
    simp only [D.pyA, PyData.canLayAll0, Bool.and_eq_true] at q
    exact .cons (Dz.dp h q.1) (DzA.dp t q.2)
end
/-- plain and no object -/
def D.pl : D → Bool
  | .non => true | .bl _ => true | .int _ => true | .str _ => true
  | _ => false
def eqOk (d e : D) : Bool := (d.pl && e.pl) || (d.shp && e.shp)
def eqD (d e : D) : Option D := if eqOk d e = true then some (.bl (D.eqv d e)) else none
def rEqU (K : PySem.W.Frag) : R2 := fun x y H Q => rEq x y H Q ∨ ((∃ b j, x = .bl b ∧ y = .int j ∧ Q (.bl ((if b then 1 else 0) == j)) H) ∨ ((∃ i b, x = .int i ∧ y = .bl b ∧ Q (.bl (i == (if b then 1 else 0))) H) ∨ rEqD K x y H Q))
theorem o_eq {X : Cx} {k : Nat} (hr : Room k X.A) : OpR X (compareOp .Eq) (rEqU X.K) := by
  refine OpR.or op_eq (OpR.or ?_ (OpR.or ?_ (op_eqD hr.units)))
  · intro pins s σ H x y v u Q I rx ry h
    obtain ⟨b, j, rfl, rfl, q⟩ := h
    cases rx
    obtain ⟨t, rfl⟩ := ry
    exact PySem.EqBoolInt.eq_bool_int (fin_bl I q rfl)
  · intro pins s σ H x y v u Q I rx ry h
    obtain ⟨i, b, rfl, rfl, q⟩ := h
    obtain ⟨t, rfl⟩ := rx
    cases ry
    exact PySem.EqBoolInt.eq_int_bool (fin_bl I q rfl)
theorem s_eq {K : PySem.W.Frag} : OpS K (rEqU K) eqD := by
  intro H x y d e z Q hx hy e1 q
  unfold eqD at e1
  split at e1
  · rename_i ho
    cases e1
    unfold eqOk at ho
    rw [Bool.or_eq_true, Bool.and_eq_true, Bool.and_eq_true] at ho
    rcases ho with ⟨p1, p2⟩ | ⟨p1, p2⟩
    · cases hx <;> cases hy <;> simp [D.pl] at p1 p2
      · exact .inl ⟨rfl, q⟩
      · exact .inl ⟨rfl, q⟩
      · exact .inl ⟨rfl, q⟩
      · exact .inl ⟨rfl, q⟩
      · exact .inl ⟨rfl, q⟩
      · exact .inl ⟨rfl, by rw [dec_bl]; exact q⟩
      · exact .inr (.inl ⟨_, _, rfl, rfl, q⟩)
      · exact .inl ⟨rfl, q⟩
      · exact .inl ⟨rfl, q⟩
      · exact .inr (.inr (.inl ⟨_, _, rfl, rfl, q⟩))
      · exact .inl ⟨rfl, by rw [dec_int]; exact q⟩
      · exact .inl ⟨rfl, q⟩
      · exact .inl ⟨rfl, q⟩
      · exact .inl ⟨rfl, q⟩
      · exact .inl ⟨rfl, q⟩
      · exact .inl ⟨rfl, by rw [dec_str, str_beq]; exact q⟩
    · refine .inr (.inr (.inr ⟨d.py, e.py, hx.dp (SeqAt.canLay_of_shaped p1), hy.dp (SeqAt.canLay_of_shaped p2), p1, p2, ?_⟩))
      rw [D.py_eqv]
      exact q
  · cases e1
def rNeU (K : PySem.W.Frag) : R2 := fun x y H Q => rNe x y H Q ∨ rNeD K x y H Q
theorem o_ne {X : Cx} {k : Nat} (hr : Room k X.A) : OpR X (compareOp .NotEq) (rNeU X.K) := OpR.or op_ne (op_neD hr.units)
/-- != asks for plain values of kinds that are told apart, or for shaped data -/
def D.kin : D → D → Bool
  | .bl _, .int _ => false
  | .int _, .bl _ => false
  | _, _ => true
def neOk (d e : D) : Bool := (d.pl && e.pl && D.kin d e) || (d.shp && e.shp)
def neqD (d e : D) : Option D := if neOk d e = true then some (.bl (!D.eqv d e)) else none
theorem s_ne {K : PySem.W.Frag} : OpS K (rNeU K) neqD := by
  intro H x y d e z Q hx hy e1 q
  unfold neqD at e1
  split at e1
  · rename_i ho
    cases e1
    unfold neOk at ho
    rw [Bool.or_eq_true, Bool.and_eq_true, Bool.and_eq_true, Bool.and_eq_true] at ho
    rcases ho with ⟨⟨p1, p2⟩, p3⟩ | ⟨p1, p2⟩
    · cases hx <;> cases hy <;> simp [D.pl, D.kin] at p1 p2 p3
      · exact .inl ⟨rfl, q⟩
      · exact .inl ⟨rfl, q⟩
      · exact .inl ⟨rfl, q⟩
      · exact .inl ⟨rfl, q⟩
      · exact .inl ⟨rfl, q⟩
      · exact .inl ⟨rfl, by rw [dec_bl]; exact q⟩
      · exact .inl ⟨rfl, q⟩
      · exact .inl ⟨rfl, q⟩
      · exact .inl ⟨rfl, by rw [dec_int]; exact q⟩
      · exact .inl ⟨rfl, q⟩
      · exact .inl ⟨rfl, q⟩
      · exact .inl ⟨rfl, q⟩
      · exact .inl ⟨rfl, q⟩
      · exact .inl ⟨rfl, by rw [dec_str, str_beq]; exact q⟩
    · refine .inr ⟨d.py, e.py, hx.dp (SeqAt.canLay_of_shaped p1), hy.dp (SeqAt.canLay_of_shaped p2), p1, p2, ?_⟩
      rw [D.py_eqv]
      exact q
  · cases e1
end Z
set_option Elab.async false
set_option linter.all false
set_option maxRecDepth 100000
set_option maxHeartbeats 4000000
namespace Z
open PySem PySem.Spec PyProof.Rows L2
/-- a list or tuple by what is read of it -/
theorem Ok.rdL {C : Ct} {Hs : Hp} {A : List Addr} {g : G} {σ : L2.St} {H : Hp} (ok : Ok C Hs A g σ H) {v : V} {r : R} {ds : List D} (h : RelR C.K Hs A v r) (e : Z.rd g r = some (.lst ds)) : ∃ a vs, v = .ref a ∧ SqL C.K H a vs ∧ DzA C.K Hs vs ds := by
  cases r with
  | dat d =>
    cases e
    have hd : Dz C.K Hs v (.lst ds) := h
    cases hd with
    | lst hs ha => exact ⟨_, _, rfl, ok.same.seq hs, ha⟩
  | bor j =>
    obtain ⟨a, h1, rfl⟩ := (show ∃ a, A[j]? = some a ∧ v = .ref a from h)
    have e : (match g[j]? with
      | some (.own c _ _) => some c.d
      | some (.frz d) => some d
      | _ => none) = some (.lst ds) := e
    split at e
    · rename_i c p l hg
      cases c with
      | lst L =>
        cases e
        obtain ⟨a', vs, ev, w1, w2, w3⟩ := ok.bor (relB h1) hg
        cases ev
        exact ⟨a, vs, rfl, SqL.of w2, w3⟩
    · rename_i d hg
      cases e
      obtain ⟨a', w1, _, hd⟩ := ok.frz j _ hg
      rw [h1] at w1
      cases w1
      cases hd with
      | lst hs ha => exact ⟨_, _, rfl, ok.same.seq hs, ha⟩
    · cases e
theorem Ok.rdT {C : Ct} {Hs : Hp} {A : List Addr} {g : G} {σ : L2.St} {H : Hp} (ok : Ok C Hs A g σ H) {v : V} {r : R} {ds : List D} (h : RelR C.K Hs A v r) (e : Z.rd g r = some (.tup ds)) : ∃ a vs, v = .ref a ∧ SqT C.K Hs a vs ∧ DzA C.K Hs vs ds := by
  cases r with
  | dat d =>
    cases e
    have hd : Dz C.K Hs v (.tup ds) := h
    cases hd with
    | tup hs ha => exact ⟨_, _, rfl, hs, ha⟩
  | bor j =>
    obtain ⟨a, h1, rfl⟩ := (show ∃ a, A[j]? = some a ∧ v = .ref a from h)
    have e : (match g[j]? with
      | some (.own c _ _) => some c.d
      | some (.frz d) => some d
      | _ => none) = some (.tup ds) := e
    split at e
    · rename_i c p l hg
      cases c with
      | lst L => cases e
    · rename_i d hg
      cases e
      obtain ⟨a', w1, _, hd⟩ := ok.frz j _ hg
      rw [h1] at w1
      cases w1
      cases hd with
      | tup hs ha => exact ⟨_, _, rfl, hs, ha⟩
    · cases e
def rCatL (K : PySem.W.Frag) : R2 := fun x y H Q => ∃ l b xs zs, x = .ref l ∧ y = .ref b ∧ SqL K H l xs ∧ SqL K H b zs ∧ xs.length + zs.length ≤ sizeLine ∧ ∀ p, H p = none → Q (.ref p) (upd H p (.lst (xs ++ zs)))
theorem add_plain {prog : Program} {w : World} {A : Around} {E : Value → Shared → Prop} {s : Shared} {l b : Addr} {xs ys : Array Value} {Q : Value → Shared → Prop} (hl : PlainL s.heap l xs) (hb : PlainL s.heap b ys)
    (h : Q (.ref s.heap.objs.size) { s with heap := s.heap.push { cls := .type "list", data := .seq (xs ++ ys) } }) (hz : xs.size + ys.size ≤ sizeLine) : wpAny (model prog w) A (binaryOp .Add (.ref l) (.ref b)) Q E s := by
  obtain ⟨⟨cls, dd, data, sl⟩, ho, hc, n, hd⟩ := id hl.isList
  obtain ⟨⟨cls2, dd2, data2, sl2⟩, ho2, hc2, n2, hd2⟩ := id hb.isList
  simp only at hc hd hc2 hd2
  subst hc hd hc2 hd2
  exact concat_meets ⟨_, ho, rfl⟩ ⟨_, ho2, rfl⟩ noFill_list_add seq_list_add PySem.F.slot_list_add PySem.F.entry_list_add (PySem.F.args_list_add_2 _ _) (list_addW l b xs ys n n2 dd dd2 sl sl2 hz) ⟨ho, ho2, h⟩
theorem op_catL {X : Cx} : OpR X (binaryOp .Add) (rCatL X.K) := by
  intro pins s σ H x y v u Q I rx ry h
  obtain ⟨l, b, xs, zs, rfl, rfl, hH, hB, hz, q⟩ := h
  cases rx
  cases ry
  obtain ⟨its, r, pl, z⟩ := I.list hH
  obtain ⟨its2, r2, pl2, z2⟩ := I.list hB
  have h1 := r.length
  have h2 := r2.length
  refine add_plain pl pl2 ?_ (by rw [List.size_toArray, List.size_toArray]; omega)
  have ea : its.toArray ++ its2.toArray = (its ++ its2).toArray := by simp
  rw [ea]
  refine ⟨.ref s.heap.objs.size, _, I.laid (t' := s.toks) (o := .lst (xs ++ zs)) (fun b o e => Heap.get?_push_of_some _ e) (Nat.le_refl _) ?_, rfl, q _ (I.hok.fresh (Nat.le_refl _))⟩
  exact ⟨by rw [List.length_append]; exact hz, _, 0, r.append r2, Heap.get?_push_size _ rfl⟩
def catOk (n m : Nat) : Bool := decide (n + m ≤ sizeLine)
def addS : D → D → Option D
  | .int i, .int j => some (.int (i + j))
  | .int i, .bl b => some (.int (i + b2i b))
  | .str a, .str b => if catOk a.length b.length = true then some (.str (a ++ b)) else none
  | _, _ => none
def rAddS : R2 := fun x y H Q => rI0 (fun i j => .int (i + j)) x y H Q ∨ (∃ i k, x = .int i ∧ y = .bl k ∧ Q (.int (i + b2i k)) H) ∨ (∃ i j, x = .str i ∧ y = .str j ∧ i.length + j.length ≤ sizeLine ∧ Q (.str (i ++ j)) H)
theorem o_add {X : Cx} : OpR X (binaryOp .Add) rAddS := OpR.or op_add (OpR.or op_add_ib op_add_str)
theorem str_app (a b : List Nat) : (⟨a.toArray⟩ : Str) ++ ⟨b.toArray⟩ = ⟨(a ++ b).toArray⟩ := by
  show Str.append _ _ = _
  simp [Str.append]
theorem s_add {K : PySem.W.Frag} : OpS K rAddS addS := by
  intro H x y d e z Q hx hy e1 q
  unfold addS at e1
  split at e1
  · cases e1; cases hx; cases hy; exact .inl ⟨_, _, rfl, rfl, q⟩
  · cases e1; cases hx; cases hy; exact .inr (.inl ⟨_, _, rfl, rfl, q⟩)
  · split at e1
    · rename_i h
      cases e1; cases hx; cases hy
      exact .inr (.inr ⟨_, _, rfl, rfl, by have := of_decide_eq_true h; simpa [Str.length] using this, by rw [str_app]; exact q⟩)
    · cases e1
  · cases e1
/-- o[i] -/
def ixD (d : D) (k : Int) : Option D := match d with
  | .lst l => atI l k
  | .tup l => atI l k
  | .str s => if s.length ≤ sizeLine then (atI s k).map fun c => .str [c] else none
  | _ => none
def zIx (ma mb : ZM) : ZM := fun g => do
  let (r1, g1) ← ma g
  let (r2, g2) ← mb g1
  let d ← rd g2 r1
  let k ← isI r2
  let z ← ixD d k
  some (.dat z, g2)
theorem atI_dz {K : PySem.W.Frag} {H : Hp} {vs : List V} {ds : List D} {k : Int} {z : D} (h : DzA K H vs ds) (e : atI ds k = some z) : ∃ v, atI vs k = some v ∧ Dz K H v z := by
  unfold atI at e ⊢
  rw [h.length]
  cases q : ixN ds.length k with
  | none => rw [q] at e; cases e
  | some j =>
    rw [q] at e
    obtain ⟨v, h1, h2⟩ := h.get (show ds[j]? = some z from e)
    exact ⟨v, h1, h2⟩
section
variable {X : Cx} {pos : Pos} {a b : Expr} {ma mb : ZM}
theorem ze_ix (ha : ZE X a ma) (hb : ZE X b mb) (hs : PlainIx b := by exact fun _ _ => rfl) : ZE X (.Subscript a b pos) (zIx ma mb) := by
  refine PE.of (pe_ix ix_seq ha hb hs) fun σ H Q ⟨C, Hs, A, g, r, g', hK, hn, ok, e, q⟩ => ?_
  unfold zIx at e
  simp only [Option.bind_eq_bind, Option.bind_eq_some_iff] at e
  obtain ⟨⟨r1, g1⟩, h1, ⟨r2, g2⟩, h2, d, h3, k, h4, z, h5, e⟩ := e
  cases e
  have er : r2 = .dat (.int k) := isI_some h4
  subst er
  refine tZ2 hK hn ok h1 h2 fun Hs2 A2 v1 v2 H2 s p ok2 w1 w2 => ?_
  have e2 : v2 = .int k := (show Dz C.K Hs2 v2 (.int k) from w2).v rfl
  subst e2
  cases d with
  | lst l =>
    obtain ⟨a', vs, rfl, y1, y2⟩ := ok2.rdL w1 h3
    obtain ⟨v, x1, x2⟩ := atI_dz y2 h5
    exact .inl ⟨a', vs, k, v, rfl, rfl, by rw [← hK]; exact y1, x1, q Hs2 A2 v H2 s p ok2 x2⟩
  | tup l =>
    obtain ⟨a', vs, rfl, y1, y2⟩ := ok2.rdT w1 h3
    obtain ⟨v, x1, x2⟩ := atI_dz y2 h5
    exact .inr (.inl ⟨a', vs, k, v, rfl, rfl, by rw [← hK]; exact sameT ok2.same y1, x1, q Hs2 A2 v H2 s p ok2 x2⟩)
  | str t =>
    have hd := ok2.rd w1 h3
    cases hd
    simp only [ixD] at h5
    split at h5
    · rename_i hl
      cases ec : atI t k with
      | none => rw [ec] at h5; cases h5
      | some c =>
        rw [ec] at h5
        cases h5
        exact .inr (.inr ⟨_, k, c, rfl, rfl, by simpa [Str.length] using hl, by simpa using ec, q Hs2 A2 _ H2 s p ok2 (.str [c])⟩)
    · cases h5
  | _ => cases h5
theorem len_codes (t : List Nat) : (⟨t.toArray⟩ : Str).length = t.length := by simp [Str.length]
def lenD : List D → Option D
  | [.lst l] => some (.int l.length)
  | [.tup l] => some (.int l.length)
  | [.str s] => if s.length ≤ sizeLine then some (.int s.length) else none
  | _ => none
def rLen (K : PySem.W.Frag) : List V → Hp → VK → Prop := fun xs H Q => ∃ x n, xs = [x] ∧ LenV K x H n ∧ Q (.int n) H
theorem s_len {K : PySem.W.Frag} : CallS K (rLen K) lenD := by
  intro H vs ds z Q hz e q
  unfold lenD at e
  split at e
  · cases e
    cases hz with
    | cons h t =>
      cases t
      cases h with
      | lst hs ha => exact ⟨_, _, rfl, .inl ⟨_, hs, rfl⟩, by rw [ha.length]; exact q⟩
  · cases e
    cases hz with
    | cons h t =>
      cases t
      cases h with
      | tup hs ha => exact ⟨_, _, rfl, .inr ⟨_, hs, rfl⟩, by rw [ha.length]; exact q⟩
  · split at e
    · rename_i hl
      cases e
      cases hz with
      | cons h t =>
        cases t
        cases h with
        | str s => exact ⟨_, _, rfl, ⟨by simpa [Str.length] using hl, rfl⟩, by rw [len_codes]; exact q⟩
    · cases e
  · cases e
def absD : List D → Option D
  | [.int i] => some (.int (if i < 0 then -i else i))
  | _ => none
def minD : List D → Option D
  | [.int i, .int j] => some (.int (if j < i then j else i))
  | _ => none
theorem s_min {K : PySem.W.Frag} : CallS K (fun xs H Q => ∃ i j, xs = [.int i, .int j] ∧ Q (.int (if j < i then j else i)) H) minD := by
  intro H vs ds z Q hz e q
  unfold minD at e
  split at e
  · cases e
    cases hz with
    | cons h t =>
      cases t with
      | cons h2 t =>
        cases t
        cases h
        cases h2
        exact ⟨_, _, rfl, q⟩
  · cases e
/-- the texts of a list -/
def txsD : List D → Option (List (List Nat))
  | [] => some []
  | .str s :: r => do
    let t ← txsD r
    some (s :: t)
  | _ :: _ => none
theorem strs_map : ∀ {ds : List D} {ts : List (List Nat)}, txsD ds = some ts → ds = ts.map D.str
  | [], ts, e => by cases e; rfl
  | d :: r, ts, e => by
    cases d with
    | str s =>
      simp only [txsD, Option.bind_eq_bind, Option.bind_eq_some_iff] at e
      obtain ⟨t, h1, e⟩ := e
      cases e
      rw [strs_map h1]
      rfl
    | _ => cases e
theorem dzA_strs {K : PySem.W.Frag} {H : Hp} : ∀ {vs : List V} {ts : List (List Nat)}, DzA K H vs (ts.map D.str) → vs = (ts.map fun t => (⟨t.toArray⟩ : Str)).map V.str
  | [], [], _ => rfl
  | _ :: _, [], h => by cases h
  | [], _ :: _, h => by cases h
  | v :: vs, t :: ts, h => by
    cases h with
    | cons h1 h2 =>
      cases h1
      rw [dzA_strs h2]
      rfl
def joinD : D → List D → Option D
  | .str sep, [.lst l] => do
    let ts ← txsD l
    if (ts.map List.length).sum + ts.length * sep.length ≤ 16777216 then some (.str (TL.joinL sep ts)) else none
  | .str sep, [.tup l] => do
    let ts ← txsD l
    if (ts.map List.length).sum + ts.length * sep.length ≤ 16777216 then some (.str (TL.joinL sep ts)) else none
  | _, _ => none
def rJoin (K : PySem.W.Frag) : V → List V → Hp → VK → Prop := fun x xs H Q => ∃ a p, ∃ ys : List Str, x = .str a ∧ xs = [.ref p] ∧ (SqL K H p (ys.map V.str) ∨ SqT K H p (ys.map V.str)) ∧
    (ys.map (·.length)).sum + ys.length * a.length ≤ 16777216 ∧ Q (.str (Txt.join a ys)) H
theorem join_codes (sep : List Nat) (ts : List (List Nat)) : Txt.join ⟨sep.toArray⟩ (ts.map fun t => (⟨t.toArray⟩ : Str)) = ⟨(TL.joinL sep ts).toArray⟩ := by
  refine TL.ext_tl ?_
  rw [TL.join_eq, TL.tl_join]
  show TL.joinL (TL.tl ⟨sep.toArray⟩) ((ts.map fun t => (⟨t.toArray⟩ : Str)).map TL.tl) = TL.joinL sep ts
  rw [List.map_map, TL.tl_mk]
  congr 1
  exact List.map_id' ts
theorem s_join {K : PySem.W.Frag} : MtS K (rJoin K) joinD := by
  intro H x vs d ds z Q hx hz e q
  unfold joinD at e
  have key : ∀ (sep : List Nat) (ts : List (List Nat)), (ts.map List.length).sum + ts.length * sep.length ≤ 16777216 → ((ts.map fun t => (⟨t.toArray⟩ : Str)).map (·.length)).sum + (ts.map fun t => (⟨t.toArray⟩ : Str)).length * (⟨sep.toArray⟩ : Str).length ≤ 16777216 := fun sep ts h => by
    rw [List.map_map, List.length_map]
    have e1 : ((fun x : Str => x.length) ∘ fun t : List Nat => (⟨t.toArray⟩ : Str)) = List.length := by funext t; simp [Str.length]
    rw [e1]
    simpa [Str.length] using h
  split at e
  · simp only [Option.bind_eq_bind, Option.bind_eq_some_iff] at e
    obtain ⟨ts, h1, e⟩ := e
    split at e
    · rename_i hl
      cases e
      cases hx
      cases hz with
      | cons h t =>
        cases t
        cases h with
        | lst hs ha =>
          rw [strs_map h1] at ha
          have ev := dzA_strs ha
          subst ev
          exact ⟨_, _, _, rfl, rfl, .inl hs, key _ _ hl, by rw [join_codes]; exact q⟩
    · cases e
  · simp only [Option.bind_eq_bind, Option.bind_eq_some_iff] at e
    obtain ⟨ts, h1, e⟩ := e
    split at e
    · rename_i hl
      cases e
      cases hx
      cases hz with
      | cons h t =>
        cases t
        cases h with
        | tup hs ha =>
          rw [strs_map h1] at ha
          have ev := dzA_strs ha
          subst ev
          exact ⟨_, _, _, rfl, rfl, .inr hs, key _ _ hl, by rw [join_codes]; exact q⟩
    · cases e
  · cases e
end
end Z
set_option Elab.async false
set_option linter.all false
set_option maxRecDepth 100000
set_option maxHeartbeats 4000000
namespace Z
open PySem PySem.Spec PyProof.Rows L2
/-- a def of the top stands at its name -/
def DefAt (K : PySem.W.Frag) (mg : Str → Option Value) (x : Str) (st : Stmt) : Prop := ∃ (a : Addr) (fd : FuncData), mg x = some (.ref a) ∧ Fun K x x st a fd
/-- a constant of the top -/
def ConstAt (K : PySem.W.Frag) (mg : Str → Option Value) (x : Str) (v : V) (d : D) : Prop := (∃ u, mg x = some u ∧ RelV v u) ∧ ∀ H, Dz K H v d
theorem ze_gc {X : Cx} {pos : Pos} {x : Str} {v : V} {d : D} (h : ConstAt X.K X.mg x v d) (hg : Gl X x := by rfl) (hdb : (x == ("__debug__" : Str)) = false := by decide) : ZE X (.Name x pos) (zC d) := by
  obtain ⟨⟨u, h1, h2⟩, h3⟩ := h
  exact ze_glob hg h1 h2 h3 hdb
/-- int(x): of an int, a bool, a text -/
def intU : List D → Option D
  | [.int i] => some (.int i)
  | [.bl b] => some (.int (if b then 1 else 0))
  | [.str s] => match PySem.intText? ⟨s.toArray⟩ with
    | some n => if s.length ≤ 640 then some (.int n) else none
    | none => none
  | _ => none
def rIntU : List V → Hp → VK → Prop := fun xs H Q => ((∃ i, xs = [.int i] ∧ Q (.int i) H) ∨ ∃ k, xs = [.bl k] ∧ Q (.int (if k then 1 else 0)) H) ∨ (∃ a n, xs = [.str a] ∧ PySem.intText? a = some n ∧ a.length ≤ 640 ∧ Q (.int n) H)
theorem call_intU {X : Cx} : CallR X (.type "int") rIntU := CallR.or call_int1 call_int_str
theorem s_intU {K : PySem.W.Frag} : CallS K rIntU intU := by
  intro H vs ds z Q hz e q
  unfold intU at e
  split at e
  · cases e
    cases hz with
    | cons h t =>
      cases t
      cases h
      exact .inl (.inl ⟨_, rfl, q⟩)
  · cases e
    cases hz with
    | cons h t =>
      cases t
      cases h
      exact .inl (.inr ⟨_, rfl, q⟩)
  · split at e
    · rename_i n hn
      split at e
      · rename_i hl
        cases e
        cases hz with
        | cons h t =>
          cases t
          cases h
          exact .inr ⟨_, n, rfl, hn, by rw [len_codes]; exact hl, q⟩
      · cases e
    · cases e
  · cases e
/-- the script as data -/
def scriptD (ns : List Int) : D := .lst (ns.map .int)
theorem dzA_ints {K : PySem.W.Frag} {H : Hp} : ∀ ns : List Int, DzA K H (ns.map V.int) (ns.map D.int)
  | [] => .nil
  | n :: r => .cons (.int n) (dzA_ints r)
/-- the law's promise from its function -/
theorem law_sp {K : PySem.W.Frag} {H : Hp} {a : Addr} {ns : List Int} {f : List D → Option FR} (h : SqL K H a (ns.map V.int)) (e : f [scriptD ns] = some (.dat (.bl true))) : spP K f [.ref a] H (fun v _ => v = .bl true) fun _ _ _ => False := by
  refine ⟨H, [scriptD ns], .dat (.bl true), Same.refl _, .cons (.lst h (dzA_ints ns)) .nil, e, fun v Hs' H' _ _ _ _ rf => ?_⟩
  exact (show Dz K Hs' v (.bl true) from rf).v rfl
end Z
set_option Elab.async false
set_option linter.all false
set_option maxRecDepth 100000
set_option maxHeartbeats 4000000
namespace Z
open PySem PySem.Spec PyProof.Rows L2
section
variable {g g1 g2 g3 : G} {r r1 r2 : R} {d e z : D} {ma mb mc m : ZM} {mr : ZAr} {rs : List R} {ds : List D} {b b1 b2 : Bool} {t s : ZT} {n i j : Nat}
theorem er_op {f : D → D → Option D} (h1 : ma g = some (r1, g1)) (h2 : mb g1 = some (r2, g2)) (h3 : rd g2 r1 = some d) (h4 : rd g2 r2 = some e) (h5 : f d e = some z) (h6 : z.scal = true) : zOp f ma mb g = some (.dat z, g2) := by
  unfold zOp; simp only [h1, h2, h3, h4, h5, h6, Option.bind_eq_bind, Option.bind_some, if_true]
theorem er_un {f : D → Option D} (h1 : ma g = some (r1, g1)) (h3 : rd g1 r1 = some d) (h5 : f d = some z) (h6 : z.scal = true) : zUn f ma g = some (.dat z, g1) := by
  unfold zUn; simp only [h1, h3, h5, h6, Option.bind_eq_bind, Option.bind_some, if_true]
theorem er_chain {f f' : D → D → Option D} {r3 : R} {h : D} (h1 : ma g = some (r1, g1)) (h2 : mb g1 = some (r2, g)) (h3 : rd g r1 = some d) (h4 : rd g r2 = some e) (h5 : f d e = some (.bl b1)) (h6 : b1 = true → mc g = some (r3, g)) (h7 : rd g r3 = some h) (h8 : f' e h = some (.bl b2)) :
    zChain f f' ma mb mc g = some (.dat (.bl (b1 && b2)), g) := by
  unfold zChain; simp only [h1, h2, h3, h4, h5, Option.bind_eq_bind, Option.bind_some]
  cases b1 with
  | true => simp only [h6 rfl, h4, h7, h8, Option.bind_some, D.scal, if_true, Bool.true_and]
  | false => rfl
theorem er_tst (h1 : m g = some (.dat (.bl b), g1)) : zTst m g = some (b, g1) := by
  unfold zTst; simp only [h1, isB, Option.bind_eq_bind, Option.bind_some]
theorem er_tru (h1 : m g = some (r, g1)) (h2 : rd g1 r = some d) (h3 : tru d = some b) : zTru m g = some (b, g1) := by
  unfold zTru; simp only [h1, h2, h3, Option.bind_eq_bind, Option.bind_some]
theorem er_andT (h1 : s g = some (b1, g)) (h2 : b1 = true → t g = some (b2, g)) : zAndT s t g = some (b1 && b2, g) := by
  unfold zAndT; simp only [h1, Option.bind_eq_bind, Option.bind_some]
  cases b1 with
  | true => simp only [h2 rfl, if_true, Bool.true_and]
  | false => rfl
theorem er_orT (h1 : s g = some (b1, g)) (h2 : b1 = false → t g = some (b2, g)) : zOrT s t g = some (b1 || b2, g) := by
  unfold zOrT; simp only [h1, Option.bind_eq_bind, Option.bind_some]
  cases b1 with
  | true => rfl
  | false =>
    rw [if_neg Bool.false_ne_true, h2 rfl]
    rfl
theorem er_notT (h1 : s g = some (b, g1)) : zNotT s g = some (!b, g1) := by
  unfold zNotT; simp only [h1, Option.bind_eq_bind, Option.bind_some]
theorem er_andV (h1 : ma g = some (.dat (.bl b1), g)) (h2 : b1 = true → mb g = some (.dat (.bl b2), g)) : zAndV ma mb g = some (.dat (.bl (b1 && b2)), g) := by
  unfold zAndV; simp only [h1, isB, Option.bind_eq_bind, Option.bind_some]
  cases b1 with
  | true => simp only [h2 rfl, if_true, Bool.true_and]
  | false => rfl
theorem er_orV (h1 : ma g = some (.dat (.bl b1), g)) (h2 : b1 = false → mb g = some (.dat (.bl b2), g)) : zOrV ma mb g = some (.dat (.bl (b1 || b2)), g) := by
  unfold zOrV; simp only [h1, isB, Option.bind_eq_bind, Option.bind_some]
  cases b1 with
  | true => rfl
  | false =>
    rw [if_neg Bool.false_ne_true, h2 rfl]
    rfl
theorem er_notV (h1 : ma g = some (.dat (.bl b), g1)) : zNotV ma g = some (.dat (.bl (!b)), g1) := by
  unfold zNotV; simp only [h1, isB, Option.bind_eq_bind, Option.bind_some]
theorem er_ifT (h1 : t g = some (true, g1)) (h2 : ma g1 = some (r, g2)) : zIf t ma mb g = some (r, g2) := by
  unfold zIf; simp only [h1, h2, Option.bind_eq_bind, Option.bind_some, if_true]
theorem er_ifF (h1 : t g = some (false, g1)) (h2 : mb g1 = some (r, g2)) : zIf t ma mb g = some (r, g2) := by
  unfold zIf; simp only [h1, Option.bind_eq_bind, Option.bind_some]
  rw [if_neg Bool.false_ne_true]
  exact h2
theorem er_cons (h1 : ma g = some (r, g1)) (h2 : mr g1 = some (rs, g2)) : zCons ma mr g = some (r :: rs, g2) := by
  unfold zCons; simp only [h1, h2, Option.bind_eq_bind, Option.bind_some]
theorem er_callS {f : List D → Option D} (h1 : mr g = some (rs, g1)) (h2 : rdAll g1 rs = some ds) (h3 : f ds = some z) (h4 : z.scal = true) : zCallS f mr g = some (.dat z, g1) := by
  unfold zCallS; simp only [h1, h2, h3, h4, Option.bind_eq_bind, Option.bind_some, if_true]
theorem er_callV {f : List D → Option FR} (h1 : mr g = some (rs, g1)) (h2 : rdAll g1 rs = some ds) (h3 : f ds = some (.dat d)) (h4 : d.scal = true) : zCall f mr g = some (.dat d, g1) := by
  unfold zCall; simp only [h1, h2, h3, h4, Option.bind_eq_bind, Option.bind_some, if_true]
theorem frzAll_dat : ∀ (ds : List D) (g : G), frzAll (ds.map R.dat) g = some (ds, g)
  | [], _ => rfl
  | d :: ds, g => by
    simp only [List.map_cons, frzAll, frzR, frzAll_dat ds g, Option.bind_eq_bind, Option.bind_some]
/-- all arguments data: no matter what comes back -/
theorem rdAll_dat : ∀ (ds : List D) (g : G), rdAll g (ds.map R.dat) = some ds
  | [], _ => rfl
  | d :: ds, g => by
    simp only [List.map_cons, rdAll, rdX, rd, rdAll_dat ds g, Option.bind_eq_bind, Option.bind_some]
theorem er_call {f : List D → Option FR} (h1 : mr g = some (ds.map R.dat, g1)) (h3 : f ds = some (.dat d)) : zCall f mr g = some (.dat d, g1) := by
  unfold zCall; simp only [h1, rdAll_dat, frzAll_dat, h3, Option.bind_eq_bind, Option.bind_some]
  split
  · rfl
  · rfl
theorem er_callL {f : List D → Option FR} {c : Cn} (h1 : mr g = some (ds.map R.dat, g1)) (h3 : f ds = some (.new c)) : zCall f mr g = some (.bor g1.length, g1 ++ [.own c false false]) := by
  unfold zCall; simp only [h1, rdAll_dat, frzAll_dat, h3, Option.bind_eq_bind, Option.bind_some]
  split
  · rfl
  · rfl
/-- a call whose arguments are data, or whose answer is plain -/
theorem er_callG {f : List D → Option FR} (h1 : mr g = some (rs, g1)) (h2 : rdAll g1 rs = some ds) (h2' : frzAll rs g1 = some (ds, g2)) (h3 : f ds = some (.dat d)) (h4 : g2 = g1) : zCall f mr g = some (.dat d, g1) := by
  subst h4
  unfold zCall; simp only [h1, h2, h2', h3, Option.bind_eq_bind, Option.bind_some]
  split
  · rfl
  · rfl
theorem er_callH {f : List D → Option FR} {c : Cn} (h1 : mr g = some (rs, g1)) (h2 : rdAll g1 rs = some ds) (h2' : frzAll rs g1 = some (ds, g2)) (h3 : f ds = some (.new c)) (h4 : g2 = g1) : zCall f mr g = some (.bor g1.length, g1 ++ [.own c false false]) := by
  subst h4
  unfold zCall; simp only [h1, h2, h2', h3, Option.bind_eq_bind, Option.bind_some]
  split
  · rfl
  · rfl
theorem er_ix {k : Int} (h1 : ma g = some (r1, g1)) (h2 : mb g1 = some (.dat (.int k), g2)) (h3 : rd g2 r1 = some d) (h4 : ixD d k = some z) : zIx ma mb g = some (.dat z, g2) := by
  unfold zIx; simp only [h1, h2, h3, h4, isI, Option.bind_eq_bind, Option.bind_some]
theorem er_mt {T : String} {f : D → List D → Option D} (h1 : ma g = some (r, g1)) (h2 : rd g1 r = some d) (h3 : tyD T d = true) (h4 : mr g1 = some (rs, g2)) (h5 : rd g2 r = some e) (h6 : rdAll g2 rs = some ds) (h7 : f e ds = some z) (h8 : z.scal = true) : zMt T f ma mr g = some (.dat z, g2) := by
  unfold zMt; simp only [h1, h2, h3, h4, h5, h6, h7, h8, Option.bind_eq_bind, Option.bind_some, if_true]
theorem er_tup (h1 : mr g = some (rs, g1)) (h2 : frzAll rs g1 = some (ds, g2)) (h3 : ds.length ≤ sizeLine) : zTup mr g = some (.dat (.tup ds), g2) := by
  unfold zTup; simp only [h1, h2, h3, Option.bind_eq_bind, Option.bind_some, if_true]
theorem er_lst (h1 : mr g = some (rs, g1)) (h2 : frzAll rs g1 = some (ds, g2)) (h3 : ds.length ≤ sizeLine) : zLst mr g = some (.bor g2.length, g2 ++ [.own (.lst ds) false false]) := by
  unfold zLst; simp only [h1, h2, h3, Option.bind_eq_bind, Option.bind_some, if_true]
def ap {β : Type} (kk : Option (Fl × G) → β) (o : Option (Fl × G)) : β := kk o
variable {β : Type} {kk : Option (Fl × G) → β} {OUT : β} {st st1 st2 rest : SM} {c : Cn}
theorem sr_nx (k : ap kk (rest g) = OUT) : ap kk (zSeq zNx rest g) = OUT := k
theorem sr_assoc {s1 s2 s3 : SM} (k : ap kk (zSeq s1 (zSeq s2 s3) g) = OUT) : ap kk (zSeq (zSeq s1 s2) s3 g) = OUT := by
  have e : zSeq (zSeq s1 s2) s3 g = zSeq s1 (zSeq s2 s3) g := by
    unfold zSeq
    simp only [Option.bind_eq_bind]
    cases s1 g with
    | none => rfl
    | some o =>
      obtain ⟨fl, g1⟩ := o
      cases fl <;> rfl
  rw [e]; exact k
theorem set_dat (h1 : m g = some (.dat d, g1)) (hf : freeAt i g1 = true) (hg : (g1.set i (.dat d)).take n = g2) : zSet n i m g = some (.nx, g2) := by
  unfold zSet; simp only [h1, setR, setDat, hf, hg, Option.bind_eq_bind, Option.bind_some, if_true]
theorem set_own (h1 : m g = some (.bor j, g1)) (hj : n ≤ j) (ho : g1[j]? = some (.own c false false)) (hf : freeAt i g1 = true) (hg : ((g1.set i (.own c false false)).set j .un).take n = g2) : zSet n i m g = some (.nx, g2) := by
  unfold zSet; simp only [h1, setR, if_pos hj, ho, hf, hg, Option.bind_eq_bind, Option.bind_some, if_true]
theorem app_run (h1 : ma g = some (.bor j, g1)) {ds0 : List D} {p0 l0 p : Bool} (h0 : g1[j]? = some (.own (.lst ds0) p0 l0)) (h2 : mb g1 = some (r, g2)) (h3 : frzR r g2 = some (d, g3)) (h4 : g3[j]? = some (.own (.lst ds) p false)) (hz : ds.length < sizeLine) {g4 : G} (hg : (g3.set j (.own (.lst (ds ++ [d])) p false)).take n = g4) :
    zApp n ma mb g = some (.nx, g4) := by
  unfold zApp; simp only [h1, h0, h2, h3, h4, if_pos hz, hg, Option.bind_eq_bind, Option.bind_some]
theorem seq_nx (h : st g = some (.nx, g1)) (k : ap kk (rest g1) = OUT) : ap kk (zSeq st rest g) = OUT := by
  unfold zSeq; simp only [h, Option.bind_eq_bind, Option.bind_some]; exact k
theorem one_nx (h : st g = some (.nx, g1)) (k : ap kk (some (.nx, g1)) = OUT) : ap kk (st g) = OUT := by rw [h]; exact k
theorem sr_if (h1 : t g = some (b, g1)) (hg : g1.take n = g2) (k1 : b = true → ap kk (zSeq st1 rest g2) = OUT) (k2 : b = false → ap kk (zSeq st2 rest g2) = OUT) : ap kk (zSeq (zIfS n t st1 st2) rest g) = OUT := by
  have e : zSeq (zIfS n t st1 st2) rest g = if b = true then zSeq st1 rest g2 else zSeq st2 rest g2 := by
    unfold zSeq zIfS
    simp only [h1, hg, Option.bind_eq_bind, Option.bind_some]
    cases b with
    | true => rfl
    | false => rfl
  rw [e]
  cases b with
  | true => exact k1 rfl
  | false => exact k2 rfl
theorem sr_if1 (h1 : t g = some (b, g1)) (hg : g1.take n = g2) (k1 : b = true → ap kk (st1 g2) = OUT) (k2 : b = false → ap kk (st2 g2) = OUT) : ap kk (zIfS n t st1 st2 g) = OUT := by
  have e : zIfS n t st1 st2 g = if b = true then st1 g2 else st2 g2 := by
    unfold zIfS
    simp only [h1, hg, Option.bind_eq_bind, Option.bind_some]
  rw [e]
  cases b with
  | true => exact k1 rfl
  | false => exact k2 rfl
theorem sr_ret (h : m g = some (r, g1)) (k : ap kk (some (.ret r, g1)) = OUT) : ap kk (zRet m g) = OUT := by
  unfold zRet; simp only [h, Option.bind_eq_bind, Option.bind_some]; exact k
theorem sr_retS (h : m g = some (r, g1)) (k : ap kk (some (.ret r, g1)) = OUT) : ap kk (zSeq (zRet m) rest g) = OUT := by
  unfold zSeq zRet; simp only [h, Option.bind_eq_bind, Option.bind_some]; exact k
/-- what runP does with the end -/
def finK : Option (Fl × G) → Option FR
  | some (.ret r, g) => fin g r
  | some (.nx, _) => some (.dat .non)
  | _ => none
theorem runP_ap {np : Nat} {s : SM} {OUT : Option FR} (hl : ds.length = np) (hg : start0 n ds = g) (k : ap finK (s g) = OUT) : runP n np s ds = OUT := by
  unfold runP
  rw [if_pos hl, hg]
  exact k
/-- .. where only something is said of what comes back -/
theorem runP_post {np : Nat} {s : SM} {post : FR → Prop} (hl : ds.length = np) (hg : start0 n ds = g) (k : ap (fun o => ∃ fr, finK o = some fr ∧ post fr) (s g) = True) : ∃ fr, runP n np s ds = some fr ∧ post fr := by
  have h : ∃ fr, finK (s g) = some fr ∧ post fr := by
    have h1 : (∃ fr, finK (s g) = some fr ∧ post fr) = True := k
    rw [h1]
    trivial
  obtain ⟨fr, h1, h2⟩ := h
  exact ⟨fr, runP_ap hl hg h1, h2⟩
theorem end_post {post : FR → Prop} {o : Option (Fl × G)} {fr : FR} (h : finK o = some fr) (h2 : post fr) : ap (fun o => ∃ fr, finK o = some fr ∧ post fr) o = True := eq_true ⟨fr, h, h2⟩
/-- loops -/
theorem for_none {mi : MI} {tg : TD} {L : List D} (h1 : mi g = some (L, none, g1)) (hg : g1.take n = g2) {o : Option (Fl × G)} (h2 : forL tg st L g2 = o) : zFor n mi tg st g = o := by
  unfold zFor; simp only [h1, hg, h2, Option.bind_eq_bind, Option.bind_some]
theorem mi_R1 {k : Int} (h1 : mr g = some ([.dat (.int k)], g1)) (h2 : rgOk k = true) : ziR1 mr g = some (rgD 0 k.toNat, none, g1) := by
  unfold ziR1; simp only [h1, h2, Option.bind_eq_bind, Option.bind_some, if_true]
/-- a loop by an invariant that only says something of the slots -/
theorem forL_inv {tg : TD} : ∀ {L : List D} (I : Nat → G → Prop) (k : Nat) (g : G), I k g → (∀ i d g, L[i]? = some d → I (k + i) g → ∃ g1 g2, tg d g = some g1 ∧ (st g1 = some (.nx, g2) ∨ st g1 = some (.ct, g2)) ∧ I (k + i + 1) g2) → ∃ g2, forL tg st L g = some (.nx, g2) ∧ I (k + L.length) g2
  | [], I, k, g, h0, _ => ⟨g, rfl, h0⟩
  | d :: L, I, k, g, h0, h => by
    obtain ⟨g1, g2, h1, h2, h3⟩ := h 0 d g rfl h0
    obtain ⟨g3, e3, i3⟩ := forL_inv (L := L) I (k + 1) g2 h3 fun i d' g' hd hi => by
      have := h (i + 1) d' g' (by simpa using hd) (by rw [show k + (i + 1) = k + 1 + i by omega]; exact hi)
      rw [show k + (i + 1) = k + 1 + i by omega] at this
      exact this
    refine ⟨g3, ?_, by rw [show k + (d :: L).length = k + 1 + L.length by simp; omega]; exact i3⟩
    simp only [forL, Option.bind_eq_bind]
    rw [h1]
    simp only [Option.bind_some]
    rcases h2 with h2 | h2
    · rw [h2]; exact e3
    · rw [h2]; exact e3
/-- a while: one turn, the end -/
theorem wh_stop (h1 : t g = some (false, g1)) (hg : g1.take n = g2) : zWh n t st g = some (.nx, g2) := by
  refine zWh_of (k := 1) ?_
  simp only [whF, h1, hg, Option.bind_eq_bind, Option.bind_some]
  rfl
theorem wh_go (h1 : t g = some (true, g1)) (hg : g1.take n = g2) (h2 : st g2 = some (.nx, g3)) {o : Fl × G} (h3 : zWh n t st g3 = some o) : zWh n t st g = some o := by
  obtain ⟨k, hk⟩ := zWh_some h3
  refine zWh_of (k := k + 1) ?_
  simp only [whF, h1, hg, h2, Option.bind_eq_bind, Option.bind_some, if_true]
  exact hk
theorem wh_ret (h1 : t g = some (true, g1)) (hg : g1.take n = g2) (h2 : st g2 = some (.ret r, g3)) : zWh n t st g = some (.ret r, g3) := by
  refine zWh_of (k := 1) ?_
  simp only [whF, h1, hg, h2, Option.bind_eq_bind, Option.bind_some, if_true]
/-- the size of a number -/
def iabs (i : Int) : Int := if i < 0 then -i else i
theorem dr_div {i j : Int} (h : 0 < j) (h2 : j.natAbs.log2 < 9000) : divD (.int i) (.int j) = some (.int (i / j)) := by
  have h0 : j ≠ 0 := by omega
  simp [divD, divOk, fdivV, h, h0, h2]
theorem dr_divB {i j : Int} (h : 0 < j) (h2 : j < 2 ^ 256) : divD (.int i) (.int j) = some (.int (i / j)) := by
  refine dr_div h (Nat.lt_of_lt_of_le (PySem.Flt.log2_lt_of (k := 256) (by decide) (by omega)) (by decide))
theorem dr_mod {i j : Int} (h : 0 < j) : modD (.int i) (.int j) = some (.int (i % j)) := by
  have h0 : j ≠ 0 := by omega
  simp [modD, fmodV, h, h0]
theorem dr_mulr {i j : Int} (h : decide (j.natAbs < 2 ^ 64) = true) : mulD (.int i) (.int j) = some (.int (i * j)) := by
  simp only [mulD, mulOk, h, Bool.or_true, Bool.true_or, if_true]
theorem dr_mull {i j : Int} (h : decide (i.natAbs < 2 ^ 64) = true) : mulD (.int i) (.int j) = some (.int (i * j)) := by
  simp only [mulD, mulOk, h, Bool.or_true, Bool.true_or, if_true]
theorem dr_mulrB {i j : Int} (h : -(2 ^ 64) < j) (h2 : j < 2 ^ 64) : mulD (.int i) (.int j) = some (.int (i * j)) := dr_mulr (decide_eq_true (by omega))
theorem dr_mullB {i j : Int} (h : -(2 ^ 64) < i) (h2 : i < 2 ^ 64) : mulD (.int i) (.int j) = some (.int (i * j)) := dr_mull (decide_eq_true (by omega))
theorem dr_mulC {i j : Int} (h : -(2 ^ 256) < i) (h2 : i < 2 ^ 256) (h3 : -(2 ^ 256) < j) (h4 : j < 2 ^ 256) : mulD (.int i) (.int j) = some (.int (i * j)) := by
  have a : i.natAbs.log2 < 256 := PySem.Flt.log2_lt_of (by decide) (by omega)
  have b : j.natAbs.log2 < 256 := PySem.Flt.log2_lt_of (by decide) (by omega)
  have c : i.natAbs.log2 + j.natAbs.log2 < 1000000 := by omega
  simp only [mulD, mulOk, decide_eq_true c, Bool.or_true, if_true]
theorem dr_neB {a b : Bool} : neqD (.bl a) (.bl b) = some (.bl (!(a == b))) := rfl
theorem dr_eqB {a b : Bool} : eqD (.bl a) (.bl b) = some (.bl (a == b)) := rfl
theorem dr_abs {i : Int} : absD [.int i] = some (.int (iabs i)) := rfl
theorem dr_eqI {i j : Int} : eqD (.int i) (.int j) = some (.bl (i == j)) := rfl
theorem dr_eqS {a b : List Nat} : eqD (.str a) (.str b) = some (.bl (a == b)) := rfl
theorem dr_neI {i j : Int} : neqD (.int i) (.int j) = some (.bl (!(i == j))) := rfl
theorem dr_neS {a b : List Nat} : neqD (.str a) (.str b) = some (.bl (!(a == b))) := rfl
theorem dr_cat {a b : List Nat} (h : a.length + b.length ≤ sizeLine) : addS (.str a) (.str b) = some (.str (a ++ b)) := by
  simp only [addS, catOk, decide_eq_true h, if_true]
theorem dr_ixS {a : List Nat} {k : Int} {c : Nat} (h : a.length ≤ sizeLine) (h2 : atI a k = some c) : ixD (.str a) k = some (.str [c]) := by
  unfold ixD
  simp only [if_pos h, h2, Option.map_some]
end
theorem rgD_at {lo : Int} {n i : Nat} {d : D} (h : (rgD lo n)[i]? = some d) : i < n ∧ d = .int (lo + (i : Int)) := by
  have hi := (List.getElem?_eq_some_iff.mp h).1
  rw [rgD_len] at hi
  rw [rgD_get hi] at h
  exact ⟨hi, (Option.some.inj h).symm⟩
theorem atI_lt {α : Type} {xs : List α} {k : Int} (h0 : 0 ≤ k) (h1 : k < xs.length) : ∃ x, atI xs k = some x ∧ x ∈ xs := by
  have hk : k.toNat < xs.length := by omega
  refine ⟨xs[k.toNat], ?_, List.getElem_mem hk⟩
  have := atI_nat (xs := xs) (j := k.toNat) (List.getElem?_eq_getElem hk)
  rw [Int.toNat_of_nonneg h0] at this
  exact this
theorem atI_map {α β : Type} {f : α → β} {xs : List α} {k : Int} {x : α} (h : atI xs k = some x) : atI (xs.map f) k = some (f x) := by
  unfold atI at h ⊢
  rw [List.length_map]
  cases e : ixN xs.length k with
  | none => rw [e] at h; cases h
  | some j =>
    rw [e] at h
    show (xs.map f)[j]? = _
    rw [List.getElem?_map, show xs[j]? = some x from h]
    rfl
theorem rgOk_of {k : Int} (h : -(2 ^ 62) ≤ k) (h2 : k < 2 ^ 62) : rgOk k = true := by
  unfold rgOk
  rw [decide_eq_true h, decide_eq_true h2]
  rfl
end Z
set_option Elab.async false
set_option linter.all false
set_option maxRecDepth 100000
set_option maxHeartbeats 4000000
namespace Z
open PySem PySem.Spec PyProof.Rows L2
def tyNm : D → Option String
  | .non => some "NoneType" | .bl _ => some "bool" | .int _ => some "int" | .str _ => some "str" | .lst _ => some "list" | .tup _ => some "tuple" | .raw _ => none | .dic _ _ => none | .obj _ _ _ => none
theorem tyNm_ok {K : PySem.W.Frag} {H : Hp} {v : V} {d : D} {t : String} (h : Dz K H v d) (e : tyNm d = some t) : TyX K H v (.type t) := by
  cases h with
  | non => cases e; exact .base .non
  | bl b => cases e; exact .base (.bl b)
  | int i => cases e; exact .base (.int i)
  | str s => cases e; exact .base (.str _)
  | lst hs ha =>
    cases e
    rcases hs with (hs | ⟨o, hs⟩) | ⟨o, its, n, h1, h2, _⟩
    · exact .base (.lst hs)
    · exact .base (.frz hs)
    · exact .kList h1 h2
  | tup hs ha =>
    cases e
    rcases hs with (hs | ⟨o, hs⟩) | ⟨o, its, n, h1, h2, _⟩
    · exact .base (.tup hs)
    · exact .fTuple hs
    · exact .kTuple h1 h2
  | raw v => cases e
  | dic _ _ _ => cases e
  | obj _ _ _ _ => cases e
def isiD : List D → Option D
  | [d, .raw (.ty n)] => do
    let t ← tyNm d
    let b ← kitB t n
    some (.bl b)
  | _ => none
theorem call_isiU {X : Cx} : CallR X (.builtin "isinstance") (rIsi X.K) := call_isi
theorem s_isi {K : PySem.W.Frag} : CallS K (rIsi K) isiD := by
  intro H vs ds z Q hz e q
  unfold isiD at e
  split at e
  · rename_i d n
    simp only [Option.bind_eq_bind, Option.bind_eq_some_iff] at e
    obtain ⟨t, h1, b, h2, e⟩ := e
    cases e
    cases hz with
    | cons h r =>
      cases r with
      | cons h3 r =>
        cases r
        cases h3
        exact ⟨_, .ty n, .type t, .type n, b, rfl, .ty n, tyNm_ok h h1, kit_ty h2, q⟩
  · cases e
theorem isi_of {d : D} {t n : String} {b : Bool} (h : tyNm d = some t) (h2 : kitB t n = some b) : isiD [d, .raw (.ty n)] = some (.bl b) := by
  simp only [isiD, h, h2, Option.bind_eq_bind, Option.bind_some]
theorem kb_int_int : kitB "int" "int" = some true := by decide +kernel
theorem kb_int_bool : kitB "int" "bool" = some false := by decide +kernel
theorem kb_bool_bool : kitB "bool" "bool" = some true := by decide +kernel
theorem kb_bool_int : kitB "bool" "int" = some true := by decide +kernel
theorem kb_str_int : kitB "str" "int" = some false := by decide +kernel
theorem kb_str_bool : kitB "str" "bool" = some false := by decide +kernel
theorem kb_str_str : kitB "str" "str" = some true := by decide +kernel
theorem kb_int_str : kitB "int" "str" = some false := by decide +kernel
theorem kb_bool_str : kitB "bool" "str" = some false := by decide +kernel
theorem kb_non_int : kitB "NoneType" "int" = some false := by decide +kernel
theorem kb_non_bool : kitB "NoneType" "bool" = some false := by decide +kernel
theorem kb_non_str : kitB "NoneType" "str" = some false := by decide +kernel
theorem kb_list_list : kitB "list" "list" = some true := by decide +kernel
theorem kb_tuple_tuple : kitB "tuple" "tuple" = some true := by decide +kernel
theorem kb_list_tuple : kitB "list" "tuple" = some false := by decide +kernel
theorem kb_tuple_list : kitB "tuple" "list" = some false := by decide +kernel
end Z
set_option Elab.async false
set_option linter.all false
set_option maxRecDepth 100000
set_option maxHeartbeats 4000000
namespace Z
open PySem PySem.Spec PyProof.Rows L2
def absP : Value → Option D
  | .none => some .non
  | .bool b => some (.bl b)
  | .int i _ => some (.int i)
  | .str x _ => some (.str x.cps.toList)
  | _ => none
theorem absP_ok {u : Value} {d : D} (h : absP u = some d) : ∃ v, RelV v u ∧ ∀ (K : PySem.W.Frag) (H : Hp), Dz K H v d := by
  cases u with
  | none => cases h; exact ⟨.non, rfl, fun _ _ => .non⟩
  | bool b => cases h; exact ⟨.bl b, rfl, fun _ _ => .bl b⟩
  | int i t => cases h; exact ⟨.int i, ⟨t, rfl⟩, fun _ _ => .int i⟩
  | str x t =>
    cases h
    refine ⟨.str x, ⟨t, rfl⟩, fun K H => ?_⟩
    have : x = ⟨x.cps.toList.toArray⟩ := by cases x; simp
    conv => arg 3; rw [this]
    exact .str _
  | _ => cases h
section
variable {K : PySem.W.Frag} {h : Heap} {mg : Str → Option Value} {x : Str}
def ConstD (K : PySem.W.Frag) (mg : Str → Option Value) (x : Str) (d : D) : Prop := ∃ v, ConstAt K mg x v d
theorem constP {u : Value} {d : D} (X : K.In h) (G : h.Ns mainGlobals mg) (e : PySem.W.nsIn K mainGlobals x = some (some u)) (hd : absP u = some d) : ConstD K mg x d := by
  obtain ⟨v, r, z⟩ := absP_ok hd
  exact ⟨v, ⟨_, PySem.W.mg_of X G e, r⟩, z K⟩
theorem ze_cd {X : Cx} {pos : Pos} {x : Str} {d : D} (h : ConstD X.K X.mg x d) (hg : Gl X x := by rfl) (hdb : (x == ("__debug__" : Str)) = false := by decide) : ZE X (.Name x pos) (zC d) := by
  obtain ⟨v, h⟩ := h
  exact ze_gc h hg hdb
end
def inL (x : D) (l : List D) : Bool := l.any fun y => D.eqv y x
def inB (x y : D) : Option Bool := match y with
  | .lst l => if (x.pl && l.all D.pl) = true then some (inL x l) else if (x.shp && (D.lst l).shp) = true then some (inL x l) else none
  | .tup l => if (x.pl && l.all D.pl) = true then some (inL x l) else if (x.shp && (D.tup l).shp) = true then some (inL x l) else none
  | .str t => match x with
    | .str [c] => some (decide (c ∈ t))
    | _ => none
  | _ => none
def inD (x y : D) : Option D := (inB x y).map D.bl
def notinD (x y : D) : Option D := (inB x y).map fun b => D.bl (!b)
def rInT (K : PySem.W.Frag) (neg : Bool) : R2 := fun x y H Q => ∃ d ds, Dp K H x d ∧ Dp K H y (.tuple ds) ∧ SeqAt.shaped d = true ∧ SeqAt.shaped (.tuple ds) = true ∧ Q (.bl (if neg then !(ds.any fun z => PyData.eqv z d) else ds.any fun z => PyData.eqv z d)) H
theorem op_inT {X : Cx} (hu : X.A.units + 65 < cLine) : OpR X (compareOp .In) (rInT X.K false) := by
  intro pins s σ H x y v u Q I rx ry h
  obtain ⟨d, ds, hd, he, sd, se, q⟩ := h
  obtain ⟨as, r1⟩ := Dp.reads I d x v hd rx
  obtain ⟨bs, r2⟩ := Dp.reads I (.tuple ds) y u he ry
  exact SeqAt.in_tuple_reads r2 r1 (SeqAt.canLay_of_shaped se) (SeqAt.canLay_of_shaped sd) (room_in_shaped sd hu) ⟨.bl _, H, I, rfl, q⟩
theorem op_notInT {X : Cx} (hu : X.A.units + 65 < cLine) : OpR X (compareOp .NotIn) (rInT X.K true) := by
  intro pins s σ H x y v u Q I rx ry h
  obtain ⟨d, ds, hd, he, sd, se, q⟩ := h
  obtain ⟨as, r1⟩ := Dp.reads I d x v hd rx
  obtain ⟨bs, r2⟩ := Dp.reads I (.tuple ds) y u he ry
  exact SeqAt.notIn_tuple_reads r2 r1 (SeqAt.canLay_of_shaped se) (SeqAt.canLay_of_shaped sd) (room_in_shaped sd hu) ⟨.bl _, H, I, rfl, q⟩
def rInU (K : PySem.W.Frag) : R2 := fun x y H Q => rIn K false x y H Q ∨ rInD K x y H Q ∨ rInT K false x y H Q ∨ (∃ (c : Nat) (z : Str), x = .str ⟨#[c]⟩ ∧ y = .str z ∧ Q (.bl (decide (c ∈ z.cps.toList))) H)
def rNotInU (K : PySem.W.Frag) : R2 := fun x y H Q => rIn K true x y H Q ∨ rNotInD K x y H Q ∨ rInT K true x y H Q ∨ (∃ (c : Nat) (z : Str), x = .str ⟨#[c]⟩ ∧ y = .str z ∧ Q (.bl (!decide (c ∈ z.cps.toList))) H)
theorem o_in {X : Cx} {k : Nat} (hr : Room k X.A) : OpR X (compareOp .In) (rInU X.K) := OpR.or op_in_seq (OpR.or (op_inD (by have := hr.un; omega)) (OpR.or (op_inT (by have := hr.un; omega)) op_in_sign))
theorem o_notin {X : Cx} {k : Nat} (hr : Room k X.A) : OpR X (compareOp .NotIn) (rNotInU X.K) := OpR.or op_notIn_seq (OpR.or (op_notInD (by have := hr.un; omega)) (OpR.or (op_notInT (by have := hr.un; omega)) op_notIn_sign))
theorem eqV_eqv {K : PySem.W.Frag} {H : Hp} {v w : V} {d e : D} (h : Dz K H v d) (h' : Dz K H w e) (p : d.pl = true) (q : e.pl = true) : eqV v w = D.eqv d e := by
  cases h <;> cases h' <;> simp [D.pl] at p q <;> simp [eqV, D.eqv, str_beq]
theorem flat_pl {K : PySem.W.Frag} {H : Hp} {v : V} {d : D} (h : Dz K H v d) (p : d.pl = true) : flatV v = true := by
  cases h <;> simp [D.pl] at p <;> rfl
theorem flats_pl {K : PySem.W.Frag} {H : Hp} : ∀ {vs : List V} {ds : List D}, DzA K H vs ds → ds.all D.pl = true → vs.all flatV = true
  | _, _, .nil, _ => rfl
  | _, _, .cons h t, p => by
    rw [List.all_cons, Bool.and_eq_true] at p
    rw [List.all_cons, flat_pl h p.1, flats_pl t p.2]
    rfl
theorem inV_inL {K : PySem.W.Frag} {H : Hp} {v : V} {d : D} (h : Dz K H v d) (p : d.pl = true) : ∀ {vs : List V} {ds : List D}, DzA K H vs ds → ds.all D.pl = true → inV v vs = inL d ds
  | _, _, .nil, _ => rfl
  | _, _, .cons h2 t, q => by
    rw [List.all_cons, Bool.and_eq_true] at q
    unfold inV inL
    rw [List.any_cons, List.any_cons, eqV_eqv h2 h q.1 p]
    have := inV_inL h p t q.2
    unfold inV inL at this
    rw [this]
theorem pyA_map : ∀ l : List D, D.pyA l = l.map D.py
  | [] => rfl
  | d :: l => by rw [D.pyA, List.map_cons, pyA_map l]
theorem shp_lay {d : D} (h : d.shp = true) : d.py.canLay0 = true := SeqAt.canLay_of_shaped h
theorem s_in {K : PySem.W.Frag} : OpS K (rInU K) inD := by
  intro H x y d e z Q hx hy e1 q
  unfold inD at e1
  rw [Option.map_eq_some_iff] at e1
  obtain ⟨b, e1, rfl⟩ := e1
  have deep : ∀ {l : List D}, d.shp = true → (D.lst l).shp = true → Dz K H y (.lst l) → b = inL d l → rInD K x y H Q := fun {l} p1 p2 hy eb => by
    have hl : Dp K H y (PyData.list (D.pyA l)) := Dz.dp hy (shp_lay p2)
    refine ⟨d.py, D.pyA l, Dz.dp hx (shp_lay p1), hl, p1, p2, ?_⟩
    rw [pyA_map, List.any_map]
    have : ((fun z => PyData.eqv z d.py) ∘ D.py) = fun y => D.eqv y d := by funext y; exact D.py_eqv y d
    rw [this]
    rw [eb] at q
    exact q
  have deepT : ∀ {l : List D}, d.shp = true → (D.tup l).shp = true → Dz K H y (.tup l) → b = inL d l → rInT K false x y H Q := fun {l} p1 p2 hy eb => by
    have hl : Dp K H y (PyData.tuple (D.pyA l)) := Dz.dp hy (shp_lay p2)
    refine ⟨d.py, D.pyA l, Dz.dp hx (shp_lay p1), hl, p1, p2, ?_⟩
    rw [if_neg Bool.false_ne_true, pyA_map, List.any_map]
    have : ((fun z => PyData.eqv z d.py) ∘ D.py) = fun y => D.eqv y d := by funext y; exact D.py_eqv y d
    rw [this]
    rw [eb] at q
    exact q
  cases e with
  | lst l =>
    simp only [inB] at e1
    split at e1
    · rename_i hp
      cases e1
      rw [Bool.and_eq_true] at hp
      cases hy with
      | lst hs ha => exact .inl ⟨_, _, rfl, .inl hs, flat_pl hx hp.1, flats_pl ha hp.2, by rw [if_neg Bool.false_ne_true, inV_inL hx hp.1 ha hp.2]; exact q⟩
    · split at e1
      · rename_i hp
        cases e1
        rw [Bool.and_eq_true] at hp
        exact .inr (.inl (deep hp.1 hp.2 hy rfl))
      · cases e1
  | tup l =>
    simp only [inB] at e1
    split at e1
    · rename_i hp
      cases e1
      rw [Bool.and_eq_true] at hp
      cases hy with
      | tup hs ha => exact .inl ⟨_, _, rfl, .inr hs, flat_pl hx hp.1, flats_pl ha hp.2, by rw [if_neg Bool.false_ne_true, inV_inL hx hp.1 ha hp.2]; exact q⟩
    · split at e1
      · rename_i hp
        cases e1
        rw [Bool.and_eq_true] at hp
        exact .inr (.inr (.inl (deepT hp.1 hp.2 hy rfl)))
      · cases e1
  | str t =>
    simp only [inB] at e1
    split at e1
    · rename_i c
      cases e1
      cases hx
      cases hy
      exact .inr (.inr (.inr ⟨c, _, rfl, rfl, q⟩))
    · cases e1
  | _ => cases e1
theorem s_notin {K : PySem.W.Frag} : OpS K (rNotInU K) notinD := by
  intro H x y d e z Q hx hy e1 q
  unfold notinD at e1
  rw [Option.map_eq_some_iff] at e1
  obtain ⟨b, e1, rfl⟩ := e1
  have deep : ∀ {l : List D}, d.shp = true → (D.lst l).shp = true → Dz K H y (.lst l) → b = inL d l → rNotInD K x y H Q := fun {l} p1 p2 hy eb => by
    have hl : Dp K H y (PyData.list (D.pyA l)) := Dz.dp hy (shp_lay p2)
    refine ⟨d.py, D.pyA l, Dz.dp hx (shp_lay p1), hl, p1, p2, ?_⟩
    rw [pyA_map, List.any_map]
    have : ((fun z => PyData.eqv z d.py) ∘ D.py) = fun y => D.eqv y d := by funext y; exact D.py_eqv y d
    rw [this]
    rw [eb] at q
    exact q
  have deepT : ∀ {l : List D}, d.shp = true → (D.tup l).shp = true → Dz K H y (.tup l) → b = inL d l → rInT K true x y H Q := fun {l} p1 p2 hy eb => by
    have hl : Dp K H y (PyData.tuple (D.pyA l)) := Dz.dp hy (shp_lay p2)
    refine ⟨d.py, D.pyA l, Dz.dp hx (shp_lay p1), hl, p1, p2, ?_⟩
    rw [if_pos rfl, pyA_map, List.any_map]
    have : ((fun z => PyData.eqv z d.py) ∘ D.py) = fun y => D.eqv y d := by funext y; exact D.py_eqv y d
    rw [this]
    rw [eb] at q
    exact q
  cases e with
  | lst l =>
    simp only [inB] at e1
    split at e1
    · rename_i hp
      cases e1
      rw [Bool.and_eq_true] at hp
      cases hy with
      | lst hs ha => exact .inl ⟨_, _, rfl, .inl hs, flat_pl hx hp.1, flats_pl ha hp.2, by rw [if_pos rfl, inV_inL hx hp.1 ha hp.2]; exact q⟩
    · split at e1
      · rename_i hp
        cases e1
        rw [Bool.and_eq_true] at hp
        exact .inr (.inl (deep hp.1 hp.2 hy rfl))
      · cases e1
  | tup l =>
    simp only [inB] at e1
    split at e1
    · rename_i hp
      cases e1
      rw [Bool.and_eq_true] at hp
      cases hy with
      | tup hs ha => exact .inl ⟨_, _, rfl, .inr hs, flat_pl hx hp.1, flats_pl ha hp.2, by rw [if_pos rfl, inV_inL hx hp.1 ha hp.2]; exact q⟩
    · split at e1
      · rename_i hp
        cases e1
        rw [Bool.and_eq_true] at hp
        exact .inr (.inr (.inl (deepT hp.1 hp.2 hy rfl)))
      · cases e1
  | str t =>
    simp only [inB] at e1
    split at e1
    · rename_i c
      cases e1
      cases hx
      cases hy
      exact .inr (.inr (.inr ⟨c, _, rfl, rfl, q⟩))
    · cases e1
  | _ => cases e1
/-- the items of a list or a tuple -/
def seqD : D → Option (List D)
  | .lst l => some l
  | .tup l => some l
  | _ => none
def z_list (ma : ZAr) : ZM := fun g => do
  let (rs, g1) ← ma g
  match rs with
  | [r] => do
    let d ← rd g1 r
    let l ← seqD d
    some (.bor g1.length, g1 ++ [.own (.lst l) false false])
  | _ => none
def z_tuple (ma : ZAr) : ZM := fun g => do
  let (rs, g1) ← ma g
  match rs with
  | [r] => do
    let d ← rd g1 r
    match d with
    | .lst l => some (.dat (.tup l), g1)
    | .tup l => match r with
      | .dat _ => some (.dat (.tup l), g1)
      | _ => none
    | _ => none
  | _ => none
section
variable {X : Cx} {pos : Pos} {a b : Expr} {ma mb : ZM} {mr : ZAr} {es : List Expr}
abbrev ZO := G → Option (Option Int × G)
def tZO (K : PySem.W.Frag) (n : Nat) (m : ZO) : TO := fun σ H Q => ∃ (C : Ct) (Hs : Hp) (A : List Addr) (g : G) (o : Option Int) (g' : G), C.K = K ∧ C.n = n ∧ Ok C Hs A g σ H ∧ m g = some (o, g') ∧
  ∀ (Hs' : Hp) (A' : List Addr) (H' : Hp), Same Hs Hs' → Pre A A' → Ok C Hs' A' g' σ H' → Q o H'
abbrev ZPo (X : Cx) (e : Option Expr) (m : ZO) : Prop := PO X e (tZO X.K X.N.length m)
theorem PO.of {X : Cx} {e : Option Expr} {t t' : TO} (h : PO X e t) (w : ∀ σ H Q, t' σ H Q → t σ H Q) : PO X e t' := ⟨fun pins s σ H Q I q => h.run pins s σ H Q I (w σ H Q q)⟩
def zoN : ZO := fun g => some (none, g)
def zoS (m : ZM) : ZO := fun g => do
  let (r, g1) ← m g
  let k ← isI r
  some (some k, g1)
theorem zo_none : ZPo X none zoN := PO.of po_none fun σ H Q ⟨C, Hs, A, g, o, g', hK, hn, ok, e, q⟩ => by
  cases e
  exact q Hs A H (Same.refl _) (Pre.refl _) ok
theorem zo_some {e : Expr} {m : ZM} (h : ZE X e m) : ZPo X (some e) (zoS m) := by
  refine PO.of (po_some h) fun σ H Q ⟨C, Hs, A, g, o, g', hK, hn, ok, e, q⟩ => ?_
  unfold zoS at e
  simp only [Option.bind_eq_bind, Option.bind_eq_some_iff] at e
  obtain ⟨⟨r, g1⟩, h1, k, h2, e⟩ := e
  cases e
  have er := isI_some h2
  subst er
  refine ⟨C, Hs, A, g, _, _, hK, hn, ok, h1, fun Hs1 A1 v1 H1 s1 p1 ok1 rel1 => ?_⟩
  have ev : v1 = .int k := (show Dz C.K Hs1 v1 (.int k) from rel1).v rfl
  exact ⟨k, ev, q Hs1 A1 H1 s1 p1 ok1⟩
/-- the part of a list -/
def cutL {α : Type} (xs : List α) (lo hi : Option Int) : List α := (xs.drop (HT.sIx xs.length 0 lo)).take (HT.sIx xs.length xs.length hi - HT.sIx xs.length 0 lo)
theorem cutL_dz {K : PySem.W.Frag} {H : Hp} {vs : List V} {ds : List D} (h : DzA K H vs ds) (lo hi : Option Int) : DzA K H (cutV vs lo hi) (cutL ds lo hi) := by
  unfold cutV cutL
  rw [h.length]
  exact (h.drop _).take _
theorem cutL_whole {vs : List V} {ds : List D} {lo hi : Option Int} (hl : vs.length = ds.length) (e1 : HT.sIx vs.length 0 lo = 0) (e2 : HT.sIx vs.length vs.length hi = vs.length) : cutL ds lo hi = ds := by
  unfold cutL
  rw [← hl, e1, e2, hl]
  simp
def zSl (ma : ZM) (ml mh : ZO) : ZM := fun g => do
  let (r, g1) ← ma g
  let (lo, g2) ← ml g1
  let (hi, g3) ← mh g2
  let d ← rd g3 r
  match d with
  | .lst l => some (.bor g3.length, g3 ++ [.own (.lst (cutL l lo hi)) false false])
  | .str t => if t.length ≤ sizeLine then some (.dat (.str (cutL t lo hi)), g3) else none
  | .tup l => match r with
    | .dat _ => some (.dat (.tup (cutL l lo hi)), g3)
    | _ => none
  | _ => none
def rSlU (K : PySem.W.Frag) : V → Option Int → Option Int → Hp → VK → Prop := fun x lo hi H Q => rSlL K x lo hi H Q ∨ rSlS x lo hi H Q ∨ rSlA K x lo hi H Q
theorem sl_U : SlR X (rSlU X.K) := SlR.or sl_list (SlR.or sl_str sl_tupA)
theorem cutS_codes (t : List Nat) (lo hi : Option Int) : cutS ⟨t.toArray⟩ lo hi = ⟨(cutL t lo hi).toArray⟩ := by
  unfold cutS cutL
  simp [Str.length]
theorem ze_sl {lo hi : Option Expr} {p2 : Pos} {ml mh : ZO} (ha : ZE X a ma) (hl : ZPo X lo ml) (hh : ZPo X hi mh) : ZE X (.Subscript a (.Slice lo hi none p2) pos) (zSl ma ml mh) := by
  refine PE.of (pe_slice sl_U ha hl hh) fun σ H Q ⟨C, Hs, A, g, r, g', hK, hn, ok, e, q⟩ => ?_
  unfold zSl at e
  simp only [Option.bind_eq_bind, Option.bind_eq_some_iff] at e
  obtain ⟨⟨r1, g1⟩, h1, ⟨lo', g2⟩, h2, ⟨hi', g3⟩, h3, d, h4, e⟩ := e
  refine ⟨C, Hs, A, g, r1, g1, hK, hn, ok, h1, fun Hs1 A1 v1 H1 s1 p1 ok1 rel1 => ?_⟩
  refine ⟨C, Hs1, A1, g1, lo', g2, hK, hn, ok1, h2, fun Hs2 A2 H2 s2 p2 ok2 => ?_⟩
  refine ⟨C, Hs2, A2, g2, hi', g3, hK, hn, ok2, h3, fun Hs3 A3 H3 s3 p3 ok3 => ?_⟩
  have rel3 := rel1.mono (s2.trans s3) (p2.trans p3)
  have S := (s1.trans s2).trans s3
  have PP := (p1.trans p2).trans p3
  dsimp only at e h4
  split at e
  · cases e
    obtain ⟨a, xs, rfl, y1, y2⟩ := ok3.rdL rel3 h4
    exact .inl ⟨a, xs, rfl, by rw [← hK]; exact y1, fun p hp => q Hs3 (A3 ++ [p]) _ _ S (PP.trans (Pre.app _ _)) (ok3.tmp (o := .lst (cutV xs lo' hi')) (c := .lst (cutL _ lo' hi')) hp (cutL_dz y2 lo' hi')) (ok3.tmpR p)⟩
  · split at e
    · rename_i hz
      cases e
      have hd := ok3.rd rel3 h4
      cases hd
      exact .inr (.inl ⟨_, rfl, by simpa [Str.length] using hz, by rw [cutS_codes]; exact q Hs3 A3 _ H3 S PP ok3 (.str _)⟩)
    · cases e
  · split at e
    · cases e
      cases h4
      have w' : Dz C.K Hs3 v1 (.tup _) := rel3
      cases w' with
      | tup hs hz =>
        rename_i a xs
        refine .inr (.inr ⟨a, xs, rfl, by rw [← hK]; exact sameT ok3.same hs, fun ee => ?_, fun _ p hp => ?_⟩)
        · obtain ⟨e1, e2⟩ := ee
          refine q Hs3 A3 _ H3 S PP ok3 (.tup hs ?_)
          have : cutL _ lo' hi' = _ := cutL_whole hz.length e1 e2
          rw [this]
          exact hz
        · obtain ⟨ok4, s4⟩ := ok3.lay (o := .tup (cutV xs lo' hi')) hp
          exact q _ A3 (.ref p) _ (S.trans s4) PP ok4 (.tup (SqT.of upd_same) ((cutL_dz hz lo' hi').mono s4))
    · cases e
  · cases e
end
end Z
set_option Elab.async false
set_option linter.all false
set_option maxRecDepth 100000
set_option maxHeartbeats 4000000
namespace Z
open PySem PySem.Spec PyProof.Rows L2
section
variable {g g1 g2 g3 : G} {r r1 r2 : R} {d e z : D} {ma mb mc m : ZM} {mr : ZAr} {rs : List R} {ds : List D} {b b1 b2 : Bool} {n i j : Nat}
theorem asg_run {tg : TD} (h1 : m g = some (.dat d, g1)) (h2 : tg d g1 = some g2) (hg : g2.take n = g3) : zAsg n m tg g = some (.nx, g3) := by
  unfold zAsg; simp only [h1, frzR, h2, hg, Option.bind_eq_bind, Option.bind_some]
theorem aug_run {f : D → D → Option D} (h0 : zVar i g = some (.dat d, g)) (hs : d.scal = true) (h1 : m g = some (r, g1)) (h2 : rd g1 r = some e) (h3 : f d e = some z) (hz : z.scal = true) (hf : freeAt i g1 = true) (hg : (g1.set i (.dat z)).take n = g2) : zAug n i f m g = some (.nx, g2) := by
  have h00 : rd g (.dat d) = some d := rfl
  have h4 : setDat i z g1 = some (g1.set i (.dat z)) := by unfold setDat; rw [if_pos hf]
  unfold zAug
  simp only [h0, h00, hs, h1, h2, h3, hz, h4, hg, Option.bind_eq_bind, Option.bind_some, if_true]
theorem sto_run {k : Int} {q : Nat} {p : Bool} (h1 : mc g = some (.dat d, g1)) (h2 : ma g1 = some (.bor j, g2)) (h3 : mb g2 = some (.dat (.int k), g3)) (h4 : g3[j]? = some (.own (.lst ds) p false)) (h5 : ixN ds.length k = some q) {g4 : G} (hg : (g3.set j (.own (.lst (ds.set q d)) p false)).take n = g4) : zSto n ma mb mc g = some (.nx, g4) := by
  unfold zSto; simp only [h1, h2, h3, h4, h5, hg, frzR, isI, Option.bind_eq_bind, Option.bind_some]
theorem er_list {l : List D} (h1 : mr g = some ([r], g1)) (h2 : rd g1 r = some d) (h3 : seqD d = some l) : z_list mr g = some (.bor g1.length, g1 ++ [.own (.lst l) false false]) := by
  unfold z_list; simp only [h1, h2, h3, Option.bind_eq_bind, Option.bind_some]
theorem er_tupL {l : List D} (h1 : mr g = some ([r], g1)) (h2 : rd g1 r = some (.lst l)) : z_tuple mr g = some (.dat (.tup l), g1) := by
  unfold z_tuple; simp only [h1, h2, Option.bind_eq_bind, Option.bind_some]
theorem er_zoN : zoN g = some (none, g) := rfl
theorem er_zoS {k : Int} (h : m g = some (.dat (.int k), g1)) : zoS m g = some (some k, g1) := by
  unfold zoS; simp only [h, isI, Option.bind_eq_bind, Option.bind_some]
theorem er_slS {ml mh : ZO} {lo hi : Option Int} {t : List Nat} (h1 : ma g = some (r, g1)) (h2 : ml g1 = some (lo, g2)) (h3 : mh g2 = some (hi, g3)) (h4 : rd g3 r = some (.str t)) (hz : t.length ≤ sizeLine) : zSl ma ml mh g = some (.dat (.str (cutL t lo hi)), g3) := by
  unfold zSl; simp only [h1, h2, h3, h4, if_pos hz, Option.bind_eq_bind, Option.bind_some]
theorem er_slL {ml mh : ZO} {lo hi : Option Int} {l : List D} (h1 : ma g = some (r, g1)) (h2 : ml g1 = some (lo, g2)) (h3 : mh g2 = some (hi, g3)) (h4 : rd g3 r = some (.lst l)) : zSl ma ml mh g = some (.bor g3.length, g3 ++ [.own (.lst (cutL l lo hi)) false false]) := by
  unfold zSl; simp only [h1, h2, h3, h4, Option.bind_eq_bind, Option.bind_some]
theorem er_C : zC d g = some (.dat d, g) := rfl
theorem er_nil : zNil g = some ([], g) := rfl
theorem er_varD (h : g[i]? = some (.dat d)) : zVar i g = some (.dat d, g) := by unfold zVar; rw [h]
theorem er_varO {c : Cn} {p l : Bool} (h : g[i]? = some (.own c p l)) : zVar i g = some (.bor i, g) := by unfold zVar; rw [h]
theorem er_varF (h : g[i]? = some (.frz d)) : zVar i g = some (.dat d, g) := by unfold zVar; rw [h]
end
end Z
set_option Elab.async false
set_option linter.all false
set_option maxRecDepth 100000
set_option maxHeartbeats 4000000
namespace Z
open PySem PySem.Spec PyProof.Rows L2
def startM (n k : Nat) (c : Cn) (ds : List D) : G := (start0 (n - 1) ds).insertIdx k (.own c true false)
def finM (k : Nat) : Option (Fl × G) → Option (FR × Cn)
  | some (.ret r, g) => match g[k]? with
    | some (.own c' true _) => (fin g r).map fun fr => (fr, c')
    | _ => none
  | some (.nx, g) => match g[k]? with
    | some (.own c' true _) => some (.dat .non, c')
    | _ => none
  | _ => none
def runM (n np k : Nat) (s : SM) : Cn → List D → Option (FR × Cn) := fun c ds => if ds.length + 1 = np ∧ k ≤ ds.length then finM k (s (startM n k c ds)) else none
theorem start0_old {n : Nat} {ds : List D} {i : Nat} {t : Sl} (e : (start0 n ds)[i]? = some t) : (∃ d, ds[i]? = some d ∧ t = .dat d) ∨ t = .un := by
  unfold start0 at e
  by_cases hi : i < ds.length
  · rw [List.getElem?_append_left (by simpa using hi), List.getElem?_map] at e
    rw [List.getElem?_eq_getElem hi] at e
    exact .inl ⟨ds[i], List.getElem?_eq_getElem hi, (Option.some.inj e).symm⟩
  · rw [List.getElem?_append_right (by simpa using hi), List.getElem?_replicate] at e
    split at e
    · exact .inr (Option.some.inj e).symm
    · cases e
theorem start0_len {n : Nat} {ds : List D} (h : ds.length ≤ n) : (start0 n ds).length = n := by
  unfold start0
  rw [List.length_append, List.length_map, List.length_replicate]
  omega
theorem startM_old {n k : Nat} {c : Cn} {ds : List D} {i : Nat} {t : Sl} (hk : k ≤ ds.length) (hn : ds.length + 1 ≤ n) (e : (startM n k c ds)[i]? = some t) :
    (i = k ∧ t = .own c true false) ∨ (i ≠ k ∧ ((∃ d, ds[if i < k then i else i - 1]? = some d ∧ t = .dat d) ∨ t = .un)) := by
  unfold startM at e
  have hl := start0_len (n := n - 1) (ds := ds) (by omega)
  rw [List.getElem?_insertIdx] at e
  split at e
  · rename_i h
    refine .inr ⟨by omega, ?_⟩
    rw [if_pos h]
    exact start0_old e
  · rename_i h
    split at e
    · rename_i h2
      rw [if_pos (by omega)] at e
      exact .inl ⟨h2, (Option.some.inj e).symm⟩
    · rename_i h2
      refine .inr ⟨h2, ?_⟩
      rw [if_neg h]
      exact start0_old e
theorem ok_startM {K : PySem.W.Frag} {N : List Str} {Hs H : Hp} {vs : List V} {ds : List D} {k : Nat} {c : Cn} {a : Addr} {o : HO} (h : vs.length ≤ N.length) (hvd : vs.length = ds.length + 1) (hk : k ≤ ds.length) (s : Same Hs H) (hv : vs[k]? = some (.ref a)) (hz : DzA K Hs (vs.eraseIdx k) ds) (ha : Hs a = none) (hH : H a = some o) (hc : CnOk K Hs c o) :
    Ok { K := K, n := N.length, H0 := H, Hs0 := Hs, pins := [(k, a)], locks := [], plt := fun q h => by rw [List.mem_singleton.mp h]; show k < N.length; omega, llt := fun _ h => (List.not_mem_nil h).elim } Hs (List.replicate N.length a) (startM N.length k c ds) (L2.start N vs) H := by
  have hl : (startM N.length k c ds).length = N.length := by
    unfold startM
    have := start0_len (n := N.length - 1) (ds := ds) (by omega)
    rw [List.length_insertIdx, if_pos (by omega), this]
    omega
  have old := fun {i : Nat} {t : Sl} => startM_old (c := c) (i := i) (t := t) hk (show ds.length + 1 ≤ N.length by omega)
  have self : (startM N.length k c ds)[k]? = some (.own c true false) := by
    unfold startM
    have := start0_len (n := N.length - 1) (ds := ds) (by omega)
    rw [List.getElem?_insertIdx, if_neg (by omega), if_pos rfl, if_pos (by omega)]
  have A1 : ∀ {i : Nat}, i < N.length → (List.replicate N.length a)[i]? = some a := fun {i} hi => by rw [List.getElem?_replicate, if_pos hi]
  have st : ∀ {i : Nat} {v : V}, vs[i]? = some v → (L2.start N vs)[i]? = some (some v) := fun {i v} w => by
    have hi := (List.getElem?_eq_some_iff.mp w).1
    unfold L2.start
    rw [List.getElem?_append_left (by simpa using hi), List.getElem?_map, w]
    rfl
  refine ⟨start_len h, by rw [hl]; exact Nat.le_refl _, by rw [hl, List.length_replicate], Same.refl _, s, fun i d e => ?_, fun i d e => ?_, fun i c' p l e => ?_, fun i j c1 p1 l1 c2 p2 l2 a' e1 e2 _ _ => ?_, fun b o e => .inl e, fun b o e _ => e, fun q hq => ?_, fun i c' l a' e ha' => ?_, fun _ h => (List.not_mem_nil h).elim, fun i ls e => ?_⟩
  · rcases old e with ⟨_, z⟩ | ⟨ne, ⟨d', h1, h2⟩ | z⟩
    · cases z
    · cases h2
      obtain ⟨v, w1, w2⟩ := hz.get h1
      refine ⟨v, st ?_, w2⟩
      rw [List.getElem?_eraseIdx] at w1
      by_cases q : i < k
      · simp only [if_pos q] at w1
        exact w1
      · simp only [if_neg q] at w1
        rw [if_neg (by omega), show i - 1 + 1 = i by omega] at w1
        exact w1
    · cases z
  · rcases old e with ⟨_, z⟩ | ⟨_, ⟨d', _, z⟩ | z⟩ <;> cases z
  · rcases old e with ⟨ei, z⟩ | ⟨_, ⟨d', _, z⟩ | z⟩
    · cases z
      subst ei
      exact ⟨a, o, A1 (by omega), fun _ => st hv, ha, hH, hc, fun z => by cases z⟩
    · cases z
    · cases z
  · rcases old e1 with ⟨ei, _⟩ | ⟨_, ⟨d', _, z⟩ | z⟩
    · rcases old e2 with ⟨ej, _⟩ | ⟨_, ⟨d', _, z⟩ | z⟩
      · omega
      · cases z
      · cases z
    · cases z
    · cases z
  · have eq : q = (k, a) := List.mem_singleton.mp hq
    subst eq
    exact ⟨c, false, self, A1 (by show k < N.length; omega)⟩
  · rcases old e with ⟨ei, z⟩ | ⟨_, ⟨d', _, z⟩ | z⟩
    · cases z
      subst ei
      rw [A1 (by omega)] at ha'
      cases ha'
      exact List.mem_singleton.mpr rfl
    · cases z
    · cases z
  · rcases old e with ⟨_, z⟩ | ⟨_, ⟨d', _, z⟩ | z⟩ <;> cases z
section
variable {P : Program} {w : World} {K : PySem.W.Frag} {mg : Str → Option Value} {base : Heap}
/-- THE RULE for a def that changes its kk-th argument -/
theorem okM {x qual : Str} {st : Stmt} {f : Addr} {fd : FuncData} {N ps : List Str} {k kk : Nat} {s : SM} (F : Fun K x qual st f fd) (S : FnScope N ps (defScope st))
    (hbody : ∀ (cdv : Value) (A : Around) (outer : List Env) (s0 : Shared) (H : Hp) (E : XK), Room k (A.deeper (envOfC qual (defScope st) s0.heap.objs.size f cdv)) →
      ZSs (cxOf CX0 P w K mg base N qual (defScope st) f cdv A outer s0 H E).nox (defBody st) s) : FnOk P w K mg base CX0 (k + 1) f fd ps (spM K kk (runM N.length ps.length kk s)) := by
  have arity : ∀ vs H Q E, spM K kk (runM N.length ps.length kk s) vs H Q E → vs.length = ps.length := fun vs H Q E ⟨Hs, ds, c, c', a, o, fr, _, hv, hz, _, _, _, e, _⟩ => by
    unfold runM at e
    split at e
    · rename_i h
      have h2 := hz.length
      have hi := (List.getElem?_eq_some_iff.mp hv).1
      rw [List.length_eraseIdx, if_pos hi] at h2
      omega
    · cases e
  refine F.ok S arity (fun cdv A outer s0 H vs Q E hr h => ⟨_, hbody cdv A outer s0 H E hr, ?_⟩)
  have hal := arity vs H Q E h
  obtain ⟨Hs, ds, c, c', a, o, fr, sm, hv, hz, ha, hH, hc, e, q⟩ := h
  have hpl : ps.length ≤ N.length := by
    have := congrArg List.length S.pre
    rw [List.length_take] at this
    omega
  unfold runM at e
  split at e
  · rename_i hlk
    have ok := ok_startM (N := N) (by omega) (by omega) hlk.2 sm hv hz ha hH hc
    have done : ∀ {Hs' A' g' σ' H'}, Ok { K := K, n := N.length, H0 := H, Hs0 := Hs, pins := [(kk, a)], locks := [], plt := fun q h => by rw [List.mem_singleton.mp h]; show kk < N.length; omega, llt := fun _ h => (List.not_mem_nil h).elim } Hs' A' g' σ' H' → ∀ {c1 : Cn} {l1 : Bool}, g'[kk]? = some (.own c1 true l1) →
        (∀ b u, b ≠ a → H b = some u → H' b = some u) ∧ Same Hs' H' ∧ (∀ b o, Hs' b = some o → Hs b = some o ∨ H b = none) ∧ Hs' a = none ∧ ∃ o', H' a = some o' ∧ CnOk K Hs' c1 o' := fun {Hs' A' g' σ' H'} ok1 {c1 l1} hg => by
      refine ⟨fun b u ne e => ok1.keep b u e (fun q hq => by rw [List.mem_singleton.mp hq]; exact Ne.symm ne), ok1.same, ok1.grow, ?_⟩
      obtain ⟨c2, l2, w1, w2⟩ := ok1.pinned (kk, a) (List.mem_singleton.mpr rfl)
      obtain ⟨a', o', x1, _, x3, x4, x5, _⟩ := ok1.own _ _ _ _ hg
      have w2 : A'[kk]? = some a := w2
      rw [w2] at x1
      cases x1
      exact ⟨x3, o', x4, x5⟩
    revert e
    generalize hs : s (startM N.length kk c ds) = out
    intro e
    unfold finM at e
    split at e
    · rename_i r g'
      split at e
      · rename_i c1 l1 hg
        rw [Option.map_eq_some_iff] at e
        obtain ⟨fr1, hf, e⟩ := e
        cases e
        refine ⟨_, Hs, _, startM N.length kk c ds, .ret r, g', rfl, rfl, ok, hs, ?_⟩
        intro Hs' A' σ' H' v s1 ok1 rel1
        obtain ⟨z1, z2, z3, z4, o', z5, z6⟩ := done ok1 hg
        exact q v Hs' H' o' s1 z1 z2 z3 z4 z5 z6 (fin_ok ok1 rel1 hf)
      · cases e
    · rename_i g'
      split at e
      · rename_i c1 l1 hg
        cases e
        refine ⟨_, Hs, _, startM N.length kk c ds, .nx, g', rfl, rfl, ok, hs, ?_⟩
        intro Hs' A' σ' H' s1 ok1
        obtain ⟨z1, z2, z3, z4, o', z5, z6⟩ := done ok1 hg
        exact q .non Hs' H' o' s1 z1 z2 z3 z4 z5 z6 .non
      · cases e
    · cases e
  · cases e
end
def FR.scal : FR → Bool
  | .dat d => d.scal
  | .new c => c.scal
  | .newR _ => false
def noB (j : Nat) : R → Bool
  | .bor i => i != j
  | .dat _ => true
/-- what comes back, put by -/
def putFR (fr : FR) (g : G) : R × G := match fr with
  | .dat d => (.dat d, g)
  | .new c => (.bor g.length, g ++ [.own c false false])
  | .newR ls => (.bor g.length, g ++ [.rws ls])
def zCallM (kk : Nat) (f : Cn → List D → Option (FR × Cn)) (ma : ZAr) : ZM := fun g => do
  let (rs, g1) ← ma g
  match rs[kk]? with
  | some (.bor j) => match g1[j]? with
    | some (.own c p false) =>
      if (rs.eraseIdx kk).all (noB j) = true then do
        let ds ← rdAll g1 (rs.eraseIdx kk)
        let (fr, c') ← f c ds
        if (c'.scal && fr.scal) = true then some (putFR fr (g1.set j (.own c' p false))) else do
          let (ds2, g2) ← frzAll (rs.eraseIdx kk) g1
          match g2[j]? with
          | some (.own c2 p2 false) => do
            let (fr2, c2') ← f c2 ds2
            some (putFR fr2 (g2.set j (.own c2' p2 false)))
          | _ => none
      else none
    | _ => none
  | _ => none
/-- the heap without a -/
def Hp.no (H : Hp) (a : Addr) : Hp := fun b => if b = a then none else H b
theorem Hp.no_ne {H : Hp} {a b : Addr} (h : b ≠ a) : Hp.no H a b = H b := by unfold Hp.no; rw [if_neg h]
theorem Hp.no_self {H : Hp} {a : Addr} : Hp.no H a a = none := by unfold Hp.no; rw [if_pos rfl]
theorem rdAll_no {C : Ct} {Hs : Hp} {A : List Addr} {g : G} {σ : L2.St} {H : Hp} {j : Nat} {c : Cn} {p l : Bool} {a : Addr} (ok : Ok C Hs A g σ H) (hg : g[j]? = some (.own c p l)) (ha : A[j]? = some a) : ∀ {vs : List V} {rs : List R} {ds : List D}, RelRs C.K Hs A vs rs → rs.all (noB j) = true → rdAll g rs = some ds → DzA C.K (Hp.no H a) vs ds
  | [], [], ds, _, _, e => by cases e; exact .nil
  | v :: vs, r :: rs, ds, h, nb, e => by
    unfold rdAll at e
    simp only [Option.bind_eq_bind, Option.bind_eq_some_iff] at e
    obtain ⟨d, h1, ds', h2, e⟩ := e
    cases e
    rw [List.all_cons, Bool.and_eq_true] at nb
    obtain ⟨a0, o0, q1, q2, q3, q4, q5, q6⟩ := ok.own j c _ _ hg
    rw [ha] at q1
    cases q1
    have sm : Same Hs (Hp.no H a) := fun b o e => by
      rw [Hp.no_ne (fun z => by rw [z, q3] at e; cases e)]
      exact ok.same b o e
    refine .cons ?_ (rdAll_no ok hg ha h.2 nb.2 h2)
    cases r with
    | dat d' =>
      cases h1
      exact Dz.mono sm (show Dz C.K Hs v d from h.1)
    | bor i =>
      obtain ⟨a1, h3, rfl⟩ := (show ∃ a, A[i]? = some a ∧ v = .ref a from h.1)
      have h1 : (match g[i]? with
        | some (.own c _ _) => some c.d
        | some (.frz d) => some d
        | some (.rws ls) => some (.lst (ls.map D.lst))
        | _ => none) = some d := h1
      split at h1
      · rename_i c1 p1 l1 hg1
        cases h1
        obtain ⟨a2, o2, w1, _, w3, w4, w5, _⟩ := ok.own i c1 p1 l1 hg1
        rw [h3] at w1
        cases w1
        have ne : a1 ≠ a := fun z => by
          subst z
          have := ok.inj i j _ _ _ _ _ _ a1 hg1 hg h3 ha
          have nb1 : (i != j) = true := nb.1
          rw [this] at nb1
          simp at nb1
        exact (w5.mono sm).dz (by rw [Hp.no_ne ne]; exact w4)
      · rename_i d1 hg1
        cases h1
        obtain ⟨a2, w1, _, w3⟩ := ok.frz i _ hg1
        rw [h3] at w1
        cases w1
        exact w3.mono sm
      · rename_i ls hg1
        cases h1
        obtain ⟨a2, ks, w1, _, w3, w4, _⟩ := ok.rws i _ hg1
        rw [h3] at w1
        cases w1
        have nm := w4 j c p l a hg ha
        have nx : ∀ x ∈ a1 :: ks, x ≠ a := fun x m z => nm (z ▸ m)
        exact .lst (SqL.of (by rw [Hp.no_ne (nx a1 List.mem_cons_self)]; exact w3.hd)) (KdOk.dz sm (w3.kd.move (Same.refl _) fun x m o h => by rw [Hp.no_ne (nx x (List.mem_cons_of_mem _ m))]; exact h))
      · cases h1
  | [], _ :: _, _, h, _, _ => h.elim
  | _ :: _, [], _, h, _, _ => h.elim
theorem RelRs.get {K : PySem.W.Frag} {Hs : Hp} {A : List Addr} : ∀ {vs : List V} {rs : List R} {i : Nat} {r : R}, RelRs K Hs A vs rs → rs[i]? = some r → ∃ v, vs[i]? = some v ∧ RelR K Hs A v r
  | [], [], _, _, _, e => by simp at e
  | v :: vs, r :: rs, 0, _, h, e => by simp at e; subst e; exact ⟨v, rfl, h.1⟩
  | v :: vs, r :: rs, i + 1, _, h, e => by
    obtain ⟨x, h1, h2⟩ := RelRs.get (i := i) h.2 (by simpa using e)
    exact ⟨x, by simpa using h1, h2⟩
  | [], _ :: _, _, _, h, _ => h.elim
  | _ :: _, [], _, _, h, _ => h.elim
theorem RelRs.erase {K : PySem.W.Frag} {Hs : Hp} {A : List Addr} : ∀ {vs : List V} {rs : List R} (i : Nat), RelRs K Hs A vs rs → RelRs K Hs A (vs.eraseIdx i) (rs.eraseIdx i)
  | [], [], _, _ => trivial
  | v :: vs, r :: rs, 0, h => h.2
  | v :: vs, r :: rs, i + 1, h => ⟨h.1, RelRs.erase i h.2⟩
  | [], _ :: _, _, h => h.elim
  | _ :: _, [], _, h => h.elim
/-- the container at j was changed by a call, things were laid -/
theorem Ok.wrS {C : Ct} {Hs Hs' : Hp} {A : List Addr} {g : G} {σ : L2.St} {H H' : Hp} {j : Nat} {c c' : Cn} {p : Bool} {a : Addr} {o' : HO} (ok : Ok C Hs A g σ H) (hg : g[j]? = some (.own c p false)) (ha : A[j]? = some a)
    (s1 : Same Hs Hs') (kp : ∀ b u, b ≠ a → H b = some u → H' b = some u) (s2 : ∀ b u, b ≠ a → Hs' b = some u → H' b = some u) (gr : ∀ b o, Hs' b = some o → Hs b = some o ∨ H b = none) (hn : Hs' a = none) (e : H' a = some o') (hc : CnOk C.K Hs' c' o') : Ok C Hs' A (g.set j (.own c' p false)) σ H' := by
  obtain ⟨a0, o, q1, q2, q3, q4, q5, q6⟩ := ok.own j c _ _ hg
  rw [ha] at q1
  cases q1
  have ok1 : Ok C Hs' A g σ (upd H' a o) := by
    refine ok.moreS (fun b u q => ?_) s1 (fun b u q => ?_) gr
    · by_cases z : b = a
      · subst z; rw [upd_same, ← q, q4]
      · rw [upd_ne z]; exact kp b u z q
    · have z : b ≠ a := fun z => by rw [z, hn] at q; cases q
      rw [upd_ne z]
      exact s2 b u z q
  have ok2 := ok1.wr (o := o') hg ha hc
  have : upd (upd H' a o) a o' = H' := by
    funext b
    by_cases z : b = a
    · subst z; rw [upd_same, e]
    · rw [upd_ne z, upd_ne z]
  rw [this] at ok2
  exact ok2
theorem putFR_ok {C : Ct} {Hs Hs' : Hp} {A : List Addr} {g : G} {σ : L2.St} {H H' : Hp} {j : Nat} {c c' : Cn} {p : Bool} {a : Addr} {o' : HO} {fr : FR} {v : V} {r : R} {g' : G} (ok : Ok C Hs A g σ H) (hg : g[j]? = some (.own c p false)) (ha : A[j]? = some a)
    (s1 : Same Hs Hs') (kp : ∀ b u, b ≠ a → H b = some u → H' b = some u) (s2 : Same Hs' H') (gr : ∀ b o, Hs' b = some o → Hs b = some o ∨ H b = none) (hn : Hs' a = none) (e : H' a = some o') (hc : CnOk C.K Hs' c' o') (hf : RelF C.K Hs' H H' v fr) (hp : putFR fr (g.set j (.own c' p false)) = (r, g')) :
    ∃ A', Pre A A' ∧ Ok C Hs' A' g' σ H' ∧ RelR C.K Hs' A' v r := by
  cases fr with
  | dat d =>
    cases hp
    exact ⟨A, Pre.refl _, ok.wrS hg ha s1 kp (fun b u _ q => s2 b u q) gr hn e hc, hf⟩
  | new c2 =>
    cases hp
    obtain ⟨a2, o2, rfl, w1, w2, w3, w4⟩ := hf
    obtain ⟨a0, o, q1, q2, q3, q4, q5, q6⟩ := ok.own j c _ _ hg
    rw [ha] at q1
    cases q1
    have ne : a2 ≠ a := fun z => by rw [z, q4] at w1; cases w1
    have ok1 : Ok C Hs' A (g.set j (.own c' p false)) σ (Hp.no H' a2) := ok.wrS hg ha s1 (fun b u nb q => by rw [Hp.no_ne (fun z => by rw [z, w1] at q; cases q)]; exact kp b u nb q) (fun b u _ q => by rw [Hp.no_ne (fun z => by rw [z, w2] at q; cases q)]; exact s2 b u q) gr hn (by rw [Hp.no_ne (Ne.symm ne)]; exact e) hc
    refine ⟨A ++ [a2], Pre.app _ _, ok1.adopt (H' := H') (a := a2) Hp.no_self (fun b u q => ?_) w3 w4, ok1.tmpR a2⟩
    by_cases z : b = a2
    · rw [z, Hp.no_self] at q; cases q
    · rw [Hp.no_ne z] at q; exact q
  | newR ls =>
    cases hp
    obtain ⟨a2, ks, rfl, w⟩ := hf
    have ok1 : Ok C Hs' A (g.set j (.own c' p false)) σ H' := ok.wrS hg ha s1 kp (fun b u _ q => s2 b u q) gr hn e hc
    refine ⟨A ++ [a2], Pre.app _ _, ok1.addR (w.low fun x m => (ok.fresh0 (w.fr x m).2).2) (fun k c2 p2 l2 b e1 e2 m => ?_) (fun k ms b x e1 e2 m1 m2 => ?_), ok1.tmpR a2⟩
    · rcases set_some e1 with ⟨ek, _, _⟩ | ⟨_, e1⟩
      · subst ek
        exact ok.deadO hg e2 (w.fr b m).2
      · exact ok.deadO e1 e2 (w.fr b m).2
    · rcases set_some e1 with ⟨_, e1, _⟩ | ⟨_, e1⟩
      · cases e1
      · refine ok.deadR e1 e2 ?_ (w.fr x m2).2
        obtain ⟨a3, ks3, r1, _, r3, r4, _⟩ := ok.rws k ms e1
        rw [e2] at r1
        cases r1
        have ne : b ≠ a := fun z => r4 j c p false a hg ha (by rw [z]; exact List.mem_cons_self)
        rw [kp _ _ ne r3.hd, ← r3.hd] at m1
        exact m1
section
variable {X : Cx} {kk : Nat} {f : Cn → List D → Option (FR × Cn)} {ma : ZAr}
theorem callM_of {σ : L2.St} {H : Hp} {Q : VK} {E : XK} (h : tZ X.K X.N.length (zCallM kk f ma) σ H Q) : tCall (spM X.K kk f) [] E (tZA X.K X.N.length ma) σ H Q := by
  obtain ⟨C, Hs, A, g, r, g', hK, hn, ok, e, q⟩ := h
  unfold zCallM at e
  simp only [Option.bind_eq_bind, Option.bind_eq_some_iff] at e
  obtain ⟨⟨rs, g1⟩, h1, e⟩ := e
  refine ⟨C, Hs, A, g, rs, g1, hK, hn, ok, h1, fun Hs1 A1 vs H1 s1 p1 ok1 rel1 => ?_⟩
  show spM X.K kk f (vs ++ []) H1 Q E
  rw [List.append_nil]
  dsimp only at e
  split at e
  · rename_i j hj
    split at e
    · rename_i c p hg
      split at e
      · rename_i hnb
        simp only [Option.bind_eq_some_iff] at e
        obtain ⟨ds, h2, ⟨fr, c'⟩, h3, e⟩ := e
        obtain ⟨v, hv, rv⟩ := rel1.get hj
        obtain ⟨a, hA, rfl⟩ := (show ∃ a, A1[j]? = some a ∧ v = .ref a from rv)
        obtain ⟨a0, o, q1, q2, q3, q4, q5, q6⟩ := ok1.own j c _ _ hg
        rw [hA] at q1
        cases q1
        have sm : Same Hs1 (Hp.no H1 a) := fun b o e => by
          rw [Hp.no_ne (fun z => by rw [z, q3] at e; cases e)]
          exact ok1.same b o e
        dsimp only at e
        split at e
        · rename_i hsc
          rw [Bool.and_eq_true] at hsc
          have hz := rdAll_no ok1 hg hA (rel1.erase kk) hnb h2
          refine ⟨Hp.no H1 a, ds, c, c', a, o, fr, fun b u q => ?_, hv, by rw [← hK]; exact hz, Hp.no_self, q4, by rw [← hK]; exact q5.mono sm, h3, fun v Hs' H' o' sS kp sP gr hn' he hc hf => ?_⟩
          · by_cases z : b = a
            · rw [z, Hp.no_self] at q; cases q
            · rw [Hp.no_ne z] at q; exact q
          · have hc1 : CnOk C.K Hs1 c' o' := by rw [hK]; exact hc.any hsc.1
            have hf1 : RelF C.K Hs1 H1 H' v fr := by
              cases fr with
              | dat d => exact (show Dz C.K Hs' v d by rw [hK]; exact hf).any hsc.2
              | new c2 =>
                obtain ⟨a2, o2, w0, w1, w2, w3, w4⟩ := hf
                refine ⟨a2, o2, w0, w1, ?_, w3, by rw [hK]; exact w4.any hsc.2⟩
                cases z : Hs1 a2 with
                | none => rfl
                | some u => have := ok1.same a2 u z; rw [w1] at this; cases this
              | newR _ => exact absurd hsc.2 (by simp [FR.scal])
            have s11 : ∀ b u, Hs1 b = some u → H' b = some u := fun b u q => kp b u (fun z => by rw [z, q3] at q; cases q) (ok1.same b u q)
            cases hp : putFR fr (g1.set j (.own c' p false)) with
            | mk r2 g2 =>
            rw [hp] at e
            cases e
            obtain ⟨A2, pre, ok2, rel2⟩ := putFR_ok ok1 hg hA (Same.refl _) kp s11 (fun b o e => .inl e) q3 he hc1 hf1 hp
            exact q Hs1 A2 v H' s1 (p1.trans pre) ok2 rel2
        · simp only [Option.bind_eq_some_iff] at e
          obtain ⟨⟨ds2, g2⟩, h4, e⟩ := e
          obtain ⟨Hs2, s2, ok2, z2⟩ := frzAll_ok ok1 (rel1.erase kk) h4
          dsimp only at e
          split at e
          · rename_i c2 p2 hg2
            simp only [Option.bind_eq_some_iff] at e
            obtain ⟨⟨fr2, c2'⟩, h5, e⟩ := e
            obtain ⟨a0, o2, y1, y2, y3, y4, y5, y6⟩ := ok2.own j c2 _ _ hg2
            rw [hA] at y1
            cases y1
            refine ⟨Hs2, ds2, c2, c2', a, o2, fr2, ok2.same, hv, by rw [← hK]; exact z2, y3, y4, by rw [← hK]; exact y5, h5, fun v Hs' H' o' sS kp sP gr hn' he hc hf => ?_⟩
            dsimp only at e
            cases hp : putFR fr2 (g2.set j (.own c2' p2 false)) with
            | mk r3 g3 =>
            rw [hp] at e
            cases e
            obtain ⟨A3, pre, ok3, rel3⟩ := putFR_ok ok2 hg2 hA sS kp sP gr hn' he (by rw [hK]; exact hc) (by rw [hK]; exact hf) hp
            exact q Hs' A3 v H' ((s1.trans s2).trans sS) (p1.trans pre) ok3 rel3
          · cases e
      · cases e
    · cases e
  · cases e
theorem ze_callM {k : Nat} {x : Str} {p pos : Pos} {e : Expr} {es : List Expr} (c : Cal X.prog X.w X.K X.mg X.base k x (spM X.K kk f)) (hr : Room k X.A) (ha : ZAs X (e :: es) ma) (hg : Gl X x := by rfl)
    (hdb : (x == ("__debug__" : Str)) = false := by decide) (he : starEach (e :: es) X.env = (false, eval e X.env) :: starEach es X.env := by rfl) (hpl : (backTo pos (starEach es X.env)).any (·.1) = false := by rfl) :
    ZE X (.Call (.Name x p) (e :: es) [] pos) (zCallM kk f ma) := by
  obtain ⟨fa, fd, ps, h1, h2, h3, h4⟩ := c
  exact PE.of (pe_call (E := E0) h4 hr hg h1 h2 h3 .nil pass0 ha hdb he hpl) fun σ H Q h => callM_of h
end
end Z
set_option Elab.async false
set_option linter.all false
set_option maxRecDepth 100000
set_option maxHeartbeats 4000000
namespace Z
open PySem PySem.Spec PyProof.Rows L2
theorem wipe_get (σ : L2.St) : ∀ (vs : List Nat) (i : Nat), (wipe σ vs)[i]? = if i ∈ vs ∧ i < σ.length then some none else σ[i]?
  | [], i => by simp [wipe]
  | v :: vs, i => by
    unfold wipe
    by_cases h : i = v
    · subst h
      by_cases hl : i < σ.length
      · rw [List.getElem?_set_self (by rw [wipe_length]; exact hl), if_pos ⟨List.mem_cons_self, hl⟩]
      · rw [List.getElem?_eq_none (by rw [List.length_set, wipe_length]; omega), if_neg (by omega), List.getElem?_eq_none (by omega)]
    · rw [List.getElem?_set_ne (Ne.symm h), wipe_get σ vs i]
      have : (i ∈ v :: vs) ↔ i ∈ vs := by simp [h]
      simp only [this]
theorem wipe_set {σ : L2.St} {vs : List Nat} {i : Nat} {x : Option V} (h : i ∈ vs) : wipe (σ.set i x) vs = wipe σ vs := by
  refine List.ext_getElem? fun j => ?_
  rw [wipe_get, wipe_get, List.length_set]
  by_cases hj : j ∈ vs ∧ j < σ.length
  · rw [if_pos hj, if_pos hj]
  · rw [if_neg hj, if_neg hj]
    by_cases e : i = j
    · subst e
      have : ¬ i < σ.length := fun z => hj ⟨h, z⟩
      rw [List.getElem?_eq_none (by rw [List.length_set]; omega), List.getElem?_eq_none (by omega)]
    · rw [List.getElem?_set_ne e]
theorem wipe_out {σ : L2.St} {vs : List Nat} {i : Nat} (h : i ∉ vs) : (wipe σ vs)[i]? = σ[i]? := by rw [wipe_get, if_neg (fun z => h z.1)]
def wipeG (g : G) : List Nat → G
  | [] => g
  | v :: vs => (wipeG g vs).set v .un
theorem wipeG_len (g : G) : ∀ vs : List Nat, (wipeG g vs).length = g.length
  | [] => rfl
  | v :: vs => by unfold wipeG; rw [List.length_set, wipeG_len g vs]
theorem wipeG_some {g : G} : ∀ {vs : List Nat} {i : Nat} {s : Sl}, (wipeG g vs)[i]? = some s → s = .un ∨ (i ∉ vs ∧ g[i]? = some s)
  | [], i, s, h => .inr ⟨by simp, h⟩
  | v :: vs, i, s, h => by
    unfold wipeG at h
    rcases set_some h with ⟨_, e, _⟩ | ⟨ne, h⟩
    · exact .inl e
    · rcases wipeG_some h with e | ⟨e1, e2⟩
      · exact .inl e
      · exact .inr ⟨by simp [ne, e1], e2⟩
theorem wipeG_out {g : G} : ∀ {vs : List Nat} {i : Nat}, i ∉ vs → (wipeG g vs)[i]? = g[i]?
  | [], i, _ => rfl
  | v :: vs, i, h => by
    unfold wipeG
    simp only [List.mem_cons, not_or] at h
    rw [List.getElem?_set_ne (Ne.symm h.1), wipeG_out h.2]
def freeAll (g : G) (vs : List Nat) : Bool := vs.all fun v => freeAt v g
theorem freeAll_at {g : G} {vs : List Nat} (h : freeAll g vs = true) {v : Nat} (hv : v ∈ vs) : freeAt v g = true := List.all_eq_true.mp h v hv
/-- slots forgotten; σ may change there -/
theorem Ok.puts {C : Ct} {Hs : Hp} {A : List Addr} {g : G} {σ σ' : L2.St} {H : Hp} {vs : List Nat} (ok : Ok C Hs A g σ H) (hf : freeAll g vs = true) (hl : σ'.length = σ.length) (hσ : ∀ i, i ∉ vs → σ'[i]? = σ[i]?) : Ok C Hs A (wipeG g vs) σ' H := by
  have no : ∀ {i : Nat} {c : Cn} {p l : Bool}, (wipeG g vs)[i]? = some (.own c p l) → i ∉ vs ∧ g[i]? = some (.own c p l) := fun {i c p l} e => by
    rcases wipeG_some e with z | z
    · cases z
    · exact z
  refine ⟨hl.trans ok.ln, by rw [wipeG_len]; exact ok.lg, by rw [wipeG_len]; exact ok.la, ok.base, ok.same, fun i d e => ?_, fun i d e => ?_, fun i c p l e => ?_, fun i k c1 p1 l1 c2 p2 l2 a' e1 e2 h1 h2 => ok.inj i k _ _ _ _ _ _ a' (no e1).2 (no e2).2 h1 h2, ok.grow, ok.keep, fun q hq => ?_, fun i c' l a' e ha => ok.pin1 i c' l a' (no e).2 ha, fun q hq => ?_, ?_⟩
  · rcases wipeG_some e with z | ⟨z1, z2⟩
    · cases z
    · rw [hσ i z1]; exact ok.dat i d z2
  · rcases wipeG_some e with z | ⟨z1, z2⟩
    · cases z
    · rw [hσ i z1]; exact ok.frz i d z2
  · obtain ⟨z1, z2⟩ := no e
    rw [hσ i z1]; exact ok.own i c p l z2
  · obtain ⟨c', l, h1, h2⟩ := ok.pinned q hq
    refine ⟨c', l, ?_, h2⟩
    rw [wipeG_out (fun z => freeAt_pin (freeAll_at hf z) h1)]
    exact h1
  · obtain ⟨p, h1, h2⟩ := ok.locked q hq
    refine ⟨p, ?_, h2⟩
    rw [wipeG_out (fun z => freeAt_lock (freeAll_at hf z) h1)]
    exact h1
  · refine RwOk.step ok.rws rfl rfl (Same.refl _) (fun x u ex n1 n2 _ => ⟨ex, n1, n2⟩) (fun i ls e => ?_) (fun i c' p l b e hb => .inl ⟨i, c', p, l, (no e).2, hb⟩)
    rcases wipeG_some e with z | ⟨z1, z2⟩
    · cases z
    · exact ⟨z2, rfl, fun _ => hσ i z1⟩
/-- what was held aside beyond m is dropped -/
theorem Ok.cutM {C : Ct} {Hs : Hp} {A : List Addr} {g : G} {σ : L2.St} {H : Hp} {m : Nat} (ok : Ok C Hs A g σ H) (hm : C.n ≤ m) : Ok C Hs (A.take m) (g.take m) σ H := by
  have tk : ∀ {α : Type} {l : List α} {i : Nat} {s : α}, (l.take m)[i]? = some s → i < m ∧ l[i]? = some s := fun {α l i s} e => by
    by_cases h : i < m
    · rw [List.getElem?_take_of_lt h] at e; exact ⟨h, e⟩
    · have := (List.getElem?_eq_some_iff.mp e).1
      rw [List.length_take] at this; omega
  have kt : ∀ {α : Type} {l : List α} {i : Nat} {s : α}, i < m → l[i]? = some s → (l.take m)[i]? = some s := fun {α l i s} h e => by
    rw [List.getElem?_take_of_lt h]; exact e
  refine ⟨ok.ln, by rw [List.length_take]; have := ok.lg; omega, by rw [List.length_take, List.length_take, ok.la], ok.base, ok.same, fun i d e => ok.dat i d (tk e).2, fun i d e => ?_, fun i c' p l e => ?_, fun i k c1 p1 l1 c2 p2 l2 a' e1 e2 h1 h2 => ok.inj i k _ _ _ _ _ _ a' (tk e1).2 (tk e2).2 (tk h1).2 (tk h2).2, ok.grow, ok.keep, fun q hq => ?_, fun i c' l a' e ha => ok.pin1 i c' l a' (tk e).2 (tk ha).2, fun q hq => ?_, RwOk.step ok.rws rfl rfl (Same.refl _) (fun x u ex n1 n2 _ => ⟨ex, n1, n2⟩) (fun i ls e => ⟨(tk e).2, List.getElem?_take_of_lt (tk e).1, fun _ => rfl⟩) (fun i c' p l b e hb => .inl ⟨i, c', p, l, (tk e).2, (tk hb).2⟩)⟩
  · obtain ⟨a, q1, q2⟩ := ok.frz i d (tk e).2
    exact ⟨a, kt (tk e).1 q1, q2⟩
  · obtain ⟨a, o, q1, q2⟩ := ok.own i c' p l (tk e).2
    exact ⟨a, o, kt (tk e).1 q1, q2⟩
  · obtain ⟨c', l, h1, h2⟩ := ok.pinned q hq
    have := C.plt q hq
    exact ⟨c', l, kt (by omega) h1, kt (by omega) h2⟩
  · obtain ⟨p, h1, h2⟩ := ok.locked q hq
    have := C.llt q hq
    exact ⟨p, kt (by omega) h1, kt (by omega) h2⟩
def tZGw (K : PySem.W.Frag) (n : Nat) (vs : List Nat) (tg : TD) : TG := fun v σ H Q => ∃ (C : Ct) (Hs : Hp) (A : List Addr) (g : G) (d : D) (g' : G), C.K = K ∧ C.n = n ∧ Ok C Hs A g σ H ∧ Dz K Hs v d ∧ tg d g = some g' ∧
  ∀ (σ' : L2.St), wipe σ' vs = wipe σ vs → Ok C Hs A g' σ' H → Q σ' H
abbrev ZGw (X : Cx) (vs : List Nat) (e : Expr) (tg : TD) : Prop := PG X e (tZGw X.K X.N.length vs tg)
section
variable {X : Cx} {pos : Pos} {vs : List Nat}
theorem zgw_name {i : Nat} {x : Str} (hN : X.N.Nodup) (hi : X.N[i]? = some x) (hx : Loc X.env.scope x) (hv : i ∈ vs) (hf : X.fn x = true ∨ X.env.scope.names.lookup x = some .local := by first | exact .inl rfl | exact .inr rfl | assumption) : ZGw X vs (.Name x pos) (gN i) := by
  refine PG.of (pg_name hN hi hx hf) fun v σ H Q ⟨C, Hs, A, g, d, g', hK, hn, ok, hd, e, q⟩ => ?_
  rw [← hK] at hd
  exact q _ (wipe_set hv) (ok.set e (by rw [hn]; exact (List.getElem?_eq_some_iff.mp hi).1) hd)
def zYes : ZT := fun g => some (true, g)
abbrev ZTs (X : Cx) (es : List Expr) (m : ZT) : Prop := PTs X es (tZT X.K X.N.length m)
theorem zts_nil : ZTs X [] zYes := ⟨fun pins s σ H Q I ⟨C, Hs, A, g, b, g', hK, hn, ok, e, q⟩ => pts_nil.run pins s σ H Q I (by
  cases e
  exact q Hs A H (Same.refl _) (Pre.refl _) ok)⟩
end
def lcL (tg : TD) (tt : ZT) (el : ZM) (vs : List Nat) (t : Nat) : List D → G → Option G
  | [], g => if freeAll g vs = true then some g else none
  | x :: xs, g => if freeAll g vs = true then do
      let g1 ← tg x (wipeG g vs)
      let (b, g2) ← tt g1
      if b = true then do
        let (r, g3) ← el g2
        let (d, g4) ← frzR r g3
        match g4[t]? with
        | some (.own (.lst acc) false false) => if acc.length < sizeLine then lcL tg tt el vs t xs ((g4.set t (.own (.lst (acc ++ [d])) false false)).take (t + 1)) else none
        | _ => none
      else lcL tg tt el vs t xs (g2.take (t + 1))
    else none
def zLc (mi : MI) (tg : TD) (tt : ZT) (el : ZM) (vs : List Nat) : ZM := fun g => do
  let (L, lk, g1) ← mi g
  match lk with
  | none => do
    let g3 ← lcL tg tt el vs g1.length L (g1 ++ [Sl.own (.lst []) false false])
    some (.bor g1.length, wipeG g3 vs)
  | some j => match g1[j]? with
    | some (.own c p l) => do
      let g3 ← lcL tg tt el vs g1.length L ((g1 ++ [Sl.own (.lst []) false false]).set j (.own c p true))
      some (.bor g1.length, unlk j l (wipeG g3 vs))
    | _ => none
theorem lc_of {tgd : TD} {tt : ZT} {el : ZM} {vs : List Nat} {C : Ct} {Hs1 : Hp} {A1 : List Addr} {g1 g3 : G} {σ : L2.St} {H1 : Hp} {L : List D} {J : It} {lk' : Option (Addr × Cn)} {K : PySem.W.Frag} {n t : Nat} {D0 : Addr} {Qd : Hp → Prop} (hK : C.K = K) (hn : C.n = n) (ht : C.n ≤ t)
    (ok : Ok C Hs1 A1 g1 σ H1) (hA : A1[t]? = some D0) (hAl : A1.length = t + 1) (jw : JW K J L (Src K Hs1 lk')) (hl : ∀ a c, lk' = some (a, c) → ∃ j, (j, a, c) ∈ C.locks) (e : lcL tgd tt el vs t L g1 = some g3)
    (q : ∀ Hs A H, Same Hs1 Hs → Ok C Hs A (wipeG g3 vs) σ H → Pre A1 A → Qd H) :
    ∃ W : Nat → Nat → Hp → Prop, (∃ m, W 0 m H1) ∧ ∀ i m H, W i m H → (J.stop i H ∧ Qd H) ∨ (J.go i H ∧ ∃ Nx : Hp → Prop, (∀ H', Nx H' → ∃ m', m' < m ∧ W (i + 1) m' H') ∧ ∀ x H', J.yld i H x H' → tZGw K n vs tgd x (wipe σ vs) H' fun σ2 H2 => wipe σ2 vs = wipe σ vs ∧ tZT K n tt σ2 H2 fun b H3 =>
      if b = true then tZ K n el σ2 H3 fun y H4 => ∃ acc, H4 D0 = some (.lst acc) ∧ acc.length < sizeLine ∧ Nx (upd H4 D0 (.lst (acc ++ [y]))) else Nx H3) := by
  have src : ∀ {Hs A g σ H}, Same Hs1 Hs → Ok C Hs A g σ H → Src K Hs1 lk' Hs H := fun {Hs A g σ H} s ok => by
    cases lk' with
    | none => exact ⟨s, ok.same⟩
    | some ac =>
      obtain ⟨a, c⟩ := ac
      obtain ⟨j, hj⟩ := hl a c rfl
      obtain ⟨p, h1, h2⟩ := ok.locked _ hj
      obtain ⟨a', o, w1, _, _, w4, w5, _⟩ := ok.own j c p true h1
      have : some a = some a' := h2.symm.trans w1
      cases this
      exact ⟨o, w4, by rw [← hK]; exact w5⟩
  have ptk : ∀ {A : List Addr}, Pre A1 A → Pre A1 (A.take (t + 1)) := fun {A} h j a e => by
    have := (List.getElem?_eq_some_iff.mp e).1
    rw [List.getElem?_take_of_lt (by omega)]
    exact h j a e
  refine ⟨fun i m H => m = L.length - i ∧ i ≤ L.length ∧ ∃ Hs A g σ', wipe σ' vs = wipe σ vs ∧ σ'.length = σ.length ∧ Same Hs1 Hs ∧ Ok C Hs A g σ' H ∧ Pre A1 A ∧ lcL tgd tt el vs t (L.drop i) g = some g3, ⟨L.length, by simp, Nat.zero_le _, Hs1, A1, g1, σ, rfl, rfl, Same.refl _, ok, Pre.refl _, by simpa using e⟩, ?_⟩
  rintro i m H ⟨rfl, hi, Hs, A, g, σ', hw, hlen, s, ok, hP, e⟩
  by_cases hlt : i < L.length
  · refine .inr ⟨jw.go Hs H i (src s ok) hlt, ?_⟩
    rw [List.drop_eq_getElem_cons hlt] at e
    simp only [lcL] at e
    split at e
    · rename_i hfr
      simp only [Option.bind_eq_bind, Option.bind_eq_some_iff] at e
      obtain ⟨ga, e1, ⟨b, gb⟩, e2, e3⟩ := e
      have okw : Ok C Hs A (wipeG g vs) (wipe σ vs) H := ok.puts hfr (by rw [wipe_length, hlen]) (fun i hi => by rw [← hw]; exact wipe_out hi)
      refine ⟨fun H' => ∃ Hs' A' g' σ2, wipe σ2 vs = wipe σ vs ∧ σ2.length = σ.length ∧ Same Hs1 Hs' ∧ Ok C Hs' A' g' σ2 H' ∧ Pre A1 A' ∧ lcL tgd tt el vs t (L.drop (i + 1)) g' = some g3, fun H' ⟨Hs', A', g', σ2, w1, w2, w3, w4, w5, w6⟩ => ⟨L.length - (i + 1), by omega, rfl, hlt, Hs', A', g', σ2, w1, w2, w3, w4, w5, w6⟩, fun x H' y => ?_⟩
      obtain ⟨d, Hs', hd, s', ok', dz⟩ := jw.yld C Hs A _ _ H i x H' hK okw (src s ok) hlt y
      rw [List.getElem?_eq_getElem hlt] at hd
      cases hd
      refine ⟨C, Hs', A, _, _, ga, hK, hn, ok', dz, e1, fun σ2 hw2 ok2 => ?_⟩
      have hw3 : wipe σ2 vs = wipe σ vs := by
        rw [hw2]
        refine List.ext_getElem? fun j => ?_
        rw [wipe_get, wipe_get, wipe_length]
        by_cases hj : j ∈ vs ∧ j < σ.length
        · simp only [if_pos hj]
        · simp only [if_neg hj]
      have hl2 : σ2.length = σ.length := by have := ok2.ln; have := ok.ln; omega
      refine ⟨hw3, C, Hs', A, ga, b, gb, hK, hn, ok2, e2, fun Hs3 A3 H3 s3 p3 ok3 => ?_⟩
      cases b with
      | false =>
        show if false = true then _ else _
        rw [if_neg Bool.false_ne_true]
        have e3 : lcL tgd tt el vs t (L.drop (i + 1)) (gb.take (t + 1)) = some g3 := e3
        exact ⟨Hs3, A3.take (t + 1), _, σ2, hw3, hl2, (s.trans s').trans s3, ok3.cutM (by omega), ptk (hP.trans p3), e3⟩
      | true =>
        show if true = true then _ else _
        rw [if_pos rfl]
        simp only [if_true, Option.bind_eq_some_iff] at e3
        obtain ⟨⟨r, gc⟩, e4, ⟨dd, gd⟩, e5, e6⟩ := e3
        refine ⟨C, Hs3, A3, gb, r, gc, hK, hn, ok3, e4, fun Hs4 A4 v4 H4 s4 p4 ok4 rel4 => ?_⟩
        obtain ⟨Hs5, s5, ok5, dz5⟩ := ok4.frzR rel4 e5
        dsimp only at e6
        split at e6
        · rename_i acc hgt
          split at e6
          · rename_i hsz
            have hA4 : A4[t]? = some D0 := p4 _ _ (p3 _ _ (hP _ _ hA))
            obtain ⟨a', vs', ev, w1, w2, w3⟩ := ok5.bor (relB hA4) hgt
            cases ev
            refine ⟨vs', w2, by rw [w3.length]; exact hsz, Hs5, A4.take (t + 1), _, σ2, hw3, hl2, (((s.trans s').trans s3).trans s4).trans s5, (ok5.wr (o := .lst (vs' ++ [v4])) (c' := .lst (acc ++ [dd])) hgt hA4 (show DzA C.K Hs5 (vs' ++ [v4]) (acc ++ [dd]) from w3.append (.cons dz5 .nil))).cutM (by omega), ptk ((hP.trans p3).trans p4), e6⟩
          · cases e6
        · cases e6
    · cases e
  · have ei : i = L.length := by omega
    subst ei
    rw [List.drop_length] at e
    simp only [lcL] at e
    split at e
    · rename_i hfr
      cases e
      refine .inl ⟨jw.stop Hs H _ (src s ok) (Nat.le_refl _), q Hs A H s (ok.puts hfr hlen.symm fun i hi => ?_) hP⟩
      have h1 := wipe_out (σ := σ') hi
      have h2 := wipe_out (σ := σ) hi
      rw [← h1, hw, h2]
    · cases e
section
variable {X : Cx} {pos : Pos}
theorem zlc_of {mi : MI} {tgd : TD} {tt : ZT} {el : ZM} {vs : List Nat} {σ : L2.St} {H : Hp} {Q : VK} (h : tZ X.K X.N.length (zLc mi tgd tt el vs) σ H Q) :
    tLc (tZI X.K X.N.length mi) (tZGw X.K X.N.length vs tgd) (tZT X.K X.N.length tt) (tZ X.K X.N.length el) vs σ H Q := by
  obtain ⟨C, Hs, A, g, r, g', hK, hn, ok, e, q⟩ := h
  unfold zLc at e
  simp only [Option.bind_eq_bind, Option.bind_eq_some_iff] at e
  obtain ⟨⟨L, lk, g1⟩, h1, e⟩ := e
  refine ⟨C, Hs, A, g, L, lk, g1, hK, hn, ok, h1, fun Hs1 A1 H1 J lk' s1 PRE ok1 hl jw D0 hD => ?_⟩
  have ok2 := ok1.tmp (a := D0) (o := .lst []) (c := .lst []) hD (show DzA C.K Hs1 [] [] from .nil)
  have hA2 : (A1 ++ [D0])[g1.length]? = some D0 := by rw [← ok1.la]; simp
  have hAl : (A1 ++ [D0]).length = g1.length + 1 := by rw [List.length_append, ok1.la]; rfl
  cases lk with
  | none =>
    cases lk' with
    | some _ => exact hl.elim
    | none =>
      simp only [Option.bind_eq_some_iff] at e
      obtain ⟨g3, e1, e2⟩ := e
      cases e2
      exact lc_of hK hn ok1.lg ok2 hA2 hAl jw (fun _ _ z => by cases z) e1 fun Hs2 A2 H2 s2 ok3 pre => q Hs2 A2 (.ref D0) H2 (s1.trans s2) (fun j a h => pre j a (Pre.app _ _ j a (PRE j a h))) ok3 ⟨D0, pre _ _ hA2, rfl⟩
  | some j =>
    cases lk' with
    | none => exact hl.elim
    | some ac =>
      obtain ⟨a, c⟩ := ac
      obtain ⟨ha, ⟨p0, l0, hgj⟩, hj⟩ := hl
      simp only at e
      split at e
      · rename_i c' p l hg2
        rw [hgj] at hg2
        cases hg2
        simp only [Option.bind_eq_some_iff] at e
        obtain ⟨g3, e1, e2⟩ := e
        cases e2
        have hjl := (List.getElem?_eq_some_iff.mp hgj).1
        have hgc : (g1 ++ [Sl.own (.lst []) false false])[j]? = some (.own c p0 l0) := by rw [List.getElem?_append_left hjl]; exact hgj
        have hac : (A1 ++ [D0])[j]? = some a := Pre.app _ _ _ _ ha
        have hjn : j < C.n := by rw [hn]; exact hj
        have okl : Ok (C.lock (j, a, c) hjn) Hs1 (A1 ++ [D0]) ((g1 ++ [Sl.own (.lst []) false false]).set j (.own c p0 true)) σ (upd H1 D0 (.lst [])) := by
          refine ok2.lk hgc rfl rfl rfl rfl rfl fun r hr => ?_
          rcases List.mem_cons.mp hr with rfl | hr
          · exact .inl ⟨rfl, rfl, rfl, hac⟩
          · by_cases z : r.1 = j
            · obtain ⟨p', w1, w2⟩ := ok2.locked r hr
              rw [z, hgc] at w1
              cases w1
              rw [z] at w2
              exact .inl ⟨z, rfl, rfl, w2⟩
            · exact .inr ⟨z, hr⟩
        refine lc_of (C := C.lock (j, a, c) hjn) hK hn ok1.lg okl hA2 hAl jw (fun a' c' z => ⟨j, by cases z; exact List.mem_cons_self⟩) e1 fun Hs2 A2 H2 s2 ok' pre => ?_
        have okU : Ok C Hs2 A2 (unlk j l0 (wipeG g3 vs)) σ H2 := by
          obtain ⟨p', w1, w2⟩ := ok'.locked (j, a, c) List.mem_cons_self
          unfold unlk
          rw [show (wipeG g3 vs)[j]? = some (.own c p' true) from w1]
          refine ok'.lk (C' := C) w1 rfl rfl rfl rfl rfl fun r hr => ?_
          by_cases z : r.1 = j
          · obtain ⟨p2, y1, y2⟩ := ok2.locked r hr
            rw [z, hgc] at y1
            have e3 : some (Sl.own c p0 l0) = some (.own r.2.2 p2 true) := y1
            cases e3
            obtain ⟨p3, x1, x2⟩ := ok'.locked r (List.mem_cons_of_mem _ hr)
            rw [z] at x2
            exact .inl ⟨z, rfl, rfl, x2⟩
          · exact .inr ⟨z, List.mem_cons_of_mem _ hr⟩
        exact q Hs2 A2 (.ref D0) H2 (s1.trans s2) (fun j a h => pre j a (Pre.app _ _ j a (PRE j a h))) okU ⟨D0, pre _ _ hA2, rfl⟩
      · cases e
theorem ze_lc {elt tg iter : Expr} {ifs : List Expr} {scope : Scope} {own : List (Str × Nat)} {mi : MI} {g : TD} {tt : ZT} {el : ZM} (hc : X.calm = true) (hN : X.N.Nodup) (hi : ZI X tg iter mi) (ok : BlkOk X.N X.env.scope scope own)
    (hg : ∀ (s : Shared) (H : Hp) (C : Addr) (cl : List (Str × Addr)) (fp : List Addr), ZGw (X.blk s H scope (compEnvC scope cl C X.env) fp) (own.map (·.2)) tg g) (ht : ∀ (s : Shared) (H : Hp) (C : Addr) (cl : List (Str × Addr)) (fp : List Addr), ZTs (X.blk s H scope (compEnvC scope cl C X.env) fp) ifs tt)
    (he : ∀ (s : Shared) (H : Hp) (C : Addr) (cl : List (Str × Addr)) (fp : List Addr), ZE (X.blk s H scope (compEnvC scope cl C X.env) fp) elt el) (hs : ∀ x, foldedSetIterable iter X.env x = pure x := by intro _; rfl) :
    ZE X (.ListComp elt [⟨tg, iter, ifs, 0⟩] scope pos) (zLc mi g tt el (own.map (·.2))) :=
  PE.of (pe_lc hc hN hi ok hg ht he hs) fun σ H Q h => zlc_of h
end
end Z
set_option Elab.async false
set_option linter.all false
set_option maxRecDepth 100000
set_option maxHeartbeats 4000000
namespace Z
open PySem PySem.Spec PyProof.Rows L2
section
variable {X : Cx} {pos : Pos} {tg : Expr} {m : ZM} {ma : ZAr} {a b c : Expr} {p : Pos}
/-- the signs of a text -/
def signsD (t : List Nat) : List D := t.map fun c => D.str [c]
def ziS (m : ZM) : MI := fun g => do
  let (r, g1) ← m g
  let d ← rd g1 r
  match d with
  | .str t => some (signsD t, none, g1)
  | _ => none
theorem jw_str {K : PySem.W.Frag} {t : List Nat} {St : Hp → Hp → Prop} : JW K (Its ⟨t.toArray⟩) (signsD t) St where
  stop := fun Hs H i _ hi => by
    have : t.length ≤ i := by simpa [signsD] using hi
    show (⟨t.toArray⟩ : Str).cps.size ≤ i
    simpa using this
  go := fun Hs H i _ hi => by
    have : i < t.length := by simpa [signsD] using hi
    show i < (⟨t.toArray⟩ : Str).cps.size
    simpa using this
  yld := fun C Hs A g σ H i x H' hK ok st hi y => by
    obtain ⟨rfl, c, hc, rfl⟩ := y
    refine ⟨.str [c], Hs, ?_, Same.refl _, ok, .str [c]⟩
    have : t[i]? = some c := by simpa using hc
    simp [signsD, this]
theorem zi_str {l : Expr} (hl : ZE X l m) : ZI X tg l (ziS m) := by
  refine PI.of (pi_str hl) fun σ H Rr ⟨C, Hs, A, g, L, lk, g', hK, hn, ok, e, q⟩ => ?_
  unfold ziS at e
  simp only [Option.bind_eq_bind, Option.bind_eq_some_iff] at e
  obtain ⟨⟨r, g1⟩, h1, d, h2, e⟩ := e
  refine ⟨C, Hs, A, g, r, g1, hK, hn, ok, h1, fun Hs1 A1 v1 H1 s1 p1 ok1 rel1 => ?_⟩
  cases d with
  | str t =>
    cases e
    have hd := ok1.rd rel1 h2
    cases hd
    exact ⟨_, rfl, q Hs1 A1 H1 _ none s1 p1 ok1 trivial jw_str⟩
  | _ => cases e
variable {ma' mb : ZM}
def zCatL (ma mb : ZM) : ZM := fun g => do
  let (r1, g1) ← ma g
  let (r2, g2) ← mb g1
  let d ← rd g2 r1
  let e ← rd g2 r2
  match d, e with
  | .lst l, .lst k => if l.length + k.length ≤ sizeLine then some (.bor g2.length, g2 ++ [.own (.lst (l ++ k)) false false]) else none
  | _, _ => none
theorem ze_catL (ha : ZE X a ma') (hb : ZE X b mb) : ZE X (.BinOp a .Add b pos) (zCatL ma' mb) := by
  refine PE.of (pe_op op_catL ha hb) fun σ H Q ⟨C, Hs, A, g, r, g', hK, hn, ok, e, q⟩ => ?_
  unfold zCatL at e
  simp only [Option.bind_eq_bind, Option.bind_eq_some_iff] at e
  obtain ⟨⟨r1, g1⟩, h1, ⟨r2, g2⟩, h2, d, h3, d2, h4, e⟩ := e
  dsimp only at e h3 h4
  split at e
  · split at e
    · rename_i hz
      cases e
      refine tZ2 hK hn ok h1 h2 fun Hs2 A2 v1 v2 H2 s p ok2 w1 w2 => ?_
      obtain ⟨x, xs, rfl, y1, y2⟩ := ok2.rdL w1 h3
      obtain ⟨x', xs', rfl, z1, z2⟩ := ok2.rdL w2 h4
      rw [hK] at y1 z1
      exact ⟨x, x', xs, xs', rfl, rfl, y1, z1, by rw [y2.length, z2.length]; exact hz, fun p' hp => q Hs2 (A2 ++ [p']) _ _ s (p.trans (Pre.app _ _)) (ok2.tmp (o := .lst (xs ++ xs')) (c := .lst _) hp (show DzA C.K Hs2 (xs ++ xs') _ from y2.append z2)) (ok2.tmpR p')⟩
    · cases e
  · cases e
end
section
variable {g g1 g2 g3 : G} {r r1 r2 : R} {d e z : D} {ma mb mc m : ZM} {mr : ZAr} {rs : List R} {ds : List D} {b b1 b2 : Bool} {n i j : Nat}
theorem mi_S {t : List Nat} (h1 : m g = some (.dat (.str t), g1)) : ziS m g = some (signsD t, none, g1) := by
  unfold ziS; simp only [h1, rd, Option.bind_eq_bind, Option.bind_some]
theorem er_catL {l k : List D} (h1 : ma g = some (r1, g1)) (h2 : mb g1 = some (r2, g2)) (h3 : rd g2 r1 = some (.lst l)) (h4 : rd g2 r2 = some (.lst k)) (hz : l.length + k.length ≤ sizeLine) : zCatL ma mb g = some (.bor g2.length, g2 ++ [.own (.lst (l ++ k)) false false]) := by
  unfold zCatL; simp only [h1, h2, h3, h4, if_pos hz, Option.bind_eq_bind, Option.bind_some]
/-- a call that changes its kk-th argument, the others data -/
theorem er_callM {kk : Nat} {f : Cn → List D → Option (FR × Cn)} {c c' : Cn} {p : Bool} (h1 : mr g = some (rs, g1)) (h2 : rs[kk]? = some (.bor j)) (h3 : g1[j]? = some (.own c p false)) (h4 : (rs.eraseIdx kk).all (noB j) = true) (h5 : rdAll g1 (rs.eraseIdx kk) = some ds) (h6 : frzAll (rs.eraseIdx kk) g1 = some (ds, g2)) (h8 : f c ds = some (.dat d, c')) (h7 : g2 = g1) :
    zCallM kk f mr g = some (.dat d, g1.set j (.own c' p false)) := by
  subst h7
  unfold zCallM
  simp only [h1, h2, h3, h4, h5, h6, h8, Option.bind_eq_bind, Option.bind_some, if_true]
  split
  · rfl
  · rfl
theorem runM_ap {np k : Nat} {s : SM} {c : Cn} {OUT : Option (FR × Cn)} (hl : ds.length + 1 = np) (hk : k ≤ ds.length) (hg : startM n k c ds = g) (kx : ap (finM k) (s g) = OUT) : runM n np k s c ds = OUT := by
  unfold runM
  rw [if_pos ⟨hl, hk⟩, hg]
  exact kx
end
end Z
set_option Elab.async false
set_option linter.all false
set_option maxRecDepth 100000
set_option maxHeartbeats 4000000
namespace Z
open PySem PySem.Spec PyProof.Rows L2
/-- plain, and a text that can stand in a shaped thing -/
def D.okp : D → Bool
  | .str s => PyData.strOk ⟨s.toArray⟩
  | d => d.pl
theorem pl_lay {d : D} (h : d.okp = true) : d.py.canLay0 = true ∧ d.py.depth = 0 := by
  cases d with
  | str s => exact ⟨h, rfl⟩
  | non => exact ⟨rfl, rfl⟩
  | bl b => exact ⟨rfl, rfl⟩
  | int i => exact ⟨rfl, rfl⟩
  | _ => exact absurd h (by simp [D.okp, D.pl])
theorem pls_lay : ∀ {l : List D}, l.all D.okp = true → PyData.canLayAll0 (D.pyA l) = true ∧ PyData.depthAll (D.pyA l) = 0
  | [], _ => ⟨rfl, rfl⟩
  | d :: l, h => by
    rw [List.all_cons, Bool.and_eq_true] at h
    obtain ⟨a1, a2⟩ := pl_lay h.1
    obtain ⟨b1, b2⟩ := pls_lay h.2
    simp [D.pyA, PyData.canLayAll0, PyData.depthAll, a1, a2, b1, b2]
theorem shp_flat {l : List D} (h : l.all D.okp = true) : (D.lst l).shp = true := by
  obtain ⟨b1, b2⟩ := pls_lay h
  show ((D.lst l).py.canLay0 && decide ((D.lst l).py.depth ≤ 64)) = true
  have e1 : (D.lst l).py.canLay0 = true := by show PyData.canLay0 (.list (D.pyA l)) = true; simpa [PyData.canLay0] using b1
  have e2 : (D.lst l).py.depth ≤ 64 := by show PyData.depth (.list (D.pyA l)) ≤ 64; simp [PyData.depth, b2]
  rw [e1, decide_eq_true e2]
  rfl
theorem pl_ints (a : List Int) : (a.map D.int).all D.okp = true := by simp [D.okp, D.pl]
theorem eqvA_ints : ∀ a b : List Int, D.eqvA (a.map D.int) (b.map D.int) = (a == b)
  | [], [] => rfl
  | [], _ :: _ => rfl
  | _ :: _, [] => rfl
  | x :: a, y :: b => by
    show (D.eqv (.int x) (.int y) && D.eqvA (a.map D.int) (b.map D.int)) = _
    rw [eqvA_ints a b]
    rfl
theorem dr_neL (a b : List Int) : neqD (.lst (a.map D.int)) (.lst (b.map D.int)) = some (.bl (!(a == b))) := by
  have : neOk (.lst (a.map D.int)) (.lst (b.map D.int)) = true := by simp [neOk, shp_flat (pl_ints a), shp_flat (pl_ints b)]
  unfold neqD
  rw [if_pos this]
  show some (D.bl (!D.eqvA _ _)) = _
  rw [eqvA_ints]
/-- one turn of a comprehension that takes its item -/
theorem lcL_go {tg : TD} {tt : ZT} {el : ZM} {vs : List Nat} {t : Nat} {x : D} {xs : List D} {g g1 g2 g3 g4 g5 : G} {r : R} {d : D} {acc : List D} {o : Option G} (h0 : freeAll g vs = true) (h1 : tg x (wipeG g vs) = some g1) (h2 : tt g1 = some (true, g2)) (h3 : el g2 = some (r, g3)) (h4 : frzR r g3 = some (d, g4)) (h5 : g4[t]? = some (.own (.lst acc) false false)) (hz : acc.length < sizeLine)
    (hg : (g4.set t (.own (.lst (acc ++ [d])) false false)).take (t + 1) = g5) (k : lcL tg tt el vs t xs g5 = o) : lcL tg tt el vs t (x :: xs) g = o := by
  simp only [lcL, h0, h1, h2, h3, h4, h5, hz, hg, if_true, Option.bind_eq_bind, Option.bind_some]
  exact k
theorem lcL_no {tg : TD} {tt : ZT} {el : ZM} {vs : List Nat} {t : Nat} {x : D} {xs : List D} {g g1 g2 g5 : G} {o : Option G} (h0 : freeAll g vs = true) (h1 : tg x (wipeG g vs) = some g1) (h2 : tt g1 = some (false, g2)) (hg : g2.take (t + 1) = g5) (k : lcL tg tt el vs t xs g5 = o) : lcL tg tt el vs t (x :: xs) g = o := by
  simp only [lcL, h0, h1, h2, hg, if_true, Option.bind_eq_bind, Option.bind_some]
  exact k
theorem lcL_end {tg : TD} {tt : ZT} {el : ZM} {vs : List Nat} {t : Nat} {g : G} (h0 : freeAll g vs = true) : lcL tg tt el vs t [] g = some g := by
  simp only [lcL, h0, if_true]
/-- by an invariant -/
theorem lcL_inv {tg : TD} {tt : ZT} {el : ZM} {vs : List Nat} {t : Nat} : ∀ {L : List D} (I : Nat → G → Prop) (k : Nat) (g : G), I k g → (∀ i g, I i g → freeAll g vs = true) →
    (∀ i x g, L[i]? = some x → I (k + i) g → ∃ g5, I (k + i + 1) g5 ∧ ∀ (xs : List D) (o : Option G), lcL tg tt el vs t xs g5 = o → lcL tg tt el vs t (x :: xs) g = o) → ∃ g2, lcL tg tt el vs t L g = some g2 ∧ I (k + L.length) g2
  | [], I, k, g, h0, hf, _ => ⟨g, lcL_end (hf k g h0), h0⟩
  | x :: L, I, k, g, h0, hf, h => by
    obtain ⟨g5, h1, h2⟩ := h 0 x g rfl h0
    obtain ⟨g2, e, i2⟩ := lcL_inv (L := L) I (k + 1) g5 h1 hf fun i x' g' hx hi => by
      have := h (i + 1) x' g' (by simpa using hx) (by rw [show k + (i + 1) = k + 1 + i by omega]; exact hi)
      rw [show k + (i + 1) = k + 1 + i by omega] at this
      exact this
    exact ⟨g2, h2 L _ e, by rw [show k + (x :: L).length = k + 1 + L.length by simp; omega]; exact i2⟩
theorem er_lc {mi : MI} {tg : TD} {tt : ZT} {el : ZM} {vs : List Nat} {g g1 g3 g4 : G} {L : List D} (h1 : mi g = some (L, none, g1)) (h2 : lcL tg tt el vs g1.length L (g1 ++ [Sl.own (.lst []) false false]) = some g3) (hg : wipeG g3 vs = g4) : zLc mi tg tt el vs g = some (.bor g1.length, g4) := by
  unfold zLc
  simp only [h1, h2, hg, Option.bind_eq_bind, Option.bind_some]
theorem er_orTF {s t : ZT} {g g1 g2 : G} {b1 b2 : Bool} (h1 : s g = some (b1, g1)) (hb : b1 = false) (h2 : t g1 = some (b2, g2)) : zOrT s t g = some (b2, g2) := by
  subst hb
  unfold zOrT; simp only [h1, Option.bind_eq_bind, Option.bind_some]
  rw [if_neg Bool.false_ne_true]
  exact h2
theorem er_andTT {s t : ZT} {g g1 g2 : G} {b1 b2 : Bool} (h1 : s g = some (b1, g1)) (hb : b1 = true) (h2 : t g1 = some (b2, g2)) : zAndT s t g = some (b2, g2) := by
  subst hb
  unfold zAndT; simp only [h1, Option.bind_eq_bind, Option.bind_some, if_true]
  exact h2
theorem sr_bk {β : Type} {kk : Option (Fl × G) → β} {OUT : β} {rest : SM} {g : G} (k : ap kk (some (.bk, g)) = OUT) : ap kk (zSeq zBk rest g) = OUT := k
end Z
set_option Elab.async false
set_option linter.all false
set_option maxRecDepth 100000
set_option maxHeartbeats 4000000
namespace Z
open PySem PySem.Spec PyProof.Rows L2
end Z
set_option Elab.async false
set_option linter.all false
set_option maxRecDepth 100000
set_option maxHeartbeats 4000000
namespace Z
open PySem PySem.Spec PyProof.Rows L2
def zFg (vs : List Nat) (s : SM) : SM := fun g => do
  let (fl, g1) ← s g
  match fl with
  | .ret r => some (.ret r, g1)
  | fl => if freeAll g1 vs = true then some (fl, wipeG g1 vs) else none
def zFgB (vs : List Nat) (s : SM) : SM := fun g => if freeAll g vs = true then s (wipeG g vs) else none
section
variable {X : Cx} {st : Stmt} {sts : List Stmt} {s : SM} {vs : List Nat}
theorem fg_of {D : Ends} {σ : L2.St} {H : Hp} {K : PySem.W.Frag} {n : Nat} (h : tZS K n (zFg vs s) D σ H) : tZS K n s D σ H := by
  obtain ⟨C, Hs, A, g, fl, g', hK, hn, ok, e, q⟩ := h
  unfold zFg at e
  simp only [Option.bind_eq_bind, Option.bind_eq_some_iff] at e
  obtain ⟨⟨fl1, g1⟩, h1, e⟩ := e
  refine ⟨C, Hs, A, g, fl1, g1, hK, hn, ok, h1, ?_⟩
  cases fl1 with
  | ret r => cases e; exact q
  | nx =>
    simp only at e
    split at e
    · rename_i hf; cases e; exact fun Hs' A' σ' H' s1 ok1 => q Hs' A' σ' H' s1 (ok1.puts hf rfl (fun _ _ => rfl))
    · cases e
  | bk =>
    simp only at e
    split at e
    · rename_i hf; cases e; exact fun Hs' A' σ' H' s1 ok1 => q Hs' A' σ' H' s1 (ok1.puts hf rfl (fun _ _ => rfl))
    · cases e
  | ct =>
    simp only at e
    split at e
    · rename_i hf; cases e; exact fun Hs' A' σ' H' s1 ok1 => q Hs' A' σ' H' s1 (ok1.puts hf rfl (fun _ _ => rfl))
    · cases e
theorem fgB_of {D : Ends} {σ : L2.St} {H : Hp} {K : PySem.W.Frag} {n : Nat} (h : tZS K n (zFgB vs s) D σ H) : tZS K n s D σ H := by
  obtain ⟨C, Hs, A, g, fl, g', hK, hn, ok, e, q⟩ := h
  unfold zFgB at e
  split at e
  · rename_i hf
    exact ⟨C, Hs, A, wipeG g vs, fl, g', hK, hn, ok.puts hf rfl (fun _ _ => rfl), e, q⟩
  · cases e
theorem zss_fg (h : ZSs X sts s) : ZSs X sts (zFg vs s) := PSs.of h fun D σ H h => fg_of h
theorem zs_fgB (h : ZS X st s) : ZS X st (zFgB vs s) := PS.of h fun D σ H h => fgB_of h
end
section
variable {g g1 g2 : G} {st s rest : SM} {r : R} {vs : List Nat}
theorem fg_nx (h : s g = some (.nx, g1)) (hf : freeAll g1 vs = true) (hg : wipeG g1 vs = g2) : zFg vs s g = some (.nx, g2) := by
  unfold zFg; simp only [h, hf, hg, if_true, Option.bind_eq_bind, Option.bind_some]
theorem fg_ret (h : s g = some (.ret r, g1)) : zFg vs s g = some (.ret r, g1) := by
  unfold zFg; simp only [h, Option.bind_eq_bind, Option.bind_some]
/-- what follows a forgetting, told as one's end -/
def fgK {β : Type} (vs : List Nat) (kk : Option (Fl × G) → β) : Option (Fl × G) → β := fun o => kk (o.bind fun q => match q.1 with
  | .ret r => some (.ret r, q.2)
  | fl => if freeAll q.2 vs = true then some (fl, wipeG q.2 vs) else none)
theorem ap_fg {β : Type} {kk : Option (Fl × G) → β} {OUT : β} (k : ap (fgK vs kk) (s g) = OUT) : ap kk (zFg vs s g) = OUT := by
  have e : zFg vs s g = (s g).bind fun q => match q.1 with
    | .ret r => some (.ret r, q.2)
    | fl => if freeAll q.2 vs = true then some (fl, wipeG q.2 vs) else none := by
    unfold zFg
    cases s g with
    | none => rfl
    | some q => rfl
  rw [e]; exact k
theorem fgK_nx {β : Type} {kk : Option (Fl × G) → β} {OUT : β} (hf : freeAll g vs = true) (hg : wipeG g vs = g2) (k : kk (some (.nx, g2)) = OUT) : ap (fgK vs kk) (some (.nx, g)) = OUT := by
  show kk (if freeAll g vs = true then some (.nx, wipeG g vs) else none) = OUT
  rw [if_pos hf, hg]; exact k
theorem fgK_ct {β : Type} {kk : Option (Fl × G) → β} {OUT : β} (hf : freeAll g vs = true) (hg : wipeG g vs = g2) (k : kk (some (.ct, g2)) = OUT) : ap (fgK vs kk) (some (.ct, g)) = OUT := by
  show kk (if freeAll g vs = true then some (.ct, wipeG g vs) else none) = OUT
  rw [if_pos hf, hg]; exact k
theorem fgK_bk {β : Type} {kk : Option (Fl × G) → β} {OUT : β} (hf : freeAll g vs = true) (hg : wipeG g vs = g2) (k : kk (some (.bk, g2)) = OUT) : ap (fgK vs kk) (some (.bk, g)) = OUT := by
  show kk (if freeAll g vs = true then some (.bk, wipeG g vs) else none) = OUT
  rw [if_pos hf, hg]; exact k
theorem fgK_ret {β : Type} {kk : Option (Fl × G) → β} {OUT : β} (k : kk (some (.ret r, g)) = OUT) : ap (fgK vs kk) (some (.ret r, g)) = OUT := k
theorem fgB_run (hf : freeAll g vs = true) (hg : wipeG g vs = g1) {o : Option (Fl × G)} (h : s g1 = o) : zFgB vs s g = o := by
  unfold zFgB; rw [if_pos hf, hg]; exact h
theorem sr_ct {β : Type} {kk : Option (Fl × G) → β} {OUT : β} {rest : SM} {g : G} (k : ap kk (some (.ct, g)) = OUT) : ap kk (zSeq zCt rest g) = OUT := k
theorem sr_bk1 {β : Type} {kk : Option (Fl × G) → β} {OUT : β} {g : G} (k : ap kk (some (.bk, g)) = OUT) : ap kk (zBk g) = OUT := k
theorem sr_ct1 {β : Type} {kk : Option (Fl × G) → β} {OUT : β} {g : G} (k : ap kk (some (.ct, g)) = OUT) : ap kk (zCt g) = OUT := k
theorem sr_nx1 {β : Type} {kk : Option (Fl × G) → β} {OUT : β} {g : G} (k : ap kk (some (.nx, g)) = OUT) : ap kk (zNx g) = OUT := k
theorem seq_ret (h : st g = some (.ret r, g1)) {β : Type} {kk : Option (Fl × G) → β} {OUT : β} (k : ap kk (some (.ret r, g1)) = OUT) : ap kk (zSeq st rest g) = OUT := by
  unfold zSeq; simp only [h, Option.bind_eq_bind, Option.bind_some]; exact k
theorem wipeG_nil (g : G) : wipeG g [] = g := rfl
theorem wipeG_cons (g : G) (v : Nat) (vs : List Nat) : wipeG g (v :: vs) = (wipeG g vs).set v .un := rfl
theorem for_run {n : Nat} {mi : MI} {tg : TD} {L : List D} {o : Option (Fl × G)} (h1 : mi g = some (L, none, g)) (hg : g.take n = g) (h2 : forL tg st L g = o) : zFor n mi tg st g = o := for_none h1 hg h2
theorem er_andVT {ma mb : ZM} {g3 : G} {b1 b2 : Bool} (h1 : ma g = some (.dat (.bl b1), g1)) (hb : b1 = true) (h2 : mb g1 = some (.dat (.bl b2), g3)) : zAndV ma mb g = some (.dat (.bl b2), g3) := by
  subst hb
  unfold zAndV; simp only [h1, isB, h2, if_true, Option.bind_eq_bind, Option.bind_some]
theorem er_orVF {ma mb : ZM} {g3 : G} {b1 b2 : Bool} (h1 : ma g = some (.dat (.bl b1), g1)) (hb : b1 = false) (h2 : mb g1 = some (.dat (.bl b2), g3)) : zOrV ma mb g = some (.dat (.bl b2), g3) := by
  subst hb
  unfold zOrV; simp only [h1, isB, Option.bind_eq_bind, Option.bind_some]
  rw [if_neg Bool.false_ne_true]
  exact h2
/-- a call that hands out data with references within: what was handed in becomes data -/
theorem er_callGF {f : List D → Option FR} {mr : ZAr} {rs : List R} {ds : List D} {d : D} (h1 : mr g = some (rs, g1)) (h2 : rdAll g1 rs = some ds) (h2' : frzAll rs g1 = some (ds, g2)) (h3 : f ds = some (.dat d)) (hs : d.scal = false) : zCall f mr g = some (.dat d, g2) := by
  unfold zCall; simp only [h1, h2, h2', h3, hs, Option.bind_eq_bind, Option.bind_some]
  rfl
theorem er_callHF {f : List D → Option FR} {mr : ZAr} {rs : List R} {ds : List D} {c : Cn} (h1 : mr g = some (rs, g1)) (h2 : rdAll g1 rs = some ds) (h2' : frzAll rs g1 = some (ds, g2)) (h3 : f ds = some (.new c)) (hs : c.scal = false) : zCall f mr g = some (.bor g2.length, g2 ++ [.own c false false]) := by
  unfold zCall; simp only [h1, h2, h2', h3, hs, Option.bind_eq_bind, Option.bind_some]
  rfl
theorem er_orTt {s t : ZT} {b : Bool} (h1 : s g = some (b, g1)) (hb : b = true) : zOrT s t g = some (true, g1) := by
  subst hb
  unfold zOrT; simp only [h1, Option.bind_eq_bind, Option.bind_some, if_true]
theorem forL_nx {tg : TD} {x : D} {xs : List D} {g3 : G} {o : Option (Fl × G)} (h1 : tg x g = some g1) (h2 : st g1 = some (.nx, g3)) (h3 : forL tg st xs g3 = o) : forL tg st (x :: xs) g = o := by
  simp only [forL, h1, h2, Option.bind_eq_bind, Option.bind_some]; exact h3
/-- what an item does: b whether it is taken, f what it becomes; base the slots without the new list -/
structure LcItem (tg : TD) (tt : ZT) (el : ZM) (vs : List Nat) (t : Nat) (base : G) (x : D) (b : Bool) (y : D) : Prop where
  run : ∀ acc : List D, ∃ h : G, h.length = t ∧ freeAll (h ++ [.own (.lst acc) false false]) vs = true ∧ (∀ o : Sl, wipeG (h ++ [o]) vs = base ++ [o]) ∧ (∀ o : Sl, freeAll (h ++ [o]) vs = true) ∧ tg x (base ++ [.own (.lst acc) false false]) = some (h ++ [.own (.lst acc) false false]) ∧
    tt (h ++ [.own (.lst acc) false false]) = some (b, h ++ [.own (.lst acc) false false]) ∧
    (b = true → ∃ r g3 g4, el (h ++ [.own (.lst acc) false false]) = some (r, g3) ∧ frzR r g3 = some (y, g4) ∧ g4[t]? = some (.own (.lst acc) false false) ∧ ∀ o : Sl, (g4.set t o).take (t + 1) = h ++ [o])
theorem lcL_fm {tg : TD} {tt : ZT} {el : ZM} {vs : List Nat} {t : Nat} {base : G} {b : D → Bool} {f : D → D} : ∀ {L : List D} (acc : List D) (h : G), h.length = t → (∀ o : Sl, wipeG (h ++ [o]) vs = base ++ [o]) → (∀ o : Sl, freeAll (h ++ [o]) vs = true) → acc.length + L.length ≤ sizeLine → (∀ x ∈ L, LcItem tg tt el vs t base x (b x) (f x)) →
    ∃ g3, lcL tg tt el vs t L (h ++ [.own (.lst acc) false false]) = some g3 ∧ wipeG g3 vs = base ++ [.own (.lst (acc ++ (L.filter b).map f)) false false]
  | [], acc, h, hl, hw, hf, _, _ => ⟨_, lcL_end (hf _), by rw [hw]; simp⟩
  | x :: L, acc, h, hl, hw, hf, hz, hx => by
    obtain ⟨h', q1, q2, q3, q4, q5, q6, q7⟩ := (hx x List.mem_cons_self).run acc
    have hx' : ∀ x ∈ L, LcItem tg tt el vs t base x (b x) (f x) := fun x h => hx x (List.mem_cons_of_mem _ h)
    simp only [List.length_cons] at hz
    cases hb : b x with
    | true =>
      obtain ⟨r, g3, g4, w1, w2, w3, w4⟩ := q7 hb
      obtain ⟨g5, x1, x2⟩ := lcL_fm (L := L) (acc ++ [f x]) h' q1 q3 q4 (by simp; omega) hx'
      refine ⟨g5, lcL_go (hf _) (by rw [hw]; exact q5) (by rw [q6, hb]) w1 w2 w3 (by omega) (w4 _) x1, ?_⟩
      rw [x2, List.filter_cons, hb, if_pos rfl]
      simp
    | false =>
      obtain ⟨g5, x1, x2⟩ := lcL_fm (L := L) acc h' q1 q3 q4 (by omega) hx'
      refine ⟨g5, lcL_no (hf _) (by rw [hw]; exact q5) (by rw [q6, hb]) (by rw [List.take_of_length_le (by simp [q1])]) x1, ?_⟩
      rw [x2, List.filter_cons, hb, if_neg Bool.false_ne_true]
/-- an item whose value is data -/
theorem lc_dat {tg : TD} {tt : ZT} {el : ZM} {vs : List Nat} {t : Nat} {base h : G} {x : D} {b : Bool} {y : D} (hl : h.length = t) (hw : ∀ o : Sl, wipeG (h ++ [o]) vs = base ++ [o]) (hf : ∀ o : Sl, freeAll (h ++ [o]) vs = true) (h1 : ∀ o : Sl, tg x (base ++ [o]) = some (h ++ [o])) (h2 : ∀ o : Sl, tt (h ++ [o]) = some (b, h ++ [o]))
    (h3 : b = true → ∀ o : Sl, el (h ++ [o]) = some (.dat y, h ++ [o])) : LcItem tg tt el vs t base x b y :=
  ⟨fun acc => ⟨h, hl, hf _, hw, hf, h1 _, h2 _, fun hb => ⟨_, _, _, h3 hb _, rfl, by rw [← hl]; simp, fun o => by rw [← hl, List.set_append_right _ _ (Nat.le_refl _)]; simp [List.take_of_length_le]⟩⟩⟩
theorem er_lc1 {mi : MI} {tg : TD} {tt : ZT} {el : ZM} {vs : List Nat} {g : G} {L : List D} {base h : G} {b : D → Bool} {f : D → D} (h1 : mi g = some (L, none, h)) (hw : ∀ o : Sl, wipeG (h ++ [o]) vs = base ++ [o]) (hf : ∀ o : Sl, freeAll (h ++ [o]) vs = true) (hz : L.length ≤ sizeLine) (hx : ∀ x ∈ L, LcItem tg tt el vs h.length base x (b x) (f x)) :
    zLc mi tg tt el vs g = some (.bor h.length, base ++ [.own (.lst ((L.filter b).map f)) false false]) := by
  obtain ⟨g3, x1, x2⟩ := lcL_fm (L := L) [] h rfl hw hf (by simpa using hz) hx
  rw [List.nil_append] at x2
  exact er_lc h1 x1 x2
end
theorem inL_ints (n : Int) : ∀ R : List Int, inL (.int n) (R.map D.int) = decide (n ∈ R)
  | [] => rfl
  | z :: R => by
    have := inL_ints n R
    unfold inL at this ⊢
    rw [List.map_cons, List.any_cons, this]
    show ((z == n) || _) = _
    by_cases h : z = n
    · subst h; simp
    · have : ¬ n = z := fun e => h e.symm
      simp [h, this]
theorem in_ints (n : Int) (R : List Int) : inD (.int n) (.lst (R.map D.int)) = some (.bl (decide (n ∈ R))) := by
  unfold inD
  show Option.map D.bl (if _ then _ else _) = _
  rw [if_pos (by simp [D.pl]), inL_ints]
  rfl
end Z
set_option Elab.async false
set_option linter.all false
set_option maxRecDepth 100000
set_option maxHeartbeats 4000000
namespace Z
open PySem PySem.Spec PyProof.Rows L2
structure FnA (P : Program) (w : World) (K : PySem.W.Frag) (mg : Str → Option Value) (base : Heap) (A : Around) (f : Addr) (fd : FuncData) (ps : List Str) (sp : Sp) : Prop where
  run : ∀ (out : List Env) (s : Shared) (H : Hp) (ar : Args) (us : List Value) (vs : List V) (Q : VK) (E : XK), Env0 P w K mg base A out s H → BindsTo s fd ar (ps.zip us) → Vals vs us → sp vs H Q E →
    codeAny (model P w) A (.call (.ref f) ar) (CR CX0 out P w H s Q E) s
section
variable {P : Program} {w : World} {K : PySem.W.Frag} {mg : Str → Option Value} {base : Heap}
/-- the reading of a body by runP, wherever it is called -/
theorem runP_reads {N ps : List Str} {s : SM} {vs : List V} {H : Hp} {Q : VK} {E : XK} (hp : ps.length ≤ N.length) (hs : spP K (runP N.length ps.length s) vs H Q E) : tZS K N.length s { nx := fun _ H' => Q .non H', rt := Q } (L2.start N vs) H ∧ vs.length = ps.length := by
  obtain ⟨Hs, ds, fr, sm, hz, e, q⟩ := hs
  unfold runP at e
  split at e
  · rename_i hl
    have hd : ds.length ≤ N.length := by omega
    refine ⟨?_, by rw [hz.length]; exact hl⟩
    split at e
    · rename_i r g' hr
      refine ⟨_, Hs, _, start0 N.length ds, .ret r, g', rfl, rfl, ok_start hd sm hz, hr, ?_⟩
      exact fun Hs' A' σ' H' v s1 ok1 rel1 => q v Hs' H' s1 (fun b o e => ok1.keep b o e (fun _ h => (List.not_mem_nil h).elim)) ok1.same ok1.grow (fin_ok ok1 rel1 e)
    · rename_i g' hr
      cases e
      refine ⟨_, Hs, _, start0 N.length ds, .nx, g', rfl, rfl, ok_start hd sm hz, hr, ?_⟩
      exact fun Hs' A' σ' H' s1 ok1 => q .non Hs' H' s1 (fun b o e => ok1.keep b o e (fun _ h => (List.not_mem_nil h).elim)) ok1.same ok1.grow .non
    · cases e
  · cases e
theorem okA {x qual : Str} {st : Stmt} {f : Addr} {fd : FuncData} {N ps : List Str} {k : Nat} {s : SM} {A : Around} (F : Fun K x qual st f fd) (S : FnScope N ps (defScope st)) (hA : Room (k + 1) A)
    (body : ∀ (cdv : Value) (out : List Env) (s0 : Shared) (H : Hp) (E : XK), Room k (A.deeper (envOfC qual (defScope st) s0.heap.objs.size f cdv)) → ZSs (cxOf CX0 P w K mg base N qual (defScope st) f cdv A out s0 H E).nox (defBody st) s) :
    FnA P w K mg base A f fd ps (spP K (runP N.length ps.length s)) := by
  obtain ⟨oc, od, kV, doc, pm, an, cdv, ct, osl, rfl, atf, hcode⟩ := F.ex
  have hpN : ps.length ≤ N.length := by
    have := congrArg List.length S.pre
    rw [List.length_take] at this
    omega
  constructor
  intro out s0 H ar us vs Q E e0 hbd rel hs
  obtain ⟨reads, lv⟩ := runP_reads hpN hs
  have inK : K.In s0.heap := e0.mod.kin.keeps fun c u z => (e0.bs c u z).1
  have noL : s0.heap.NoLimit := e0.mod.nolimit.keeps fun c u z => (e0.bs c u z).1
  have kinds : ∀ y ∈ ps.zip us, (defScope st).names.lookup y.1 = some .local ∨ ((defScope st).names.lookup y.1 = some .cell ∧ ((cellsFrom (s0.heap.objs.size + 1) (defScope st).names []).lookup y.1).isSome = true) := by
    rintro ⟨n, u⟩ hy
    exact (S.par n (List.of_mem_zip hy).1).imp id fun c => ⟨c, PySem.W.cellsFrom_some _ _ _ (.inl c)⟩
  apply codeAny_call_function hA.depth (inK _ _ atf) rfl S.co S.gen rfl (PySem.W.codeRec_of inK hcode)
  apply hbd
  apply wpAny_newFunctionEnv_cells S.kind kinds
  rintro env rfl s1 new
  refine ⟨noL.keeps new.toInCall.keep, ?_⟩
  apply codeAny_func
  have I0 : Inv (cxOf CX0 P w K mg base N qual (defScope st) f cdv A out s0 H E) [] (L2.start N vs) H s1 := inv_start S hA.hd e0 lv rel new
  have B := (body cdv out s0 H E (hA.deeper _)).nox
  apply wpAny_mono (B.run [] s1 (L2.start N vs) H _ I0 reads)
  · intro fl s2 hfl
    cases fl with
    | ret u =>
      obtain ⟨v, σ2, H2, J, rv, q⟩ := hfl
      exact ⟨v, H2, J.os, J.bare, J.base, J.hok, rv, q⟩
    | next =>
      obtain ⟨σ2, H2, J, q⟩ := hfl
      exact ⟨V.non, H2, J.os, J.bare, J.base, J.hok, rfl, q⟩
    | brk => obtain ⟨_, _, _, q⟩ := hfl; cases q
    | cont => obtain ⟨_, _, _, q⟩ := hfl; cases q
  · exact fun e s2 z => z
end
theorem law_callA {P : Program} {w : World} {K : PySem.W.Frag} {mg mb : Str → Option Value} {fa a : Addr} {fd : FuncData} {x : Str} {f : List D → Option FR} {s1 : Shared} {vs : List Value} {ns : List Int}
    (kin : K.In s1.heap) (gns : s1.heap.Ns mainGlobals mg) (bns : s1.heap.Ns builtinsNs mb) (bbo : ∀ y : Str, y ≠ "__name__" → mb y = bootBuiltins y) (nol : s1.heap.NoLimit) (gens : s1.gens = #[])
    (obj : s1.heap.get? a = some { cls := .type "list", data := .seq vs.toArray }) (hint : IntsAre vs ns) (small : ns.length ≤ sizeLine)
    (nod : s1.heap.NoDigits) (F : ∀ base : Heap, K.In base → base.Ns mainGlobals mg → base.NoDigits → FnA P w K mg base callerA fa fd [x] (spP K f)) (bnd : ∀ (s : Shared) (u : Value), BindsTo s fd ⟨[u], []⟩ [(x, u)])
    (good : f [scriptD ns] = some (.dat (.bl true))) :
    codeAny (model P w) callerA (.call (.ref fa) ⟨[.ref a], []⟩) (fun r s2 => r = .ok (.ret (.bool true)) ∧ OldK s1.heap s2.heap ∧ s2.os = s1.os ∧ AllBare s2.gens) s1 := by
  have relV := vals_ints hint
  -- the heap that is known: nothing, or the script
  obtain ⟨H, only, seq, hok, atA, notK⟩ : ∃ H : Hp, Only H ∧ SqL K H a (ns.map V.int) ∧ HOk P w H s1.heap ∧ (∀ b, H b ≠ none → b = a) ∧ (H a ≠ none → K.lookup a = none) := by
    cases look : K.lookup a with
    | some o =>
      have same := kin a o look
      rw [obj] at same
      cases same
      exact ⟨fun _ => none, fun _ => .inl rfl, .inr ⟨_, vs.toArray, _, look, rfl, rfl, rfl, by rw [List.size_toArray, hint.length]; exact small, by simpa using relV⟩, fun b u z => by simp at z, fun b z => absurd rfl z, fun z => absurd rfl z⟩
    | none =>
      refine ⟨upd (fun _ => none) a (.frz { cls := .type "list", data := .seq vs.toArray } (.lst (ns.map V.int))), fun b => ?_, .inl (.inr ⟨_, upd_same⟩), fun b u z => ?_, fun b z => ?_, fun _ => rfl⟩
      · by_cases e : b = a
        · subst e; exact .inr ⟨_, _, upd_same⟩
        · exact .inl (upd_ne e)
      · by_cases e : b = a
        · subst e
          rw [upd_same] at z
          cases z
          exact ⟨obj, by rw [List.length_map]; exact small, vs, _, relV, obj⟩
        · rw [upd_ne e] at z; cases z
      · by_cases e : b = a
        · exact e
        · exact absurd (upd_ne e) z
  have stays : ∀ {b : Addr} {m : Str → Option Value}, s1.heap.Ns b m → (hidT s1.heap H).Ns b m := by
    rintro b m ⟨o, es, ep, e, d, r⟩
    refine ⟨o, es, ep, hidT_get e ?_, d, r⟩
    cases q : H b with
    | none => rfl
    | some u =>
      have := atA b (by simp [q])
      subst this
      rw [obj] at e
      cases e
      cases d
  have kin0 : K.In (hidT s1.heap H) := by
    intro b o e
    refine hidT_get (kin b o e) ?_
    cases q : H b with
    | none => rfl
    | some u =>
      have := atA b (by simp [q])
      subst this
      rw [notK (by simp [q])] at e
      cases e
  obtain ⟨ml, l1, l2⟩ := nol
  have env : Env0 P w K mg (hidT s1.heap H) callerA [] s1 H :=
    ⟨rfl, ⟨kin0, stays gns, ⟨mb, stays bns, bbo⟩, ⟨ml, stays l1, l2⟩⟩, fun b o e => of_hidT e, Nat.le_of_eq (hidT_size _ _), trivial, fun b hb => absurd (show b ∈ ([] : List Addr) from hb) List.not_mem_nil, hok, .of_eq gens⟩
  obtain ⟨md, d1, d2⟩ := nod
  have ran := (F _ kin0 (stays gns) ⟨md, stays d1, d2⟩).run [] s1 H ⟨[.ref a], []⟩ [.ref a] [.ref a] _ _ env (bnd s1 (.ref a)) (.cons rfl .nil) (law_sp seq good)
  apply codeAny_mono ran
  intro r s2 end2
  match r, end2 with
  | .ok (.ret u), end2 =>
    obtain ⟨v, H2, os, bare, un, hok2, rv, q⟩ := end2
    have ev : v = .bl true := q
    subst ev
    have eu : u = Value.bool true := rv
    subst eu
    refine ⟨rfl, OldK.of_keep ?_, os, bare⟩
    intro b o e
    rcases only b with z | ⟨ob, xs, z⟩
    · exact un.keep b o e z (fun y => absurd (show b ∈ ([] : List Addr) from y) List.not_mem_nil) List.not_mem_nil
    · obtain ⟨e1, _⟩ := hok b _ z
      obtain ⟨e2, _⟩ := hok2 b _ (un.frzs b ob _ z)
      rw [e] at e1
      cases e1
      exact e2
  | .ok .next, z => exact z.elim
  | .ok .brk, z => exact z.elim
  | .ok .cont, z => exact z.elim
  | .error e, z => exact z.elim
theorem walk_ofA {l : PySem.W.OpenLaw} {n : Nat} {q : Program} {loose : List Str} {XP : (Str → Option Value) → Heap → Prop} {YP : World → Heap → Prop} {d : DefRec} {K : Params → PySem.W.Frag} {f : List D → Option FR} {x : Str}
    (most : l.most = some n) (small : n ≤ sizeLine) (plain : d.params.defaults = []) (hY : ∀ (w : World) (h : Heap), YP w h → (K w.params).In h)
    (F : ∀ (w : World) (mg : Str → Option Value) (fa : Addr) (h : Heap), (K w.params).In h → h.Ns mainGlobals mg → mg d.name = some (.ref fa) →
      ∃ fd : FuncData, (∀ (s : Shared) (u : Value), BindsTo s fd ⟨[u], []⟩ [(x, u)]) ∧ ∀ base : Heap, (K w.params).In base → base.Ns mainGlobals mg → base.NoDigits → FnA l.prog w (K w.params) mg base callerA fa fd [x] (spP (K w.params) f))
    (good : ∀ ns : List Int, ns.length ≤ n → f [scriptD ns] = some (.dat (.bl true))) :
    PySem.W.WalkO q loose XP YP l.row.toRowW d [] (fun f vs => PySem.call f vs) := by
  apply Att.attach_call most plain
  intro w s0 s1 mg mb fa o pm cd doc a vs ns Gr Y ho hd hcd hmg hobj hints hlen hg
  obtain ⟨fd, hb, hF⟩ := F w mg fa _ (hY w _ Y) Gr.T.g hmg
  exact law_callA (hY w _ Y) Gr.T.g Gr.T.b Gr.T.builtins Gr.T.nolimit hg hobj hints (Nat.le_trans hlen small) Gr.T.nodigits hF hb (good ns hlen)
end Z
set_option Elab.async false
set_option linter.all false
set_option maxRecDepth 100000
set_option maxHeartbeats 4000000
namespace Z
open PySem PySem.Spec PyProof.Rows L2
local macro_rules | `(tactic| walk_at "l") => `(tactic| first | (simp only [wipeG_nil, wipeG_cons, List.set_cons_succ, List.set_cons_zero, List.take_succ_cons, List.take_zero, List.take_nil, List.cons_append, List.nil_append, List.length_cons, List.length_nil, List.set_nil, List.getElem?_cons_zero, List.getElem?_cons_succ, Nat.zero_add, Nat.reduceAdd]; first | done | exact rfl) | exact rfl)
local macro_rules | `(tactic| walk_at "d") => `(tactic| first
  | with_reducible assumption
  | (with_reducible apply dr_div) <;> decide
  | (with_reducible apply dr_mod) <;> decide
  | (with_reducible apply dr_mulr); decide
  | (with_reducible apply dr_mull); decide
  | (with_reducible apply dr_divB) <;> omega
  | (with_reducible apply dr_mulrB) <;> omega
  | (with_reducible apply dr_mullB) <;> omega
  | (with_reducible apply dr_mulC) <;> omega
  | (with_reducible apply dr_mod) <;> omega
  | (with_reducible refine isi_of ?_ ?_); (exact rfl); (first | exact kb_int_int | exact kb_int_bool | exact kb_bool_bool | exact kb_bool_int | exact kb_str_int | exact kb_str_bool | exact kb_str_str | exact kb_int_str | exact kb_bool_str | exact kb_non_int | exact kb_non_bool | exact kb_non_str | exact kb_list_list | exact kb_tuple_tuple | exact kb_list_tuple | exact kb_tuple_list)
  | with_reducible exact dr_abs
  | (with_reducible exact dr_neL _ _)
  | (simp only [Cn.d]; with_reducible assumption)
  | (simp only [Cn.d]; with_reducible exact dr_neL _ _)
  | with_reducible exact in_ints _ _
  | (simp only [Cn.d]; with_reducible exact in_ints _ _)
  | ((with_reducible apply dr_cat); (try simp only [List.length_append, List.length_cons, List.length_nil]); omega)
  | with_reducible exact dr_eqI
  | with_reducible exact dr_eqB
  | with_reducible exact dr_neB
  | with_reducible exact dr_eqS
  | with_reducible exact dr_neI
  | with_reducible exact dr_neS
  | exact rfl)
local macro_rules | `(tactic| walk_at "c") => `(tactic| first | with_reducible assumption | (simp only [Cn.d]; with_reducible assumption))
local macro_rules | `(tactic| walk_at "e") => `(tactic| first
  | with_reducible exact er_C
  | with_reducible exact er_nil
  | (with_reducible apply er_varD); exact rfl
  | (with_reducible apply er_varO); exact rfl
  | (with_reducible apply er_varF); exact rfl
  | (with_reducible apply er_op); walk_at "e"; walk_at "e"; exact rfl; exact rfl; walk_at "d"; exact rfl
  | (with_reducible apply er_chain); walk_at "e"; walk_at "e"; exact rfl; exact rfl; walk_at "d"; (intro _h; walk_at "e"); exact rfl; walk_at "d"
  | (with_reducible apply er_slS); walk_at "e"; walk_at "o"; walk_at "o"; exact rfl; walk_at "z"
  | (with_reducible apply er_slL); walk_at "e"; walk_at "o"; walk_at "o"; exact rfl
  | (with_reducible apply er_list); walk_at "e"; exact rfl; exact rfl
  | (with_reducible apply er_tupL); walk_at "e"; exact rfl
  | (with_reducible apply er_un); walk_at "e"; exact rfl; exact rfl; exact rfl
  | (with_reducible apply er_tst); walk_at "e"
  | (with_reducible apply er_tru); walk_at "e"; exact rfl; exact rfl
  | (with_reducible apply er_andT); walk_at "e"; (intro _h; walk_at "e")
  | (with_reducible apply er_orT); walk_at "e"; (intro _h; walk_at "e")
  | (with_reducible apply er_andTT); walk_at "e"; exact rfl; walk_at "e"
  | (with_reducible apply er_orTF); walk_at "e"; exact rfl; walk_at "e"
  | (with_reducible apply er_notT); walk_at "e"
  | (with_reducible apply er_andV); walk_at "e"; (intro _h; walk_at "e")
  | (with_reducible apply er_orV); walk_at "e"; (intro _h; walk_at "e")
  | (with_reducible apply er_notV); walk_at "e"
  | (with_reducible apply er_andVT); walk_at "e"; exact rfl; walk_at "e"
  | (with_reducible apply er_orVF); walk_at "e"; exact rfl; walk_at "e"
  | (with_reducible apply er_ix); walk_at "e"; walk_at "e"; exact rfl; walk_at "x"
  | (with_reducible apply er_callS); walk_at "e"; exact rfl; walk_at "d"; exact rfl
  | (with_reducible apply er_cons); walk_at "e"; walk_at "e"
  | (with_reducible apply er_callG); walk_at "e"; exact rfl; exact rfl; walk_at "c"; exact rfl
  | (with_reducible apply er_callH); walk_at "e"; exact rfl; exact rfl; walk_at "c"; exact rfl
  | (with_reducible apply er_callV); walk_at "e"; exact rfl; walk_at "c"; exact rfl
  | (with_reducible apply er_callGF); walk_at "e"; exact rfl; exact rfl; walk_at "c"; exact rfl
  | (with_reducible apply er_callHF); walk_at "e"; exact rfl; exact rfl; walk_at "c"; exact rfl
  | (with_reducible apply er_callM); walk_at "e"; exact rfl; exact rfl; exact rfl; exact rfl; exact rfl; walk_at "c"; exact rfl
  | (with_reducible apply er_catL); walk_at "e"; walk_at "e"; exact rfl; exact rfl; walk_at "z"
  | (with_reducible apply er_mt); walk_at "e"; exact rfl; exact rfl; walk_at "e"; exact rfl; exact rfl; walk_at "m"; exact rfl
  | (with_reducible apply er_tup); walk_at "e"; exact rfl; walk_at "z" 
  | (with_reducible apply er_lst); walk_at "e"; exact rfl; walk_at "z")
local macro_rules | `(tactic| walk_at "o") => `(tactic| first | exact er_zoN | ((with_reducible apply er_zoS); walk_at "e"))
local macro_rules | `(tactic| walk_at "x") => `(tactic| first | with_reducible assumption | (simp only [Cn.d]; with_reducible assumption) | exact rfl)
local macro_rules | `(tactic| walk_at "m") => `(tactic| first | with_reducible assumption | (simp only [Cn.d]; with_reducible assumption) | exact rfl)
local macro_rules | `(tactic| walk_at "st") => `(tactic| first
  | ((with_reducible apply set_dat); (walk_at "e"); (exact rfl); walk_at "l")
  | ((with_reducible apply set_own); (walk_at "e"); (exact Nat.le_of_ble_eq_true rfl); (exact rfl); (exact rfl); walk_at "l")
  | ((with_reducible apply asg_run); (walk_at "e"); (exact rfl); walk_at "l")
  | ((with_reducible apply aug_run); (exact rfl); (exact rfl); (walk_at "e"); (exact rfl); (walk_at "d"); (exact rfl); (exact rfl); walk_at "l")
  | ((with_reducible apply sto_run); (walk_at "e"); (walk_at "e"); (walk_at "e"); (exact rfl); (walk_at "x"); walk_at "l")
  | ((with_reducible apply app_run); (walk_at "e"); (exact rfl); (walk_at "e"); (exact rfl); (exact rfl); (walk_at "z"); walk_at "l"))
local macro_rules | `(tactic| walk_at "z") => `(tactic| first | assumption | exact Nat.le_of_ble_eq_true rfl | (simp; omega))
local macro_rules | `(tactic| walk_at "s") => `(tactic| first
  | with_reducible apply sr_nx
  | with_reducible apply sr_assoc
  | with_reducible apply ap_fg
  | ((with_reducible apply fgK_nx); (exact rfl); (walk_at "l"); skip)
  | ((with_reducible apply fgK_ct); (exact rfl); (walk_at "l"); skip)
  | ((with_reducible apply fgK_bk); (exact rfl); (walk_at "l"); skip)
  | with_reducible apply fgK_ret
  | with_reducible apply sr_bk1
  | with_reducible apply sr_ct1
  | with_reducible apply sr_nx1
  | with_reducible apply sr_ct
  | with_reducible apply sr_bk
  | (with_reducible apply sr_retS); (walk_at "e"); skip
  | (with_reducible apply sr_ret); (walk_at "e"); skip
  | (with_reducible apply sr_if); (walk_at "e"); (walk_at "l")
  | (with_reducible apply sr_if1); (walk_at "e"); (walk_at "l")
  | (with_reducible apply seq_nx); (walk_at "st")
  | (with_reducible apply one_nx); (walk_at "st"))
local macro_rules | `(tactic| walk_at "r") => `(tactic| repeat' (first | (intro _) | walk_at "s"))
local macro_rules | `(tactic| walk_at "k") => `(tactic| (intro q; (try simp only [decide_eq_true_eq, decide_eq_false_iff_not, beq_iff_eq, beq_eq_false_iff_ne, ne_eq, Bool.not_eq_true', Bool.not_eq_false', Bool.and_eq_true, Bool.or_eq_true, Bool.and_eq_false_iff, Bool.or_eq_false_iff, Int.not_lt, Int.not_le, List.cons.injEq, and_true, reduceCtorEq, beq_self_eq_true, Bool.not_true, Bool.not_false, Bool.or_false, Bool.false_or, Bool.or_true, Bool.true_or, Bool.and_false, Bool.false_and, Bool.and_true, Bool.true_and, not_true_eq_false, Bool.false_eq_true] at q) <;> (try (exfalso; first | (cases q; done) | omega | contradiction))))
local macro_rules | `(tactic| walk_at "w") => `(tactic| repeat' (first | (walk_at "k") | walk_at "s"))
mutual
def D.rok : D → Bool
  | .non => true
  | .bl _ => true
  | .int i => decide (i.natAbs < 10 ^ 60)
  | .str s => s.all fun c => decide (c < 1114112)
  | .raw _ => false
  | .dic _ _ => false
  | .obj _ _ _ => false
  | .tup l => D.rokA l
  | .lst l => D.rokA l
def D.rokA : List D → Bool
  | [] => true
  | d :: l => d.rok && D.rokA l
end
mutual
def D.wt : D → Nat
  | .str s => s.length
  | .int _ => 200
  | .tup l => D.wtA l
  | .lst l => D.wtA l
  | _ => 0
def D.wtA : List D → Nat
  | [] => 0
  | d :: l => d.wt + 1 + D.wtA l
end
mutual
def D.dp : D → Nat
  | .tup l => D.dpA l + 1
  | .lst l => D.dpA l + 1
  | _ => 0
def D.dpA : List D → Nat
  | [] => 0
  | d :: l => max d.dp (D.dpA l)
end
theorem big60 {i : Int} (h : i.natAbs < 10 ^ 60) : i.natAbs.log2 < 200 := by
  by_cases z : i.natAbs = 0
  · rw [z]; decide
  · rw [Nat.log2_lt z]
    exact Nat.lt_trans h (by decide)
mutual
theorem rok_lay : ∀ d : D, d.rok = true → d.py.canLay0 = true ∧ d.py.showable = true ∧ d.py.intsShort 61 = true ∧ d.py.depth = d.dp ∧ d.py.weight ≤ d.wt
  | .non, _ => ⟨rfl, rfl, rfl, rfl, Nat.le_refl _⟩
  | .bl _, _ => ⟨rfl, rfl, rfl, rfl, Nat.le_refl _⟩
  | .int i, h => by
    have h : i.natAbs < 10 ^ 60 := of_decide_eq_true h
    have l := big60 h
    refine ⟨rfl, decide_eq_true (by omega), decide_eq_true ?_, rfl, ?_⟩
    · have e := int_text_length_le10 (k := 60) (by decide) h
      show (Str.ofString (toString i)).length ≤ 61
      rw [PySem.ofString_length]
      exact e
    · show (if (i == 0) = true then 0 else i.natAbs.log2 + 1) ≤ 200
      split <;> omega
  | .str s, h => by
    have h : (s.all fun c => decide (c < 1114112)) = true := h
    refine ⟨?_, rfl, rfl, rfl, ?_⟩
    · show PyData.strOk ⟨s.toArray⟩ = true
      simpa [PyData.strOk] using h
    · show s.toArray.size ≤ s.length
      simp
  | .raw _, h => by cases h
  | .dic _ _, h => by cases h
  | .obj _ _ _, h => by cases h
  | .tup l, h => by
    obtain ⟨a, b, c, d, e⟩ := rok_layA l h
    exact ⟨a, b, c, by show PyData.depthAll _ + 1 = D.dpA l + 1; rw [d], e⟩
  | .lst l, h => by
    obtain ⟨a, b, c, d, e⟩ := rok_layA l h
    exact ⟨a, b, c, by show PyData.depthAll _ + 1 = D.dpA l + 1; rw [d], e⟩
theorem rok_layA : ∀ l : List D, D.rokA l = true → PyData.canLayAll0 (D.pyA l) = true ∧ PyData.showableAll (D.pyA l) = true ∧ PyData.intsShortAll 61 (D.pyA l) = true ∧ PyData.depthAll (D.pyA l) = D.dpA l ∧ PyData.weightAll (D.pyA l) ≤ D.wtA l
  | [], _ => ⟨rfl, rfl, rfl, rfl, Nat.le_refl _⟩
  | d :: l, h => by
    have h : (d.rok && D.rokA l) = true := h
    rw [Bool.and_eq_true] at h
    obtain ⟨a1, b1, c1, d1, e1⟩ := rok_lay d h.1
    obtain ⟨a2, b2, c2, d2, e2⟩ := rok_layA l h.2
    refine ⟨?_, ?_, ?_, ?_, ?_⟩
    · show (PyData.canLay0 d.py && PyData.canLayAll0 (D.pyA l)) = true
      rw [a1, a2]; rfl
    · show (PyData.showable d.py && PyData.showableAll (D.pyA l)) = true
      rw [b1, b2]; rfl
    · show (PyData.intsShort 61 d.py && PyData.intsShortAll 61 (D.pyA l)) = true
      rw [c1, c2]; rfl
    · show max (PyData.depth d.py) (PyData.depthAll (D.pyA l)) = max d.dp (D.dpA l)
      rw [d1, d2]
    · show PyData.weight d.py + 1 + PyData.weightAll (D.pyA l) ≤ d.wt + 1 + D.wtA l
      omega
end
theorem rok_shp {d : D} (h : d.rok = true) (h2 : d.dp ≤ 60) : d.shp = true := by
  obtain ⟨a, _, _, e, _⟩ := rok_lay d h
  show (d.py.canLay0 && decide (d.py.depth ≤ 64)) = true
  rw [a, e, decide_eq_true (by omega)]
  rfl
/-- equal shapes compare -/
theorem dr_eqR {d e : D} (h : d.rok = true) (h2 : d.dp ≤ 60) (k : e.rok = true) (k2 : e.dp ≤ 60) : eqD d e = some (.bl (D.eqv d e)) := by
  unfold eqD eqOk
  rw [rok_shp h h2, rok_shp k k2]
  simp
theorem dr_neR {d e : D} (h : d.rok = true) (h2 : d.dp ≤ 60) (k : e.rok = true) (k2 : e.dp ≤ 60) : neqD d e = some (.bl (!D.eqv d e)) := by
  unfold neqD neOk
  rw [rok_shp h h2, rok_shp k k2]
  simp
abbrev stZ (s : Int) : Cn := .lst [.int s]
theorem to_eq {α : Type} {o : Option (α × G)} {r : α} {g g' : G} (h : o = some (r, g)) (e : g = g') : o = some (r, g') := by rw [h, e]
def DigitOk (F : Cn → List D → Option (FR × Cn)) : Prop := ∀ s m : Int, 0 < m → m < 2 ^ 256 → F (stZ s) [.int m] = some (.dat (.int (s % m)), stZ (s / m))
theorem sign_at {signs : List Nat} {s N : Int} (hN : N = signs.length) (h0 : 0 < N) (hz : signs.length ≤ sizeLine) : ∃ c, ixD (.str signs) (s % N) = some (.str [c]) ∧ c ∈ signs := by
  obtain ⟨c, h1, h2⟩ := atI_lt (xs := signs) (Int.emod_nonneg s (show N ≠ 0 by omega)) (by rw [← hN]; exact Int.emod_lt_of_pos s h0)
  exact ⟨c, dr_ixS hz h1, h2⟩
/-- [signs[digit(state, N)] for k in range(m)] in a def of three names: the state, the signs, k -/
theorem draw_signs {F : Cn → List D → Option (FR × Cn)} (hF : DigitOk F) (signs : List Nat) {N : Int} (hN : N = signs.length) (h0 : 0 < N) (hz : signs.length ≤ 1000) (p : Bool) (s : Int) (m : Nat) (hm : m ≤ 100000) :
    ∃ (s' : Int) (acc : List Nat) (g3 : G), lcL (gN 2) zYes (zIx (zVar 1) (zCallM 0 F (zCons (zVar 0) (zCons (zC (.int N)) zNil)))) [2] 3 (rgD 0 m) [.own (stZ s) p false, .dat (.str signs), .un, .own (.lst []) false false] = some g3 ∧
      wipeG g3 [2] = [.own (stZ s') p false, .dat (.str signs), .un, .own (.lst (acc.map fun c => D.str [c])) false false] ∧ acc.length = m ∧ ∀ c ∈ acc, c ∈ signs := by
  have hzz : signs.length ≤ sizeLine := Nat.le_trans hz (by decide)
  have hmz : (100000 : Nat) < sizeLine := by decide
  obtain ⟨g3, e, s', acc, x, hg, hl, hc, hx⟩ := lcL_inv (tg := gN 2) (tt := zYes) (el := zIx (zVar 1) (zCallM 0 F (zCons (zVar 0) (zCons (zC (.int N)) zNil)))) (vs := [2]) (t := 3) (L := rgD 0 m)
    (fun i g => ∃ s' acc x, g = [.own (stZ s') p false, .dat (.str signs), x, .own (.lst (acc.map fun c => D.str [c])) false false] ∧ acc.length = i ∧ (∀ c ∈ acc, c ∈ signs) ∧ (x = .un ∨ ∃ d, x = .dat d)) 0
    [.own (stZ s) p false, .dat (.str signs), .un, .own (.lst []) false false] ⟨s, [], .un, rfl, rfl, fun _ h => (List.not_mem_nil h).elim, .inl rfl⟩
    (fun i g ⟨s', acc, x, hg, _, _, hx⟩ => by subst hg; rcases hx with rfl | ⟨d, rfl⟩ <;> rfl)
    (fun i d g hd ⟨s', acc, x, hg, hl, hc, hx⟩ => by
      obtain ⟨hi, rfl⟩ := rgD_at hd
      subst hg
      obtain ⟨c, hix, hcs⟩ := sign_at (s := s') hN h0 hzz
      have hdg := hF s' N h0 (by omega)
      refine ⟨[.own (stZ (s' / N)) p false, .dat (.str signs), .dat (.int (0 + (i : Int))), .own (.lst ((acc ++ [c]).map fun c => D.str [c])) false false], ⟨_, acc ++ [c], _, rfl, by simp; omega, fun y hy => ?_, .inr ⟨_, rfl⟩⟩, fun xs o k => ?_⟩
      · rcases List.mem_append.mp hy with h | h
        · exact hc y h
        · rw [List.mem_singleton.mp h]; exact hcs
      · have w : wipeG [.own (stZ s') p false, .dat (.str signs), x, .own (.lst (acc.map fun c => D.str [c])) false false] [2] = [.own (stZ s') p false, .dat (.str signs), .un, .own (.lst (acc.map fun c => D.str [c])) false false] := rfl
        refine lcL_go (by rcases hx with rfl | ⟨d, rfl⟩ <;> rfl) rfl rfl (el := zIx (zVar 1) (zCallM 0 F (zCons (zVar 0) (zCons (zC (.int N)) zNil)))) (r := .dat (.str [c])) (g3 := [.own (stZ (s' / N)) p false, .dat (.str signs), .dat (.int (0 + (i : Int))), .own (.lst (acc.map fun c => D.str [c])) false false]) ?_ rfl rfl (by rw [List.length_map]; omega) rfl (by rw [List.map_append] at k; exact k)
        apply to_eq
        walk_at "e"
        exact rfl)
  subst hg
  rw [rgD_len] at hl
  exact ⟨s', acc, _, e, rfl, by omega, hc⟩
theorem txs_signs' : ∀ acc : List Nat, txsD (acc.map fun c => D.str [c]) = some (acc.map fun c => [c])
  | [] => rfl
  | c :: r => by simp only [List.map_cons, txsD, txs_signs' r, Option.bind_eq_bind, Option.bind_some]
theorem join_signs' : ∀ acc : List Nat, TL.joinL [] (acc.map fun c => [c]) = acc
  | [] => rfl
  | [c] => rfl
  | c :: d :: r => by
    have := join_signs' (d :: r)
    simp only [List.map_cons, TL.joinL, List.nil_append] at this ⊢
    rw [this]
    rfl
theorem sum_signs' : ∀ acc : List Nat, ((acc.map fun c => [c]).map List.length).sum = acc.length
  | [] => rfl
  | c :: r => by
    have := sum_signs' r
    simp only [List.map_cons, List.sum_cons, List.length_cons, List.length_nil] at this ⊢
    omega
theorem dr_joinS (acc : List Nat) (h : acc.length ≤ 100000) : joinD (.str []) [.lst (acc.map fun c => D.str [c])] = some (.str acc) := by
  have : (100000 : Nat) ≤ sizeLine := by decide
  simp only [joinD, txs_signs', Option.bind_eq_bind, Option.bind_some, sum_signs', join_signs', List.length_nil, Nat.mul_zero, Nat.add_zero]
  rw [if_pos (by omega)]
/-- ''.join([signs[digit(state, N)] for k in range(digit(state, M))]) -/
theorem draw_word {F : Cn → List D → Option (FR × Cn)} (hF : DigitOk F) (signs : List Nat) {N M : Int} (hN : N = signs.length) (h0 : 0 < N) (hz : signs.length ≤ 1000) (hM : 0 < M) (hM2 : M ≤ 1000) (p : Bool) (s : Int) :
    ∃ (s' : Int) (acc : List Nat), zMt "str" joinD (zC (.str [])) (zCons (zLc (ziR1 (zCons (zCallM 0 F (zCons (zVar 0) (zCons (zC (.int M)) zNil))) zNil)) (gN 2) zYes (zIx (zVar 1) (zCallM 0 F (zCons (zVar 0) (zCons (zC (.int N)) zNil)))) [2]) zNil) [.own (stZ s) p false, .dat (.str signs), .un] =
      some (.dat (.str acc), [.own (stZ s') p false, .dat (.str signs), .un, .own (.lst (acc.map fun c => D.str [c])) false false]) ∧ (acc.length : Int) = s % M ∧ ∀ c ∈ acc, c ∈ signs := by
  obtain ⟨m, hm⟩ := Int.eq_ofNat_of_zero_le (Int.emod_nonneg s (show M ≠ 0 by omega))
  have hm2 := Int.emod_lt_of_pos s hM
  have hdg := hF s M hM (by omega)
  obtain ⟨s', acc, g3, e1, e2, e3, e4⟩ := draw_signs hF signs hN h0 hz p (s / M) m (by omega)
  refine ⟨s', acc, ?_, by rw [hm, e3], e4⟩
  have j := dr_joinS acc (by omega)
  have hr : (zCons (zCallM 0 F (zCons (zVar 0) (zCons (zC (.int M)) zNil))) zNil) [.own (stZ s) p false, .dat (.str signs), .un] = some ([.dat (.int (s % M))], [.own (stZ (s / M)) p false, .dat (.str signs), .un]) := by
    apply to_eq
    walk_at "e"
    exact rfl
  have q := er_lc (mi_R1 hr (rgOk_of (by omega) (by omega))) (show lcL (gN 2) zYes (zIx (zVar 1) (zCallM 0 F (zCons (zVar 0) (zCons (zC (.int N)) zNil)))) [2] 3 (rgD 0 (s % M).toNat) [.own (stZ (s / M)) p false, .dat (.str signs), .un, .own (.lst []) false false] = some g3 by rw [hm, Int.toNat_natCast]; exact e1) e2
  have q : zLc (ziR1 (zCons (zCallM 0 F (zCons (zVar 0) (zCons (zC (.int M)) zNil))) zNil)) (gN 2) zYes (zIx (zVar 1) (zCallM 0 F (zCons (zVar 0) (zCons (zC (.int N)) zNil)))) [2] [.own (stZ s) p false, .dat (.str signs), .un] = some (.bor 3, [.own (stZ s') p false, .dat (.str signs), .un, .own (.lst (acc.map fun c => D.str [c])) false false]) := q
  refine er_mt er_C rfl rfl (er_cons q er_nil) rfl rfl ?_ rfl
  exact j
end Z
set_option Elab.async false
set_option linter.all false
set_option maxRecDepth 100000
set_option maxHeartbeats 4000000
namespace Z
open PySem PySem.Spec PyProof.Rows L2
end Z
set_option Elab.async false
set_option linter.all false
set_option maxRecDepth 100000
set_option maxHeartbeats 4000000
namespace Z
open PySem PySem.Spec PyProof.Rows L2
section
open PySem.SeqAt PySem.MeetsSeq PySem.MeetsSeq2 PySem.MeetsSeq3 Ob
open PySem.AutoSeq1 (wpAny_loadPart')
theorem tup_meet (p q : Addr) (us ws : Array Value) (n m : Nat) (c1 c2 : Option Addr) (t1 t2 : Array (Option Value)) (e r : Nat → Bool) :
    Meets (Builtin.«tuple.__lt__» ⟨[.ref p, .ref q], []⟩)
      (fun A R s => s.heap.get? p = some { cls := .type "tuple", dict := c1, data := .seq us n, slots := t1 } ∧ s.heap.get? q = some { cls := .type "tuple", dict := c2, data := .seq ws m, slots := t2 } ∧
        (∀ j (h1 : j < us.size) (h2 : j < ws.size), EqAt A.in1 s us[j] ws[j] (e j)) ∧
        (∀ j (h1 : j < us.size) (h2 : j < ws.size), (∀ i, i < j → e i = true) → e j = false → RcOp .Lt A.in1 s us[j] ws[j] (r j)) ∧
        R (.ok (.ret (.bool (lexAt e r (decide (us.size < ws.size)) 0 (min us.size ws.size))))) s) := by
  refine .of_wp fun prog w A R s hyp => ?_
  obtain ⟨hp, gg, dd, tk, os⟩ := s
  obtain ⟨atp, atq, eqs, lts, goal⟩ := hyp
  have subs := AutoSeq1.sub_tuple_tuple
  have zl : (us.toList.zip ws.toList).length = min us.size ws.size := by simp
  wp_walk using wpAny_loadPart' atp, wpAny_loadPart' atq, wpAny_forIn_list _ (fun left acc st => acc.1 = none ∧ st = ⟨hp, gg, dd, tk, os⟩ ∧ ∃ k, left = (us.toList.zip ws.toList).drop k ∧ (∀ i, i < k → e i = true) ∧
    R (.ok (.ret (.bool (lexAt e r (decide (us.size < ws.size)) k (min us.size ws.size - k))))) ⟨hp, gg, dd, tk, os⟩) _
  case turn =>
    rintro ⟨u1, w1⟩ left acc st ⟨_, rfl, k, hz, before, hR⟩
    have hk : k < (us.toList.zip ws.toList).length := by
      by_cases c : k < (us.toList.zip ws.toList).length
      · exact c
      · rw [List.drop_of_length_le (by omega)] at hz
        cases hz
    have hm : k < min us.size ws.size := zl ▸ hk
    have k1 : k < us.size := by omega
    have k2 : k < ws.size := by omega
    rw [List.drop_eq_getElem_cons hk] at hz
    injection hz with pair others
    have eu : u1 = us[k] := by simpa using congrArg Prod.fst pair
    have ew : w1 = ws[k] := by simpa using congrArg Prod.snd pair
    subst eu ew
    rw [show min us.size ws.size - k = (min us.size ws.size - (k + 1)) + 1 by omega, lexAt_succ] at hR
    refine wpAny_bind (eqs k k1 k2 prog w _ _ ?_)
    cases hek : e k with
    | true =>
      rw [hek, if_pos rfl] at hR
      wp_walk
      refine ⟨rfl, rfl, k + 1, others, fun i hi => ?_, hR⟩
      by_cases c : i = k
      · rw [c]; exact hek
      · exact before i (by omega)
    | false =>
      rw [hek, if_neg Bool.false_ne_true] at hR
      have now := lts k k1 k2 before hek prog w
      wp_walk using now
      exact ⟨_, rfl, by simpa using hR⟩
  case fin =>
    rintro ⟨a1, a2⟩ st ⟨ha, rfl, k, hz, _, hR⟩
    simp only at ha
    subst ha
    have over : min us.size ws.size ≤ k := by
      by_cases c : k < (us.toList.zip ws.toList).length
      · rw [List.drop_eq_getElem_cons c] at hz
        cases hz
      · omega
    rw [Nat.sub_eq_zero_of_le over, lexAt_zero] at hR
    wp_walk
    exact ⟨_, rfl, by simpa [Builtin.Tuple.tupleCompareSizes] using hR⟩
  case h =>
    exact ⟨rfl, rfl, 0, rfl, fun i hi => absurd hi (Nat.not_lt_zero i), by simpa using goal⟩
theorem tup_lt {A : Around} {s : Shared} {p q : Addr} {us ws : Array Value} {e r : Nat → Bool} (atp : s.heap.IsTuple p us) (atq : s.heap.IsTuple q ws) (room : A.units < cLine)
    (eqs : ∀ j (h1 : j < us.size) (h2 : j < ws.size), EqAt A.in1 s us[j] ws[j] (e j))
    (lts : ∀ j (h1 : j < us.size) (h2 : j < ws.size), (∀ i, i < j → e i = true) → e j = false → RcOp .Lt A.in1 s us[j] ws[j] (r j)) :
    RcOp .Lt A s (.ref p) (.ref q) (lexAt e r (decide (us.size < ws.size)) 0 (min us.size ws.size)) := by
  intro prog w E Q h
  obtain ⟨⟨k1, c1, d1, t1⟩, o1, rfl, n, rfl⟩ := id atp
  obtain ⟨⟨k2, c2, d2, t2⟩, o2, rfl, m, rfl⟩ := id atq
  exact richCompare_meets_room (op := .Lt) ⟨_, o1, rfl⟩ ⟨_, o2, rfl⟩ F.slot_tuple_lt F.entry_tuple_lt (F.args_tuple_lt_2 _ _) (tup_meet p q us ws n m c1 c2 t1 t2 e r) ⟨o1, o2, eqs, lts, ⟨nofun, h⟩⟩ room
mutual
def ltP : PyData → PyData → Option Bool
  | .int a, .int b => some (decide (a < b))
  | .str x, .str y => some (decide (x.cps.toList < y.cps.toList))
  | .tuple xs, .tuple ys => ltPs xs ys
  | _, _ => none
def ltPs : List PyData → List PyData → Option Bool
  | [], [] => some false
  | [], _ :: _ => some true
  | _ :: _, [] => some false
  | x :: xs, y :: ys => if PyData.eqv x y = true then ltPs xs ys else ltP x y
end
theorem reads_get {h : Heap} : ∀ {vs : List Value} {ds : List PyData} {as : List Addr}, ReadsAll h vs ds as → ∀ {j : Nat} (h1 : j < vs.length) (h2 : j < ds.length), ∃ bs, Reads h vs[j] ds[j] bs
  | _, _, _, .nil, j, h1, _ => absurd h1 (Nat.not_lt_zero j)
  | _, _, _, .cons r _, 0, _, _ => ⟨_, r⟩
  | _, _, _, .cons _ t, j + 1, h1, h2 => reads_get t (Nat.lt_of_succ_lt_succ h1) (Nat.lt_of_succ_lt_succ h2)
theorem reads_len {h : Heap} : ∀ {vs : List Value} {ds : List PyData} {as : List Addr}, ReadsAll h vs ds as → vs.length = ds.length
  | _, _, _, .nil => rfl
  | _, _, _, .cons _ t => congrArg Nat.succ (reads_len t)
theorem first_ne {b : Bool} : ∀ {xs ys : List PyData} {j : Nat} (h1 : j < xs.length) (h2 : j < ys.length), ltPs xs ys = some b → (∀ i (i1 : i < xs.length) (i2 : i < ys.length), i < j → PyData.eqv xs[i] ys[i] = true) → PyData.eqv xs[j] ys[j] = false → ltP xs[j] ys[j] = some b
  | x :: xs, y :: ys, 0, _, _, h, _, ne => by
    have ne : PyData.eqv x y = false := ne
    simp only [ltPs, ne, Bool.false_eq_true, if_false] at h
    exact h
  | x :: xs, y :: ys, j + 1, h1, h2, h, eqs, ne => by
    have e0 : PyData.eqv x y = true := eqs 0 (by simp) (by simp) (by omega)
    simp only [ltPs, e0, if_true] at h
    exact first_ne (xs := xs) (ys := ys) (j := j) (Nat.lt_of_succ_lt_succ h1) (Nat.lt_of_succ_lt_succ h2) h (fun i i1 i2 hi => eqs (i + 1) (Nat.succ_lt_succ i1) (Nat.succ_lt_succ i2) (by omega)) ne
theorem all_eq : ∀ {xs ys : List PyData}, (∀ i (i1 : i < xs.length) (i2 : i < ys.length), PyData.eqv xs[i] ys[i] = true) → ltPs xs ys = some (decide (xs.length < ys.length))
  | [], [], _ => rfl
  | [], _ :: _, _ => by simp [ltPs]
  | _ :: _, [], _ => by simp [ltPs]
  | x :: xs, y :: ys, eqs => by
    have e0 : PyData.eqv x y = true := eqs 0 (by simp) (by simp)
    have ih := all_eq (xs := xs) (ys := ys) fun i i1 i2 => eqs (i + 1) (Nat.succ_lt_succ i1) (Nat.succ_lt_succ i2)
    simp only [ltPs, e0, if_true, ih]
    simp
theorem lexAt_const {e : Nat → Bool} {z b : Bool} : ∀ (k i : Nat), (z = b ∨ ∃ j, i ≤ j ∧ j < i + k ∧ e j = false) → lexAt e (fun _ => b) z i k = b
  | 0, i, h => by
    rcases h with h | ⟨j, h1, h2, _⟩
    · exact h
    · omega
  | k + 1, i, h => by
    rw [lexAt_succ]
    cases he : e i with
    | false => rfl
    | true =>
      rw [if_pos rfl]
      refine lexAt_const k (i + 1) (h.imp id fun ⟨j, h1, h2, h3⟩ => ⟨j, ?_, by omega, h3⟩)
      have : j ≠ i := fun z => by rw [z, he] at h3; cases h3
      omega
theorem depth_mem {x : PyData} : ∀ {xs : List PyData} {j : Nat} (h : j < xs.length), xs[j].depth ≤ PyData.depthAll xs
  | y :: ys, 0, _ => by show PyData.depth y ≤ max (PyData.depth y) (PyData.depthAll ys); omega
  | y :: ys, j + 1, h => by
    have := depth_mem (x := x) (xs := ys) (j := j) (Nat.lt_of_succ_lt_succ h)
    show (ys[j]'(Nat.lt_of_succ_lt_succ h)).depth ≤ max (PyData.depth y) (PyData.depthAll ys)
    omega
theorem lay_mem : ∀ {xs : List PyData} {j : Nat} (h : j < xs.length), PyData.canLayAll0 xs = true → xs[j].canLay0 = true
  | y :: ys, 0, _, hl => by
    have hl : (PyData.canLay0 y && PyData.canLayAll0 ys) = true := hl
    exact (Bool.and_eq_true_iff.mp hl).1
  | y :: ys, j + 1, h, hl => by
    have hl : (PyData.canLay0 y && PyData.canLayAll0 ys) = true := hl
    exact lay_mem (xs := ys) (Nat.lt_of_succ_lt_succ h) (Bool.and_eq_true_iff.mp hl).2
theorem rc_lt : ∀ (n : Nat) (d e : PyData) (b : Bool) (A : Around) (s : Shared) (u v : Value) (as bs : List Addr), d.depth ≤ n → ltP d e = some b → Reads s.heap u d as → Reads s.heap v e bs → d.canLay0 = true → e.canLay0 = true → A.units + n < cLine → RcOp .Lt A s u v b := by
  intro n
  induction n with
  | zero =>
    intro d e b A s u v as bs hn h ru rv ld le room
    cases ru with
    | int i t =>
      cases rv with
      | int j t' => cases h; exact .lt_int i j t t'
      | _ => cases h
    | str x t =>
      cases rv with
      | str y t' => cases h; exact fun prog w E Q q => PySem.P.lt_str q
      | _ => cases h
    | tuple _ _ _ _ =>
      have hn : PyData.depthAll _ + 1 ≤ 0 := hn
      omega
    | _ => cases rv <;> cases h
  | succ n ih =>
    intro d e b A s u v as bs hn h ru rv ld le room
    cases ru with
    | int i t =>
      cases rv with
      | int j t' => cases h; exact .lt_int i j t t'
      | _ => cases h
    | str x t =>
      cases rv with
      | str y t' => cases h; exact fun prog w E Q q => PySem.P.lt_str q
      | _ => cases h
    | tuple h1 h2 h3 h4 =>
      rename_i p o vs n1 xs
      cases rv with
      | tuple g1 g2 g3 g4 =>
        rename_i q o' ws n2 ys
        have h : ltPs xs ys = some b := h
        have hn : PyData.depthAll xs + 1 ≤ n + 1 := hn
        have ld : PyData.canLayAll0 xs = true := by simpa only [PyData.canLay0] using ld
        have le : PyData.canLayAll0 ys = true := by simpa only [PyData.canLay0] using le
        have lx : vs.size = xs.length := by rw [← reads_len h4, Array.length_toList]
        have ly : ws.size = ys.length := by rw [← reads_len g4, Array.length_toList]
        have tp : s.heap.IsTuple p vs := ⟨o, h1, h2, n1, h3⟩
        have tq : s.heap.IsTuple q ws := ⟨o', g1, g2, n2, g3⟩
        have key := tup_lt (A := A) (s := s) (e := fun j => PyData.eqv (xs[j]?.getD .none) (ys[j]?.getD .none)) (r := fun _ => b) tp tq (by omega) (fun j j1 j2 => by
          have a1 : j < xs.length := by omega
          have a2 : j < ys.length := by omega
          obtain ⟨r1, w1⟩ := reads_get h4 (j := j) (by rw [Array.length_toList]; exact j1) a1
          obtain ⟨r2, w2⟩ := reads_get g4 (j := j) (by rw [Array.length_toList]; exact j2) a2
          have dep := depth_mem (x := .none) a1
          simp only [List.getElem?_eq_getElem a1, List.getElem?_eq_getElem a2, Option.getD_some]
          rw [Array.getElem_toList] at w1 w2
          exact eqAt_reads _ _ _ _ _ _ _ _ w1 w2 (lay_mem a1 ld) (lay_mem a2 le) (by show A.units + 1 + _ < cLine; omega)) (fun j j1 j2 bef ne => by
          have a1 : j < xs.length := by omega
          have a2 : j < ys.length := by omega
          obtain ⟨r1, w1⟩ := reads_get h4 (j := j) (by rw [Array.length_toList]; exact j1) a1
          obtain ⟨r2, w2⟩ := reads_get g4 (j := j) (by rw [Array.length_toList]; exact j2) a2
          have dep := depth_mem (x := .none) a1
          rw [Array.getElem_toList] at w1 w2
          simp only [List.getElem?_eq_getElem a1, List.getElem?_eq_getElem a2, Option.getD_some] at ne
          have lt := first_ne a1 a2 h (fun i i1 i2 hi => by
            have := bef i hi
            simpa only [List.getElem?_eq_getElem i1, List.getElem?_eq_getElem i2, Option.getD_some] using this) ne
          exact ih _ _ b _ _ _ _ _ _ (by omega) lt w1 w2 (lay_mem a1 ld) (lay_mem a2 le) (by show A.units + 1 + n < cLine; omega))
        have val : lexAt (fun j => PyData.eqv (xs[j]?.getD .none) (ys[j]?.getD .none)) (fun _ => b) (decide (vs.size < ws.size)) 0 (min vs.size ws.size) = b := by
          apply lexAt_const
          by_cases c : ∀ i (i1 : i < xs.length) (i2 : i < ys.length), PyData.eqv xs[i] ys[i] = true
          · left
            rw [lx, ly]
            have := all_eq c
            rw [h] at this
            exact (Option.some.inj this).symm
          · right
            simp only [Classical.not_forall] at c
            obtain ⟨i, i1, i2, c⟩ := c
            exact ⟨i, Nat.zero_le _, by omega, by simp only [List.getElem?_eq_getElem i1, List.getElem?_eq_getElem i2, Option.getD_some]; exact Bool.eq_false_iff.mpr c⟩
        rw [val] at key
        exact key
      | _ => cases h
    | _ => cases rv <;> cases h
end
mutual
def ltT : D → D → Option Bool
  | .int a, .int b => some (decide (a < b))
  | .str x, .str y => some (decide (x < y))
  | .tup xs, .tup ys => ltTs xs ys
  | _, _ => none
def ltTs : List D → List D → Option Bool
  | [], [] => some false
  | [], _ :: _ => some true
  | _ :: _, [] => some false
  | x :: xs, y :: ys => if D.eqv x y = true then ltTs xs ys else ltT x y
end
mutual
theorem ltT_py : ∀ d e : D, ∀ b, ltT d e = some b → ltP d.py e.py = some b
  | .int a, .int b, _, h => h
  | .str x, .str y, _, h => h
  | .tup xs, .tup ys, b, h => ltTs_py xs ys b h
  | .int _, .non, _, h | .int _, .bl _, _, h | .int _, .str _, _, h | .int _, .tup _, _, h | .int _, .lst _, _, h | .int _, .raw _, _, h | .int _, .dic _ _, _, h | .int _, .obj _ _ _, _, h => by cases h
  | .str _, .non, _, h | .str _, .bl _, _, h | .str _, .int _, _, h | .str _, .tup _, _, h | .str _, .lst _, _, h | .str _, .raw _, _, h | .str _, .dic _ _, _, h | .str _, .obj _ _ _, _, h => by cases h
  | .tup _, .non, _, h | .tup _, .bl _, _, h | .tup _, .int _, _, h | .tup _, .str _, _, h | .tup _, .lst _, _, h | .tup _, .raw _, _, h | .tup _, .dic _ _, _, h | .tup _, .obj _ _ _, _, h => by cases h
  | .non, _, _, h | .bl _, _, _, h | .lst _, _, _, h | .raw _, _, _, h | .dic _ _, _, _, h | .obj _ _ _, _, _, h => by cases h
theorem ltTs_py : ∀ l m : List D, ∀ b, ltTs l m = some b → ltPs (D.pyA l) (D.pyA m) = some b
  | [], [], _, h => h
  | [], _ :: _, _, h => h
  | _ :: _, [], _, h => h
  | x :: xs, y :: ys, b, h => by
    show (if PyData.eqv x.py y.py = true then ltPs (D.pyA xs) (D.pyA ys) else ltP x.py y.py) = some b
    rw [D.py_eqv]
    simp only [ltTs] at h
    split at h
    · rename_i c; rw [if_pos c]; exact ltTs_py xs ys b h
    · rename_i c; rw [if_neg c]; exact ltT_py x y b h
end
def ltX (d e : D) : Option D := match d, e with
  | .int i, .int j => some (.bl (decide (i < j)))
  | .str i, .str j => some (.bl (decide (i < j)))
  | .tup l, .tup m => if ((D.tup l).shp && (D.tup m).shp) = true then (ltTs l m).map D.bl else none
  | _, _ => none
def rLtD (K : PySem.W.Frag) : R2 := fun x y H Q => ∃ d e b, Dp K H x d ∧ Dp K H y e ∧ SeqAt.shaped d = true ∧ SeqAt.shaped e = true ∧ ltP d e = some b ∧ Q (.bl b) H
theorem op_ltD {X : Cx} (room : X.A.units + 64 < cLine) : OpR X (compareOp .Lt) (rLtD X.K) := by
  intro pins s σ H x y v u Q I rx ry h
  obtain ⟨d, e, b, hd, he, sd, se, lt, q⟩ := h
  obtain ⟨as, r1⟩ := Dp.reads I d x v hd rx
  obtain ⟨bs, r2⟩ := Dp.reads I e y u he ry
  have key := rc_lt 64 d e b X.A s _ _ _ _ (SeqAt.depth_of_shaped sd) lt r1 r2 (SeqAt.canLay_of_shaped sd) (SeqAt.canLay_of_shaped se) room
  exact key X.prog X.w _ _ ⟨.bl _, H, I, rfl, q⟩
theorem o_ltX {X : Cx} {k : Nat} (hr : Room k X.A) : OpR X (compareOp .Lt) (fun x y H Q => rLtU x y H Q ∨ rLtD X.K x y H Q) := OpR.or o_lt (op_ltD hr.units)
theorem s_ltX {K : PySem.W.Frag} : OpS K (fun x y H Q => rLtU x y H Q ∨ rLtD K x y H Q) ltX := by
  intro H x y d e z Q hx hy h q
  unfold ltX at h
  split at h
  · rename_i i j
    exact .inl (s_lt H x y _ _ z Q hx hy (show ltD (.int i) (.int j) = some z from h) q)
  · rename_i i j
    exact .inl (s_lt H x y _ _ z Q hx hy (show ltD (.str i) (.str j) = some z from h) q)
  · rename_i l m
    split at h
    · rename_i c
      rw [Bool.and_eq_true] at c
      rw [Option.map_eq_some_iff] at h
      obtain ⟨b, hb, rfl⟩ := h
      exact .inr ⟨_, _, b, hx.dp (SeqAt.canLay_of_shaped c.1), hy.dp (SeqAt.canLay_of_shaped c.2), c.1, c.2, ltTs_py l m b hb, q⟩
    · cases h
  · cases h
end Z
set_option Elab.async false
set_option linter.all false
set_option maxRecDepth 100000
set_option maxHeartbeats 4000000
namespace Z
open PySem PySem.Spec PyProof.Rows L2
local macro_rules | `(tactic| walk_at "l") => `(tactic| first | (simp only [wipeG_nil, wipeG_cons, List.set_cons_succ, List.set_cons_zero, List.take_succ_cons, List.take_zero, List.take_nil, List.cons_append, List.nil_append, List.length_cons, List.length_nil, List.set_nil, List.getElem?_cons_zero, List.getElem?_cons_succ, Nat.zero_add, Nat.reduceAdd]; first | done | exact rfl) | exact rfl)
local macro_rules | `(tactic| walk_at "d") => `(tactic| first
  | with_reducible assumption
  | (with_reducible apply dr_div) <;> decide
  | (with_reducible apply dr_mod) <;> decide
  | (with_reducible apply dr_mulr); decide
  | (with_reducible apply dr_mull); decide
  | (with_reducible apply dr_divB) <;> omega
  | (with_reducible apply dr_mulrB) <;> omega
  | (with_reducible apply dr_mullB) <;> omega
  | (with_reducible apply dr_mulC) <;> omega
  | (with_reducible apply dr_mod) <;> omega
  | (with_reducible refine isi_of ?_ ?_); (exact rfl); (first | exact kb_int_int | exact kb_int_bool | exact kb_bool_bool | exact kb_bool_int | exact kb_str_int | exact kb_str_bool | exact kb_str_str | exact kb_int_str | exact kb_bool_str | exact kb_non_int | exact kb_non_bool | exact kb_non_str | exact kb_list_list | exact kb_tuple_tuple | exact kb_list_tuple | exact kb_tuple_list)
  | with_reducible exact dr_abs
  | (with_reducible exact dr_neL _ _)
  | (simp only [Cn.d]; with_reducible assumption)
  | (simp only [Cn.d]; with_reducible exact dr_neL _ _)
  | with_reducible exact in_ints _ _
  | (simp only [Cn.d]; with_reducible exact in_ints _ _)
  | ((with_reducible apply dr_cat); (try simp only [List.length_append, List.length_cons, List.length_nil]); omega)
  | with_reducible exact dr_eqI
  | with_reducible exact dr_eqB
  | with_reducible exact dr_neB
  | with_reducible exact dr_eqS
  | with_reducible exact dr_neI
  | with_reducible exact dr_neS
  | exact rfl)
local macro_rules | `(tactic| walk_at "c") => `(tactic| first | with_reducible assumption | (simp only [Cn.d]; with_reducible assumption))
local macro_rules | `(tactic| walk_at "e") => `(tactic| first
  | with_reducible exact er_C
  | with_reducible exact er_nil
  | (with_reducible apply er_varD); exact rfl
  | (with_reducible apply er_varO); exact rfl
  | (with_reducible apply er_varF); exact rfl
  | (with_reducible apply er_op); walk_at "e"; walk_at "e"; exact rfl; exact rfl; walk_at "d"; exact rfl
  | (with_reducible apply er_chain); walk_at "e"; walk_at "e"; exact rfl; exact rfl; walk_at "d"; (intro _h; walk_at "e"); exact rfl; walk_at "d"
  | (with_reducible apply er_slS); walk_at "e"; walk_at "o"; walk_at "o"; exact rfl; walk_at "z"
  | (with_reducible apply er_slL); walk_at "e"; walk_at "o"; walk_at "o"; exact rfl
  | (with_reducible apply er_list); walk_at "e"; exact rfl; exact rfl
  | (with_reducible apply er_tupL); walk_at "e"; exact rfl
  | (with_reducible apply er_un); walk_at "e"; exact rfl; exact rfl; exact rfl
  | (with_reducible apply er_tst); walk_at "e"
  | (with_reducible apply er_tru); walk_at "e"; exact rfl; exact rfl
  | (with_reducible apply er_andT); walk_at "e"; (intro _h; walk_at "e")
  | (with_reducible apply er_orT); walk_at "e"; (intro _h; walk_at "e")
  | (with_reducible apply er_andTT); walk_at "e"; exact rfl; walk_at "e"
  | (with_reducible apply er_orTF); walk_at "e"; exact rfl; walk_at "e"
  | (with_reducible apply er_notT); walk_at "e"
  | (with_reducible apply er_andV); walk_at "e"; (intro _h; walk_at "e")
  | (with_reducible apply er_orV); walk_at "e"; (intro _h; walk_at "e")
  | (with_reducible apply er_notV); walk_at "e"
  | (with_reducible apply er_andVT); walk_at "e"; exact rfl; walk_at "e"
  | (with_reducible apply er_orVF); walk_at "e"; exact rfl; walk_at "e"
  | (with_reducible apply er_ix); walk_at "e"; walk_at "e"; exact rfl; walk_at "x"
  | (with_reducible apply er_callS); walk_at "e"; exact rfl; walk_at "d"; exact rfl
  | (with_reducible apply er_cons); walk_at "e"; walk_at "e"
  | (with_reducible apply er_callG); walk_at "e"; exact rfl; exact rfl; walk_at "c"; exact rfl
  | (with_reducible apply er_callH); walk_at "e"; exact rfl; exact rfl; walk_at "c"; exact rfl
  | (with_reducible apply er_callV); walk_at "e"; exact rfl; walk_at "c"; exact rfl
  | (with_reducible apply er_callGF); walk_at "e"; exact rfl; exact rfl; walk_at "c"; exact rfl
  | (with_reducible apply er_callHF); walk_at "e"; exact rfl; exact rfl; walk_at "c"; exact rfl
  | (with_reducible apply er_callM); walk_at "e"; exact rfl; exact rfl; exact rfl; exact rfl; exact rfl; walk_at "c"; exact rfl
  | (with_reducible apply er_catL); walk_at "e"; walk_at "e"; exact rfl; exact rfl; walk_at "z"
  | (with_reducible apply er_mt); walk_at "e"; exact rfl; exact rfl; walk_at "e"; exact rfl; exact rfl; walk_at "m"; exact rfl
  | (with_reducible apply er_tup); walk_at "e"; exact rfl; walk_at "z" 
  | (with_reducible apply er_lst); walk_at "e"; exact rfl; walk_at "z")
local macro_rules | `(tactic| walk_at "o") => `(tactic| first | exact er_zoN | ((with_reducible apply er_zoS); walk_at "e"))
local macro_rules | `(tactic| walk_at "x") => `(tactic| first | with_reducible assumption | (simp only [Cn.d]; with_reducible assumption) | exact rfl)
local macro_rules | `(tactic| walk_at "m") => `(tactic| first | with_reducible assumption | (simp only [Cn.d]; with_reducible assumption) | exact rfl)
local macro_rules | `(tactic| walk_at "st") => `(tactic| first
  | ((with_reducible apply set_dat); (walk_at "e"); (exact rfl); walk_at "l")
  | ((with_reducible apply set_own); (walk_at "e"); (exact Nat.le_of_ble_eq_true rfl); (exact rfl); (exact rfl); walk_at "l")
  | ((with_reducible apply asg_run); (walk_at "e"); (exact rfl); walk_at "l")
  | ((with_reducible apply aug_run); (exact rfl); (exact rfl); (walk_at "e"); (exact rfl); (walk_at "d"); (exact rfl); (exact rfl); walk_at "l")
  | ((with_reducible apply sto_run); (walk_at "e"); (walk_at "e"); (walk_at "e"); (exact rfl); (walk_at "x"); walk_at "l")
  | ((with_reducible apply app_run); (walk_at "e"); (exact rfl); (walk_at "e"); (exact rfl); (exact rfl); (walk_at "z"); walk_at "l"))
local macro_rules | `(tactic| walk_at "z") => `(tactic| first | assumption | exact Nat.le_of_ble_eq_true rfl | (simp; omega))
local macro_rules | `(tactic| walk_at "s") => `(tactic| first
  | with_reducible apply sr_nx
  | with_reducible apply sr_assoc
  | with_reducible apply ap_fg
  | ((with_reducible apply fgK_nx); (exact rfl); (walk_at "l"); skip)
  | ((with_reducible apply fgK_ct); (exact rfl); (walk_at "l"); skip)
  | ((with_reducible apply fgK_bk); (exact rfl); (walk_at "l"); skip)
  | with_reducible apply fgK_ret
  | with_reducible apply sr_bk1
  | with_reducible apply sr_ct1
  | with_reducible apply sr_nx1
  | with_reducible apply sr_ct
  | with_reducible apply sr_bk
  | (with_reducible apply sr_retS); (walk_at "e"); skip
  | (with_reducible apply sr_ret); (walk_at "e"); skip
  | (with_reducible apply sr_if); (walk_at "e"); (walk_at "l")
  | (with_reducible apply sr_if1); (walk_at "e"); (walk_at "l")
  | (with_reducible apply seq_nx); (walk_at "st")
  | (with_reducible apply one_nx); (walk_at "st"))
local macro_rules | `(tactic| walk_at "r") => `(tactic| repeat' (first | (intro _) | walk_at "s"))
local macro_rules | `(tactic| walk_at "k") => `(tactic| (intro q; (try simp only [decide_eq_true_eq, decide_eq_false_iff_not, beq_iff_eq, beq_eq_false_iff_ne, ne_eq, Bool.not_eq_true', Bool.not_eq_false', Bool.and_eq_true, Bool.or_eq_true, Bool.and_eq_false_iff, Bool.or_eq_false_iff, Int.not_lt, Int.not_le, List.cons.injEq, and_true, reduceCtorEq, beq_self_eq_true, Bool.not_true, Bool.not_false, Bool.or_false, Bool.false_or, Bool.or_true, Bool.true_or, Bool.and_false, Bool.false_and, Bool.and_true, Bool.true_and, not_true_eq_false, Bool.false_eq_true] at q) <;> (try (exfalso; first | (cases q; done) | omega | contradiction))))
local macro_rules | `(tactic| walk_at "w") => `(tactic| repeat' (first | (walk_at "k") | walk_at "s"))
def kd : D → Nat
  | .non => 0
  | .bl _ => 1
  | .int _ => 2
  | _ => 3
def kx : D → D
  | .non => .int 0
  | .bl b => .int (if b then 1 else 0)
  | d => d
end Z
set_option Elab.async false
set_option linter.all false
set_option maxRecDepth 100000
set_option maxHeartbeats 4000000
namespace Z
open PySem PySem.Spec PyProof.Rows L2
end Z
set_option Elab.async false
set_option linter.all false
set_option maxRecDepth 100000
set_option maxHeartbeats 4000000
namespace Z
open PySem PySem.Spec PyProof.Rows L2
local macro_rules | `(tactic| walk_at "l") => `(tactic| first | (simp only [wipeG_nil, wipeG_cons, List.set_cons_succ, List.set_cons_zero, List.take_succ_cons, List.take_zero, List.take_nil, List.cons_append, List.nil_append, List.length_cons, List.length_nil, List.set_nil, List.getElem?_cons_zero, List.getElem?_cons_succ, Nat.zero_add, Nat.reduceAdd]; first | done | exact rfl) | exact rfl)
local macro_rules | `(tactic| walk_at "d") => `(tactic| first
  | with_reducible assumption
  | (with_reducible apply dr_div) <;> decide
  | (with_reducible apply dr_mod) <;> decide
  | (with_reducible apply dr_mulr); decide
  | (with_reducible apply dr_mull); decide
  | (with_reducible apply dr_divB) <;> omega
  | (with_reducible apply dr_mulrB) <;> omega
  | (with_reducible apply dr_mullB) <;> omega
  | (with_reducible apply dr_mulC) <;> omega
  | (with_reducible apply dr_mod) <;> omega
  | (with_reducible refine isi_of ?_ ?_); (exact rfl); (first | exact kb_int_int | exact kb_int_bool | exact kb_bool_bool | exact kb_bool_int | exact kb_str_int | exact kb_str_bool | exact kb_str_str | exact kb_int_str | exact kb_bool_str | exact kb_non_int | exact kb_non_bool | exact kb_non_str | exact kb_list_list | exact kb_tuple_tuple | exact kb_list_tuple | exact kb_tuple_list)
  | with_reducible exact dr_abs
  | (with_reducible exact dr_neL _ _)
  | (simp only [Cn.d]; with_reducible assumption)
  | (simp only [Cn.d]; with_reducible exact dr_neL _ _)
  | with_reducible exact in_ints _ _
  | (simp only [Cn.d]; with_reducible exact in_ints _ _)
  | ((with_reducible apply dr_cat); (try simp only [List.length_append, List.length_cons, List.length_nil]); omega)
  | with_reducible exact dr_eqI
  | with_reducible exact dr_eqB
  | with_reducible exact dr_neB
  | with_reducible exact dr_eqS
  | with_reducible exact dr_neI
  | with_reducible exact dr_neS
  | exact rfl)
local macro_rules | `(tactic| walk_at "c") => `(tactic| first | with_reducible assumption | (simp only [Cn.d]; with_reducible assumption))
local macro_rules | `(tactic| walk_at "e") => `(tactic| first
  | with_reducible exact er_C
  | with_reducible exact er_nil
  | (with_reducible apply er_varD); exact rfl
  | (with_reducible apply er_varO); exact rfl
  | (with_reducible apply er_varF); exact rfl
  | (with_reducible apply er_op); walk_at "e"; walk_at "e"; exact rfl; exact rfl; walk_at "d"; exact rfl
  | (with_reducible apply er_chain); walk_at "e"; walk_at "e"; exact rfl; exact rfl; walk_at "d"; (intro _h; walk_at "e"); exact rfl; walk_at "d"
  | (with_reducible apply er_slS); walk_at "e"; walk_at "o"; walk_at "o"; exact rfl; walk_at "z"
  | (with_reducible apply er_slL); walk_at "e"; walk_at "o"; walk_at "o"; exact rfl
  | (with_reducible apply er_list); walk_at "e"; exact rfl; exact rfl
  | (with_reducible apply er_tupL); walk_at "e"; exact rfl
  | (with_reducible apply er_un); walk_at "e"; exact rfl; exact rfl; exact rfl
  | (with_reducible apply er_tst); walk_at "e"
  | (with_reducible apply er_tru); walk_at "e"; exact rfl; exact rfl
  | (with_reducible apply er_andT); walk_at "e"; (intro _h; walk_at "e")
  | (with_reducible apply er_orT); walk_at "e"; (intro _h; walk_at "e")
  | (with_reducible apply er_andTT); walk_at "e"; exact rfl; walk_at "e"
  | (with_reducible apply er_orTF); walk_at "e"; exact rfl; walk_at "e"
  | (with_reducible apply er_notT); walk_at "e"
  | (with_reducible apply er_andV); walk_at "e"; (intro _h; walk_at "e")
  | (with_reducible apply er_orV); walk_at "e"; (intro _h; walk_at "e")
  | (with_reducible apply er_notV); walk_at "e"
  | (with_reducible apply er_andVT); walk_at "e"; exact rfl; walk_at "e"
  | (with_reducible apply er_orVF); walk_at "e"; exact rfl; walk_at "e"
  | (with_reducible apply er_ix); walk_at "e"; walk_at "e"; exact rfl; walk_at "x"
  | (with_reducible apply er_callS); walk_at "e"; exact rfl; walk_at "d"; exact rfl
  | (with_reducible apply er_cons); walk_at "e"; walk_at "e"
  | (with_reducible apply er_callG); walk_at "e"; exact rfl; exact rfl; walk_at "c"; exact rfl
  | (with_reducible apply er_callH); walk_at "e"; exact rfl; exact rfl; walk_at "c"; exact rfl
  | (with_reducible apply er_callV); walk_at "e"; exact rfl; walk_at "c"; exact rfl
  | (with_reducible apply er_callGF); walk_at "e"; exact rfl; exact rfl; walk_at "c"; exact rfl
  | (with_reducible apply er_callHF); walk_at "e"; exact rfl; exact rfl; walk_at "c"; exact rfl
  | (with_reducible apply er_callM); walk_at "e"; exact rfl; exact rfl; exact rfl; exact rfl; exact rfl; walk_at "c"; exact rfl
  | (with_reducible apply er_catL); walk_at "e"; walk_at "e"; exact rfl; exact rfl; walk_at "z"
  | (with_reducible apply er_mt); walk_at "e"; exact rfl; exact rfl; walk_at "e"; exact rfl; exact rfl; walk_at "m"; exact rfl
  | (with_reducible apply er_tup); walk_at "e"; exact rfl; walk_at "z" 
  | (with_reducible apply er_lst); walk_at "e"; exact rfl; walk_at "z")
local macro_rules | `(tactic| walk_at "o") => `(tactic| first | exact er_zoN | ((with_reducible apply er_zoS); walk_at "e"))
local macro_rules | `(tactic| walk_at "x") => `(tactic| first | with_reducible assumption | (simp only [Cn.d]; with_reducible assumption) | exact rfl)
local macro_rules | `(tactic| walk_at "m") => `(tactic| first | with_reducible assumption | (simp only [Cn.d]; with_reducible assumption) | exact rfl)
local macro_rules | `(tactic| walk_at "st") => `(tactic| first
  | ((with_reducible apply set_dat); (walk_at "e"); (exact rfl); walk_at "l")
  | ((with_reducible apply set_own); (walk_at "e"); (exact Nat.le_of_ble_eq_true rfl); (exact rfl); (exact rfl); walk_at "l")
  | ((with_reducible apply asg_run); (walk_at "e"); (exact rfl); walk_at "l")
  | ((with_reducible apply aug_run); (exact rfl); (exact rfl); (walk_at "e"); (exact rfl); (walk_at "d"); (exact rfl); (exact rfl); walk_at "l")
  | ((with_reducible apply sto_run); (walk_at "e"); (walk_at "e"); (walk_at "e"); (exact rfl); (walk_at "x"); walk_at "l")
  | ((with_reducible apply app_run); (walk_at "e"); (exact rfl); (walk_at "e"); (exact rfl); (exact rfl); (walk_at "z"); walk_at "l"))
local macro_rules | `(tactic| walk_at "z") => `(tactic| first | assumption | exact Nat.le_of_ble_eq_true rfl | (simp; omega))
local macro_rules | `(tactic| walk_at "s") => `(tactic| first
  | with_reducible apply sr_nx
  | with_reducible apply sr_assoc
  | with_reducible apply ap_fg
  | ((with_reducible apply fgK_nx); (exact rfl); (walk_at "l"); skip)
  | ((with_reducible apply fgK_ct); (exact rfl); (walk_at "l"); skip)
  | ((with_reducible apply fgK_bk); (exact rfl); (walk_at "l"); skip)
  | with_reducible apply fgK_ret
  | with_reducible apply sr_bk1
  | with_reducible apply sr_ct1
  | with_reducible apply sr_nx1
  | with_reducible apply sr_ct
  | with_reducible apply sr_bk
  | (with_reducible apply sr_retS); (walk_at "e"); skip
  | (with_reducible apply sr_ret); (walk_at "e"); skip
  | (with_reducible apply sr_if); (walk_at "e"); (walk_at "l")
  | (with_reducible apply sr_if1); (walk_at "e"); (walk_at "l")
  | (with_reducible apply seq_nx); (walk_at "st")
  | (with_reducible apply one_nx); (walk_at "st"))
local macro_rules | `(tactic| walk_at "r") => `(tactic| repeat' (first | (intro _) | walk_at "s"))
local macro_rules | `(tactic| walk_at "k") => `(tactic| (intro q; (try simp only [decide_eq_true_eq, decide_eq_false_iff_not, beq_iff_eq, beq_eq_false_iff_ne, ne_eq, Bool.not_eq_true', Bool.not_eq_false', Bool.and_eq_true, Bool.or_eq_true, Bool.and_eq_false_iff, Bool.or_eq_false_iff, Int.not_lt, Int.not_le, List.cons.injEq, and_true, reduceCtorEq, beq_self_eq_true, Bool.not_true, Bool.not_false, Bool.or_false, Bool.false_or, Bool.or_true, Bool.true_or, Bool.and_false, Bool.false_and, Bool.and_true, Bool.true_and, not_true_eq_false, Bool.false_eq_true] at q) <;> (try (exfalso; first | (cases q; done) | omega | contradiction))))
local macro_rules | `(tactic| walk_at "w") => `(tactic| repeat' (first | (walk_at "k") | walk_at "s"))
end Z
set_option Elab.async false
set_option linter.all false
set_option maxRecDepth 100000
set_option maxHeartbeats 4000000
namespace Z
open PySem PySem.Spec PyProof.Rows L2
end Z
set_option Elab.async false
set_option linter.all false
set_option maxRecDepth 100000
set_option maxHeartbeats 4000000
namespace Z
open PySem PySem.Spec PyProof.Rows L2
end Z
set_option Elab.async false
set_option linter.all false
set_option maxRecDepth 100000
set_option maxHeartbeats 4000000
namespace Z
open PySem PySem.Spec PyProof.Rows L2
local macro_rules | `(tactic| walk_at "l") => `(tactic| first | (simp only [wipeG_nil, wipeG_cons, List.set_cons_succ, List.set_cons_zero, List.take_succ_cons, List.take_zero, List.take_nil, List.cons_append, List.nil_append, List.length_cons, List.length_nil, List.set_nil, List.getElem?_cons_zero, List.getElem?_cons_succ, Nat.zero_add, Nat.reduceAdd]; first | done | exact rfl) | exact rfl)
local macro_rules | `(tactic| walk_at "d") => `(tactic| first
  | with_reducible assumption
  | (with_reducible apply dr_div) <;> decide
  | (with_reducible apply dr_mod) <;> decide
  | (with_reducible apply dr_mulr); decide
  | (with_reducible apply dr_mull); decide
  | (with_reducible apply dr_divB) <;> omega
  | (with_reducible apply dr_mulrB) <;> omega
  | (with_reducible apply dr_mullB) <;> omega
  | (with_reducible apply dr_mulC) <;> omega
  | (with_reducible apply dr_mod) <;> omega
  | (with_reducible refine isi_of ?_ ?_); (exact rfl); (first | exact kb_int_int | exact kb_int_bool | exact kb_bool_bool | exact kb_bool_int | exact kb_str_int | exact kb_str_bool | exact kb_str_str | exact kb_int_str | exact kb_bool_str | exact kb_non_int | exact kb_non_bool | exact kb_non_str | exact kb_list_list | exact kb_tuple_tuple | exact kb_list_tuple | exact kb_tuple_list)
  | with_reducible exact dr_abs
  | (with_reducible exact dr_neL _ _)
  | (simp only [Cn.d]; with_reducible assumption)
  | (simp only [Cn.d]; with_reducible exact dr_neL _ _)
  | with_reducible exact in_ints _ _
  | (simp only [Cn.d]; with_reducible exact in_ints _ _)
  | ((with_reducible apply dr_cat); (try simp only [List.length_append, List.length_cons, List.length_nil]); omega)
  | with_reducible exact dr_eqI
  | with_reducible exact dr_eqB
  | with_reducible exact dr_neB
  | with_reducible exact dr_eqS
  | with_reducible exact dr_neI
  | with_reducible exact dr_neS
  | exact rfl)
local macro_rules | `(tactic| walk_at "c") => `(tactic| first | with_reducible assumption | (simp only [Cn.d]; with_reducible assumption))
local macro_rules | `(tactic| walk_at "e") => `(tactic| first
  | with_reducible exact er_C
  | with_reducible exact er_nil
  | (with_reducible apply er_varD); exact rfl
  | (with_reducible apply er_varO); exact rfl
  | (with_reducible apply er_varF); exact rfl
  | (with_reducible apply er_op); walk_at "e"; walk_at "e"; exact rfl; exact rfl; walk_at "d"; exact rfl
  | (with_reducible apply er_chain); walk_at "e"; walk_at "e"; exact rfl; exact rfl; walk_at "d"; (intro _h; walk_at "e"); exact rfl; walk_at "d"
  | (with_reducible apply er_slS); walk_at "e"; walk_at "o"; walk_at "o"; exact rfl; walk_at "z"
  | (with_reducible apply er_slL); walk_at "e"; walk_at "o"; walk_at "o"; exact rfl
  | (with_reducible apply er_list); walk_at "e"; exact rfl; exact rfl
  | (with_reducible apply er_tupL); walk_at "e"; exact rfl
  | (with_reducible apply er_un); walk_at "e"; exact rfl; exact rfl; exact rfl
  | (with_reducible apply er_tst); walk_at "e"
  | (with_reducible apply er_tru); walk_at "e"; exact rfl; exact rfl
  | (with_reducible apply er_andT); walk_at "e"; (intro _h; walk_at "e")
  | (with_reducible apply er_orT); walk_at "e"; (intro _h; walk_at "e")
  | (with_reducible apply er_andTT); walk_at "e"; exact rfl; walk_at "e"
  | (with_reducible apply er_orTF); walk_at "e"; exact rfl; walk_at "e"
  | (with_reducible apply er_notT); walk_at "e"
  | (with_reducible apply er_andV); walk_at "e"; (intro _h; walk_at "e")
  | (with_reducible apply er_orV); walk_at "e"; (intro _h; walk_at "e")
  | (with_reducible apply er_notV); walk_at "e"
  | (with_reducible apply er_andVT); walk_at "e"; exact rfl; walk_at "e"
  | (with_reducible apply er_orVF); walk_at "e"; exact rfl; walk_at "e"
  | (with_reducible apply er_ix); walk_at "e"; walk_at "e"; exact rfl; walk_at "x"
  | (with_reducible apply er_callS); walk_at "e"; exact rfl; walk_at "d"; exact rfl
  | (with_reducible apply er_cons); walk_at "e"; walk_at "e"
  | (with_reducible apply er_callG); walk_at "e"; exact rfl; exact rfl; walk_at "c"; exact rfl
  | (with_reducible apply er_callH); walk_at "e"; exact rfl; exact rfl; walk_at "c"; exact rfl
  | (with_reducible apply er_callV); walk_at "e"; exact rfl; walk_at "c"; exact rfl
  | (with_reducible apply er_callGF); walk_at "e"; exact rfl; exact rfl; walk_at "c"; exact rfl
  | (with_reducible apply er_callHF); walk_at "e"; exact rfl; exact rfl; walk_at "c"; exact rfl
  | (with_reducible apply er_callM); walk_at "e"; exact rfl; exact rfl; exact rfl; exact rfl; exact rfl; walk_at "c"; exact rfl
  | (with_reducible apply er_catL); walk_at "e"; walk_at "e"; exact rfl; exact rfl; walk_at "z"
  | (with_reducible apply er_mt); walk_at "e"; exact rfl; exact rfl; walk_at "e"; exact rfl; exact rfl; walk_at "m"; exact rfl
  | (with_reducible apply er_tup); walk_at "e"; exact rfl; walk_at "z" 
  | (with_reducible apply er_lst); walk_at "e"; exact rfl; walk_at "z")
local macro_rules | `(tactic| walk_at "o") => `(tactic| first | exact er_zoN | ((with_reducible apply er_zoS); walk_at "e"))
local macro_rules | `(tactic| walk_at "x") => `(tactic| first | with_reducible assumption | (simp only [Cn.d]; with_reducible assumption) | exact rfl)
local macro_rules | `(tactic| walk_at "m") => `(tactic| first | with_reducible assumption | (simp only [Cn.d]; with_reducible assumption) | exact rfl)
local macro_rules | `(tactic| walk_at "st") => `(tactic| first
  | ((with_reducible apply set_dat); (walk_at "e"); (exact rfl); walk_at "l")
  | ((with_reducible apply set_own); (walk_at "e"); (exact Nat.le_of_ble_eq_true rfl); (exact rfl); (exact rfl); walk_at "l")
  | ((with_reducible apply asg_run); (walk_at "e"); (exact rfl); walk_at "l")
  | ((with_reducible apply aug_run); (exact rfl); (exact rfl); (walk_at "e"); (exact rfl); (walk_at "d"); (exact rfl); (exact rfl); walk_at "l")
  | ((with_reducible apply sto_run); (walk_at "e"); (walk_at "e"); (walk_at "e"); (exact rfl); (walk_at "x"); walk_at "l")
  | ((with_reducible apply app_run); (walk_at "e"); (exact rfl); (walk_at "e"); (exact rfl); (exact rfl); (walk_at "z"); walk_at "l"))
local macro_rules | `(tactic| walk_at "z") => `(tactic| first | assumption | exact Nat.le_of_ble_eq_true rfl | (simp; omega))
local macro_rules | `(tactic| walk_at "s") => `(tactic| first
  | with_reducible apply sr_nx
  | with_reducible apply sr_assoc
  | with_reducible apply ap_fg
  | ((with_reducible apply fgK_nx); (exact rfl); (walk_at "l"); skip)
  | ((with_reducible apply fgK_ct); (exact rfl); (walk_at "l"); skip)
  | ((with_reducible apply fgK_bk); (exact rfl); (walk_at "l"); skip)
  | with_reducible apply fgK_ret
  | with_reducible apply sr_bk1
  | with_reducible apply sr_ct1
  | with_reducible apply sr_nx1
  | with_reducible apply sr_ct
  | with_reducible apply sr_bk
  | (with_reducible apply sr_retS); (walk_at "e"); skip
  | (with_reducible apply sr_ret); (walk_at "e"); skip
  | (with_reducible apply sr_if); (walk_at "e"); (walk_at "l")
  | (with_reducible apply sr_if1); (walk_at "e"); (walk_at "l")
  | (with_reducible apply seq_nx); (walk_at "st")
  | (with_reducible apply one_nx); (walk_at "st"))
local macro_rules | `(tactic| walk_at "r") => `(tactic| repeat' (first | (intro _) | walk_at "s"))
local macro_rules | `(tactic| walk_at "k") => `(tactic| (intro q; (try simp only [decide_eq_true_eq, decide_eq_false_iff_not, beq_iff_eq, beq_eq_false_iff_ne, ne_eq, Bool.not_eq_true', Bool.not_eq_false', Bool.and_eq_true, Bool.or_eq_true, Bool.and_eq_false_iff, Bool.or_eq_false_iff, Int.not_lt, Int.not_le, List.cons.injEq, and_true, reduceCtorEq, beq_self_eq_true, Bool.not_true, Bool.not_false, Bool.or_false, Bool.false_or, Bool.or_true, Bool.true_or, Bool.and_false, Bool.false_and, Bool.and_true, Bool.true_and, not_true_eq_false, Bool.false_eq_true] at q) <;> (try (exfalso; first | (cases q; done) | omega | contradiction))))
local macro_rules | `(tactic| walk_at "w") => `(tactic| repeat' (first | (walk_at "k") | walk_at "s"))
end Z
set_option Elab.async false
set_option linter.all false
set_option maxRecDepth 100000
set_option maxHeartbeats 4000000
namespace Z
open PySem PySem.Spec PyProof.Rows L2
end Z
set_option Elab.async false
set_option linter.all false
set_option maxRecDepth 100000
set_option maxHeartbeats 4000000
namespace Z
open PySem PySem.Spec PyProof.Rows L2
abbrev Tab := List (List Nat × (List D → Option FR))
def look : Tab → List Nat → Option (List D → Option FR)
  | [], _ => none
  | (k, F) :: t, s => if k = s then some F else look t s
def inE (es : Array DictEntry) (s : Str) : Option Value := findBy (fun k v => v.isStr k) es s
section
variable (P : Program) (w : World) (K : PySem.W.Frag) (mg : Str → Option Value) (base : Heap)
def FnAt (k : Nat) (f : Addr) (sp : Sp) : Prop := ∃ (fd : FuncData) (ps : List Str), PySem.W.keepIn K (.ref f) = true ∧ Binds K fd ps [] ∧ FnOk P w K mg base CX0 k f fd ps sp
def TabIn (k : Nat) (es : Array DictEntry) (tab : Tab) : Prop := ∀ s F, look tab s = some F → ∃ f, inE es ⟨s.toArray⟩ = some (.ref f) ∧ FnAt P w K mg base k f (spP K F)
def TabOk (k : Nat) (x : Str) (tab : Tab) : Prop := ∃ (a : Addr) (es : Array DictEntry) (ep : Nat) (sl : Array (Option Value)),
  mg x = some (.ref a) ∧ K.lookup a = some ⟨.type "dict", none, .dict es ep, sl⟩ ∧ (es.all fun e => isExactStrKey e.key) = true ∧ TabIn P w K mg base k es tab
end
section
variable {P : Program} {w : World} {K : PySem.W.Frag} {mg : Str → Option Value} {base : Heap}
theorem FnAt.mono {j k : Nat} {f : Addr} {sp : Sp} (h : FnAt P w K mg base j f sp) (le : j ≤ k) : FnAt P w K mg base k f sp :=
  let ⟨fd, ps, a, b, c⟩ := h
  ⟨fd, ps, a, b, c.mono le⟩
theorem Cal.at {k : Nat} {x : Str} {sp : Sp} {f : Addr} (c : Cal P w K mg base k x sp) (hm : mg x = some (.ref f)) : FnAt P w K mg base k f sp := by
  obtain ⟨g, fd, ps, h1, h2, h3, h4⟩ := c
  rw [h1] at hm
  cases hm
  exact ⟨fd, ps, h2, h3, h4⟩
end
section
variable {X : Cx}
/-- a local name that holds a def, called -/
theorem pe_cf {i j : Nat} {x : Str} {e : Expr} {es : List Expr} {t : TA} {p pos : Pos} (hr : Room j X.A) (hN : X.N[i]? = some x) (hv : Vis X.env.scope x) (ha : PA X (e :: es) t)
    (hd : (x == ("__debug__" : Str)) = false := by decide) (hcd : (x == ("__classdict__" : Str)) = false := by decide)
    (he : starEach (e :: es) X.env = (false, eval e X.env) :: starEach es X.env := by rfl) (hpl : (backTo pos (starEach es X.env)).any (·.1) = false := by rfl) :
    PE X (.Call (.Name x p) (e :: es) [] pos) (fun σ H Q => ∃ f sp, σ[i]? = some (some (.ref f)) ∧ FnAt X.prog X.w X.K X.mg X.base j f sp ∧ t σ H fun vs H1 => sp vs H1 Q E0) := by
  refine ⟨fun pins s σ H Q I ⟨f, sp, hσ, ⟨fd, ps, kp, b, F⟩, ht⟩ => ?_⟩
  refine wpAny_Call_Name_kw (thn ((pe_var (pos := p) hN hv hd hcd).run pins s σ H (fun v H1 => v = .ref f ∧ H1 = H) I ⟨.ref f, hσ, rfl, rfl⟩) fun u s1 ⟨v, H1, I1, r1, q1⟩ => ?_)
  obtain ⟨e1, e2⟩ := q1
  subst e1 e2
  cases r1
  refine PySem.W.callWith_K (h₀ := X.base) I.ok.mod.kin kp (thn (ha.run pos pins s1 σ _ _ I1 ht) fun us s2 ⟨vs, H2, I2, r, q⟩ => ⟨I2.kIn, ?_⟩) he hpl
  exact run_fn F hr b .nil pass0 I2 r (by rw [List.append_nil]; exact q)
end
end Z
set_option Elab.async false
set_option linter.all false
set_option maxRecDepth 100000
set_option maxHeartbeats 4000000
namespace Z
open PySem PySem.Spec PyProof.Rows L2
end Z
set_option Elab.async false
set_option linter.all false
set_option maxRecDepth 100000
set_option maxHeartbeats 4000000
namespace Z
open PySem PySem.Spec PyProof.Rows L2
end Z
set_option Elab.async false
set_option linter.all false
set_option maxRecDepth 100000
set_option maxHeartbeats 4000000
namespace Z
open PySem PySem.Spec PyProof.Rows L2
local macro_rules | `(tactic| walk_at "l") => `(tactic| first | (simp only [wipeG_nil, wipeG_cons, List.set_cons_succ, List.set_cons_zero, List.take_succ_cons, List.take_zero, List.take_nil, List.cons_append, List.nil_append, List.length_cons, List.length_nil, List.set_nil, List.getElem?_cons_zero, List.getElem?_cons_succ, Nat.zero_add, Nat.reduceAdd]; first | done | exact rfl) | exact rfl)
local macro_rules | `(tactic| walk_at "d") => `(tactic| first
  | with_reducible assumption
  | (with_reducible apply dr_div) <;> decide
  | (with_reducible apply dr_mod) <;> decide
  | (with_reducible apply dr_mulr); decide
  | (with_reducible apply dr_mull); decide
  | (with_reducible apply dr_divB) <;> omega
  | (with_reducible apply dr_mulrB) <;> omega
  | (with_reducible apply dr_mullB) <;> omega
  | (with_reducible apply dr_mulC) <;> omega
  | (with_reducible apply dr_mod) <;> omega
  | (with_reducible refine isi_of ?_ ?_); (exact rfl); (first | exact kb_int_int | exact kb_int_bool | exact kb_bool_bool | exact kb_bool_int | exact kb_str_int | exact kb_str_bool | exact kb_str_str | exact kb_int_str | exact kb_bool_str | exact kb_non_int | exact kb_non_bool | exact kb_non_str | exact kb_list_list | exact kb_tuple_tuple | exact kb_list_tuple | exact kb_tuple_list)
  | with_reducible exact dr_abs
  | (with_reducible exact dr_neL _ _)
  | (simp only [Cn.d]; with_reducible assumption)
  | (simp only [Cn.d]; with_reducible exact dr_neL _ _)
  | with_reducible exact in_ints _ _
  | (simp only [Cn.d]; with_reducible exact in_ints _ _)
  | ((with_reducible apply dr_cat); (try simp only [List.length_append, List.length_cons, List.length_nil]); omega)
  | with_reducible exact dr_eqI
  | with_reducible exact dr_eqB
  | with_reducible exact dr_neB
  | with_reducible exact dr_eqS
  | with_reducible exact dr_neI
  | with_reducible exact dr_neS
  | exact rfl)
local macro_rules | `(tactic| walk_at "c") => `(tactic| first | with_reducible assumption | (simp only [Cn.d]; with_reducible assumption))
local macro_rules | `(tactic| walk_at "e") => `(tactic| first
  | with_reducible exact er_C
  | with_reducible exact er_nil
  | (with_reducible apply er_varD); exact rfl
  | (with_reducible apply er_varO); exact rfl
  | (with_reducible apply er_varF); exact rfl
  | (with_reducible apply er_op); walk_at "e"; walk_at "e"; exact rfl; exact rfl; walk_at "d"; exact rfl
  | (with_reducible apply er_chain); walk_at "e"; walk_at "e"; exact rfl; exact rfl; walk_at "d"; (intro _h; walk_at "e"); exact rfl; walk_at "d"
  | (with_reducible apply er_slS); walk_at "e"; walk_at "o"; walk_at "o"; exact rfl; walk_at "z"
  | (with_reducible apply er_slL); walk_at "e"; walk_at "o"; walk_at "o"; exact rfl
  | (with_reducible apply er_list); walk_at "e"; exact rfl; exact rfl
  | (with_reducible apply er_tupL); walk_at "e"; exact rfl
  | (with_reducible apply er_un); walk_at "e"; exact rfl; exact rfl; exact rfl
  | (with_reducible apply er_tst); walk_at "e"
  | (with_reducible apply er_tru); walk_at "e"; exact rfl; exact rfl
  | (with_reducible apply er_andT); walk_at "e"; (intro _h; walk_at "e")
  | (with_reducible apply er_orT); walk_at "e"; (intro _h; walk_at "e")
  | (with_reducible apply er_andTT); walk_at "e"; exact rfl; walk_at "e"
  | (with_reducible apply er_orTF); walk_at "e"; exact rfl; walk_at "e"
  | (with_reducible apply er_notT); walk_at "e"
  | (with_reducible apply er_andV); walk_at "e"; (intro _h; walk_at "e")
  | (with_reducible apply er_orV); walk_at "e"; (intro _h; walk_at "e")
  | (with_reducible apply er_notV); walk_at "e"
  | (with_reducible apply er_andVT); walk_at "e"; exact rfl; walk_at "e"
  | (with_reducible apply er_orVF); walk_at "e"; exact rfl; walk_at "e"
  | (with_reducible apply er_ix); walk_at "e"; walk_at "e"; exact rfl; walk_at "x"
  | (with_reducible apply er_callS); walk_at "e"; exact rfl; walk_at "d"; exact rfl
  | (with_reducible apply er_cons); walk_at "e"; walk_at "e"
  | (with_reducible apply er_callG); walk_at "e"; exact rfl; exact rfl; walk_at "c"; exact rfl
  | (with_reducible apply er_callH); walk_at "e"; exact rfl; exact rfl; walk_at "c"; exact rfl
  | (with_reducible apply er_callV); walk_at "e"; exact rfl; walk_at "c"; exact rfl
  | (with_reducible apply er_callGF); walk_at "e"; exact rfl; exact rfl; walk_at "c"; exact rfl
  | (with_reducible apply er_callHF); walk_at "e"; exact rfl; exact rfl; walk_at "c"; exact rfl
  | (with_reducible apply er_callM); walk_at "e"; exact rfl; exact rfl; exact rfl; exact rfl; exact rfl; walk_at "c"; exact rfl
  | (with_reducible apply er_catL); walk_at "e"; walk_at "e"; exact rfl; exact rfl; walk_at "z"
  | (with_reducible apply er_mt); walk_at "e"; exact rfl; exact rfl; walk_at "e"; exact rfl; exact rfl; walk_at "m"; exact rfl
  | (with_reducible apply er_tup); walk_at "e"; exact rfl; walk_at "z" 
  | (with_reducible apply er_lst); walk_at "e"; exact rfl; walk_at "z")
local macro_rules | `(tactic| walk_at "o") => `(tactic| first | exact er_zoN | ((with_reducible apply er_zoS); walk_at "e"))
local macro_rules | `(tactic| walk_at "x") => `(tactic| first | with_reducible assumption | (simp only [Cn.d]; with_reducible assumption) | exact rfl)
local macro_rules | `(tactic| walk_at "m") => `(tactic| first | with_reducible assumption | (simp only [Cn.d]; with_reducible assumption) | exact rfl)
local macro_rules | `(tactic| walk_at "st") => `(tactic| first
  | ((with_reducible apply set_dat); (walk_at "e"); (exact rfl); walk_at "l")
  | ((with_reducible apply set_own); (walk_at "e"); (exact Nat.le_of_ble_eq_true rfl); (exact rfl); (exact rfl); walk_at "l")
  | ((with_reducible apply asg_run); (walk_at "e"); (exact rfl); walk_at "l")
  | ((with_reducible apply aug_run); (exact rfl); (exact rfl); (walk_at "e"); (exact rfl); (walk_at "d"); (exact rfl); (exact rfl); walk_at "l")
  | ((with_reducible apply sto_run); (walk_at "e"); (walk_at "e"); (walk_at "e"); (exact rfl); (walk_at "x"); walk_at "l")
  | ((with_reducible apply app_run); (walk_at "e"); (exact rfl); (walk_at "e"); (exact rfl); (exact rfl); (walk_at "z"); walk_at "l"))
local macro_rules | `(tactic| walk_at "z") => `(tactic| first | assumption | exact Nat.le_of_ble_eq_true rfl | (simp; omega))
local macro_rules | `(tactic| walk_at "s") => `(tactic| first
  | with_reducible apply sr_nx
  | with_reducible apply sr_assoc
  | with_reducible apply ap_fg
  | ((with_reducible apply fgK_nx); (exact rfl); (walk_at "l"); skip)
  | ((with_reducible apply fgK_ct); (exact rfl); (walk_at "l"); skip)
  | ((with_reducible apply fgK_bk); (exact rfl); (walk_at "l"); skip)
  | with_reducible apply fgK_ret
  | with_reducible apply sr_bk1
  | with_reducible apply sr_ct1
  | with_reducible apply sr_nx1
  | with_reducible apply sr_ct
  | with_reducible apply sr_bk
  | (with_reducible apply sr_retS); (walk_at "e"); skip
  | (with_reducible apply sr_ret); (walk_at "e"); skip
  | (with_reducible apply sr_if); (walk_at "e"); (walk_at "l")
  | (with_reducible apply sr_if1); (walk_at "e"); (walk_at "l")
  | (with_reducible apply seq_nx); (walk_at "st")
  | (with_reducible apply one_nx); (walk_at "st"))
local macro_rules | `(tactic| walk_at "r") => `(tactic| repeat' (first | (intro _) | walk_at "s"))
local macro_rules | `(tactic| walk_at "k") => `(tactic| (intro q; (try simp only [decide_eq_true_eq, decide_eq_false_iff_not, beq_iff_eq, beq_eq_false_iff_ne, ne_eq, Bool.not_eq_true', Bool.not_eq_false', Bool.and_eq_true, Bool.or_eq_true, Bool.and_eq_false_iff, Bool.or_eq_false_iff, Int.not_lt, Int.not_le, List.cons.injEq, and_true, reduceCtorEq, beq_self_eq_true, Bool.not_true, Bool.not_false, Bool.or_false, Bool.false_or, Bool.or_true, Bool.true_or, Bool.and_false, Bool.false_and, Bool.and_true, Bool.true_and, not_true_eq_false, Bool.false_eq_true] at q) <;> (try (exfalso; first | (cases q; done) | omega | contradiction))))
local macro_rules | `(tactic| walk_at "w") => `(tactic| repeat' (first | (walk_at "k") | walk_at "s"))
def VW (v : D) : Prop := match v with
  | .non => True
  | .bl _ => True
  | .int i => i.natAbs ≤ 10 ^ 15
  | .str t => t.length ≤ 10000 ∧ ∀ c ∈ t, c < 128
  | _ => False
theorem VW.scal {v : D} (h : VW v) : v.scal = true := by cases v <;> first | exact h.elim | rfl
theorem VW.rok {v : D} (h : VW v) : v.rok = true ∧ v.dp = 0 := by
  cases v with
  | non => exact ⟨rfl, rfl⟩
  | bl b => exact ⟨rfl, rfl⟩
  | int i => exact ⟨decide_eq_true (Nat.lt_of_le_of_lt (show i.natAbs ≤ 10 ^ 15 from h) (by decide)), rfl⟩
  | str t =>
    obtain ⟨h1, h2⟩ := (show t.length ≤ 10000 ∧ ∀ c ∈ t, c < 128 from h)
    refine ⟨?_, rfl⟩
    show (t.all fun c => decide (c < 1114112)) = true
    rw [List.all_eq_true]
    intro c hc
    exact decide_eq_true (Nat.lt_trans (h2 c hc) (by decide))
  | tup _ => exact h.elim
  | lst _ => exact h.elim
  | raw _ => exact h.elim
  | dic _ _ => exact h.elim
  | obj _ _ _ => exact h.elim
end Z
set_option Elab.async false
set_option linter.all false
set_option maxRecDepth 100000
set_option maxHeartbeats 4000000
namespace Z
open PySem PySem.Spec PyProof.Rows L2
end Z
set_option Elab.async false
set_option linter.all false
set_option maxRecDepth 100000
set_option maxHeartbeats 4000000
namespace Z
open PySem PySem.Spec PyProof.Rows L2
section
variable {mo me ma mb : ZM} {mr : ZAr} {g g1 g2 : G} {r : R} {rs : List R} {n : Nat}
theorem forL_all {st : SM} {tg : TD} : ∀ {L : List D}, (∀ d ∈ L, ∃ g1, tg d g = some g1 ∧ st g1 = some (.nx, g)) → forL tg st L g = some (.nx, g)
  | [], _ => rfl
  | d :: L, h => by
    obtain ⟨g1, h1, h2⟩ := h d List.mem_cons_self
    exact forL_nx h1 h2 (forL_all fun x hx => h x (List.mem_cons_of_mem _ hx))
end
end Z
set_option Elab.async false
set_option linter.all false
set_option maxRecDepth 100000
set_option maxHeartbeats 4000000
namespace Z
open PySem PySem.Spec PyProof.Rows L2
end Z
set_option Elab.async false
set_option linter.all false
set_option maxRecDepth 100000
set_option maxHeartbeats 4000000
namespace Z
open PySem PySem.Spec PyProof.Rows L2
end Z
set_option Elab.async false
set_option linter.all false
set_option maxRecDepth 100000
set_option maxHeartbeats 4000000
namespace Z
open PySem PySem.Spec PyProof.Rows L2
end Z
set_option Elab.async false
set_option linter.all false
set_option maxRecDepth 100000
set_option maxHeartbeats 4000000
namespace PySem
open Sem (wp)
end PySem
namespace Z
open PySem PySem.Spec PyProof.Rows L2
end Z
set_option Elab.async false
set_option linter.all false
set_option maxRecDepth 100000
set_option maxHeartbeats 4000000
namespace Z
open PySem PySem.Spec PyProof.Rows L2
end Z
namespace Z
open PySem PySem.Spec PyProof.Rows L2
end Z
set_option Elab.async false
set_option linter.all false
set_option maxRecDepth 100000
set_option maxHeartbeats 4000000
namespace Z
open PySem PySem.Spec PyProof.Rows L2
end Z
set_option Elab.async false
set_option linter.all false
set_option maxRecDepth 100000
set_option maxHeartbeats 4000000
namespace Z
open PySem PySem.Spec PyProof.Rows L2
section
variable {C : Ct} {Hs : Hp} {A : List Addr} {g g' : List Sl} {σ : L2.St} {H H' : Hp} {j : Nat}
theorem KdOk.at {K : PySem.W.Frag} {Hs H : Hp} : ∀ {ks : List Addr} {ls : List (List D)} {k : Nat} {b : Addr}, KdOk K Hs H ks ls → ks[k]? = some b → ∃ l us, ls[k]? = some l ∧ H b = some (.lst us) ∧ DzA K Hs us l
  | b :: bs, l :: ls, 0, _, h, e => by
    cases e
    obtain ⟨us, h1, h2⟩ := h.1
    exact ⟨l, us, rfl, h1, h2⟩
  | b :: bs, l :: ls, k + 1, _, h, e => KdOk.at (k := k) h.2 e
  | [], _, k, _, _, e => by simp at e
  | _ :: _, [], _, _, h, _ => h.elim
theorem KdOk.put {K : PySem.W.Frag} {Hs H : Hp} {l' : List D} {us' : List V} (hz : DzA K Hs us' l') : ∀ {ks : List Addr} {ls : List (List D)} {k : Nat} {b : Addr}, KdOk K Hs H ks ls → ks.Nodup → ks[k]? = some b → KdOk K Hs (upd H b (.lst us')) ks (ls.set k l')
  | b :: bs, l :: ls, 0, _, h, nd, e => by
    cases e
    have nd := List.nodup_cons.mp nd
    exact ⟨⟨us', upd_same, hz⟩, KdOk.move (Same.refl _) h.2 fun x m o q => by rw [upd_ne (fun z => nd.1 (by rw [← z]; exact m))]; exact q⟩
  | b :: bs, l :: ls, k + 1, b', h, nd, e => by
    have nd := List.nodup_cons.mp nd
    have m : b' ∈ bs := List.mem_of_getElem? (i := k) e
    obtain ⟨us, h1, h2⟩ := h.1
    exact ⟨⟨us, by rw [upd_ne (fun z => nd.1 (by rw [z]; exact m))]; exact h1, h2⟩, KdOk.put (k := k) hz h.2 nd.2 e⟩
  | [], _, k, _, _, _, e => by simp at e
  | _ :: _, [], _, _, h, _, _ => h.elim
end
end Z
set_option Elab.async false
set_option linter.all false
set_option maxRecDepth 100000
set_option maxHeartbeats 4000000
namespace Z
open PySem PySem.Spec PyProof.Rows L2
end Z
set_option Elab.async false
set_option linter.all false
set_option maxRecDepth 100000
set_option maxHeartbeats 4000000
namespace Z
open PySem PySem.Spec PyProof.Rows L2
end Z
set_option Elab.async false
set_option linter.all false
set_option maxRecDepth 100000
set_option maxHeartbeats 4000000
namespace ZS
open PySem PyProof.Rows Srt SrtO
end ZS
set_option Elab.async false
set_option linter.all false
set_option maxRecDepth 100000
set_option maxHeartbeats 4000000
namespace ZS
open PySem PyProof.Rows Srt SrtO
section
variable {α β : Type}
def ins (lt : α → α → Bool) (x : α) : List α → List α
  | [] => [x]
  | y :: l => if lt y x = true then y :: ins lt x l else x :: y :: l
variable {lt : α → α → Bool} {lt' : β → β → Bool}
end
end ZS
set_option Elab.async false
set_option linter.all false
set_option maxRecDepth 100000
set_option maxHeartbeats 4000000
namespace ZN
open PySem PySem.Spec PyProof.Rows L2
/-- the tuple at a is the key k -/
def NK (h : Heap) (k : NestedKey) (a : Addr) : Prop := NestedIs h k (.ref a) ∧ k.depth ≤ 8
end ZN
set_option Elab.async false
set_option linter.all false
set_option maxRecDepth 100000
set_option maxHeartbeats 4000000
namespace ZN
open PySem PySem.Spec PyProof.Rows L2
/-- the rows of the table -/
def cells (w : World) (L : List (Addr × NestedKey)) : List (Int × Value) := L.map fun p => (p.2.hash w, .ref p.1)
/-- the set at a holds the keys L -/
structure NS (w : World) (h : Heap) (a : Addr) (L : List (Addr × NestedKey)) (es : Array (Int × Value)) (ep : Nat) (t : SetTable) : Prop where
  obj : ∃ o, h.get? a = some o ∧ o.ExactSet ∧ o.data = .set es ep t
  lay : es.toList = cells w L
  tab : TabOk t (L.map fun p => p.2.hash w)
  one : (L.map (·.2)).Nodup
  mem : ∀ p ∈ L, NK h p.2 p.1
  room : L.length * 5 < t.mask * 3
  few : L.length < 64
section
variable {P : Program} {w : World} {A : Around} {E : Value → Shared → Prop} {s : Shared} {a : Addr} {L : List (Addr × NestedKey)} {es : Array (Int × Value)} {ep : Nat} {t : SetTable}
theorem NS.size (R : NS w s.heap a L es ep t) : es.size = L.length := by
  rw [← Array.length_toList, R.lay, cells, List.length_map]
end
end ZN
set_option Elab.async false
set_option linter.all false
set_option maxRecDepth 100000
set_option maxHeartbeats 4000000
namespace ZN
open PySem PySem.Spec PyProof.Rows L2
theorem NK.keep {h h' : Heap} {x : Addr} {k : NestedKey} (hk : NK h k x) (keep : ∀ b o, h.get? b = some o → h'.get? b = some o) : NK h' k x := ⟨NestedIs.at (fun b u _ _ hb _ => keep b u hb) k _ hk.1, hk.2⟩
section
variable {P : Program} {w : World} {A : Around} {E : Value → Shared → Prop} {s : Shared} {a : Addr} {L : List (Addr × NestedKey)} {es : Array (Int × Value)} {ep : Nat} {t : SetTable}
theorem NS.at (R : NS w s.heap a L es ep t) {h' : Heap} (keep : ∀ b o, s.heap.get? b = some o → h'.get? b = some o) : NS w h' a L es ep t :=
  let ⟨o, ho, hc⟩ := R.obj
  ⟨⟨o, keep _ _ ho, hc⟩, R.lay, R.tab, R.one, fun p m => (R.mem p m).keep keep, R.room, R.few⟩
end
end ZN
set_option Elab.async false
set_option linter.all false
set_option maxRecDepth 100000
set_option maxHeartbeats 4000000
namespace ZN
open PySem PySem.Spec PyProof.Rows L2 Z
/-- NS without the members' own objects -/
structure NS0 (w : World) (h : Heap) (a : Addr) (L : List (Addr × NestedKey)) : Prop where
  ex : ∃ es ep t, (∃ o, h.get? a = some o ∧ o.ExactSet ∧ o.data = .set es ep t) ∧ es.toList = cells w L ∧ TabOk t (L.map fun p => p.2.hash w) ∧ L.length * 5 < t.mask * 3
  one : (L.map (·.2)).Nodup
  few : L.length < 64
theorem NS.low {w : World} {h : Heap} {a : Addr} {L : List (Addr × NestedKey)} {es : Array (Int × Value)} {ep : Nat} {t : SetTable} (R : NS w h a L es ep t) : NS0 w h a L := ⟨⟨es, ep, t, R.obj, R.lay, R.tab, R.room⟩, R.one, R.few⟩
mutual
def nkD : D → Option NestedKey
  | .non => some .none
  | .bl b => some (.num (if b = true then 1 else 0))
  | .int i => some (.num i)
  | .str x => some (.text ⟨x.toArray⟩)
  | .tup l => match nkDs l with
    | some ks => some (.tup ks)
    | none => none
  | _ => none
def nkDs : List D → Option (List NestedKey)
  | [] => some []
  | d :: ds => match nkD d, nkDs ds with
    | some k, some ks => some (k :: ks)
    | _, _ => none
end
section
variable {X : Cx} {pins : List (Addr × Obj)} {σ : L2.St} {H : Hp} {s : Shared}
/-- the tracked tuple at b is the key k -/
def KeyH (K : PySem.W.Frag) (H : Hp) (k : NestedKey) (b : Addr) : Prop := ∃ d, Dz K H (.ref b) d ∧ nkD d = some k ∧ k.depth ≤ 8
theorem KeyH.mono {K : PySem.W.Frag} {H H' : Hp} {k : NestedKey} {b : Addr} (h : KeyH K H k b) (e : Same H H') : KeyH K H' k b := let ⟨d, z, r⟩ := h; ⟨d, z.mono e, r⟩
end
end ZN
set_option Elab.async false
set_option linter.all false
set_option maxRecDepth 100000
set_option maxHeartbeats 4000000
namespace ZN
open PySem PySem.Spec PyProof.Rows L2 Z
end ZN
set_option Elab.async false
set_option linter.all false
set_option maxRecDepth 100000
set_option maxHeartbeats 4000000
namespace Z
open PySem PySem.Spec PyProof.Rows L2
end Z
set_option Elab.async false
set_option linter.all false
set_option maxRecDepth 100000
set_option maxHeartbeats 4000000
namespace ZS
open PySem PyProof.Rows Srt SrtO PySem.W
section
variable {prog : Program} {w : World} {A : Around} {E : Value → Shared → Prop} {s : Shared}
/-- a key: (n, i) or (3, text) -/
inductive RkIs (h : Heap) : List Int → Value → Prop
  | num {a : Addr} {o : Obj} {n i : Int} {t u m : Nat} : h.get? a = some o → o.cls = .type "tuple" → o.data = .seq #[.int n t, .int i u] m → n ≠ 3 → RkIs h [n, i] (.ref a)
  | txt {a : Addr} {o : Obj} {x : Str} {t u m : Nat} : h.get? a = some o → o.cls = .type "tuple" → o.data = .seq #[.int 3 t, .str x u] m → RkIs h (3 :: x.cps.toList.map Int.ofNat) (.ref a)
theorem RkIs.inj {h : Heap} {c c' : List Int} {v : Value} (x : RkIs h c v) (y : RkIs h c' v) : c = c' := by
  cases x with
  | num h1 h2 h3 h4 =>
    cases y with
    | num g1 g2 g3 g4 =>
      rw [h1] at g1; cases g1
      rw [h3] at g3; cases g3
      rfl
    | txt g1 g2 g3 =>
      rw [h1] at g1; cases g1
      rw [h3] at g3; cases g3
  | txt h1 h2 h3 =>
    cases y with
    | num g1 g2 g3 g4 =>
      rw [h1] at g1; cases g1
      rw [h3] at g3; cases g3
    | txt g1 g2 g3 =>
      rw [h1] at g1; cases g1
      rw [h3] at g3; cases g3
      rfl
theorem RkIs.keep {h h' : Heap} {c : List Int} {v : Value} (x : RkIs h c v) (k : ∀ b o, h.get? b = some o → o.cls = .type "tuple" → h'.get? b = some o) : RkIs h' c v := by
  cases x with
  | num h1 h2 h3 h4 => exact .num (k _ _ h1 h2) h2 h3 h4
  | txt h1 h2 h3 => exact .txt (k _ _ h1 h2) h2 h3
end
end ZS
set_option Elab.async false
set_option linter.all false
set_option maxRecDepth 100000
set_option maxHeartbeats 4000000
namespace ZS
open PySem PySem.Spec PyProof.Rows L2 Z Srt SrtO
section
variable {X : Cx} {pins : List (Addr × Obj)} {σ : L2.St} {H : Hp} {s : Shared}
theorem Vals.mem {xs : List V} {us : List Value} (r : Vals xs us) {i : Nat} {u : Value} (e : us[i]? = some u) : ∃ x, xs[i]? = some x ∧ RelV x u := by
  have hi : i < xs.length := by rw [r.length]; exact (List.getElem?_eq_some_iff.mp e).1
  obtain ⟨u', h1, h2⟩ := r.get (List.getElem?_eq_getElem hi)
  rw [e] at h1
  cases h1
  exact ⟨_, List.getElem?_eq_getElem hi, h2⟩
end
end ZS
set_option Elab.async false
set_option linter.all false
set_option maxRecDepth 100000
set_option maxHeartbeats 4000000
namespace ZS
open PySem PySem.Spec PyProof.Rows L2 Z Srt SrtO
end ZS
set_option Elab.async false
set_option linter.all false
set_option maxRecDepth 100000
set_option maxHeartbeats 4000000
namespace Z
open PySem PySem.Spec PyProof.Rows L2 ZS
end Z
set_option Elab.async false
set_option linter.all false
set_option maxRecDepth 100000
set_option maxHeartbeats 4000000
namespace ZN
open PySem PySem.Spec PyProof.Rows L2 Z
end ZN
set_option Elab.async false
set_option linter.all false
set_option maxRecDepth 100000
set_option maxHeartbeats 4000000
namespace ZN
open PySem PySem.Spec PyProof.Rows L2 Z
end ZN
namespace Z
open PySem PySem.Spec PyProof.Rows L2 ZN
end Z
set_option Elab.async false
set_option linter.all false
set_option maxRecDepth 100000
set_option maxHeartbeats 4000000
namespace Z
open PySem PySem.Spec PyProof.Rows L2 ZS SrtO
end Z
set_option Elab.async false
set_option linter.all false
set_option maxRecDepth 100000
set_option maxHeartbeats 4000000
namespace Z
open PySem PySem.Spec PyProof.Rows L2
end Z
set_option Elab.async false
set_option linter.all false
set_option maxRecDepth 100000
set_option maxHeartbeats 4000000
namespace Z
open PySem PySem.Spec PyProof.Rows L2
end Z
set_option Elab.async false
set_option linter.all false
set_option maxRecDepth 100000
set_option maxHeartbeats 4000000
namespace Z
open PySem PySem.Spec PyProof.Rows L2
end Z
set_option Elab.async false
set_option linter.all false
set_option maxRecDepth 100000
set_option maxHeartbeats 4000000
namespace Z
open PySem PySem.Spec PyProof.Rows L2 ZN ZS SrtO
/-- a plain value -/
def PlV (v : D) : Prop := match v with
  | .non => True | .bl _ => True | .int _ => True | .str _ => True | _ => False
theorem VW.pl {v : D} (h : VW v) : PlV v := by cases v <;> first | exact h.elim | trivial
end Z
set_option Elab.async false
set_option linter.all false
set_option maxRecDepth 100000
set_option maxHeartbeats 4000000
namespace Z
open PySem PySem.Spec PyProof.Rows L2
end Z
set_option Elab.async false
set_option linter.all false
set_option maxRecDepth 100000
set_option maxHeartbeats 4000000
namespace Z
open PySem PySem.Spec PyProof.Rows L2 ZN ZS SrtO
end Z
set_option Elab.async false
set_option linter.all false
set_option maxRecDepth 100000
set_option maxHeartbeats 4000000
namespace Z
open PySem PySem.Spec PyProof.Rows L2
def ClsAt (K : PySem.W.Frag) (c : Str) (C : Addr) : Prop := PySem.W.nsIn K mainGlobals c = some (some (.ref C))
def zObj (c : Str) : R → Option (List Str × List D)
  | .dat (.obj c' fs ds) => if c' = c then some (fs, ds) else none
  | _ => none
theorem zObj_some {c : Str} {r : R} {q : List Str × List D} (h : zObj c r = some q) : r = .dat (.obj c q.1 q.2) := by
  unfold zObj at h
  split at h
  · split at h
    · rename_i e
      cases h; rw [e]
    · cases h
  · cases h
theorem lookup_zip {α : Type} : ∀ {fl : List Str} {xs : List α} {i : Nat} {f : Str} {v : α}, fl.Nodup → fl[i]? = some f → xs[i]? = some v → (fl.zip xs).lookup f = some v
  | [], _, _, _, _, _, h, _ => by simp at h
  | _ :: _, [], _, _, _, _, _, h => by simp at h
  | a :: fl, x :: xs, 0, f, v, _, h1, h2 => by
    simp at h1 h2
    subst h1; subst h2
    simp [List.lookup]
  | a :: fl, x :: xs, i + 1, f, v, nd, h1, h2 => by
    have h1 : fl[i]? = some f := by simpa using h1
    have h2 : xs[i]? = some v := by simpa using h2
    have nd := List.nodup_cons.mp nd
    have ne : (f == a) = false := beq_eq_false_iff_ne.mpr fun z => nd.1 (z ▸ List.mem_of_getElem? h1)
    show List.lookup f ((a, x) :: fl.zip xs) = some v
    simp only [List.lookup, ne]
    exact lookup_zip nd.2 h1 h2
/-- a field of a class may be read -/
def FldK (K : PySem.W.Frag) (c f : Str) : Prop := ∃ C, ClsAt K c C ∧ Cls K C ∧ NoAttr K C f
def zFld (c : Str) (fl : List Str) (i : Nat) (m : ZM) : ZM := fun g => do
  let (r, g1) ← m g
  let q ← zObj c r
  if q.1 = fl then (do
    let d ← q.2[i]?
    some (.dat d, g1)) else none
theorem er_fld {c : Str} {fl : List Str} {i : Nat} {m : ZM} {g g1 : G} {ds : List D} {d : D} (h : m g = some (.dat (.obj c fl ds), g1)) (hd : ds[i]? = some d) : zFld c fl i m g = some (.dat d, g1) := by
  unfold zFld
  simp [h, zObj, hd]
section
variable {X : Cx} {pos : Pos} {c : Str} {fl : List Str}
theorem ze_fld {e : Expr} {f : Str} {i : Nat} {m : ZM} (k : FldK X.K c f) (hn : fl.Nodup) (hi : fl[i]? = some f) (h : ZE X e m) (hb : attributeBase e f X.env (eval e X.env) = eval e X.env := by rfl) :
    ZE X (.Attribute e f pos) (zFld c fl i m) := by
  refine PE.of (pe_fld h hb) fun σ H Q ⟨C, Hs, A, g, r, g', hK, hN, ok, e, q⟩ => ?_
  unfold zFld at e
  simp only [Option.bind_eq_bind, Option.bind_eq_some_iff] at e
  obtain ⟨⟨r1, g1⟩, h1, ⟨fs, ds⟩, h2, e⟩ := e
  simp only at e
  split at e
  · rename_i hf
    simp only [Option.bind_eq_some_iff] at e
    obtain ⟨d, h3, e⟩ := e
    cases e
    subst hf
    have h2 : zObj c r1 = some (fs, ds) := h2
    refine ⟨C, Hs, A, g, r1, _, hK, hN, ok, h1, fun Hs1 A1 v H1 s1 p1 ok1 rel1 => ?_⟩
    rw [zObj_some h2] at rel1
    have dz : Dz C.K Hs1 v (.obj c fs ds) := rel1
    cases dz with
    | obj hc ha hl hz =>
      obtain ⟨C0, q1, q2, q3⟩ := k
      rw [hK] at hc
      have eC := hc.symm.trans (show PySem.W.nsIn X.K mainGlobals c = some (some (.ref C0)) from q1)
      cases eC
      obtain ⟨v', w1, w2⟩ := hz.get h3
      exact ⟨_, _, _, _, v', rfl, ok1.same _ _ ha, q2, q3, lookup_zip hn hi w1, q Hs1 A1 v' H1 s1 p1 ok1 w2⟩
  · cases e
end
/-- the promise of an __init__ that stores fields -/
def spI (K : PySem.W.Frag) (fl : List Str) (f : List D → Option (List D)) : Sp := fun vs H Q _ => ∃ (C x dx : Addr) (us : List V) (Hs : Hp) (ds es : List D), vs = .ref x :: us ∧ Cls K C ∧ (∀ n ∈ fl, NoAttr K C n) ∧ H x = some (.ins C dx []) ∧ Hs x = none ∧ Same Hs H ∧ DzA K Hs us ds ∧ f ds = some es ∧
  ∀ (Hs' H' : Hp) (xs : List V), Same Hs Hs' → (∀ b u, b ≠ x → H b = some u → H' b = some u) → Same Hs' H' → (∀ b o, Hs' b = some o → Hs b = some o ∨ (b ≠ x ∧ H b = none)) → Hs' x = none → H' x = some (.ins C dx (fl.zip xs)) → fl.length = xs.length → DzA K Hs' xs es → Q .non H'
def zIn : List ZM → G → Option (List D × G)
  | [], g => some ([], g)
  | m :: ms, g => do
    let (r, g1) ← m g
    let (d, g2) ← frzR r g1
    let (ds, g3) ← zIn ms g2
    some (d :: ds, g3)
theorem KdOk.lsts {K : PySem.W.Frag} {Hs H : Hp} : ∀ {ks : List Addr} {ls : List (List D)}, KdOk K Hs H ks ls → ∀ x ∈ ks, ∃ us, H x = some (.lst us)
  | [], [], _, _, m => (List.not_mem_nil m).elim
  | b :: bs, l :: ls, h, x, m => by
    rcases List.mem_cons.mp m with rfl | m
    · obtain ⟨us, e, _⟩ := h.1
      exact ⟨us, e⟩
    · exact KdOk.lsts h.2 x m
  | [], _ :: _, h, _, _ => h.elim
  | _ :: _, [], h, _, _ => h.elim
/-- an instance that nothing known rests on is changed -/
def Ct.ins (C : Ct) (x : Addr) (o : HO) : Ct := { C with H0 := upd C.H0 x o }
theorem Ok.ins {C : Ct} {Hs : Hp} {A : List Addr} {g : G} {σ : L2.St} {H : Hp} (ok : Ok C Hs A g σ H) {x Cc dx : Addr} {fs : List (Str × V)} {o : HO} (h : H x = some (.ins Cc dx fs)) (hs : Hs x = none) : Ok (C.ins x o) Hs A g σ (upd H x o) := by
  have ne : ∀ {b : Addr} {us : List V}, H b = some (.lst us) → b ≠ x := fun {b us} e z => by rw [z, h] at e; cases e
  have h0 : ∀ {b : Addr}, b ≠ x → (C.ins x o).H0 b = C.H0 b := fun z => upd_ne z
  refine ⟨ok.ln, ok.lg, ok.la, ok.base, fun b u e => ?_, ok.dat, ok.frz, fun i c p l e => ?_, ok.inj, fun b u e => ?_, fun b u e k => ?_, ok.pinned, ok.pin1, ok.locked, ?_⟩
  · rw [upd_ne (fun z => by rw [z, hs] at e; cases e)]
    exact ok.same b u e
  · obtain ⟨a, u, q1, q2, q3, q4, q5, q6⟩ := ok.own i c p l e
    refine ⟨a, u, q1, q2, q3, ?_, q5, fun hp => ?_⟩
    · cases c with
      | lst l' =>
        obtain ⟨vs, rfl, _⟩ := CnOk.lst_inv (show CnOk C.K Hs (.lst l') u from q5)
        rw [upd_ne (ne q4)]; exact q4
    · cases c with
      | lst l' =>
        obtain ⟨vs, rfl, _⟩ := CnOk.lst_inv (show CnOk C.K Hs (.lst l') u from q5)
        rw [h0 (ne q4)]; exact q6 hp
  · rcases ok.grow b u e with q | q
    · exact .inl q
    · by_cases z : b = x
      · rw [z, hs] at e; cases e
      · exact .inr (by rw [h0 z]; exact q)
  · by_cases z : b = x
    · subst z
      rw [show (C.ins b o).H0 b = some o from upd_same] at e
      rw [upd_same]; exact e
    · rw [h0 z] at e
      rw [upd_ne z]
      exact ok.keep b u e k
  · intro i ls e
    obtain ⟨a, ks, q1, q2, q3, q4, q5⟩ := ok.rws i ls e
    have na : ∀ y ∈ a :: ks, y ≠ x := fun y m => by
      rcases List.mem_cons.mp m with rfl | m
      · exact ne q3.hd
      · obtain ⟨us, e⟩ := q3.kd.lsts y m
        exact ne e
    refine ⟨a, ks, q1, q2, ⟨by rw [upd_ne (na a List.mem_cons_self)]; exact q3.hd, q3.nd, fun y m => ⟨(q3.fr y m).1, by rw [h0 (na y m)]; exact (q3.fr y m).2⟩, q3.kd.move (Same.refl _) fun y m o' e' => by rw [upd_ne (na y (List.mem_cons_of_mem _ m))]; exact e'⟩, q4, fun j ms b y e1 e2 m1 m2 => ?_⟩
    obtain ⟨b', ks', r1, _, r3, _⟩ := ok.rws j ms e1
    rw [e2] at r1
    cases r1
    rw [upd_ne (ne r3.hd)] at m1
    exact q5 j ms b y e1 e2 m1 m2
/-- a datum is forgotten -/
theorem Ok.un0 {C : Ct} {Hs : Hp} {A : List Addr} {g : G} {σ : L2.St} {H : Hp} {d : D} (ok : Ok C Hs A (.dat d :: g) σ H) : Ok C Hs A (.un :: g) σ H := by
  have old : ∀ (i : Nat) (t : Sl), (Sl.un :: g)[i]? = some t → t ≠ .un → (Sl.dat d :: g)[i]? = some t := fun i t e n => by
    cases i with
    | zero => simp at e; exact absurd e.symm n
    | succ i => simpa using e
  refine ⟨ok.ln, ok.lg, ok.la, ok.base, ok.same, fun i d' e => ok.dat i d' (old i _ e nofun), fun i d' e => ok.frz i d' (old i _ e nofun), fun i c p l e => ok.own i c p l (old i _ e nofun), fun i j c p l c' p' l' a e1 e2 h1 h2 => ok.inj i j c p l c' p' l' a (old i _ e1 nofun) (old j _ e2 nofun) h1 h2, ok.grow, ok.keep, fun q hq => ?_, fun i c l a e ha => ok.pin1 i c l a (old i _ e nofun) ha, fun q hq => ?_, ?_⟩
  · obtain ⟨c, l, h1, h2⟩ := ok.pinned q hq
    refine ⟨c, l, ?_, h2⟩
    cases z : q.1 with
    | zero => rw [z] at h1; simp at h1
    | succ i => rw [z] at h1; simpa using h1
  · obtain ⟨p, h1, h2⟩ := ok.locked q hq
    refine ⟨p, ?_, h2⟩
    cases z : q.1 with
    | zero => rw [z] at h1; simp at h1
    | succ i => rw [z] at h1; simpa using h1
  · intro i ls e
    obtain ⟨a, ks, q1, q2, q3, q4, q5⟩ := ok.rws i ls (old i _ e nofun)
    exact ⟨a, ks, q1, q2, q3, fun j c p l b e1 e2 => q4 j c p l b (old j _ e1 nofun) e2, fun j ms b x e1 e2 => q5 j ms b x (old j _ e1 nofun) e2⟩
theorem putF_new : ∀ {fs : List (Str × V)} {f : Str} {v : V}, f ∉ fs.map (·.1) → putF f v fs = fs ++ [(f, v)]
  | [], _, _, _ => rfl
  | (g, x) :: r, f, v, h => by
    have h1 : ¬ g = f := fun z => h (by simp [z])
    show (if g = f then (g, v) :: r else (g, x) :: putF f v r) = _
    rw [if_neg h1, putF_new (fs := r) fun m => h (by simp only [List.map_cons, List.mem_cons]; exact .inr m)]
    rfl
/-- the body of an __init__: what stands at the state -/
def tInit (K : PySem.W.Frag) (n : Nat) (fl : List Str) (ms : List ZM) : TS := fun DE σ H => ∃ (C : Ct) (Hs : Hp) (A : List Addr) (g g' : G) (x Cc dx : Addr) (fl0 : List Str) (xs0 : List V) (es : List D), C.K = K ∧ C.n = n ∧ Ok C Hs A g σ H ∧
  σ[0]? = some (some (.ref x)) ∧ Cls K Cc ∧ (∀ f ∈ fl, NoAttr K Cc f) ∧ C.H0 x = some (.ins Cc dx (fl0.zip xs0)) ∧ fl0.length = xs0.length ∧ (fl0 ++ fl).Nodup ∧ (fl0 ++ fl).length < 1000 ∧ C.Hs0 x = none ∧ C.pins = [] ∧ zIn ms g = some (es, g') ∧ fl.length = ms.length ∧
  ∀ (C' : Ct) (Hs' : Hp) (A' : List Addr) (σ' : L2.St) (H' : Hp) (xs : List V), C'.K = K → C'.n = n → C'.Hs0 = C.Hs0 → C'.pins = [] → (∀ b, b ≠ x → C'.H0 b = C.H0 b) → C'.H0 x = some (.ins Cc dx ((fl0 ++ fl).zip (xs0 ++ xs))) → Same Hs Hs' → Ok C' Hs' A' g' σ' H' → fl.length = xs.length → DzA K Hs' xs es → DE.nx σ' H'
theorem zi_nil {K : PySem.W.Frag} {n : Nat} {DE : Ends} {σ : L2.St} {H : Hp} (h : tInit K n [] [] DE σ H) : DE.nx σ H := by
  obtain ⟨C, Hs, A, g, g', x, Cc, dx, fl0, xs0, es, hK, hn, ok, h0, cl, na, hx, hl, nd, lt, hs, hp, e, _, q⟩ := h
  cases e
  exact q C Hs A σ H [] hK hn rfl hp (fun _ _ => rfl) (by rw [List.append_nil, List.append_nil]; exact hx) (Same.refl _) ok rfl .nil
theorem zi_step {K : PySem.W.Frag} {n : Nat} {DE : Ends} {σ : L2.St} {H : Hp} {f : Str} {fl : List Str} {m : ZM} {ms : List ZM} (h : tInit K n (f :: fl) (m :: ms) DE σ H) : sFld K (tVar 0) (tZ K n m) f { DE with nx := tInit K n fl ms DE } σ H := by
  obtain ⟨C, Hs, A, g, g', x, Cc, dx, fl0, xs0, es, hK, hn, ok, h0, cl, na, hx, hl, nd, lt, hs, hp, e, hlen, q⟩ := h
  unfold zIn at e
  simp only [Option.bind_eq_bind, Option.bind_eq_some_iff] at e
  obtain ⟨⟨r, g1⟩, h1, ⟨d, g2⟩, h2, ⟨ds, g3⟩, h3, e⟩ := e
  cases e
  refine ⟨C, Hs, A, g, r, g1, hK, hn, ok, h1, fun Hs1 A1 y H1 s1 p1 ok1 rel1 => ?_⟩
  have hx1 : H1 x = some (.ins Cc dx (fl0.zip xs0)) := ok1.keep x _ hx (by rw [hp]; intro q hq; cases hq)
  obtain ⟨Hs2, s2, ok2, z2⟩ := ok1.frzR rel1 h2
  have hs2 : Hs2 x = none := by
    cases z : Hs2 x with
    | none => rfl
    | some o =>
      rcases ok2.grow x o z with k | k
      · rw [hs] at k; cases k
      · rw [hx] at k; cases k
  refine ⟨.ref x, h0, x, Cc, dx, fl0.zip xs0, rfl, hx1, cl, na f List.mem_cons_self, ?_, ?_⟩
  · rw [List.length_zip]
    have := lt
    rw [List.length_append] at this
    omega
  · have nf : f ∉ (fl0.zip xs0).map (·.1) := by
      rw [List.map_fst_zip (by omega)]
      intro hm
      exact (List.nodup_append.mp nd).2.2 f hm f List.mem_cons_self rfl
    have e1 : putF f y (fl0.zip xs0) = (fl0 ++ [f]).zip (xs0 ++ [y]) := by
      rw [putF_new nf, List.zip_append hl]; rfl
    have e2 : (fl0 ++ [f]) ++ fl = fl0 ++ f :: fl := by simp
    rw [e1]
    refine ⟨C.ins x (.ins Cc dx ((fl0 ++ [f]).zip (xs0 ++ [y]))), Hs2, A1, g2, _, x, Cc, dx, fl0 ++ [f], xs0 ++ [y], ds, hK, hn, ok2.ins hx1 hs2, h0, cl, fun z hz => na z (List.mem_cons_of_mem _ hz), upd_same, by simp [hl], by rw [e2]; exact nd, by rw [e2]; exact lt, hs, hp, h3, by simpa using hlen, ?_⟩
    intro C' Hs' A' σ' H' xs k1 k2 k3 k4 k5 k6 k7 k8 k9 k10
    refine q C' Hs' A' σ' H' (y :: xs) k1 k2 k3 k4 (fun b hb => (k5 b hb).trans (upd_ne hb)) ?_ ((s1.trans s2).trans k7) k8 (by simp [k9]) (.cons (by rw [← hK]; exact z2.mono k7) k10)
    rw [e2] at k6
    rw [k6]
    simp
section
variable {X : Cx} {o value : Expr} {f : Str} {pos pos' : Pos} {fl : List Str} {m : ZM} {ms : List ZM} {rest : List Stmt}
theorem zi_one (ho : PE X o (tVar 0)) (he : ZE X value m) (hs : swapsWith value (some (.Attribute o f pos')) pos.line X.env = pure false := by rfl) :
    PSs X [.Assign [.Attribute o f pos'] value pos] (tInit X.K X.N.length [f] [m]) := by
  refine PSs.of (pss_one (ps_fld ho he hs)) fun D σ H h => ?_
  obtain ⟨C, Hs, A, g, r, g1, hK, hn, ok, h1, q⟩ := zi_step h
  refine ⟨C, Hs, A, g, r, g1, hK, hn, ok, h1, fun Hs1 A1 y H1 s1 p1 ok1 rel1 => ?_⟩
  obtain ⟨v, h0, x, Cc, dx, fs, e, hx, cl, na, lt, q2⟩ := q Hs1 A1 y H1 s1 p1 ok1 rel1
  exact ⟨v, h0, x, Cc, dx, fs, e, hx, cl, na, lt, zi_nil q2⟩
theorem zi_cons (ho : PE X o (tVar 0)) (he : ZE X value m) (hr : PSs X rest (tInit X.K X.N.length fl ms)) (hs : swapsWith value (some (.Attribute o f pos')) pos.line X.env = pure false := by rfl) :
    PSs X (.Assign [.Attribute o f pos'] value pos :: rest) (tInit X.K X.N.length (f :: fl) (m :: ms)) :=
  PSs.of (pss_cons (ps_fld ho he hs) hr) fun D σ H h => zi_step h
end
/-- an __init__ as a function from data to data -/
def runI (n np : Nat) (ms : List ZM) : List D → Option (List D) := fun ds => if ds.length + 1 = np then (match zIn ms (.un :: start0 (n - 1) ds) with
  | some (es, _) => some es
  | none => none) else none
section
variable {P : Program} {w : World} {K : PySem.W.Frag} {mg : Str → Option Value} {base : Heap}
theorem okI {x qual : Str} {st : Stmt} {f : Addr} {fd : FuncData} {N ps : List Str} {k : Nat} {fl : List Str} {ms : List ZM} (F : Fun K x qual st f fd) (S : FnScope N ps (defScope st)) (hnd : fl.Nodup) (hlt : fl.length < 1000) (hfm : fl.length = ms.length)
    (hbody : ∀ (cdv : Value) (A : Around) (outer : List Env) (s0 : Shared) (H : Hp) (E : XK), Room k (A.deeper (envOfC qual (defScope st) s0.heap.objs.size f cdv)) →
      PSs (cxOf CX0 P w K mg base N qual (defScope st) f cdv A outer s0 H E).nox (defBody st) (tInit K N.length fl ms)) : FnOk P w K mg base CX0 (k + 1) f fd ps (spI K fl (runI N.length ps.length ms)) := by
  have arity : ∀ vs H Q E, spI K fl (runI N.length ps.length ms) vs H Q E → vs.length = ps.length := fun vs H Q E ⟨C, x, dx, us, Hs, ds, es, ev, _, _, _, _, _, hz, e, _⟩ => by
    unfold runI at e
    split at e
    · rename_i h
      rw [ev, List.length_cons, hz.length]
      exact h
    · cases e
  refine F.ok S arity (fun cdv A outer s0 H vs Q E hr h => ⟨_, hbody cdv A outer s0 H E hr, ?_⟩)
  have hal := arity vs H Q E h
  obtain ⟨C, x, dx, us, Hs, ds, es, ev, cl, na, hx, hsx, sm, hz, e, q⟩ := h
  subst ev
  have hpl : ps.length ≤ N.length := by
    have := congrArg List.length S.pre
    rw [List.length_take] at this
    omega
  rw [List.length_cons, hz.length] at hal
  unfold runI at e
  rw [if_pos hal] at e
  split at e
  · rename_i es' g' hm
    cases e
    have hul := hz.length
    have okS := ok_start (K := K) (N := N) (Hs := Hs) (H := H) (vs := .ref x :: us) (ds := .raw (.ref x) :: ds) (by rw [List.length_cons]; omega) sm (.cons (.raw _) hz)
    have e0 : start0 N.length (D.raw (.ref x) :: ds) = .dat (.raw (.ref x)) :: start0 (N.length - 1) ds := by
      unfold start0
      rw [List.map_cons, List.cons_append, List.length_cons]
      congr 3
      omega
    rw [e0] at okS
    have okU := okS.un0
    refine ⟨{ K := K, n := N.length, H0 := H, Hs0 := Hs, pins := [], locks := [], plt := fun _ h => (List.not_mem_nil h).elim, llt := fun _ h => (List.not_mem_nil h).elim }, Hs, List.replicate N.length 0, _, g', x, C, dx, [], [], _, rfl, rfl, okU, ?_, cl, na, hx, rfl, by simpa using hnd, by simpa using hlt, hsx, rfl, hm, hfm, ?_⟩
    · unfold L2.start
      rfl
    · intro C' Hs' A' σ' H' xs k1 k2 k3 k4 k5 k6 k7 k8 k9 k10
      have hx' : H' x = some (.ins C dx (fl.zip xs)) := k8.keep x _ (by simpa using k6) (by rw [k4]; intro q hq; cases hq)
      refine q Hs' H' xs k7 (fun b u hb e => k8.keep b u (by rw [k5 b hb]; exact e) (by rw [k4]; intro q hq; cases hq)) k8.same (fun b o e => ?_) ?_ hx' k9 k10
      · rcases k8.grow b o e with z | z
        · rw [k3] at z; exact .inl z
        · by_cases hb : b = x
          · subst hb
            rw [k6] at z; cases z
          · rw [k5 b hb] at z; exact .inr ⟨hb, z⟩
      · cases z : Hs' x with
        | none => rfl
        | some o =>
          rcases k8.grow x o z with w | w
          · rw [k3] at w
            have w : Hs x = some o := w
            rw [hsx] at w; cases w
          · rw [k6] at w; cases w
  · cases e
end
end Z
set_option Elab.async false
set_option linter.all false
set_option maxRecDepth 100000
set_option maxHeartbeats 4000000
namespace Z
open PySem PySem.Spec PyProof.Rows L2
/-- class c of the module: its fields, its __init__ -/
def ClsK (P : Program) (w : World) (K : PySem.W.Frag) (mg : Str → Option Value) (base : Heap) (k : Nat) (c : Str) (fl : List Str) (f : List D → Option (List D)) : Prop :=
  ∃ (C fa : Addr) (fd : FuncData) (ps : List Str), ClsAt K c C ∧ mg c = some (.ref C) ∧ Cls K C ∧ (∀ n ∈ fl, NoAttr K C n) ∧ Mk K C fa ∧ Binds K fd ps [] ∧ FnOk P w K mg base CX0 k fa fd ps (spI K fl f)
theorem ClsK.mono {P : Program} {w : World} {K : PySem.W.Frag} {mg : Str → Option Value} {base : Heap} {j k : Nat} {c : Str} {fl : List Str} {f : List D → Option (List D)} (h : ClsK P w K mg base j c fl f) (hk : j ≤ k) : ClsK P w K mg base k c fl f :=
  let ⟨C, fa, fd, ps, h1, h2, h3, h4, h5, h6, h7⟩ := h
  ⟨C, fa, fd, ps, h1, h2, h3, h4, h5, h6, h7.mono hk⟩
def zMake (c : Str) (fl : List Str) (f : List D → Option (List D)) (ma : ZAr) : ZM := fun g => do
  let (rs, g1) ← ma g
  let (ds, g2) ← frzAll rs g1
  let es ← f ds
  some (.dat (.obj c fl es), g2)
theorem er_make {c : Str} {fl : List Str} {f : List D → Option (List D)} {ma : ZAr} {g g1 g2 : G} {rs : List R} {ds es : List D} (h1 : ma g = some (rs, g1)) (h2 : frzAll rs g1 = some (ds, g2)) (h3 : f ds = some es) : zMake c fl f ma g = some (.dat (.obj c fl es), g2) := by
  unfold zMake
  simp [h1, h2, h3]
section
variable {X : Cx} {pos : Pos} {fl : List Str}
theorem ze_make {k : Nat} {x : Str} {p : Pos} {e : Expr} {es : List Expr} {f : List D → Option (List D)} {ma : ZAr} (c : ClsK X.prog X.w X.K X.mg X.base k x fl f) (hr : Room (k + 1) X.A) (ha : ZAs X (e :: es) ma) (hg : Gl X x := by rfl)
    (hdb : (x == ("__debug__" : Str)) = false := by decide) (he : starEach (e :: es) X.env = (false, eval e X.env) :: starEach es X.env := by rfl) (hpl : (backTo pos (starEach es X.env)).any (·.1) = false := by rfl) :
    ZE X (.Call (.Name x p) (e :: es) [] pos) (zMake x fl f ma) := by
  obtain ⟨Cc, fa, fd, ps, hc, hm, cl, na, mk, hb, F⟩ := c
  refine PE.of (pe_make (E := E0) mk F hr hg hm hb .nil pass0 ha hdb he hpl) fun σ H Q ⟨C, Hs, A, g, r, g', hK, hN, ok, e, q⟩ => ?_
  unfold zMake at e
  simp only [Option.bind_eq_bind, Option.bind_eq_some_iff] at e
  obtain ⟨⟨rs, g1⟩, h1, ⟨ds, g2⟩, h2, es', h3, e⟩ := e
  cases e
  refine ⟨C, Hs, A, g, rs, g1, hK, hN, ok, h1, fun Hs1 A1 vs H1 s1 p1 ok1 rel1 => ?_⟩
  obtain ⟨Hs2, s2, ok2, z2⟩ := frzAll_ok ok1 rel1 h2
  intro x' dx nx ndx ne
  have lo : ∀ b, b ≠ x' → b ≠ dx → (upd (upd H1 dx (.own x')) x' (.ins Cc dx [])) b = H1 b := fun b h1 h2 => by rw [upd_ne h1, upd_ne h2]
  have sm1 : Same H1 (upd (upd H1 dx (.own x')) x' (.ins Cc dx [])) := fun b u q => by
    rw [lo b (fun z => by rw [z, nx] at q; cases q) (fun z => by rw [z, ndx] at q; cases q)]; exact q
  have n2 : Hs2 x' = none := by
    cases z : Hs2 x' with
    | none => rfl
    | some o => rw [ok2.same _ _ z] at nx; cases nx
  refine ⟨Cc, x', dx, vs, Hs2, ds, _, by rw [List.append_nil], cl, na, upd_same, n2, ok2.same.trans sm1, by rw [← hK]; exact z2, h3, fun Hs' H' xs sS sH sP gr hsx hx hl hz => ⟨rfl, ?_⟩⟩
  have sU : Same Hs' (upd Hs' x' (.ins Cc dx (fl.zip xs))) := fun b u q => by
    rw [upd_ne (fun z => by rw [z, hsx] at q; cases q)]; exact q
  have sUH : Same (upd Hs' x' (.ins Cc dx (fl.zip xs))) H' := fun b u q => by
    by_cases z : b = x'
    · subst z; rw [upd_same] at q; cases q; exact hx
    · rw [upd_ne z] at q; exact sP b u q
  refine q (upd Hs' x' (.ins Cc dx (fl.zip xs))) A1 (.ref x') H' ((s1.trans s2).trans (sS.trans sU)) p1 (ok2.moreS (fun b u q => sH b u (fun z => by rw [z, nx] at q; cases q) (sm1 b u q)) (sS.trans sU) sUH fun b o e => ?_) ?_
  · by_cases z : b = x'
    · subst z; exact .inr nx
    · rw [upd_ne z] at e
      rcases gr b o e with k | ⟨_, k⟩
      · exact .inl k
      · refine .inr ?_
        cases w : H1 b with
        | none => rfl
        | some u => rw [sm1 b u w] at k; cases k
  · show Dz C.K _ _ _
    rw [hK]
    exact .obj hc upd_same hl (hz.mono sU)
def IsiK (K : PySem.W.Frag) (mg : Str → Option Value) (c : Str) : Prop := ∃ C, ClsAt K c C ∧ mg c = some (.ref C) ∧ C8.InsC K C
def zIsO (c : Str) (m : ZM) : ZM := fun g => do
  let (r, g1) ← m g
  let _ ← zObj c r
  some (.dat (.bl true), g1)
theorem er_isO {c : Str} {m : ZM} {g g1 : G} {fl : List Str} {ds : List D} (h : m g = some (.dat (.obj c fl ds), g1)) : zIsO c m g = some (.dat (.bl true), g1) := by
  unfold zIsO
  simp [h, zObj]
theorem ze_isO {x c : Str} {p p2 : Pos} {e : Expr} {m : ZM} (k : IsiK X.K X.mg c) (hg : Gl X x) (hm : X.mg x = none) (h : ZE X e m) (hv : bootBuiltins x = some (.builtin "isinstance") := by decide +kernel) (hg2 : Gl X c := by rfl) (hd2 : (c == ("__debug__" : Str)) = false := by decide)
    (hs2 : starEach [.Name c p2] X.env = (false, eval (.Name c p2) X.env) :: starEach [] X.env := by rfl) (hn : x ≠ "__name__" := by decide) (hdb : (x == ("__debug__" : Str)) = false := by decide) (he : starEach [e, .Name c p2] X.env = (false, eval e X.env) :: starEach [.Name c p2] X.env := by rfl) (hpl : (backTo pos (starEach [.Name c p2] X.env)).any (·.1) = false := by rfl) :
    ZE X (.Call (.Name x p) [e, .Name c p2] [] pos) (zIsO c m) := by
  obtain ⟨C0, hc, hmc, ic⟩ := k
  refine PE.of (pe_callB (C8.call_isC ic) hg hm hv (pa_cons h (pa_cons (pe_glob (v := .ref C0) hg2 hmc rfl hd2) pa_nil hs2) he) hn hdb he hpl) fun σ H Q ⟨C, Hs, A, g, r, g', hK, hN, ok, e, q⟩ => ?_
  unfold zIsO at e
  simp only [Option.bind_eq_bind, Option.bind_eq_some_iff] at e
  obtain ⟨⟨r1, g1⟩, h1, ⟨fs, ds⟩, h2, e⟩ := e
  cases e
  have h2 : zObj c r1 = some (fs, ds) := h2
  refine ⟨C, Hs, A, g, r1, g1, hK, hN, ok, h1, fun Hs1 A1 v H1 s1 p1 ok1 rel1 => ?_⟩
  rw [zObj_some h2] at rel1
  have dz : Dz C.K Hs1 v (.obj c fs ds) := rel1
  cases dz with
  | obj hc' ha hl hz =>
    rw [hK] at hc'
    cases hc'.symm.trans (show PySem.W.nsIn X.K mainGlobals c = some (some (.ref C0)) from hc)
    exact ⟨_, _, _, rfl, ok1.same _ _ ha, q Hs1 A1 _ H1 s1 p1 ok1 (.bl true)⟩
def MthK (P : Program) (w : World) (K : PySem.W.Frag) (mg : Str → Option Value) (base : Heap) (k : Nat) (c m : Str) (sp : Sp) : Prop :=
  ∃ (C fa : Addr) (fd : FuncData) (ps : List Str), ClsAt K c C ∧ Cls K C ∧ Meth K C m fa ∧ Binds K fd ps [] ∧ FnOk P w K mg base CX0 k fa fd ps sp
theorem MthK.mono {P : Program} {w : World} {K : PySem.W.Frag} {mg : Str → Option Value} {base : Heap} {j k : Nat} {c m : Str} {sp : Sp} (h : MthK P w K mg base j c m sp) (hk : j ≤ k) : MthK P w K mg base k c m sp :=
  let ⟨C, fa, fd, ps, h1, h2, h3, h4, h5⟩ := h
  ⟨C, fa, fd, ps, h1, h2, h3, h4, h5.mono hk⟩
end
end Z
set_option Elab.async false
set_option linter.all false
set_option maxRecDepth 100000
set_option maxHeartbeats 4000000
namespace Z
open PySem PySem.Spec PyProof.Rows L2
/-- a class without an __eq__ of its own -/
def NonK (K : PySem.W.Frag) (c : Str) : Prop := ∃ C, ClsAt K c C ∧ PySem.W.mroIn K C (.type "object") = some true ∧ PySem.W.findIn K (.ref C) "__eq__" = some (some (.builtin "object.__eq__"))
end Z
namespace Z
open PySem PySem.Spec PyProof.Rows L2
/-- class c of the module: fields to read, isinstance -/
def ClsF (K : PySem.W.Frag) (mg : Str → Option Value) (c : Str) (fl : List Str) : Prop := ∃ C, ClsAt K c C ∧ mg c = some (.ref C) ∧ (∀ n ∈ fl, NoAttr K C n) ∧ C8.InsC K C
/-- .. with its __init__ -/
def ClsDef (K : PySem.W.Frag) (mg : Str → Option Value) (c : Str) (fl : List Str) (qual : Str) (st : Stmt) : Prop := ∃ (C fa : Addr) (fd : FuncData), ClsAt K c C ∧ mg c = some (.ref C) ∧ Cls K C ∧ (∀ n ∈ fl, NoAttr K C n) ∧ Mk K C fa ∧ Fun K "__init__" qual st fa fd
theorem ClsF.fld {K : PySem.W.Frag} {mg : Str → Option Value} {c : Str} {fl : List Str} (k : ClsF K mg c fl) {i : Nat} {f : Str} (h : fl[i]? = some f) : FldK K c f :=
  let ⟨C, h1, _, h3, h4⟩ := k
  ⟨C, h1, h4.cl, h3 f (List.mem_of_getElem? h)⟩
theorem ClsF.isi {K : PySem.W.Frag} {mg : Str → Option Value} {c : Str} {fl : List Str} (k : ClsF K mg c fl) : IsiK K mg c :=
  let ⟨C, h1, h2, _, h4⟩ := k
  ⟨C, h1, h2, h4⟩
theorem ClsF.non {K : PySem.W.Frag} {mg : Str → Option Value} {c : Str} {fl : List Str} {C : Addr} (k : ClsF K mg c fl) (a : PySem.W.nsIn K mainGlobals c = some (some (.ref C))) (h : PySem.W.findIn K (.ref C) "__eq__" = some (some (.builtin "object.__eq__"))) : NonK K c := by
  obtain ⟨C', h1, _, _, h4⟩ := k
  cases (show PySem.W.nsIn K mainGlobals c = some (some (.ref C')) from h1).symm.trans a
  exact ⟨_, a, h4.hm, h⟩
theorem kit_self {K : PySem.W.Frag} {C : Addr} : PySem.W.kitOne K (.ref C) (.ref C) = some true := by
  unfold PySem.W.kitOne
  rw [if_pos (beq_self_eq_true _)]
theorem ze_fldF {X : Cx} {pos : Pos} {c : Str} {fl : List Str} {e : Expr} {f : Str} {i : Nat} {m : ZM} (k : ClsF X.K X.mg c fl) (hn : fl.Nodup) (hi : fl[i]? = some f) (h : ZE X e m) (hb : attributeBase e f X.env (eval e X.env) = eval e X.env := by rfl) :
    ZE X (.Attribute e f pos) (zFld c fl i m) := ze_fld (k.fld hi) hn hi h hb
/-- the i-th statement of a class -/
def mtOf (s : Stmt) (j : Nat) : Stmt := match s with
  | .ClassDef _ _ _ b _ _ _ _ _ _ _ => b.getD j (.Pass ⟨0, 0, 0, 0⟩)
  | _ => .Pass ⟨0, 0, 0, 0⟩
end Z
set_option Elab.async false
set_option linter.all false
set_option maxRecDepth 100000
set_option maxHeartbeats 4000000
namespace Z
open PySem PySem.Spec PyProof.Rows L2
def CalG (P : Program) (w : World) (K : PySem.W.Frag) (mg : Str → Option Value) (base : Heap) (k : Nat) (x : Str) (sp : Sp) : Prop :=
  ∃ (f : Addr) (fd : FuncData) (ps : List Str), mg x = some (.ref f) ∧ PySem.W.keepIn K (.ref f) = true ∧ Binds K fd ps [] ∧ (∀ vs H Q E, sp vs H Q E → vs.length = ps.length) ∧ ∀ A : Around, Room k A → A.guards = some [] → FnA P w K mg base A f fd ps sp
theorem CalG.mono {P : Program} {w : World} {K : PySem.W.Frag} {mg : Str → Option Value} {base : Heap} {j k : Nat} {x : Str} {sp : Sp} (c : CalG P w K mg base j x sp) (h : j ≤ k) : CalG P w K mg base k x sp :=
  let ⟨f, fd, ps, h1, h2, h3, h4, h5⟩ := c
  ⟨f, fd, ps, h1, h2, h3, h4, fun A hr => h5 A (hr.mono h)⟩
end Z
set_option Elab.async false
set_option linter.all false
set_option maxRecDepth 100000
set_option maxHeartbeats 4000000
namespace Z
open PySem PySem.Spec PyProof.Rows L2
section
variable {g g1 g2 g3 : G}
theorem er_orVT {ma mb : ZM} {b1 : Bool} (h1 : ma g = some (.dat (.bl b1), g1)) (hb : b1 = true) : zOrV ma mb g = some (.dat (.bl true), g1) := by
  subst hb
  unfold zOrV; simp only [h1, isB, Option.bind_eq_bind, Option.bind_some]
  rfl
theorem er_andTF {s t : ZT} {b1 : Bool} (h1 : s g = some (b1, g1)) (hb : b1 = false) : zAndT s t g = some (false, g1) := by
  subst hb
  unfold zAndT; simp only [h1, Option.bind_eq_bind, Option.bind_some]
  rfl
theorem if_no {n : Nat} {t : ZT} {a b : SM} {o : Option (Fl × G)} (h : t g = some (false, g1)) (hg : g1.take n = g2) (k : b g2 = o) : zIfS n t a b g = o := by
  unfold zIfS; simp only [h, hg, Option.bind_eq_bind, Option.bind_some]
  exact k
theorem if_yes {n : Nat} {t : ZT} {a b : SM} {o : Option (Fl × G)} (h : t g = some (true, g1)) (hg : g1.take n = g2) (k : a g2 = o) : zIfS n t a b g = o := by
  unfold zIfS; simp only [h, hg, Option.bind_eq_bind, Option.bind_some, if_true]
  exact k
theorem ret_is {m : ZM} {r : R} (h : m g = some (r, g1)) : zRet m g = some (.ret r, g1) := by
  unfold zRet; simp only [h, Option.bind_eq_bind, Option.bind_some]
end
end Z
set_option Elab.async false
set_option linter.all false
set_option maxRecDepth 100000
set_option maxHeartbeats 4000000
namespace Z
open PySem PySem.Spec PyProof.Rows L2
end Z
set_option Elab.async false
set_option linter.all false
set_option maxRecDepth 100000
set_option maxHeartbeats 4000000
namespace Z
open PySem PySem.Spec PyProof.Rows L2
end Z
set_option Elab.async false
set_option linter.all false
set_option maxRecDepth 100000
set_option maxHeartbeats 4000000
namespace Z
open PySem PySem.Spec PyProof.Rows L2
def okS (i j c : Int) : Bool := decide (0 ≤ i) && decide (i ≤ 16777216) && decide (0 ≤ j) && decide (j ≤ 16777216) && decide (0 < c) && decide (c ≤ 1000000)
end Z
set_option Elab.async false
set_option linter.all false
set_option maxRecDepth 100000
set_option maxHeartbeats 4000000
namespace Z
open PySem PySem.Spec PyProof.Rows L2
/-- a statement of which nothing is promised -/
def zBar : SM := fun _ => none
theorem zs_bar {X : Cx} {st : Stmt} : ZS X st zBar := ⟨fun pins s σ H D I ⟨C, Hs, A, g, fl, g', hK, hn, ok, e, q⟩ => by cases e⟩
/-- name = f if test else h; target = name(..) -/
def zPick (i : Nat) (s : ZT) (F1 F2 : List D → Option FR) (n : Nat) (mr : ZAr) (tg : TD) : SM := fun g => do
  let (b, g1) ← s g
  if freeAt i g1 = true then zAsg n (zCall (if b = true then F1 else F2) mr) tg (g1.set i .un) else none
section
variable {X : Cx}
theorem zss_pick {i j : Nat} {x1 x2 act : Str} {F1 F2 : List D → Option FR} {s : ZT} {mr : ZAr} {tg c e : Expr} {es : List Expr} {td : TD} {rest : List Stmt} {r : SM} {p1 p2 p3 p4 p5 p6 p7 p8 : Pos}
    (c1 : Cal X.prog X.w X.K X.mg X.base j x1 (spP X.K F1)) (c2 : Cal X.prog X.w X.K X.mg X.base j x2 (spP X.K F2)) (hr : Room j X.A) (hg1 : Gl X x1) (hg2 : Gl X x2)
    (hN : X.N.Nodup) (hi : X.N[i]? = some act) (hx : Loc X.env.scope act) (hv : Vis X.env.scope act) (hc : ZTe X c s) (ha : ZAs X (e :: es) mr) (hG : ZG X tg td) (hrest : ZSs X rest r)
    (hd1 : (x1 == ("__debug__" : Str)) = false := by decide) (hd2 : (x2 == ("__debug__" : Str)) = false := by decide)
    (hsw : swapsWith (.IfExp c (.Name x1 p1) (.Name x2 p2) p3) (some (.Name act p4)) p5.line X.env = pure false := by rfl) (hf : X.fn act = true ∨ X.env.scope.names.lookup act = some .local := by first | exact .inl rfl | exact .inr rfl | assumption)
    (hd : (act == ("__debug__" : Str)) = false := by decide) (hcd : (act == ("__classdict__" : Str)) = false := by decide)
    (he : starEach (e :: es) X.env = (false, eval e X.env) :: starEach es X.env := by rfl) (hpl : (backTo p6 (starEach es X.env)).any (·.1) = false := by rfl)
    (hs : swapsWithSole [tg] (.Call (.Name act p7) (e :: es) [] p6) p8.line X.env = pure false := by rfl) (hw : swappedStores [tg] (.Call (.Name act p7) (e :: es) [] p6) X.env = pure none := by rfl)
    (h1 : (assignEach [tg] X.env).map (·.2) = [assign tg X.env] := by rfl) :
    ZSs X (.Assign [.Name act p4] (.IfExp c (.Name x1 p1) (.Name x2 p2) p3) p5 :: .Assign [tg] (.Call (.Name act p7) (e :: es) [] p6) p8 :: rest) (zSeq (zPick i s F1 F2 X.N.length mr td) r) := by
  obtain ⟨f1, fd1, ps1, hm1, kp1, b1, F1ok⟩ := c1
  obtain ⟨f2, fd2, ps2, hm2, kp2, b2, F2ok⟩ := c2
  have a1 : FnAt X.prog X.w X.K X.mg X.base j f1 (spP X.K F1) := ⟨fd1, ps1, kp1, b1, F1ok⟩
  have a2 : FnAt X.prog X.w X.K X.mg X.base j f2 (spP X.K F2) := ⟨fd2, ps2, kp2, b2, F2ok⟩
  refine PSs.of (pss_cons (ps_set hN hi hx (pe_ifExp hc (pe_glob (v := .ref f1) hg1 hm1 rfl hd1) (pe_glob (v := .ref f2) hg2 hm2 rfl hd2)) hsw hf) (pss_cons (ps_asg (pe_cf hr hi hv ha hd hcd he hpl) hG hs hw h1) hrest)) fun En σ H h => ?_
  obtain ⟨C, Hs, A, g, fl, g', hK, hn, ok, ev, q⟩ := seq_of h
  unfold zPick at ev
  simp only [Option.bind_eq_bind, Option.bind_eq_some_iff] at ev
  obtain ⟨⟨b, g1⟩, ht, ev⟩ := ev
  simp only at ev
  split at ev
  · rename_i hfree
    unfold zAsg at ev
    simp only [Option.bind_eq_bind, Option.bind_eq_some_iff] at ev
    obtain ⟨⟨r2, g2⟩, e1, ⟨d, g3⟩, e2, g4, e3, ev⟩ := ev
    cases ev
    refine ⟨C, Hs, A, g, b, g1, hK, hn, ok, ht, fun Hs1 A1 H1 s1 p1 ok1 => ?_⟩
    have hil : i < σ.length := by rw [ok1.ln, hn]; exact (List.getElem?_eq_some_iff.mp hi).1
    have fin : ∀ (f : Addr) (F : List D → Option FR), FnAt X.prog X.w X.K X.mg X.base j f (spP X.K F) → zCall F mr (g1.set i .un) = some (r2, g2) →
        ∃ f' sp, (σ.set i (some (.ref f)))[i]? = some (some (.ref f')) ∧ FnAt X.prog X.w X.K X.mg X.base j f' sp ∧ tZA X.K X.N.length mr (σ.set i (some (.ref f))) H1 fun vs H2 => sp vs H2 (fun x H3 => tZG X.K X.N.length td x (σ.set i (some (.ref f))) H3 fun σ' H' => tZS X.K X.N.length r En σ' H') E0 := fun f F hF hcall => by
      have ok2 : Ok C Hs1 A1 (g1.set i .un) (σ.set i (some (.ref f))) H1 := ok1.put hfree (by rw [List.length_set]) (fun k ne => List.getElem?_set_ne (Ne.symm ne)) (.inl rfl)
      refine ⟨f, spP X.K F, List.getElem?_set_self hil, hF, ?_⟩
      have hc : tZ X.K X.N.length (zCall F mr) (σ.set i (some (.ref f))) H1 (fun x H3 => tZG X.K X.N.length td x (σ.set i (some (.ref f))) H3 fun σ' H' => tZS X.K X.N.length r En σ' H') := ⟨C, Hs1, A1, _, r2, g2, hK, hn, ok2, hcall, fun Hs2 A2 v2 H2 s2 p2 ok3 rel3 => by
        obtain ⟨Hs3, s3, ok4, dz⟩ := ok3.frzR rel3 e2
        refine ⟨C, Hs3, A2, g3, d, g4, hK, hn, ok4, by rw [← hK]; exact dz, e3, fun σ'' ok5 => ?_⟩
        have ok6 := ok5.cut
        rw [hn] at ok6
        exact q Hs3 _ _ H2 ((s1.trans s2).trans s3) ok6⟩
      have hcall := call_of (E := E0) hc
      obtain ⟨C', Hs', A', g5, rs, g6, k1, k2, k3, k4, k5⟩ := hcall
      refine ⟨C', Hs', A', g5, rs, g6, k1, k2, k3, k4, fun Hs2 A2 vs H2 z1 z2 z3 z4 => ?_⟩
      have this : spP X.K F (vs ++ []) H2 _ E0 := k5 Hs2 A2 vs H2 z1 z2 z3 z4
      rw [List.append_nil] at this
      exact this
    cases b with
    | true => exact fin f1 F1 a1 e1
    | false => exact fin f2 F2 a2 e1
  · cases ev
end
end Z
set_option Elab.async false
set_option linter.all false
set_option maxRecDepth 100000
set_option maxHeartbeats 4000000
namespace Qk80
open PySem PySem.Spec PyProof.Rows L2 Z
def topS (i : Nat) : Stmt := PySem.Challenge.pw_stylobate_k80_records_and_fields.main.body.getD i (.Pass ⟨0, 0, 0, 0⟩)
noncomputable section
variable {P : Program} {w : World} {K : PySem.W.Frag} {mg : Str → Option Value} {base : Heap}
abbrev c_MARK : D := .str [34]
abbrev c_END : D := .str [10]
def fl_Field : List Str := ["text", "offset", "marked"]
theorem nd_Field : fl_Field.Nodup := by decide +kernel
abbrev st_Field : Stmt := mtOf (topS 6) 0
theorem sc_Field : FnScope ["self", "text", "offset", "marked"] ["self", "text", "offset", "marked"] (defScope st_Field) := ⟨rfl, rfl, rfl, by decide +kernel, rfl, by decide +kernel, by decide +kernel⟩
def i_Field : List D → Option (List D) := runI 4 4 [(zVar 1), (zVar 2), (zVar 3)]
set_option maxHeartbeats 4000000 in
theorem ok_Field (h : ClsDef K mg "Field" fl_Field "Field.__init__" st_Field) : ClsK P w K mg base 1 "Field" fl_Field i_Field := by
  obtain ⟨C, fa, fd, h1, h2, h3, h4, h5, F⟩ := h
  exact ⟨C, fa, fd, _, h1, h2, h3, h4, h5, F.binds (ps := ["self", "text", "offset", "marked"]) fun _ _ _ _ _ _ us hl => match us, hl with | [_, _, _, _], _ => rfl, okI F sc_Field nd_Field (by decide) rfl fun cdv A outer s0 H E hr =>
    zi_cons (pv 0) (ze_var rfl (pv 1)) (zi_cons (pv 0) (ze_var rfl (pv 2)) (zi_one (pv 0) (ze_var rfl (pv 3))))⟩
abbrev st__law_state : Stmt := topS 12
theorem sc__law_state : FnScope ["_law_cell_here", "_law_k", "_law_prime", "_law_first", "_law_second", "_law_third", "_law_fourth"] ["_law_cell_here", "_law_k"] (defScope st__law_state) := ⟨rfl, rfl, rfl, by decide +kernel, rfl, by decide +kernel, by decide +kernel⟩
def b__law_state : SM := zSeq (zIfS 7 (zTst (zOp geD (zVar 0) (zC (.int 1000000000000000000)))) (zRet (zLst (zCons (zVar 0) (zNil)))) (zNx)) (zSeq (zSet 7 2 (zC (.int 2305843009213693951))) (zSeq (zSet 7 3 (zOp modD (zCallS intU (zCons (zOp addS (zOp addS (zOp mulD (zVar 0) (zC (.int 6364136223))) (zOp mulD (zOp addS (zVar 1) (zC (.int 1))) (zC (.int 104729)))) (zC (.int 77))) (zNil))) (zVar 2))) (zSeq (zSet 7 4 (zOp modD (zCallS intU (zCons (zOp addS (zOp addS (zOp mulD (zVar 3) (zVar 3)) (zOp mulD (zC (.int 1013)) (zVar 3))) (zVar 1)) (zNil))) (zVar 2))) (zSeq (zSet 7 5 (zOp modD (zCallS intU (zCons (zOp addS (zOp addS (zOp mulD (zVar 4) (zC (.int 48271))) (zOp mulD (zVar 3) (zC (.int 31)))) (zC (.int 9))) (zNil))) (zVar 2))) (zSeq (zSet 7 6 (zOp modD (zCallS intU (zCons (zOp addS (zOp mulD (zVar 5) (zVar 5)) (zVar 4)) (zNil))) (zVar 2))) (zRet (zLst (zCons (zOp addS (zOp mulD (zOp addS (zOp mulD (zOp addS (zOp mulD (zVar 6) (zVar 2)) (zVar 5)) (zVar 2)) (zVar 4)) (zVar 2)) (zVar 3)) (zNil)))))))))
def d__law_state : List D → Option FR := runP 7 2 b__law_state
set_option maxHeartbeats 4000000 in
theorem ok__law_state (h : DefAt K mg "_law_state" st__law_state) (m_int : mg "int" = none) : Cal P w K mg base 1 "_law_state" (spP K d__law_state) := by
  obtain ⟨a, fd, h1, F⟩ := h
  exact ⟨a, fd, _, h1, F.kp, F.binds (ps := ["_law_cell_here", "_law_k"]) fun _ _ _ _ _ _ us hl => match us, hl with | [_, _], _ => rfl, okP F sc__law_state fun cdv A outer s0 H E hr =>
    zss_cons (zs_if (zt_cmp o_ge s_ge (ze_var rfl (pv 0)) (ze_int) (nomark _)) (zss_one (zs_ret (ze_lst (za_cons (ze_var rfl (pv 0)) (za_nil))))) (zss_nil)) (zss_cons (zs_set (i := 2) sc__law_state.nd rfl (Or.inl rfl) (ze_int)) (zss_cons (zs_set (i := 3) sc__law_state.nd rfl (Or.inl rfl) (ze_op o_mod s_mod (ze_callTy call_intU s_intU (by rfl) m_int (by decide +kernel) (za_cons (ze_op o_add s_add (ze_op o_add s_add (ze_op o_mul s_mul (ze_var rfl (pv 0)) (ze_int)) (ze_op o_mul s_mul (ze_op o_add s_add (ze_var rfl (pv 1)) (ze_int)) (ze_int))) (ze_int)) (za_nil))) (ze_var rfl (pv 2)))) (zss_cons (zs_set (i := 4) sc__law_state.nd rfl (Or.inl rfl) (ze_op o_mod s_mod (ze_callTy call_intU s_intU (by rfl) m_int (by decide +kernel) (za_cons (ze_op o_add s_add (ze_op o_add s_add (ze_op o_mul s_mul (ze_var rfl (pv 3)) (ze_var rfl (pv 3))) (ze_op o_mul s_mul (ze_int) (ze_var rfl (pv 3)))) (ze_var rfl (pv 1))) (za_nil))) (ze_var rfl (pv 2)))) (zss_cons (zs_set (i := 5) sc__law_state.nd rfl (Or.inl rfl) (ze_op o_mod s_mod (ze_callTy call_intU s_intU (by rfl) m_int (by decide +kernel) (za_cons (ze_op o_add s_add (ze_op o_add s_add (ze_op o_mul s_mul (ze_var rfl (pv 4)) (ze_int)) (ze_op o_mul s_mul (ze_var rfl (pv 3)) (ze_int))) (ze_int)) (za_nil))) (ze_var rfl (pv 2)))) (zss_cons (zs_set (i := 6) sc__law_state.nd rfl (Or.inl rfl) (ze_op o_mod s_mod (ze_callTy call_intU s_intU (by rfl) m_int (by decide +kernel) (za_cons (ze_op o_add s_add (ze_op o_mul s_mul (ze_var rfl (pv 5)) (ze_var rfl (pv 5))) (ze_var rfl (pv 4))) (za_nil))) (ze_var rfl (pv 2)))) (zss_one (zs_ret (ze_lst (za_cons (ze_op o_add s_add (ze_op o_mul s_mul (ze_op o_add s_add (ze_op o_mul s_mul (ze_op o_add s_add (ze_op o_mul s_mul (ze_var rfl (pv 6)) (ze_var rfl (pv 2))) (ze_var rfl (pv 5))) (ze_var rfl (pv 2))) (ze_var rfl (pv 4))) (ze_var rfl (pv 2))) (ze_var rfl (pv 3))) (za_nil))))))))))⟩
abbrev st__law_is_integer : Stmt := topS 14
theorem sc__law_is_integer : FnScope ["_law_told"] ["_law_told"] (defScope st__law_is_integer) := ⟨rfl, rfl, rfl, by decide +kernel, rfl, by decide +kernel, by decide +kernel⟩
def b__law_is_integer : SM := zRet (zAndV (zCallS isiD (zCons (zVar 0) (zCons (zC (.raw (.ty "int"))) (zNil)))) (zNotV (zCallS isiD (zCons (zVar 0) (zCons (zC (.raw (.ty "bool"))) (zNil))))))
def d__law_is_integer : List D → Option FR := runP 1 1 b__law_is_integer
set_option maxHeartbeats 4000000 in
theorem ok__law_is_integer (h : DefAt K mg "_law_is_integer" st__law_is_integer) (m_bool : mg "bool" = none) (m_int : mg "int" = none) (m_isinstance : mg "isinstance" = none) : Cal P w K mg base 1 "_law_is_integer" (spP K d__law_is_integer) := by
  obtain ⟨a, fd, h1, F⟩ := h
  exact ⟨a, fd, _, h1, F.kp, F.binds (ps := ["_law_told"]) fun _ _ _ _ _ _ us hl => match us, hl with | [_], _ => rfl, okP F sc__law_is_integer fun cdv A outer s0 H E hr =>
    zss_one (zs_ret (ze_and (ze_callB call_isiU s_isi (by rfl) m_isinstance (by decide +kernel) (za_cons (ze_var rfl (pv 0)) (za_cons (ze_bltn (by rfl) m_int (by decide +kernel) rfl) (za_nil)))) (ze_one (ze_not (ze_callB call_isiU s_isi (by rfl) m_isinstance (by decide +kernel) (za_cons (ze_var rfl (pv 0)) (za_cons (ze_bltn (by rfl) m_bool (by decide +kernel) rfl) (za_nil))))))))⟩
abbrev st__law_same : Stmt := topS 18
theorem sc__law_same : FnScope ["_law_told", "_law_due", "_law_k", "_law_j", "_law_field"] ["_law_told", "_law_due"] (defScope st__law_same) := ⟨rfl, rfl, rfl, by decide +kernel, rfl, by decide +kernel, by decide +kernel⟩
def lb__law_same_1 : SM := zFg [3, 4] (zSeq (zSet 5 4 (zIx (zIx (zVar 0) (zVar 2)) (zVar 3))) (zSeq (zIfS 5 (zOrT (zNotT (zTru (zIsO "Field" (zVar 4)))) (zOrT (zNotT (zTru (zCall d__law_is_integer (zCons (zFld "Field" fl_Field 1 (zVar 4)) (zNil))))) (zNotT (zTru (zCallS isiD (zCons (zFld "Field" fl_Field 2 (zVar 4)) (zCons (zC (.raw (.ty "bool"))) (zNil)))))))) (zRet (zC (.bl false))) (zNx)) (zIfS 5 (zTst (zOp neqD (zTup (zCons (zFld "Field" fl_Field 0 (zVar 4)) (zCons (zFld "Field" fl_Field 1 (zVar 4)) (zCons (zFld "Field" fl_Field 2 (zVar 4)) (zNil))))) (zIx (zIx (zVar 1) (zVar 2)) (zVar 3)))) (zRet (zC (.bl false))) (zNx))))
def lb__law_same_2 : SM := zFg [2, 3, 4] (zSeq (zIfS 5 (zOrT (zNotT (zTru (zCallS isiD (zCons (zIx (zVar 0) (zVar 2)) (zCons (zC (.raw (.ty "list"))) (zNil)))))) (zTst (zOp neqD (zCallS lenD (zCons (zIx (zVar 0) (zVar 2)) (zNil))) (zCallS lenD (zCons (zIx (zVar 1) (zVar 2)) (zNil)))))) (zRet (zC (.bl false))) (zNx)) (zFor 5 (ziR1 (zCons (zCallS lenD (zCons (zIx (zVar 1) (zVar 2)) (zNil))) (zNil))) (gN 3) (lb__law_same_1)))
def b__law_same : SM := zSeq (zIfS 5 (zOrT (zNotT (zTru (zCallS isiD (zCons (zVar 0) (zCons (zC (.raw (.ty "list"))) (zNil)))))) (zTst (zOp neqD (zCallS lenD (zCons (zVar 0) (zNil))) (zCallS lenD (zCons (zVar 1) (zNil)))))) (zRet (zC (.bl false))) (zNx)) (zSeq (zFor 5 (ziR1 (zCons (zCallS lenD (zCons (zVar 1) (zNil))) (zNil))) (gN 2) (lb__law_same_2)) (zRet (zC (.bl true))))
def d__law_same : List D → Option FR := runP 5 2 b__law_same
set_option maxHeartbeats 4000000 in
theorem ok__law_same (h : DefAt K mg "_law_same" st__law_same) (m_bool : mg "bool" = none) (m_isinstance : mg "isinstance" = none) (m_len : mg "len" = none) (m_list : mg "list" = none) (m_range : mg "range" = none) (k_Field : ClsF K mg "Field" fl_Field) (c__law_is_integer : Cal P w K mg base 1 "_law_is_integer" (spP K d__law_is_integer)) : Cal P w K mg base 2 "_law_same" (spP K d__law_same) := by
  obtain ⟨a, fd, h1, F⟩ := h
  exact ⟨a, fd, _, h1, F.kp, F.binds (ps := ["_law_told", "_law_due"]) fun _ _ _ _ _ _ us hl => match us, hl with | [_, _], _ => rfl, okP F sc__law_same fun cdv A outer s0 H E hr =>
    zss_cons (zs_if (zt_w (zw_or (zt_not (zt_truth (ze_callB call_isiU s_isi (by rfl) m_isinstance (by decide +kernel) (za_cons (ze_var rfl (pv 0)) (za_cons (ze_bltn (by rfl) m_list (by decide +kernel) rfl) (za_nil)))))) (zw_or1 (zt_cmp (o_ne hr) s_ne (ze_callB call_len s_len (by rfl) m_len PySem.boot_len (za_cons (ze_var rfl (pv 0)) (za_nil))) (ze_callB call_len s_len (by rfl) m_len PySem.boot_len (za_cons (ze_var rfl (pv 1)) (za_nil))) (nomark _))))) (zss_one (zs_ret (ze_bl))) (zss_nil)) (zss_cons (zs_for PassesOwn.never rfl (zi_range1 (by rfl) m_range (za_cons (ze_callB call_len s_len (by rfl) m_len PySem.boot_len (za_cons (ze_var rfl (pv 1)) (za_nil))) (za_nil))) (zg_name (i := 2) sc__law_same.nd rfl (Or.inl rfl)) (zss_fg (vs := [2, 3, 4]) (zss_cons (zs_if (zt_w (zw_or (zt_not (zt_truth (ze_callB call_isiU s_isi (by rfl) m_isinstance (by decide +kernel) (za_cons (ze_ix (ze_var rfl (pv 0)) (ze_var rfl (pv 2))) (za_cons (ze_bltn (by rfl) m_list (by decide +kernel) rfl) (za_nil)))))) (zw_or1 (zt_cmp (o_ne hr) s_ne (ze_callB call_len s_len (by rfl) m_len PySem.boot_len (za_cons (ze_ix (ze_var rfl (pv 0)) (ze_var rfl (pv 2))) (za_nil))) (ze_callB call_len s_len (by rfl) m_len PySem.boot_len (za_cons (ze_ix (ze_var rfl (pv 1)) (ze_var rfl (pv 2))) (za_nil))) (nomark _))))) (zss_one (zs_ret (ze_bl))) (zss_nil)) (zss_one (zs_for PassesOwn.never rfl (zi_range1 (by rfl) m_range (za_cons (ze_callB call_len s_len (by rfl) m_len PySem.boot_len (za_cons (ze_ix (ze_var rfl (pv 1)) (ze_var rfl (pv 2))) (za_nil))) (za_nil))) (zg_name (i := 3) sc__law_same.nd rfl (Or.inl rfl)) (zss_fg (vs := [3, 4]) (zss_cons (zs_set (i := 4) sc__law_same.nd rfl (Or.inl rfl) (ze_ix (ze_ix (ze_var rfl (pv 0)) (ze_var rfl (pv 2))) (ze_var rfl (pv 3)))) (zss_cons (zs_if (zt_w (zw_or (zt_not (zt_truth (ze_isO k_Field.isi (by rfl) m_isinstance (ze_var rfl (pv 4))))) (zw_or (zt_not (zt_truth (ze_call (c__law_is_integer.mono (by decide)) hr (za_cons (ze_fldF k_Field nd_Field rfl (ze_var rfl (pv 4))) (za_nil))))) (zw_or1 (zt_not (zt_truth (ze_callB call_isiU s_isi (by rfl) m_isinstance (by decide +kernel) (za_cons (ze_fldF k_Field nd_Field rfl (ze_var rfl (pv 4))) (za_cons (ze_bltn (by rfl) m_bool (by decide +kernel) rfl) (za_nil)))))))))) (zss_one (zs_ret (ze_bl))) (zss_nil)) (zss_one (zs_if (zt_cmp (o_ne hr) s_ne (ze_tup (za_cons (ze_fldF k_Field nd_Field rfl (ze_var rfl (pv 4))) (za_cons (ze_fldF k_Field nd_Field rfl (ze_var rfl (pv 4))) (za_cons (ze_fldF k_Field nd_Field rfl (ze_var rfl (pv 4))) (za_nil))))) (ze_ix (ze_ix (ze_var rfl (pv 1)) (ze_var rfl (pv 2))) (ze_var rfl (pv 3))) (nomark _)) (zss_one (zs_ret (ze_bl))) (zss_nil))))))))))) (zss_one (zs_ret (ze_bl))))⟩
abbrev st__law_cell : Stmt := topS 11
theorem sc__law_cell : FnScope ["_law_script", "_law_k"] ["_law_script", "_law_k"] (defScope st__law_cell) := ⟨rfl, rfl, rfl, by decide +kernel, rfl, by decide +kernel, by decide +kernel⟩
def b__law_cell : SM := zSeq (zIfS 2 (zTst (zOp ltX (zVar 1) (zCallS lenD (zCons (zVar 0) (zNil))))) (zRet (zIx (zVar 0) (zVar 1))) (zNx)) (zRet (zC (.int 0)))
def d__law_cell : List D → Option FR := runP 2 2 b__law_cell
set_option maxHeartbeats 4000000 in
theorem ok__law_cell (h : DefAt K mg "_law_cell" st__law_cell) (m_len : mg "len" = none) : Cal P w K mg base 1 "_law_cell" (spP K d__law_cell) := by
  obtain ⟨a, fd, h1, F⟩ := h
  exact ⟨a, fd, _, h1, F.kp, F.binds (ps := ["_law_script", "_law_k"]) fun _ _ _ _ _ _ us hl => match us, hl with | [_, _], _ => rfl, okP F sc__law_cell fun cdv A outer s0 H E hr =>
    zss_cons (zs_if (zt_cmp (o_ltX hr) s_ltX (ze_var rfl (pv 1)) (ze_callB call_len s_len (by rfl) m_len PySem.boot_len (za_cons (ze_var rfl (pv 0)) (za_nil))) (nomark _)) (zss_one (zs_ret (ze_ix (ze_var rfl (pv 0)) (ze_var rfl (pv 1))))) (zss_nil)) (zss_one (zs_ret (ze_int)))⟩
abbrev st__law_digit : Stmt := topS 13
theorem sc__law_digit : FnScope ["_law_state_here", "_law_many", "_law_digit_here"] ["_law_state_here", "_law_many"] (defScope st__law_digit) := ⟨rfl, rfl, rfl, by decide +kernel, rfl, by decide +kernel, by decide +kernel⟩
def b__law_digit : SM := zSeq (zSet 3 2 (zOp modD (zCallS intU (zCons (zIx (zVar 0) (zC (.int 0))) (zNil))) (zVar 1))) (zSeq (zSto 3 (zVar 0) (zC (.int 0)) (zOp divD (zIx (zVar 0) (zC (.int 0))) (zVar 1))) (zRet (zVar 2)))
def d__law_digit : Cn → List D → Option (FR × Cn) := runM 3 2 0 b__law_digit
set_option maxHeartbeats 4000000 in
theorem ok__law_digit (h : DefAt K mg "_law_digit" st__law_digit) (m_int : mg "int" = none) : Cal P w K mg base 1 "_law_digit" (spM K 0 d__law_digit) := by
  obtain ⟨a, fd, h1, F⟩ := h
  exact ⟨a, fd, _, h1, F.kp, F.binds (ps := ["_law_state_here", "_law_many"]) fun _ _ _ _ _ _ us hl => match us, hl with | [_, _], _ => rfl, okM F sc__law_digit fun cdv A outer s0 H E hr =>
    zss_cons (zs_set (i := 2) sc__law_digit.nd rfl (Or.inl rfl) (ze_op o_mod s_mod (ze_callTy call_intU s_intU (by rfl) m_int (by decide +kernel) (za_cons (ze_ix (ze_var rfl (pv 0)) (ze_int)) (za_nil))) (ze_var rfl (pv 1)))) (zss_cons (zs_sto (ze_op o_div s_div (ze_ix (ze_var rfl (pv 0)) (ze_int)) (ze_var rfl (pv 1))) (ze_var rfl (pv 0)) (ze_int)) (zss_one (zs_ret (ze_var rfl (pv 2)))))⟩
abbrev st_read_marked : Stmt := topS 7
theorem sc_read_marked : FnScope ["text", "at", "separator", "signs", "k", "behind"] ["text", "at", "separator"] (defScope st_read_marked) := ⟨rfl, rfl, rfl, by decide +kernel, rfl, by decide +kernel, by decide +kernel⟩
def lb_read_marked_1 : SM := zFg [5] (zIfS 6 (zTst (zOp neqD (zIx (zVar 0) (zVar 4)) (zC c_MARK))) (zSeq (zApp 6 (zVar 3) (zIx (zVar 0) (zVar 4))) (zSet 6 4 (zOp addS (zVar 4) (zC (.int 1))))) (zIfS 6 (zTst (zOp eqD (zSl (zVar 0) (zoS (zOp addS (zVar 4) (zC (.int 1)))) (zoS (zOp addS (zVar 4) (zC (.int 2))))) (zC c_MARK))) (zSeq (zApp 6 (zVar 3) (zC c_MARK)) (zSet 6 4 (zOp addS (zVar 4) (zC (.int 2))))) (zSeq (zSet 6 5 (zOp addS (zVar 4) (zC (.int 1)))) (zSeq (zIfS 6 (zAndT (zTst (zOp ltX (zVar 5) (zCallS lenD (zCons (zVar 0) (zNil))))) (zTst (zOp notinD (zIx (zVar 0) (zVar 5)) (zTup (zCons (zVar 2) (zCons (zC c_END) (zNil))))))) (zBar) (zNx)) (zRet (zTup (zCons (zMake "Field" fl_Field i_Field (zCons (zMt "str" joinD (zC (.str [])) (zCons (zVar 3) (zNil))) (zCons (zVar 1) (zCons (zC (.bl true)) (zNil))))) (zCons (zVar 5) (zNil)))))))))
def b_read_marked : SM := zSeq (zSet 6 3 (zLst (zNil))) (zSeq (zSet 6 4 (zOp addS (zVar 1) (zC (.int 1)))) (zSeq (zWh 6 (zTst (zOp ltX (zVar 4) (zCallS lenD (zCons (zVar 0) (zNil))))) (lb_read_marked_1)) (zBar)))
def d_read_marked : List D → Option FR := runP 6 3 b_read_marked
set_option maxHeartbeats 4000000 in
theorem ok_read_marked (h : DefAt K mg "read_marked" st_read_marked) (m_len : mg "len" = none) (hc_MARK : ConstD K mg "MARK" c_MARK) (hc_END : ConstD K mg "END" c_END) (c_Field : ClsK P w K mg base 1 "Field" fl_Field i_Field) : Cal P w K mg base 3 "read_marked" (spP K d_read_marked) := by
  obtain ⟨a, fd, h1, F⟩ := h
  exact ⟨a, fd, _, h1, F.kp, F.binds (ps := ["text", "at", "separator"]) fun _ _ _ _ _ _ us hl => match us, hl with | [_, _, _], _ => rfl, okP F sc_read_marked fun cdv A outer s0 H E hr =>
    zss_cons (zs_set (i := 3) sc_read_marked.nd rfl (Or.inl rfl) (ze_lst (za_nil))) (zss_cons (zs_set (i := 4) sc_read_marked.nd rfl (Or.inl rfl) (ze_op o_add s_add (ze_var rfl (pv 1)) (ze_int))) (zss_cons (zs_while PassesOwn.never (zt_cmp (o_ltX hr) s_ltX (ze_var rfl (pv 4)) (ze_callB call_len s_len (by rfl) m_len PySem.boot_len (za_cons (ze_var rfl (pv 0)) (za_nil))) (nomark _)) (zss_fg (vs := [5]) (zss_one (zs_if (zt_cmp (o_ne hr) s_ne (ze_ix (ze_var rfl (pv 0)) (ze_var rfl (pv 4))) (ze_cd hc_MARK) (nomark _)) (zss_cons (zs_app (ze_var rfl (pv 3)) (ze_ix (ze_var rfl (pv 0)) (ze_var rfl (pv 4)))) (zss_one (zs_set (i := 4) sc_read_marked.nd rfl (Or.inl rfl) (ze_op o_add s_add (ze_var rfl (pv 4)) (ze_int))))) (zss_one (zs_if (zt_cmp (o_eq hr) s_eq (ze_sl (ze_var rfl (pv 0)) (zo_some (ze_op o_add s_add (ze_var rfl (pv 4)) (ze_int))) (zo_some (ze_op o_add s_add (ze_var rfl (pv 4)) (ze_int)))) (ze_cd hc_MARK) (nomark _)) (zss_cons (zs_app (ze_var rfl (pv 3)) (ze_cd hc_MARK)) (zss_one (zs_set (i := 4) sc_read_marked.nd rfl (Or.inl rfl) (ze_op o_add s_add (ze_var rfl (pv 4)) (ze_int))))) (zss_cons (zs_set (i := 5) sc_read_marked.nd rfl (Or.inl rfl) (ze_op o_add s_add (ze_var rfl (pv 4)) (ze_int))) (zss_cons (zs_if (zt_w (zw_and (zt_cmp (o_ltX hr) s_ltX (ze_var rfl (pv 5)) (ze_callB call_len s_len (by rfl) m_len PySem.boot_len (za_cons (ze_var rfl (pv 0)) (za_nil))) (nomark _)) (zw_and1 (zt_cmp (o_notin hr) s_notin (ze_ix (ze_var rfl (pv 0)) (ze_var rfl (pv 5))) (ze_tup (za_cons (ze_var rfl (pv 2)) (za_cons (ze_cd hc_END) (za_nil)))) (by rfl))))) (zss_one (zs_bar)) (zss_nil)) (zss_one (zs_ret (ze_tup (za_cons (ze_make (c_Field.mono (by decide)) hr (za_cons (ze_mt PySem.F.plainAttrs_str PySem.F.slot_str_join PySem.F.type_str_join mt_join s_join (ze_str) (za_cons (ze_var rfl (pv 3)) (za_nil))) (za_cons (ze_var rfl (pv 1)) (za_cons (ze_bl) (za_nil))))) (za_cons (ze_var rfl (pv 5)) (za_nil)))))))))))))) (zss_one (zs_bar))))⟩
abbrev st_read_plain : Stmt := topS 8
theorem sc_read_plain : FnScope ["text", "at", "separator", "k"] ["text", "at", "separator"] (defScope st_read_plain) := ⟨rfl, rfl, rfl, by decide +kernel, rfl, by decide +kernel, by decide +kernel⟩
def lb_read_plain_1 : SM := zSeq (zIfS 4 (zTst (zOp eqD (zIx (zVar 0) (zVar 3)) (zC c_MARK))) (zBar) (zNx)) (zSet 4 3 (zOp addS (zVar 3) (zC (.int 1))))
def b_read_plain : SM := zSeq (zSet 4 3 (zVar 1)) (zSeq (zWh 4 (zAndT (zTst (zOp ltX (zVar 3) (zCallS lenD (zCons (zVar 0) (zNil))))) (zTst (zOp notinD (zIx (zVar 0) (zVar 3)) (zTup (zCons (zVar 2) (zCons (zC c_END) (zNil))))))) (lb_read_plain_1)) (zRet (zTup (zCons (zMake "Field" fl_Field i_Field (zCons (zSl (zVar 0) (zoS (zVar 1)) (zoS (zVar 3))) (zCons (zVar 1) (zCons (zC (.bl false)) (zNil))))) (zCons (zVar 3) (zNil))))))
def d_read_plain : List D → Option FR := runP 4 3 b_read_plain
set_option maxHeartbeats 4000000 in
theorem ok_read_plain (h : DefAt K mg "read_plain" st_read_plain) (m_len : mg "len" = none) (hc_MARK : ConstD K mg "MARK" c_MARK) (hc_END : ConstD K mg "END" c_END) (c_Field : ClsK P w K mg base 1 "Field" fl_Field i_Field) : Cal P w K mg base 3 "read_plain" (spP K d_read_plain) := by
  obtain ⟨a, fd, h1, F⟩ := h
  exact ⟨a, fd, _, h1, F.kp, F.binds (ps := ["text", "at", "separator"]) fun _ _ _ _ _ _ us hl => match us, hl with | [_, _, _], _ => rfl, okP F sc_read_plain fun cdv A outer s0 H E hr =>
    zss_cons (zs_set (i := 3) sc_read_plain.nd rfl (Or.inl rfl) (ze_var rfl (pv 1))) (zss_cons (zs_while PassesOwn.never (zt_w (zw_and (zt_cmp (o_ltX hr) s_ltX (ze_var rfl (pv 3)) (ze_callB call_len s_len (by rfl) m_len PySem.boot_len (za_cons (ze_var rfl (pv 0)) (za_nil))) (nomark _)) (zw_and1 (zt_cmp (o_notin hr) s_notin (ze_ix (ze_var rfl (pv 0)) (ze_var rfl (pv 3))) (ze_tup (za_cons (ze_var rfl (pv 2)) (za_cons (ze_cd hc_END) (za_nil)))) (by rfl))))) (zss_cons (zs_if (zt_cmp (o_eq hr) s_eq (ze_ix (ze_var rfl (pv 0)) (ze_var rfl (pv 3))) (ze_cd hc_MARK) (nomark _)) (zss_one (zs_bar)) (zss_nil)) (zss_one (zs_set (i := 3) sc_read_plain.nd rfl (Or.inl rfl) (ze_op o_add s_add (ze_var rfl (pv 3)) (ze_int)))))) (zss_one (zs_ret (ze_tup (za_cons (ze_make (c_Field.mono (by decide)) hr (za_cons (ze_sl (ze_var rfl (pv 0)) (zo_some (ze_var rfl (pv 1))) (zo_some (ze_var rfl (pv 3)))) (za_cons (ze_var rfl (pv 1)) (za_cons (ze_bl) (za_nil))))) (za_cons (ze_var rfl (pv 3)) (za_nil)))))))⟩
abbrev st_split_records : Stmt := topS 9
theorem sc_split_records : FnScope ["text", "separator", "records", "at", "fields", "more", "read", "field"] ["text", "separator"] (defScope st_split_records) := ⟨rfl, rfl, rfl, by decide +kernel, rfl, by decide +kernel, by decide +kernel⟩
def lb_split_records_1 : SM := zFg [6, 7] (zSeq (zPick 6 (zTst (zOp eqD (zSl (zVar 0) (zoS (zVar 3)) (zoS (zOp addS (zVar 3) (zC (.int 1))))) (zC c_MARK))) d_read_marked d_read_plain 8 (zCons (zVar 0) (zCons (zVar 3) (zCons (zVar 1) (zNil)))) (gT 2 (gCons' (gN 7) (gCons' (gN 3) (gNil'))))) (zSeq (zApp 8 (zVar 4) (zVar 7)) (zSeq (zSet 8 5 (zOp eqD (zSl (zVar 0) (zoS (zVar 3)) (zoS (zOp addS (zVar 3) (zC (.int 1))))) (zVar 1))) (zIfS 8 (zTru (zVar 5)) (zSet 8 3 (zOp addS (zVar 3) (zC (.int 1)))) (zNx)))))
def lb_split_records_2 : SM := zFg [4, 5, 6, 7] (zSeq (zSet 8 4 (zLst (zNil))) (zSeq (zSet 8 5 (zC (.bl true))) (zSeq (zWh 8 (zTru (zVar 5)) (lb_split_records_1)) (zSeq (zApp 8 (zVar 2) (zVar 4)) (zSet 8 3 (zOp addS (zVar 3) (zC (.int 1))))))))
def b_split_records : SM := zSeq (zSet 8 2 (zLst (zNil))) (zSeq (zSet 8 3 (zC (.int 0))) (zSeq (zWh 8 (zTst (zOp ltX (zVar 3) (zCallS lenD (zCons (zVar 0) (zNil))))) (lb_split_records_2)) (zRet (zVar 2))))
def d_split_records : List D → Option FR := runP 8 2 b_split_records
set_option maxHeartbeats 4000000 in
theorem ok_split_records (h : DefAt K mg "split_records" st_split_records) (m_len : mg "len" = none) (hc_MARK : ConstD K mg "MARK" c_MARK) (c_read_marked : Cal P w K mg base 3 "read_marked" (spP K d_read_marked)) (c_read_plain : Cal P w K mg base 3 "read_plain" (spP K d_read_plain)) : Cal P w K mg base 4 "split_records" (spP K d_split_records) := by
  obtain ⟨a, fd, h1, F⟩ := h
  exact ⟨a, fd, _, h1, F.kp, F.binds (ps := ["text", "separator"]) fun _ _ _ _ _ _ us hl => match us, hl with | [_, _], _ => rfl, okP F sc_split_records fun cdv A outer s0 H E hr =>
    zss_cons (zs_set (i := 2) sc_split_records.nd rfl (Or.inl rfl) (ze_lst (za_nil))) (zss_cons (zs_set (i := 3) sc_split_records.nd rfl (Or.inl rfl) (ze_int)) (zss_cons (zs_while PassesOwn.never (zt_cmp (o_ltX hr) s_ltX (ze_var rfl (pv 3)) (ze_callB call_len s_len (by rfl) m_len PySem.boot_len (za_cons (ze_var rfl (pv 0)) (za_nil))) (nomark _)) (zss_fg (vs := [4, 5, 6, 7]) (zss_cons (zs_set (i := 4) sc_split_records.nd rfl (Or.inl rfl) (ze_lst (za_nil))) (zss_cons (zs_set (i := 5) sc_split_records.nd rfl (Or.inl rfl) (ze_bl)) (zss_cons (zs_while PassesOwn.never (zt_truth (ze_var rfl (pv 5))) (zss_fg (vs := [6, 7]) (zss_pick (i := 6) (c_read_marked.mono (by decide)) (c_read_plain.mono (by decide)) hr (by rfl) (by rfl) sc_split_records.nd rfl (Or.inl rfl) (Or.inl rfl) (zt_cmp (o_eq hr) s_eq (ze_sl (ze_var rfl (pv 0)) (zo_some (ze_var rfl (pv 3))) (zo_some (ze_op o_add s_add (ze_var rfl (pv 3)) (ze_int)))) (ze_cd hc_MARK) (nomark _)) (za_cons (ze_var rfl (pv 0)) (za_cons (ze_var rfl (pv 3)) (za_cons (ze_var rfl (pv 1)) (za_nil)))) (zg_tup rfl (zgs_cons (zg_name (i := 7) sc_split_records.nd rfl (Or.inl rfl)) (zgs_cons (zg_name (i := 3) sc_split_records.nd rfl (Or.inl rfl)) (zgs_nil)))) (zss_cons (zs_app (ze_var rfl (pv 4)) (ze_var rfl (pv 7))) (zss_cons (zs_set (i := 5) sc_split_records.nd rfl (Or.inl rfl) (ze_cmp (o_eq hr) s_eq (ze_sl (ze_var rfl (pv 0)) (zo_some (ze_var rfl (pv 3))) (zo_some (ze_op o_add s_add (ze_var rfl (pv 3)) (ze_int)))) (ze_var rfl (pv 1)) (nomark _))) (zss_one (zs_if (zt_truth (ze_var rfl (pv 5))) (zss_one (zs_set (i := 3) sc_split_records.nd rfl (Or.inl rfl) (ze_op o_add s_add (ze_var rfl (pv 3)) (ze_int)))) (zss_nil)))))))) (zss_cons (zs_app (ze_var rfl (pv 2)) (ze_var rfl (pv 4))) (zss_one (zs_set (i := 3) sc_split_records.nd rfl (Or.inl rfl) (ze_op o_add s_add (ze_var rfl (pv 3)) (ze_int)))))))))) (zss_one (zs_ret (ze_var rfl (pv 2))))))⟩
abbrev st__law_field_text : Stmt := topS 15
theorem sc__law_field_text : FnScope ["_law_state_here", "_law_signs", "_law_k"] ["_law_state_here"] (defScope st__law_field_text) := ⟨rfl, rfl, rfl, by decide +kernel, rfl, by decide +kernel, by decide +kernel⟩
def b__law_field_text : SM := zSeq (zSet 3 1 (zC (.str [97, 98, 49, 44, 59, 32, 39, 34, 10, 45, 120]))) (zRet (zMt "str" joinD (zC (.str [])) (zCons (zLc (ziR1 (zCons (zCallM 0 d__law_digit (zCons (zVar 0) (zCons (zC (.int 6)) (zNil)))) (zNil))) (gN 2) (zYes) (zIx (zVar 1) (zCallM 0 d__law_digit (zCons (zVar 0) (zCons (zC (.int 11)) (zNil))))) [2]) (zNil))))
def d__law_field_text : Cn → List D → Option (FR × Cn) := runM 3 1 0 b__law_field_text
set_option maxHeartbeats 4000000 in
theorem ok__law_field_text (h : DefAt K mg "_law_field_text" st__law_field_text) (m_range : mg "range" = none) (c__law_digit : Cal P w K mg base 1 "_law_digit" (spM K 0 d__law_digit)) : Cal P w K mg base 2 "_law_field_text" (spM K 0 d__law_field_text) := by
  obtain ⟨a, fd, h1, F⟩ := h
  exact ⟨a, fd, _, h1, F.kp, F.binds (ps := ["_law_state_here"]) fun _ _ _ _ _ _ us hl => match us, hl with | [_], _ => rfl, okM F sc__law_field_text fun cdv A outer s0 H E hr =>
    zss_cons (zs_set (i := 1) sc__law_field_text.nd rfl (Or.inr rfl) (ze_str)) (zss_one (zs_ret (ze_mt PySem.F.plainAttrs_str PySem.F.slot_str_join PySem.F.type_str_join mt_join s_join (ze_str) (za_cons (ze_lc (own := [("_law_k", 2)]) rfl sc__law_field_text.nd (zi_range1 (by rfl) m_range (za_cons (ze_callM (c__law_digit.mono (by decide)) hr (za_cons (ze_var rfl (pv 0)) (za_cons (ze_int) (za_nil)))) (za_nil))) (blkOk_by (N := ["_law_state_here", "_law_signs", "_law_k"]) (own := [("_law_k", 2)]) (sc := defScope st__law_field_text) (by decide +kernel)) (fun _ _ _ _ _ => zgw_name (i := 2) sc__law_field_text.nd rfl (Or.inl rfl) (by decide)) (fun _ _ _ _ _ => zts_nil) (fun _ _ _ _ _ => ze_ix (ze_var rfl (pv 1)) (ze_callM (c__law_digit.mono (by decide)) hr (za_cons (ze_var rfl (pv 0)) (za_cons (ze_int) (za_nil)))))) (za_nil)))))⟩
abbrev st__law_must_mark : Stmt := topS 17
theorem sc__law_must_mark : FnScope ["_law_text", "_law_separator"] ["_law_text", "_law_separator"] (defScope st__law_must_mark) := ⟨rfl, rfl, rfl, by decide +kernel, rfl, by decide +kernel, by decide +kernel⟩
def b__law_must_mark : SM := zRet (zOrV (zOp inD (zVar 1) (zVar 0)) (zOrV (zOp inD (zC (.str [34])) (zVar 0)) (zOp inD (zC (.str [10])) (zVar 0))))
def d__law_must_mark : List D → Option FR := runP 2 2 b__law_must_mark
set_option maxHeartbeats 4000000 in
theorem ok__law_must_mark (h : DefAt K mg "_law_must_mark" st__law_must_mark) : Cal P w K mg base 1 "_law_must_mark" (spP K d__law_must_mark) := by
  obtain ⟨a, fd, h1, F⟩ := h
  exact ⟨a, fd, _, h1, F.kp, F.binds (ps := ["_law_text", "_law_separator"]) fun _ _ _ _ _ _ us hl => match us, hl with | [_, _], _ => rfl, okP F sc__law_must_mark fun cdv A outer s0 H E hr =>
    zss_one (zs_ret (ze_or (ze_cmp (o_in hr) s_in (ze_var rfl (pv 1)) (ze_var rfl (pv 0)) (by rfl)) (ze_or (ze_cmp (o_in hr) s_in (ze_str) (ze_var rfl (pv 0)) (by rfl)) (ze_one (ze_cmp (o_in hr) s_in (ze_str) (ze_var rfl (pv 0)) (by rfl))))))⟩
abbrev st__law_written : Stmt := topS 16
theorem sc__law_written : FnScope ["_law_text", "_law_separator", "_law_marked", "_law_sign"] ["_law_text", "_law_separator", "_law_marked"] (defScope st__law_written) := ⟨rfl, rfl, rfl, by decide +kernel, rfl, by decide +kernel, by decide +kernel⟩
def b__law_written : SM := zSeq (zIfS 4 (zNotT (zTru (zVar 2))) (zRet (zVar 0)) (zNx)) (zRet (zOp addS (zOp addS (zC (.str [34])) (zMt "str" joinD (zC (.str [])) (zCons (zLc (ziS (zVar 0)) (gN 3) (zYes) (zIf (zTst (zOp eqD (zVar 3) (zC (.str [34])))) (zC (.str [34, 34])) (zVar 3)) [3]) (zNil)))) (zC (.str [34]))))
def d__law_written : List D → Option FR := runP 4 3 b__law_written
set_option maxHeartbeats 4000000 in
theorem ok__law_written (h : DefAt K mg "_law_written" st__law_written) : Cal P w K mg base 1 "_law_written" (spP K d__law_written) := by
  obtain ⟨a, fd, h1, F⟩ := h
  exact ⟨a, fd, _, h1, F.kp, F.binds (ps := ["_law_text", "_law_separator", "_law_marked"]) fun _ _ _ _ _ _ us hl => match us, hl with | [_, _, _], _ => rfl, okP F sc__law_written fun cdv A outer s0 H E hr =>
    zss_cons (zs_if (zt_not (zt_truth (ze_var rfl (pv 2)))) (zss_one (zs_ret (ze_var rfl (pv 0)))) (zss_nil)) (zss_one (zs_ret (ze_op o_add s_add (ze_op o_add s_add (ze_str) (ze_mt PySem.F.plainAttrs_str PySem.F.slot_str_join PySem.F.type_str_join mt_join s_join (ze_str) (za_cons (ze_lc (own := [("_law_sign", 3)]) rfl sc__law_written.nd (zi_str (ze_var rfl (pv 0))) (blkOk_by (N := ["_law_text", "_law_separator", "_law_marked", "_law_sign"]) (own := [("_law_sign", 3)]) (sc := defScope st__law_written) (by decide +kernel)) (fun _ _ _ _ _ => zgw_name (i := 3) sc__law_written.nd rfl (Or.inl rfl) (by decide)) (fun _ _ _ _ _ => zts_nil) (fun _ _ _ _ _ => ze_if (zt_cmp (o_eq hr) s_eq (ze_var rfl (pv 3)) (ze_str) (nomark _)) (ze_str) (ze_var rfl (pv 3)))) (za_nil)))) (ze_str))))⟩
abbrev st_law : Stmt := topS 19
theorem sc_law : FnScope ["_law_script", "_law_state_here", "_law_separator", "_law_text", "_law_records", "_law_many", "_law_k", "_law_record", "_law_j", "_law_field", "_law_marked"] ["_law_script"] (defScope st_law) := ⟨rfl, rfl, rfl, by decide +kernel, rfl, by decide +kernel, by decide +kernel⟩
def lb_law_1 : SM := zFg [8, 9, 10] (zSeq (zIfS 11 (zTst (zOp gtD (zVar 8) (zC (.int 0)))) (zSet 11 3 (zOp addS (zVar 3) (zVar 2))) (zNx)) (zSeq (zSet 11 9 (zCallM 0 d__law_field_text (zCons (zVar 1) (zNil)))) (zSeq (zSet 11 10 (zOrV (zCall d__law_must_mark (zCons (zVar 9) (zCons (zVar 2) (zNil)))) (zOp eqD (zCallM 0 d__law_digit (zCons (zVar 1) (zCons (zC (.int 4)) (zNil)))) (zC (.int 0))))) (zSeq (zApp 11 (zVar 7) (zTup (zCons (zVar 9) (zCons (zCallS lenD (zCons (zVar 3) (zNil))) (zCons (zVar 10) (zNil)))))) (zSet 11 3 (zOp addS (zVar 3) (zCall d__law_written (zCons (zVar 9) (zCons (zVar 2) (zCons (zVar 10) (zNil)))))))))))
def lb_law_2 : SM := zFg [1, 6, 7, 8, 9, 10] (zSeq (zSet 11 1 (zCall d__law_state (zCons (zCall d__law_cell (zCons (zVar 0) (zCons (zVar 6) (zNil)))) (zCons (zOp addS (zC (.int 1)) (zVar 6)) (zNil))))) (zSeq (zSet 11 7 (zLst (zNil))) (zSeq (zFor 11 (ziR1 (zCons (zOp addS (zC (.int 1)) (zCallM 0 d__law_digit (zCons (zVar 1) (zCons (zC (.int 5)) (zNil))))) (zNil))) (gN 8) (lb_law_1)) (zSeq (zApp 11 (zVar 4) (zVar 7)) (zIfS 11 (zOrT (zTst (zOp ltX (zVar 6) (zOp subD (zVar 5) (zC (.int 1))))) (zOrT (zTst (zOp eqD (zCallM 0 d__law_digit (zCons (zVar 1) (zCons (zC (.int 2)) (zNil)))) (zC (.int 0)))) (zTst (zOp eqD (zVar 7) (zLst (zCons (zTup (zCons (zC (.str [])) (zCons (zIx (zIx (zVar 7) (zC (.int 0))) (zC (.int 1))) (zCons (zC (.bl false)) (zNil))))) (zNil))))))) (zSet 11 3 (zOp addS (zVar 3) (zC (.str [10])))) (zNx))))))
def b_law : SM := zSeq (zSet 11 1 (zCall d__law_state (zCons (zCall d__law_cell (zCons (zVar 0) (zCons (zC (.int 0)) (zNil)))) (zCons (zC (.int 0)) (zNil))))) (zSeq (zSet 11 2 (zIx (zTup (zCons (zC (.str [44])) (zCons (zC (.str [59])) (zCons (zC (.str [32])) (zNil))))) (zCallM 0 d__law_digit (zCons (zVar 1) (zCons (zC (.int 3)) (zNil)))))) (zSeq (zSet 11 3 (zC (.str []))) (zSeq (zSet 11 4 (zLst (zNil))) (zSeq (zSet 11 5 (zCallS minD (zCons (zC (.int 8)) (zCons (zCallS lenD (zCons (zVar 0) (zNil))) (zNil))))) (zSeq (zFgB [1] (zFor 11 (ziR1 (zCons (zVar 5) (zNil))) (gN 6) (lb_law_2))) (zSeq (zIfS 11 (zNotT (zTru (zCall d__law_same (zCons (zCall d_split_records (zCons (zVar 3) (zCons (zVar 2) (zNil)))) (zCons (zVar 4) (zNil)))))) (zRet (zC (.bl false))) (zNx)) (zSeq (zIfS 11 (zNotT (zTru (zCall d__law_same (zCons (zCall d_split_records (zCons (zOp addS (zVar 3) (zC (.str [10]))) (zCons (zVar 2) (zNil)))) (zCons (zCatL (zVar 4) (zLst (zCons (zLst (zCons (zTup (zCons (zC (.str [])) (zCons (zCallS lenD (zCons (zVar 3) (zNil))) (zCons (zC (.bl false)) (zNil))))) (zNil))) (zNil)))) (zNil)))))) (zRet (zAndV (zOp neqD (zSl (zVar 3) (zoS (zOp subD (zCallS lenD (zCons (zVar 3) (zNil))) (zC (.int 1)))) (zoN)) (zC (.str [10]))) (zOp gtD (zCallS lenD (zCons (zVar 3) (zNil))) (zC (.int 0))))) (zNx)) (zRet (zCall d__law_same (zCons (zCall d_split_records (zCons (zC (.str [])) (zCons (zVar 2) (zNil)))) (zCons (zLst (zNil)) (zNil))))))))))))
def d_law : List D → Option FR := runP 11 1 b_law
set_option maxHeartbeats 4000000 in
theorem ok_law {f : Addr} {fd : FuncData} (F : Fun K "law" "law" st_law f fd) (m_len : mg "len" = none) (m_min : mg "min" = none) (m_range : mg "range" = none) (c__law_state : Cal P w K mg base 1 "_law_state" (spP K d__law_state)) (c__law_same : Cal P w K mg base 2 "_law_same" (spP K d__law_same)) (c__law_cell : Cal P w K mg base 1 "_law_cell" (spP K d__law_cell)) (c__law_digit : Cal P w K mg base 1 "_law_digit" (spM K 0 d__law_digit)) (c_split_records : Cal P w K mg base 4 "split_records" (spP K d_split_records)) (c__law_field_text : Cal P w K mg base 2 "_law_field_text" (spM K 0 d__law_field_text)) (c__law_must_mark : Cal P w K mg base 1 "_law_must_mark" (spP K d__law_must_mark)) (c__law_written : Cal P w K mg base 1 "_law_written" (spP K d__law_written)) : FnA P w K mg base callerA f fd ["_law_script"] (spP K d_law) :=
  okA (k := 4) F sc_law ⟨rfl, by decide, by decide⟩ fun cdv outer s0 H E hr =>
    zss_cons (zs_set (i := 1) sc_law.nd rfl (Or.inl rfl) (ze_call (c__law_state.mono (by decide)) hr (za_cons (ze_call (c__law_cell.mono (by decide)) hr (za_cons (ze_var rfl (pv 0)) (za_cons (ze_int) (za_nil)))) (za_cons (ze_int) (za_nil))))) (zss_cons (zs_set (i := 2) sc_law.nd rfl (Or.inl rfl) (ze_ix (ze_tup (za_cons (ze_str) (za_cons (ze_str) (za_cons (ze_str) (za_nil))))) (ze_callM (c__law_digit.mono (by decide)) hr (za_cons (ze_var rfl (pv 1)) (za_cons (ze_int) (za_nil)))))) (zss_cons (zs_set (i := 3) sc_law.nd rfl (Or.inl rfl) (ze_str)) (zss_cons (zs_set (i := 4) sc_law.nd rfl (Or.inl rfl) (ze_lst (za_nil))) (zss_cons (zs_set (i := 5) sc_law.nd rfl (Or.inl rfl) (ze_callB (call_min2 rfl) s_min (by rfl) m_min (by decide +kernel) (za_cons (ze_int) (za_cons (ze_callB call_len s_len (by rfl) m_len PySem.boot_len (za_cons (ze_var rfl (pv 0)) (za_nil))) (za_nil))))) (zss_cons (zs_fgB (vs := [1]) (zs_for PassesOwn.never rfl (zi_range1 (by rfl) m_range (za_cons (ze_var rfl (pv 5)) (za_nil))) (zg_name (i := 6) sc_law.nd rfl (Or.inl rfl)) (zss_fg (vs := [1, 6, 7, 8, 9, 10]) (zss_cons (zs_set (i := 1) sc_law.nd rfl (Or.inl rfl) (ze_call (c__law_state.mono (by decide)) hr (za_cons (ze_call (c__law_cell.mono (by decide)) hr (za_cons (ze_var rfl (pv 0)) (za_cons (ze_var rfl (pv 6)) (za_nil)))) (za_cons (ze_op o_add s_add (ze_int) (ze_var rfl (pv 6))) (za_nil))))) (zss_cons (zs_set (i := 7) sc_law.nd rfl (Or.inl rfl) (ze_lst (za_nil))) (zss_cons (zs_for PassesOwn.never rfl (zi_range1 (by rfl) m_range (za_cons (ze_op o_add s_add (ze_int) (ze_callM (c__law_digit.mono (by decide)) hr (za_cons (ze_var rfl (pv 1)) (za_cons (ze_int) (za_nil))))) (za_nil))) (zg_name (i := 8) sc_law.nd rfl (Or.inl rfl)) (zss_fg (vs := [8, 9, 10]) (zss_cons (zs_if (zt_cmp o_gt s_gt (ze_var rfl (pv 8)) (ze_int) (nomark _)) (zss_one (zs_set (i := 3) sc_law.nd rfl (Or.inl rfl) (ze_op o_add s_add (ze_var rfl (pv 3)) (ze_var rfl (pv 2))))) (zss_nil)) (zss_cons (zs_set (i := 9) sc_law.nd rfl (Or.inl rfl) (ze_callM (c__law_field_text.mono (by decide)) hr (za_cons (ze_var rfl (pv 1)) (za_nil)))) (zss_cons (zs_set (i := 10) sc_law.nd rfl (Or.inl rfl) (ze_or (ze_call (c__law_must_mark.mono (by decide)) hr (za_cons (ze_var rfl (pv 9)) (za_cons (ze_var rfl (pv 2)) (za_nil)))) (ze_one (ze_cmp (o_eq hr) s_eq (ze_callM (c__law_digit.mono (by decide)) hr (za_cons (ze_var rfl (pv 1)) (za_cons (ze_int) (za_nil)))) (ze_int) (nomark _))))) (zss_cons (zs_app (ze_var rfl (pv 7)) (ze_tup (za_cons (ze_var rfl (pv 9)) (za_cons (ze_callB call_len s_len (by rfl) m_len PySem.boot_len (za_cons (ze_var rfl (pv 3)) (za_nil))) (za_cons (ze_var rfl (pv 10)) (za_nil)))))) (zss_one (zs_set (i := 3) sc_law.nd rfl (Or.inl rfl) (ze_op o_add s_add (ze_var rfl (pv 3)) (ze_call (c__law_written.mono (by decide)) hr (za_cons (ze_var rfl (pv 9)) (za_cons (ze_var rfl (pv 2)) (za_cons (ze_var rfl (pv 10)) (za_nil)))))))))))))) (zss_cons (zs_app (ze_var rfl (pv 4)) (ze_var rfl (pv 7))) (zss_one (zs_if (zt_w (zw_or (zt_cmp (o_ltX hr) s_ltX (ze_var rfl (pv 6)) (ze_op op_sub s_sub (ze_var rfl (pv 5)) (ze_int)) (nomark _)) (zw_or (zt_cmp (o_eq hr) s_eq (ze_callM (c__law_digit.mono (by decide)) hr (za_cons (ze_var rfl (pv 1)) (za_cons (ze_int) (za_nil)))) (ze_int) (nomark _)) (zw_or1 (zt_cmp (o_eq hr) s_eq (ze_var rfl (pv 7)) (ze_lst (za_cons (ze_tup (za_cons (ze_str) (za_cons (ze_ix (ze_ix (ze_var rfl (pv 7)) (ze_int)) (ze_int)) (za_cons (ze_bl) (za_nil))))) (za_nil))) (nomark _)))))) (zss_one (zs_set (i := 3) sc_law.nd rfl (Or.inl rfl) (ze_op o_add s_add (ze_var rfl (pv 3)) (ze_str)))) (zss_nil)))))))))) (zss_cons (zs_if (zt_not (zt_truth (ze_call (c__law_same.mono (by decide)) hr (za_cons (ze_call (c_split_records.mono (by decide)) hr (za_cons (ze_var rfl (pv 3)) (za_cons (ze_var rfl (pv 2)) (za_nil)))) (za_cons (ze_var rfl (pv 4)) (za_nil)))))) (zss_one (zs_ret (ze_bl))) (zss_nil)) (zss_cons (zs_if (zt_not (zt_truth (ze_call (c__law_same.mono (by decide)) hr (za_cons (ze_call (c_split_records.mono (by decide)) hr (za_cons (ze_op o_add s_add (ze_var rfl (pv 3)) (ze_str)) (za_cons (ze_var rfl (pv 2)) (za_nil)))) (za_cons (ze_catL (ze_var rfl (pv 4)) (ze_lst (za_cons (ze_lst (za_cons (ze_tup (za_cons (ze_str) (za_cons (ze_callB call_len s_len (by rfl) m_len PySem.boot_len (za_cons (ze_var rfl (pv 3)) (za_nil))) (za_cons (ze_bl) (za_nil))))) (za_nil))) (za_nil)))) (za_nil)))))) (zss_one (zs_ret (ze_and (ze_cmp (o_ne hr) s_ne (ze_sl (ze_var rfl (pv 3)) (zo_some (ze_op op_sub s_sub (ze_callB call_len s_len (by rfl) m_len PySem.boot_len (za_cons (ze_var rfl (pv 3)) (za_nil))) (ze_int))) (zo_none)) (ze_str) (nomark _)) (ze_one (ze_cmp o_gt s_gt (ze_callB call_len s_len (by rfl) m_len PySem.boot_len (za_cons (ze_var rfl (pv 3)) (za_nil))) (ze_int) (nomark _)))))) (zss_nil)) (zss_one (zs_ret (ze_call (c__law_same.mono (by decide)) hr (za_cons (ze_call (c_split_records.mono (by decide)) hr (za_cons (ze_str) (za_cons (ze_var rfl (pv 2)) (za_nil)))) (za_cons (ze_lst (za_nil)) (za_nil)))))))))))))
end
end Qk80
set_option Elab.async false
set_option linter.all false
set_option maxRecDepth 100000
set_option maxHeartbeats 4000000
namespace Qk80
open PySem PySem.Spec PyProof.Rows L2 Z
local macro_rules | `(tactic| walk_at "l") => `(tactic| first | (simp only [wipeG_nil, wipeG_cons, List.set_cons_succ, List.set_cons_zero, List.take_succ_cons, List.take_zero, List.take_nil, List.cons_append, List.nil_append, List.length_cons, List.length_nil, List.set_nil, List.getElem?_cons_zero, List.getElem?_cons_succ, Nat.zero_add, Nat.reduceAdd]; first | done | exact rfl) | exact rfl)
local macro_rules | `(tactic| walk_at "d") => `(tactic| first
  | with_reducible assumption
  | (with_reducible apply dr_div) <;> decide
  | (with_reducible apply dr_mod) <;> decide
  | (with_reducible apply dr_mulr); decide
  | (with_reducible apply dr_mull); decide
  | (with_reducible apply dr_divB) <;> omega
  | (with_reducible apply dr_mulrB) <;> omega
  | (with_reducible apply dr_mullB) <;> omega
  | (with_reducible apply dr_mulC) <;> omega
  | (with_reducible apply dr_mod) <;> omega
  | (with_reducible refine isi_of ?_ ?_); (exact rfl); (first | exact kb_int_int | exact kb_int_bool | exact kb_bool_bool | exact kb_bool_int | exact kb_str_int | exact kb_str_bool | exact kb_str_str | exact kb_int_str | exact kb_bool_str | exact kb_non_int | exact kb_non_bool | exact kb_non_str | exact kb_list_list | exact kb_tuple_tuple | exact kb_list_tuple | exact kb_tuple_list)
  | with_reducible exact dr_abs
  | (with_reducible exact dr_neL _ _)
  | (simp only [Cn.d]; with_reducible assumption)
  | (simp only [Cn.d]; with_reducible exact dr_neL _ _)
  | with_reducible exact in_ints _ _
  | (simp only [Cn.d]; with_reducible exact in_ints _ _)
  | ((with_reducible apply dr_cat); (try simp only [List.length_append, List.length_cons, List.length_nil]); omega)
  | with_reducible exact dr_eqI
  | with_reducible exact dr_eqB
  | with_reducible exact dr_neB
  | with_reducible exact dr_eqS
  | with_reducible exact dr_neI
  | with_reducible exact dr_neS
  | exact rfl)
local macro_rules | `(tactic| walk_at "c") => `(tactic| first | with_reducible assumption | (simp only [Cn.d]; with_reducible assumption))
local macro_rules | `(tactic| walk_at "e") => `(tactic| first
  | with_reducible exact er_C
  | with_reducible exact er_nil
  | (with_reducible apply er_varD); exact rfl
  | (with_reducible apply er_varO); exact rfl
  | (with_reducible apply er_varF); exact rfl
  | (with_reducible apply er_op); walk_at "e"; walk_at "e"; exact rfl; exact rfl; walk_at "d"; exact rfl
  | (with_reducible apply er_chain); walk_at "e"; walk_at "e"; exact rfl; exact rfl; walk_at "d"; (intro _h; walk_at "e"); exact rfl; walk_at "d"
  | (with_reducible apply er_slS); walk_at "e"; walk_at "o"; walk_at "o"; exact rfl; walk_at "z"
  | (with_reducible apply er_slL); walk_at "e"; walk_at "o"; walk_at "o"; exact rfl
  | (with_reducible apply er_list); walk_at "e"; exact rfl; exact rfl
  | (with_reducible apply er_tupL); walk_at "e"; exact rfl
  | (with_reducible apply er_un); walk_at "e"; exact rfl; exact rfl; exact rfl
  | (with_reducible apply er_tst); walk_at "e"
  | (with_reducible apply er_tru); walk_at "e"; exact rfl; exact rfl
  | (with_reducible apply er_andT); walk_at "e"; (intro _h; walk_at "e")
  | (with_reducible apply er_orT); walk_at "e"; (intro _h; walk_at "e")
  | (with_reducible apply er_andTT); walk_at "e"; exact rfl; walk_at "e"
  | (with_reducible apply er_orTF); walk_at "e"; exact rfl; walk_at "e"
  | (with_reducible apply er_notT); walk_at "e"
  | (with_reducible apply er_andV); walk_at "e"; (intro _h; walk_at "e")
  | (with_reducible apply er_orV); walk_at "e"; (intro _h; walk_at "e")
  | (with_reducible apply er_notV); walk_at "e"
  | (with_reducible apply er_andVT); walk_at "e"; exact rfl; walk_at "e"
  | (with_reducible apply er_orVF); walk_at "e"; exact rfl; walk_at "e"
  | (with_reducible apply er_ix); walk_at "e"; walk_at "e"; exact rfl; walk_at "x"
  | (with_reducible apply er_callS); walk_at "e"; exact rfl; walk_at "d"; exact rfl
  | (with_reducible apply er_cons); walk_at "e"; walk_at "e"
  | (with_reducible apply er_callG); walk_at "e"; exact rfl; exact rfl; walk_at "c"; exact rfl
  | (with_reducible apply er_callH); walk_at "e"; exact rfl; exact rfl; walk_at "c"; exact rfl
  | (with_reducible apply er_callV); walk_at "e"; exact rfl; walk_at "c"; exact rfl
  | (with_reducible apply er_callGF); walk_at "e"; exact rfl; exact rfl; walk_at "c"; exact rfl
  | (with_reducible apply er_callHF); walk_at "e"; exact rfl; exact rfl; walk_at "c"; exact rfl
  | (with_reducible apply er_callM); walk_at "e"; exact rfl; exact rfl; exact rfl; exact rfl; exact rfl; walk_at "c"; exact rfl
  | (with_reducible apply er_catL); walk_at "e"; walk_at "e"; exact rfl; exact rfl; walk_at "z"
  | (with_reducible apply er_mt); walk_at "e"; exact rfl; exact rfl; walk_at "e"; exact rfl; exact rfl; walk_at "m"; exact rfl
  | (with_reducible apply er_tup); walk_at "e"; exact rfl; walk_at "z" 
  | (with_reducible apply er_lst); walk_at "e"; exact rfl; walk_at "z")
local macro_rules | `(tactic| walk_at "o") => `(tactic| first | exact er_zoN | ((with_reducible apply er_zoS); walk_at "e"))
local macro_rules | `(tactic| walk_at "x") => `(tactic| first | with_reducible assumption | (simp only [Cn.d]; with_reducible assumption) | exact rfl)
local macro_rules | `(tactic| walk_at "m") => `(tactic| first | with_reducible assumption | (simp only [Cn.d]; with_reducible assumption) | exact rfl)
local macro_rules | `(tactic| walk_at "st") => `(tactic| first
  | ((with_reducible apply set_dat); (walk_at "e"); (exact rfl); walk_at "l")
  | ((with_reducible apply set_own); (walk_at "e"); (exact Nat.le_of_ble_eq_true rfl); (exact rfl); (exact rfl); walk_at "l")
  | ((with_reducible apply asg_run); (walk_at "e"); (exact rfl); walk_at "l")
  | ((with_reducible apply aug_run); (exact rfl); (exact rfl); (walk_at "e"); (exact rfl); (walk_at "d"); (exact rfl); (exact rfl); walk_at "l")
  | ((with_reducible apply sto_run); (walk_at "e"); (walk_at "e"); (walk_at "e"); (exact rfl); (walk_at "x"); walk_at "l")
  | ((with_reducible apply app_run); (walk_at "e"); (exact rfl); (walk_at "e"); (exact rfl); (exact rfl); (walk_at "z"); walk_at "l"))
local macro_rules | `(tactic| walk_at "z") => `(tactic| first | assumption | exact Nat.le_of_ble_eq_true rfl | (simp; omega))
local macro_rules | `(tactic| walk_at "s") => `(tactic| first
  | with_reducible apply sr_nx
  | with_reducible apply sr_assoc
  | with_reducible apply ap_fg
  | ((with_reducible apply fgK_nx); (exact rfl); (walk_at "l"); skip)
  | ((with_reducible apply fgK_ct); (exact rfl); (walk_at "l"); skip)
  | ((with_reducible apply fgK_bk); (exact rfl); (walk_at "l"); skip)
  | with_reducible apply fgK_ret
  | with_reducible apply sr_bk1
  | with_reducible apply sr_ct1
  | with_reducible apply sr_nx1
  | with_reducible apply sr_ct
  | with_reducible apply sr_bk
  | (with_reducible apply sr_retS); (walk_at "e"); skip
  | (with_reducible apply sr_ret); (walk_at "e"); skip
  | (with_reducible apply sr_if); (walk_at "e"); (walk_at "l")
  | (with_reducible apply sr_if1); (walk_at "e"); (walk_at "l")
  | (with_reducible apply seq_nx); (walk_at "st")
  | (with_reducible apply one_nx); (walk_at "st"))
local macro_rules | `(tactic| walk_at "r") => `(tactic| repeat' (first | (intro _) | walk_at "s"))
local macro_rules | `(tactic| walk_at "k") => `(tactic| (intro q; (try simp only [decide_eq_true_eq, decide_eq_false_iff_not, beq_iff_eq, beq_eq_false_iff_ne, ne_eq, Bool.not_eq_true', Bool.not_eq_false', Bool.and_eq_true, Bool.or_eq_true, Bool.and_eq_false_iff, Bool.or_eq_false_iff, Int.not_lt, Int.not_le, List.cons.injEq, and_true, reduceCtorEq, beq_self_eq_true, Bool.not_true, Bool.not_false, Bool.or_false, Bool.false_or, Bool.or_true, Bool.true_or, Bool.and_false, Bool.false_and, Bool.and_true, Bool.true_and, not_true_eq_false, Bool.false_eq_true] at q) <;> (try (exfalso; first | (cases q; done) | omega | contradiction))))
local macro_rules | `(tactic| walk_at "w") => `(tactic| repeat' (first | (walk_at "k") | walk_at "s"))
local macro_rules | `(tactic| walk_at "e") => `(tactic| first | ((with_reducible apply er_ifT); (walk_at "e"); (walk_at "e")) | ((with_reducible apply er_ifF); (walk_at "e"); (walk_at "e")))
theorem state_ok (c k : Int) : ∃ s, d__law_state [.int c, .int k] = some (.new (.lst [.int s])) := by
  have P : ∃ fr, d__law_state [.int c, .int k] = some fr ∧ ∃ s, fr = .new (.lst [.int s]) := by
    unfold d__law_state b__law_state
    refine runP_post (g := [.dat (.int c), .dat (.int k), .un, .un, .un, .un, .un]) rfl rfl ?_
    walk_at "s"
    · intro _
      walk_at "s"
      exact end_post rfl ⟨_, rfl⟩
    · intro _
      walk_at "s"
      walk_at "s"
      walk_at "s"
      have f1 := Int.emod_nonneg (c * 6364136223 + (k + 1) * 104729 + 77) (show (2305843009213693951 : Int) ≠ 0 by decide)
      have f2 := Int.emod_lt_of_pos (c * 6364136223 + (k + 1) * 104729 + 77) (show (0 : Int) < 2305843009213693951 by decide)
      generalize (c * 6364136223 + (k + 1) * 104729 + 77) % 2305843009213693951 = f at *
      walk_at "s"
      have g1 := Int.emod_nonneg (f * f + 1013 * f + k) (show (2305843009213693951 : Int) ≠ 0 by decide)
      have g2 := Int.emod_lt_of_pos (f * f + 1013 * f + k) (show (0 : Int) < 2305843009213693951 by decide)
      generalize (f * f + 1013 * f + k) % 2305843009213693951 = h at *
      walk_at "s"
      have h1 := Int.emod_nonneg (h * 48271 + f * 31 + 9) (show (2305843009213693951 : Int) ≠ 0 by decide)
      have h2 := Int.emod_lt_of_pos (h * 48271 + f * 31 + 9) (show (0 : Int) < 2305843009213693951 by decide)
      generalize (h * 48271 + f * 31 + 9) % 2305843009213693951 = t at *
      walk_at "s"
      walk_at "s"
      exact end_post rfl ⟨_, rfl⟩
  obtain ⟨fr, h, s, rfl⟩ := P
  exact ⟨s, h⟩
theorem digit_ok (s m : Int) (h0 : 0 < m) (h1 : m < 2 ^ 256) : d__law_digit (.lst [.int s]) [.int m] = some (.dat (.int (s % m)), .lst [.int (s / m)]) := by
  unfold d__law_digit b__law_digit
  refine runM_ap (g := [.own (.lst [.int s]) true false, .dat (.int m), .un]) rfl (Nat.zero_le _) rfl ?_
  walk_at "s"
  walk_at "s"
  walk_at "s"
  exact rfl
theorem cell_ok (ns : List Int) (k : Int) (hk : 0 ≤ k) : ∃ c, d__law_cell [scriptD ns, .int k] = some (.dat (.int c)) := by
  have P : ∃ fr, d__law_cell [scriptD ns, .int k] = some fr ∧ ∃ c, fr = .dat (.int c) := by
    unfold d__law_cell b__law_cell
    refine runP_post (g := [.dat (scriptD ns), .dat (.int k)]) rfl rfl ?_
    walk_at "s"
    · intro q
      have q := of_decide_eq_true q
      rw [List.length_map] at q
      obtain ⟨x, h1, _⟩ := atI_lt (xs := ns) hk q
      have hx : ixD (scriptD ns) k = some (.int x) := atI_map (f := D.int) h1
      walk_at "s"
      exact end_post rfl ⟨_, rfl⟩
    · intro _
      walk_at "s"
      walk_at "s"
      exact end_post rfl ⟨_, rfl⟩
  obtain ⟨fr, h, c, rfl⟩ := P
  exact ⟨c, h⟩
theorem digitOk : DigitOk d__law_digit := fun s m h0 h1 => digit_ok s m h0 h1
theorem ftext_ok (s : Int) : ∃ t s', d__law_field_text (stZ s) [] = some (.dat (.str t), stZ s') ∧ t.length ≤ 5 ∧ ∀ c ∈ t, c < 127 := by
  obtain ⟨s', acc, e, hl, hc⟩ := draw_word digitOk [97, 98, 49, 44, 59, 32, 39, 34, 10, 45, 120] (N := 11) (M := 6) rfl (by decide) (by decide) (by decide) (by decide) true s
  refine ⟨acc, s', ?_, by omega, fun c h => by have := hc c h; clear h; revert this; revert c; decide⟩
  unfold d__law_field_text b__law_field_text
  refine runM_ap (g := [.own (stZ s) true false, .un, .un]) rfl (Nat.zero_le _) rfl ?_
  walk_at "s"
  exact sr_ret e rfl
/-- what must be marked -/
def mustB (sep : Nat) (t : List Nat) : Bool := decide (sep ∈ t) || (decide (34 ∈ t) || decide (10 ∈ t))
theorem must_ok (sep : Nat) (t : List Nat) : d__law_must_mark [.str t, .str [sep]] = some (.dat (.bl (mustB sep t))) := by
  unfold d__law_must_mark b__law_must_mark
  refine runP_ap (g := [.dat (.str t), .dat (.str [sep])]) rfl rfl ?_
  exact sr_ret (er_orV (er_op rfl rfl rfl rfl rfl rfl) fun _ => er_orV (er_op er_C rfl rfl rfl rfl rfl) fun _ => er_op er_C rfl rfl rfl rfl rfl) rfl
def esc (t : List Nat) : List Nat := t.flatMap fun c => if c = 34 then [34, 34] else [c]
def wr (t : List Nat) (m : Bool) : List Nat := if m = true then 34 :: (esc t ++ [34]) else t
theorem esc_len (t : List Nat) : (esc t).length ≤ 2 * t.length := by
  induction t with
  | nil => exact Nat.le_refl _
  | cons c t ih =>
    unfold esc at ih ⊢
    rw [List.flatMap_cons, List.length_append, List.length_cons]
    split <;> simp only [List.length_cons, List.length_nil] <;> omega
end Qk80
set_option Elab.async false
set_option linter.all false
set_option maxRecDepth 100000
set_option maxHeartbeats 4000000
namespace Qk80
open PySem PySem.Spec PyProof.Rows L2 Z
local macro_rules | `(tactic| walk_at "l") => `(tactic| first | (simp only [wipeG_nil, wipeG_cons, List.set_cons_succ, List.set_cons_zero, List.take_succ_cons, List.take_zero, List.take_nil, List.cons_append, List.nil_append, List.length_cons, List.length_nil, List.set_nil, List.getElem?_cons_zero, List.getElem?_cons_succ, Nat.zero_add, Nat.reduceAdd]; first | done | exact rfl) | exact rfl)
local macro_rules | `(tactic| walk_at "d") => `(tactic| first
  | with_reducible assumption
  | (with_reducible apply dr_div) <;> decide
  | (with_reducible apply dr_mod) <;> decide
  | (with_reducible apply dr_mulr); decide
  | (with_reducible apply dr_mull); decide
  | (with_reducible apply dr_divB) <;> omega
  | (with_reducible apply dr_mulrB) <;> omega
  | (with_reducible apply dr_mullB) <;> omega
  | (with_reducible apply dr_mulC) <;> omega
  | (with_reducible apply dr_mod) <;> omega
  | (with_reducible refine isi_of ?_ ?_); (exact rfl); (first | exact kb_int_int | exact kb_int_bool | exact kb_bool_bool | exact kb_bool_int | exact kb_str_int | exact kb_str_bool | exact kb_str_str | exact kb_int_str | exact kb_bool_str | exact kb_non_int | exact kb_non_bool | exact kb_non_str | exact kb_list_list | exact kb_tuple_tuple | exact kb_list_tuple | exact kb_tuple_list)
  | with_reducible exact dr_abs
  | (with_reducible exact dr_neL _ _)
  | (simp only [Cn.d]; with_reducible assumption)
  | (simp only [Cn.d]; with_reducible exact dr_neL _ _)
  | with_reducible exact in_ints _ _
  | (simp only [Cn.d]; with_reducible exact in_ints _ _)
  | ((with_reducible apply dr_cat); (try simp only [List.length_append, List.length_cons, List.length_nil]); omega)
  | with_reducible exact dr_eqI
  | with_reducible exact dr_eqB
  | with_reducible exact dr_neB
  | with_reducible exact dr_eqS
  | with_reducible exact dr_neI
  | with_reducible exact dr_neS
  | exact rfl)
local macro_rules | `(tactic| walk_at "c") => `(tactic| first | with_reducible assumption | (simp only [Cn.d]; with_reducible assumption))
local macro_rules | `(tactic| walk_at "e") => `(tactic| first
  | with_reducible exact er_C
  | with_reducible exact er_nil
  | (with_reducible apply er_varD); exact rfl
  | (with_reducible apply er_varO); exact rfl
  | (with_reducible apply er_varF); exact rfl
  | (with_reducible apply er_op); walk_at "e"; walk_at "e"; exact rfl; exact rfl; walk_at "d"; exact rfl
  | (with_reducible apply er_chain); walk_at "e"; walk_at "e"; exact rfl; exact rfl; walk_at "d"; (intro _h; walk_at "e"); exact rfl; walk_at "d"
  | (with_reducible apply er_slS); walk_at "e"; walk_at "o"; walk_at "o"; exact rfl; walk_at "z"
  | (with_reducible apply er_slL); walk_at "e"; walk_at "o"; walk_at "o"; exact rfl
  | (with_reducible apply er_list); walk_at "e"; exact rfl; exact rfl
  | (with_reducible apply er_tupL); walk_at "e"; exact rfl
  | (with_reducible apply er_un); walk_at "e"; exact rfl; exact rfl; exact rfl
  | (with_reducible apply er_tst); walk_at "e"
  | (with_reducible apply er_tru); walk_at "e"; exact rfl; exact rfl
  | (with_reducible apply er_andT); walk_at "e"; (intro _h; walk_at "e")
  | (with_reducible apply er_orT); walk_at "e"; (intro _h; walk_at "e")
  | (with_reducible apply er_andTT); walk_at "e"; exact rfl; walk_at "e"
  | (with_reducible apply er_orTF); walk_at "e"; exact rfl; walk_at "e"
  | (with_reducible apply er_notT); walk_at "e"
  | (with_reducible apply er_andV); walk_at "e"; (intro _h; walk_at "e")
  | (with_reducible apply er_orV); walk_at "e"; (intro _h; walk_at "e")
  | (with_reducible apply er_notV); walk_at "e"
  | (with_reducible apply er_andVT); walk_at "e"; exact rfl; walk_at "e"
  | (with_reducible apply er_orVF); walk_at "e"; exact rfl; walk_at "e"
  | (with_reducible apply er_ix); walk_at "e"; walk_at "e"; exact rfl; walk_at "x"
  | (with_reducible apply er_callS); walk_at "e"; exact rfl; walk_at "d"; exact rfl
  | (with_reducible apply er_cons); walk_at "e"; walk_at "e"
  | (with_reducible apply er_callG); walk_at "e"; exact rfl; exact rfl; walk_at "c"; exact rfl
  | (with_reducible apply er_callH); walk_at "e"; exact rfl; exact rfl; walk_at "c"; exact rfl
  | (with_reducible apply er_callV); walk_at "e"; exact rfl; walk_at "c"; exact rfl
  | (with_reducible apply er_callGF); walk_at "e"; exact rfl; exact rfl; walk_at "c"; exact rfl
  | (with_reducible apply er_callHF); walk_at "e"; exact rfl; exact rfl; walk_at "c"; exact rfl
  | (with_reducible apply er_callM); walk_at "e"; exact rfl; exact rfl; exact rfl; exact rfl; exact rfl; walk_at "c"; exact rfl
  | (with_reducible apply er_catL); walk_at "e"; walk_at "e"; exact rfl; exact rfl; walk_at "z"
  | (with_reducible apply er_mt); walk_at "e"; exact rfl; exact rfl; walk_at "e"; exact rfl; exact rfl; walk_at "m"; exact rfl
  | (with_reducible apply er_tup); walk_at "e"; exact rfl; walk_at "z" 
  | (with_reducible apply er_lst); walk_at "e"; exact rfl; walk_at "z")
local macro_rules | `(tactic| walk_at "o") => `(tactic| first | exact er_zoN | ((with_reducible apply er_zoS); walk_at "e"))
local macro_rules | `(tactic| walk_at "x") => `(tactic| first | with_reducible assumption | (simp only [Cn.d]; with_reducible assumption) | exact rfl)
local macro_rules | `(tactic| walk_at "m") => `(tactic| first | with_reducible assumption | (simp only [Cn.d]; with_reducible assumption) | exact rfl)
local macro_rules | `(tactic| walk_at "st") => `(tactic| first
  | ((with_reducible apply set_dat); (walk_at "e"); (exact rfl); walk_at "l")
  | ((with_reducible apply set_own); (walk_at "e"); (exact Nat.le_of_ble_eq_true rfl); (exact rfl); (exact rfl); walk_at "l")
  | ((with_reducible apply asg_run); (walk_at "e"); (exact rfl); walk_at "l")
  | ((with_reducible apply aug_run); (exact rfl); (exact rfl); (walk_at "e"); (exact rfl); (walk_at "d"); (exact rfl); (exact rfl); walk_at "l")
  | ((with_reducible apply sto_run); (walk_at "e"); (walk_at "e"); (walk_at "e"); (exact rfl); (walk_at "x"); walk_at "l")
  | ((with_reducible apply app_run); (walk_at "e"); (exact rfl); (walk_at "e"); (exact rfl); (exact rfl); (walk_at "z"); walk_at "l"))
local macro_rules | `(tactic| walk_at "z") => `(tactic| first | assumption | exact Nat.le_of_ble_eq_true rfl | (simp; omega))
local macro_rules | `(tactic| walk_at "s") => `(tactic| first
  | with_reducible apply sr_nx
  | with_reducible apply sr_assoc
  | with_reducible apply ap_fg
  | ((with_reducible apply fgK_nx); (exact rfl); (walk_at "l"); skip)
  | ((with_reducible apply fgK_ct); (exact rfl); (walk_at "l"); skip)
  | ((with_reducible apply fgK_bk); (exact rfl); (walk_at "l"); skip)
  | with_reducible apply fgK_ret
  | with_reducible apply sr_bk1
  | with_reducible apply sr_ct1
  | with_reducible apply sr_nx1
  | with_reducible apply sr_ct
  | with_reducible apply sr_bk
  | (with_reducible apply sr_retS); (walk_at "e"); skip
  | (with_reducible apply sr_ret); (walk_at "e"); skip
  | (with_reducible apply sr_if); (walk_at "e"); (walk_at "l")
  | (with_reducible apply sr_if1); (walk_at "e"); (walk_at "l")
  | (with_reducible apply seq_nx); (walk_at "st")
  | (with_reducible apply one_nx); (walk_at "st"))
local macro_rules | `(tactic| walk_at "r") => `(tactic| repeat' (first | (intro _) | walk_at "s"))
local macro_rules | `(tactic| walk_at "k") => `(tactic| (intro q; (try simp only [decide_eq_true_eq, decide_eq_false_iff_not, beq_iff_eq, beq_eq_false_iff_ne, ne_eq, Bool.not_eq_true', Bool.not_eq_false', Bool.and_eq_true, Bool.or_eq_true, Bool.and_eq_false_iff, Bool.or_eq_false_iff, Int.not_lt, Int.not_le, List.cons.injEq, and_true, reduceCtorEq, beq_self_eq_true, Bool.not_true, Bool.not_false, Bool.or_false, Bool.false_or, Bool.or_true, Bool.true_or, Bool.and_false, Bool.false_and, Bool.and_true, Bool.true_and, not_true_eq_false, Bool.false_eq_true] at q) <;> (try (exfalso; first | (cases q; done) | omega | contradiction))))
local macro_rules | `(tactic| walk_at "w") => `(tactic| repeat' (first | (walk_at "k") | walk_at "s"))
theorem cut_nat {α : Type} (l : List α) (a s : Nat) : cutL l (some (a : Int)) (some ((a : Int) + (s : Int))) = (l.drop a).take s := by
  have i1 : HT.sIx l.length 0 (some (a : Int)) = min a l.length := by
    simp [HT.sIx]
    omega
  have i2 : HT.sIx l.length l.length (some ((a : Int) + (s : Int))) = min (a + s) l.length := by
    simp only [HT.sIx]
    split <;> omega
  unfold cutL
  rw [i1, i2]
  by_cases h : a ≤ l.length
  · rw [Nat.min_eq_left h]
    by_cases h2 : a + s ≤ l.length
    · rw [Nat.min_eq_left h2, Nat.add_sub_cancel_left]
    · rw [Nat.min_eq_right (by omega), List.take_of_length_le (by rw [List.length_drop]; omega), List.take_of_length_le (by rw [List.length_drop]; omega)]
  · rw [Nat.min_eq_right (show l.length ≤ a by omega), List.drop_of_length_le (Nat.le_refl _), List.drop_of_length_le (show l.length ≤ a by omega), List.take_nil, List.take_nil]
theorem drop_cons {T r : List Nat} {k c : Nat} (h : T.drop k = c :: r) : k < T.length ∧ T[k]? = some c ∧ T.drop (k + 1) = r := by
  have h1 : k < T.length := by
    by_cases z : k < T.length
    · exact z
    · rw [List.drop_of_length_le (by omega)] at h
      cases h
  rw [List.drop_eq_getElem_cons h1] at h
  injection h with h2 h3
  exact ⟨h1, by rw [List.getElem?_eq_getElem h1, h2], h3⟩
theorem drop_nil {T : List Nat} {k : Nat} (h : T.drop k = []) : T.length ≤ k := List.drop_eq_nil_iff.mp h
theorem drop_app {T a r : List Nat} {k : Nat} (h : T.drop k = a ++ r) : T.drop (k + a.length) = r := by
  rw [← List.drop_drop, h, List.drop_left]
theorem ixT {T r : List Nat} {k c : Nat} (hz : T.length ≤ 10000) (h : T.drop k = c :: r) : ixD (.str T) (k : Int) = some (.str [c]) :=
  dr_ixS (Nat.le_trans hz (by decide)) (atI_nat (drop_cons h).2.1)
/-- what may stand behind a field -/
def Stop (sep : Nat) (r : List Nat) : Prop := r = [] ∨ ∃ c t, r = c :: t ∧ (c = sep ∨ c = 10)
theorem nin (sep c : Nat) : notinD (.str [c]) (.tup [.str [sep], .str [10]]) = some (.bl (!(([sep] == [c]) || (([10] == [c]) || false)))) := rfl
theorem nin_no {sep c : Nat} (h : c = sep ∨ c = 10) : notinD (.str [c]) (.tup [.str [sep], .str [10]]) = some (.bl false) := by
  rw [nin]
  rcases h with rfl | rfl <;> simp
theorem nin_yes {sep c : Nat} (h : c ≠ sep) (h2 : c ≠ 10) : notinD (.str [c]) (.tup [.str [sep], .str [10]]) = some (.bl true) := by
  rw [nin]
  have a : (sep == c) = false := by simp; exact fun e => h e.symm
  have b : (10 == c) = false := by simp; exact fun e => h2 e.symm
  simp [a, b]
theorem seq_is {st rest : SM} {g g1 : G} {o : Option (Fl × G)} (h : st g = some (.nx, g1)) (k : rest g1 = o) : zSeq st rest g = o := by
  unfold zSeq; simp only [h, Option.bind_eq_bind, Option.bind_some]; exact k
abbrev fD (f : List Nat) (a : Int) (m : Bool) : D := .obj "Field" fl_Field [.str f, .int a, .bl m]
abbrev GP (T : List Nat) (a : Int) (sep : Nat) (k : Int) : G := [.dat (.str T), .dat (.int a), .dat (.str [sep]), .dat (.int k)]
abbrev tP : ZT := zAndT (zTst (zOp ltX (zVar 3) (zCallS lenD (zCons (zVar 0) (zNil))))) (zTst (zOp notinD (zIx (zVar 0) (zVar 3)) (zTup (zCons (zVar 2) (zCons (zC c_END) (zNil))))))
theorem lenT {T : List Nat} (hz : T.length ≤ 10000) : lenD [.str T] = some (.int ((T.length : Nat) : Int)) := by
  show (if T.length ≤ sizeLine then some (D.int (T.length : Int)) else none) = _
  rw [if_pos (Nat.le_trans hz (by decide))]
theorem tP_len {T : List Nat} (hz : T.length ≤ 10000) (a : Int) (sep : Nat) (k : Int) : zTst (zOp ltX (zVar 3) (zCallS lenD (zCons (zVar 0) (zNil)))) (GP T a sep k) = some (decide (k < ((T.length : Nat) : Int)), GP T a sep k) := er_tst (er_op rfl (er_callS (er_cons rfl er_nil) rfl (lenT hz) rfl) rfl rfl rfl rfl)
theorem tP_at {T : List Nat} {a : Int} {sep : Nat} {k : Nat} {c : Nat} {b : Bool} (ix : ixD (.str T) (k : Int) = some (.str [c])) (h : notinD (.str [c]) (.tup [.str [sep], .str [10]]) = some (.bl b)) : zTst (zOp notinD (zIx (zVar 0) (zVar 3)) (zTup (zCons (zVar 2) (zCons (zC c_END) (zNil))))) (GP T a sep (k : Int)) = some (b, GP T a sep (k : Int)) :=
  er_tst (er_op (er_ix rfl rfl rfl ix) (er_tup (er_cons rfl (er_cons er_C er_nil)) rfl (Nat.le_of_ble_eq_true rfl)) rfl rfl h rfl)
theorem plain_loop {T : List Nat} (hz : T.length ≤ 10000) (a : Int) (sep : Nat) {rest : List Nat} (hr : Stop sep rest) : ∀ (f : List Nat) (k : Nat), T.drop k = f ++ rest → (∀ c ∈ f, c ≠ sep ∧ c ≠ 34 ∧ c ≠ 10) →
    zWh 4 tP lb_read_plain_1 (GP T a sep (k : Int)) = some (.nx, GP T a sep ((k + f.length : Nat) : Int))
  | [], k, h, _ => by
    rw [List.nil_append] at h
    have e := tP_len hz a sep (k : Int)
    rcases hr with rfl | ⟨c, t, rfl, hc⟩
    · have l := drop_nil h
      rw [decide_eq_false (by omega)] at e
      exact wh_stop (er_andTF e rfl) rfl
    · have l := (drop_cons h).1
      rw [decide_eq_true (by omega)] at e
      exact wh_stop (er_andTT e rfl (tP_at (ixT hz h) (nin_no hc))) rfl
  | c :: f, k, h, hf => by
    obtain ⟨c1, c2, c3⟩ := hf c List.mem_cons_self
    have l := (drop_cons h).1
    have e := tP_len hz a sep (k : Int)
    rw [decide_eq_true (by omega)] at e
    have ix := ixT hz h
    have ih := plain_loop hz a sep hr f (k + 1) (drop_cons h).2.2 (fun x m => hf x (List.mem_cons_of_mem _ m))
    have ne : eqD (.str [c]) (.str [34]) = some (.bl false) := by
      rw [dr_eqS]
      simp [c2]
    have b : lb_read_plain_1 (GP T a sep (k : Int)) = some (.nx, GP T a sep ((k + 1 : Nat) : Int)) := by
      have t : zTst (zOp eqD (zIx (zVar 0) (zVar 3)) (zC c_MARK)) (GP T a sep (k : Int)) = some (false, GP T a sep (k : Int)) := er_tst (er_op (er_ix rfl rfl rfl ix) er_C rfl rfl ne rfl)
      exact seq_is (if_no t rfl rfl) (set_dat (er_op rfl er_C rfl rfl rfl rfl) rfl rfl)
    rw [List.length_cons, show k + (f.length + 1) = k + 1 + f.length by omega]
    exact wh_go (er_andTT e rfl (tP_at ix (nin_yes c1 c3))) rfl b ih
theorem plain_ok {T : List Nat} (hz : T.length ≤ 10000) {sep a : Nat} {f rest : List Nat} (hr : Stop sep rest) (h : T.drop a = f ++ rest) (hf : ∀ c ∈ f, c ≠ sep ∧ c ≠ 34 ∧ c ≠ 10) :
    d_read_plain [.str T, .int (a : Int), .str [sep]] = some (.dat (.tup [fD f (a : Int) false, .int ((a + f.length : Nat) : Int)])) := by
  have w := plain_loop hz (a : Int) sep hr f a h hf
  have sl : cutL T (some (a : Int)) (some ((a + f.length : Nat) : Int)) = f := by
    have e := cut_nat T a f.length
    rw [show ((a + f.length : Nat) : Int) = (a : Int) + (f.length : Int) by omega, e, h, List.take_left]
  unfold d_read_plain b_read_plain
  refine runP_ap (g := [.dat (.str T), .dat (.int (a : Int)), .dat (.str [sep]), .un]) rfl rfl ?_
  refine seq_nx (g1 := GP T (a : Int) sep (a : Int)) (set_dat rfl rfl rfl) ?_
  refine seq_nx w ?_
  have s := er_slS (ma := zVar 0) (ml := zoS (zVar 1)) (mh := zoS (zVar 3)) (g := GP T (a : Int) sep ((a + f.length : Nat) : Int)) (t := T) rfl (er_zoS rfl) (er_zoS rfl) rfl (Nat.le_trans hz (by decide))
  rw [sl] at s
  exact sr_ret (er_tup (er_cons (er_make (er_cons s (er_cons rfl (er_cons er_C er_nil))) rfl rfl) (er_cons rfl er_nil)) rfl (Nat.le_of_ble_eq_true rfl)) rfl
end Qk80
set_option Elab.async false
set_option linter.all false
set_option maxRecDepth 100000
set_option maxHeartbeats 4000000
namespace Qk80
open PySem PySem.Spec PyProof.Rows L2 Z
local macro_rules | `(tactic| walk_at "l") => `(tactic| first | (simp only [wipeG_nil, wipeG_cons, List.set_cons_succ, List.set_cons_zero, List.take_succ_cons, List.take_zero, List.take_nil, List.cons_append, List.nil_append, List.length_cons, List.length_nil, List.set_nil, List.getElem?_cons_zero, List.getElem?_cons_succ, Nat.zero_add, Nat.reduceAdd]; first | done | exact rfl) | exact rfl)
local macro_rules | `(tactic| walk_at "d") => `(tactic| first
  | with_reducible assumption
  | (with_reducible apply dr_div) <;> decide
  | (with_reducible apply dr_mod) <;> decide
  | (with_reducible apply dr_mulr); decide
  | (with_reducible apply dr_mull); decide
  | (with_reducible apply dr_divB) <;> omega
  | (with_reducible apply dr_mulrB) <;> omega
  | (with_reducible apply dr_mullB) <;> omega
  | (with_reducible apply dr_mulC) <;> omega
  | (with_reducible apply dr_mod) <;> omega
  | (with_reducible refine isi_of ?_ ?_); (exact rfl); (first | exact kb_int_int | exact kb_int_bool | exact kb_bool_bool | exact kb_bool_int | exact kb_str_int | exact kb_str_bool | exact kb_str_str | exact kb_int_str | exact kb_bool_str | exact kb_non_int | exact kb_non_bool | exact kb_non_str | exact kb_list_list | exact kb_tuple_tuple | exact kb_list_tuple | exact kb_tuple_list)
  | with_reducible exact dr_abs
  | (with_reducible exact dr_neL _ _)
  | (simp only [Cn.d]; with_reducible assumption)
  | (simp only [Cn.d]; with_reducible exact dr_neL _ _)
  | with_reducible exact in_ints _ _
  | (simp only [Cn.d]; with_reducible exact in_ints _ _)
  | ((with_reducible apply dr_cat); (try simp only [List.length_append, List.length_cons, List.length_nil]); omega)
  | with_reducible exact dr_eqI
  | with_reducible exact dr_eqB
  | with_reducible exact dr_neB
  | with_reducible exact dr_eqS
  | with_reducible exact dr_neI
  | with_reducible exact dr_neS
  | exact rfl)
local macro_rules | `(tactic| walk_at "c") => `(tactic| first | with_reducible assumption | (simp only [Cn.d]; with_reducible assumption))
local macro_rules | `(tactic| walk_at "e") => `(tactic| first
  | with_reducible exact er_C
  | with_reducible exact er_nil
  | (with_reducible apply er_varD); exact rfl
  | (with_reducible apply er_varO); exact rfl
  | (with_reducible apply er_varF); exact rfl
  | (with_reducible apply er_op); walk_at "e"; walk_at "e"; exact rfl; exact rfl; walk_at "d"; exact rfl
  | (with_reducible apply er_chain); walk_at "e"; walk_at "e"; exact rfl; exact rfl; walk_at "d"; (intro _h; walk_at "e"); exact rfl; walk_at "d"
  | (with_reducible apply er_slS); walk_at "e"; walk_at "o"; walk_at "o"; exact rfl; walk_at "z"
  | (with_reducible apply er_slL); walk_at "e"; walk_at "o"; walk_at "o"; exact rfl
  | (with_reducible apply er_list); walk_at "e"; exact rfl; exact rfl
  | (with_reducible apply er_tupL); walk_at "e"; exact rfl
  | (with_reducible apply er_un); walk_at "e"; exact rfl; exact rfl; exact rfl
  | (with_reducible apply er_tst); walk_at "e"
  | (with_reducible apply er_tru); walk_at "e"; exact rfl; exact rfl
  | (with_reducible apply er_andT); walk_at "e"; (intro _h; walk_at "e")
  | (with_reducible apply er_orT); walk_at "e"; (intro _h; walk_at "e")
  | (with_reducible apply er_andTT); walk_at "e"; exact rfl; walk_at "e"
  | (with_reducible apply er_orTF); walk_at "e"; exact rfl; walk_at "e"
  | (with_reducible apply er_notT); walk_at "e"
  | (with_reducible apply er_andV); walk_at "e"; (intro _h; walk_at "e")
  | (with_reducible apply er_orV); walk_at "e"; (intro _h; walk_at "e")
  | (with_reducible apply er_notV); walk_at "e"
  | (with_reducible apply er_andVT); walk_at "e"; exact rfl; walk_at "e"
  | (with_reducible apply er_orVF); walk_at "e"; exact rfl; walk_at "e"
  | (with_reducible apply er_ix); walk_at "e"; walk_at "e"; exact rfl; walk_at "x"
  | (with_reducible apply er_callS); walk_at "e"; exact rfl; walk_at "d"; exact rfl
  | (with_reducible apply er_cons); walk_at "e"; walk_at "e"
  | (with_reducible apply er_callG); walk_at "e"; exact rfl; exact rfl; walk_at "c"; exact rfl
  | (with_reducible apply er_callH); walk_at "e"; exact rfl; exact rfl; walk_at "c"; exact rfl
  | (with_reducible apply er_callV); walk_at "e"; exact rfl; walk_at "c"; exact rfl
  | (with_reducible apply er_callGF); walk_at "e"; exact rfl; exact rfl; walk_at "c"; exact rfl
  | (with_reducible apply er_callHF); walk_at "e"; exact rfl; exact rfl; walk_at "c"; exact rfl
  | (with_reducible apply er_callM); walk_at "e"; exact rfl; exact rfl; exact rfl; exact rfl; exact rfl; walk_at "c"; exact rfl
  | (with_reducible apply er_catL); walk_at "e"; walk_at "e"; exact rfl; exact rfl; walk_at "z"
  | (with_reducible apply er_mt); walk_at "e"; exact rfl; exact rfl; walk_at "e"; exact rfl; exact rfl; walk_at "m"; exact rfl
  | (with_reducible apply er_tup); walk_at "e"; exact rfl; walk_at "z" 
  | (with_reducible apply er_lst); walk_at "e"; exact rfl; walk_at "z")
local macro_rules | `(tactic| walk_at "o") => `(tactic| first | exact er_zoN | ((with_reducible apply er_zoS); walk_at "e"))
local macro_rules | `(tactic| walk_at "x") => `(tactic| first | with_reducible assumption | (simp only [Cn.d]; with_reducible assumption) | exact rfl)
local macro_rules | `(tactic| walk_at "m") => `(tactic| first | with_reducible assumption | (simp only [Cn.d]; with_reducible assumption) | exact rfl)
local macro_rules | `(tactic| walk_at "st") => `(tactic| first
  | ((with_reducible apply set_dat); (walk_at "e"); (exact rfl); walk_at "l")
  | ((with_reducible apply set_own); (walk_at "e"); (exact Nat.le_of_ble_eq_true rfl); (exact rfl); (exact rfl); walk_at "l")
  | ((with_reducible apply asg_run); (walk_at "e"); (exact rfl); walk_at "l")
  | ((with_reducible apply aug_run); (exact rfl); (exact rfl); (walk_at "e"); (exact rfl); (walk_at "d"); (exact rfl); (exact rfl); walk_at "l")
  | ((with_reducible apply sto_run); (walk_at "e"); (walk_at "e"); (walk_at "e"); (exact rfl); (walk_at "x"); walk_at "l")
  | ((with_reducible apply app_run); (walk_at "e"); (exact rfl); (walk_at "e"); (exact rfl); (exact rfl); (walk_at "z"); walk_at "l"))
local macro_rules | `(tactic| walk_at "z") => `(tactic| first | assumption | exact Nat.le_of_ble_eq_true rfl | (simp; omega))
local macro_rules | `(tactic| walk_at "s") => `(tactic| first
  | with_reducible apply sr_nx
  | with_reducible apply sr_assoc
  | with_reducible apply ap_fg
  | ((with_reducible apply fgK_nx); (exact rfl); (walk_at "l"); skip)
  | ((with_reducible apply fgK_ct); (exact rfl); (walk_at "l"); skip)
  | ((with_reducible apply fgK_bk); (exact rfl); (walk_at "l"); skip)
  | with_reducible apply fgK_ret
  | with_reducible apply sr_bk1
  | with_reducible apply sr_ct1
  | with_reducible apply sr_nx1
  | with_reducible apply sr_ct
  | with_reducible apply sr_bk
  | (with_reducible apply sr_retS); (walk_at "e"); skip
  | (with_reducible apply sr_ret); (walk_at "e"); skip
  | (with_reducible apply sr_if); (walk_at "e"); (walk_at "l")
  | (with_reducible apply sr_if1); (walk_at "e"); (walk_at "l")
  | (with_reducible apply seq_nx); (walk_at "st")
  | (with_reducible apply one_nx); (walk_at "st"))
local macro_rules | `(tactic| walk_at "r") => `(tactic| repeat' (first | (intro _) | walk_at "s"))
local macro_rules | `(tactic| walk_at "k") => `(tactic| (intro q; (try simp only [decide_eq_true_eq, decide_eq_false_iff_not, beq_iff_eq, beq_eq_false_iff_ne, ne_eq, Bool.not_eq_true', Bool.not_eq_false', Bool.and_eq_true, Bool.or_eq_true, Bool.and_eq_false_iff, Bool.or_eq_false_iff, Int.not_lt, Int.not_le, List.cons.injEq, and_true, reduceCtorEq, beq_self_eq_true, Bool.not_true, Bool.not_false, Bool.or_false, Bool.false_or, Bool.or_true, Bool.true_or, Bool.and_false, Bool.false_and, Bool.and_true, Bool.true_and, not_true_eq_false, Bool.false_eq_true] at q) <;> (try (exfalso; first | (cases q; done) | omega | contradiction))))
local macro_rules | `(tactic| walk_at "w") => `(tactic| repeat' (first | (walk_at "k") | walk_at "s"))
abbrev GQ (T : List Nat) (a : Int) (sep : Nat) (acc : List Nat) (k : Int) (x : Sl) : G := [.dat (.str T), .dat (.int a), .dat (.str [sep]), .own (.lst (acc.map fun c => D.str [c])) false false, .dat (.int k), x]
abbrev tQ : ZT := zTst (zOp ltX (zVar 4) (zCallS lenD (zCons (zVar 0) (zNil))))
theorem tQ_len {T : List Nat} (hz : T.length ≤ 10000) (a : Int) (sep : Nat) (acc : List Nat) (k : Int) (x : Sl) : tQ (GQ T a sep acc k x) = some (decide (k < ((T.length : Nat) : Int)), GQ T a sep acc k x) := er_tst (er_op rfl (er_callS (er_cons rfl er_nil) rfl (lenT hz) rfl) rfl rfl rfl rfl)
theorem app_c (acc : List Nat) (c : Nat) : (acc.map fun c => D.str [c]) ++ [D.str [c]] = (acc ++ [c]).map fun c => D.str [c] := by rw [List.map_append]; rfl
theorem sl2 {T : List Nat} (hz : T.length ≤ 10000) {k : Nat} {r : List Nat} (h : T.drop (k + 1) = r) (a : Int) (sep : Nat) (acc : List Nat) (x : Sl) :
    zSl (zVar 0) (zoS (zOp addS (zVar 4) (zC (.int 1)))) (zoS (zOp addS (zVar 4) (zC (.int 2)))) (GQ T a sep acc (k : Int) x) = some (.dat (.str (r.take 1)), GQ T a sep acc (k : Int) x) := by
  have s := er_slS (ma := zVar 0) (ml := zoS (zOp addS (zVar 4) (zC (.int 1)))) (mh := zoS (zOp addS (zVar 4) (zC (.int 2)))) (g := GQ T a sep acc (k : Int) x) (t := T) rfl (er_zoS (er_op rfl er_C rfl rfl rfl rfl)) (er_zoS (er_op rfl er_C rfl rfl rfl rfl)) rfl (Nat.le_trans hz (by decide))
  have e := cut_nat T (k + 1) 1
  rw [h, show ((k + 1 : Nat) : Int) = (k : Int) + 1 by omega, show (k : Int) + 1 + ((1 : Nat) : Int) = (k : Int) + 2 by omega] at e
  rw [e] at s
  exact s
theorem marked_loop {T : List Nat} (hz : T.length ≤ 10000) (a : Int) (sep : Nat) (hsep : sep ≠ 34) {rest : List Nat} (hr : Stop sep rest) : ∀ (f : List Nat) (k : Nat) (acc : List Nat), T.drop k = esc f ++ 34 :: rest → acc.length + f.length ≤ 1000 →
    ∃ g', zWh 6 tQ lb_read_marked_1 (GQ T a sep acc (k : Int) .un) = some (.ret (.dat (.tup [fD (acc ++ f) a true, .int ((k + (esc f).length + 1 : Nat) : Int)])), g')
  | [], k, acc, h, hl => by
    have h : T.drop k = 34 :: rest := h
    obtain ⟨l, _, h1⟩ := drop_cons h
    have e := tQ_len hz a sep acc (k : Int) .un
    rw [decide_eq_true (by omega)] at e
    have ix := ixT hz h
    have n1 : neqD (.str [34]) (.str [34]) = some (.bl false) := rfl
    have t1 : zTst (zOp neqD (zIx (zVar 0) (zVar 4)) (zC c_MARK)) (GQ T a sep acc (k : Int) .un) = some (false, GQ T a sep acc (k : Int) .un) := er_tst (er_op (er_ix rfl rfl rfl ix) er_C rfl rfl n1 rfl)
    have q2 : eqD (.str (rest.take 1)) (.str [34]) = some (.bl false) := by
      rw [dr_eqS]
      rcases hr with rfl | ⟨c, t, rfl, hc⟩
      · rfl
      · have : c ≠ 34 := by rcases hc with rfl | rfl; exact hsep; decide
        simp [this]
    have t2 : zTst (zOp eqD (zSl (zVar 0) (zoS (zOp addS (zVar 4) (zC (.int 1)))) (zoS (zOp addS (zVar 4) (zC (.int 2))))) (zC c_MARK)) (GQ T a sep acc (k : Int) .un) = some (false, GQ T a sep acc (k : Int) .un) := er_tst (er_op (sl2 hz h1 a sep acc .un) er_C rfl rfl q2 rfl)
    have t3 : zAndT (zTst (zOp ltX (zVar 5) (zCallS lenD (zCons (zVar 0) (zNil))))) (zTst (zOp notinD (zIx (zVar 0) (zVar 5)) (zTup (zCons (zVar 2) (zCons (zC c_END) (zNil)))))) (GQ T a sep acc (k : Int) (.dat (.int ((k : Int) + 1)))) = some (false, GQ T a sep acc (k : Int) (.dat (.int ((k : Int) + 1)))) := by
      have u : zTst (zOp ltX (zVar 5) (zCallS lenD (zCons (zVar 0) (zNil)))) (GQ T a sep acc (k : Int) (.dat (.int ((k : Int) + 1)))) = some (decide ((k : Int) + 1 < ((T.length : Nat) : Int)), GQ T a sep acc (k : Int) (.dat (.int ((k : Int) + 1)))) := er_tst (er_op rfl (er_callS (er_cons rfl er_nil) rfl (lenT hz) rfl) rfl rfl rfl rfl)
      rcases hr with rfl | ⟨c, t, rfl, hc⟩
      · have l2 := drop_nil h1
        rw [decide_eq_false (by omega)] at u
        exact er_andTF u rfl
      · have l2 := (drop_cons h1).1
        rw [decide_eq_true (by omega)] at u
        have ix2 := ixT hz h1
        rw [show ((k + 1 : Nat) : Int) = (k : Int) + 1 by omega] at ix2
        exact er_andTT u rfl (er_tst (er_op (er_ix rfl rfl rfl ix2) (er_tup (er_cons rfl (er_cons er_C er_nil)) rfl (Nat.le_of_ble_eq_true rfl)) rfl rfl (nin_no hc) rfl))
    have j := dr_joinS acc (by omega)
    have mk : zTup (zCons (zMake "Field" fl_Field i_Field (zCons (zMt "str" joinD (zC (.str [])) (zCons (zVar 3) (zNil))) (zCons (zVar 1) (zCons (zC (.bl true)) (zNil))))) (zCons (zVar 5) (zNil))) (GQ T a sep acc (k : Int) (.dat (.int ((k : Int) + 1)))) = some (.dat (.tup [fD acc a true, .int ((k : Int) + 1)]), GQ T a sep acc (k : Int) (.dat (.int ((k : Int) + 1)))) :=
      er_tup (er_cons (er_make (er_cons (er_mt er_C rfl rfl (er_cons rfl er_nil) rfl rfl j rfl) (er_cons rfl (er_cons er_C er_nil))) rfl rfl) (er_cons rfl er_nil)) rfl (Nat.le_of_ble_eq_true rfl)
    have b : lb_read_marked_1 (GQ T a sep acc (k : Int) .un) = some (.ret (.dat (.tup [fD acc a true, .int ((k : Int) + 1)])), GQ T a sep acc (k : Int) (.dat (.int ((k : Int) + 1)))) :=
      fg_ret (if_no t1 rfl (if_no t2 rfl (seq_is (set_dat (er_op rfl er_C rfl rfl rfl rfl) rfl rfl) (seq_is (if_no t3 rfl rfl) (ret_is mk)))))
    rw [List.append_nil, show ((k + (esc []).length + 1 : Nat) : Int) = (k : Int) + 1 by show ((k + 0 + 1 : Nat) : Int) = _; omega]
    exact ⟨_, wh_ret e rfl b⟩
  | c :: f, k, acc, h, hl => by
    rw [List.length_cons] at hl
    have zz : (acc.map fun c => D.str [c]).length < sizeLine := by
      rw [List.length_map]
      exact Nat.lt_of_le_of_lt (show acc.length ≤ 1000 by omega) (by decide)
    have ee : esc (c :: f) = (if c = 34 then [34, 34] else [c]) ++ esc f := by unfold esc; rw [List.flatMap_cons]
    rw [ee] at h
    by_cases hc : c = 34
    · subst hc
      rw [if_pos rfl] at h
      have h : T.drop k = 34 :: 34 :: (esc f ++ 34 :: rest) := h
      obtain ⟨l, _, h1⟩ := drop_cons h
      obtain ⟨_, _, h2⟩ := drop_cons h1
      have e := tQ_len hz a sep acc (k : Int) .un
      rw [decide_eq_true (by omega)] at e
      have ix := ixT hz h
      have n1 : neqD (.str [34]) (.str [34]) = some (.bl false) := rfl
      have t1 : zTst (zOp neqD (zIx (zVar 0) (zVar 4)) (zC c_MARK)) (GQ T a sep acc (k : Int) .un) = some (false, GQ T a sep acc (k : Int) .un) := er_tst (er_op (er_ix rfl rfl rfl ix) er_C rfl rfl n1 rfl)
      have t2 : zTst (zOp eqD (zSl (zVar 0) (zoS (zOp addS (zVar 4) (zC (.int 1)))) (zoS (zOp addS (zVar 4) (zC (.int 2))))) (zC c_MARK)) (GQ T a sep acc (k : Int) .un) = some (true, GQ T a sep acc (k : Int) .un) := er_tst (er_op (sl2 hz h1 a sep acc .un) er_C rfl rfl rfl rfl)
      obtain ⟨g', ih⟩ := marked_loop hz a sep hsep hr f (k + 1 + 1) (acc ++ [34]) h2 (by rw [List.length_append, List.length_singleton]; omega)
      have ap1 : zApp 6 (zVar 3) (zC c_MARK) (GQ T a sep acc (k : Int) .un) = some (.nx, GQ T a sep (acc ++ [34]) (k : Int) .un) := app_run (j := 3) (g1 := GQ T a sep acc (k : Int) .un) (g2 := GQ T a sep acc (k : Int) .un) rfl rfl er_C rfl rfl zz (by
        show [Sl.dat (.str T), .dat (.int a), .dat (.str [sep]), .own (.lst (acc.map (fun c => D.str [c]) ++ [D.str [34]])) false false, .dat (.int (k : Int)), .un] = _
        rw [app_c])
      have st2 : zSet 6 4 (zOp addS (zVar 4) (zC (.int 2))) (GQ T a sep (acc ++ [34]) (k : Int) .un) = some (.nx, GQ T a sep (acc ++ [34]) ((k : Int) + 2) .un) := set_dat (er_op rfl er_C rfl rfl rfl rfl) rfl rfl
      have b : lb_read_marked_1 (GQ T a sep acc (k : Int) .un) = some (.nx, GQ T a sep (acc ++ [34]) ((k : Int) + 2) .un) :=
        fg_nx (if_no t1 rfl (if_yes t2 rfl (seq_is ap1 st2))) rfl rfl
      refine ⟨g', wh_go e rfl b ?_⟩
      rw [show (k : Int) + 2 = ((k + 1 + 1 : Nat) : Int) by omega, ih, ee, if_pos rfl, List.append_assoc]
      rw [show k + 1 + 1 + (esc f).length + 1 = k + ([34, 34] ++ esc f).length + 1 by rw [List.length_append]; show _ = k + (2 + (esc f).length) + 1; omega]
      rfl
    · rw [if_neg hc] at h
      have h : T.drop k = c :: (esc f ++ 34 :: rest) := h
      obtain ⟨l, _, h1⟩ := drop_cons h
      have e := tQ_len hz a sep acc (k : Int) .un
      rw [decide_eq_true (by omega)] at e
      have ix := ixT hz h
      have n1 : neqD (.str [c]) (.str [34]) = some (.bl true) := by
        rw [dr_neS]
        simp [hc]
      have t1 : zTst (zOp neqD (zIx (zVar 0) (zVar 4)) (zC c_MARK)) (GQ T a sep acc (k : Int) .un) = some (true, GQ T a sep acc (k : Int) .un) := er_tst (er_op (er_ix rfl rfl rfl ix) er_C rfl rfl n1 rfl)
      obtain ⟨g', ih⟩ := marked_loop hz a sep hsep hr f (k + 1) (acc ++ [c]) h1 (by rw [List.length_append, List.length_singleton]; omega)
      have ap1 : zApp 6 (zVar 3) (zIx (zVar 0) (zVar 4)) (GQ T a sep acc (k : Int) .un) = some (.nx, GQ T a sep (acc ++ [c]) (k : Int) .un) := app_run (j := 3) (g1 := GQ T a sep acc (k : Int) .un) (g2 := GQ T a sep acc (k : Int) .un) rfl rfl (er_ix rfl rfl rfl ix) rfl rfl zz (by
        show [Sl.dat (.str T), .dat (.int a), .dat (.str [sep]), .own (.lst (acc.map (fun c => D.str [c]) ++ [D.str [c]])) false false, .dat (.int (k : Int)), .un] = _
        rw [app_c])
      have st2 : zSet 6 4 (zOp addS (zVar 4) (zC (.int 1))) (GQ T a sep (acc ++ [c]) (k : Int) .un) = some (.nx, GQ T a sep (acc ++ [c]) ((k : Int) + 1) .un) := set_dat (er_op rfl er_C rfl rfl rfl rfl) rfl rfl
      have b : lb_read_marked_1 (GQ T a sep acc (k : Int) .un) = some (.nx, GQ T a sep (acc ++ [c]) ((k : Int) + 1) .un) :=
        fg_nx (if_yes t1 rfl (seq_is ap1 st2)) rfl rfl
      refine ⟨g', wh_go e rfl b ?_⟩
      rw [show (k : Int) + 1 = ((k + 1 : Nat) : Int) by omega, ih, ee, if_neg hc, List.append_assoc]
      rw [show k + 1 + (esc f).length + 1 = k + ([c] ++ esc f).length + 1 by rw [List.length_append]; show _ = k + (1 + (esc f).length) + 1; omega]
      rfl
theorem marked_ok {T : List Nat} (hz : T.length ≤ 10000) {sep a : Nat} (hsep : sep ≠ 34) {f rest : List Nat} (hr : Stop sep rest) (hl : f.length ≤ 1000) (h : T.drop a = wr f true ++ rest) :
    d_read_marked [.str T, .int (a : Int), .str [sep]] = some (.dat (.tup [fD f (a : Int) true, .int ((a + (wr f true).length : Nat) : Int)])) := by
  have h : T.drop a = 34 :: (esc f ++ [34] ++ rest) := by
    rw [h]
    rfl
  have h1 := (drop_cons h).2.2
  rw [List.append_assoc] at h1
  obtain ⟨g', w⟩ := marked_loop hz (a : Int) sep hsep hr f (a + 1) [] h1 (by rw [List.length_nil]; omega)
  rw [List.nil_append, show a + 1 + (esc f).length + 1 = a + (wr f true).length by
    show _ = a + (34 :: (esc f ++ [34])).length
    rw [List.length_cons, List.length_append, List.length_singleton]
    omega] at w
  unfold d_read_marked b_read_marked
  refine runP_ap (g := [.dat (.str T), .dat (.int (a : Int)), .dat (.str [sep]), .un, .un, .un]) rfl rfl ?_
  refine seq_nx (set_own (g2 := [.dat (.str T), .dat (.int (a : Int)), .dat (.str [sep]), .own (.lst []) false false, .un, .un]) (er_lst er_nil rfl (Nat.le_of_ble_eq_true rfl)) (Nat.le_of_ble_eq_true rfl) rfl rfl rfl) ?_
  refine seq_nx (g1 := GQ T (a : Int) sep [] ((a + 1 : Nat) : Int) .un) (set_dat (er_op rfl er_C rfl rfl rfl rfl) rfl rfl) ?_
  exact seq_ret w rfl
end Qk80
set_option Elab.async false
set_option linter.all false
set_option maxRecDepth 100000
set_option maxHeartbeats 4000000
namespace Qk80
open PySem PySem.Spec PyProof.Rows L2 Z
local macro_rules | `(tactic| walk_at "l") => `(tactic| first | (simp only [wipeG_nil, wipeG_cons, List.set_cons_succ, List.set_cons_zero, List.take_succ_cons, List.take_zero, List.take_nil, List.cons_append, List.nil_append, List.length_cons, List.length_nil, List.set_nil, List.getElem?_cons_zero, List.getElem?_cons_succ, Nat.zero_add, Nat.reduceAdd]; first | done | exact rfl) | exact rfl)
local macro_rules | `(tactic| walk_at "d") => `(tactic| first
  | with_reducible assumption
  | (with_reducible apply dr_div) <;> decide
  | (with_reducible apply dr_mod) <;> decide
  | (with_reducible apply dr_mulr); decide
  | (with_reducible apply dr_mull); decide
  | (with_reducible apply dr_divB) <;> omega
  | (with_reducible apply dr_mulrB) <;> omega
  | (with_reducible apply dr_mullB) <;> omega
  | (with_reducible apply dr_mulC) <;> omega
  | (with_reducible apply dr_mod) <;> omega
  | (with_reducible refine isi_of ?_ ?_); (exact rfl); (first | exact kb_int_int | exact kb_int_bool | exact kb_bool_bool | exact kb_bool_int | exact kb_str_int | exact kb_str_bool | exact kb_str_str | exact kb_int_str | exact kb_bool_str | exact kb_non_int | exact kb_non_bool | exact kb_non_str | exact kb_list_list | exact kb_tuple_tuple | exact kb_list_tuple | exact kb_tuple_list)
  | with_reducible exact dr_abs
  | (with_reducible exact dr_neL _ _)
  | (simp only [Cn.d]; with_reducible assumption)
  | (simp only [Cn.d]; with_reducible exact dr_neL _ _)
  | with_reducible exact in_ints _ _
  | (simp only [Cn.d]; with_reducible exact in_ints _ _)
  | ((with_reducible apply dr_cat); (try simp only [List.length_append, List.length_cons, List.length_nil]); omega)
  | with_reducible exact dr_eqI
  | with_reducible exact dr_eqB
  | with_reducible exact dr_neB
  | with_reducible exact dr_eqS
  | with_reducible exact dr_neI
  | with_reducible exact dr_neS
  | exact rfl)
local macro_rules | `(tactic| walk_at "c") => `(tactic| first | with_reducible assumption | (simp only [Cn.d]; with_reducible assumption))
local macro_rules | `(tactic| walk_at "e") => `(tactic| first
  | with_reducible exact er_C
  | with_reducible exact er_nil
  | (with_reducible apply er_varD); exact rfl
  | (with_reducible apply er_varO); exact rfl
  | (with_reducible apply er_varF); exact rfl
  | (with_reducible apply er_op); walk_at "e"; walk_at "e"; exact rfl; exact rfl; walk_at "d"; exact rfl
  | (with_reducible apply er_chain); walk_at "e"; walk_at "e"; exact rfl; exact rfl; walk_at "d"; (intro _h; walk_at "e"); exact rfl; walk_at "d"
  | (with_reducible apply er_slS); walk_at "e"; walk_at "o"; walk_at "o"; exact rfl; walk_at "z"
  | (with_reducible apply er_slL); walk_at "e"; walk_at "o"; walk_at "o"; exact rfl
  | (with_reducible apply er_list); walk_at "e"; exact rfl; exact rfl
  | (with_reducible apply er_tupL); walk_at "e"; exact rfl
  | (with_reducible apply er_un); walk_at "e"; exact rfl; exact rfl; exact rfl
  | (with_reducible apply er_tst); walk_at "e"
  | (with_reducible apply er_tru); walk_at "e"; exact rfl; exact rfl
  | (with_reducible apply er_andT); walk_at "e"; (intro _h; walk_at "e")
  | (with_reducible apply er_orT); walk_at "e"; (intro _h; walk_at "e")
  | (with_reducible apply er_andTT); walk_at "e"; exact rfl; walk_at "e"
  | (with_reducible apply er_orTF); walk_at "e"; exact rfl; walk_at "e"
  | (with_reducible apply er_notT); walk_at "e"
  | (with_reducible apply er_andV); walk_at "e"; (intro _h; walk_at "e")
  | (with_reducible apply er_orV); walk_at "e"; (intro _h; walk_at "e")
  | (with_reducible apply er_notV); walk_at "e"
  | (with_reducible apply er_andVT); walk_at "e"; exact rfl; walk_at "e"
  | (with_reducible apply er_orVF); walk_at "e"; exact rfl; walk_at "e"
  | (with_reducible apply er_ix); walk_at "e"; walk_at "e"; exact rfl; walk_at "x"
  | (with_reducible apply er_callS); walk_at "e"; exact rfl; walk_at "d"; exact rfl
  | (with_reducible apply er_cons); walk_at "e"; walk_at "e"
  | (with_reducible apply er_callG); walk_at "e"; exact rfl; exact rfl; walk_at "c"; exact rfl
  | (with_reducible apply er_callH); walk_at "e"; exact rfl; exact rfl; walk_at "c"; exact rfl
  | (with_reducible apply er_callV); walk_at "e"; exact rfl; walk_at "c"; exact rfl
  | (with_reducible apply er_callGF); walk_at "e"; exact rfl; exact rfl; walk_at "c"; exact rfl
  | (with_reducible apply er_callHF); walk_at "e"; exact rfl; exact rfl; walk_at "c"; exact rfl
  | (with_reducible apply er_callM); walk_at "e"; exact rfl; exact rfl; exact rfl; exact rfl; exact rfl; walk_at "c"; exact rfl
  | (with_reducible apply er_catL); walk_at "e"; walk_at "e"; exact rfl; exact rfl; walk_at "z"
  | (with_reducible apply er_mt); walk_at "e"; exact rfl; exact rfl; walk_at "e"; exact rfl; exact rfl; walk_at "m"; exact rfl
  | (with_reducible apply er_tup); walk_at "e"; exact rfl; walk_at "z" 
  | (with_reducible apply er_lst); walk_at "e"; exact rfl; walk_at "z")
local macro_rules | `(tactic| walk_at "o") => `(tactic| first | exact er_zoN | ((with_reducible apply er_zoS); walk_at "e"))
local macro_rules | `(tactic| walk_at "x") => `(tactic| first | with_reducible assumption | (simp only [Cn.d]; with_reducible assumption) | exact rfl)
local macro_rules | `(tactic| walk_at "m") => `(tactic| first | with_reducible assumption | (simp only [Cn.d]; with_reducible assumption) | exact rfl)
local macro_rules | `(tactic| walk_at "st") => `(tactic| first
  | ((with_reducible apply set_dat); (walk_at "e"); (exact rfl); walk_at "l")
  | ((with_reducible apply set_own); (walk_at "e"); (exact Nat.le_of_ble_eq_true rfl); (exact rfl); (exact rfl); walk_at "l")
  | ((with_reducible apply asg_run); (walk_at "e"); (exact rfl); walk_at "l")
  | ((with_reducible apply aug_run); (exact rfl); (exact rfl); (walk_at "e"); (exact rfl); (walk_at "d"); (exact rfl); (exact rfl); walk_at "l")
  | ((with_reducible apply sto_run); (walk_at "e"); (walk_at "e"); (walk_at "e"); (exact rfl); (walk_at "x"); walk_at "l")
  | ((with_reducible apply app_run); (walk_at "e"); (exact rfl); (walk_at "e"); (exact rfl); (exact rfl); (walk_at "z"); walk_at "l"))
local macro_rules | `(tactic| walk_at "z") => `(tactic| first | assumption | exact Nat.le_of_ble_eq_true rfl | (simp; omega))
local macro_rules | `(tactic| walk_at "s") => `(tactic| first
  | with_reducible apply sr_nx
  | with_reducible apply sr_assoc
  | with_reducible apply ap_fg
  | ((with_reducible apply fgK_nx); (exact rfl); (walk_at "l"); skip)
  | ((with_reducible apply fgK_ct); (exact rfl); (walk_at "l"); skip)
  | ((with_reducible apply fgK_bk); (exact rfl); (walk_at "l"); skip)
  | with_reducible apply fgK_ret
  | with_reducible apply sr_bk1
  | with_reducible apply sr_ct1
  | with_reducible apply sr_nx1
  | with_reducible apply sr_ct
  | with_reducible apply sr_bk
  | (with_reducible apply sr_retS); (walk_at "e"); skip
  | (with_reducible apply sr_ret); (walk_at "e"); skip
  | (with_reducible apply sr_if); (walk_at "e"); (walk_at "l")
  | (with_reducible apply sr_if1); (walk_at "e"); (walk_at "l")
  | (with_reducible apply seq_nx); (walk_at "st")
  | (with_reducible apply one_nx); (walk_at "st"))
local macro_rules | `(tactic| walk_at "r") => `(tactic| repeat' (first | (intro _) | walk_at "s"))
local macro_rules | `(tactic| walk_at "k") => `(tactic| (intro q; (try simp only [decide_eq_true_eq, decide_eq_false_iff_not, beq_iff_eq, beq_eq_false_iff_ne, ne_eq, Bool.not_eq_true', Bool.not_eq_false', Bool.and_eq_true, Bool.or_eq_true, Bool.and_eq_false_iff, Bool.or_eq_false_iff, Int.not_lt, Int.not_le, List.cons.injEq, and_true, reduceCtorEq, beq_self_eq_true, Bool.not_true, Bool.not_false, Bool.or_false, Bool.false_or, Bool.or_true, Bool.true_or, Bool.and_false, Bool.false_and, Bool.and_true, Bool.true_and, not_true_eq_false, Bool.false_eq_true] at q) <;> (try (exfalso; first | (cases q; done) | omega | contradiction))))
local macro_rules | `(tactic| walk_at "w") => `(tactic| repeat' (first | (walk_at "k") | walk_at "s"))
abbrev Fl' : Type := List Nat × Bool
def recT (sep : Nat) : List Fl' → List Nat
  | [] => []
  | [x] => wr x.1 x.2
  | x :: y :: r => wr x.1 x.2 ++ sep :: recT sep (y :: r)
def recP (a : Nat) : List Fl' → List (List Nat × Nat × Bool)
  | [] => []
  | x :: r => (x.1, a, x.2) :: recP (a + (wr x.1 x.2).length + 1) r
abbrev fP (x : List Nat × Nat × Bool) : D := fD x.1 (x.2.1 : Int) x.2.2
def FOk (sep : Nat) (x : Fl') : Prop := x.1.length ≤ 1000 ∧ (x.2 = false → ∀ c ∈ x.1, c ≠ sep ∧ c ≠ 34 ∧ c ≠ 10)
abbrev GS (T : List Nat) (sep : Nat) (R : List D) (k : Int) (F : List D) (m : Bool) (x6 x7 : Sl) : G := [.dat (.str T), .dat (.str [sep]), .own (.lst R) false false, .dat (.int k), .own (.lst F) false false, .dat (.bl m), x6, x7]
theorem pick_run {i n : Nat} {s : ZT} {F1 F2 : List D → Option FR} {mr : ZAr} {tg : TD} {g g1 : G} {b : Bool} {o : Option (Fl × G)} (h1 : s g = some (b, g1)) (hf : freeAt i g1 = true) (h2 : zAsg n (zCall (if b = true then F1 else F2) mr) tg (g1.set i .un) = o) : zPick i s F1 F2 n mr tg g = o := by
  unfold zPick
  simp only [h1, Option.bind_eq_bind, Option.bind_some, if_pos hf]
  exact h2
theorem asg_run {n : Nat} {m : ZM} {tg : TD} {g g1 g2 g3 : G} {d : D} (h1 : m g = some (.dat d, g1)) (h2 : tg d g1 = some g2) (h3 : g2.take n = g3) : zAsg n m tg g = some (.nx, g3) := by
  unfold zAsg
  simp only [h1, frzR, h2, h3, Option.bind_eq_bind, Option.bind_some]
theorem sl1 {T : List Nat} (hz : T.length ≤ 10000) {k : Nat} {r : List Nat} (h : T.drop k = r) (sep : Nat) (R F : List D) (m : Bool) (x6 x7 : Sl) :
    zSl (zVar 0) (zoS (zVar 3)) (zoS (zOp addS (zVar 3) (zC (.int 1)))) (GS T sep R (k : Int) F m x6 x7) = some (.dat (.str (r.take 1)), GS T sep R (k : Int) F m x6 x7) := by
  have s := er_slS (ma := zVar 0) (ml := zoS (zVar 3)) (mh := zoS (zOp addS (zVar 3) (zC (.int 1)))) (g := GS T sep R (k : Int) F m x6 x7) (t := T) rfl (er_zoS rfl) (er_zoS (er_op rfl er_C rfl rfl rfl rfl)) rfl (Nat.le_trans hz (by decide))
  have e := cut_nat T k 1
  rw [h, show ((1 : Nat) : Int) = 1 from rfl] at e
  rw [e] at s
  exact s
/-- one field is read -/
theorem field_read {T : List Nat} (hz : T.length ≤ 10000) {sep : Nat} (hsep : sep ≠ 34) {x : Fl'} (hx : FOk sep x) {rest : List Nat} (hr : Stop sep rest) {k : Nat} (h : T.drop k = wr x.1 x.2 ++ rest) (R F : List D) :
    zPick 6 (zTst (zOp eqD (zSl (zVar 0) (zoS (zVar 3)) (zoS (zOp addS (zVar 3) (zC (.int 1))))) (zC c_MARK))) d_read_marked d_read_plain 8 (zCons (zVar 0) (zCons (zVar 3) (zCons (zVar 1) (zNil)))) (gT 2 (gCons' (gN 7) (gCons' (gN 3) (gNil')))) (GS T sep R (k : Int) F true .un .un) =
      some (.nx, GS T sep R ((k + (wr x.1 x.2).length : Nat) : Int) F true .un (.dat (fD x.1 (k : Int) x.2))) := by
  obtain ⟨f, m⟩ := x
  obtain ⟨fl, hf⟩ := hx
  have s := sl1 hz h sep R F true .un .un
  cases m with
  | true =>
    have t : zTst (zOp eqD (zSl (zVar 0) (zoS (zVar 3)) (zoS (zOp addS (zVar 3) (zC (.int 1))))) (zC c_MARK)) (GS T sep R (k : Int) F true .un .un) = some (true, GS T sep R (k : Int) F true .un .un) := er_tst (er_op s er_C rfl rfl rfl rfl)
    have c := marked_ok hz hsep hr fl h
    refine pick_run t rfl (asg_run (er_call (ds := [.str T, .int (k : Int), .str [sep]]) (er_cons rfl (er_cons rfl (er_cons rfl er_nil))) c) rfl rfl)
  | false =>
    have hf := hf rfl
    have h : T.drop k = f ++ rest := h
    have e : eqD (.str ((f ++ rest).take 1)) (.str [34]) = some (.bl false) := by
      rw [dr_eqS]
      cases f with
      | cons c f =>
        have := (hf c List.mem_cons_self).2.1
        simp [this]
      | nil =>
        rcases hr with rfl | ⟨c, t, rfl, hc⟩
        · rfl
        · have : c ≠ 34 := by rcases hc with rfl | rfl; exact hsep; decide
          simp [this]
    have t : zTst (zOp eqD (zSl (zVar 0) (zoS (zVar 3)) (zoS (zOp addS (zVar 3) (zC (.int 1))))) (zC c_MARK)) (GS T sep R (k : Int) F true .un .un) = some (false, GS T sep R (k : Int) F true .un .un) := er_tst (er_op s er_C rfl rfl e rfl)
    have c := plain_ok hz hr h hf
    refine pick_run t rfl (asg_run (er_call (ds := [.str T, .int (k : Int), .str [sep]]) (er_cons rfl (er_cons rfl (er_cons rfl er_nil))) c) rfl rfl)
/-- one turn of the inner loop -/
theorem field_turn {T : List Nat} (hz : T.length ≤ 10000) {sep : Nat} (hsep : sep ≠ 34) {x : Fl'} (hx : FOk sep x) {rest : List Nat} (hr : Stop sep rest) {k : Nat} (h : T.drop k = wr x.1 x.2 ++ rest) (R F : List D) (hF : F.length ≤ 1000) :
    lb_split_records_1 (GS T sep R (k : Int) F true .un .un) = some (.nx, GS T sep R ((if rest.take 1 = [sep] then k + (wr x.1 x.2).length + 1 else k + (wr x.1 x.2).length : Nat) : Int) (F ++ [fD x.1 (k : Int) x.2]) (decide (rest.take 1 = [sep])) .un .un) := by
  have z1 := field_read hz hsep hx hr h R F
  have h2 := drop_app h
  generalize hk : k + (wr x.1 x.2).length = k2 at *
  have z2 : zApp 8 (zVar 4) (zVar 7) (GS T sep R (k2 : Int) F true .un (.dat (fD x.1 (k : Int) x.2))) = some (.nx, GS T sep R (k2 : Int) (F ++ [fD x.1 (k : Int) x.2]) true .un (.dat (fD x.1 (k : Int) x.2))) :=
    app_run (j := 4) (g1 := GS T sep R (k2 : Int) F true .un (.dat (fD x.1 (k : Int) x.2))) (g2 := GS T sep R (k2 : Int) F true .un (.dat (fD x.1 (k : Int) x.2))) rfl rfl rfl rfl rfl (Nat.lt_of_le_of_lt hF (by decide)) rfl
  have s := sl1 hz h2 sep R (F ++ [fD x.1 (k : Int) x.2]) true .un (.dat (fD x.1 (k : Int) x.2))
  have e : eqD (.str (rest.take 1)) (.str [sep]) = some (.bl (decide (rest.take 1 = [sep]))) := by
    rw [dr_eqS]
    by_cases q : rest.take 1 = [sep]
    · rw [q]; simp
    · rw [decide_eq_false q]
      simp only [Option.some.injEq, D.bl.injEq, beq_eq_false_iff_ne]
      exact q
  have z3 : zSet 8 5 (zOp eqD (zSl (zVar 0) (zoS (zVar 3)) (zoS (zOp addS (zVar 3) (zC (.int 1))))) (zVar 1)) (GS T sep R (k2 : Int) (F ++ [fD x.1 (k : Int) x.2]) true .un (.dat (fD x.1 (k : Int) x.2))) = some (.nx, GS T sep R (k2 : Int) (F ++ [fD x.1 (k : Int) x.2]) (decide (rest.take 1 = [sep])) .un (.dat (fD x.1 (k : Int) x.2))) :=
    set_dat (er_op s rfl rfl rfl e rfl) rfl rfl
  have z4 : zIfS 8 (zTru (zVar 5)) (zSet 8 3 (zOp addS (zVar 3) (zC (.int 1)))) (zNx) (GS T sep R (k2 : Int) (F ++ [fD x.1 (k : Int) x.2]) (decide (rest.take 1 = [sep])) .un (.dat (fD x.1 (k : Int) x.2))) = some (.nx, GS T sep R ((if rest.take 1 = [sep] then k2 + 1 else k2 : Nat) : Int) (F ++ [fD x.1 (k : Int) x.2]) (decide (rest.take 1 = [sep])) .un (.dat (fD x.1 (k : Int) x.2))) := by
    by_cases q : rest.take 1 = [sep]
    · rw [decide_eq_true q, if_pos q]
      exact if_yes (er_tru rfl rfl rfl) rfl (set_dat (er_op rfl er_C rfl rfl rfl rfl) rfl rfl)
    · rw [decide_eq_false q, if_neg q]
      exact if_no (er_tru rfl rfl rfl) rfl rfl
  exact fg_nx (seq_is z1 (seq_is z2 (seq_is z3 z4))) rfl rfl
def EndR (r : List Nat) : Prop := r = [] ∨ ∃ t, r = 10 :: t
theorem EndR.stop {sep : Nat} {r : List Nat} (h : EndR r) : Stop sep r := by
  rcases h with rfl | ⟨t, rfl⟩
  · exact .inl rfl
  · exact .inr ⟨10, t, rfl, .inr rfl⟩
theorem rec_loop {T : List Nat} (hz : T.length ≤ 10000) {sep : Nat} (hsep : sep ≠ 34) (hs2 : sep ≠ 10) {rest : List Nat} (hr : EndR rest) (R : List D) : ∀ (fs : List Fl') (x : Fl') (k : Nat) (F : List D), (∀ y ∈ x :: fs, FOk sep y) → T.drop k = recT sep (x :: fs) ++ rest → F.length + fs.length ≤ 900 →
    zWh 8 (zTru (zVar 5)) lb_split_records_1 (GS T sep R (k : Int) F true .un .un) = some (.nx, GS T sep R ((k + (recT sep (x :: fs)).length : Nat) : Int) (F ++ (recP k (x :: fs)).map fP) false .un .un)
  | [], x, k, F, hf, h, hl => by
    have t := field_turn hz hsep (hf x List.mem_cons_self) hr.stop h R F (by simp at hl; omega)
    have q : ¬ rest.take 1 = [sep] := by
      rcases hr with rfl | ⟨t, rfl⟩
      · intro q; cases q
      · intro q
        injection q with q
        exact hs2 q.symm
    rw [decide_eq_false q, if_neg q] at t
    exact wh_go (er_tru rfl rfl rfl) rfl t (wh_stop (er_tru rfl rfl rfl) rfl)
  | y :: fs, x, k, F, hf, h, hl => by
    have h : T.drop k = wr x.1 x.2 ++ (sep :: recT sep (y :: fs)) ++ rest := h
    rw [List.append_assoc] at h
    have t := field_turn hz hsep (hf x List.mem_cons_self) (.inr ⟨sep, recT sep (y :: fs) ++ rest, rfl, .inl rfl⟩) h R F (by simp at hl; omega)
    have q : (sep :: (recT sep (y :: fs) ++ rest)).take 1 = [sep] := rfl
    rw [decide_eq_true q, if_pos q] at t
    have h2 := (drop_cons (drop_app h)).2.2
    have ih := rec_loop hz hsep hs2 hr R fs y (k + (wr x.1 x.2).length + 1) (F ++ [fD x.1 (k : Int) x.2]) (fun z m => hf z (List.mem_cons_of_mem _ m)) h2 (by rw [List.length_append, List.length_singleton]; simp at hl; omega)
    have el : k + (wr x.1 x.2).length + 1 + (recT sep (y :: fs)).length = k + (recT sep (x :: y :: fs)).length := by
      show _ = k + (wr x.1 x.2 ++ sep :: recT sep (y :: fs)).length
      rw [List.length_append, List.length_cons]
      omega
    rw [el, List.append_assoc] at ih
    exact wh_go (er_tru rfl rfl rfl) rfl t ih
def txt (sep : Nat) (L : List (List Fl' × Bool)) : List Nat := L.flatMap fun r => recT sep r.1 ++ if r.2 = true then [10] else []
def recsP (sep : Nat) (k : Nat) : List (List Fl' × Bool) → List (List (List Nat × Nat × Bool))
  | [] => []
  | r :: L => recP k r.1 :: recsP sep (k + (recT sep r.1).length + 1) L
/-- the last record alone may stand without a line feed, and then it is not empty -/
def Good (sep : Nat) : List (List Fl' × Bool) → Prop
  | [] => True
  | r :: L => r.1 ≠ [] ∧ r.1.length ≤ 500 ∧ (∀ y ∈ r.1, FOk sep y) ∧ (r.2 = true ∨ (L = [] ∧ recT sep r.1 ≠ [])) ∧ Good sep L
abbrev G0 (T : List Nat) (sep : Nat) (R : List D) (k : Int) : G := [.dat (.str T), .dat (.str [sep]), .own (.lst R) false false, .dat (.int k), .un, .un, .un, .un]
theorem all_loop {T : List Nat} (hz : T.length ≤ 10000) {sep : Nat} (hsep : sep ≠ 34) (hs2 : sep ≠ 10) : ∀ (L : List (List Fl' × Bool)) (k : Nat) (R : List D), Good sep L → T.drop k = txt sep L → R.length + L.length ≤ 1000 →
    ∃ k' : Int, zWh 8 (zTst (zOp ltX (zVar 3) (zCallS lenD (zCons (zVar 0) (zNil))))) lb_split_records_2 (G0 T sep R (k : Int)) = some (.nx, G0 T sep (R ++ (recsP sep k L).map fun r => .lst (r.map fP)) k')
  | [], k, R, _, h, _ => by
    have l := drop_nil h
    have e : zTst (zOp ltX (zVar 3) (zCallS lenD (zCons (zVar 0) (zNil)))) (G0 T sep R (k : Int)) = some (decide ((k : Int) < ((T.length : Nat) : Int)), G0 T sep R (k : Int)) := er_tst (er_op rfl (er_callS (er_cons rfl er_nil) rfl (lenT hz) rfl) rfl rfl rfl rfl)
    rw [decide_eq_false (by omega)] at e
    refine ⟨(k : Int), ?_⟩
    show zWh _ _ _ _ = some (.nx, G0 T sep (R ++ []) (k : Int))
    rw [List.append_nil]
    exact wh_stop e rfl
  | (r, b) :: L, k, R, ⟨g1, g2, g3, g4, g5⟩, h, hl => by
    rw [List.length_cons] at hl
    have h : T.drop k = recT sep r ++ (if b = true then [10] else []) ++ txt sep L := h
    obtain ⟨x, fs, rfl⟩ : ∃ x fs, r = x :: fs := by
      cases r with
      | nil => exact (g1 rfl).elim
      | cons x fs => exact ⟨x, fs, rfl⟩
    rw [List.append_assoc] at h
    have g4 : b = true ∨ (L = [] ∧ recT sep (x :: fs) ≠ []) := g4
    have hr : EndR ((if b = true then [10] else []) ++ txt sep L) := by
      rcases g4 with rfl | ⟨rfl, _⟩
      · exact .inr ⟨txt sep L, rfl⟩
      · cases b
        · exact .inl rfl
        · exact .inr ⟨[], rfl⟩
    have kl : k < T.length := by
      by_cases z : k < T.length
      · exact z
      · rw [List.drop_of_length_le (by omega)] at h
        rcases g4 with rfl | ⟨rfl, ne⟩
        · have h := congrArg List.length h
          rw [if_pos rfl, List.length_append, List.length_append] at h
          simp at h
          omega
        · have h := congrArg List.length h
          rw [List.length_append] at h
          have : (recT sep (x :: fs)).length = 0 := by simp at h; omega
          exact (ne (List.eq_nil_of_length_eq_zero this)).elim
    have e : zTst (zOp ltX (zVar 3) (zCallS lenD (zCons (zVar 0) (zNil)))) (G0 T sep R (k : Int)) = some (decide ((k : Int) < ((T.length : Nat) : Int)), G0 T sep R (k : Int)) := er_tst (er_op rfl (er_callS (er_cons rfl er_nil) rfl (lenT hz) rfl) rfl rfl rfl rfl)
    rw [decide_eq_true (by omega)] at e
    have w := rec_loop hz hsep hs2 hr R fs x k [] g3 h (by simp at g2 ⊢; omega)
    rw [List.nil_append] at w
    have h2 := drop_app h
    have h3 : T.drop (k + (recT sep (x :: fs)).length + 1) = txt sep L := by
      rcases g4 with rfl | ⟨rfl, _⟩
      · exact (drop_cons h2).2.2
      · cases b with
        | true => exact (drop_cons h2).2.2
        | false =>
          have := drop_nil (show T.drop (k + (recT sep (x :: fs)).length) = [] from h2)
          exact List.drop_of_length_le (by omega)
    obtain ⟨k', ih⟩ := all_loop hz hsep hs2 L (k + (recT sep (x :: fs)).length + 1) (R ++ [.lst ((recP k (x :: fs)).map fP)]) g5 h3 (by rw [List.length_append, List.length_singleton]; omega)
    rw [List.append_assoc] at ih
    refine ⟨k', wh_go e rfl ?_ ih⟩
    generalize hk : k + (recT sep (x :: fs)).length = k2 at *
    have ap : zApp 8 (zVar 2) (zVar 4) (GS T sep R (k2 : Int) ((recP k (x :: fs)).map fP) false .un .un) = some (.nx, [.dat (.str T), .dat (.str [sep]), .own (.lst (R ++ [.lst ((recP k (x :: fs)).map fP)])) false false, .dat (.int (k2 : Int)), .frz (.lst ((recP k (x :: fs)).map fP)), .dat (.bl false), .un, .un]) :=
      app_run (j := 2) (g1 := GS T sep R (k2 : Int) ((recP k (x :: fs)).map fP) false .un .un) (g2 := GS T sep R (k2 : Int) ((recP k (x :: fs)).map fP) false .un .un) rfl rfl rfl rfl rfl (Nat.lt_of_le_of_lt (show R.length ≤ 1000 by omega) (by decide)) rfl
    exact fg_nx (seq_is (set_own (g2 := [.dat (.str T), .dat (.str [sep]), .own (.lst R) false false, .dat (.int (k : Int)), .own (.lst []) false false, .un, .un, .un]) (er_lst er_nil rfl (Nat.le_of_ble_eq_true rfl)) (Nat.le_of_ble_eq_true rfl) rfl rfl rfl)
      (seq_is (g1 := GS T sep R (k : Int) [] true .un .un) (set_dat er_C rfl rfl) (seq_is w (seq_is ap (set_dat (er_op rfl er_C rfl rfl rfl rfl) rfl rfl))))) rfl rfl
theorem split_ok {sep : Nat} (hsep : sep ≠ 34) (hs2 : sep ≠ 10) {L : List (List Fl' × Bool)} (hL : Good sep L) (hl : L.length ≤ 1000) (hz : (txt sep L).length ≤ 10000) : d_split_records [.str (txt sep L), .str [sep]] = some (.new (.lst ((recsP sep 0 L).map fun r => .lst (r.map fP)))) := by
  obtain ⟨k', w⟩ := all_loop hz hsep hs2 L 0 [] hL rfl (by rw [List.length_nil]; omega)
  rw [List.nil_append] at w
  unfold d_split_records b_split_records
  refine runP_ap (g := [.dat (.str (txt sep L)), .dat (.str [sep]), .un, .un, .un, .un, .un, .un]) rfl rfl ?_
  refine seq_nx (set_own (g2 := [.dat (.str (txt sep L)), .dat (.str [sep]), .own (.lst []) false false, .un, .un, .un, .un, .un]) (er_lst er_nil rfl (Nat.le_of_ble_eq_true rfl)) (Nat.le_of_ble_eq_true rfl) rfl rfl rfl) ?_
  refine seq_nx (g1 := G0 (txt sep L) sep [] ((0 : Nat) : Int)) (set_dat er_C rfl rfl) ?_
  refine seq_nx w ?_
  exact sr_ret rfl rfl
end Qk80
set_option Elab.async false
set_option linter.all false
set_option maxRecDepth 100000
set_option maxHeartbeats 4000000
namespace Qk80
open PySem PySem.Spec PyProof.Rows L2 Z
local macro_rules | `(tactic| walk_at "l") => `(tactic| first | (simp only [wipeG_nil, wipeG_cons, List.set_cons_succ, List.set_cons_zero, List.take_succ_cons, List.take_zero, List.take_nil, List.cons_append, List.nil_append, List.length_cons, List.length_nil, List.set_nil, List.getElem?_cons_zero, List.getElem?_cons_succ, Nat.zero_add, Nat.reduceAdd]; first | done | exact rfl) | exact rfl)
local macro_rules | `(tactic| walk_at "d") => `(tactic| first
  | with_reducible assumption
  | (with_reducible apply dr_div) <;> decide
  | (with_reducible apply dr_mod) <;> decide
  | (with_reducible apply dr_mulr); decide
  | (with_reducible apply dr_mull); decide
  | (with_reducible apply dr_divB) <;> omega
  | (with_reducible apply dr_mulrB) <;> omega
  | (with_reducible apply dr_mullB) <;> omega
  | (with_reducible apply dr_mulC) <;> omega
  | (with_reducible apply dr_mod) <;> omega
  | (with_reducible refine isi_of ?_ ?_); (exact rfl); (first | exact kb_int_int | exact kb_int_bool | exact kb_bool_bool | exact kb_bool_int | exact kb_str_int | exact kb_str_bool | exact kb_str_str | exact kb_int_str | exact kb_bool_str | exact kb_non_int | exact kb_non_bool | exact kb_non_str | exact kb_list_list | exact kb_tuple_tuple | exact kb_list_tuple | exact kb_tuple_list)
  | with_reducible exact dr_abs
  | (with_reducible exact dr_neL _ _)
  | (simp only [Cn.d]; with_reducible assumption)
  | (simp only [Cn.d]; with_reducible exact dr_neL _ _)
  | with_reducible exact in_ints _ _
  | (simp only [Cn.d]; with_reducible exact in_ints _ _)
  | ((with_reducible apply dr_cat); (try simp only [List.length_append, List.length_cons, List.length_nil]); omega)
  | with_reducible exact dr_eqI
  | with_reducible exact dr_eqB
  | with_reducible exact dr_neB
  | with_reducible exact dr_eqS
  | with_reducible exact dr_neI
  | with_reducible exact dr_neS
  | exact rfl)
local macro_rules | `(tactic| walk_at "c") => `(tactic| first | with_reducible assumption | (simp only [Cn.d]; with_reducible assumption))
local macro_rules | `(tactic| walk_at "e") => `(tactic| first
  | with_reducible exact er_C
  | with_reducible exact er_nil
  | (with_reducible apply er_varD); exact rfl
  | (with_reducible apply er_varO); exact rfl
  | (with_reducible apply er_varF); exact rfl
  | (with_reducible apply er_op); walk_at "e"; walk_at "e"; exact rfl; exact rfl; walk_at "d"; exact rfl
  | (with_reducible apply er_chain); walk_at "e"; walk_at "e"; exact rfl; exact rfl; walk_at "d"; (intro _h; walk_at "e"); exact rfl; walk_at "d"
  | (with_reducible apply er_slS); walk_at "e"; walk_at "o"; walk_at "o"; exact rfl; walk_at "z"
  | (with_reducible apply er_slL); walk_at "e"; walk_at "o"; walk_at "o"; exact rfl
  | (with_reducible apply er_list); walk_at "e"; exact rfl; exact rfl
  | (with_reducible apply er_tupL); walk_at "e"; exact rfl
  | (with_reducible apply er_un); walk_at "e"; exact rfl; exact rfl; exact rfl
  | (with_reducible apply er_tst); walk_at "e"
  | (with_reducible apply er_tru); walk_at "e"; exact rfl; exact rfl
  | (with_reducible apply er_andT); walk_at "e"; (intro _h; walk_at "e")
  | (with_reducible apply er_orT); walk_at "e"; (intro _h; walk_at "e")
  | (with_reducible apply er_andTT); walk_at "e"; exact rfl; walk_at "e"
  | (with_reducible apply er_orTF); walk_at "e"; exact rfl; walk_at "e"
  | (with_reducible apply er_notT); walk_at "e"
  | (with_reducible apply er_andV); walk_at "e"; (intro _h; walk_at "e")
  | (with_reducible apply er_orV); walk_at "e"; (intro _h; walk_at "e")
  | (with_reducible apply er_notV); walk_at "e"
  | (with_reducible apply er_andVT); walk_at "e"; exact rfl; walk_at "e"
  | (with_reducible apply er_orVF); walk_at "e"; exact rfl; walk_at "e"
  | (with_reducible apply er_ix); walk_at "e"; walk_at "e"; exact rfl; walk_at "x"
  | (with_reducible apply er_callS); walk_at "e"; exact rfl; walk_at "d"; exact rfl
  | (with_reducible apply er_cons); walk_at "e"; walk_at "e"
  | (with_reducible apply er_callG); walk_at "e"; exact rfl; exact rfl; walk_at "c"; exact rfl
  | (with_reducible apply er_callH); walk_at "e"; exact rfl; exact rfl; walk_at "c"; exact rfl
  | (with_reducible apply er_callV); walk_at "e"; exact rfl; walk_at "c"; exact rfl
  | (with_reducible apply er_callGF); walk_at "e"; exact rfl; exact rfl; walk_at "c"; exact rfl
  | (with_reducible apply er_callHF); walk_at "e"; exact rfl; exact rfl; walk_at "c"; exact rfl
  | (with_reducible apply er_callM); walk_at "e"; exact rfl; exact rfl; exact rfl; exact rfl; exact rfl; walk_at "c"; exact rfl
  | (with_reducible apply er_catL); walk_at "e"; walk_at "e"; exact rfl; exact rfl; walk_at "z"
  | (with_reducible apply er_mt); walk_at "e"; exact rfl; exact rfl; walk_at "e"; exact rfl; exact rfl; walk_at "m"; exact rfl
  | (with_reducible apply er_tup); walk_at "e"; exact rfl; walk_at "z" 
  | (with_reducible apply er_lst); walk_at "e"; exact rfl; walk_at "z")
local macro_rules | `(tactic| walk_at "o") => `(tactic| first | exact er_zoN | ((with_reducible apply er_zoS); walk_at "e"))
local macro_rules | `(tactic| walk_at "x") => `(tactic| first | with_reducible assumption | (simp only [Cn.d]; with_reducible assumption) | exact rfl)
local macro_rules | `(tactic| walk_at "m") => `(tactic| first | with_reducible assumption | (simp only [Cn.d]; with_reducible assumption) | exact rfl)
local macro_rules | `(tactic| walk_at "st") => `(tactic| first
  | ((with_reducible apply set_dat); (walk_at "e"); (exact rfl); walk_at "l")
  | ((with_reducible apply set_own); (walk_at "e"); (exact Nat.le_of_ble_eq_true rfl); (exact rfl); (exact rfl); walk_at "l")
  | ((with_reducible apply asg_run); (walk_at "e"); (exact rfl); walk_at "l")
  | ((with_reducible apply aug_run); (exact rfl); (exact rfl); (walk_at "e"); (exact rfl); (walk_at "d"); (exact rfl); (exact rfl); walk_at "l")
  | ((with_reducible apply sto_run); (walk_at "e"); (walk_at "e"); (walk_at "e"); (exact rfl); (walk_at "x"); walk_at "l")
  | ((with_reducible apply app_run); (walk_at "e"); (exact rfl); (walk_at "e"); (exact rfl); (exact rfl); (walk_at "z"); walk_at "l"))
local macro_rules | `(tactic| walk_at "z") => `(tactic| first | assumption | exact Nat.le_of_ble_eq_true rfl | (simp; omega))
local macro_rules | `(tactic| walk_at "s") => `(tactic| first
  | with_reducible apply sr_nx
  | with_reducible apply sr_assoc
  | with_reducible apply ap_fg
  | ((with_reducible apply fgK_nx); (exact rfl); (walk_at "l"); skip)
  | ((with_reducible apply fgK_ct); (exact rfl); (walk_at "l"); skip)
  | ((with_reducible apply fgK_bk); (exact rfl); (walk_at "l"); skip)
  | with_reducible apply fgK_ret
  | with_reducible apply sr_bk1
  | with_reducible apply sr_ct1
  | with_reducible apply sr_nx1
  | with_reducible apply sr_ct
  | with_reducible apply sr_bk
  | (with_reducible apply sr_retS); (walk_at "e"); skip
  | (with_reducible apply sr_ret); (walk_at "e"); skip
  | (with_reducible apply sr_if); (walk_at "e"); (walk_at "l")
  | (with_reducible apply sr_if1); (walk_at "e"); (walk_at "l")
  | (with_reducible apply seq_nx); (walk_at "st")
  | (with_reducible apply one_nx); (walk_at "st"))
local macro_rules | `(tactic| walk_at "r") => `(tactic| repeat' (first | (intro _) | walk_at "s"))
local macro_rules | `(tactic| walk_at "k") => `(tactic| (intro q; (try simp only [decide_eq_true_eq, decide_eq_false_iff_not, beq_iff_eq, beq_eq_false_iff_ne, ne_eq, Bool.not_eq_true', Bool.not_eq_false', Bool.and_eq_true, Bool.or_eq_true, Bool.and_eq_false_iff, Bool.or_eq_false_iff, Int.not_lt, Int.not_le, List.cons.injEq, and_true, reduceCtorEq, beq_self_eq_true, Bool.not_true, Bool.not_false, Bool.or_false, Bool.false_or, Bool.or_true, Bool.true_or, Bool.and_false, Bool.false_and, Bool.and_true, Bool.true_and, not_true_eq_false, Bool.false_eq_true] at q) <;> (try (exfalso; first | (cases q; done) | omega | contradiction))))
local macro_rules | `(tactic| walk_at "w") => `(tactic| repeat' (first | (walk_at "k") | walk_at "s"))
local macro_rules | `(tactic| walk_at "e") => `(tactic| first | ((with_reducible apply er_ifT); (walk_at "e"); (walk_at "e")) | ((with_reducible apply er_ifF); (walk_at "e"); (walk_at "e")))
theorem txs_of : ∀ L : List (List Nat), txsD (L.map D.str) = some L
  | [] => rfl
  | p :: L => by simp only [List.map_cons, txsD, txs_of L, Option.bind_eq_bind, Option.bind_some]
theorem join_nil : ∀ L : List (List Nat), TL.joinL [] L = L.flatten
  | [] => rfl
  | [a] => by simp [TL.joinL]
  | a :: b :: L => by
    have := join_nil (b :: L)
    simp only [TL.joinL, List.nil_append] at this ⊢
    rw [this, List.flatten_cons]
    try rfl
theorem dr_joinF (L : List (List Nat)) (h : (L.map List.length).sum ≤ 16777216) : joinD (.str []) [.lst (L.map D.str)] = some (.str L.flatten) := by
  simp only [joinD, txs_of, Option.bind_eq_bind, Option.bind_some, join_nil]
  rw [if_pos (by simpa using h)]
def escD : D → D
  | .str [c] => if c = 34 then .str [34, 34] else .str [c]
  | d => d
theorem escD_map (t : List Nat) : (signsD t).map escD = (t.map fun c => if c = 34 then [34, 34] else [c]).map D.str := by
  unfold signsD
  rw [List.map_map, List.map_map]
  refine List.map_congr_left fun c _ => ?_
  show (if c = 34 then D.str [34, 34] else D.str [c]) = D.str (if c = 34 then [34, 34] else [c])
  split <;> rfl
theorem esc_sum (t : List Nat) : ((t.map fun c => if c = 34 then [34, 34] else [c]).map List.length).sum ≤ 2 * t.length := by
  induction t with
  | nil => exact Nat.le_refl _
  | cons c t ih =>
    rw [List.map_cons, List.map_cons, List.sum_cons, List.length_cons]
    split <;> simp only [List.length_cons, List.length_nil] <;> omega
theorem written_ok (sep : Nat) (t : List Nat) (m : Bool) (hl : t.length ≤ 1000) : d__law_written [.str t, .str [sep], .bl m] = some (.dat (.str (wr t m))) := by
  unfold d__law_written b__law_written
  refine runP_ap (g := [.dat (.str t), .dat (.str [sep]), .dat (.bl m), .un]) rfl rfl ?_
  have tt : zNotT (zTru (zVar 2)) [.dat (.str t), .dat (.str [sep]), .dat (.bl m), .un] = some (!m, [.dat (.str t), .dat (.str [sep]), .dat (.bl m), .un]) := er_notT (b := m) (er_tru rfl rfl rfl)
  cases m with
  | false =>
    refine sr_if (g2 := [.dat (.str t), .dat (.str [sep]), .dat (.bl false), .un]) tt rfl (fun _ => ?_) (fun q => by cases q)
    exact sr_retS rfl rfl
  | true =>
    refine sr_if (g2 := [.dat (.str t), .dat (.str [sep]), .dat (.bl true), .un]) tt rfl (fun q => by cases q) (fun _ => ?_)
    have e := er_lc1 (b := fun _ => true) (f := escD) (tg := gN 3) (tt := zYes) (el := zIf (zTst (zOp eqD (zVar 3) (zC (.str [34])))) (zC (.str [34, 34])) (zVar 3)) (vs := [3]) (base := [.dat (.str t), .dat (.str [sep]), .dat (.bl true), .un]) (mi := ziS (zVar 0)) (g := [.dat (.str t), .dat (.str [sep]), .dat (.bl true), .un]) (L := signsD t) (mi_S rfl) (fun o => rfl) (fun o => rfl) (by unfold signsD; rw [List.length_map]; exact Nat.le_trans hl (by decide))
      (fun d hd => by
        unfold signsD at hd
        obtain ⟨c, hc, rfl⟩ := List.mem_map.mp hd
        refine lc_dat (h := [.dat (.str t), .dat (.str [sep]), .dat (.bl true), .dat (.str [c])]) rfl (fun o => rfl) (fun o => rfl) (fun o => rfl) (fun o => rfl) (fun _ o => ?_)
        have u : zTst (zOp eqD (zVar 3) (zC (.str [34]))) ([.dat (.str t), .dat (.str [sep]), .dat (.bl true), .dat (.str [c])] ++ [o]) = some (([c] == [34]), [.dat (.str t), .dat (.str [sep]), .dat (.bl true), .dat (.str [c])] ++ [o]) := er_tst (er_op rfl er_C rfl rfl dr_eqS rfl)
        by_cases h : c = 34
        · subst h
          exact er_ifT u er_C
        · have q : ([c] == [34]) = false := by simp [h]
          rw [q] at u
          have ed : escD (.str [c]) = .str [c] := if_neg h
          rw [ed]
          exact er_ifF u rfl)
    rw [List.filter_eq_self.mpr (fun _ _ => rfl), escD_map] at e
    have sm := esc_sum t
    have j := dr_joinF (t.map fun c => if c = 34 then [34, 34] else [c]) (by omega)
    have fe : (t.map fun c => if c = 34 then [34, 34] else [c]).flatten = esc t := by unfold esc; rw [List.flatMap_def]
    rw [fe] at j
    have el := esc_len t
    have c1 := dr_cat (a := [34]) (b := esc t) (Nat.le_trans (show _ ≤ 3000 by simp; omega) (by decide))
    have c2 := dr_cat (a := [34] ++ esc t) (b := [34]) (Nat.le_trans (show _ ≤ 3000 by simp; omega) (by decide))
    generalize (t.map fun c => if c = 34 then [34, 34] else [c]).map D.str = LL at *
    refine sr_nx (sr_ret (er_op (er_op er_C (er_mt er_C rfl rfl (er_cons e er_nil) rfl rfl j rfl) rfl rfl c1 rfl) er_C rfl rfl c2 rfl) ?_)
    show some (FR.dat (.str _)) = _
    rw [List.append_assoc]
    rfl
abbrev tPl (x : List Nat × Nat × Bool) : D := .tup [.str x.1, .int (x.2.1 : Int), .bl x.2.2]
abbrev toldD (P : List (List (List Nat × Nat × Bool))) : List D := P.map fun r => .lst (r.map fP)
abbrev dueD (P : List (List (List Nat × Nat × Bool))) : List D := P.map fun r => .lst (r.map tPl)
def XOk (x : List Nat × Nat × Bool) : Prop := (∀ c ∈ x.1, c < 127) ∧ x.2.1 ≤ 100000
theorem isint_i (i : Int) : d__law_is_integer [.int i] = some (.dat (.bl true)) := by
  unfold d__law_is_integer b__law_is_integer
  refine runP_ap (g := [.dat (.int i)]) rfl rfl ?_
  walk_at "w"
  exact rfl
theorem tpl_ne {x : List Nat × Nat × Bool} (h : XOk x) : neqD (tPl x) (tPl x) = some (.bl false) := by
  obtain ⟨t, p, m⟩ := x
  obtain ⟨h1, h2⟩ := h
  have h2 : p ≤ 100000 := h2
  have r : (tPl (t, p, m)).rok = true := by
    show ((t.all fun c => decide (c < 1114112)) && (decide (Int.natAbs (p : Int) < 10 ^ 60) && (true && true))) = true
    rw [decide_eq_true (by omega), List.all_eq_true.mpr fun c hc => decide_eq_true (by have := h1 c hc; omega)]
    rfl
  have e := dr_neR r (show (tPl (t, p, m)).dp ≤ 60 from by show max 0 (max 0 (max 0 0)) + 1 ≤ 60; decide) r (show (tPl (t, p, m)).dp ≤ 60 from by show max 0 (max 0 (max 0 0)) + 1 ≤ 60; decide)
  rw [show D.eqv (tPl (t, p, m)) (tPl (t, p, m)) = true from by
    show ((t == t) && (((p : Int) == (p : Int)) && ((m == m) && true))) = true
    simp] at e
  exact e
theorem same1 {TD DD : List D} {k j : Int} {x : List Nat × Nat × Bool} {a b : D} (hx : XOk x) (q0 : ixD (.lst TD) k = some a) (q1 : ixD a j = some (fP x)) (q2 : ixD (.lst DD) k = some b) (q3 : ixD b j = some (tPl x)) :
    lb__law_same_1 [.dat (.lst TD), .dat (.lst DD), .dat (.int k), .dat (.int j), .un] = some (.nx, [.dat (.lst TD), .dat (.lst DD), .dat (.int k), .un, .un]) := by
  have z1 : zSet 5 4 (zIx (zIx (zVar 0) (zVar 2)) (zVar 3)) [.dat (.lst TD), .dat (.lst DD), .dat (.int k), .dat (.int j), .un] = some (.nx, [.dat (.lst TD), .dat (.lst DD), .dat (.int k), .dat (.int j), .dat (fP x)]) := set_dat (er_ix (er_ix rfl rfl rfl q0) rfl rfl q1) rfl rfl
  have ib := fun b : Bool => (isi_of (d := .bl b) rfl kb_bool_bool : isiD [.bl b, .raw (.ty "bool")] = some (.bl true))
  have ii := isint_i (x.2.1 : Int)
  have ne := tpl_ne hx
  obtain ⟨t, p, m⟩ := x
  have t1 : zOrT (zNotT (zTru (zIsO "Field" (zVar 4)))) (zOrT (zNotT (zTru (zCall d__law_is_integer (zCons (zFld "Field" fl_Field 1 (zVar 4)) (zNil))))) (zNotT (zTru (zCallS isiD (zCons (zFld "Field" fl_Field 2 (zVar 4)) (zCons (zC (.raw (.ty "bool"))) (zNil))))))) [.dat (.lst TD), .dat (.lst DD), .dat (.int k), .dat (.int j), .dat (fP (t, p, m))] = some (false, [.dat (.lst TD), .dat (.lst DD), .dat (.int k), .dat (.int j), .dat (fP (t, p, m))]) :=
    er_orTF (er_notT (b := true) (er_tru (er_isO rfl) rfl rfl)) rfl (er_orTF (er_notT (b := true) (er_tru (er_call (ds := [.int (p : Int)]) (er_cons (er_fld rfl rfl) er_nil) ii) rfl rfl)) rfl (er_notT (b := true) (er_tru (er_callS (er_cons (er_fld rfl rfl) (er_cons er_C er_nil)) rfl (ib m) rfl) rfl rfl)))
  have t2 : zTst (zOp neqD (zTup (zCons (zFld "Field" fl_Field 0 (zVar 4)) (zCons (zFld "Field" fl_Field 1 (zVar 4)) (zCons (zFld "Field" fl_Field 2 (zVar 4)) (zNil))))) (zIx (zIx (zVar 1) (zVar 2)) (zVar 3))) [.dat (.lst TD), .dat (.lst DD), .dat (.int k), .dat (.int j), .dat (fP (t, p, m))] = some (false, [.dat (.lst TD), .dat (.lst DD), .dat (.int k), .dat (.int j), .dat (fP (t, p, m))]) :=
    er_tst (er_op (er_tup (er_cons (er_fld rfl rfl) (er_cons (er_fld rfl rfl) (er_cons (er_fld rfl rfl) er_nil))) rfl (Nat.le_of_ble_eq_true rfl)) (er_ix (er_ix rfl rfl rfl q2) rfl rfl q3) rfl rfl ne rfl)
  exact fg_nx (seq_is z1 (seq_is (if_no t1 rfl rfl) (if_no t2 rfl rfl))) rfl rfl
theorem same_all {P : List (List (List Nat × Nat × Bool))} (h : ∀ r ∈ P, (∀ x ∈ r, XOk x) ∧ r.length ≤ 1000) (hl : P.length ≤ 1000) : d__law_same [.lst (toldD P), .lst (dueD P)] = some (.dat (.bl true)) := by
  have il : ∀ L : List D, isiD [.lst L, .raw (.ty "list")] = some (.bl true) := fun L => isi_of rfl kb_list_list
  have l1 : (toldD P).length = P.length := List.length_map _
  have l2 : (dueD P).length = P.length := List.length_map _
  have turn : ∀ i : Nat, i < P.length → lb__law_same_2 [.dat (.lst (toldD P)), .dat (.lst (dueD P)), .dat (.int (0 + (i : Int))), .un, .un] = some (.nx, [.dat (.lst (toldD P)), .dat (.lst (dueD P)), .un, .un, .un]) := fun i hi => by
    obtain ⟨hx, hr⟩ := h _ (List.getElem_mem hi)
    have q0 : ixD (.lst (toldD P)) (0 + (i : Int)) = some (.lst (P[i].map fP)) := by
      rw [show (0 + (i : Int)) = (i : Int) by omega]
      exact atI_nat (by rw [List.getElem?_map, List.getElem?_eq_getElem hi]; rfl)
    have q2 : ixD (.lst (dueD P)) (0 + (i : Int)) = some (.lst (P[i].map tPl)) := by
      rw [show (0 + (i : Int)) = (i : Int) by omega]
      exact atI_nat (by rw [List.getElem?_map, List.getElem?_eq_getElem hi]; rfl)
    generalize toldD P = TD at *
    generalize dueD P = DD at *
    generalize P[i] = r at *
    generalize (0 + (i : Int)) = k at *
    have lf : (r.map fP).length = r.length := List.length_map _
    have lt : (r.map tPl).length = r.length := List.length_map _
    have t0 : zOrT (zNotT (zTru (zCallS isiD (zCons (zIx (zVar 0) (zVar 2)) (zCons (zC (.raw (.ty "list"))) (zNil)))))) (zTst (zOp neqD (zCallS lenD (zCons (zIx (zVar 0) (zVar 2)) (zNil))) (zCallS lenD (zCons (zIx (zVar 1) (zVar 2)) (zNil))))) [.dat (.lst TD), .dat (.lst DD), .dat (.int k), .un, .un] = some (false, [.dat (.lst TD), .dat (.lst DD), .dat (.int k), .un, .un]) := by
      have n0 : neqD (.int ((r.map fP).length : Nat)) (.int ((r.map tPl).length : Nat)) = some (.bl false) := by rw [lf, lt, dr_neI]; simp
      exact er_orTF (er_notT (b := true) (er_tru (er_callS (er_cons (er_ix rfl rfl rfl q0) (er_cons er_C er_nil)) rfl (il _) rfl) rfl rfl)) rfl (er_tst (er_op (er_callS (er_cons (er_ix rfl rfl rfl q0) er_nil) rfl rfl rfl) (er_callS (er_cons (er_ix rfl rfl rfl q2) er_nil) rfl rfl rfl) rfl rfl n0 rfl))
    have lp : forL (gN 3) lb__law_same_1 (rgD 0 r.length) [.dat (.lst TD), .dat (.lst DD), .dat (.int k), .un, .un] = some (.nx, [.dat (.lst TD), .dat (.lst DD), .dat (.int k), .un, .un]) := forL_all fun d hd => by
      obtain ⟨j, hj⟩ := List.getElem?_of_mem hd
      obtain ⟨h2, rfl⟩ := rgD_at hj
      refine ⟨_, rfl, same1 (hx _ (List.getElem_mem h2)) q0 ?_ q2 ?_⟩
      · rw [show (0 + (j : Int)) = (j : Int) by omega]
        exact atI_nat (by rw [List.getElem?_map, List.getElem?_eq_getElem h2]; rfl)
      · rw [show (0 + (j : Int)) = (j : Int) by omega]
        exact atI_nat (by rw [List.getElem?_map, List.getElem?_eq_getElem h2]; rfl)
    have fo : zFor 5 (ziR1 (zCons (zCallS lenD (zCons (zIx (zVar 1) (zVar 2)) (zNil))) (zNil))) (gN 3) (lb__law_same_1) [.dat (.lst TD), .dat (.lst DD), .dat (.int k), .un, .un] = some (.nx, [.dat (.lst TD), .dat (.lst DD), .dat (.int k), .un, .un]) :=
      for_run (mi_R1 (k := ((r.length : Nat) : Int)) (er_cons (er_callS (z := .int (r.length : Nat)) (er_cons (er_ix rfl rfl rfl q2) er_nil) rfl (by rw [← lt]; rfl) rfl) er_nil) (rgOk_of (by omega) (by omega))) rfl (by rw [Int.toNat_natCast]; exact lp)
    exact fg_nx (seq_is (if_no t0 rfl rfl) fo) rfl rfl
  generalize toldD P = TD at *
  generalize dueD P = DD at *
  have lp : forL (gN 2) lb__law_same_2 (rgD 0 P.length) [.dat (.lst TD), .dat (.lst DD), .un, .un, .un] = some (.nx, [.dat (.lst TD), .dat (.lst DD), .un, .un, .un]) := forL_all fun d hd => by
    obtain ⟨i, hi⟩ := List.getElem?_of_mem hd
    obtain ⟨h2, rfl⟩ := rgD_at hi
    exact ⟨_, rfl, turn i h2⟩
  have t0 : zOrT (zNotT (zTru (zCallS isiD (zCons (zVar 0) (zCons (zC (.raw (.ty "list"))) (zNil)))))) (zTst (zOp neqD (zCallS lenD (zCons (zVar 0) (zNil))) (zCallS lenD (zCons (zVar 1) (zNil))))) [.dat (.lst TD), .dat (.lst DD), .un, .un, .un] = some (false, [.dat (.lst TD), .dat (.lst DD), .un, .un, .un]) := by
    have n0 : neqD (.int (TD.length : Nat)) (.int (DD.length : Nat)) = some (.bl false) := by rw [l1, l2, dr_neI]; simp
    exact er_orTF (er_notT (b := true) (er_tru (er_callS (er_cons rfl (er_cons er_C er_nil)) rfl (il TD) rfl) rfl rfl)) rfl (er_tst (er_op (er_callS (er_cons rfl er_nil) rfl rfl rfl) (er_callS (er_cons rfl er_nil) rfl rfl rfl) rfl rfl n0 rfl))
  unfold d__law_same b__law_same
  refine runP_ap (g := [.dat (.lst TD), .dat (.lst DD), .un, .un, .un]) rfl rfl ?_
  refine sr_if (g2 := [.dat (.lst TD), .dat (.lst DD), .un, .un, .un]) t0 rfl (fun q => by cases q) (fun _ => ?_)
  refine sr_nx (seq_nx (for_run (mi_R1 (k := ((P.length : Nat) : Int)) (er_cons (er_callS (z := .int (P.length : Nat)) (er_cons rfl er_nil) rfl (by rw [← l2]; rfl) rfl) er_nil) (rgOk_of (by omega) (by omega))) rfl (by rw [Int.toNat_natCast]; exact lp)) ?_)
  exact sr_ret er_C rfl
theorem same_no {TD DD : List D} (h : TD.length ≠ DD.length) : d__law_same [.lst TD, .lst DD] = some (.dat (.bl false)) := by
  have il : ∀ L : List D, isiD [.lst L, .raw (.ty "list")] = some (.bl true) := fun L => isi_of rfl kb_list_list
  have t0 : zOrT (zNotT (zTru (zCallS isiD (zCons (zVar 0) (zCons (zC (.raw (.ty "list"))) (zNil)))))) (zTst (zOp neqD (zCallS lenD (zCons (zVar 0) (zNil))) (zCallS lenD (zCons (zVar 1) (zNil))))) [.dat (.lst TD), .dat (.lst DD), .un, .un, .un] = some (true, [.dat (.lst TD), .dat (.lst DD), .un, .un, .un]) := by
    have n0 : neqD (.int (TD.length : Nat)) (.int (DD.length : Nat)) = some (.bl true) := by
      rw [dr_neI]
      simp
      omega
    exact er_orTF (er_notT (b := true) (er_tru (er_callS (er_cons rfl (er_cons er_C er_nil)) rfl (il TD) rfl) rfl rfl)) rfl (er_tst (er_op (er_callS (er_cons rfl er_nil) rfl rfl rfl) (er_callS (er_cons rfl er_nil) rfl rfl rfl) rfl rfl n0 rfl))
  unfold d__law_same b__law_same
  refine runP_ap (g := [.dat (.lst TD), .dat (.lst DD), .un, .un, .un]) rfl rfl ?_
  refine sr_if (g2 := [.dat (.lst TD), .dat (.lst DD), .un, .un, .un]) t0 rfl (fun _ => ?_) (fun q => by cases q)
  exact sr_retS er_C rfl
end Qk80
set_option Elab.async false
set_option linter.all false
set_option maxRecDepth 100000
set_option maxHeartbeats 4000000
namespace Qk80
open PySem PySem.Spec PyProof.Rows L2 Z
local macro_rules | `(tactic| walk_at "l") => `(tactic| first | (simp only [wipeG_nil, wipeG_cons, List.set_cons_succ, List.set_cons_zero, List.take_succ_cons, List.take_zero, List.take_nil, List.cons_append, List.nil_append, List.length_cons, List.length_nil, List.set_nil, List.getElem?_cons_zero, List.getElem?_cons_succ, Nat.zero_add, Nat.reduceAdd]; first | done | exact rfl) | exact rfl)
local macro_rules | `(tactic| walk_at "d") => `(tactic| first
  | with_reducible assumption
  | (with_reducible apply dr_div) <;> decide
  | (with_reducible apply dr_mod) <;> decide
  | (with_reducible apply dr_mulr); decide
  | (with_reducible apply dr_mull); decide
  | (with_reducible apply dr_divB) <;> omega
  | (with_reducible apply dr_mulrB) <;> omega
  | (with_reducible apply dr_mullB) <;> omega
  | (with_reducible apply dr_mulC) <;> omega
  | (with_reducible apply dr_mod) <;> omega
  | (with_reducible refine isi_of ?_ ?_); (exact rfl); (first | exact kb_int_int | exact kb_int_bool | exact kb_bool_bool | exact kb_bool_int | exact kb_str_int | exact kb_str_bool | exact kb_str_str | exact kb_int_str | exact kb_bool_str | exact kb_non_int | exact kb_non_bool | exact kb_non_str | exact kb_list_list | exact kb_tuple_tuple | exact kb_list_tuple | exact kb_tuple_list)
  | with_reducible exact dr_abs
  | (with_reducible exact dr_neL _ _)
  | (simp only [Cn.d]; with_reducible assumption)
  | (simp only [Cn.d]; with_reducible exact dr_neL _ _)
  | with_reducible exact in_ints _ _
  | (simp only [Cn.d]; with_reducible exact in_ints _ _)
  | ((with_reducible apply dr_cat); (try simp only [List.length_append, List.length_cons, List.length_nil]); omega)
  | with_reducible exact dr_eqI
  | with_reducible exact dr_eqB
  | with_reducible exact dr_neB
  | with_reducible exact dr_eqS
  | with_reducible exact dr_neI
  | with_reducible exact dr_neS
  | exact rfl)
local macro_rules | `(tactic| walk_at "c") => `(tactic| first | with_reducible assumption | (simp only [Cn.d]; with_reducible assumption))
local macro_rules | `(tactic| walk_at "e") => `(tactic| first
  | with_reducible exact er_C
  | with_reducible exact er_nil
  | (with_reducible apply er_varD); exact rfl
  | (with_reducible apply er_varO); exact rfl
  | (with_reducible apply er_varF); exact rfl
  | (with_reducible apply er_op); walk_at "e"; walk_at "e"; exact rfl; exact rfl; walk_at "d"; exact rfl
  | (with_reducible apply er_chain); walk_at "e"; walk_at "e"; exact rfl; exact rfl; walk_at "d"; (intro _h; walk_at "e"); exact rfl; walk_at "d"
  | (with_reducible apply er_slS); walk_at "e"; walk_at "o"; walk_at "o"; exact rfl; walk_at "z"
  | (with_reducible apply er_slL); walk_at "e"; walk_at "o"; walk_at "o"; exact rfl
  | (with_reducible apply er_list); walk_at "e"; exact rfl; exact rfl
  | (with_reducible apply er_tupL); walk_at "e"; exact rfl
  | (with_reducible apply er_un); walk_at "e"; exact rfl; exact rfl; exact rfl
  | (with_reducible apply er_tst); walk_at "e"
  | (with_reducible apply er_tru); walk_at "e"; exact rfl; exact rfl
  | (with_reducible apply er_andT); walk_at "e"; (intro _h; walk_at "e")
  | (with_reducible apply er_orT); walk_at "e"; (intro _h; walk_at "e")
  | (with_reducible apply er_andTT); walk_at "e"; exact rfl; walk_at "e"
  | (with_reducible apply er_orTF); walk_at "e"; exact rfl; walk_at "e"
  | (with_reducible apply er_notT); walk_at "e"
  | (with_reducible apply er_andV); walk_at "e"; (intro _h; walk_at "e")
  | (with_reducible apply er_orV); walk_at "e"; (intro _h; walk_at "e")
  | (with_reducible apply er_notV); walk_at "e"
  | (with_reducible apply er_andVT); walk_at "e"; exact rfl; walk_at "e"
  | (with_reducible apply er_orVF); walk_at "e"; exact rfl; walk_at "e"
  | (with_reducible apply er_ix); walk_at "e"; walk_at "e"; exact rfl; walk_at "x"
  | (with_reducible apply er_callS); walk_at "e"; exact rfl; walk_at "d"; exact rfl
  | (with_reducible apply er_cons); walk_at "e"; walk_at "e"
  | (with_reducible apply er_callG); walk_at "e"; exact rfl; exact rfl; walk_at "c"; exact rfl
  | (with_reducible apply er_callH); walk_at "e"; exact rfl; exact rfl; walk_at "c"; exact rfl
  | (with_reducible apply er_callV); walk_at "e"; exact rfl; walk_at "c"; exact rfl
  | (with_reducible apply er_callGF); walk_at "e"; exact rfl; exact rfl; walk_at "c"; exact rfl
  | (with_reducible apply er_callHF); walk_at "e"; exact rfl; exact rfl; walk_at "c"; exact rfl
  | (with_reducible apply er_callM); walk_at "e"; exact rfl; exact rfl; exact rfl; exact rfl; exact rfl; walk_at "c"; exact rfl
  | (with_reducible apply er_catL); walk_at "e"; walk_at "e"; exact rfl; exact rfl; walk_at "z"
  | (with_reducible apply er_mt); walk_at "e"; exact rfl; exact rfl; walk_at "e"; exact rfl; exact rfl; walk_at "m"; exact rfl
  | (with_reducible apply er_tup); walk_at "e"; exact rfl; walk_at "z" 
  | (with_reducible apply er_lst); walk_at "e"; exact rfl; walk_at "z")
local macro_rules | `(tactic| walk_at "o") => `(tactic| first | exact er_zoN | ((with_reducible apply er_zoS); walk_at "e"))
local macro_rules | `(tactic| walk_at "x") => `(tactic| first | with_reducible assumption | (simp only [Cn.d]; with_reducible assumption) | exact rfl)
local macro_rules | `(tactic| walk_at "m") => `(tactic| first | with_reducible assumption | (simp only [Cn.d]; with_reducible assumption) | exact rfl)
local macro_rules | `(tactic| walk_at "st") => `(tactic| first
  | ((with_reducible apply set_dat); (walk_at "e"); (exact rfl); walk_at "l")
  | ((with_reducible apply set_own); (walk_at "e"); (exact Nat.le_of_ble_eq_true rfl); (exact rfl); (exact rfl); walk_at "l")
  | ((with_reducible apply asg_run); (walk_at "e"); (exact rfl); walk_at "l")
  | ((with_reducible apply aug_run); (exact rfl); (exact rfl); (walk_at "e"); (exact rfl); (walk_at "d"); (exact rfl); (exact rfl); walk_at "l")
  | ((with_reducible apply sto_run); (walk_at "e"); (walk_at "e"); (walk_at "e"); (exact rfl); (walk_at "x"); walk_at "l")
  | ((with_reducible apply app_run); (walk_at "e"); (exact rfl); (walk_at "e"); (exact rfl); (exact rfl); (walk_at "z"); walk_at "l"))
local macro_rules | `(tactic| walk_at "z") => `(tactic| first | assumption | exact Nat.le_of_ble_eq_true rfl | (simp; omega))
local macro_rules | `(tactic| walk_at "s") => `(tactic| first
  | with_reducible apply sr_nx
  | with_reducible apply sr_assoc
  | with_reducible apply ap_fg
  | ((with_reducible apply fgK_nx); (exact rfl); (walk_at "l"); skip)
  | ((with_reducible apply fgK_ct); (exact rfl); (walk_at "l"); skip)
  | ((with_reducible apply fgK_bk); (exact rfl); (walk_at "l"); skip)
  | with_reducible apply fgK_ret
  | with_reducible apply sr_bk1
  | with_reducible apply sr_ct1
  | with_reducible apply sr_nx1
  | with_reducible apply sr_ct
  | with_reducible apply sr_bk
  | (with_reducible apply sr_retS); (walk_at "e"); skip
  | (with_reducible apply sr_ret); (walk_at "e"); skip
  | (with_reducible apply sr_if); (walk_at "e"); (walk_at "l")
  | (with_reducible apply sr_if1); (walk_at "e"); (walk_at "l")
  | (with_reducible apply seq_nx); (walk_at "st")
  | (with_reducible apply one_nx); (walk_at "st"))
local macro_rules | `(tactic| walk_at "r") => `(tactic| repeat' (first | (intro _) | walk_at "s"))
local macro_rules | `(tactic| walk_at "k") => `(tactic| (intro q; (try simp only [decide_eq_true_eq, decide_eq_false_iff_not, beq_iff_eq, beq_eq_false_iff_ne, ne_eq, Bool.not_eq_true', Bool.not_eq_false', Bool.and_eq_true, Bool.or_eq_true, Bool.and_eq_false_iff, Bool.or_eq_false_iff, Int.not_lt, Int.not_le, List.cons.injEq, and_true, reduceCtorEq, beq_self_eq_true, Bool.not_true, Bool.not_false, Bool.or_false, Bool.false_or, Bool.or_true, Bool.true_or, Bool.and_false, Bool.false_and, Bool.and_true, Bool.true_and, not_true_eq_false, Bool.false_eq_true] at q) <;> (try (exfalso; first | (cases q; done) | omega | contradiction))))
local macro_rules | `(tactic| walk_at "w") => `(tactic| repeat' (first | (walk_at "k") | walk_at "s"))
theorem recT_snoc (sep : Nat) (x : Fl') : ∀ fs : List Fl', fs ≠ [] → recT sep (fs ++ [x]) = recT sep fs ++ sep :: wr x.1 x.2
  | [], h => (h rfl).elim
  | [a], _ => rfl
  | a :: b :: fs, _ => by
    have ih := recT_snoc sep x (b :: fs) (by simp)
    show wr a.1 a.2 ++ sep :: recT sep ((b :: fs) ++ [x]) = (wr a.1 a.2 ++ sep :: recT sep (b :: fs)) ++ sep :: wr x.1 x.2
    rw [ih, List.append_assoc]
    rfl
theorem recP_snoc (sep : Nat) (x : Fl') : ∀ (fs : List Fl') (a : Nat), fs ≠ [] → recP a (fs ++ [x]) = recP a fs ++ [(x.1, a + (recT sep fs).length + 1, x.2)]
  | [], _, h => (h rfl).elim
  | [y], a, _ => rfl
  | y :: b :: fs, a, _ => by
    have ih := recP_snoc sep x (b :: fs) (a + (wr y.1 y.2).length + 1) (by simp)
    show (y.1, a, y.2) :: recP (a + (wr y.1 y.2).length + 1) ((b :: fs) ++ [x]) = (y.1, a, y.2) :: (recP (a + (wr y.1 y.2).length + 1) (b :: fs) ++ [(x.1, a + (recT sep (y :: b :: fs)).length + 1, x.2)])
    rw [ih]
    have e : a + (wr y.1 y.2).length + 1 + (recT sep (b :: fs)).length + 1 = a + (recT sep (y :: b :: fs)).length + 1 := by
      show _ = a + (wr y.1 y.2 ++ sep :: recT sep (b :: fs)).length + 1
      rw [List.length_append, List.length_cons]
      omega
    rw [e]
/-- a drawn field -/
def DOk (sep : Nat) (x : Fl') : Prop := x.1.length ≤ 5 ∧ (∀ c ∈ x.1, c < 127) ∧ (x.2 = false → ∀ c ∈ x.1, c ≠ sep ∧ c ≠ 34 ∧ c ≠ 10)
theorem DOk.fok {sep : Nat} {x : Fl'} (h : DOk sep x) : FOk sep x := ⟨by have := h.1; omega, h.2.2⟩
theorem DOk.wr {sep : Nat} {x : Fl'} (h : DOk sep x) : (wr x.1 x.2).length ≤ 12 := by
  have l := h.1
  have e := esc_len x.1
  unfold Qk80.wr
  split
  · rw [List.length_cons, List.length_append, List.length_singleton]
    omega
  · omega
theorem recT_len {sep : Nat} : ∀ {fs : List Fl'}, (∀ y ∈ fs, DOk sep y) → (recT sep fs).length ≤ 13 * fs.length
  | [], _ => Nat.le_refl _
  | [x], h => by
    have := (h x List.mem_cons_self).wr
    show (wr x.1 x.2).length ≤ 13 * 1
    omega
  | x :: y :: r, h => by
    have := (h x List.mem_cons_self).wr
    have ih := recT_len (sep := sep) (fs := y :: r) fun z m => h z (List.mem_cons_of_mem _ m)
    show (wr x.1 x.2 ++ sep :: recT sep (y :: r)).length ≤ 13 * (r.length + 1 + 1)
    rw [List.length_append, List.length_cons]
    rw [List.length_cons] at ih
    omega
theorem recP_ok {sep : Nat} : ∀ {fs : List Fl'} {a : Nat}, (∀ y ∈ fs, DOk sep y) → a + 13 * fs.length ≤ 100000 → (∀ x ∈ recP a fs, XOk x) ∧ (recP a fs).length = fs.length
  | [], a, _, _ => ⟨fun x h => (List.not_mem_nil h).elim, rfl⟩
  | y :: fs, a, h, hl => by
    have hy := h y List.mem_cons_self
    have l := hy.wr
    rw [List.length_cons] at hl
    obtain ⟨q1, q2⟩ := recP_ok (sep := sep) (fs := fs) (a := a + (wr y.1 y.2).length + 1) (fun z m => h z (List.mem_cons_of_mem _ m)) (by omega)
    refine ⟨fun x m => ?_, by show (recP _ fs).length + 1 = _; rw [q2]; rfl⟩
    rcases List.mem_cons.mp m with rfl | m
    · exact ⟨hy.2.1, by show a ≤ 100000; omega⟩
    · exact q1 x m
/-- a drawn record -/
def ROk (sep : Nat) (r : List Fl' × Bool) : Prop := r.1 ≠ [] ∧ r.1.length ≤ 5 ∧ ∀ y ∈ r.1, DOk sep y
theorem recsP_ok {sep : Nat} : ∀ {L : List (List Fl' × Bool)} {k : Nat}, (∀ r ∈ L, ROk sep r) → k + 70 * L.length ≤ 50000 → (∀ r ∈ recsP sep k L, (∀ x ∈ r, XOk x) ∧ r.length ≤ 1000) ∧ (recsP sep k L).length = L.length
  | [], k, _, _ => ⟨fun x h => (List.not_mem_nil h).elim, rfl⟩
  | r :: L, k, h, hl => by
    obtain ⟨r1, r2, r3⟩ := h r List.mem_cons_self
    rw [List.length_cons] at hl
    have l := recT_len r3
    obtain ⟨p1, p2⟩ := recP_ok (a := k) r3 (by omega)
    obtain ⟨q1, q2⟩ := recsP_ok (sep := sep) (L := L) (k := k + (recT sep r.1).length + 1) (fun z m => h z (List.mem_cons_of_mem _ m)) (by omega)
    refine ⟨fun x m => ?_, by show (recsP sep _ L).length + 1 = _; rw [q2]; rfl⟩
    rcases List.mem_cons.mp m with rfl | m
    · exact ⟨p1, by omega⟩
    · exact q1 x m
theorem txt_snoc (sep : Nat) (L : List (List Fl' × Bool)) (r : List Fl' × Bool) : txt sep (L ++ [r]) = txt sep L ++ (recT sep r.1 ++ if r.2 = true then [10] else []) := by
  unfold txt
  rw [List.flatMap_append, List.flatMap_singleton]
theorem txt_len {sep : Nat} : ∀ {L : List (List Fl' × Bool)}, (∀ r ∈ L, ROk sep r) → (txt sep L).length ≤ 70 * L.length
  | [], _ => Nat.le_refl _
  | r :: L, h => by
    obtain ⟨r1, r2, r3⟩ := h r List.mem_cons_self
    have l := recT_len r3
    have ih := txt_len (sep := sep) (L := L) fun z m => h z (List.mem_cons_of_mem _ m)
    show ((recT sep r.1 ++ if r.2 = true then [10] else []) ++ txt sep L).length ≤ _
    rw [List.length_append, List.length_append, List.length_cons]
    have : (if r.2 = true then [10] else ([] : List Nat)).length ≤ 1 := by split <;> simp
    omega
theorem recsP_snoc (sep : Nat) (r : List Fl' × Bool) : ∀ (L : List (List Fl' × Bool)) (k : Nat), (∀ x ∈ L, x.2 = true) → recsP sep k (L ++ [r]) = recsP sep k L ++ [recP (k + (txt sep L).length) r.1]
  | [], k, _ => rfl
  | x :: L, k, h => by
    have ih := recsP_snoc sep r L (k + (recT sep x.1).length + 1) fun z m => h z (List.mem_cons_of_mem _ m)
    show recP k x.1 :: recsP sep _ (L ++ [r]) = recP k x.1 :: (recsP sep _ L ++ _)
    rw [ih]
    have e : (txt sep (x :: L)).length = (recT sep x.1).length + 1 + (txt sep L).length := by
      show ((recT sep x.1 ++ if x.2 = true then [10] else []) ++ txt sep L).length = _
      rw [if_pos (h x List.mem_cons_self), List.length_append, List.length_append]
      rfl
    rw [e, show k + (recT sep x.1).length + 1 + (txt sep L).length = k + ((recT sep x.1).length + 1 + (txt sep L).length) by omega]
theorem recsP_flag (sep : Nat) (fs : List Fl') (b c : Bool) : ∀ (L : List (List Fl' × Bool)) (k : Nat), recsP sep k (L ++ [(fs, b)]) = recsP sep k (L ++ [(fs, c)])
  | [], k => rfl
  | x :: L, k => by
    show recP k x.1 :: recsP sep _ (L ++ [(fs, b)]) = recP k x.1 :: recsP sep _ (L ++ [(fs, c)])
    rw [recsP_flag sep fs b c L]
theorem Good_snoc {sep : Nat} {r : List Fl' × Bool} (hr : ROk sep r) (h2 : r.2 = true ∨ recT sep r.1 ≠ []) : ∀ {L : List (List Fl' × Bool)}, (∀ x ∈ L, ROk sep x ∧ x.2 = true) → Good sep (L ++ [r])
  | [], _ => ⟨hr.1, by have := hr.2.1; omega, fun y m => (hr.2.2 y m).fok, h2.imp id fun h => ⟨rfl, h⟩, trivial⟩
  | x :: L, h => by
    obtain ⟨hx, h1⟩ := h x List.mem_cons_self
    exact ⟨hx.1, by have := hx.2.1; omega, fun y m => (hx.2.2 y m).fok, .inl h1, Good_snoc hr h2 fun z m => h z (List.mem_cons_of_mem _ m)⟩
theorem wr_last {sep : Nat} {x : Fl'} (h : DOk sep x) (hn : wr x.1 x.2 ≠ []) : ∃ p c, wr x.1 x.2 = p ++ [c] ∧ c ≠ 10 := by
  obtain ⟨t, m⟩ := x
  cases m with
  | true => exact ⟨34 :: esc t, 34, rfl, by decide⟩
  | false =>
    have hn : t ≠ [] := hn
    refine ⟨t.dropLast, t.getLast hn, (List.dropLast_concat_getLast hn).symm, ?_⟩
    exact (h.2.2 rfl _ (List.getLast_mem hn)).2.2
theorem recT_last {sep : Nat} (hs2 : sep ≠ 10) : ∀ {fs : List Fl'}, (∀ y ∈ fs, DOk sep y) → recT sep fs ≠ [] → ∃ p c, recT sep fs = p ++ [c] ∧ c ≠ 10
  | [], _, h => (h rfl).elim
  | [x], h, hn => wr_last (h x List.mem_cons_self) hn
  | x :: y :: r, h, _ => by
    by_cases z : recT sep (y :: r) = []
    · refine ⟨wr x.1 x.2, sep, ?_, hs2⟩
      show wr x.1 x.2 ++ sep :: recT sep (y :: r) = _
      rw [z]
    · obtain ⟨p, c, e, hc⟩ := recT_last hs2 (fs := y :: r) (fun z m => h z (List.mem_cons_of_mem _ m)) z
      refine ⟨wr x.1 x.2 ++ sep :: p, c, ?_, hc⟩
      show wr x.1 x.2 ++ sep :: recT sep (y :: r) = _
      rw [e, List.append_assoc]
      rfl
theorem recT_nil {sep : Nat} : ∀ {fs : List Fl'}, fs ≠ [] → recT sep fs = [] → fs = [([], false)]
  | [], h, _ => (h rfl).elim
  | [(t, m)], _, h => by
    cases m with
    | true => cases h
    | false =>
      have h : t = [] := h
      rw [h]
  | x :: y :: r, _, h => by
    have h : wr x.1 x.2 ++ sep :: recT sep (y :: r) = [] := h
    simp at h
end Qk80
set_option Elab.async false
set_option linter.all false
set_option maxRecDepth 100000
set_option maxHeartbeats 4000000
namespace Qk80
open PySem PySem.Spec PyProof.Rows L2 Z
local macro_rules | `(tactic| walk_at "l") => `(tactic| first | (simp only [wipeG_nil, wipeG_cons, List.set_cons_succ, List.set_cons_zero, List.take_succ_cons, List.take_zero, List.take_nil, List.cons_append, List.nil_append, List.length_cons, List.length_nil, List.set_nil, List.getElem?_cons_zero, List.getElem?_cons_succ, Nat.zero_add, Nat.reduceAdd]; first | done | exact rfl) | exact rfl)
local macro_rules | `(tactic| walk_at "d") => `(tactic| first
  | with_reducible assumption
  | (with_reducible apply dr_div) <;> decide
  | (with_reducible apply dr_mod) <;> decide
  | (with_reducible apply dr_mulr); decide
  | (with_reducible apply dr_mull); decide
  | (with_reducible apply dr_divB) <;> omega
  | (with_reducible apply dr_mulrB) <;> omega
  | (with_reducible apply dr_mullB) <;> omega
  | (with_reducible apply dr_mulC) <;> omega
  | (with_reducible apply dr_mod) <;> omega
  | (with_reducible refine isi_of ?_ ?_); (exact rfl); (first | exact kb_int_int | exact kb_int_bool | exact kb_bool_bool | exact kb_bool_int | exact kb_str_int | exact kb_str_bool | exact kb_str_str | exact kb_int_str | exact kb_bool_str | exact kb_non_int | exact kb_non_bool | exact kb_non_str | exact kb_list_list | exact kb_tuple_tuple | exact kb_list_tuple | exact kb_tuple_list)
  | with_reducible exact dr_abs
  | (with_reducible exact dr_neL _ _)
  | (simp only [Cn.d]; with_reducible assumption)
  | (simp only [Cn.d]; with_reducible exact dr_neL _ _)
  | with_reducible exact in_ints _ _
  | (simp only [Cn.d]; with_reducible exact in_ints _ _)
  | ((with_reducible apply dr_cat); (try simp only [List.length_append, List.length_cons, List.length_nil]); omega)
  | with_reducible exact dr_eqI
  | with_reducible exact dr_eqB
  | with_reducible exact dr_neB
  | with_reducible exact dr_eqS
  | with_reducible exact dr_neI
  | with_reducible exact dr_neS
  | exact rfl)
local macro_rules | `(tactic| walk_at "c") => `(tactic| first | with_reducible assumption | (simp only [Cn.d]; with_reducible assumption))
local macro_rules | `(tactic| walk_at "e") => `(tactic| first
  | with_reducible exact er_C
  | with_reducible exact er_nil
  | (with_reducible apply er_varD); exact rfl
  | (with_reducible apply er_varO); exact rfl
  | (with_reducible apply er_varF); exact rfl
  | (with_reducible apply er_op); walk_at "e"; walk_at "e"; exact rfl; exact rfl; walk_at "d"; exact rfl
  | (with_reducible apply er_chain); walk_at "e"; walk_at "e"; exact rfl; exact rfl; walk_at "d"; (intro _h; walk_at "e"); exact rfl; walk_at "d"
  | (with_reducible apply er_slS); walk_at "e"; walk_at "o"; walk_at "o"; exact rfl; walk_at "z"
  | (with_reducible apply er_slL); walk_at "e"; walk_at "o"; walk_at "o"; exact rfl
  | (with_reducible apply er_list); walk_at "e"; exact rfl; exact rfl
  | (with_reducible apply er_tupL); walk_at "e"; exact rfl
  | (with_reducible apply er_un); walk_at "e"; exact rfl; exact rfl; exact rfl
  | (with_reducible apply er_tst); walk_at "e"
  | (with_reducible apply er_tru); walk_at "e"; exact rfl; exact rfl
  | (with_reducible apply er_andT); walk_at "e"; (intro _h; walk_at "e")
  | (with_reducible apply er_orT); walk_at "e"; (intro _h; walk_at "e")
  | (with_reducible apply er_andTT); walk_at "e"; exact rfl; walk_at "e"
  | (with_reducible apply er_orTF); walk_at "e"; exact rfl; walk_at "e"
  | (with_reducible apply er_notT); walk_at "e"
  | (with_reducible apply er_andV); walk_at "e"; (intro _h; walk_at "e")
  | (with_reducible apply er_orV); walk_at "e"; (intro _h; walk_at "e")
  | (with_reducible apply er_notV); walk_at "e"
  | (with_reducible apply er_andVT); walk_at "e"; exact rfl; walk_at "e"
  | (with_reducible apply er_orVF); walk_at "e"; exact rfl; walk_at "e"
  | (with_reducible apply er_ix); walk_at "e"; walk_at "e"; exact rfl; walk_at "x"
  | (with_reducible apply er_callS); walk_at "e"; exact rfl; walk_at "d"; exact rfl
  | (with_reducible apply er_cons); walk_at "e"; walk_at "e"
  | (with_reducible apply er_callG); walk_at "e"; exact rfl; exact rfl; walk_at "c"; exact rfl
  | (with_reducible apply er_callH); walk_at "e"; exact rfl; exact rfl; walk_at "c"; exact rfl
  | (with_reducible apply er_callV); walk_at "e"; exact rfl; walk_at "c"; exact rfl
  | (with_reducible apply er_callGF); walk_at "e"; exact rfl; exact rfl; walk_at "c"; exact rfl
  | (with_reducible apply er_callHF); walk_at "e"; exact rfl; exact rfl; walk_at "c"; exact rfl
  | (with_reducible apply er_callM); walk_at "e"; exact rfl; exact rfl; exact rfl; exact rfl; exact rfl; walk_at "c"; exact rfl
  | (with_reducible apply er_catL); walk_at "e"; walk_at "e"; exact rfl; exact rfl; walk_at "z"
  | (with_reducible apply er_mt); walk_at "e"; exact rfl; exact rfl; walk_at "e"; exact rfl; exact rfl; walk_at "m"; exact rfl
  | (with_reducible apply er_tup); walk_at "e"; exact rfl; walk_at "z" 
  | (with_reducible apply er_lst); walk_at "e"; exact rfl; walk_at "z")
local macro_rules | `(tactic| walk_at "o") => `(tactic| first | exact er_zoN | ((with_reducible apply er_zoS); walk_at "e"))
local macro_rules | `(tactic| walk_at "x") => `(tactic| first | with_reducible assumption | (simp only [Cn.d]; with_reducible assumption) | exact rfl)
local macro_rules | `(tactic| walk_at "m") => `(tactic| first | with_reducible assumption | (simp only [Cn.d]; with_reducible assumption) | exact rfl)
local macro_rules | `(tactic| walk_at "st") => `(tactic| first
  | ((with_reducible apply set_dat); (walk_at "e"); (exact rfl); walk_at "l")
  | ((with_reducible apply set_own); (walk_at "e"); (exact Nat.le_of_ble_eq_true rfl); (exact rfl); (exact rfl); walk_at "l")
  | ((with_reducible apply asg_run); (walk_at "e"); (exact rfl); walk_at "l")
  | ((with_reducible apply aug_run); (exact rfl); (exact rfl); (walk_at "e"); (exact rfl); (walk_at "d"); (exact rfl); (exact rfl); walk_at "l")
  | ((with_reducible apply sto_run); (walk_at "e"); (walk_at "e"); (walk_at "e"); (exact rfl); (walk_at "x"); walk_at "l")
  | ((with_reducible apply app_run); (walk_at "e"); (exact rfl); (walk_at "e"); (exact rfl); (exact rfl); (walk_at "z"); walk_at "l"))
local macro_rules | `(tactic| walk_at "z") => `(tactic| first | assumption | exact Nat.le_of_ble_eq_true rfl | (simp; omega))
local macro_rules | `(tactic| walk_at "s") => `(tactic| first
  | with_reducible apply sr_nx
  | with_reducible apply sr_assoc
  | with_reducible apply ap_fg
  | ((with_reducible apply fgK_nx); (exact rfl); (walk_at "l"); skip)
  | ((with_reducible apply fgK_ct); (exact rfl); (walk_at "l"); skip)
  | ((with_reducible apply fgK_bk); (exact rfl); (walk_at "l"); skip)
  | with_reducible apply fgK_ret
  | with_reducible apply sr_bk1
  | with_reducible apply sr_ct1
  | with_reducible apply sr_nx1
  | with_reducible apply sr_ct
  | with_reducible apply sr_bk
  | (with_reducible apply sr_retS); (walk_at "e"); skip
  | (with_reducible apply sr_ret); (walk_at "e"); skip
  | (with_reducible apply sr_if); (walk_at "e"); (walk_at "l")
  | (with_reducible apply sr_if1); (walk_at "e"); (walk_at "l")
  | (with_reducible apply seq_nx); (walk_at "st")
  | (with_reducible apply one_nx); (walk_at "st"))
local macro_rules | `(tactic| walk_at "r") => `(tactic| repeat' (first | (intro _) | walk_at "s"))
local macro_rules | `(tactic| walk_at "k") => `(tactic| (intro q; (try simp only [decide_eq_true_eq, decide_eq_false_iff_not, beq_iff_eq, beq_eq_false_iff_ne, ne_eq, Bool.not_eq_true', Bool.not_eq_false', Bool.and_eq_true, Bool.or_eq_true, Bool.and_eq_false_iff, Bool.or_eq_false_iff, Int.not_lt, Int.not_le, List.cons.injEq, and_true, reduceCtorEq, beq_self_eq_true, Bool.not_true, Bool.not_false, Bool.or_false, Bool.false_or, Bool.or_true, Bool.true_or, Bool.and_false, Bool.false_and, Bool.and_true, Bool.true_and, not_true_eq_false, Bool.false_eq_true] at q) <;> (try (exfalso; first | (cases q; done) | omega | contradiction))))
local macro_rules | `(tactic| walk_at "w") => `(tactic| repeat' (first | (walk_at "k") | walk_at "s"))
abbrev GM (ns : List Int) (x1 : Sl) (sep : Nat) (T : List Nat) (R : List D) (m : Int) (x6 x7 x8 x9 x10 : Sl) : G := [.dat (scriptD ns), x1, .dat (.str [sep]), .dat (.str T), .own (.lst R) false false, .dat (.int m), x6, x7, x8, x9, x10]
theorem dig1 (ns : List Int) (s m : Int) (sep : Nat) (T : List Nat) (R : List D) (k : Int) (x6 x7 x8 x9 x10 : Sl) (h0 : 0 < m) (h1 : m < 2 ^ 256) : zCallM 0 d__law_digit (zCons (zVar 1) (zCons (zC (.int m)) (zNil))) (GM ns (.own (stZ s) false false) sep T R k x6 x7 x8 x9 x10) = some (.dat (.int (s % m)), GM ns (.own (stZ (s / m)) false false) sep T R k x6 x7 x8 x9 x10) :=
  er_callM (kk := 0) (j := 1) (p := false) (f := d__law_digit) (c := stZ s) (g := GM ns (.own (stZ s) false false) sep T R k x6 x7 x8 x9 x10) (g2 := GM ns (.own (stZ s) false false) sep T R k x6 x7 x8 x9 x10) (er_cons rfl (er_cons er_C er_nil)) rfl rfl rfl rfl rfl (digit_ok s m h0 h1) rfl
theorem eqI0 (i : Int) : eqD (.int i) (.int 0) = some (.bl (decide (i = 0))) := by
  rw [dr_eqI]
  by_cases h : i = 0
  · subst h; rfl
  · rw [decide_eq_false h]
    simp [h]
theorem catT {a b : List Nat} (ha : a.length ≤ 9000) (hb : b.length ≤ 100) : addS (.str a) (.str b) = some (.str (a ++ b)) := dr_cat (Nat.le_trans (show _ ≤ 9100 by omega) (by decide))
theorem lenT' {T : List Nat} (hz : T.length ≤ 9000) : lenD [.str T] = some (.int ((T.length : Nat) : Int)) := lenT (by omega)
/-- the text so far, with the mark between two fields -/
def preT (sep : Nat) (fs : List Fl') : List Nat := if fs = [] then [] else recT sep fs ++ [sep]
theorem field_step (ns : List Int) {sep : Nat} (T0 : List Nat) (h0 : T0.length ≤ 8000) (R : List D) (m k : Int) (s : Int) {fs : List Fl'} (hf : ∀ y ∈ fs, DOk sep y) (hl : fs.length ≤ 5) :
    ∃ x s', DOk sep x ∧ lb_law_1 (GM ns (.own (stZ s) false false) sep (T0 ++ recT sep fs) R m (.dat (.int k)) (.own (.lst ((recP T0.length fs).map tPl)) false false) (.dat (.int ((fs.length : Nat) : Int))) .un .un) =
      some (.nx, GM ns (.own (stZ s') false false) sep (T0 ++ recT sep (fs ++ [x])) R m (.dat (.int k)) (.own (.lst ((recP T0.length (fs ++ [x])).map tPl)) false false) .un .un .un) := by
  have rl := recT_len hf
  obtain ⟨t, s1, ht, tl, tc⟩ := ftext_ok s
  have rp := (recP_ok (a := T0.length) hf (by omega)).2
  -- the separator
  have z1 : zIfS 11 (zTst (zOp gtD (zVar 8) (zC (.int 0)))) (zSet 11 3 (zOp addS (zVar 3) (zVar 2))) (zNx) (GM ns (.own (stZ s) false false) sep (T0 ++ recT sep fs) R m (.dat (.int k)) (.own (.lst ((recP T0.length fs).map tPl)) false false) (.dat (.int ((fs.length : Nat) : Int))) .un .un) =
      some (.nx, GM ns (.own (stZ s) false false) sep (T0 ++ preT sep fs) R m (.dat (.int k)) (.own (.lst ((recP T0.length fs).map tPl)) false false) (.dat (.int ((fs.length : Nat) : Int))) .un .un) := by
    have u : zTst (zOp gtD (zVar 8) (zC (.int 0))) (GM ns (.own (stZ s) false false) sep (T0 ++ recT sep fs) R m (.dat (.int k)) (.own (.lst ((recP T0.length fs).map tPl)) false false) (.dat (.int ((fs.length : Nat) : Int))) .un .un) = some (decide (0 < ((fs.length : Nat) : Int)), GM ns (.own (stZ s) false false) sep (T0 ++ recT sep fs) R m (.dat (.int k)) (.own (.lst ((recP T0.length fs).map tPl)) false false) (.dat (.int ((fs.length : Nat) : Int))) .un .un) := er_tst (er_op rfl er_C rfl rfl rfl rfl)
    cases fs with
    | nil => exact if_no u rfl rfl
    | cons y r =>
      rw [decide_eq_true (by rw [List.length_cons]; omega)] at u
      have c := catT (a := T0 ++ recT sep (y :: r)) (b := [sep]) (by rw [List.length_append]; omega) (by simp)
      have e : T0 ++ preT sep (y :: r) = T0 ++ recT sep (y :: r) ++ [sep] := by
        unfold preT
        rw [if_neg (by simp), List.append_assoc]
      rw [e]
      exact if_yes u rfl (set_dat (er_op rfl rfl rfl rfl c rfl) rfl rfl)
  have pl : (preT sep fs).length ≤ 70 := by
    unfold preT
    split
    · simp
    · rw [List.length_append, List.length_singleton]; omega
  generalize hP : T0 ++ preT sep fs = T1 at *
  have T1l : T1.length ≤ 8100 := by rw [← hP, List.length_append]; omega
  generalize hRC : (recP T0.length fs).map tPl = RC at *
  have RCl : RC.length ≤ 5 := by rw [← hRC, List.length_map]; omega
  have z2 : zSet 11 9 (zCallM 0 d__law_field_text (zCons (zVar 1) (zNil))) (GM ns (.own (stZ s) false false) sep T1 R m (.dat (.int k)) (.own (.lst RC) false false) (.dat (.int ((fs.length : Nat) : Int))) .un .un) = some (.nx, GM ns (.own (stZ s1) false false) sep T1 R m (.dat (.int k)) (.own (.lst RC) false false) (.dat (.int ((fs.length : Nat) : Int))) (.dat (.str t)) .un) :=
    set_dat (er_callM (kk := 0) (j := 1) (p := false) (f := d__law_field_text) (c := stZ s) (g := GM ns (.own (stZ s) false false) sep T1 R m (.dat (.int k)) (.own (.lst RC) false false) (.dat (.int ((fs.length : Nat) : Int))) .un .un) (g2 := GM ns (.own (stZ s) false false) sep T1 R m (.dat (.int k)) (.own (.lst RC) false false) (.dat (.int ((fs.length : Nat) : Int))) .un .un) (er_cons rfl er_nil) rfl rfl rfl rfl rfl ht rfl) rfl rfl
  have z3 : ∃ mk s2, (mk = false → mustB sep t = false) ∧ zSet 11 10 (zOrV (zCall d__law_must_mark (zCons (zVar 9) (zCons (zVar 2) (zNil)))) (zOp eqD (zCallM 0 d__law_digit (zCons (zVar 1) (zCons (zC (.int 4)) (zNil)))) (zC (.int 0)))) (GM ns (.own (stZ s1) false false) sep T1 R m (.dat (.int k)) (.own (.lst RC) false false) (.dat (.int ((fs.length : Nat) : Int))) (.dat (.str t)) .un) = some (.nx, GM ns (.own (stZ s2) false false) sep T1 R m (.dat (.int k)) (.own (.lst RC) false false) (.dat (.int ((fs.length : Nat) : Int))) (.dat (.str t)) (.dat (.bl mk))) := by
    have a : zCall d__law_must_mark (zCons (zVar 9) (zCons (zVar 2) (zNil))) (GM ns (.own (stZ s1) false false) sep T1 R m (.dat (.int k)) (.own (.lst RC) false false) (.dat (.int ((fs.length : Nat) : Int))) (.dat (.str t)) .un) = some (.dat (.bl (mustB sep t)), GM ns (.own (stZ s1) false false) sep T1 R m (.dat (.int k)) (.own (.lst RC) false false) (.dat (.int ((fs.length : Nat) : Int))) (.dat (.str t)) .un) := er_call (ds := [.str t, .str [sep]]) (er_cons rfl (er_cons rfl er_nil)) (must_ok sep t)
    cases hm : mustB sep t with
    | true =>
      rw [hm] at a
      exact ⟨true, s1, fun q => (by cases q), set_dat (er_orVT a rfl) rfl rfl⟩
    | false =>
      rw [hm] at a
      exact ⟨_, s1 / 4, fun _ => rfl, set_dat (er_orVF a rfl (er_op (dig1 ns s1 4 sep T1 R m _ _ _ _ _ (by decide) (by decide)) er_C rfl rfl (eqI0 _) rfl)) rfl rfl⟩
  obtain ⟨mk, s2, hmk, z3⟩ := z3
  have hD : DOk sep (t, mk) := ⟨tl, tc, fun q c hc => by
    have h := hmk q
    unfold mustB at h
    simp only [Bool.or_eq_false_iff, decide_eq_false_iff_not] at h
    exact ⟨fun e => h.1 (e ▸ hc), fun e => h.2.1 (e ▸ hc), fun e => h.2.2 (e ▸ hc)⟩⟩
  have wl := hD.wr
  have z4 : zApp 11 (zVar 7) (zTup (zCons (zVar 9) (zCons (zCallS lenD (zCons (zVar 3) (zNil))) (zCons (zVar 10) (zNil))))) (GM ns (.own (stZ s2) false false) sep T1 R m (.dat (.int k)) (.own (.lst RC) false false) (.dat (.int ((fs.length : Nat) : Int))) (.dat (.str t)) (.dat (.bl mk))) = some (.nx, GM ns (.own (stZ s2) false false) sep T1 R m (.dat (.int k)) (.own (.lst (RC ++ [tPl (t, T1.length, mk)])) false false) (.dat (.int ((fs.length : Nat) : Int))) (.dat (.str t)) (.dat (.bl mk))) := by
    have mk' := er_tup (mr := zCons (zVar 9) (zCons (zCallS lenD (zCons (zVar 3) (zNil))) (zCons (zVar 10) (zNil)))) (g := GM ns (.own (stZ s2) false false) sep T1 R m (.dat (.int k)) (.own (.lst RC) false false) (.dat (.int ((fs.length : Nat) : Int))) (.dat (.str t)) (.dat (.bl mk))) (g1 := GM ns (.own (stZ s2) false false) sep T1 R m (.dat (.int k)) (.own (.lst RC) false false) (.dat (.int ((fs.length : Nat) : Int))) (.dat (.str t)) (.dat (.bl mk))) (er_cons rfl (er_cons (er_callS (er_cons rfl er_nil) rfl (lenT' (by omega)) rfl) (er_cons rfl er_nil))) rfl (Nat.le_of_ble_eq_true rfl)
    exact app_run (j := 7) rfl rfl mk' rfl rfl (Nat.lt_of_le_of_lt RCl (by decide)) rfl
  have c5 := catT (a := T1) (b := wr t mk) (by omega) (by have : (wr t mk).length ≤ 12 := wl; omega)
  have z5 : zSet 11 3 (zOp addS (zVar 3) (zCall d__law_written (zCons (zVar 9) (zCons (zVar 2) (zCons (zVar 10) (zNil)))))) (GM ns (.own (stZ s2) false false) sep T1 R m (.dat (.int k)) (.own (.lst (RC ++ [tPl (t, T1.length, mk)])) false false) (.dat (.int ((fs.length : Nat) : Int))) (.dat (.str t)) (.dat (.bl mk))) = some (.nx, GM ns (.own (stZ s2) false false) sep (T1 ++ wr t mk) R m (.dat (.int k)) (.own (.lst (RC ++ [tPl (t, T1.length, mk)])) false false) (.dat (.int ((fs.length : Nat) : Int))) (.dat (.str t)) (.dat (.bl mk))) :=
    set_dat (er_op rfl (er_call (ds := [.str t, .str [sep], .bl mk]) (er_cons rfl (er_cons rfl (er_cons rfl er_nil))) (written_ok sep t mk (by omega))) rfl rfl c5 rfl) rfl rfl
  refine ⟨(t, mk), s2, hD, ?_⟩
  have eT : T0 ++ recT sep (fs ++ [(t, mk)]) = T1 ++ wr t mk := by
    rw [← hP]
    unfold preT
    split
    · rename_i h
      subst h
      rw [List.append_nil]
      rfl
    · rename_i h
      rw [recT_snoc sep _ fs h, List.append_assoc, List.append_assoc]
      rfl
  have eR : (recP T0.length (fs ++ [(t, mk)])).map tPl = RC ++ [tPl (t, T1.length, mk)] := by
    rw [← hRC, ← hP]
    unfold preT
    split
    · rename_i h
      subst h
      rw [List.append_nil]
      rfl
    · rename_i h
      rw [recP_snoc sep _ fs _ h, List.map_append, List.length_append, List.length_append]
      rfl
  rw [eT, eR]
  exact fg_nx (seq_is z1 (seq_is z2 (seq_is z3 (seq_is z4 z5)))) rfl rfl
end Qk80
set_option Elab.async false
set_option linter.all false
set_option maxRecDepth 100000
set_option maxHeartbeats 4000000
namespace Qk80
open PySem PySem.Spec PyProof.Rows L2 Z
local macro_rules | `(tactic| walk_at "l") => `(tactic| first | (simp only [wipeG_nil, wipeG_cons, List.set_cons_succ, List.set_cons_zero, List.take_succ_cons, List.take_zero, List.take_nil, List.cons_append, List.nil_append, List.length_cons, List.length_nil, List.set_nil, List.getElem?_cons_zero, List.getElem?_cons_succ, Nat.zero_add, Nat.reduceAdd]; first | done | exact rfl) | exact rfl)
local macro_rules | `(tactic| walk_at "d") => `(tactic| first
  | with_reducible assumption
  | (with_reducible apply dr_div) <;> decide
  | (with_reducible apply dr_mod) <;> decide
  | (with_reducible apply dr_mulr); decide
  | (with_reducible apply dr_mull); decide
  | (with_reducible apply dr_divB) <;> omega
  | (with_reducible apply dr_mulrB) <;> omega
  | (with_reducible apply dr_mullB) <;> omega
  | (with_reducible apply dr_mulC) <;> omega
  | (with_reducible apply dr_mod) <;> omega
  | (with_reducible refine isi_of ?_ ?_); (exact rfl); (first | exact kb_int_int | exact kb_int_bool | exact kb_bool_bool | exact kb_bool_int | exact kb_str_int | exact kb_str_bool | exact kb_str_str | exact kb_int_str | exact kb_bool_str | exact kb_non_int | exact kb_non_bool | exact kb_non_str | exact kb_list_list | exact kb_tuple_tuple | exact kb_list_tuple | exact kb_tuple_list)
  | with_reducible exact dr_abs
  | (with_reducible exact dr_neL _ _)
  | (simp only [Cn.d]; with_reducible assumption)
  | (simp only [Cn.d]; with_reducible exact dr_neL _ _)
  | with_reducible exact in_ints _ _
  | (simp only [Cn.d]; with_reducible exact in_ints _ _)
  | ((with_reducible apply dr_cat); (try simp only [List.length_append, List.length_cons, List.length_nil]); omega)
  | with_reducible exact dr_eqI
  | with_reducible exact dr_eqB
  | with_reducible exact dr_neB
  | with_reducible exact dr_eqS
  | with_reducible exact dr_neI
  | with_reducible exact dr_neS
  | exact rfl)
local macro_rules | `(tactic| walk_at "c") => `(tactic| first | with_reducible assumption | (simp only [Cn.d]; with_reducible assumption))
local macro_rules | `(tactic| walk_at "e") => `(tactic| first
  | with_reducible exact er_C
  | with_reducible exact er_nil
  | (with_reducible apply er_varD); exact rfl
  | (with_reducible apply er_varO); exact rfl
  | (with_reducible apply er_varF); exact rfl
  | (with_reducible apply er_op); walk_at "e"; walk_at "e"; exact rfl; exact rfl; walk_at "d"; exact rfl
  | (with_reducible apply er_chain); walk_at "e"; walk_at "e"; exact rfl; exact rfl; walk_at "d"; (intro _h; walk_at "e"); exact rfl; walk_at "d"
  | (with_reducible apply er_slS); walk_at "e"; walk_at "o"; walk_at "o"; exact rfl; walk_at "z"
  | (with_reducible apply er_slL); walk_at "e"; walk_at "o"; walk_at "o"; exact rfl
  | (with_reducible apply er_list); walk_at "e"; exact rfl; exact rfl
  | (with_reducible apply er_tupL); walk_at "e"; exact rfl
  | (with_reducible apply er_un); walk_at "e"; exact rfl; exact rfl; exact rfl
  | (with_reducible apply er_tst); walk_at "e"
  | (with_reducible apply er_tru); walk_at "e"; exact rfl; exact rfl
  | (with_reducible apply er_andT); walk_at "e"; (intro _h; walk_at "e")
  | (with_reducible apply er_orT); walk_at "e"; (intro _h; walk_at "e")
  | (with_reducible apply er_andTT); walk_at "e"; exact rfl; walk_at "e"
  | (with_reducible apply er_orTF); walk_at "e"; exact rfl; walk_at "e"
  | (with_reducible apply er_notT); walk_at "e"
  | (with_reducible apply er_andV); walk_at "e"; (intro _h; walk_at "e")
  | (with_reducible apply er_orV); walk_at "e"; (intro _h; walk_at "e")
  | (with_reducible apply er_notV); walk_at "e"
  | (with_reducible apply er_andVT); walk_at "e"; exact rfl; walk_at "e"
  | (with_reducible apply er_orVF); walk_at "e"; exact rfl; walk_at "e"
  | (with_reducible apply er_ix); walk_at "e"; walk_at "e"; exact rfl; walk_at "x"
  | (with_reducible apply er_callS); walk_at "e"; exact rfl; walk_at "d"; exact rfl
  | (with_reducible apply er_cons); walk_at "e"; walk_at "e"
  | (with_reducible apply er_callG); walk_at "e"; exact rfl; exact rfl; walk_at "c"; exact rfl
  | (with_reducible apply er_callH); walk_at "e"; exact rfl; exact rfl; walk_at "c"; exact rfl
  | (with_reducible apply er_callV); walk_at "e"; exact rfl; walk_at "c"; exact rfl
  | (with_reducible apply er_callGF); walk_at "e"; exact rfl; exact rfl; walk_at "c"; exact rfl
  | (with_reducible apply er_callHF); walk_at "e"; exact rfl; exact rfl; walk_at "c"; exact rfl
  | (with_reducible apply er_callM); walk_at "e"; exact rfl; exact rfl; exact rfl; exact rfl; exact rfl; walk_at "c"; exact rfl
  | (with_reducible apply er_catL); walk_at "e"; walk_at "e"; exact rfl; exact rfl; walk_at "z"
  | (with_reducible apply er_mt); walk_at "e"; exact rfl; exact rfl; walk_at "e"; exact rfl; exact rfl; walk_at "m"; exact rfl
  | (with_reducible apply er_tup); walk_at "e"; exact rfl; walk_at "z" 
  | (with_reducible apply er_lst); walk_at "e"; exact rfl; walk_at "z")
local macro_rules | `(tactic| walk_at "o") => `(tactic| first | exact er_zoN | ((with_reducible apply er_zoS); walk_at "e"))
local macro_rules | `(tactic| walk_at "x") => `(tactic| first | with_reducible assumption | (simp only [Cn.d]; with_reducible assumption) | exact rfl)
local macro_rules | `(tactic| walk_at "m") => `(tactic| first | with_reducible assumption | (simp only [Cn.d]; with_reducible assumption) | exact rfl)
local macro_rules | `(tactic| walk_at "st") => `(tactic| first
  | ((with_reducible apply set_dat); (walk_at "e"); (exact rfl); walk_at "l")
  | ((with_reducible apply set_own); (walk_at "e"); (exact Nat.le_of_ble_eq_true rfl); (exact rfl); (exact rfl); walk_at "l")
  | ((with_reducible apply asg_run); (walk_at "e"); (exact rfl); walk_at "l")
  | ((with_reducible apply aug_run); (exact rfl); (exact rfl); (walk_at "e"); (exact rfl); (walk_at "d"); (exact rfl); (exact rfl); walk_at "l")
  | ((with_reducible apply sto_run); (walk_at "e"); (walk_at "e"); (walk_at "e"); (exact rfl); (walk_at "x"); walk_at "l")
  | ((with_reducible apply app_run); (walk_at "e"); (exact rfl); (walk_at "e"); (exact rfl); (exact rfl); (walk_at "z"); walk_at "l"))
local macro_rules | `(tactic| walk_at "z") => `(tactic| first | assumption | exact Nat.le_of_ble_eq_true rfl | (simp; omega))
local macro_rules | `(tactic| walk_at "s") => `(tactic| first
  | with_reducible apply sr_nx
  | with_reducible apply sr_assoc
  | with_reducible apply ap_fg
  | ((with_reducible apply fgK_nx); (exact rfl); (walk_at "l"); skip)
  | ((with_reducible apply fgK_ct); (exact rfl); (walk_at "l"); skip)
  | ((with_reducible apply fgK_bk); (exact rfl); (walk_at "l"); skip)
  | with_reducible apply fgK_ret
  | with_reducible apply sr_bk1
  | with_reducible apply sr_ct1
  | with_reducible apply sr_nx1
  | with_reducible apply sr_ct
  | with_reducible apply sr_bk
  | (with_reducible apply sr_retS); (walk_at "e"); skip
  | (with_reducible apply sr_ret); (walk_at "e"); skip
  | (with_reducible apply sr_if); (walk_at "e"); (walk_at "l")
  | (with_reducible apply sr_if1); (walk_at "e"); (walk_at "l")
  | (with_reducible apply seq_nx); (walk_at "st")
  | (with_reducible apply one_nx); (walk_at "st"))
local macro_rules | `(tactic| walk_at "r") => `(tactic| repeat' (first | (intro _) | walk_at "s"))
local macro_rules | `(tactic| walk_at "k") => `(tactic| (intro q; (try simp only [decide_eq_true_eq, decide_eq_false_iff_not, beq_iff_eq, beq_eq_false_iff_ne, ne_eq, Bool.not_eq_true', Bool.not_eq_false', Bool.and_eq_true, Bool.or_eq_true, Bool.and_eq_false_iff, Bool.or_eq_false_iff, Int.not_lt, Int.not_le, List.cons.injEq, and_true, reduceCtorEq, beq_self_eq_true, Bool.not_true, Bool.not_false, Bool.or_false, Bool.false_or, Bool.or_true, Bool.true_or, Bool.and_false, Bool.false_and, Bool.and_true, Bool.true_and, not_true_eq_false, Bool.false_eq_true] at q) <;> (try (exfalso; first | (cases q; done) | omega | contradiction))))
local macro_rules | `(tactic| walk_at "w") => `(tactic| repeat' (first | (walk_at "k") | walk_at "s"))
theorem rc_rok : ∀ {P : List (List Nat × Nat × Bool)}, (∀ x ∈ P, XOk x) → D.rokA (P.map tPl) = true ∧ D.dpA (P.map tPl) ≤ 1
  | [], _ => ⟨rfl, by decide⟩
  | (t, p, m) :: P, h => by
    obtain ⟨q1, q2⟩ := rc_rok (P := P) fun x m => h x (List.mem_cons_of_mem _ m)
    obtain ⟨h1, h2⟩ := h _ List.mem_cons_self
    have h2 : p ≤ 100000 := h2
    have h1 : ∀ c ∈ t, c < 127 := h1
    refine ⟨?_, ?_⟩
    · show (((t.all fun c => decide (c < 1114112)) && (decide (Int.natAbs (p : Int) < 10 ^ 60) && (true && true))) && D.rokA (P.map tPl)) = true
      rw [q1, decide_eq_true (by omega), List.all_eq_true.mpr fun c hc => decide_eq_true (by have := h1 c hc; omega)]
      rfl
    · show max (max 0 (max 0 (max 0 0)) + 1) (D.dpA (P.map tPl)) ≤ 1
      exact Nat.max_le.mpr ⟨by decide, q2⟩
theorem empty_test {sep a : Nat} (ha : a ≤ 90000) {fs : List Fl'} (hf : ∀ y ∈ fs, DOk sep y) (hn : fs ≠ []) (hl : fs.length ≤ 5) :
    ∃ q, (q = false → recT sep fs ≠ []) ∧ eqD (.lst ((recP a fs).map tPl)) (.lst [.tup [.str [], .int (a : Int), .bl false]]) = some (.bl q) ∧ ixD (.lst ((recP a fs).map tPl)) 0 = some (tPl ((fs.headD ([], false)).1, a, (fs.headD ([], false)).2)) := by
  obtain ⟨x1, x2⟩ := recP_ok (a := a) hf (by omega)
  obtain ⟨r1, r2⟩ := rc_rok x1
  have e := dr_eqR (d := .lst ((recP a fs).map tPl)) (e := .lst [.tup [.str [], .int (a : Int), .bl false]]) r1 (show D.dpA _ + 1 ≤ 60 by omega) (by
    show ((true && (decide (Int.natAbs (a : Int) < 10 ^ 60) && (true && true))) && true) = true
    rw [decide_eq_true (by omega)]
    rfl) (show max (max 0 (max 0 (max 0 0)) + 1) 0 + 1 ≤ 60 by decide)
  refine ⟨_, fun q hz => ?_, e, ?_⟩
  · have := recT_nil hn hz
    subst this
    have : D.eqv (.lst ((recP a [([], false)]).map tPl)) (.lst [.tup [.str [], .int (a : Int), .bl false]]) = true := by
      show (((true && (((a : Int) == (a : Int)) && (true && true)))) && true) = true
      simp
    rw [this] at q
    cases q
  · cases fs with
    | nil => exact (hn rfl).elim
    | cons x r => exact atI_nat (j := 0) rfl
theorem record_turn (ns : List Int) {sep : Nat} {L : List (List Fl' × Bool)} (hL : ∀ r ∈ L, ROk sep r ∧ r.2 = true) (ll : L.length ≤ 8) (m k : Nat) :
    ∃ r, ROk sep r ∧ (k + 1 < m → r.2 = true) ∧ (r.2 = true ∨ recT sep r.1 ≠ []) ∧
      lb_law_2 (GM ns .un sep (txt sep L) (dueD (recsP sep 0 L)) (m : Int) (.dat (.int (0 + (k : Int)))) .un .un .un .un) = some (.nx, GM ns .un sep (txt sep (L ++ [r])) (dueD (recsP sep 0 (L ++ [r]))) (m : Int) .un .un .un .un .un) := by
  obtain ⟨c, hc⟩ := cell_ok ns (0 + (k : Int)) (by omega)
  obtain ⟨s, hs⟩ := state_ok c (1 + (0 + (k : Int)))
  have tl := txt_len (sep := sep) (L := L) fun r h => (hL r h).1
  have rl := (recsP_ok (sep := sep) (L := L) (k := 0) (fun r h => (hL r h).1) (by omega)).2
  have rs := fun r => recsP_snoc sep r L 0 fun x h => (hL x h).2
  have ts := txt_snoc sep L
  rw [Nat.zero_add] at rs
  have Rl : (dueD (recsP sep 0 L)).length ≤ 8 := by rw [List.length_map]; omega
  generalize hT : txt sep L = T at *
  generalize hR : dueD (recsP sep 0 L) = R at *
  generalize hk : (0 + (k : Int)) = kk at *
  have z1 : zSet 11 1 (zCall d__law_state (zCons (zCall d__law_cell (zCons (zVar 0) (zCons (zVar 6) (zNil)))) (zCons (zOp addS (zC (.int 1)) (zVar 6)) (zNil)))) (GM ns .un sep T R (m : Int) (.dat (.int kk)) .un .un .un .un) = some (.nx, GM ns (.own (stZ s) false false) sep T R (m : Int) (.dat (.int kk)) .un .un .un .un) :=
    set_own (er_callL (g1 := GM ns .un sep T R (m : Int) (.dat (.int kk)) .un .un .un .un) (ds := [.int c, .int (1 + kk)]) (er_cons (er_callV (er_cons rfl (er_cons rfl er_nil)) rfl hc rfl) (er_cons (er_op er_C rfl rfl rfl rfl rfl) er_nil)) hs) (Nat.le_of_ble_eq_true rfl) rfl rfl rfl
  have z2 : zSet 11 7 (zLst (zNil)) (GM ns (.own (stZ s) false false) sep T R (m : Int) (.dat (.int kk)) .un .un .un .un) = some (.nx, GM ns (.own (stZ s) false false) sep T R (m : Int) (.dat (.int kk)) (.own (.lst []) false false) .un .un .un) := set_own (er_lst er_nil rfl (Nat.zero_le _)) (Nat.le_of_ble_eq_true rfl) rfl rfl rfl
  obtain ⟨n, hn, hn1, hn2⟩ : ∃ n : Nat, 1 + s % 5 = (n : Int) ∧ 1 ≤ n ∧ n ≤ 5 := by
    have m0 := Int.emod_nonneg s (show (5 : Int) ≠ 0 by decide)
    have m1 := Int.emod_lt_of_pos s (show (0 : Int) < 5 by decide)
    obtain ⟨n, hn⟩ := Int.eq_ofNat_of_zero_le (show 0 ≤ 1 + s % 5 by omega)
    exact ⟨n, hn, by omega, by omega⟩
  obtain ⟨gl, f1, fs, s3, rfl, fl, hf⟩ := forL_inv (tg := gN 8) (st := lb_law_1) (L := rgD 0 n) (fun i g => ∃ (fs : List Fl') (s' : Int), g = GM ns (.own (stZ s') false false) sep (T ++ recT sep fs) R (m : Int) (.dat (.int kk)) (.own (.lst ((recP T.length fs).map tPl)) false false) .un .un .un ∧ fs.length = i ∧ ∀ y ∈ fs, DOk sep y) 0
    (GM ns (.own (stZ (s / 5)) false false) sep T R (m : Int) (.dat (.int kk)) (.own (.lst []) false false) .un .un .un) ⟨[], s / 5, by rw [show T ++ recT sep [] = T from List.append_nil T]; rfl, rfl, fun y h => (List.not_mem_nil h).elim⟩ (fun i d g hd hg => by
      obtain ⟨fs, s', rfl, fl, hf⟩ := hg
      obtain ⟨hi, rfl⟩ := rgD_at hd
      rw [Nat.zero_add] at fl
      obtain ⟨x, s2, hx, t⟩ := field_step ns T (by omega) R (m : Int) kk s' hf (by omega)
      rw [fl] at t
      refine ⟨GM ns (.own (stZ s') false false) sep (T ++ recT sep fs) R (m : Int) (.dat (.int kk)) (.own (.lst ((recP T.length fs).map tPl)) false false) (.dat (.int (i : Int))) .un .un, _, by rw [Int.zero_add]; rfl, .inl t, fs ++ [x], s2, rfl, by rw [List.length_append, List.length_singleton, fl, Nat.zero_add], fun y h => ?_⟩
      rcases List.mem_append.mp h with h | h
      · exact hf y h
      · rw [List.mem_singleton.mp h]; exact hx)
  rw [rgD_len, Nat.zero_add] at fl
  have hne : fs ≠ [] := fun e => by rw [e] at fl; simp at fl; omega
  have z3 : zFor 11 (ziR1 (zCons (zOp addS (zC (.int 1)) (zCallM 0 d__law_digit (zCons (zVar 1) (zCons (zC (.int 5)) (zNil))))) (zNil))) (gN 8) (lb_law_1) (GM ns (.own (stZ s) false false) sep T R (m : Int) (.dat (.int kk)) (.own (.lst []) false false) .un .un .un) = some (.nx, GM ns (.own (stZ s3) false false) sep (T ++ recT sep fs) R (m : Int) (.dat (.int kk)) (.own (.lst ((recP T.length fs).map tPl)) false false) .un .un .un) := by
    have r1 : (zCons (zOp addS (zC (.int 1)) (zCallM 0 d__law_digit (zCons (zVar 1) (zCons (zC (.int 5)) (zNil))))) (zNil)) (GM ns (.own (stZ s) false false) sep T R (m : Int) (.dat (.int kk)) (.own (.lst []) false false) .un .un .un) = some ([.dat (.int (n : Int))], GM ns (.own (stZ (s / 5)) false false) sep T R (m : Int) (.dat (.int kk)) (.own (.lst []) false false) .un .un .un) := by
      rw [← hn]
      exact er_cons (er_op er_C (dig1 ns s 5 sep T R (m : Int) _ _ _ _ _ (by decide) (by decide)) rfl rfl rfl rfl) er_nil
    exact for_none (mi_R1 r1 (rgOk_of (by omega) (by omega))) rfl (by rw [Int.toNat_natCast]; exact f1)
  have rtl := recT_len hf
  have T2l : (T ++ recT sep fs).length ≤ 700 := by rw [List.length_append]; omega
  obtain ⟨q, hq, e5, ix5⟩ := empty_test (sep := sep) (a := T.length) (by omega) hf hne (by omega)
  generalize hRC : (recP T.length fs).map tPl = RC at *
  have z4 : zApp 11 (zVar 4) (zVar 7) (GM ns (.own (stZ s3) false false) sep (T ++ recT sep fs) R (m : Int) (.dat (.int kk)) (.own (.lst RC) false false) .un .un .un) = some (.nx, GM ns (.own (stZ s3) false false) sep (T ++ recT sep fs) (R ++ [.lst RC]) (m : Int) (.dat (.int kk)) (.frz (.lst RC)) .un .un .un) :=
    app_run (j := 4) (g1 := GM ns (.own (stZ s3) false false) sep (T ++ recT sep fs) R (m : Int) (.dat (.int kk)) (.own (.lst RC) false false) .un .un .un) (g2 := GM ns (.own (stZ s3) false false) sep (T ++ recT sep fs) R (m : Int) (.dat (.int kk)) (.own (.lst RC) false false) .un .un .un) rfl rfl rfl rfl rfl (Nat.lt_of_le_of_lt Rl (by decide)) rfl
  have z5 : ∃ b s4, (k + 1 < m → b = true) ∧ (b = true ∨ recT sep fs ≠ []) ∧ zIfS 11 (zOrT (zTst (zOp ltX (zVar 6) (zOp subD (zVar 5) (zC (.int 1))))) (zOrT (zTst (zOp eqD (zCallM 0 d__law_digit (zCons (zVar 1) (zCons (zC (.int 2)) (zNil)))) (zC (.int 0)))) (zTst (zOp eqD (zVar 7) (zLst (zCons (zTup (zCons (zC (.str [])) (zCons (zIx (zIx (zVar 7) (zC (.int 0))) (zC (.int 1))) (zCons (zC (.bl false)) (zNil))))) (zNil))))))) (zSet 11 3 (zOp addS (zVar 3) (zC (.str [10])))) (zNx) (GM ns (.own (stZ s3) false false) sep (T ++ recT sep fs) (R ++ [.lst RC]) (m : Int) (.dat (.int kk)) (.frz (.lst RC)) .un .un .un) =
      some (.nx, GM ns (.own (stZ s4) false false) sep (T ++ (recT sep fs ++ if b = true then [10] else [])) (R ++ [.lst RC]) (m : Int) (.dat (.int kk)) (.frz (.lst RC)) .un .un .un) := by
    have c := catT (a := T ++ recT sep fs) (b := [10]) (by omega) (by simp)
    rw [List.append_assoc] at c
    have yes : ∀ s4 : Int, zSet 11 3 (zOp addS (zVar 3) (zC (.str [10]))) (GM ns (.own (stZ s4) false false) sep (T ++ recT sep fs) (R ++ [.lst RC]) (m : Int) (.dat (.int kk)) (.frz (.lst RC)) .un .un .un) = some (.nx, GM ns (.own (stZ s4) false false) sep (T ++ (recT sep fs ++ if true = true then [10] else [])) (R ++ [.lst RC]) (m : Int) (.dat (.int kk)) (.frz (.lst RC)) .un .un .un) := fun s4 => set_dat (er_op rfl er_C rfl rfl c rfl) rfl rfl
    have no : ∀ s4 : Int, zNx (GM ns (.own (stZ s4) false false) sep (T ++ recT sep fs) (R ++ [.lst RC]) (m : Int) (.dat (.int kk)) (.frz (.lst RC)) .un .un .un) = some (.nx, GM ns (.own (stZ s4) false false) sep (T ++ (recT sep fs ++ if false = true then [10] else [])) (R ++ [.lst RC]) (m : Int) (.dat (.int kk)) (.frz (.lst RC)) .un .un .un) := fun s4 => by
      rw [if_neg (by decide), List.append_nil]
      rfl
    have u1 : zTst (zOp ltX (zVar 6) (zOp subD (zVar 5) (zC (.int 1)))) (GM ns (.own (stZ s3) false false) sep (T ++ recT sep fs) (R ++ [.lst RC]) (m : Int) (.dat (.int kk)) (.frz (.lst RC)) .un .un .un) = some (decide (kk < (m : Int) - 1), GM ns (.own (stZ s3) false false) sep (T ++ recT sep fs) (R ++ [.lst RC]) (m : Int) (.dat (.int kk)) (.frz (.lst RC)) .un .un .un) := er_tst (er_op rfl (er_op rfl er_C rfl rfl rfl rfl) rfl rfl rfl rfl)
    have u2 : zTst (zOp eqD (zCallM 0 d__law_digit (zCons (zVar 1) (zCons (zC (.int 2)) (zNil)))) (zC (.int 0))) (GM ns (.own (stZ s3) false false) sep (T ++ recT sep fs) (R ++ [.lst RC]) (m : Int) (.dat (.int kk)) (.frz (.lst RC)) .un .un .un) = some (decide (s3 % 2 = 0), GM ns (.own (stZ (s3 / 2)) false false) sep (T ++ recT sep fs) (R ++ [.lst RC]) (m : Int) (.dat (.int kk)) (.frz (.lst RC)) .un .un .un) := er_tst (er_op (dig1 ns s3 2 sep _ _ (m : Int) _ _ _ _ _ (by decide) (by decide)) er_C rfl rfl (eqI0 _) rfl)
    by_cases h1 : kk < (m : Int) - 1
    · rw [decide_eq_true h1] at u1
      exact ⟨true, s3, fun _ => rfl, .inl rfl, if_yes (er_orTt u1 rfl) rfl (yes s3)⟩
    · rw [decide_eq_false h1] at u1
      have nk : ¬ k + 1 < m := by omega
      by_cases h2 : s3 % 2 = 0
      · rw [decide_eq_true h2] at u2
        exact ⟨true, s3 / 2, fun h => (nk h).elim, .inl rfl, if_yes (er_orTF u1 rfl (er_orTt u2 rfl)) rfl (yes (s3 / 2))⟩
      · rw [decide_eq_false h2] at u2
        have u3 : zTst (zOp eqD (zVar 7) (zLst (zCons (zTup (zCons (zC (.str [])) (zCons (zIx (zIx (zVar 7) (zC (.int 0))) (zC (.int 1))) (zCons (zC (.bl false)) (zNil))))) (zNil)))) (GM ns (.own (stZ (s3 / 2)) false false) sep (T ++ recT sep fs) (R ++ [.lst RC]) (m : Int) (.dat (.int kk)) (.frz (.lst RC)) .un .un .un) = some (q, GM ns (.own (stZ (s3 / 2)) false false) sep (T ++ recT sep fs) (R ++ [.lst RC]) (m : Int) (.dat (.int kk)) (.frz (.lst RC)) .un .un .un ++ [.own (.lst [.tup [.str [], .int (T.length : Int), .bl false]]) false false]) :=
          er_tst (er_op rfl (er_lst (g2 := GM ns (.own (stZ (s3 / 2)) false false) sep (T ++ recT sep fs) (R ++ [.lst RC]) (m : Int) (.dat (.int kk)) (.frz (.lst RC)) .un .un .un) (er_cons (er_tup (er_cons er_C (er_cons (er_ix (er_ix rfl er_C rfl ix5) er_C rfl (atI_nat (j := 1) rfl)) (er_cons er_C er_nil))) rfl (Nat.le_of_ble_eq_true rfl)) er_nil) rfl (Nat.le_of_ble_eq_true rfl)) rfl rfl e5 rfl)
        cases q with
        | true => exact ⟨true, s3 / 2, fun h => (nk h).elim, .inl rfl, if_yes (er_orTF u1 rfl (er_orTF u2 rfl u3)) rfl (yes (s3 / 2))⟩
        | false => exact ⟨false, s3 / 2, fun h => (nk h).elim, .inr (hq rfl), if_no (er_orTF u1 rfl (er_orTF u2 rfl u3)) rfl (no (s3 / 2))⟩
  obtain ⟨b, s4, hb1, hb2, z5⟩ := z5
  refine ⟨(fs, b), ⟨hne, by show fs.length ≤ 5; omega, hf⟩, hb1, hb2, ?_⟩
  have eR : dueD (recsP sep 0 (L ++ [(fs, b)])) = R ++ [.lst RC] := by
    rw [rs, ← hR, ← hRC]
    exact List.map_append
  rw [ts, eR]
  exact fg_nx (seq_is z1 (seq_is z2 (seq_is z3 (seq_is z4 z5)))) rfl rfl
end Qk80
set_option Elab.async false
set_option linter.all false
set_option maxRecDepth 100000
set_option maxHeartbeats 4000000
namespace Qk80
open PySem PySem.Spec PyProof.Rows L2 Z
local macro_rules | `(tactic| walk_at "l") => `(tactic| first | (simp only [wipeG_nil, wipeG_cons, List.set_cons_succ, List.set_cons_zero, List.take_succ_cons, List.take_zero, List.take_nil, List.cons_append, List.nil_append, List.length_cons, List.length_nil, List.set_nil, List.getElem?_cons_zero, List.getElem?_cons_succ, Nat.zero_add, Nat.reduceAdd]; first | done | exact rfl) | exact rfl)
local macro_rules | `(tactic| walk_at "d") => `(tactic| first
  | with_reducible assumption
  | (with_reducible apply dr_div) <;> decide
  | (with_reducible apply dr_mod) <;> decide
  | (with_reducible apply dr_mulr); decide
  | (with_reducible apply dr_mull); decide
  | (with_reducible apply dr_divB) <;> omega
  | (with_reducible apply dr_mulrB) <;> omega
  | (with_reducible apply dr_mullB) <;> omega
  | (with_reducible apply dr_mulC) <;> omega
  | (with_reducible apply dr_mod) <;> omega
  | (with_reducible refine isi_of ?_ ?_); (exact rfl); (first | exact kb_int_int | exact kb_int_bool | exact kb_bool_bool | exact kb_bool_int | exact kb_str_int | exact kb_str_bool | exact kb_str_str | exact kb_int_str | exact kb_bool_str | exact kb_non_int | exact kb_non_bool | exact kb_non_str | exact kb_list_list | exact kb_tuple_tuple | exact kb_list_tuple | exact kb_tuple_list)
  | with_reducible exact dr_abs
  | (with_reducible exact dr_neL _ _)
  | (simp only [Cn.d]; with_reducible assumption)
  | (simp only [Cn.d]; with_reducible exact dr_neL _ _)
  | with_reducible exact in_ints _ _
  | (simp only [Cn.d]; with_reducible exact in_ints _ _)
  | ((with_reducible apply dr_cat); (try simp only [List.length_append, List.length_cons, List.length_nil]); omega)
  | with_reducible exact dr_eqI
  | with_reducible exact dr_eqB
  | with_reducible exact dr_neB
  | with_reducible exact dr_eqS
  | with_reducible exact dr_neI
  | with_reducible exact dr_neS
  | exact rfl)
local macro_rules | `(tactic| walk_at "c") => `(tactic| first | with_reducible assumption | (simp only [Cn.d]; with_reducible assumption))
local macro_rules | `(tactic| walk_at "e") => `(tactic| first
  | with_reducible exact er_C
  | with_reducible exact er_nil
  | (with_reducible apply er_varD); exact rfl
  | (with_reducible apply er_varO); exact rfl
  | (with_reducible apply er_varF); exact rfl
  | (with_reducible apply er_op); walk_at "e"; walk_at "e"; exact rfl; exact rfl; walk_at "d"; exact rfl
  | (with_reducible apply er_chain); walk_at "e"; walk_at "e"; exact rfl; exact rfl; walk_at "d"; (intro _h; walk_at "e"); exact rfl; walk_at "d"
  | (with_reducible apply er_slS); walk_at "e"; walk_at "o"; walk_at "o"; exact rfl; walk_at "z"
  | (with_reducible apply er_slL); walk_at "e"; walk_at "o"; walk_at "o"; exact rfl
  | (with_reducible apply er_list); walk_at "e"; exact rfl; exact rfl
  | (with_reducible apply er_tupL); walk_at "e"; exact rfl
  | (with_reducible apply er_un); walk_at "e"; exact rfl; exact rfl; exact rfl
  | (with_reducible apply er_tst); walk_at "e"
  | (with_reducible apply er_tru); walk_at "e"; exact rfl; exact rfl
  | (with_reducible apply er_andT); walk_at "e"; (intro _h; walk_at "e")
  | (with_reducible apply er_orT); walk_at "e"; (intro _h; walk_at "e")
  | (with_reducible apply er_andTT); walk_at "e"; exact rfl; walk_at "e"
  | (with_reducible apply er_orTF); walk_at "e"; exact rfl; walk_at "e"
  | (with_reducible apply er_notT); walk_at "e"
  | (with_reducible apply er_andV); walk_at "e"; (intro _h; walk_at "e")
  | (with_reducible apply er_orV); walk_at "e"; (intro _h; walk_at "e")
  | (with_reducible apply er_notV); walk_at "e"
  | (with_reducible apply er_andVT); walk_at "e"; exact rfl; walk_at "e"
  | (with_reducible apply er_orVF); walk_at "e"; exact rfl; walk_at "e"
  | (with_reducible apply er_ix); walk_at "e"; walk_at "e"; exact rfl; walk_at "x"
  | (with_reducible apply er_callS); walk_at "e"; exact rfl; walk_at "d"; exact rfl
  | (with_reducible apply er_cons); walk_at "e"; walk_at "e"
  | (with_reducible apply er_callG); walk_at "e"; exact rfl; exact rfl; walk_at "c"; exact rfl
  | (with_reducible apply er_callH); walk_at "e"; exact rfl; exact rfl; walk_at "c"; exact rfl
  | (with_reducible apply er_callV); walk_at "e"; exact rfl; walk_at "c"; exact rfl
  | (with_reducible apply er_callGF); walk_at "e"; exact rfl; exact rfl; walk_at "c"; exact rfl
  | (with_reducible apply er_callHF); walk_at "e"; exact rfl; exact rfl; walk_at "c"; exact rfl
  | (with_reducible apply er_callM); walk_at "e"; exact rfl; exact rfl; exact rfl; exact rfl; exact rfl; walk_at "c"; exact rfl
  | (with_reducible apply er_catL); walk_at "e"; walk_at "e"; exact rfl; exact rfl; walk_at "z"
  | (with_reducible apply er_mt); walk_at "e"; exact rfl; exact rfl; walk_at "e"; exact rfl; exact rfl; walk_at "m"; exact rfl
  | (with_reducible apply er_tup); walk_at "e"; exact rfl; walk_at "z" 
  | (with_reducible apply er_lst); walk_at "e"; exact rfl; walk_at "z")
local macro_rules | `(tactic| walk_at "o") => `(tactic| first | exact er_zoN | ((with_reducible apply er_zoS); walk_at "e"))
local macro_rules | `(tactic| walk_at "x") => `(tactic| first | with_reducible assumption | (simp only [Cn.d]; with_reducible assumption) | exact rfl)
local macro_rules | `(tactic| walk_at "m") => `(tactic| first | with_reducible assumption | (simp only [Cn.d]; with_reducible assumption) | exact rfl)
local macro_rules | `(tactic| walk_at "st") => `(tactic| first
  | ((with_reducible apply set_dat); (walk_at "e"); (exact rfl); walk_at "l")
  | ((with_reducible apply set_own); (walk_at "e"); (exact Nat.le_of_ble_eq_true rfl); (exact rfl); (exact rfl); walk_at "l")
  | ((with_reducible apply asg_run); (walk_at "e"); (exact rfl); walk_at "l")
  | ((with_reducible apply aug_run); (exact rfl); (exact rfl); (walk_at "e"); (exact rfl); (walk_at "d"); (exact rfl); (exact rfl); walk_at "l")
  | ((with_reducible apply sto_run); (walk_at "e"); (walk_at "e"); (walk_at "e"); (exact rfl); (walk_at "x"); walk_at "l")
  | ((with_reducible apply app_run); (walk_at "e"); (exact rfl); (walk_at "e"); (exact rfl); (exact rfl); (walk_at "z"); walk_at "l"))
local macro_rules | `(tactic| walk_at "z") => `(tactic| first | assumption | exact Nat.le_of_ble_eq_true rfl | (simp; omega))
local macro_rules | `(tactic| walk_at "s") => `(tactic| first
  | with_reducible apply sr_nx
  | with_reducible apply sr_assoc
  | with_reducible apply ap_fg
  | ((with_reducible apply fgK_nx); (exact rfl); (walk_at "l"); skip)
  | ((with_reducible apply fgK_ct); (exact rfl); (walk_at "l"); skip)
  | ((with_reducible apply fgK_bk); (exact rfl); (walk_at "l"); skip)
  | with_reducible apply fgK_ret
  | with_reducible apply sr_bk1
  | with_reducible apply sr_ct1
  | with_reducible apply sr_nx1
  | with_reducible apply sr_ct
  | with_reducible apply sr_bk
  | (with_reducible apply sr_retS); (walk_at "e"); skip
  | (with_reducible apply sr_ret); (walk_at "e"); skip
  | (with_reducible apply sr_if); (walk_at "e"); (walk_at "l")
  | (with_reducible apply sr_if1); (walk_at "e"); (walk_at "l")
  | (with_reducible apply seq_nx); (walk_at "st")
  | (with_reducible apply one_nx); (walk_at "st"))
local macro_rules | `(tactic| walk_at "r") => `(tactic| repeat' (first | (intro _) | walk_at "s"))
local macro_rules | `(tactic| walk_at "k") => `(tactic| (intro q; (try simp only [decide_eq_true_eq, decide_eq_false_iff_not, beq_iff_eq, beq_eq_false_iff_ne, ne_eq, Bool.not_eq_true', Bool.not_eq_false', Bool.and_eq_true, Bool.or_eq_true, Bool.and_eq_false_iff, Bool.or_eq_false_iff, Int.not_lt, Int.not_le, List.cons.injEq, and_true, reduceCtorEq, beq_self_eq_true, Bool.not_true, Bool.not_false, Bool.or_false, Bool.false_or, Bool.or_true, Bool.true_or, Bool.and_false, Bool.false_and, Bool.and_true, Bool.true_and, not_true_eq_false, Bool.false_eq_true] at q) <;> (try (exfalso; first | (cases q; done) | omega | contradiction))))
local macro_rules | `(tactic| walk_at "w") => `(tactic| repeat' (first | (walk_at "k") | walk_at "s"))
theorem law_true (ns : List Int) (hn : ns.length ≤ 63) : d_law [scriptD ns] = some (.dat (.bl true)) := by
  obtain ⟨c0, hc0⟩ := cell_ok ns 0 (by decide)
  obtain ⟨s, hs⟩ := state_ok c0 0
  obtain ⟨sep, hs1, hs2, esep⟩ : ∃ sep : Nat, sep ≠ 34 ∧ sep ≠ 10 ∧ ixD (.tup [.str [44], .str [59], .str [32]]) (s % 3) = some (.str [sep]) := by
    rcases (show s % 3 = 0 ∨ s % 3 = 1 ∨ s % 3 = 2 by omega) with h | h | h <;> rw [h]
    · exact ⟨44, by decide, by decide, rfl⟩
    · exact ⟨59, by decide, by decide, rfl⟩
    · exact ⟨32, by decide, by decide, rfl⟩
  have hlen : lenD [scriptD ns] = some (.int ((ns.length : Nat) : Int)) := by
    show some (D.int (((ns.map D.int).length : Nat) : Int)) = _
    rw [List.length_map]
  obtain ⟨m, hm, hm8⟩ : ∃ m : Nat, minD [.int 8, .int ((ns.length : Nat) : Int)] = some (.int (m : Int)) ∧ m ≤ 8 := by
    by_cases h : (ns.length : Int) < 8
    · exact ⟨ns.length, by
        show some (D.int (if (ns.length : Int) < 8 then (ns.length : Int) else 8)) = _
        rw [if_pos h], by omega⟩
    · exact ⟨8, by
        show some (D.int (if (ns.length : Int) < 8 then (ns.length : Int) else 8)) = _
        rw [if_neg h]
        rfl, by omega⟩
  have z1 : zSet 11 1 (zCall d__law_state (zCons (zCall d__law_cell (zCons (zVar 0) (zCons (zC (.int 0)) (zNil)))) (zCons (zC (.int 0)) (zNil)))) [.dat (scriptD ns), .un, .un, .un, .un, .un, .un, .un, .un, .un, .un] = some (.nx, [.dat (scriptD ns), .own (stZ s) false false, .un, .un, .un, .un, .un, .un, .un, .un, .un]) :=
    set_own (er_callL (g1 := [.dat (scriptD ns), .un, .un, .un, .un, .un, .un, .un, .un, .un, .un]) (ds := [.int c0, .int 0]) (er_cons (er_callV (er_cons rfl (er_cons rfl er_nil)) rfl hc0 rfl) (er_cons er_C er_nil)) hs) (Nat.le_of_ble_eq_true rfl) rfl rfl rfl
  have d3 : zCallM 0 d__law_digit (zCons (zVar 1) (zCons (zC (.int 3)) (zNil))) [.dat (scriptD ns), .own (stZ s) false false, .un, .un, .un, .un, .un, .un, .un, .un, .un] = some (.dat (.int (s % 3)), [.dat (scriptD ns), .own (stZ (s / 3)) false false, .un, .un, .un, .un, .un, .un, .un, .un, .un]) :=
    er_callM (kk := 0) (j := 1) (p := false) (f := d__law_digit) (c := stZ s) (g := [.dat (scriptD ns), .own (stZ s) false false, .un, .un, .un, .un, .un, .un, .un, .un, .un]) (g2 := [.dat (scriptD ns), .own (stZ s) false false, .un, .un, .un, .un, .un, .un, .un, .un, .un]) (er_cons rfl (er_cons er_C er_nil)) rfl rfl rfl rfl rfl (digit_ok s 3 (by decide) (by decide)) rfl
  have z2 : zSet 11 2 (zIx (zTup (zCons (zC (.str [44])) (zCons (zC (.str [59])) (zCons (zC (.str [32])) (zNil))))) (zCallM 0 d__law_digit (zCons (zVar 1) (zCons (zC (.int 3)) (zNil))))) [.dat (scriptD ns), .own (stZ s) false false, .un, .un, .un, .un, .un, .un, .un, .un, .un] = some (.nx, [.dat (scriptD ns), .own (stZ (s / 3)) false false, .dat (.str [sep]), .un, .un, .un, .un, .un, .un, .un, .un]) :=
    set_dat (er_ix (er_tup (er_cons er_C (er_cons er_C (er_cons er_C er_nil))) rfl (Nat.le_of_ble_eq_true rfl)) d3 rfl esep) rfl rfl
  have z5 : zSet 11 5 (zCallS minD (zCons (zC (.int 8)) (zCons (zCallS lenD (zCons (zVar 0) (zNil))) (zNil)))) [.dat (scriptD ns), .own (stZ (s / 3)) false false, .dat (.str [sep]), .dat (.str []), .own (.lst []) false false, .un, .un, .un, .un, .un, .un] = some (.nx, GM ns (.own (stZ (s / 3)) false false) sep [] [] (m : Int) .un .un .un .un .un) :=
    set_dat (er_callS (er_cons er_C (er_cons (er_callS (er_cons rfl er_nil) rfl hlen rfl) er_nil)) rfl hm rfl) rfl rfl
  obtain ⟨gl, f1, L, rfl, ll, hR, hG, hA⟩ := forL_inv (tg := gN 6) (st := lb_law_2) (L := rgD 0 m) (fun i g => ∃ L : List (List Fl' × Bool), g = GM ns .un sep (txt sep L) (dueD (recsP sep 0 L)) (m : Int) .un .un .un .un .un ∧ L.length = i ∧ (∀ r ∈ L, ROk sep r) ∧ ((∀ r ∈ L, r.2 = true) ∨ (i = m ∧ ∃ L1 fs, L = L1 ++ [(fs, false)] ∧ (∀ r ∈ L1, r.2 = true) ∧ recT sep fs ≠ [])) ∧ (i < m → ∀ r ∈ L, r.2 = true)) 0
    (GM ns .un sep [] [] (m : Int) .un .un .un .un .un) ⟨[], rfl, rfl, fun r h => (List.not_mem_nil h).elim, .inl fun r h => (List.not_mem_nil h).elim, fun _ r h => (List.not_mem_nil h).elim⟩ (fun i d g hd hg => by
      obtain ⟨L, rfl, ll, hR, hG, hA⟩ := hg
      obtain ⟨hi, rfl⟩ := rgD_at hd
      rw [Nat.zero_add] at ll hA
      have hA := hA hi
      obtain ⟨r, hr, h1, h2, t⟩ := record_turn ns (L := L) (fun r h => ⟨hR r h, hA r h⟩) (by omega) m i
      refine ⟨GM ns .un sep (txt sep L) (dueD (recsP sep 0 L)) (m : Int) (.dat (.int (0 + (i : Int)))) .un .un .un .un, _, rfl, .inl t, L ++ [r], rfl, by rw [List.length_append, List.length_singleton, ll, Nat.zero_add], fun x h => ?_, ?_, fun hlt x h => ?_⟩
      · rcases List.mem_append.mp h with h | h
        · exact hR x h
        · rw [List.mem_singleton.mp h]; exact hr
      · obtain ⟨fs, b⟩ := r
        cases b with
        | true =>
          refine .inl fun x h => ?_
          rcases List.mem_append.mp h with h | h
          · exact hA x h
          · rw [List.mem_singleton.mp h]
        | false =>
          refine .inr ⟨?_, L, fs, rfl, hA, ?_⟩
          · by_cases q : i + 1 < m
            · exact absurd (h1 q) Bool.false_ne_true
            · omega
          · rcases h2 with h2 | h2
            · cases h2
            · exact h2
      · rcases List.mem_append.mp h with h | h
        · exact hA x h
        · rw [List.mem_singleton.mp h]
          exact h1 (by omega))
  rw [rgD_len, Nat.zero_add] at ll hG
  clear hA
  have tl := txt_len hR
  obtain ⟨x1, x2⟩ := recsP_ok (sep := sep) (L := L) (k := 0) hR (by omega)
  have sm := same_all x1 (by omega)
  -- the records read
  have g1 : Good sep L := by
    rcases hG with hA | ⟨_, L1, fs, rfl, hA, hne⟩
    · rcases List.eq_nil_or_concat L with rfl | ⟨L1, r, e⟩
      · exact trivial
      · rw [List.concat_eq_append] at e
        subst e
        exact Good_snoc (hR r (by simp)) (.inl (hA r (by simp))) fun x h => ⟨hR x (List.mem_append_left _ h), hA x (List.mem_append_left _ h)⟩
    · exact Good_snoc (hR _ (by simp)) (.inr hne) fun x h => ⟨hR x (List.mem_append_left _ h), hA x h⟩
  have sp := split_ok hs1 hs2 g1 (by omega) (by omega)
  have t1 : zNotT (zTru (zCall d__law_same (zCons (zCall d_split_records (zCons (zVar 3) (zCons (zVar 2) (zNil)))) (zCons (zVar 4) (zNil))))) (GM ns .un sep (txt sep L) (dueD (recsP sep 0 L)) (m : Int) .un .un .un .un .un) = some (false, GM ns .un sep (txt sep L) (dueD (recsP sep 0 L)) (m : Int) .un .un .un .un .un ++ [.own (.lst (toldD (recsP sep 0 L))) false false]) := by
    have c := er_callL (f := d_split_records) (ds := [.str (txt sep L), .str [sep]]) (mr := zCons (zVar 3) (zCons (zVar 2) (zNil))) (g := GM ns .un sep (txt sep L) (dueD (recsP sep 0 L)) (m : Int) .un .un .un .un .un) (g1 := GM ns .un sep (txt sep L) (dueD (recsP sep 0 L)) (m : Int) .un .un .un .un .un) (er_cons rfl (er_cons rfl er_nil)) sp
    exact er_notT (b := true) (er_tru (er_callV (er_cons c (er_cons rfl er_nil)) rfl sm rfl) rfl rfl)
  -- a line feed behind
  have ca := catT (a := txt sep L) (b := [10]) (by omega) (by simp)
  have lt := lenT' (T := txt sep L) (by omega)
  have t2 : ∃ b g', zNotT (zTru (zCall d__law_same (zCons (zCall d_split_records (zCons (zOp addS (zVar 3) (zC (.str [10]))) (zCons (zVar 2) (zNil)))) (zCons (zCatL (zVar 4) (zLst (zCons (zLst (zCons (zTup (zCons (zC (.str [])) (zCons (zCallS lenD (zCons (zVar 3) (zNil))) (zCons (zC (.bl false)) (zNil))))) (zNil))) (zNil)))) (zNil))))) (GM ns .un sep (txt sep L) (dueD (recsP sep 0 L)) (m : Int) .un .un .un .un .un) = some (b, g') ∧ g'.take 11 = GM ns .un sep (txt sep L) (dueD (recsP sep 0 L)) (m : Int) .un .un .un .un .un ∧
      (b = true → ∃ p c, txt sep L = p ++ [c] ∧ c ≠ 10) := by
    have ev : ∀ (L' : List (List Fl' × Bool)) (q : Bool), Good sep L' → L'.length ≤ 9 → (∀ r ∈ L', ROk sep r) → txt sep L' = txt sep L ++ [10] → d__law_same [.lst (toldD (recsP sep 0 L')), .lst (dueD (recsP sep 0 L) ++ [.lst [tPl ([], (txt sep L).length, false)]])] = some (.dat (.bl q)) →
        ∃ g', zNotT (zTru (zCall d__law_same (zCons (zCall d_split_records (zCons (zOp addS (zVar 3) (zC (.str [10]))) (zCons (zVar 2) (zNil)))) (zCons (zCatL (zVar 4) (zLst (zCons (zLst (zCons (zTup (zCons (zC (.str [])) (zCons (zCallS lenD (zCons (zVar 3) (zNil))) (zCons (zC (.bl false)) (zNil))))) (zNil))) (zNil)))) (zNil))))) (GM ns .un sep (txt sep L) (dueD (recsP sep 0 L)) (m : Int) .un .un .un .un .un) = some (!q, g') ∧ g'.take 11 = GM ns .un sep (txt sep L) (dueD (recsP sep 0 L)) (m : Int) .un .un .un .un .un := fun L' q hg hl' hr' et hq => by
      have tl' := txt_len hr'
      have sp' : d_split_records [.str (txt sep L'), .str [sep]] = some (.new (.lst (toldD (recsP sep 0 L')))) := split_ok hs1 hs2 hg (by omega) (by omega)
      rw [et] at sp'
      have Dl : (dueD (recsP sep 0 L)).length ≤ 8 := by rw [List.length_map, x2]; omega
      generalize dueD (recsP sep 0 L) = R at *
      generalize txt sep L = T at *
      generalize toldD (recsP sep 0 L') = TD at *
      have c := er_callL (f := d_split_records) (ds := [.str (T ++ [10]), .str [sep]]) (mr := zCons (zOp addS (zVar 3) (zC (.str [10]))) (zCons (zVar 2) (zNil))) (g := GM ns .un sep T R (m : Int) .un .un .un .un .un) (g1 := GM ns .un sep T R (m : Int) .un .un .un .un .un) (er_cons (er_op rfl er_C rfl rfl ca rfl) (er_cons rfl er_nil)) sp'
      have k1 := er_tup (mr := zCons (zC (.str [])) (zCons (zCallS lenD (zCons (zVar 3) (zNil))) (zCons (zC (.bl false)) (zNil)))) (g := GM ns .un sep T R (m : Int) .un .un .un .un .un ++ [.own (.lst TD) false false]) (g1 := GM ns .un sep T R (m : Int) .un .un .un .un .un ++ [.own (.lst TD) false false]) (er_cons er_C (er_cons (er_callS (er_cons rfl er_nil) rfl lt rfl) (er_cons er_C er_nil))) rfl (Nat.le_of_ble_eq_true rfl)
      have k2 := er_lst (mr := zCons (zTup (zCons (zC (.str [])) (zCons (zCallS lenD (zCons (zVar 3) (zNil))) (zCons (zC (.bl false)) (zNil))))) (zNil)) (g2 := GM ns .un sep T R (m : Int) .un .un .un .un .un ++ [.own (.lst TD) false false]) (er_cons k1 er_nil) rfl (Nat.le_of_ble_eq_true rfl)
      have k3 := er_lst (mr := zCons (zLst (zCons (zTup (zCons (zC (.str [])) (zCons (zCallS lenD (zCons (zVar 3) (zNil))) (zCons (zC (.bl false)) (zNil))))) (zNil))) (zNil)) (ds := [.lst [tPl ([], T.length, false)]]) (g2 := GM ns .un sep T R (m : Int) .un .un .un .un .un ++ [.own (.lst TD) false false] ++ [.frz (.lst [tPl ([], T.length, false)])]) (er_cons k2 er_nil) rfl (Nat.le_of_ble_eq_true rfl)
      have k4 := er_catL (ma := zVar 4) (mb := zLst (zCons (zLst (zCons (zTup (zCons (zC (.str [])) (zCons (zCallS lenD (zCons (zVar 3) (zNil))) (zCons (zC (.bl false)) (zNil))))) (zNil))) (zNil))) (g := GM ns .un sep T R (m : Int) .un .un .un .un .un ++ [.own (.lst TD) false false]) (l := R) (k := [.lst [tPl ([], T.length, false)]]) rfl k3 rfl rfl (Nat.le_trans (show R.length + 1 ≤ 9 by omega) (by decide))
      exact ⟨_, er_notT (b := q) (er_tru (er_callV (er_cons c (er_cons k4 er_nil)) rfl hq rfl) rfl rfl), rfl⟩
    have e0 : ROk sep ([([], false)], true) := ⟨by simp, by decide, fun y h => by
      rw [List.mem_singleton.mp h]
      exact ⟨Nat.zero_le _, fun c h => (List.not_mem_nil h).elim, fun _ c h => (List.not_mem_nil h).elim⟩⟩
    rcases hG with hA | ⟨_, L1, fs, rfl, hA, hne⟩
    · have rs := recsP_snoc sep ([([], false)], true) L 0 hA
      have hr' : ∀ r ∈ L ++ [([([], false)], true)], ROk sep r := fun r h => by
        rcases List.mem_append.mp h with h | h
        · exact hR r h
        · rw [List.mem_singleton.mp h]; exact e0
      have l9 : (L ++ [([(([] : List Nat), false)], true)]).length ≤ 9 := by rw [List.length_append, List.length_singleton]; omega
      obtain ⟨y1, y2⟩ := recsP_ok (sep := sep) (k := 0) hr' (by omega)
      have q := same_all y1 (by omega)
      obtain ⟨g', h1, h2⟩ := ev (L ++ [([([], false)], true)]) true (Good_snoc e0 (.inl rfl) fun x h => ⟨hR x h, hA x h⟩) l9 hr' (by rw [txt_snoc]; rfl) (by
        have e : dueD (recsP sep 0 (L ++ [([([], false)], true)])) = dueD (recsP sep 0 L) ++ [.lst [tPl ([], (txt sep L).length, false)]] := by
          rw [rs, Nat.zero_add]
          exact List.map_append
        rw [e] at q
        exact q)
      exact ⟨false, g', h1, h2, fun h => by cases h⟩
    · have hr' : ∀ r ∈ L1 ++ [(fs, true)], ROk sep r := fun r h => by
        rcases List.mem_append.mp h with h | h
        · exact hR r (List.mem_append_left _ h)
        · rw [List.mem_singleton.mp h]
          exact hR (fs, false) (by simp)
      have l9 : (L1 ++ [(fs, true)]).length ≤ 9 := by
        rw [List.length_append, List.length_singleton] at ll ⊢
        omega
      have e1 : txt sep (L1 ++ [(fs, true)]) = txt sep (L1 ++ [(fs, false)]) ++ [10] := by
        rw [txt_snoc, txt_snoc, List.append_assoc]
        show _ ++ (recT sep fs ++ [10]) = _ ++ ((recT sep fs ++ []) ++ [10])
        rw [List.append_nil]
      obtain ⟨g', h1, h2⟩ := ev (L1 ++ [(fs, true)]) false (Good_snoc (hr' _ (by simp)) (.inl rfl) fun x h => ⟨hr' x (List.mem_append_left _ h), hA x h⟩) l9 hr' e1 (same_no (by
        rw [recsP_flag sep fs true false, List.length_map, List.length_append, List.length_map, List.length_singleton]
        omega))
      refine ⟨true, g', h1, h2, fun _ => ?_⟩
      obtain ⟨p, c, e, hc⟩ := recT_last hs2 (hR (fs, false) (by simp)).2.2 hne
      refine ⟨txt sep L1 ++ p, c, ?_, hc⟩
      rw [txt_snoc, List.append_assoc, ← e]
      show _ ++ (recT sep fs ++ []) = _
      rw [List.append_nil]
  obtain ⟨b, g', t2, tk, hb⟩ := t2
  have sp0 := split_ok (sep := sep) hs1 hs2 (L := []) trivial (Nat.zero_le _) (Nat.zero_le _)
  have sm0 : d__law_same [.lst [], .lst []] = some (.dat (.bl true)) := same_all (P := []) (fun r h => (List.not_mem_nil h).elim) (Nat.zero_le _)
  generalize hTT : txt sep L = T at *
  generalize dueD (recsP sep 0 L) = R at *
  unfold d_law b_law
  refine runP_ap (g := [.dat (scriptD ns), .un, .un, .un, .un, .un, .un, .un, .un, .un, .un]) rfl rfl ?_
  refine seq_nx z1 (seq_nx z2 ?_)
  refine seq_nx (g1 := [.dat (scriptD ns), .own (stZ (s / 3)) false false, .dat (.str [sep]), .dat (.str []), .un, .un, .un, .un, .un, .un, .un]) (set_dat er_C rfl rfl) ?_
  refine seq_nx (set_own (g2 := [.dat (scriptD ns), .own (stZ (s / 3)) false false, .dat (.str [sep]), .dat (.str []), .own (.lst []) false false, .un, .un, .un, .un, .un, .un]) (er_lst er_nil rfl (Nat.zero_le _)) (Nat.le_of_ble_eq_true rfl) rfl rfl rfl) ?_
  refine seq_nx z5 ?_
  refine seq_nx (fgB_run (g1 := GM ns .un sep [] [] (m : Int) .un .un .un .un .un) rfl rfl (for_none (mi_R1 (k := (m : Int)) (er_cons rfl er_nil) (rgOk_of (by omega) (by omega))) rfl (by rw [Int.toNat_natCast]; exact f1))) ?_
  refine sr_if (g2 := GM ns .un sep T R (m : Int) .un .un .un .un .un) t1 rfl (fun q => by cases q) (fun _ => ?_)
  refine sr_nx (sr_if (g2 := GM ns .un sep T R (m : Int) .un .un .un .un .un) t2 tk (fun q => ?_) (fun _ => ?_))
  · obtain ⟨p, c, rfl, hc⟩ := hb q
    have cl : cutL (p ++ [c]) (some (((p ++ [c]).length : Int) - 1)) none = [c] := by
      unfold cutL
      have i1 : HT.sIx (p ++ [c]).length 0 (some (((p ++ [c]).length : Int) - 1)) = p.length := by
        simp only [HT.sIx, List.length_append, List.length_singleton]
        split <;> omega
      have i2 : HT.sIx (p ++ [c]).length (p ++ [c]).length none = (p ++ [c]).length := rfl
      rw [i1, i2, List.drop_left, List.length_append, List.length_singleton]
      exact List.take_of_length_le (by simp)
    have sl := er_slS (ma := zVar 3) (ml := zoS (zOp subD (zCallS lenD (zCons (zVar 3) (zNil))) (zC (.int 1)))) (mh := zoN) (g := GM ns .un sep (p ++ [c]) R (m : Int) .un .un .un .un .un) (t := p ++ [c]) rfl (er_zoS (er_op (er_callS (er_cons rfl er_nil) rfl lt rfl) er_C rfl rfl rfl rfl)) er_zoN rfl (Nat.le_trans (show _ ≤ 700 by omega) (by decide))
    rw [cl] at sl
    have ne : neqD (.str [c]) (.str [10]) = some (.bl true) := by
      rw [dr_neS]
      simp [hc]
    have gt : gtD (.int (((p ++ [c]).length : Nat) : Int)) (.int 0) = some (.bl true) := by
      show some (D.bl (decide (0 < (((p ++ [c]).length : Nat) : Int)))) = _
      rw [decide_eq_true (by rw [List.length_append, List.length_singleton]; omega)]
    exact sr_retS (er_andVT (er_op sl er_C rfl rfl ne rfl) rfl (er_op (er_callS (er_cons rfl er_nil) rfl lt rfl) er_C rfl rfl gt rfl)) rfl
  · have c := er_callL (f := d_split_records) (ds := [.str [], .str [sep]]) (mr := zCons (zC (.str [])) (zCons (zVar 2) (zNil))) (g := GM ns .un sep T R (m : Int) .un .un .un .un .un) (g1 := GM ns .un sep T R (m : Int) .un .un .un .un .un) (er_cons er_C (er_cons rfl er_nil)) sp0
    exact sr_nx (sr_ret (er_callV (er_cons c (er_cons (er_lst er_nil rfl (Nat.zero_le _)) er_nil)) rfl sm0 rfl) rfl)
end Qk80
set_option Elab.async false
set_option linter.all false
set_option maxRecDepth 100000
set_option maxHeartbeats 4000000
namespace Qk80
open PySem PySem.Spec PyProof.Rows L2 Z
theorem all_mk {P : Program} {w : World} {K : PySem.W.Frag} {h : Heap} {mg : Str → Option Value} {fa : Addr} (X : K.In h) (G : h.Ns mainGlobals mg) (hfa : mg "law" = some (.ref fa))
    {C_Field : Addr} (ca_Field : PySem.W.nsIn K mainGlobals "Field" = some (some (.ref C_Field))) (cpg_Field : PySem.W.plainGet K C_Field Str.empty = true) (chd_Field : PySem.W.hasDictIn K C_Field = true) (cpo_Field : PySem.W.plainOver K C_Field = true) (csa_Field : PySem.W.findIn K (.ref C_Field) "__setattr__" = some (some (.builtin "object.__setattr__"))) (cha_Field : PySem.W.findIn K (.ref C_Field) "__class__" = some (some (.builtin "object.__class__"))) (chn_Field : PySem.W.specialIn K (.builtin "object.__class__") "__get__" = some (some (.builtin "getset_descriptor.__get__"))) (cht_Field : PySem.W.takesIn K (.builtin "object.__class__") = some true) (chm_Field : PySem.W.mroIn K C_Field (.type "object") = some true)
    (cn_Field_text : PySem.W.findIn K (.ref C_Field) "text" = some none)
    (cn_Field_offset : PySem.W.findIn K (.ref C_Field) "offset" = some none)
    (cn_Field_marked : PySem.W.findIn K (.ref C_Field) "marked" = some none)
    {cf_Field : Addr} {coc_Field : Value} {cod_Field can_Field : Option Addr} {csl_Field : Array (Option Value)} {ckV_Field cdc_Field cpm_Field ccd_Field cct_Field : Value}
    (cmk_Field : PySem.W.makesIn K C_Field = true) (cin_Field : PySem.W.findIn K (.ref C_Field) "__init__" = some (some (.ref cf_Field))) (cfn_Field : PySem.W.isFn K (.ref cf_Field) = true) (ckc_Field : PySem.W.keepIn K (.ref C_Field) = true) (cl_Field : K.lookup cf_Field = some ⟨coc_Field, cod_Field, .func (PySem.W.fnOf "__init__" "Field.__init__" (defArgs st_Field) (defBody st_Field) (defScope st_Field) .none ckV_Field cdc_Field cpm_Field can_Field ccd_Field cct_Field), csl_Field⟩) (cce_Field : PySem.W.codeIn K ccd_Field "Field.__init__" = true) (ckp_Field : PySem.W.keepIn K (.ref cf_Field) = true)
    {od0 an0 : Option Addr} {sl0 : Array (Option Value)} {oc0 kV0 dc0 pm0 cd0 ct0 : Value} {f0 : Addr}
    (a0 : PySem.W.nsIn K mainGlobals "_law_state" = some (some (.ref f0))) (l0 : K.lookup f0 = some ⟨oc0, od0, .func (PySem.W.fnOf "_law_state" "_law_state" (defArgs st__law_state) (defBody st__law_state) (defScope st__law_state) .none kV0 dc0 pm0 an0 cd0 ct0), sl0⟩) (e0 : PySem.W.codeIn K cd0 "_law_state" = true) (k0 : PySem.W.keepIn K (.ref f0) = true)
    {od1 an1 : Option Addr} {sl1 : Array (Option Value)} {oc1 kV1 dc1 pm1 cd1 ct1 : Value} {f1 : Addr}
    (a1 : PySem.W.nsIn K mainGlobals "_law_is_integer" = some (some (.ref f1))) (l1 : K.lookup f1 = some ⟨oc1, od1, .func (PySem.W.fnOf "_law_is_integer" "_law_is_integer" (defArgs st__law_is_integer) (defBody st__law_is_integer) (defScope st__law_is_integer) .none kV1 dc1 pm1 an1 cd1 ct1), sl1⟩) (e1 : PySem.W.codeIn K cd1 "_law_is_integer" = true) (k1 : PySem.W.keepIn K (.ref f1) = true)
    {od2 an2 : Option Addr} {sl2 : Array (Option Value)} {oc2 kV2 dc2 pm2 cd2 ct2 : Value} {f2 : Addr}
    (a2 : PySem.W.nsIn K mainGlobals "_law_same" = some (some (.ref f2))) (l2 : K.lookup f2 = some ⟨oc2, od2, .func (PySem.W.fnOf "_law_same" "_law_same" (defArgs st__law_same) (defBody st__law_same) (defScope st__law_same) .none kV2 dc2 pm2 an2 cd2 ct2), sl2⟩) (e2 : PySem.W.codeIn K cd2 "_law_same" = true) (k2 : PySem.W.keepIn K (.ref f2) = true)
    {od3 an3 : Option Addr} {sl3 : Array (Option Value)} {oc3 kV3 dc3 pm3 cd3 ct3 : Value} {f3 : Addr}
    (a3 : PySem.W.nsIn K mainGlobals "_law_cell" = some (some (.ref f3))) (l3 : K.lookup f3 = some ⟨oc3, od3, .func (PySem.W.fnOf "_law_cell" "_law_cell" (defArgs st__law_cell) (defBody st__law_cell) (defScope st__law_cell) .none kV3 dc3 pm3 an3 cd3 ct3), sl3⟩) (e3 : PySem.W.codeIn K cd3 "_law_cell" = true) (k3 : PySem.W.keepIn K (.ref f3) = true)
    {od4 an4 : Option Addr} {sl4 : Array (Option Value)} {oc4 kV4 dc4 pm4 cd4 ct4 : Value} {f4 : Addr}
    (a4 : PySem.W.nsIn K mainGlobals "_law_digit" = some (some (.ref f4))) (l4 : K.lookup f4 = some ⟨oc4, od4, .func (PySem.W.fnOf "_law_digit" "_law_digit" (defArgs st__law_digit) (defBody st__law_digit) (defScope st__law_digit) .none kV4 dc4 pm4 an4 cd4 ct4), sl4⟩) (e4 : PySem.W.codeIn K cd4 "_law_digit" = true) (k4 : PySem.W.keepIn K (.ref f4) = true)
    {od5 an5 : Option Addr} {sl5 : Array (Option Value)} {oc5 kV5 dc5 pm5 cd5 ct5 : Value} {f5 : Addr}
    (a5 : PySem.W.nsIn K mainGlobals "read_marked" = some (some (.ref f5))) (l5 : K.lookup f5 = some ⟨oc5, od5, .func (PySem.W.fnOf "read_marked" "read_marked" (defArgs st_read_marked) (defBody st_read_marked) (defScope st_read_marked) .none kV5 dc5 pm5 an5 cd5 ct5), sl5⟩) (e5 : PySem.W.codeIn K cd5 "read_marked" = true) (k5 : PySem.W.keepIn K (.ref f5) = true)
    {od6 an6 : Option Addr} {sl6 : Array (Option Value)} {oc6 kV6 dc6 pm6 cd6 ct6 : Value} {f6 : Addr}
    (a6 : PySem.W.nsIn K mainGlobals "read_plain" = some (some (.ref f6))) (l6 : K.lookup f6 = some ⟨oc6, od6, .func (PySem.W.fnOf "read_plain" "read_plain" (defArgs st_read_plain) (defBody st_read_plain) (defScope st_read_plain) .none kV6 dc6 pm6 an6 cd6 ct6), sl6⟩) (e6 : PySem.W.codeIn K cd6 "read_plain" = true) (k6 : PySem.W.keepIn K (.ref f6) = true)
    {od7 an7 : Option Addr} {sl7 : Array (Option Value)} {oc7 kV7 dc7 pm7 cd7 ct7 : Value} {f7 : Addr}
    (a7 : PySem.W.nsIn K mainGlobals "split_records" = some (some (.ref f7))) (l7 : K.lookup f7 = some ⟨oc7, od7, .func (PySem.W.fnOf "split_records" "split_records" (defArgs st_split_records) (defBody st_split_records) (defScope st_split_records) .none kV7 dc7 pm7 an7 cd7 ct7), sl7⟩) (e7 : PySem.W.codeIn K cd7 "split_records" = true) (k7 : PySem.W.keepIn K (.ref f7) = true)
    {od8 an8 : Option Addr} {sl8 : Array (Option Value)} {oc8 kV8 dc8 pm8 cd8 ct8 : Value} {f8 : Addr}
    (a8 : PySem.W.nsIn K mainGlobals "_law_field_text" = some (some (.ref f8))) (l8 : K.lookup f8 = some ⟨oc8, od8, .func (PySem.W.fnOf "_law_field_text" "_law_field_text" (defArgs st__law_field_text) (defBody st__law_field_text) (defScope st__law_field_text) .none kV8 dc8 pm8 an8 cd8 ct8), sl8⟩) (e8 : PySem.W.codeIn K cd8 "_law_field_text" = true) (k8 : PySem.W.keepIn K (.ref f8) = true)
    {od9 an9 : Option Addr} {sl9 : Array (Option Value)} {oc9 kV9 dc9 pm9 cd9 ct9 : Value} {f9 : Addr}
    (a9 : PySem.W.nsIn K mainGlobals "_law_must_mark" = some (some (.ref f9))) (l9 : K.lookup f9 = some ⟨oc9, od9, .func (PySem.W.fnOf "_law_must_mark" "_law_must_mark" (defArgs st__law_must_mark) (defBody st__law_must_mark) (defScope st__law_must_mark) .none kV9 dc9 pm9 an9 cd9 ct9), sl9⟩) (e9 : PySem.W.codeIn K cd9 "_law_must_mark" = true) (k9 : PySem.W.keepIn K (.ref f9) = true)
    {od10 an10 : Option Addr} {sl10 : Array (Option Value)} {oc10 kV10 dc10 pm10 cd10 ct10 : Value} {f10 : Addr}
    (a10 : PySem.W.nsIn K mainGlobals "_law_written" = some (some (.ref f10))) (l10 : K.lookup f10 = some ⟨oc10, od10, .func (PySem.W.fnOf "_law_written" "_law_written" (defArgs st__law_written) (defBody st__law_written) (defScope st__law_written) .none kV10 dc10 pm10 an10 cd10 ct10), sl10⟩) (e10 : PySem.W.codeIn K cd10 "_law_written" = true) (k10 : PySem.W.keepIn K (.ref f10) = true)
    {od11 an11 : Option Addr} {sl11 : Array (Option Value)} {oc11 kV11 dc11 pm11 cd11 ct11 : Value} {f11 : Addr}
    (a11 : PySem.W.nsIn K mainGlobals "law" = some (some (.ref f11))) (l11 : K.lookup f11 = some ⟨oc11, od11, .func (PySem.W.fnOf "law" "law" (defArgs st_law) (defBody st_law) (defScope st_law) .none kV11 dc11 pm11 an11 cd11 ct11), sl11⟩) (e11 : PySem.W.codeIn K cd11 "law" = true) (k11 : PySem.W.keepIn K (.ref f11) = true)
    (z_bool : PySem.W.nsIn K mainGlobals "bool" = some none)
    (z_int : PySem.W.nsIn K mainGlobals "int" = some none)
    (z_isinstance : PySem.W.nsIn K mainGlobals "isinstance" = some none)
    (z_len : PySem.W.nsIn K mainGlobals "len" = some none)
    (z_list : PySem.W.nsIn K mainGlobals "list" = some none)
    (z_min : PySem.W.nsIn K mainGlobals "min" = some none)
    (z_range : PySem.W.nsIn K mainGlobals "range" = some none)
    {cuMARK : Value} (cvMARK : PySem.W.nsIn K mainGlobals "MARK" = some (some cuMARK)) (cdMARK : absP cuMARK = some c_MARK)
    {cuEND : Value} (cvEND : PySem.W.nsIn K mainGlobals "END" = some (some cuEND)) (cdEND : absP cuEND = some c_END) :
    ∃ fd : FuncData, (∀ (s : Shared) (v : Value), BindsTo s fd ⟨[v], []⟩ [("_law_script", v)]) ∧ ∀ base : Heap, K.In base → base.Ns mainGlobals mg → base.NoDigits → FnA P w K mg base callerA fa fd ["_law_script"] (spP K d_law) := by
  have K_Field : Cls K C_Field := ⟨cpg_Field, chd_Field, cpo_Field, csa_Field⟩
  have N_Field : ∀ n ∈ fl_Field, NoAttr K C_Field n := List.forall_mem_cons.mpr ⟨cn_Field_text, List.forall_mem_cons.mpr ⟨cn_Field_offset, List.forall_mem_cons.mpr ⟨cn_Field_marked, fun _ m => (List.not_mem_nil m).elim⟩⟩⟩
  have k_Field : ClsF K mg "Field" fl_Field := ⟨C_Field, ca_Field, PySem.W.mg_of X G ca_Field, N_Field, K_Field, cha_Field, chn_Field, cht_Field, chm_Field, kit_self⟩
  have D_Field : ClsDef K mg "Field" fl_Field "Field.__init__" st_Field := ⟨C_Field, cf_Field, _, ca_Field, PySem.W.mg_of X G ca_Field, K_Field, N_Field, ⟨cmk_Field, cin_Field, cfn_Field, ckc_Field⟩, fun_mk (st := st_Field) cl_Field cce_Field ckp_Field⟩
  have D__law_state : DefAt K mg "_law_state" st__law_state := ⟨f0, _, PySem.W.mg_of X G a0, fun_mk (st := st__law_state) l0 e0 k0⟩
  have D__law_is_integer : DefAt K mg "_law_is_integer" st__law_is_integer := ⟨f1, _, PySem.W.mg_of X G a1, fun_mk (st := st__law_is_integer) l1 e1 k1⟩
  have D__law_same : DefAt K mg "_law_same" st__law_same := ⟨f2, _, PySem.W.mg_of X G a2, fun_mk (st := st__law_same) l2 e2 k2⟩
  have D__law_cell : DefAt K mg "_law_cell" st__law_cell := ⟨f3, _, PySem.W.mg_of X G a3, fun_mk (st := st__law_cell) l3 e3 k3⟩
  have D__law_digit : DefAt K mg "_law_digit" st__law_digit := ⟨f4, _, PySem.W.mg_of X G a4, fun_mk (st := st__law_digit) l4 e4 k4⟩
  have D_read_marked : DefAt K mg "read_marked" st_read_marked := ⟨f5, _, PySem.W.mg_of X G a5, fun_mk (st := st_read_marked) l5 e5 k5⟩
  have D_read_plain : DefAt K mg "read_plain" st_read_plain := ⟨f6, _, PySem.W.mg_of X G a6, fun_mk (st := st_read_plain) l6 e6 k6⟩
  have D_split_records : DefAt K mg "split_records" st_split_records := ⟨f7, _, PySem.W.mg_of X G a7, fun_mk (st := st_split_records) l7 e7 k7⟩
  have D__law_field_text : DefAt K mg "_law_field_text" st__law_field_text := ⟨f8, _, PySem.W.mg_of X G a8, fun_mk (st := st__law_field_text) l8 e8 k8⟩
  have D__law_must_mark : DefAt K mg "_law_must_mark" st__law_must_mark := ⟨f9, _, PySem.W.mg_of X G a9, fun_mk (st := st__law_must_mark) l9 e9 k9⟩
  have D__law_written : DefAt K mg "_law_written" st__law_written := ⟨f10, _, PySem.W.mg_of X G a10, fun_mk (st := st__law_written) l10 e10 k10⟩
  have D_law : DefAt K mg "law" st_law := ⟨f11, _, PySem.W.mg_of X G a11, fun_mk (st := st_law) l11 e11 k11⟩
  have m_bool : mg "bool" = none := PySem.W.mg_none_of X G z_bool
  have m_int : mg "int" = none := PySem.W.mg_none_of X G z_int
  have m_isinstance : mg "isinstance" = none := PySem.W.mg_none_of X G z_isinstance
  have m_len : mg "len" = none := PySem.W.mg_none_of X G z_len
  have m_list : mg "list" = none := PySem.W.mg_none_of X G z_list
  have m_min : mg "min" = none := PySem.W.mg_none_of X G z_min
  have m_range : mg "range" = none := PySem.W.mg_none_of X G z_range
  have hc_MARK := (constP X G cvMARK cdMARK : ConstD K mg "MARK" c_MARK)
  have hc_END := (constP X G cvEND cdEND : ConstD K mg "END" c_END)
  refine ⟨PySem.W.fnOf "law" "law" (defArgs st_law) (defBody st_law) (defScope st_law) .none kV11 dc11 pm11 an11 cd11 ct11, fun s v => .of_eq rfl, fun base _ _ hnd => ?_⟩
  have c_Field := ok_Field (P := P) (w := w) (base := base) D_Field 
  have c__law_state := ok__law_state (P := P) (w := w) (base := base) D__law_state m_int
  have c__law_is_integer := ok__law_is_integer (P := P) (w := w) (base := base) D__law_is_integer m_bool m_int m_isinstance
  have c__law_same := ok__law_same (P := P) (w := w) (base := base) D__law_same m_bool m_isinstance m_len m_list m_range k_Field c__law_is_integer
  have c__law_cell := ok__law_cell (P := P) (w := w) (base := base) D__law_cell m_len
  have c__law_digit := ok__law_digit (P := P) (w := w) (base := base) D__law_digit m_int
  have c_read_marked := ok_read_marked (P := P) (w := w) (base := base) D_read_marked m_len hc_MARK hc_END c_Field
  have c_read_plain := ok_read_plain (P := P) (w := w) (base := base) D_read_plain m_len hc_MARK hc_END c_Field
  have c_split_records := ok_split_records (P := P) (w := w) (base := base) D_split_records m_len hc_MARK c_read_marked c_read_plain
  have c__law_field_text := ok__law_field_text (P := P) (w := w) (base := base) D__law_field_text m_range c__law_digit
  have c__law_must_mark := ok__law_must_mark (P := P) (w := w) (base := base) D__law_must_mark
  have c__law_written := ok__law_written (P := P) (w := w) (base := base) D__law_written
  cases hfa.symm.trans (PySem.W.mg_of X G a11)
  exact ok_law (P := P) (w := w) (base := base) (fun_mk (st := st_law) l11 e11 k11) m_len m_min m_range c__law_state c__law_same c__law_cell c__law_digit c_split_records c__law_field_text c__law_must_mark c__law_written
end Qk80
open PySem PySem.W PyProof.Rows
set_option maxHeartbeats 0 in
theorem PySem.Challenge.cw_stylobate_k80_records_and_fields_holds : PySem.Challenge.rw_stylobate_k80_records_and_fields.Holds := by
  w_on
  refine headZ ?_
  k_fill
  refine Z.walk_ofA (l := PySem.Challenge.rw_stylobate_k80_records_and_fields) (n := 63) (x := "_law_script") (f := Qk80.d_law) rfl (by decide) rfl (fun w h Y => PySem.W.kIn_of Y) ?F (fun ns hl => Qk80.law_true ns hl)
  case F =>
    intro w mg fa h KX G hmg
    refine' Qk80.all_mk KX G hmg ?ca_Field ?cpg_Field ?chd_Field ?cpo_Field ?csa_Field ?cha_Field ?chn_Field ?cht_Field ?chm_Field ?cn_Field_text ?cn_Field_offset ?cn_Field_marked ?cmk_Field ?cin_Field ?cfn_Field ?ckc_Field ?cl_Field ?cce_Field ?ckp_Field ?a0 ?l0 ?e0 ?k0 ?a1 ?l1 ?e1 ?k1 ?a2 ?l2 ?e2 ?k2 ?a3 ?l3 ?e3 ?k3 ?a4 ?l4 ?e4 ?k4 ?a5 ?l5 ?e5 ?k5 ?a6 ?l6 ?e6 ?k6 ?a7 ?l7 ?e7 ?k7 ?a8 ?l8 ?e8 ?k8 ?a9 ?l9 ?e9 ?k9 ?a10 ?l10 ?e10 ?k10 ?a11 ?l11 ?e11 ?k11 ?z_bool ?z_int ?z_isinstance ?z_len ?z_list ?z_min ?z_range ?cvMARK ?cdMARK ?cvEND ?cdEND
    (case ca_Field => k_is); (case cpg_Field => k_is); (case chd_Field => k_is); (case cpo_Field => k_is); (case csa_Field => k_is); (case cha_Field => k_is); (case chn_Field => k_is); (case cht_Field => k_is); (case chm_Field => k_is); (case cn_Field_text => k_is); (case cn_Field_offset => k_is); (case cn_Field_marked => k_is); (case cmk_Field => k_is); (case cin_Field => k_is); (case cfn_Field => k_is); (case ckc_Field => k_is); (case cl_Field => k_is); (case cce_Field => k_is); (case ckp_Field => k_is); (case a0 => k_is); (case l0 => k_is); (case e0 => k_is); (case k0 => k_is); (case a1 => k_is); (case l1 => k_is); (case e1 => k_is); (case k1 => k_is); (case a2 => k_is); (case l2 => k_is); (case e2 => k_is); (case k2 => k_is); (case a3 => k_is); (case l3 => k_is); (case e3 => k_is); (case k3 => k_is); (case a4 => k_is); (case l4 => k_is); (case e4 => k_is); (case k4 => k_is); (case a5 => k_is); (case l5 => k_is); (case e5 => k_is); (case k5 => k_is); (case a6 => k_is); (case l6 => k_is); (case e6 => k_is); (case k6 => k_is); (case a7 => k_is); (case l7 => k_is); (case e7 => k_is); (case k7 => k_is); (case a8 => k_is); (case l8 => k_is); (case e8 => k_is); (case k8 => k_is); (case a9 => k_is); (case l9 => k_is); (case e9 => k_is); (case k9 => k_is); (case a10 => k_is); (case l10 => k_is); (case e10 => k_is); (case k10 => k_is); (case a11 => k_is); (case l11 => k_is); (case e11 => k_is); (case k11 => k_is); (case z_bool => k_is); (case z_int => k_is); (case z_isinstance => k_is); (case z_len => k_is); (case z_list => k_is); (case z_min => k_is); (case z_range => k_is); (case cvMARK => k_is); (case cdMARK => exact rfl); (case cvEND => k_is); (case cdEND => exact rfl)
#print axioms PySem.Challenge.cw_stylobate_k80_records_and_fields_holds
