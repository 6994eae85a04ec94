import PyProof.Rows.All
import Wide.All
import OpenK.AllK
import Wide.FinOn
import HandS.ForMost
import HandS.Style
import HandS.IsInst
import HandS.Wide
import HandS.Deep
import PyProof.Rows.EqBoolInt
import HandS.WideBits
import HandS.TupAny
import HandS.Comp
import HandS.Iter
import HandS.Replace
import PyProof.ReprRoads
import PyProof.ReprLen
import PyProof.StrBlock2
import HandS.TupLe
import HandS.FStr
import HandS.Small
import KE.KxField
import KE.IntTextLaws
import HandS.StrMore
import HandS.RaiseMore
import HandS.Codes
import PyProof.Rows.StrFirst
import HandS.Dict
import KE.KTab
import PyProof.Rows.StrDigitsNeg
import HandS.SetFor
import HandS.Strs
import HandS.IterVal
import KE.KSortKey
import HandS.SortOrd
import HandS.SortKw
import KE.KeyNested
import HandS.TupSets
import HandS.SetKeys
import HandS.More
import HandS.Flt
import HandS.Conv
import PySem.Challenge.RW_stylobate_k38_groups_of_rows
set_option Elab.async false
set_option linter.all false
set_option maxRecDepth 100000 in
set_option maxHeartbeats 0 in
open_top headZ for PySem.Challenge.rw_stylobate_k38_groups_of_rows
set_option Elab.async false
set_option linter.all false
set_option maxRecDepth 100000
set_option maxHeartbeats 4000000
namespace Z
open PySem PySem.Spec PyProof.Rows L2
inductive D where
  | non | bl (b : Bool) | int (i : Int) | str (s : List Nat) | tup (l : List D) | lst (l : List D) | raw (v : V) | dic (ks : List (List Nat)) (vs : List D) | obj (c : Str) (fs : List Str) (ds : List D)
  deriving Inhabited
/-- a text as a dict's key -/
def kS (s : List Nat) : Key := .inr ⟨s.toArray⟩
mutual
inductive Dz (K : PySem.W.Frag) (H : Hp) : V → D → Prop
  | non : Dz K H .non .non
  | bl (b : Bool) : Dz K H (.bl b) (.bl b)
  | int (i : Int) : Dz K H (.int i) (.int i)
  | str (s : List Nat) : Dz K H (.str ⟨s.toArray⟩) (.str s)
  | tup {a : Addr} {xs : List V} {ds : List D} : SqT K H a xs → DzA K H xs ds → Dz K H (.ref a) (.tup ds)
  | lst {a : Addr} {xs : List V} {ds : List D} : SqL K H a xs → DzA K H xs ds → Dz K H (.ref a) (.lst ds)
  | raw (v : V) : Dz K H v (.raw v)
  | dic {a : Addr} {ks : List (List Nat)} {xs : List V} {ds : List D} : H a = some (.dK ((ks.map kS).zip xs)) → ks.length = xs.length → DzA K H xs ds → Dz K H (.ref a) (.dic ks ds)
  | obj {a C dx : Addr} {c : Str} {fs : List Str} {xs : List V} {ds : List D} : PySem.W.nsIn K mainGlobals c = some (some (.ref C)) → H a = some (.ins C dx (fs.zip xs)) → fs.length = xs.length → DzA K H xs ds → Dz K H (.ref a) (.obj c fs ds)
inductive DzA (K : PySem.W.Frag) (H : Hp) : List V → List D → Prop
  | nil : DzA K H [] []
  | cons {v : V} {vs : List V} {d : D} {ds : List D} : Dz K H v d → DzA K H vs ds → DzA K H (v :: vs) (d :: ds)
end
theorem sameT {K : PySem.W.Frag} {H H' : Hp} {a : Addr} {xs : List V} (e : Same H H') (h : SqT K H a xs) : SqT K H' a xs := by
  rcases h with (h | ⟨o, h⟩) | h
  · exact .inl (.inl (e _ _ h))
  · exact .inl (.inr ⟨o, e _ _ h⟩)
  · exact .inr h
section
variable {K : PySem.W.Frag} {H H' : Hp}
mutual
theorem Dz.mono (e : Same H H') : ∀ {v : V} {d : D}, Dz K H v d → Dz K H' v d
  | _, _, .non => .non
  | _, _, .bl b => .bl b
  | _, _, .int i => .int i
  | _, _, .str s => .str s
  | _, _, .tup s a => .tup (sameT e s) (DzA.mono e a)
  | _, _, .lst s a => .lst (e.seq s) (DzA.mono e a)
  | _, _, .raw v => .raw v
  | _, _, .dic s n a => .dic (e _ _ s) n (DzA.mono e a)
  | _, _, .obj k s n a => .obj k (e _ _ s) n (DzA.mono e a)
theorem DzA.mono (e : Same H H') : ∀ {vs : List V} {ds : List D}, DzA K H vs ds → DzA K H' vs ds
  | _, _, .nil => .nil
  | _, _, .cons h t => .cons (Dz.mono e h) (DzA.mono e t)
end
theorem DzA.length : ∀ {vs : List V} {ds : List D}, DzA K H vs ds → vs.length = ds.length
  | _, _, .nil => rfl
  | _, _, .cons _ t => by rw [List.length_cons, List.length_cons, DzA.length t]
theorem DzA.get : ∀ {vs : List V} {ds : List D} {i : Nat} {d : D}, DzA K H vs ds → ds[i]? = some d → ∃ v, vs[i]? = some v ∧ Dz K H v d
  | _, _, _, _, .nil, e => by simp at e
  | _, _, 0, _, .cons h _, e => by simp at e; subst e; exact ⟨_, rfl, h⟩
  | _, _, i + 1, d, .cons _ t, e => by
    obtain ⟨v, h1, h2⟩ := DzA.get (i := i) t (by simpa using e)
    exact ⟨v, by simpa using h1, h2⟩
theorem DzA.getV : ∀ {vs : List V} {ds : List D} {i : Nat} {v : V}, DzA K H vs ds → vs[i]? = some v → ∃ d, ds[i]? = some d ∧ Dz K H v d
  | _, _, _, _, .nil, e => by simp at e
  | _, _, 0, _, .cons h _, e => by simp at e; subst e; exact ⟨_, rfl, h⟩
  | _, _, i + 1, d, .cons _ t, e => by
    obtain ⟨v, h1, h2⟩ := DzA.getV (i := i) t (by simpa using e)
    exact ⟨v, by simpa using h1, h2⟩
theorem DzA.append : ∀ {vs ws : List V} {ds es : List D}, DzA K H vs ds → DzA K H ws es → DzA K H (vs ++ ws) (ds ++ es)
  | _, _, _, _, .nil, s => s
  | _, _, _, _, .cons h t, s => .cons h (DzA.append t s)
theorem DzA.take : ∀ {vs : List V} {ds : List D} (n : Nat), DzA K H vs ds → DzA K H (vs.take n) (ds.take n)
  | _, _, 0, _ => .nil
  | _, _, _ + 1, .nil => .nil
  | _, _, n + 1, .cons h t => .cons h (DzA.take n t)
theorem DzA.drop : ∀ {vs : List V} {ds : List D} (n : Nat), DzA K H vs ds → DzA K H (vs.drop n) (ds.drop n)
  | _, _, 0, r => r
  | _, _, _ + 1, .nil => .nil
  | _, _, n + 1, .cons _ t => DzA.drop n t
theorem DzA.set {v : V} {d : D} (r : Dz K H v d) : ∀ {vs : List V} {ds : List D} (i : Nat), DzA K H vs ds → DzA K H (vs.set i v) (ds.set i d)
  | _, _, _, .nil => .nil
  | _, _, 0, .cons _ t => .cons r t
  | _, _, i + 1, .cons q t => .cons q (DzA.set r i t)
end
/-- no reference within: true in any heap -/
def D.scal : D → Bool
  | .non => true | .bl _ => true | .int _ => true | .str _ => true | .raw _ => true
  | _ => false
theorem Dz.any {K : PySem.W.Frag} {H H' : Hp} {v : V} {d : D} (s : d.scal = true) (h : Dz K H v d) : Dz K H' v d := by
  cases h with
  | non => exact .non
  | bl b => exact .bl b
  | int i => exact .int i
  | str z => exact .str z
  | raw v => exact .raw v
  | dic _ _ _ => exact absurd s (by simp [D.scal])
  | obj _ _ _ _ => exact absurd s (by simp [D.scal])
  | tup _ _ => exact absurd s (by simp [D.scal])
  | lst _ _ => exact absurd s (by simp [D.scal])
theorem DzA.any {K : PySem.W.Frag} {H H' : Hp} : ∀ {vs : List V} {ds : List D}, ds.all D.scal = true → DzA K H vs ds → DzA K H' vs ds
  | _, _, _, .nil => .nil
  | _, _, s, .cons h t => by
    rw [List.all_cons, Bool.and_eq_true] at s
    exact .cons (h.any s.1) (DzA.any s.2 t)
/-- what a container of the def's own holds -/
inductive Cn where
  | lst (l : List D)
  deriving Inhabited
def CnOk (K : PySem.W.Frag) (Hs : Hp) : Cn → HO → Prop
  | .lst ds, .lst vs => DzA K Hs vs ds
  | _, _ => False
def Cn.d : Cn → D
  | .lst l => .lst l
def Cn.scal : Cn → Bool
  | .lst l => l.all D.scal
theorem CnOk.mono {K : PySem.W.Frag} {H H' : Hp} (e : Same H H') {c : Cn} {o : HO} (h : CnOk K H c o) : CnOk K H' c o := by
  cases c with
  | lst l =>
    cases o with
    | lst vs => exact DzA.mono e (show DzA K H vs l from h)
    | _ => exact (show False from h).elim
theorem CnOk.any {K : PySem.W.Frag} {H H' : Hp} {c : Cn} {o : HO} (s : c.scal = true) (h : CnOk K H c o) : CnOk K H' c o := by
  cases c with
  | lst l =>
    cases o with
    | lst vs => exact DzA.any s (show DzA K H vs l from h)
    | _ => exact (show False from h).elim
theorem CnOk.dz {K : PySem.W.Frag} {H : Hp} {c : Cn} {o : HO} {a : Addr} (h : CnOk K H c o) (e : H a = some o) : Dz K H (.ref a) c.d := by
  cases c with
  | lst l =>
    cases o with
    | lst vs => exact .lst (SqL.of e) (show DzA K H vs l from h)
    | _ => exact (show False from h).elim
/-- a slot: nothing known; data; a container of the def's own (pin: a parameter's; lock: walked now); a container that is data from now on -/
inductive Sl where
  | un | dat (d : D) | own (c : Cn) (pin lock : Bool) | frz (d : D) | rws (l : List (List D))
  deriving Inhabited
/-- an expression's value: data, or the container at a slot -/
inductive R where
  | dat (d : D) | bor (j : Nat)
  deriving Inhabited
/-- of a def: its names' number, the heap and the known heap at the entry, its parameters that it may change -/
structure Ct where
  K : PySem.W.Frag
  n : Nat
  H0 : Hp
  Hs0 : Hp
  pins : List (Nat × Addr)
  locks : List (Nat × Addr × Cn)
  plt : ∀ q ∈ pins, q.1 < n
  llt : ∀ q ∈ locks, q.1 < n
def kidsOf : Option HO → List Addr
  | some (.lst vs) => vs.filterMap fun v => match v with
    | .ref b => some b
    | _ => none
  | _ => []
theorem kidsOf_refs (ks : List Addr) : kidsOf (some (.lst (ks.map V.ref))) = ks := by
  show (ks.map V.ref).filterMap _ = ks
  induction ks with
  | nil => rfl
  | cons k ks ih => rw [List.map_cons, List.filterMap_cons]; simp only; rw [ih]
def KdOk (K : PySem.W.Frag) (Hs H : Hp) : List Addr → List (List D) → Prop
  | [], [] => True
  | b :: bs, l :: ls => (∃ us, H b = some (.lst us) ∧ DzA K Hs us l) ∧ KdOk K Hs H bs ls
  | _, _ => False
theorem KdOk.live {K : PySem.W.Frag} {Hs H : Hp} : ∀ {ks : List Addr} {ls : List (List D)}, KdOk K Hs H ks ls → ∀ x ∈ ks, ∃ o, H x = some o
  | [], [], _, _, m => (List.not_mem_nil m).elim
  | b :: bs, l :: ls, h, x, m => by
    rcases List.mem_cons.mp m with rfl | m
    · obtain ⟨us, e, _⟩ := h.1
      exact ⟨_, e⟩
    · exact KdOk.live h.2 x m
  | [], _ :: _, h, _, _ => h.elim
  | _ :: _, [], h, _, _ => h.elim
theorem KdOk.move {K : PySem.W.Frag} {Hs Hs' H H' : Hp} (s : Same Hs Hs') : ∀ {ks : List Addr} {ls : List (List D)}, KdOk K Hs H ks ls → (∀ x ∈ ks, ∀ o, H x = some o → H' x = some o) → KdOk K Hs' H' ks ls
  | [], [], _, _ => trivial
  | b :: bs, l :: ls, h, m => by
    obtain ⟨us, e, z⟩ := h.1
    exact ⟨⟨us, m b List.mem_cons_self _ e, z.mono s⟩, KdOk.move s h.2 fun x hx => m x (List.mem_cons_of_mem _ hx)⟩
  | [], _ :: _, h, _ => h.elim
  | _ :: _, [], h, _ => h.elim
theorem KdOk.len {K : PySem.W.Frag} {Hs H : Hp} : ∀ {ks : List Addr} {ls : List (List D)}, KdOk K Hs H ks ls → ks.length = ls.length
  | [], [], _ => rfl
  | _ :: _, _ :: _, h => by rw [List.length_cons, List.length_cons, KdOk.len h.2]
  | [], _ :: _, h => h.elim
  | _ :: _, [], h => h.elim
/-- as data -/
theorem KdOk.dz {K : PySem.W.Frag} {Hs H : Hp} (s : Same Hs H) : ∀ {ks : List Addr} {ls : List (List D)}, KdOk K Hs H ks ls → DzA K H (ks.map V.ref) (ls.map D.lst)
  | [], [], _ => .nil
  | b :: bs, l :: ls, h => by
    obtain ⟨us, e, z⟩ := h.1
    exact .cons (.lst (SqL.of e) (z.mono s)) (KdOk.dz s h.2)
  | [], _ :: _, h => h.elim
  | _ :: _, [], h => h.elim
structure Kd (K : PySem.W.Frag) (Hs H0 H : Hp) (a : Addr) (ks : List Addr) (ls : List (List D)) : Prop where
  hd : H a = some (.lst (ks.map V.ref))
  nd : (a :: ks).Nodup
  fr : ∀ x ∈ a :: ks, Hs x = none ∧ H0 x = none
  kd : KdOk K Hs H ks ls
theorem Kd.live {K : PySem.W.Frag} {Hs H0 H : Hp} {a : Addr} {ks : List Addr} {ls : List (List D)} (k : Kd K Hs H0 H a ks ls) : ∀ x ∈ a :: ks, ∃ o, H x = some o := fun x m => by
  rcases List.mem_cons.mp m with rfl | m
  · exact ⟨_, k.hd⟩
  · exact k.kd.live x m
def RwOk (C : Ct) (Hs : Hp) (A : List Addr) (g : List Sl) (σ : L2.St) (H : Hp) : Prop := ∀ (i : Nat) (ls : List (List D)), g[i]? = some (.rws ls) → ∃ a ks, A[i]? = some a ∧ (i < C.n → σ[i]? = some (some (.ref a))) ∧ Kd C.K Hs C.H0 H a ks ls ∧
  (∀ (j : Nat) (c : Cn) (p l : Bool) (b : Addr), g[j]? = some (.own c p l) → A[j]? = some b → b ∉ a :: ks) ∧
  (∀ (j : Nat) (ms : List (List D)) (b x : Addr), g[j]? = some (.rws ms) → A[j]? = some b → x ∈ b :: kidsOf (H b) → x ∈ a :: ks → j = i)
theorem RwOk.step {C C' : Ct} {Hs Hs' : Hp} {A A' : List Addr} {g g' : List Sl} {σ σ' : L2.St} {H H' : Hp} (w : RwOk C Hs A g σ H) (hK : C'.K = C.K) (hn : C'.n = C.n) (s : Same Hs Hs')
    (hx : ∀ x o, H x = some o → Hs x = none → C.H0 x = none → (∀ (j : Nat) (c : Cn) (p l : Bool), g[j]? = some (.own c p l) → A[j]? ≠ some x) → H' x = some o ∧ Hs' x = none ∧ C'.H0 x = none)
    (hg : ∀ (i : Nat) (ls : List (List D)), g'[i]? = some (.rws ls) → g[i]? = some (.rws ls) ∧ A'[i]? = A[i]? ∧ (i < C.n → σ'[i]? = σ[i]?))
    (ho : ∀ (j : Nat) (c : Cn) (p l : Bool) (b : Addr), g'[j]? = some (.own c p l) → A'[j]? = some b → (∃ (k : Nat) (c : Cn) (p l : Bool), g[k]? = some (.own c p l) ∧ A[k]? = some b) ∨ H b = none) : RwOk C' Hs' A' g' σ' H' := by
  have good : ∀ (i : Nat) (ls : List (List D)), g[i]? = some (.rws ls) → ∀ a ks, Kd C.K Hs C.H0 H a ks ls → (∀ (j : Nat) (c : Cn) (p l : Bool) (b : Addr), g[j]? = some (.own c p l) → A[j]? = some b → b ∉ a :: ks) → ∀ x ∈ a :: ks, ∀ o, H x = some o → H' x = some o ∧ Hs' x = none ∧ C'.H0 x = none := fun i ls e a ks k no x m o ex =>
    hx x o ex (k.fr x m).1 (k.fr x m).2 fun j c p l hj z => no j c p l x hj z m
  intro i ls e
  obtain ⟨e1, eA, eσ⟩ := hg i ls e
  obtain ⟨a, ks, q1, q2, q3, q4, q5⟩ := w i ls e1
  have gd := good i ls e1 a ks q3 q4
  refine ⟨a, ks, eA.trans q1, fun h => by rw [eσ (hn ▸ h)]; exact q2 (hn ▸ h), ⟨(gd a List.mem_cons_self _ q3.hd).1, q3.nd, fun x m => ?_, ?_⟩, fun j c p l b ej ab m => ?_, fun j ms b x ej ab m1 m2 => ?_⟩
  · obtain ⟨o, ho⟩ := q3.live x m
    exact (gd x m o ho).2
  · rw [hK]
    exact q3.kd.move s fun x m o h => (gd x (List.mem_cons_of_mem _ m) o h).1
  · rcases ho j c p l b ej ab with ⟨k, c', p', l', z1, z2⟩ | z
    · exact q4 k c' p' l' b z1 z2 m
    · obtain ⟨o, h⟩ := q3.live b m
      rw [z] at h; cases h
  · obtain ⟨f1, fA, _⟩ := hg j ms ej
    obtain ⟨b', ks', r1, _, r3, r4, _⟩ := w j ms f1
    rw [fA] at ab
    rw [ab] at r1
    have eb : b = b' := Option.some.inj r1
    subst eb
    rw [(good j ms f1 b ks' r3 r4 b List.mem_cons_self _ r3.hd).1, ← r3.hd] at m1
    exact q5 j ms b x f1 ab m1 m2
structure Ok (C : Ct) (Hs : Hp) (A : List Addr) (g : List Sl) (σ : L2.St) (H : Hp) : Prop where
  ln : σ.length = C.n
  lg : C.n ≤ g.length
  la : A.length = g.length
  base : Same C.Hs0 Hs
  same : Same Hs H
  dat : ∀ (i : Nat) (d : D), g[i]? = some (.dat d) → ∃ v, σ[i]? = some (some v) ∧ Dz C.K Hs v d
  frz : ∀ (i : Nat) (d : D), g[i]? = some (.frz d) → ∃ a, A[i]? = some a ∧ (i < C.n → σ[i]? = some (some (.ref a))) ∧ Dz C.K Hs (.ref a) d
  own : ∀ (i : Nat) (c : Cn) (p l : Bool), g[i]? = some (.own c p l) → ∃ a o, A[i]? = some a ∧ (i < C.n → σ[i]? = some (some (.ref a))) ∧ Hs a = none ∧ H a = some o ∧ CnOk C.K Hs c o ∧ (p = false → C.H0 a = none)
  inj : ∀ (i j : Nat) (c : Cn) (p l : Bool) (c' : Cn) (p' l' : Bool) (a : Addr), g[i]? = some (.own c p l) → g[j]? = some (.own c' p' l') → A[i]? = some a → A[j]? = some a → i = j
  grow : ∀ b o, Hs b = some o → C.Hs0 b = some o ∨ C.H0 b = none
  keep : ∀ b o, C.H0 b = some o → (∀ q ∈ C.pins, q.2 ≠ b) → H b = some o
  pinned : ∀ q ∈ C.pins, ∃ c l, g[q.1]? = some (.own c true l) ∧ A[q.1]? = some q.2
  pin1 : ∀ (i : Nat) (c : Cn) (l : Bool) (a : Addr), g[i]? = some (.own c true l) → A[i]? = some a → (i, a) ∈ C.pins
  locked : ∀ q ∈ C.locks, ∃ p, g[q.1]? = some (.own q.2.2 p true) ∧ A[q.1]? = some q.2.1
  rws : RwOk C Hs A g σ H
def RelR (K : PySem.W.Frag) (Hs : Hp) (A : List Addr) (v : V) : R → Prop
  | .dat d => Dz K Hs v d
  | .bor j => ∃ a, A[j]? = some a ∧ v = .ref a
def Pre (A A' : List Addr) : Prop := ∀ (j : Nat) (a : Addr), A[j]? = some a → A'[j]? = some a
theorem Pre.refl (A : List Addr) : Pre A A := fun _ _ h => h
theorem Pre.trans {A B C : List Addr} (a : Pre A B) (b : Pre B C) : Pre A C := fun j x h => b j x (a j x h)
theorem Pre.app (A B : List Addr) : Pre A (A ++ B) := fun j a h => by
  have hj := (List.getElem?_eq_some_iff.mp h).1
  rw [List.getElem?_append_left hj]
  exact h
theorem RelR.mono {K : PySem.W.Frag} {Hs Hs' : Hp} {A A' : List Addr} {v : V} {r : R} (s : Same Hs Hs') (p : Pre A A') (h : RelR K Hs A v r) : RelR K Hs' A' v r := by
  cases r with
  | dat d => exact Dz.mono s (show Dz K Hs v d from h)
  | bor j =>
    obtain ⟨a, h1, h2⟩ := (show ∃ a, A[j]? = some a ∧ v = .ref a from h)
    exact ⟨a, p j a h1, h2⟩
/-- what a value is as data -/
def rd (g : List Sl) : R → Option D
  | .dat d => some d
  | .bor j => match g[j]? with
    | some (.own c _ _) => some c.d
    | some (.frz d) => some d
    | _ => none
/-- .. of a list of own lists too (what is known of the present heap only) -/
def rdX (g : List Sl) : R → Option D
  | .dat d => some d
  | .bor j => match g[j]? with
    | some (.own c _ _) => some c.d
    | some (.frz d) => some d
    | some (.rws ls) => some (.lst (ls.map D.lst))
    | _ => none
section
variable {C : Ct} {Hs : Hp} {A : List Addr} {g : List Sl} {σ : L2.St} {H : Hp}
theorem Ok.rd (ok : Ok C Hs A g σ H) {v : V} {r : R} {d : D} (h : RelR C.K Hs A v r) (e : Z.rd g r = some d) : Dz C.K H v d := by
  cases r with
  | dat d' =>
    have e' : d' = d := Option.some.inj e
    subst e'
    exact Dz.mono ok.same (show Dz C.K Hs v d' from h)
  | bor j =>
    obtain ⟨a, h1, rfl⟩ := (show ∃ a, A[j]? = some a ∧ v = .ref a from h)
    have e : (match g[j]? with
      | some (.own c _ _) => some c.d
      | some (.frz d) => some d
      | _ => none) = some d := e
    split at e
    · rename_i c p l hg
      obtain ⟨a', o, ha, _, _, ho, hc, _⟩ := ok.own j c p l hg
      rw [h1] at ha
      have e1 : a = a' := Option.some.inj ha
      subst e1
      have e2 : c.d = d := Option.some.inj e
      subst e2
      exact (hc.mono ok.same).dz ho
    · rename_i d' hg
      obtain ⟨a', ha, _, hd⟩ := ok.frz j d' hg
      rw [h1] at ha
      have e1 : a = a' := Option.some.inj ha
      subst e1
      have e2 : d' = d := Option.some.inj e
      subst e2
      exact hd.mono ok.same
    · cases e
theorem Ok.rdX (ok : Ok C Hs A g σ H) {v : V} {r : R} {d : D} (h : RelR C.K Hs A v r) (e : Z.rdX g r = some d) : Dz C.K H v d := by
  cases r with
  | dat d' => exact ok.rd h e
  | bor j =>
    have e0 : (match g[j]? with
      | some (.own c _ _) => some c.d
      | some (.frz d) => some d
      | some (.rws ls) => some (.lst (ls.map D.lst))
      | _ => none) = some d := e
    split at e0
    · rename_i c p l hg
      exact ok.rd h (by show (match g[j]? with | some (.own c _ _) => some c.d | some (.frz d) => some d | _ => none) = some d; rw [hg]; exact e0)
    · rename_i d' hg
      exact ok.rd h (by show (match g[j]? with | some (.own c _ _) => some c.d | some (.frz d) => some d | _ => none) = some d; rw [hg]; exact e0)
    · rename_i ls hg
      obtain ⟨a, h1, rfl⟩ := (show ∃ a, A[j]? = some a ∧ v = .ref a from h)
      obtain ⟨a', ks, ha, _, hk, _⟩ := ok.rws j ls hg
      rw [h1] at ha
      have e1 : a = a' := Option.some.inj ha
      subst e1
      have e2 : D.lst (ls.map D.lst) = d := Option.some.inj e0
      subst e2
      exact .lst (SqL.of hk.hd) (hk.kd.dz ok.same)
    · cases e0
theorem Ok.fresh0 (ok : Ok C Hs A g σ H) {a : Addr} (h : H a = none) : Hs a = none ∧ C.H0 a = none := by
  constructor
  · cases q : Hs a with
    | none => rfl
    | some o => rw [ok.same a o q] at h; cases h
  · cases q : C.H0 a with
    | none => rfl
    | some o =>
      have : H a = some o := by
        refine ok.keep a o q fun p hp e => ?_
        obtain ⟨c, l, h1, h2⟩ := ok.pinned p hp
        obtain ⟨a', o', ha, _, _, ho, _⟩ := ok.own _ _ _ _ h1
        rw [h2] at ha
        have e1 : p.2 = a' := Option.some.inj ha
        rw [← e1, e] at ho
        rw [ho] at h; cases h
      rw [this] at h; cases h
/-- a new container, held aside -/
theorem Ok.tmp (ok : Ok C Hs A g σ H) {a : Addr} {o : HO} {c : Cn} (h : H a = none) (hc : CnOk C.K Hs c o) : Ok C Hs (A ++ [a]) (g ++ [.own c false false]) σ (upd H a o) := by
  obtain ⟨f1, f2⟩ := ok.fresh0 h
  have old : ∀ (i : Nat) (s : Sl), (g ++ [Sl.own c false false])[i]? = some s → g[i]? = some s ∨ (i = g.length ∧ s = .own c false false) := fun i s e => by
    by_cases hi : i < g.length
    · rw [List.getElem?_append_left hi] at e; exact .inl e
    · rw [List.getElem?_append_right (by omega)] at e
      have : i - g.length = 0 := by
        have := (List.getElem?_eq_some_iff.mp e).1
        simp at this; omega
      rw [this] at e
      exact .inr ⟨by omega, (Option.some.inj e).symm⟩
  have neA : ∀ (i : Nat) (c' : Cn) (p l : Bool) (a' : Addr), g[i]? = some (.own c' p l) → A[i]? = some a' → a' ≠ a := fun i c' p l a' e ha z => by
    obtain ⟨a2, o2, ha2, _, _, ho, _⟩ := ok.own i c' p l e
    rw [ha] at ha2
    have := Option.some.inj ha2
    rw [← this, z, h] at ho; cases ho
  have pre := Pre.app A [a]
  have last : (A ++ [a])[g.length]? = some a := by rw [← ok.la]; simp
  have alt : ∀ (i : Nat), i < g.length → (A ++ [a])[i]? = A[i]? := fun i hi => List.getElem?_append_left (by rw [ok.la]; exact hi)
  refine ⟨ok.ln, by rw [List.length_append]; have := ok.lg; omega, by simp [ok.la], ok.base, fun b o' e => ?_, fun i d e => ?_, fun i d e => ?_, fun i c' p l e => ?_, fun i j c1 p1 l1 c2 p2 l2 a' e1 e2 h1 h2 => ?_, ok.grow, fun b o' e k => ?_, fun q hq => ?_, fun i c' l a' e ha => ?_, fun q hq => ?_, ?_⟩
  · rw [upd_ne (fun z => by rw [z, f1] at e; cases e)]
    exact ok.same b o' e
  · rcases old i _ e with e | ⟨_, e⟩
    · exact ok.dat i d e
    · cases e
  · rcases old i _ e with e | ⟨_, e⟩
    · obtain ⟨a', q1, q2, q3⟩ := ok.frz i d e
      exact ⟨a', pre _ _ q1, q2, q3⟩
    · cases e
  · rcases old i _ e with e | ⟨ei, e⟩
    · obtain ⟨a', o', q1, q2, q3, q4, q5, q6⟩ := ok.own i c' p l e
      exact ⟨a', o', pre _ _ q1, q2, q3, by rw [upd_ne (neA _ _ _ _ _ e q1)]; exact q4, q5, q6⟩
    · cases e
      subst ei
      exact ⟨a, o, last, fun hi => absurd hi (by have := ok.lg; omega), f1, upd_same, hc, fun _ => f2⟩
  · rcases old i _ e1 with e1 | ⟨ei, e1⟩ <;> rcases old j _ e2 with e2 | ⟨ej, e2⟩
    · have hi := (List.getElem?_eq_some_iff.mp e1).1
      have hj := (List.getElem?_eq_some_iff.mp e2).1
      rw [alt i hi] at h1
      rw [alt j hj] at h2
      exact ok.inj i j _ _ _ _ _ _ a' e1 e2 h1 h2
    · have hi := (List.getElem?_eq_some_iff.mp e1).1
      rw [alt i hi] at h1
      subst ej
      rw [last] at h2
      exact absurd (Option.some.inj h2).symm (neA _ _ _ _ _ e1 h1)
    · have hj := (List.getElem?_eq_some_iff.mp e2).1
      rw [alt j hj] at h2
      subst ei
      rw [last] at h1
      exact absurd (Option.some.inj h1).symm (neA _ _ _ _ _ e2 h2)
    · omega
  · rw [upd_ne (fun z => by rw [z, f2] at e; cases e)]
    exact ok.keep b o' e k
  · obtain ⟨c', l, h1, h2⟩ := ok.pinned q hq
    have hi := (List.getElem?_eq_some_iff.mp h1).1
    exact ⟨c', l, by rw [List.getElem?_append_left hi]; exact h1, pre _ _ h2⟩
  · rcases old i _ e with e | ⟨ei, e⟩
    · have hi := (List.getElem?_eq_some_iff.mp e).1
      rw [alt i hi] at ha
      exact ok.pin1 i c' l a' e ha
    · cases e
  · obtain ⟨p, h1, h2⟩ := ok.locked q hq
    have hi := (List.getElem?_eq_some_iff.mp h1).1
    exact ⟨p, by rw [List.getElem?_append_left hi]; exact h1, pre _ _ h2⟩
  · refine RwOk.step ok.rws rfl rfl (Same.refl _) (fun x u ex n1 n2 _ => ⟨by rw [upd_ne (fun z => by rw [z, h] at ex; cases ex)]; exact ex, n1, n2⟩) (fun i ls e => ?_) (fun i c' p l b e hb => ?_)
    · rcases old i _ e with e | ⟨_, e⟩
      · exact ⟨e, alt i (List.getElem?_eq_some_iff.mp e).1, fun _ => rfl⟩
      · cases e
    · rcases old i _ e with e | ⟨ei, e⟩
      · rw [alt i (List.getElem?_eq_some_iff.mp e).1] at hb
        exact .inl ⟨i, c', p, l, e, hb⟩
      · subst ei
        rw [last] at hb
        cases hb
        exact .inr h
/-- a new object that is data from now on -/
theorem Ok.lay (ok : Ok C Hs A g σ H) {a : Addr} {o : HO} (h : H a = none) : Ok C (upd Hs a o) A g σ (upd H a o) ∧ Same Hs (upd Hs a o) := by
  obtain ⟨f1, f2⟩ := ok.fresh0 h
  have sm : Same Hs (upd Hs a o) := fun b o' e => by
    rw [upd_ne (fun z => by rw [z, f1] at e; cases e)]
    exact e
  refine ⟨⟨ok.ln, ok.lg, ok.la, ok.base.trans sm, fun b o' e => ?_, fun i d e => ?_, fun i d e => ?_, fun i c' p l e => ?_, ok.inj, fun b o' e => ?_, fun b o' e k => ?_, ok.pinned, ok.pin1, ok.locked, ?_⟩, sm⟩
  · by_cases z : b = a
    · subst z
      rw [upd_same] at e ⊢
      exact e
    · rw [upd_ne z] at e ⊢
      exact ok.same b o' e
  · obtain ⟨v, q1, q2⟩ := ok.dat i d e
    exact ⟨v, q1, q2.mono sm⟩
  · obtain ⟨v, q1, q2, q3⟩ := ok.frz i d e
    exact ⟨v, q1, q2, q3.mono sm⟩
  · obtain ⟨a', o', q1, q2, q3, q4, q5, q6⟩ := ok.own i c' p l e
    have ne : a' ≠ a := fun z => by rw [z, h] at q4; cases q4
    exact ⟨a', o', q1, q2, by rw [upd_ne ne]; exact q3, by rw [upd_ne ne]; exact q4, q5.mono sm, q6⟩
  · by_cases z : b = a
    · subst z; exact .inr f2
    · rw [upd_ne z] at e; exact ok.grow b o' e
  · rw [upd_ne (fun z => by rw [z, f2] at e; cases e)]
    exact ok.keep b o' e k
  · refine RwOk.step ok.rws rfl rfl sm (fun x u ex n1 n2 _ => ?_) (fun i ls e => ⟨e, rfl, fun _ => rfl⟩) (fun i c' p l b e hb => .inl ⟨i, c', p, l, e, hb⟩)
    have ne : x ≠ a := fun z => by rw [z, h] at ex; cases ex
    exact ⟨by rw [upd_ne ne]; exact ex, by rw [upd_ne ne]; exact n1, n2⟩
/-- the heap grew by things that nobody knows -/
theorem Ok.more (ok : Ok C Hs A g σ H) {H' : Hp} (s : Same H H') : Ok C Hs A g σ H' :=
  ⟨ok.ln, ok.lg, ok.la, ok.base, ok.same.trans s, ok.dat, ok.frz, fun i c p l e => by
    obtain ⟨a, o, q1, q2, q3, q4, q5, q6⟩ := ok.own i c p l e
    exact ⟨a, o, q1, q2, q3, s _ _ q4, q5, q6⟩, ok.inj, ok.grow, fun b o e k => s _ _ (ok.keep b o e k), ok.pinned, ok.pin1, ok.locked,
    RwOk.step ok.rws rfl rfl (Same.refl _) (fun x u ex n1 n2 _ => ⟨s _ _ ex, n1, n2⟩) (fun i ls e => ⟨e, rfl, fun _ => rfl⟩) (fun i c' p l b e hb => .inl ⟨i, c', p, l, e, hb⟩)⟩
/-- .. and by known things -/
theorem Ok.moreS (ok : Ok C Hs A g σ H) {Hs' H' : Hp} (s : Same H H') (s1 : Same Hs Hs') (s2 : Same Hs' H') (gr : ∀ b o, Hs' b = some o → Hs b = some o ∨ H b = none) : Ok C Hs' A g σ H' := by
  refine ⟨ok.ln, ok.lg, ok.la, ok.base.trans s1, s2, fun i d e => ?_, fun i d e => ?_, fun i c p l e => ?_, ok.inj, fun b o e => ?_, fun b o e k => s _ _ (ok.keep b o e k), ok.pinned, ok.pin1, ok.locked, ?_⟩
  · obtain ⟨v, q1, q2⟩ := ok.dat i d e
    exact ⟨v, q1, q2.mono s1⟩
  · obtain ⟨v, q1, q2, q3⟩ := ok.frz i d e
    exact ⟨v, q1, q2, q3.mono s1⟩
  · obtain ⟨a, o, q1, q2, q3, q4, q5, q6⟩ := ok.own i c p l e
    refine ⟨a, o, q1, q2, ?_, s _ _ q4, q5.mono s1, q6⟩
    cases z : Hs' a with
    | none => rfl
    | some o' =>
      rcases gr a o' z with w | w
      · rw [q3] at w; cases w
      · rw [q4] at w; cases w
  · rcases gr b o e with w | w
    · exact ok.grow b o w
    · exact .inr (ok.fresh0 w).2
  · refine RwOk.step ok.rws rfl rfl s1 (fun x u ex n1 n2 _ => ⟨s _ _ ex, ?_, n2⟩) (fun i ls e => ⟨e, rfl, fun _ => rfl⟩) (fun i c' p l b e hb => .inl ⟨i, c', p, l, e, hb⟩)
    cases z : Hs' x with
    | none => rfl
    | some o' =>
      rcases gr x o' z with w | w
      · rw [n1] at w; cases w
      · rw [ex] at w; cases w
end
/-- the container at slot j becomes data -/
def frzAt (j : Nat) (g : List Sl) : Option (D × List Sl) := match g[j]? with
  | some (.own c false false) => some (c.d, g.set j (.frz c.d))
  | some (.frz d) => some (d, g)
  | some (.rws ls) => some (.lst (ls.map D.lst), g.set j (.frz (.lst (ls.map D.lst))))
  | _ => none
def frzR (r : R) (g : List Sl) : Option (D × List Sl) := match r with
  | .dat d => some (d, g)
  | .bor j => frzAt j g
section
variable {C : Ct} {Hs : Hp} {A : List Addr} {g g' : List Sl} {σ : L2.St} {H : Hp} {j : Nat} {d : D} {v : V} {r : R}
/-- slots are changed one by one: a helper -/
theorem set_some {α : Type} {g : List α} {i j : Nat} {s t : α} (e : (g.set j t)[i]? = some s) : (i = j ∧ s = t ∧ j < g.length) ∨ (i ≠ j ∧ g[i]? = some s) := by
  by_cases h : i = j
  · subst h
    by_cases hl : i < g.length
    · rw [List.getElem?_set_self hl] at e
      exact .inl ⟨rfl, (Option.some.inj e).symm, hl⟩
    · have := (List.getElem?_eq_some_iff.mp e).1
      rw [List.length_set] at this
      exact absurd this hl
  · rw [List.getElem?_set_ne (Ne.symm h)] at e
    exact .inr ⟨h, e⟩
theorem Ok.frzAt (ok : Ok C Hs A g σ H) (e : frzAt j g = some (d, g')) : ∃ Hs' a, Same Hs Hs' ∧ Ok C Hs' A g' σ H ∧ A[j]? = some a ∧ Dz C.K Hs' (.ref a) d := by
  unfold Z.frzAt at e
  split at e
  · rename_i c hg
    cases e
    obtain ⟨a, o, q1, q2, q3, q4, q5, q6⟩ := ok.own j c _ _ hg
    have sm : Same Hs (upd Hs a o) := fun b o' e => by
      rw [upd_ne (fun z => by rw [z, q3] at e; cases e)]
      exact e
    have dz : Dz C.K (upd Hs a o) (.ref a) c.d := (q5.mono sm).dz upd_same
    refine ⟨upd Hs a o, a, sm, ⟨ok.ln, by rw [List.length_set]; exact ok.lg, by rw [List.length_set]; exact ok.la, ok.base.trans sm, fun b o' e => ?_, fun i d e => ?_, fun i d e => ?_, fun i c' p l e => ?_, fun i k c1 p1 l1 c2 p2 l2 a' e1 e2 h1 h2 => ?_, fun b o' e => ?_, ok.keep, fun q hq => ?_, fun i c' l a' e ha => ?_, fun q hq => ?_, ?_⟩, q1, dz⟩
    · by_cases z : b = a
      · subst z
        rw [upd_same] at e; cases e; exact q4
      · rw [upd_ne z] at e
        exact ok.same b o' e
    · rcases set_some e with ⟨_, e, _⟩ | ⟨_, e⟩
      · cases e
      · obtain ⟨v, w1, w2⟩ := ok.dat i d e
        exact ⟨v, w1, w2.mono sm⟩
    · rcases set_some e with ⟨ei, e, _⟩ | ⟨_, e⟩
      · cases e
        subst ei
        exact ⟨a, q1, q2, dz⟩
      · obtain ⟨v, w1, w2, w3⟩ := ok.frz i d e
        exact ⟨v, w1, w2, w3.mono sm⟩
    · rcases set_some e with ⟨_, e, _⟩ | ⟨ne, e⟩
      · cases e
      · obtain ⟨a', o', w1, w2, w3, w4, w5, w6⟩ := ok.own i c' p l e
        have na : a' ≠ a := fun z => by
          subst z
          exact ne (ok.inj i j _ _ _ _ _ _ a' e hg w1 q1)
        exact ⟨a', o', w1, w2, by rw [upd_ne na]; exact w3, w4, w5.mono sm, w6⟩
    · rcases set_some e1 with ⟨_, e1, _⟩ | ⟨_, e1⟩
      · cases e1
      · rcases set_some e2 with ⟨_, e2, _⟩ | ⟨_, e2⟩
        · cases e2
        · exact ok.inj i k _ _ _ _ _ _ a' e1 e2 h1 h2
    · by_cases z : b = a
      · subst z; exact .inr (q6 rfl)
      · rw [upd_ne z] at e; exact ok.grow b o' e
    · obtain ⟨c', l, h1, h2⟩ := ok.pinned q hq
      refine ⟨c', l, ?_, h2⟩
      rw [List.getElem?_set_ne]
      · exact h1
      · intro z
        subst z
        rw [hg] at h1; cases h1
    · rcases set_some e with ⟨_, e, _⟩ | ⟨_, e⟩
      · cases e
      · exact ok.pin1 i c' l a' e ha
    · obtain ⟨p, h1, h2⟩ := ok.locked q hq
      refine ⟨p, ?_, h2⟩
      rw [List.getElem?_set_ne]
      · exact h1
      · intro z
        subst z
        rw [hg] at h1; cases h1
    · refine RwOk.step ok.rws rfl rfl sm (fun x u ex n1 n2 no => ⟨ex, ?_, n2⟩) (fun i ls e => ?_) (fun i c' p l b e hb => ?_)
      · rw [upd_ne (fun z => no j c _ _ hg (by rw [z]; exact q1))]; exact n1
      · rcases set_some e with ⟨_, e, _⟩ | ⟨_, e⟩
        · cases e
        · exact ⟨e, rfl, fun _ => rfl⟩
      · rcases set_some e with ⟨_, e, _⟩ | ⟨_, e⟩
        · cases e
        · exact .inl ⟨i, c', p, l, e, hb⟩
  · rename_i d' hg
    cases e
    obtain ⟨a, q1, q2, q3⟩ := ok.frz j d hg
    exact ⟨Hs, a, Same.refl _, ok, q1, q3⟩
  · rename_i ls hg
    cases e
    obtain ⟨a, ks, q1, q2, q3, q4, q5⟩ := ok.rws j ls hg
    have dec : ∀ x, Decidable (x ∈ a :: ks) := fun x => inferInstance
    have hin : ∀ x, x ∈ a :: ks → (fun b => if b ∈ a :: ks then H b else Hs b : Hp) x = H x := fun x m => if_pos m
    have hout : ∀ x, x ∉ a :: ks → (fun b => if b ∈ a :: ks then H b else Hs b : Hp) x = Hs x := fun x m => if_neg m
    generalize (fun b => if b ∈ a :: ks then H b else Hs b : Hp) = Hn at hin hout
    have sm : Same Hs Hn := fun b o' e => by
      by_cases m : b ∈ a :: ks
      · rw [(q3.fr b m).1] at e; cases e
      · rw [hout b m]; exact e
    have sn : Same Hn H := fun b o' e => by
      by_cases m : b ∈ a :: ks
      · rw [hin b m] at e; exact e
      · rw [hout b m] at e; exact ok.same b o' e
    have dz : Dz C.K Hn (.ref a) (.lst (ls.map D.lst)) := by
      refine .lst (SqL.of ((hin a List.mem_cons_self).trans q3.hd)) ?_
      have k2 : KdOk C.K Hn Hn ks ls := q3.kd.move sm fun x m o h => (hin x (List.mem_cons_of_mem _ m)).trans h
      exact k2.dz (Same.refl _)
    refine ⟨Hn, a, sm, ⟨ok.ln, by rw [List.length_set]; exact ok.lg, by rw [List.length_set]; exact ok.la, ok.base.trans sm, sn, fun i d e => ?_, fun i d e => ?_, fun i c' p l e => ?_, fun i k c1 p1 l1 c2 p2 l2 a' e1 e2 h1 h2 => ?_, fun b o' e => ?_, ok.keep, fun q hq => ?_, fun i c' l a' e ha => ?_, fun q hq => ?_, fun i ms e => ?_⟩, q1, dz⟩
    · rcases set_some e with ⟨_, e, _⟩ | ⟨_, e⟩
      · cases e
      · obtain ⟨v, w1, w2⟩ := ok.dat i d e
        exact ⟨v, w1, w2.mono sm⟩
    · rcases set_some e with ⟨ei, e, _⟩ | ⟨_, e⟩
      · cases e
        subst ei
        exact ⟨a, q1, q2, dz⟩
      · obtain ⟨v, w1, w2, w3⟩ := ok.frz i d e
        exact ⟨v, w1, w2, w3.mono sm⟩
    · rcases set_some e with ⟨_, e, _⟩ | ⟨ne, e⟩
      · cases e
      · obtain ⟨a', o', w1, w2, w3, w4, w5, w6⟩ := ok.own i c' p l e
        exact ⟨a', o', w1, w2, by rw [hout a' (q4 i c' p l a' e w1)]; exact w3, w4, w5.mono sm, w6⟩
    · rcases set_some e1 with ⟨_, e1, _⟩ | ⟨_, e1⟩
      · cases e1
      · rcases set_some e2 with ⟨_, e2, _⟩ | ⟨_, e2⟩
        · cases e2
        · exact ok.inj i k _ _ _ _ _ _ a' e1 e2 h1 h2
    · by_cases m : b ∈ a :: ks
      · exact .inr (q3.fr b m).2
      · rw [hout b m] at e; exact ok.grow b o' e
    · obtain ⟨c', l, h1, h2⟩ := ok.pinned q hq
      refine ⟨c', l, ?_, h2⟩
      rw [List.getElem?_set_ne]
      · exact h1
      · intro z
        subst z
        rw [hg] at h1; cases h1
    · rcases set_some e with ⟨_, e, _⟩ | ⟨_, e⟩
      · cases e
      · exact ok.pin1 i c' l a' e ha
    · obtain ⟨p, h1, h2⟩ := ok.locked q hq
      refine ⟨p, ?_, h2⟩
      rw [List.getElem?_set_ne]
      · exact h1
      · intro z
        subst z
        rw [hg] at h1; cases h1
    · rcases set_some e with ⟨_, e, _⟩ | ⟨ne, e⟩
      · cases e
      · obtain ⟨b, bs, r1, r2, r3, r4, r5⟩ := ok.rws i ms e
        refine ⟨b, bs, r1, r2, ⟨r3.hd, r3.nd, fun x m => ⟨?_, (r3.fr x m).2⟩, r3.kd.move sm fun _ _ _ h => h⟩, fun k c p l y ek => ?_, fun k ns y x ek => ?_⟩
        · rw [hout x (fun z => ne (q5 i ms b x e r1 (by rw [r3.hd, kidsOf_refs]; exact m) z))]
          exact (r3.fr x m).1
        · rcases set_some ek with ⟨_, ek, _⟩ | ⟨_, ek⟩
          · cases ek
          · exact r4 k c p l y ek
        · rcases set_some ek with ⟨_, ek, _⟩ | ⟨_, ek⟩
          · cases ek
          · exact r5 k ns y x ek
  · cases e
theorem Ok.frzR (ok : Ok C Hs A g σ H) (h : RelR C.K Hs A v r) (e : frzR r g = some (d, g')) : ∃ Hs', Same Hs Hs' ∧ Ok C Hs' A g' σ H ∧ Dz C.K Hs' v d := by
  cases r with
  | dat d' =>
    have e' : some (d', g) = some (d, g') := e
    cases e'
    exact ⟨Hs, Same.refl _, ok, h⟩
  | bor j =>
    obtain ⟨a, h1, rfl⟩ := (show ∃ a, A[j]? = some a ∧ v = .ref a from h)
    obtain ⟨Hs', a', s, ok', h2, dz⟩ := ok.frzAt e
    rw [h1] at h2
    have e1 : a = a' := Option.some.inj h2
    subst e1
    exact ⟨Hs', s, ok', dz⟩
/-- the slot j may be overwritten -/
def freeAt (j : Nat) (g : List Sl) : Bool := match g[j]? with
  | some (.own _ true _) => false
  | some (.own _ _ true) => false
  | some _ => true
  | none => false
def setDat (i : Nat) (d : D) (g : List Sl) : Option (List Sl) := if freeAt i g = true then some (g.set i (.dat d)) else none
theorem freeAt_lt (e : freeAt j g = true) : j < g.length := by
  unfold freeAt at e
  by_cases h : j < g.length
  · exact h
  · rw [List.getElem?_eq_none_iff.mpr (by omega)] at e
    cases e
theorem freeAt_pin (e : freeAt j g = true) {c : Cn} {l : Bool} (h : g[j]? = some (.own c true l)) : False := by
  unfold freeAt at e
  rw [h] at e
  cases e
theorem freeAt_lock (e : freeAt j g = true) {c : Cn} {p : Bool} (h : g[j]? = some (.own c p true)) : False := by
  unfold freeAt at e
  rw [h] at e
  cases p <;> cases e
/-- a slot forgotten, or filled with data; σ may change there -/
theorem Ok.put (ok : Ok C Hs A g σ H) {s : Sl} {σ' : L2.St} (hf : freeAt j g = true) (hl : σ'.length = σ.length) (hσ : ∀ (i : Nat), i ≠ j → σ'[i]? = σ[i]?) (hs : s = .un ∨ ∃ d v, s = .dat d ∧ σ'[j]? = some (some v) ∧ Dz C.K Hs v d) : Ok C Hs A (g.set j s) σ' H := by
  have no : ∀ {i : Nat} {c : Cn} {p l : Bool}, (g.set j s)[i]? = some (.own c p l) → i ≠ j ∧ g[i]? = some (.own c p l) := fun {i c p l} e => by
    rcases set_some e with ⟨_, e, _⟩ | ⟨ne, e⟩
    · rcases hs with z | ⟨_, _, z, _⟩ <;> rw [z] at e <;> cases e
    · exact ⟨ne, e⟩
  refine ⟨hl.trans ok.ln, by rw [List.length_set]; exact ok.lg, by rw [List.length_set]; exact ok.la, ok.base, ok.same, fun i d e => ?_, fun i d e => ?_, fun i c' p l e => ?_, fun i k c1 p1 l1 c2 p2 l2 a' e1 e2 h1 h2 => ok.inj i k _ _ _ _ _ _ a' (no e1).2 (no e2).2 h1 h2, ok.grow, ok.keep, fun q hq => ?_, fun i c' l a' e ha => ok.pin1 i c' l a' (no e).2 ha, fun q hq => ?_, ?_⟩
  · rcases set_some e with ⟨ei, e3, _⟩ | ⟨ne, e3⟩
    · subst ei
      rcases hs with z | ⟨d', v, z, w1, w2⟩
      · rw [z] at e3; cases e3
      · rw [z] at e3; cases e3; exact ⟨v, w1, w2⟩
    · rw [hσ i ne]; exact ok.dat i d e3
  · rcases set_some e with ⟨ei, e3, _⟩ | ⟨ne, e3⟩
    · rcases hs with z | ⟨d', v, z, w1, w2⟩ <;> rw [z] at e3 <;> cases e3
    · rw [hσ i ne]; exact ok.frz i d e3
  · obtain ⟨ne, e⟩ := no e
    rw [hσ i ne]; exact ok.own i c' p l e
  · obtain ⟨c', l, h1, h2⟩ := ok.pinned q hq
    refine ⟨c', l, ?_, h2⟩
    rw [List.getElem?_set_ne]
    · exact h1
    · intro z
      subst z
      exact freeAt_pin hf h1
  · obtain ⟨p, h1, h2⟩ := ok.locked q hq
    refine ⟨p, ?_, h2⟩
    rw [List.getElem?_set_ne]
    · exact h1
    · intro z
      subst z
      exact freeAt_lock hf h1
  · refine RwOk.step ok.rws rfl rfl (Same.refl _) (fun x u ex n1 n2 _ => ⟨ex, n1, n2⟩) (fun i ls e => ?_) (fun i c' p l b e hb => .inl ⟨i, c', p, l, (no e).2, hb⟩)
    rcases set_some e with ⟨_, e, _⟩ | ⟨ne, e⟩
    · rcases hs with z | ⟨_, _, z, _⟩ <;> rw [z] at e <;> cases e
    · exact ⟨e, rfl, fun _ => hσ i ne⟩
theorem Ok.set (ok : Ok C Hs A g σ H) (e : setDat j d g = some g') (hj : j < C.n) (h : Dz C.K Hs v d) : Ok C Hs A g' (σ.set j (some v)) H := by
  unfold setDat at e
  split at e
  · rename_i hf
    cases e
    refine ok.put hf (by rw [List.length_set]) (fun i ne => List.getElem?_set_ne (Ne.symm ne)) (.inr ⟨d, v, rfl, ?_, h⟩)
    exact List.getElem?_set_self (by rw [ok.ln]; exact hj)
  · cases e
/-- a container held aside becomes the slot's own -/
theorem Ok.move (ok : Ok C Hs A g σ H) {t : Nat} {c : Cn} {a : Addr} (hf : freeAt j g = true) (hj : j < C.n) (ht : C.n ≤ t) (e : g[t]? = some (.own c false false)) (ha : A[t]? = some a) :
    Ok C Hs (A.set j a) ((g.set j (.own c false false)).set t .un) (σ.set j (some (.ref a))) H := by
  have htl := (List.getElem?_eq_some_iff.mp e).1
  have hjl := freeAt_lt hf
  have jt : j ≠ t := by omega
  have oc : ∀ {i : Nat} {s : Sl}, ((g.set j (.own c false false)).set t .un)[i]? = some s → (i = t ∧ s = .un) ∨ (i = j ∧ s = .own c false false) ∨ (i ≠ t ∧ i ≠ j ∧ g[i]? = some s) := fun {i s} e => by
    rcases set_some e with ⟨ei, e, _⟩ | ⟨ne, e⟩
    · exact .inl ⟨ei, e⟩
    · rcases set_some e with ⟨ei, e, _⟩ | ⟨ne2, e⟩
      · exact .inr (.inl ⟨ei, e⟩)
      · exact .inr (.inr ⟨ne, ne2, e⟩)
  have A1 : (A.set j a)[j]? = some a := List.getElem?_set_self (by rw [ok.la]; exact hjl)
  have A2 : ∀ (i : Nat), i ≠ j → (A.set j a)[i]? = A[i]? := fun i ne => List.getElem?_set_ne (Ne.symm ne)
  have S2 : ∀ (i : Nat), i ≠ j → (σ.set j (some (V.ref a)))[i]? = σ[i]? := fun i ne => List.getElem?_set_ne (Ne.symm ne)
  obtain ⟨a0, o, q1, q2, q3, q4, q5, q6⟩ := ok.own t c _ _ e
  rw [ha] at q1
  have ea : a = a0 := Option.some.inj q1
  subst ea
  have neo : ∀ {i : Nat} {c' : Cn} {p l : Bool} {a' : Addr}, i ≠ t → g[i]? = some (.own c' p l) → A[i]? = some a' → a' ≠ a := fun {i c' p l a'} ne e' h z => by
    subst z
    exact ne (ok.inj i t _ _ _ _ _ _ a' e' e h ha)
  refine ⟨by rw [List.length_set]; exact ok.ln, by rw [List.length_set, List.length_set]; exact ok.lg, by rw [List.length_set, List.length_set, List.length_set]; exact ok.la, ok.base, ok.same, fun i d e => ?_, fun i d e => ?_, fun i c' p l e => ?_, fun i k c1 p1 l1 c2 p2 l2 a' e1' e2' h1 h2 => ?_, ok.grow, ok.keep, fun q hq => ?_, fun i c' l a' e ha => ?_, fun q hq => ?_, ?_⟩
  · rcases oc e with ⟨_, e⟩ | ⟨_, e⟩ | ⟨_, ne, e⟩
    · cases e
    · cases e
    · rw [S2 i ne]; exact ok.dat i d e
  · rcases oc e with ⟨_, e⟩ | ⟨_, e⟩ | ⟨_, ne, e⟩
    · cases e
    · cases e
    · rw [S2 i ne, A2 i ne]; exact ok.frz i d e
  · rcases oc e with ⟨_, e⟩ | ⟨ei, e⟩ | ⟨_, ne, e⟩
    · cases e
    · cases e
      subst ei
      exact ⟨a, o, A1, fun _ => List.getElem?_set_self (by rw [ok.ln]; exact hj), q3, q4, q5, fun _ => q6 rfl⟩
    · rw [S2 i ne, A2 i ne]; exact ok.own i c' p l e
  · rcases oc e1' with ⟨_, e1⟩ | ⟨ei, e1⟩ | ⟨nt, ne, e1⟩
    · cases e1
    · rcases oc e2' with ⟨_, e2⟩ | ⟨ek, e2⟩ | ⟨nt2, ne2, e2⟩
      · cases e2
      · omega
      · subst ei
        rw [A1] at h1
        rw [A2 k ne2] at h2
        exact absurd (Option.some.inj h1).symm (neo nt2 e2 h2)
    · rcases oc e2' with ⟨_, e2⟩ | ⟨ek, e2⟩ | ⟨nt2, ne2, e2⟩
      · cases e2
      · subst ek
        rw [A1] at h2
        rw [A2 i ne] at h1
        exact absurd (Option.some.inj h2).symm (neo nt e1 h1)
      · rw [A2 i ne] at h1
        rw [A2 k ne2] at h2
        exact ok.inj i k _ _ _ _ _ _ a' e1 e2 h1 h2
  · obtain ⟨c', l, h1, h2⟩ := ok.pinned q hq
    have n1 : q.1 ≠ j := fun z => by rw [z] at h1; exact freeAt_pin hf h1
    have n2 : q.1 ≠ t := fun z => by rw [z, e] at h1; cases h1
    refine ⟨c', l, ?_, by rw [A2 _ n1]; exact h2⟩
    rw [List.getElem?_set_ne (Ne.symm n2), List.getElem?_set_ne (Ne.symm n1)]
    exact h1
  · rcases oc e with ⟨_, e⟩ | ⟨ei, e⟩ | ⟨_, ne, e⟩
    · cases e
    · cases e
    · rw [A2 i ne] at ha
      exact ok.pin1 i c' l a' e ha
  · obtain ⟨p, h1, h2⟩ := ok.locked q hq
    have n1 : q.1 ≠ j := fun z => by rw [z] at h1; exact freeAt_lock hf h1
    have n2 : q.1 ≠ t := fun z => by rw [z, e] at h1; cases h1
    refine ⟨p, ?_, by rw [A2 _ n1]; exact h2⟩
    rw [List.getElem?_set_ne (Ne.symm n2), List.getElem?_set_ne (Ne.symm n1)]
    exact h1
  · refine RwOk.step ok.rws rfl rfl (Same.refl _) (fun x u ex n1 n2 _ => ⟨ex, n1, n2⟩) (fun i ls e => ?_) (fun i c' p l b e2 hb => ?_)
    · rcases oc e with ⟨_, e⟩ | ⟨_, e⟩ | ⟨_, ne, e⟩
      · cases e
      · cases e
      · exact ⟨e, A2 i ne, fun _ => S2 i ne⟩
    · rcases oc e2 with ⟨_, e2⟩ | ⟨ei, e2⟩ | ⟨_, ne, e2⟩
      · cases e2
      · subst ei
        rw [A1] at hb
        exact .inl ⟨t, _, _, _, e, ha.trans hb⟩
      · rw [A2 i ne] at hb
        exact .inl ⟨i, c', p, l, e2, hb⟩
/-- what was held aside is dropped -/
theorem Ok.cut (ok : Ok C Hs A g σ H) : Ok C Hs (A.take C.n) (g.take C.n) σ H := by
  have tk : ∀ {α : Type} {l : List α} {i : Nat} {s : α}, (l.take C.n)[i]? = some s → i < C.n ∧ l[i]? = some s := fun {α l i s} e => by
    by_cases h : i < C.n
    · rw [List.getElem?_take_of_lt h] at e; exact ⟨h, e⟩
    · have := (List.getElem?_eq_some_iff.mp e).1
      rw [List.length_take] at this; omega
  have kt : ∀ {α : Type} {l : List α} {i : Nat} {s : α}, i < C.n → l[i]? = some s → (l.take C.n)[i]? = some s := fun {α l i s} h e => by
    rw [List.getElem?_take_of_lt h]; exact e
  refine ⟨ok.ln, by rw [List.length_take]; have := ok.lg; omega, by rw [List.length_take, List.length_take, ok.la], ok.base, ok.same, fun i d e => ok.dat i d (tk e).2, fun i d e => ?_, fun i c' p l e => ?_, fun i k c1 p1 l1 c2 p2 l2 a' e1 e2 h1 h2 => ok.inj i k _ _ _ _ _ _ a' (tk e1).2 (tk e2).2 (tk h1).2 (tk h2).2, ok.grow, ok.keep, fun q hq => ?_, fun i c' l a' e ha => ok.pin1 i c' l a' (tk e).2 (tk ha).2, fun q hq => ?_, ?_⟩
  · obtain ⟨a, q1, q2⟩ := ok.frz i d (tk e).2
    exact ⟨a, kt (tk e).1 q1, q2⟩
  · obtain ⟨a, o, q1, q2⟩ := ok.own i c' p l (tk e).2
    exact ⟨a, o, kt (tk e).1 q1, q2⟩
  · obtain ⟨c', l, h1, h2⟩ := ok.pinned q hq
    exact ⟨c', l, kt (C.plt q hq) h1, kt (C.plt q hq) h2⟩
  · obtain ⟨p, h1, h2⟩ := ok.locked q hq
    exact ⟨p, kt (C.llt q hq) h1, kt (C.llt q hq) h2⟩
  · exact RwOk.step ok.rws rfl rfl (Same.refl _) (fun x u ex n1 n2 _ => ⟨ex, n1, n2⟩) (fun i ls e => ⟨(tk e).2, List.getElem?_take_of_lt (tk e).1, fun _ => rfl⟩) (fun i c' p l b e hb => .inl ⟨i, c', p, l, (tk e).2, (tk hb).2⟩)
/-- the container at j is written -/
theorem Ok.wr (ok : Ok C Hs A g σ H) {c c' : Cn} {p : Bool} {a : Addr} {o : HO} (e : g[j]? = some (.own c p false)) (ha : A[j]? = some a) (hc : CnOk C.K Hs c' o) : Ok C Hs A (g.set j (.own c' p false)) σ (upd H a o) := by
  obtain ⟨a0, o0, q1, q2, q3, q4, q5, q6⟩ := ok.own j c _ _ e
  rw [ha] at q1
  have ea : a = a0 := Option.some.inj q1
  subst ea
  have hj := (List.getElem?_eq_some_iff.mp e).1
  have oc : ∀ {i : Nat} {s : Sl}, (g.set j (.own c' p false))[i]? = some s → (i = j ∧ s = .own c' p false) ∨ (i ≠ j ∧ g[i]? = some s) := fun {i s} e => by
    rcases set_some e with ⟨ei, e, _⟩ | ⟨ne, e⟩
    · exact .inl ⟨ei, e⟩
    · exact .inr ⟨ne, e⟩
  have ow : ∀ {i : Nat} {c1 : Cn} {p1 l1 : Bool}, (g.set j (.own c' p false))[i]? = some (.own c1 p1 l1) → ∃ c2, g[i]? = some (.own c2 p1 l1) := fun {i c1 p1 l1} e' => by
    rcases oc e' with ⟨ei, e'⟩ | ⟨_, e'⟩
    · cases e'; subst ei; exact ⟨c, e⟩
    · exact ⟨c1, e'⟩
  refine ⟨ok.ln, by rw [List.length_set]; exact ok.lg, by rw [List.length_set]; exact ok.la, ok.base, fun b o' e => ?_, fun i d e => ?_, fun i d e => ?_, fun i c1 p1 l1 e1 => ?_, fun i k c1 p1 l1 c2 p2 l2 a' e1 e2 h1 h2 => ?_, ok.grow, fun b o' e2 k => ?_, fun q hq => ?_, fun i c1 l1 a' e1 ha' => ?_, fun q hq => ?_, ?_⟩
  · rw [upd_ne (fun z => by rw [z, q3] at e; cases e)]
    exact ok.same b o' e
  · rcases oc e with ⟨_, e⟩ | ⟨_, e⟩
    · cases e
    · exact ok.dat i d e
  · rcases oc e with ⟨_, e⟩ | ⟨_, e⟩
    · cases e
    · exact ok.frz i d e
  · rcases oc e1 with ⟨ei, e1⟩ | ⟨ne, e1⟩
    · cases e1
      subst ei
      exact ⟨a, o, ha, q2, q3, upd_same, hc, q6⟩
    · obtain ⟨a', o', w1, w2, w3, w4, w5, w6⟩ := ok.own i c1 p1 l1 e1
      have na : a' ≠ a := fun z => by
        subst z
        exact ne (ok.inj i j _ _ _ _ _ _ a' e1 e w1 ha)
      exact ⟨a', o', w1, w2, w3, by rw [upd_ne na]; exact w4, w5, w6⟩
  · obtain ⟨x, hx⟩ := ow e1
    obtain ⟨y, hy⟩ := ow e2
    exact ok.inj i k _ _ _ _ _ _ a' hx hy h1 h2
  · have nb : b ≠ a := fun z => by
      subst z
      cases p with
      | true => exact k _ (ok.pin1 j c false b e ha) rfl
      | false => rw [q6 rfl] at e2; cases e2
    rw [upd_ne nb]
    exact ok.keep b o' e2 k
  · obtain ⟨c1, l, h1, h2⟩ := ok.pinned q hq
    by_cases z : q.1 = j
    · rw [z, e] at h1
      cases h1
      exact ⟨c', false, by rw [z]; exact List.getElem?_set_self hj, h2⟩
    · exact ⟨c1, l, by rw [List.getElem?_set_ne (Ne.symm z)]; exact h1, h2⟩
  · rcases oc e1 with ⟨ei, e1⟩ | ⟨ne, e1⟩
    · cases e1
      subst ei
      exact ok.pin1 i c false a' e ha'
    · exact ok.pin1 i c1 l1 a' e1 ha'
  · obtain ⟨p', h1, h2⟩ := ok.locked q hq
    have n1 : q.1 ≠ j := fun z => by rw [z, e] at h1; cases h1
    exact ⟨p', by rw [List.getElem?_set_ne (Ne.symm n1)]; exact h1, h2⟩
  · refine RwOk.step ok.rws rfl rfl (Same.refl _) (fun x u ex n1 n2 no => ⟨by rw [upd_ne (fun z => no j c _ _ e (by rw [z]; exact ha))]; exact ex, n1, n2⟩) (fun i ls e => ?_) (fun i c1 p1 l1 b e1 hb => ?_)
    · rcases oc e with ⟨_, e⟩ | ⟨_, e⟩
      · cases e
      · exact ⟨e, rfl, fun _ => rfl⟩
    · obtain ⟨x, hx⟩ := ow e1
      exact .inl ⟨i, _, _, _, hx, hb⟩
/-- locked and unlocked: C' has other locks -/
theorem Ok.lk {C' : Ct} (ok : Ok C Hs A g σ H) {c : Cn} {p l l' : Bool} (e : g[j]? = some (.own c p l)) (hK : C'.K = C.K) (hn : C'.n = C.n) (h0 : C'.H0 = C.H0) (hs0 : C'.Hs0 = C.Hs0) (hp : C'.pins = C.pins)
    (hl : ∀ q ∈ C'.locks, (q.1 = j ∧ q.2.2 = c ∧ l' = true ∧ A[j]? = some q.2.1) ∨ (q.1 ≠ j ∧ q ∈ C.locks)) : Ok C' Hs A (g.set j (.own c p l')) σ H := by
  have hj := (List.getElem?_eq_some_iff.mp e).1
  have oc : ∀ {i : Nat} {s : Sl}, (g.set j (.own c p l'))[i]? = some s → (i = j ∧ s = .own c p l') ∨ (i ≠ j ∧ g[i]? = some s) := fun {i s} e => by
    rcases set_some e with ⟨ei, e, _⟩ | ⟨ne, e⟩
    · exact .inl ⟨ei, e⟩
    · exact .inr ⟨ne, e⟩
  have ow : ∀ {i : Nat} {c1 : Cn} {p1 l1 : Bool}, (g.set j (.own c p l'))[i]? = some (.own c1 p1 l1) → ∃ l2, g[i]? = some (.own c1 p1 l2) := fun {i c1 p1 l1} e' => by
    rcases oc e' with ⟨ei, e'⟩ | ⟨_, e'⟩
    · cases e'; subst ei; exact ⟨l, e⟩
    · exact ⟨l1, e'⟩
  refine ⟨by rw [hn]; exact ok.ln, by rw [List.length_set, hn]; exact ok.lg, by rw [List.length_set]; exact ok.la, by rw [hs0]; exact ok.base, ok.same, fun i d e => ?_, fun i d e => ?_, fun i c1 p1 l1 e1 => ?_, fun i k c1 p1 l1 c2 p2 l2 a' e1 e2 h1 h2 => ?_, by rw [hs0, h0]; exact ok.grow, by rw [h0, hp]; exact ok.keep, fun q hq => ?_, fun i c1 l1 a' e1 ha => ?_, fun q hq => ?_, ?_⟩
  · rcases oc e with ⟨_, e⟩ | ⟨_, e⟩
    · cases e
    · rw [hK]; exact ok.dat i d e
  · rcases oc e with ⟨_, e⟩ | ⟨_, e⟩
    · cases e
    · rw [hK, hn]; exact ok.frz i d e
  · obtain ⟨l2, h⟩ := ow e1
    rw [hK, hn, h0]
    exact ok.own i c1 p1 l2 h
  · obtain ⟨x, hx⟩ := ow e1
    obtain ⟨y, hy⟩ := ow e2
    exact ok.inj i k _ _ _ _ _ _ a' hx hy h1 h2
  · obtain ⟨c1, l1, h1, h2⟩ := ok.pinned q (by rw [← hp]; exact hq)
    by_cases z : q.1 = j
    · rw [z, e] at h1
      cases h1
      exact ⟨c, l', by rw [z]; exact List.getElem?_set_self hj, h2⟩
    · exact ⟨c1, l1, by rw [List.getElem?_set_ne (Ne.symm z)]; exact h1, h2⟩
  · obtain ⟨l2, h⟩ := ow e1
    rw [hp]
    exact ok.pin1 i c1 l2 a' h ha
  · rcases hl q hq with ⟨e1, e2, e3, e4⟩ | ⟨ne, hq⟩
    · exact ⟨p, by rw [e1, List.getElem?_set_self hj, e2, e3], by rw [e1]; exact e4⟩
    · obtain ⟨p', h1, h2⟩ := ok.locked q hq
      exact ⟨p', by rw [List.getElem?_set_ne (Ne.symm ne)]; exact h1, h2⟩
  · refine RwOk.step ok.rws hK hn (Same.refl _) (fun x u ex n1 n2 _ => ⟨ex, n1, by rw [h0]; exact n2⟩) (fun i ls e => ?_) (fun i c1 p1 l1 b e1 hb => ?_)
    · rcases oc e with ⟨_, e⟩ | ⟨_, e⟩
      · cases e
      · exact ⟨e, rfl, fun _ => rfl⟩
    · obtain ⟨l2, h⟩ := ow e1
      exact .inl ⟨i, _, _, _, h, hb⟩
theorem Kd.low {K : PySem.W.Frag} {Hs H0 H1 H : Hp} {a : Addr} {ks : List Addr} {ls : List (List D)} (k : Kd K Hs H1 H a ks ls) (h : ∀ x ∈ a :: ks, H0 x = none) : Kd K Hs H0 H a ks ls :=
  ⟨k.hd, k.nd, fun x m => ⟨(k.fr x m).1, h x m⟩, k.kd⟩
theorem Ok.deadO (ok : Ok C Hs A g σ H) {c : Cn} {p l : Bool} {b : Addr} (e1 : g[j]? = some (.own c p l)) (e2 : A[j]? = some b) (h : H b = none) : False := by
  obtain ⟨a', o, ha, _, _, ho, _⟩ := ok.own j c p l e1
  rw [e2] at ha
  cases ha
  rw [h] at ho; cases ho
theorem Ok.deadR (ok : Ok C Hs A g σ H) {ms : List (List D)} {b x : Addr} (e1 : g[j]? = some (.rws ms)) (e2 : A[j]? = some b) (m : x ∈ b :: kidsOf (H b)) (h : H x = none) : False := by
  obtain ⟨a', ks, ha, _, k, _⟩ := ok.rws j ms e1
  rw [e2] at ha
  cases ha
  rw [k.hd, kidsOf_refs] at m
  obtain ⟨o, ho⟩ := k.live x m
  rw [h] at ho; cases ho
/-- a list of lists of its own, held aside -/
theorem Ok.addR (ok : Ok C Hs A g σ H) {a : Addr} {ks : List Addr} {ls : List (List D)} (k0 : Kd C.K Hs C.H0 H a ks ls)
    (hno : ∀ (j : Nat) (c : Cn) (p l : Bool) (b : Addr), g[j]? = some (.own c p l) → A[j]? = some b → b ∉ a :: ks)
    (hnr : ∀ (j : Nat) (ms : List (List D)) (b x : Addr), g[j]? = some (.rws ms) → A[j]? = some b → x ∈ b :: kidsOf (H b) → x ∈ a :: ks → False) : Ok C Hs (A ++ [a]) (g ++ [.rws ls]) σ H := by
  have old : ∀ (i : Nat) (s : Sl), (g ++ [Sl.rws ls])[i]? = some s → (i < g.length ∧ g[i]? = some s) ∨ (i = g.length ∧ s = .rws ls) := fun i s e => by
    by_cases hi : i < g.length
    · rw [List.getElem?_append_left hi] at e; exact .inl ⟨hi, e⟩
    · rw [List.getElem?_append_right (by omega)] at e
      have : i - g.length = 0 := by
        have := (List.getElem?_eq_some_iff.mp e).1
        simp at this; omega
      rw [this] at e
      exact .inr ⟨by omega, (Option.some.inj e).symm⟩
  have pre := Pre.app A [a]
  have last : (A ++ [a])[g.length]? = some a := by rw [← ok.la]; simp
  have alt : ∀ {i : Nat}, i < g.length → (A ++ [a])[i]? = A[i]? := fun {i} hi => List.getElem?_append_left (by rw [ok.la]; exact hi)
  refine ⟨ok.ln, by rw [List.length_append]; have := ok.lg; omega, by simp [ok.la], ok.base, ok.same, fun i d e => ?_, fun i d e => ?_, fun i c' p l e => ?_, fun i j c1 p1 l1 c2 p2 l2 a' e1 e2 h1 h2 => ?_, ok.grow, ok.keep, fun q hq => ?_, fun i c' l a' e ha => ?_, fun q hq => ?_, fun i ms e => ?_⟩
  · rcases old i _ e with ⟨_, e⟩ | ⟨_, e⟩
    · exact ok.dat i d e
    · cases e
  · rcases old i _ e with ⟨_, e⟩ | ⟨_, e⟩
    · obtain ⟨a', q1, q2, q3⟩ := ok.frz i d e
      exact ⟨a', pre _ _ q1, q2, q3⟩
    · cases e
  · rcases old i _ e with ⟨_, e⟩ | ⟨_, e⟩
    · obtain ⟨a', o', q1, q2⟩ := ok.own i c' p l e
      exact ⟨a', o', pre _ _ q1, q2⟩
    · cases e
  · rcases old i _ e1 with ⟨hi, e1⟩ | ⟨_, e1⟩
    · rcases old j _ e2 with ⟨hj, e2⟩ | ⟨_, e2⟩
      · rw [alt hi] at h1
        rw [alt hj] at h2
        exact ok.inj i j _ _ _ _ _ _ a' e1 e2 h1 h2
      · cases e2
    · cases e1
  · obtain ⟨c', l, h1, h2⟩ := ok.pinned q hq
    have hi := (List.getElem?_eq_some_iff.mp h1).1
    exact ⟨c', l, by rw [List.getElem?_append_left hi]; exact h1, pre _ _ h2⟩
  · rcases old i _ e with ⟨hi, e⟩ | ⟨_, e⟩
    · rw [alt hi] at ha
      exact ok.pin1 i c' l a' e ha
    · cases e
  · obtain ⟨p, h1, h2⟩ := ok.locked q hq
    have hi := (List.getElem?_eq_some_iff.mp h1).1
    exact ⟨p, by rw [List.getElem?_append_left hi]; exact h1, pre _ _ h2⟩
  · rcases old i _ e with ⟨hi, e⟩ | ⟨ei, e⟩
    · obtain ⟨b, bs, r1, r2, r3, r4, r5⟩ := ok.rws i ms e
      refine ⟨b, bs, pre _ _ r1, r2, r3, fun k c p l y ek ay m => ?_, fun k ns y x ek ay m1 m2 => ?_⟩
      · rcases old k _ ek with ⟨hk, ek⟩ | ⟨_, ek⟩
        · rw [alt hk] at ay
          exact r4 k c p l y ek ay m
        · cases ek
      · rcases old k _ ek with ⟨hk, ek⟩ | ⟨ek', ek⟩
        · rw [alt hk] at ay
          exact r5 k ns y x ek ay m1 m2
        · subst ek'
          rw [last] at ay
          cases ay
          rw [k0.hd, kidsOf_refs] at m1
          exact (hnr i ms b x e r1 (by rw [r3.hd, kidsOf_refs]; exact m2) m1).elim
    · cases e
      subst ei
      refine ⟨a, ks, last, fun hi => absurd hi (by have := ok.lg; omega), k0, fun k c p l y ek ay m => ?_, fun k ns y x ek ay m1 m2 => ?_⟩
      · rcases old k _ ek with ⟨hk, ek⟩ | ⟨_, ek⟩
        · rw [alt hk] at ay
          exact hno k c p l y ek ay m
        · cases ek
      · rcases old k _ ek with ⟨hk, ek⟩ | ⟨ek', _⟩
        · rw [alt hk] at ay
          exact (hnr k ns y x ek ay m1 m2).elim
        · exact ek'
/-- .. becomes the slot's own -/
theorem Ok.moveR (ok : Ok C Hs A g σ H) {t : Nat} {ls : List (List D)} {a : Addr} (hf : freeAt j g = true) (hj : j < C.n) (ht : C.n ≤ t) (e0 : g[t]? = some (.rws ls)) (ha0 : A[t]? = some a) :
    Ok C Hs (A.set j a) ((g.set j (.rws ls)).set t .un) (σ.set j (some (.ref a))) H := by
  have htl := (List.getElem?_eq_some_iff.mp e0).1
  have hjl := freeAt_lt hf
  have jt : j ≠ t := by omega
  have oc : ∀ {i : Nat} {s : Sl}, ((g.set j (.rws ls)).set t .un)[i]? = some s → (i = t ∧ s = .un) ∨ (i = j ∧ s = .rws ls) ∨ (i ≠ t ∧ i ≠ j ∧ g[i]? = some s) := fun {i s} e => by
    rcases set_some e with ⟨ei, e, _⟩ | ⟨ne, e⟩
    · exact .inl ⟨ei, e⟩
    · rcases set_some e with ⟨ei, e, _⟩ | ⟨ne2, e⟩
      · exact .inr (.inl ⟨ei, e⟩)
      · exact .inr (.inr ⟨ne, ne2, e⟩)
  have A1 : (A.set j a)[j]? = some a := List.getElem?_set_self (by rw [ok.la]; exact hjl)
  have A2 : ∀ (i : Nat), i ≠ j → (A.set j a)[i]? = A[i]? := fun i ne => List.getElem?_set_ne (Ne.symm ne)
  have S2 : ∀ (i : Nat), i ≠ j → (σ.set j (some (V.ref a)))[i]? = σ[i]? := fun i ne => List.getElem?_set_ne (Ne.symm ne)
  obtain ⟨a0, ks, q1, q2, q3, q4, q5⟩ := ok.rws t ls e0
  rw [ha0] at q1
  have ea : a = a0 := Option.some.inj q1
  subst ea
  refine ⟨by rw [List.length_set]; exact ok.ln, by rw [List.length_set, List.length_set]; exact ok.lg, by rw [List.length_set, List.length_set, List.length_set]; exact ok.la, ok.base, ok.same, fun i d e => ?_, fun i d e => ?_, fun i c' p l e => ?_, fun i k c1 p1 l1 c2 p2 l2 a' e1' e2' h1 h2 => ?_, ok.grow, ok.keep, fun q hq => ?_, fun i c' l a' e ha => ?_, fun q hq => ?_, fun i ms e => ?_⟩
  · rcases oc e with ⟨_, e⟩ | ⟨_, e⟩ | ⟨_, ne, e⟩
    · cases e
    · cases e
    · rw [S2 i ne]; exact ok.dat i d e
  · rcases oc e with ⟨_, e⟩ | ⟨_, e⟩ | ⟨_, ne, e⟩
    · cases e
    · cases e
    · rw [S2 i ne, A2 i ne]; exact ok.frz i d e
  · rcases oc e with ⟨_, e⟩ | ⟨ei, e⟩ | ⟨_, ne, e⟩
    · cases e
    · cases e
    · rw [S2 i ne, A2 i ne]; exact ok.own i c' p l e
  · rcases oc e1' with ⟨_, e1⟩ | ⟨ei, e1⟩ | ⟨nt, ne, e1⟩
    · cases e1
    · cases e1
    · rcases oc e2' with ⟨_, e2⟩ | ⟨ek, e2⟩ | ⟨nt2, ne2, e2⟩
      · cases e2
      · cases e2
      · rw [A2 i ne] at h1
        rw [A2 k ne2] at h2
        exact ok.inj i k _ _ _ _ _ _ a' e1 e2 h1 h2
  · obtain ⟨c', l, h1, h2⟩ := ok.pinned q hq
    have n1 : q.1 ≠ j := fun z => by rw [z] at h1; exact freeAt_pin hf h1
    have n2 : q.1 ≠ t := fun z => by rw [z, e0] at h1; cases h1
    refine ⟨c', l, ?_, by rw [A2 _ n1]; exact h2⟩
    rw [List.getElem?_set_ne (Ne.symm n2), List.getElem?_set_ne (Ne.symm n1)]
    exact h1
  · rcases oc e with ⟨_, e⟩ | ⟨ei, e⟩ | ⟨_, ne, e⟩
    · cases e
    · cases e
    · rw [A2 i ne] at ha
      exact ok.pin1 i c' l a' e ha
  · obtain ⟨p, h1, h2⟩ := ok.locked q hq
    have n1 : q.1 ≠ j := fun z => by rw [z] at h1; exact freeAt_lock hf h1
    have n2 : q.1 ≠ t := fun z => by rw [z, e0] at h1; cases h1
    refine ⟨p, ?_, by rw [A2 _ n1]; exact h2⟩
    rw [List.getElem?_set_ne (Ne.symm n2), List.getElem?_set_ne (Ne.symm n1)]
    exact h1
  · rcases oc e with ⟨_, e⟩ | ⟨ei, e⟩ | ⟨nt, ne, e⟩
    · cases e
    · cases e
      subst ei
      refine ⟨a, ks, A1, fun _ => List.getElem?_set_self (by rw [ok.ln]; exact hj), q3, fun k c p l b ek ab => ?_, fun k ns b x ek ab m1 m2 => ?_⟩
      · rcases oc ek with ⟨_, ek⟩ | ⟨_, ek⟩ | ⟨_, nk, ek⟩
        · cases ek
        · cases ek
        · rw [A2 k nk] at ab
          exact q4 k c p l b ek ab
      · rcases oc ek with ⟨_, ek⟩ | ⟨ek', _⟩ | ⟨nt2, nk, ek⟩
        · cases ek
        · exact ek'
        · rw [A2 k nk] at ab
          exact absurd (q5 k ns b x ek ab m1 m2) nt2
    · obtain ⟨b, bs, r1, r2, r3, r4, r5⟩ := ok.rws i ms e
      refine ⟨b, bs, by rw [A2 i ne]; exact r1, by rw [S2 i ne]; exact r2, r3, fun k c p l y ek ay => ?_, fun k ns y x ek ay m1 m2 => ?_⟩
      · rcases oc ek with ⟨_, ek⟩ | ⟨_, ek⟩ | ⟨_, nk, ek⟩
        · cases ek
        · cases ek
        · rw [A2 k nk] at ay
          exact r4 k c p l y ek ay
      · rcases oc ek with ⟨_, ek⟩ | ⟨ek', ek⟩ | ⟨_, nk, ek⟩
        · cases ek
        · subst ek'
          rw [A1] at ay
          cases ay
          exact absurd (r5 t ls a x e0 ha0 m1 m2).symm nt
        · rw [A2 k nk] at ay
          exact r5 k ns y x ek ay m1 m2
end
end Z
set_option Elab.async false
set_option linter.all false
set_option maxRecDepth 100000
set_option maxHeartbeats 4000000
namespace Z
open PySem PySem.Spec PyProof.Rows L2
abbrev G := List Sl
abbrev ZM := G → Option (R × G)
abbrev ZT := G → Option (Bool × G)
abbrev ZAr := G → Option (List R × G)
def RelRs (K : PySem.W.Frag) (Hs : Hp) (A : List Addr) : List V → List R → Prop
  | [], [] => True
  | v :: vs, r :: rs => RelR K Hs A v r ∧ RelRs K Hs A vs rs
  | _, _ => False
theorem RelRs.mono {K : PySem.W.Frag} {Hs Hs' : Hp} {A A' : List Addr} (s : Same Hs Hs') (p : Pre A A') : ∀ {vs : List V} {rs : List R}, RelRs K Hs A vs rs → RelRs K Hs' A' vs rs
  | [], [], _ => trivial
  | _ :: _, _ :: _, h => ⟨h.1.mono s p, RelRs.mono s p h.2⟩
  | [], _ :: _, h => h.elim
  | _ :: _, [], h => h.elim
/-- readings by data: n the number of the def's names -/
def tZ (K : PySem.W.Frag) (n : Nat) (m : ZM) : TE := fun σ H Q => ∃ (C : Ct) (Hs : Hp) (A : List Addr) (g : G) (r : R) (g' : G), C.K = K ∧ C.n = n ∧ Ok C Hs A g σ H ∧ m g = some (r, g') ∧
  ∀ (Hs' : Hp) (A' : List Addr) (v : V) (H' : Hp), Same Hs Hs' → Pre A A' → Ok C Hs' A' g' σ H' → RelR C.K Hs' A' v r → Q v H'
def tZT (K : PySem.W.Frag) (n : Nat) (m : ZT) : TT := fun σ H Q => ∃ (C : Ct) (Hs : Hp) (A : List Addr) (g : G) (b : Bool) (g' : G), C.K = K ∧ C.n = n ∧ Ok C Hs A g σ H ∧ m g = some (b, g') ∧
  ∀ (Hs' : Hp) (A' : List Addr) (H' : Hp), Same Hs Hs' → Pre A A' → Ok C Hs' A' g' σ H' → Q b H'
def tZA (K : PySem.W.Frag) (n : Nat) (m : ZAr) : TA := fun σ H Q => ∃ (C : Ct) (Hs : Hp) (A : List Addr) (g : G) (rs : List R) (g' : G), C.K = K ∧ C.n = n ∧ Ok C Hs A g σ H ∧ m g = some (rs, g') ∧
  ∀ (Hs' : Hp) (A' : List Addr) (vs : List V) (H' : Hp), Same Hs Hs' → Pre A A' → Ok C Hs' A' g' σ H' → RelRs C.K Hs' A' vs rs → Q vs H'
theorem PE.of {X : Cx} {e : Expr} {t t' : TE} (h : PE X e t) (w : ∀ σ H Q, t' σ H Q → t σ H Q) : PE X e t' := ⟨fun pins s σ H Q I q => h.run pins s σ H Q I (w σ H Q q)⟩
theorem PT.of {X : Cx} {e : Expr} {t t' : TT} (h : PT X e t) (w : ∀ σ H Q, t' σ H Q → t σ H Q) : PT X e t' := ⟨fun pins s σ H Q I q => h.run pins s σ H Q I (w σ H Q q)⟩
theorem PW.of {X : Cx} {e : Expr} {t t' : TT} (h : PW X e t) (w : ∀ σ H Q, t' σ H Q → t σ H Q) : PW X e t' := ⟨fun wh pins s σ H Q I q => h.run wh pins s σ H Q I (w σ H Q q)⟩
theorem PA.of {X : Cx} {es : List Expr} {t t' : TA} (h : PA X es t) (w : ∀ σ H Q, t' σ H Q → t σ H Q) : PA X es t' := ⟨fun pos pins s σ H Q I q => h.run pos pins s σ H Q I (w σ H Q q)⟩
theorem PS.of {X : Cx} {st : Stmt} {t t' : TS} (h : PS X st t) (w : ∀ D σ H, t' D σ H → t D σ H) : PS X st t' := ⟨fun pins s σ H D I q => h.run pins s σ H D I (w D σ H q)⟩
theorem PSs.of {X : Cx} {st : List Stmt} {t t' : TS} (h : PSs X st t) (w : ∀ D σ H, t' D σ H → t D σ H) : PSs X st t' := ⟨fun pins s σ H D I q => h.run pins s σ H D I (w D σ H q)⟩
abbrev ZE (X : Cx) (e : Expr) (m : ZM) : Prop := PE X e (tZ X.K X.N.length m)
abbrev ZTe (X : Cx) (e : Expr) (m : ZT) : Prop := PT X e (tZT X.K X.N.length m)
abbrev ZW (X : Cx) (e : Expr) (m : ZT) : Prop := PW X e (tZT X.K X.N.length m)
abbrev ZAs (X : Cx) (es : List Expr) (m : ZAr) : Prop := PA X es (tZA X.K X.N.length m)
def D.v : D → V
  | .non => .non | .bl b => .bl b | .int i => .int i | .str s => .str ⟨s.toArray⟩ | .raw v => v
  | _ => .non
theorem D.vz {K : PySem.W.Frag} {H : Hp} {z : D} (h : z.scal = true) : Dz K H z.v z := by
  cases z with
  | non => exact .non
  | bl b => exact .bl b
  | int i => exact .int i
  | str s => exact .str s
  | raw v => exact .raw v
  | dic _ _ => exact absurd h (by simp [D.scal])
  | obj _ _ _ => exact absurd h (by simp [D.scal])
  | tup _ => exact absurd h (by simp [D.scal])
  | lst _ => exact absurd h (by simp [D.scal])
theorem Dz.v {K : PySem.W.Frag} {H : Hp} {v : V} {z : D} (s : z.scal = true) (h : Dz K H v z) : v = z.v := by
  cases h with
  | non => rfl
  | bl b => rfl
  | int i => rfl
  | str z => rfl
  | raw v => rfl
  | dic _ _ _ => exact absurd s (by simp [D.scal])
  | obj _ _ _ _ => exact absurd s (by simp [D.scal])
  | tup _ _ => exact absurd s (by simp [D.scal])
  | lst _ _ => exact absurd s (by simp [D.scal])
def zVar (i : Nat) : ZM := fun g => match g[i]? with
  | some (.dat d) => some (.dat d, g)
  | some (.frz d) => some (.dat d, g)
  | some (.own _ _ _) => some (.bor i, g)
  | some (.rws _) => some (.bor i, g)
  | _ => none
def zC (d : D) : ZM := fun g => some (.dat d, g)
section
variable {X : Cx} {pos : Pos}
theorem ze_var {i : Nat} {x : Str} (hN : X.N[i]? = some x) (h : PE X (.Name x pos) (tVar i)) : ZE X (.Name x pos) (zVar i) := by
  refine PE.of h fun σ H Q ⟨C, Hs, A, g, r, g', hK, hn, ok, e, q⟩ => ?_
  have hi : i < C.n := by rw [hn]; exact (List.getElem?_eq_some_iff.mp hN).1
  unfold zVar at e
  split at e
  · rename_i d hg
    cases e
    obtain ⟨v, h1, h2⟩ := ok.dat i d hg
    exact ⟨v, h1, q Hs A v H (Same.refl _) (Pre.refl _) ok h2⟩
  · rename_i d hg
    cases e
    obtain ⟨a, h1, h2, h3⟩ := ok.frz i d hg
    exact ⟨_, h2 hi, q Hs A _ H (Same.refl _) (Pre.refl _) ok h3⟩
  · rename_i c p l hg
    cases e
    obtain ⟨a, o, h1, h2, _⟩ := ok.own i c p l hg
    exact ⟨_, h2 hi, q Hs A _ H (Same.refl _) (Pre.refl _) ok ⟨a, h1, rfl⟩⟩
  · rename_i ls hg
    cases e
    obtain ⟨a, ks, h1, h2, _⟩ := ok.rws i ls hg
    exact ⟨_, h2 hi, q Hs A _ H (Same.refl _) (Pre.refl _) ok ⟨a, h1, rfl⟩⟩
  · cases e
theorem ze_const {e : Expr} {v : V} {d : D} (h : PE X e (tC v)) (hd : ∀ H, Dz X.K H v d) : ZE X e (zC d) := by
  refine PE.of h fun σ H Q ⟨C, Hs, A, g, r, g', hK, hn, ok, e, q⟩ => ?_
  cases e
  exact q Hs A v H (Same.refl _) (Pre.refl _) ok (by rw [hK]; exact hd Hs)
theorem ze_int {i j} : ZE X (.Constant (.int i) j pos) (zC (.int i)) := ze_const pe_int fun _ => .int i
theorem ze_bl {b j} : ZE X (.Constant (.bool b) j pos) (zC (.bl b)) := ze_const pe_bl fun _ => .bl b
theorem ze_non {j} : ZE X (.Constant .none j pos) (zC .non) := ze_const pe_non fun _ => .non
theorem ze_str {x j} {s : List Nat} (hs : x = (⟨s.toArray⟩ : Str) := by decide +kernel) : ZE X (.Constant (.str x) j pos) (zC (.str s)) := by
  subst hs
  exact ze_const pe_str fun _ => .str s
/-- a name of the module -/
theorem ze_glob {x : Str} {u : Value} {v : V} {d : D} (hg : Gl X x) (hm : X.mg x = some u) (r : RelV v u) (hd : ∀ H, Dz X.K H v d) (hdb : (x == ("__debug__" : Str)) = false := by decide) : ZE X (.Name x pos) (zC d) := ze_const (pe_glob hg hm r hdb) hd
theorem ze_bltn {x : Str} {u : Value} {v : V} (hg : Gl X x) (hm : X.mg x = none) (hv : bootBuiltins x = some u) (r : RelV v u) (hn : x ≠ "__name__" := by decide) (hdb : (x == ("__debug__" : Str)) = false := by decide) : ZE X (.Name x pos) (zC (.raw v)) :=
  ze_const (pe_bltn hg hm hv r hn hdb) fun _ => .raw v
/-- r does on values what f does on data -/
def OpS (K : PySem.W.Frag) (r : R2) (f : D → D → Option D) : Prop := ∀ (H : Hp) (x y : V) (d e z : D) (Q : VK), Dz K H x d → Dz K H y e → f d e = some z → Q z.v H → r x y H Q
def zOp (f : D → D → Option D) (ma mb : ZM) : ZM := fun g => do
  let (r1, g1) ← ma g
  let (r2, g2) ← mb g1
  let d ← rd g2 r1
  let e ← rd g2 r2
  let z ← f d e
  if z.scal = true then some (.dat z, g2) else none
theorem zOp_some {f : D → D → Option D} {ma mb : ZM} {g g' : G} {r : R} (e : zOp f ma mb g = some (r, g')) :
    ∃ r1 g1 r2 d1 d2 z, ma g = some (r1, g1) ∧ mb g1 = some (r2, g') ∧ rd g' r1 = some d1 ∧ rd g' r2 = some d2 ∧ f d1 d2 = some z ∧ z.scal = true ∧ r = .dat z := by
  unfold zOp at e
  simp only [Option.bind_eq_bind, Option.bind_eq_some_iff] at e
  obtain ⟨⟨r1, g1⟩, h1, ⟨r2, g2⟩, h2, d1, h3, d2, h4, z, h5, e⟩ := e
  split at e
  · rename_i hs
    cases e
    exact ⟨r1, g1, r2, d1, d2, z, h1, h2, h3, h4, h5, hs, rfl⟩
  · cases e
variable {a b c : Expr} {ma mb mc : ZM}
/-- two in a row, then what is done with both -/
theorem tZ2 {σ : L2.St} {H : Hp} {K : PySem.W.Frag} {n : Nat} {R2' : V → V → Hp → Prop} {C : Ct} {Hs : Hp} {A : List Addr} {g g1 g2 : G} {r1 r2 : R} (hK : C.K = K) (hn : C.n = n) (ok : Ok C Hs A g σ H) (e1 : ma g = some (r1, g1)) (e2 : mb g1 = some (r2, g2))
    (q : ∀ Hs2 A2 v1 v2 H2, Same Hs Hs2 → Pre A A2 → Ok C Hs2 A2 g2 σ H2 → RelR C.K Hs2 A2 v1 r1 → RelR C.K Hs2 A2 v2 r2 → R2' v1 v2 H2) : tZ K n ma σ H fun x H1 => tZ K n mb σ H1 fun y H2 => R2' x y H2 :=
  ⟨C, Hs, A, g, r1, g1, hK, hn, ok, e1, fun Hs1 A1 v1 H1 s1 p1 ok1 rel1 => ⟨C, Hs1, A1, g1, r2, g2, hK, hn, ok1, e2, fun Hs2 A2 v2 H2 s2 p2 ok2 rel2 => q Hs2 A2 v1 v2 H2 (s1.trans s2) (p1.trans p2) ok2 (rel1.mono s2 p2) rel2⟩⟩
theorem zop_of {r : R2} {f : D → D → Option D} {e : Expr} (h : PE X e (tOp r (tZ X.K X.N.length ma) (tZ X.K X.N.length mb))) (hf : OpS X.K r f) : ZE X e (zOp f ma mb) := by
  refine PE.of h fun σ H Q ⟨C, Hs, A, g, r, g', hK, hn, ok, e, q⟩ => ?_
  obtain ⟨r1, g1, r2, d1, d2, z, h1, h2, h3, h4, h5, h6, rfl⟩ := zOp_some e
  refine tZ2 hK hn ok h1 h2 fun Hs2 A2 v1 v2 H2 s p ok2 w1 w2 => ?_
  have x1 := ok2.rd w1 h3
  have x2 := ok2.rd w2 h4
  rw [hK] at x1 x2
  exact hf H2 v1 v2 d1 d2 z Q x1 x2 h5 (q Hs2 A2 z.v H2 s p ok2 (D.vz h6))
theorem ze_op {op : Operator} {r : R2} {f : D → D → Option D} (ho : OpR X (binaryOp op) r) (hf : OpS X.K r f) (ha : ZE X a ma) (hb : ZE X b mb) : ZE X (.BinOp a op b pos) (zOp f ma mb) := zop_of (pe_op ho ha hb) hf
theorem ze_cmp {op : CmpOp} {r : R2} {f : D → D → Option D} (ho : OpR X (compareOp op) r) (hf : OpS X.K r f) (ha : ZE X a ma) (hb : ZE X b mb) (hm : behindInMarks op b = false) : ZE X (.Compare a [op] [b] pos) (zOp f ma mb) := zop_of (pe_cmpR ho ha hb hm) hf
def isB : R → Option Bool
  | .dat (.bl b) => some b
  | _ => none
theorem isB_some {r : R} {b : Bool} (h : isB r = some b) : r = .dat (.bl b) := by
  unfold isB at h
  split at h
  · cases h; rfl
  · cases h
/-- a value that is a bool, as a test -/
def zTst (m : ZM) : ZT := fun g => do
  let (r, g1) ← m g
  let b ← isB r
  some (b, g1)
theorem zTst_some {m : ZM} {g g' : G} {b : Bool} (e : zTst m g = some (b, g')) : m g = some (.dat (.bl b), g') := by
  unfold zTst at e
  simp only [Option.bind_eq_bind, Option.bind_eq_some_iff] at e
  obtain ⟨⟨r, g1⟩, h1, b', h2, e⟩ := e
  cases e
  have h3 : r = .dat (.bl b) := isB_some h2
  rw [h3] at h1
  exact h1
theorem tst_of {m : ZM} {σ : L2.St} {H : Hp} {K : PySem.W.Frag} {n : Nat} {Q : Bool → Hp → Prop} (h : tZT K n (zTst m) σ H Q) : tZ K n m σ H fun x H1 => ∃ k, x = .bl k ∧ Q k H1 := by
  obtain ⟨C, Hs, A, g, b, g', hK, hn, ok, e, q⟩ := h
  refine ⟨C, Hs, A, g, _, _, hK, hn, ok, zTst_some e, fun Hs1 A1 v1 H1 s1 p1 ok1 rel1 => ?_⟩
  have e1 : v1 = .bl b := (show Dz C.K Hs1 v1 (.bl b) from rel1).v rfl
  exact ⟨b, e1, q Hs1 A1 H1 s1 p1 ok1⟩
theorem zt_cmp {op : CmpOp} {r : R2} {f : D → D → Option D} (ho : OpR X (compareOp op) r) (hf : OpS X.K r f) (ha : ZE X a ma) (hb : ZE X b mb) (hm : behindInMarks op b = false) : ZTe X (.Compare a [op] [b] pos) (zTst (zOp f ma mb)) := by
  refine PT.of (pt_cmpR (r := fun x y H Q => r x y H Q) ho ha hb hm) fun σ H Q h => ?_
  have h2 := tst_of h
  obtain ⟨C, Hs, A, g, r, g', hK, hn, ok, e, q⟩ := h2
  obtain ⟨r1, g1, r2, d1, d2, z, h1, h2, h3, h4, h5, h6, rfl⟩ := zOp_some e
  refine tZ2 (R2' := fun x y H2 => _) hK hn ok h1 h2 fun Hs2 A2 v1 v2 H2 s p ok2 w1 w2 => ?_
  have x1 := ok2.rd w1 h3
  have x2 := ok2.rd w2 h4
  rw [hK] at x1 x2
  exact hf H2 v1 v2 d1 d2 z _ x1 x2 h5 (q Hs2 A2 z.v H2 s p ok2 (D.vz h6))
def tru : D → Option Bool
  | .non => some false
  | .bl b => some b
  | .int i => some (i != 0)
  | .str s => if s.length ≤ sizeLine then some ((s.length : Int) != 0) else none
  | .lst l => some (!l.isEmpty)
  | .tup l => some (!l.isEmpty)
  | .raw _ => none
  | .dic _ _ => none
  | .obj _ _ _ => none
theorem DzA.empty {K : PySem.W.Frag} {H : Hp} {vs : List V} {ds : List D} (h : DzA K H vs ds) : vs.isEmpty = ds.isEmpty := by cases h <;> rfl
theorem tru_of {K : PySem.W.Frag} {H : Hp} {v : V} {d : D} {b : Bool} (h : Dz K H v d) (e : tru d = some b) : TruV K v H b := by
  cases h with
  | non => cases e; rfl
  | bl c => cases e; rfl
  | int i => cases e; rfl
  | str s =>
    have e : (if s.length ≤ sizeLine then some ((s.length : Int) != 0) else none) = some b := e
    split at e
    · rename_i hs
      cases e
      exact ⟨by simpa [Str.length] using hs, by simp [Str.length]⟩
    · cases e
  | lst hs ha => cases e; exact .inl ⟨_, hs, by rw [ha.empty]⟩
  | tup hs ha => cases e; exact .inr (.inl ⟨_, hs, by rw [ha.empty]⟩)
  | raw v => cases e
  | dic _ _ _ => cases e
  | obj _ _ _ _ => cases e
def zTru (m : ZM) : ZT := fun g => do
  let (r, g1) ← m g
  let d ← rd g1 r
  let b ← tru d
  some (b, g1)
theorem zt_truth {e : Expr} {m : ZM} (h : ZE X e m) (he : ∀ whole, isTrue e X.env whole = (do let v ← whole; standAt e.pos; holding [v] (truthy v)) := by intro _; rfl) : ZTe X e (zTru m) := by
  refine PT.of (pt_truth h he) fun σ H Q ⟨C, Hs, A, g, b, g', hK, hn, ok, e, q⟩ => ?_
  unfold zTru at e
  simp only [Option.bind_eq_bind, Option.bind_eq_some_iff] at e
  obtain ⟨⟨r, g1⟩, h1, d, h2, b', h3, e⟩ := e
  cases e
  refine ⟨C, Hs, A, g, _, _, hK, hn, ok, h1, fun Hs1 A1 v1 H1 s1 p1 ok1 rel1 => ?_⟩
  have x := ok1.rd rel1 h2
  rw [hK] at x
  exact ⟨b, tru_of x h3, q Hs1 A1 H1 s1 p1 ok1⟩
def zAndT (s t : ZT) : ZT := fun g => do
  let (b, g1) ← s g
  if b = true then t g1 else some (false, g1)
def zOrT (s t : ZT) : ZT := fun g => do
  let (b, g1) ← s g
  if b = true then some (true, g1) else t g1
def zNotT (s : ZT) : ZT := fun g => do
  let (b, g1) ← s g
  some (!b, g1)
variable {sA sB : ZT} {rest : List Expr}
theorem zw_and1 (ha : ZTe X a sA) : ZW X (.BoolOp .And [a] pos) sA := pw_and1 ha
theorem zw_or1 (ha : ZTe X a sA) : ZW X (.BoolOp .Or [a] pos) sA := pw_or1 ha
theorem zw_and (ha : ZTe X a sA) (hb : ZW X (.BoolOp .And (b :: rest) pos) sB) : ZW X (.BoolOp .And (a :: b :: rest) pos) (zAndT sA sB) := by
  refine PW.of (pw_and ha hb) fun σ H Q ⟨C, Hs, A, g, b, g', hK, hn, ok, e, q⟩ => ?_
  unfold zAndT at e
  simp only [Option.bind_eq_bind, Option.bind_eq_some_iff] at e
  obtain ⟨⟨b1, g1⟩, h1, e⟩ := e
  refine ⟨C, Hs, A, g, b1, g1, hK, hn, ok, h1, fun Hs1 A1 H1 s1 p1 ok1 => ?_⟩
  cases b1 with
  | true => exact ⟨C, Hs1, A1, g1, b, g', hK, hn, ok1, e, fun Hs2 A2 H2 s2 p2 ok2 => q Hs2 A2 H2 (s1.trans s2) (p1.trans p2) ok2⟩
  | false =>
    cases e
    exact q Hs1 A1 H1 s1 p1 ok1
theorem zw_or (ha : ZTe X a sA) (hb : ZW X (.BoolOp .Or (b :: rest) pos) sB) : ZW X (.BoolOp .Or (a :: b :: rest) pos) (zOrT sA sB) := by
  refine PW.of (pw_or ha hb) fun σ H Q ⟨C, Hs, A, g, b, g', hK, hn, ok, e, q⟩ => ?_
  unfold zOrT at e
  simp only [Option.bind_eq_bind, Option.bind_eq_some_iff] at e
  obtain ⟨⟨b1, g1⟩, h1, e⟩ := e
  refine ⟨C, Hs, A, g, b1, g1, hK, hn, ok, h1, fun Hs1 A1 H1 s1 p1 ok1 => ?_⟩
  cases b1 with
  | false => exact ⟨C, Hs1, A1, g1, b, g', hK, hn, ok1, e, fun Hs2 A2 H2 s2 p2 ok2 => q Hs2 A2 H2 (s1.trans s2) (p1.trans p2) ok2⟩
  | true =>
    cases e
    exact q Hs1 A1 H1 s1 p1 ok1
theorem zt_w {e : Expr} (h : ZW X e sA) : ZTe X e sA := h.pt
theorem zt_not (ha : ZTe X a sA) : ZTe X (.UnaryOp .Not a pos) (zNotT sA) := by
  refine PT.of (pt_not ha) fun σ H Q ⟨C, Hs, A, g, b, g', hK, hn, ok, e, q⟩ => ?_
  unfold zNotT at e
  simp only [Option.bind_eq_bind, Option.bind_eq_some_iff] at e
  obtain ⟨⟨b1, g1⟩, h1, e⟩ := e
  cases e
  exact ⟨C, Hs, A, g, b1, _, hK, hn, ok, h1, fun Hs1 A1 H1 s1 p1 ok1 => q Hs1 A1 H1 s1 p1 ok1⟩
/-- .. as values -/
def zAndV (ma mb : ZM) : ZM := fun g => do
  let (r, g1) ← ma g
  let b ← isB r
  if b = true then mb g1 else some (.dat (.bl false), g1)
def zOrV (ma mb : ZM) : ZM := fun g => do
  let (r, g1) ← ma g
  let b ← isB r
  if b = true then some (.dat (.bl true), g1) else mb g1
def zNotV (ma : ZM) : ZM := fun g => do
  let (r, g1) ← ma g
  let b ← isB r
  some (.dat (.bl (!b)), g1)
theorem ze_one {op} (h : ZE X a ma) : ZE X (.BoolOp op [a] pos) ma := pe_one h
theorem ze_and (ha : ZE X a ma) (hb : ZE X (.BoolOp .And (b :: rest) pos) mb) : ZE X (.BoolOp .And (a :: b :: rest) pos) (zAndV ma mb) := by
  refine PE.of (pe_and ha hb) fun σ H Q ⟨C, Hs, A, g, r, g', hK, hn, ok, e, q⟩ => ?_
  unfold zAndV at e
  simp only [Option.bind_eq_bind, Option.bind_eq_some_iff] at e
  obtain ⟨⟨r1, g1⟩, h1, b1, h2, e⟩ := e
  have := isB_some h2
  subst this
  refine ⟨C, Hs, A, g, _, g1, hK, hn, ok, h1, fun Hs1 A1 v1 H1 s1 p1 ok1 rel1 => ⟨b1, (show Dz C.K Hs1 v1 (.bl b1) from rel1).v rfl, ?_⟩⟩
  cases b1 with
  | true => exact ⟨C, Hs1, A1, g1, r, g', hK, hn, ok1, e, fun Hs2 A2 v2 H2 s2 p2 ok2 => q Hs2 A2 v2 H2 (s1.trans s2) (p1.trans p2) ok2⟩
  | false =>
    cases e
    exact q Hs1 A1 _ H1 s1 p1 ok1 (.bl false)
theorem ze_not (ha : ZE X a ma) : ZE X (.UnaryOp .Not a pos) (zNotV ma) := by
  refine PE.of (pe_not ha) fun σ H Q ⟨C, Hs, A, g, r, g', hK, hn, ok, e, q⟩ => ?_
  unfold zNotV at e
  simp only [Option.bind_eq_bind, Option.bind_eq_some_iff] at e
  obtain ⟨⟨r1, g1⟩, h1, b1, h2, e⟩ := e
  have := isB_some h2
  subst this
  cases e
  exact ⟨C, Hs, A, g, _, _, hK, hn, ok, h1, fun Hs1 A1 v1 H1 s1 p1 ok1 rel1 => ⟨b1, (show Dz C.K Hs1 v1 (.bl b1) from rel1).v rfl, q Hs1 A1 _ H1 s1 p1 ok1 (.bl (!b1))⟩⟩
/-- a if t else b -/
def zIf (t : ZT) (ma mb : ZM) : ZM := fun g => do
  let (b, g1) ← t g
  if b = true then ma g1 else mb g1
theorem ze_if (hc : ZTe X c sA) (ha : ZE X a ma) (hb : ZE X b mb) : ZE X (.IfExp c a b pos) (zIf sA ma mb) := by
  refine PE.of (pe_ifExp hc ha hb) fun σ H Q ⟨C, Hs, A, g, r, g', hK, hn, ok, e, q⟩ => ?_
  unfold zIf at e
  simp only [Option.bind_eq_bind, Option.bind_eq_some_iff] at e
  obtain ⟨⟨b1, g1⟩, h1, e⟩ := e
  refine ⟨C, Hs, A, g, b1, g1, hK, hn, ok, h1, fun Hs1 A1 H1 s1 p1 ok1 => ?_⟩
  cases b1 with
  | true => exact ⟨C, Hs1, A1, g1, r, g', hK, hn, ok1, e, fun Hs2 A2 v2 H2 s2 p2 ok2 => q Hs2 A2 v2 H2 (s1.trans s2) (p1.trans p2) ok2⟩
  | false => exact ⟨C, Hs1, A1, g1, r, g', hK, hn, ok1, e, fun Hs2 A2 v2 H2 s2 p2 ok2 => q Hs2 A2 v2 H2 (s1.trans s2) (p1.trans p2) ok2⟩
/-- a one-place operation -/
def zUn (f : D → Option D) (ma : ZM) : ZM := fun g => do
  let (r1, g1) ← ma g
  let d ← rd g1 r1
  let z ← f d
  if z.scal = true then some (.dat z, g1) else none
def UnS (K : PySem.W.Frag) (r : V → Hp → VK → Prop) (f : D → Option D) : Prop := ∀ (H : Hp) (x : V) (d z : D) (Q : VK), Dz K H x d → f d = some z → Q z.v H → r x H Q
theorem ze_un {op : UnaryOp} {r : V → Hp → VK → Prop} {f : D → Option D} (ho : UnR X (unaryOp op) r) (hf : UnS X.K r f) (ha : ZE X a ma) : ZE X (.UnaryOp op a pos) (zUn f ma) := by
  refine PE.of (pe_un ho ha) fun σ H Q ⟨C, Hs, A, g, r, g', hK, hn, ok, e, q⟩ => ?_
  unfold zUn at e
  simp only [Option.bind_eq_bind, Option.bind_eq_some_iff] at e
  obtain ⟨⟨r1, g1⟩, h1, d, h2, z, h3, e⟩ := e
  split at e
  · rename_i hs
    cases e
    refine ⟨C, Hs, A, g, r1, _, hK, hn, ok, h1, fun Hs1 A1 v1 H1 s1 p1 ok1 rel1 => ?_⟩
    have x := ok1.rd rel1 h2
    rw [hK] at x
    exact hf H1 v1 d z Q x h3 (q Hs1 A1 z.v H1 s1 p1 ok1 (D.vz hs))
  · cases e
/-- a op1 b op2 c -/
def zChain (f f' : D → D → Option D) (ma mb mc : ZM) : ZM := fun g => do
  let (r1, g1) ← ma g
  let (r2, g2) ← mb g1
  let d ← rd g2 r1
  let e ← rd g2 r2
  let z ← f d e
  match z with
  | .bl true => do
    let (r3, g3) ← mc g2
    let e2 ← rd g3 r2
    let h ← rd g3 r3
    let z2 ← f' e2 h
    if z2.scal = true then some (.dat z2, g3) else none
  | .bl false => some (.dat (.bl false), g2)
  | _ => none
theorem chain_of {r r' : R2} {f f' : D → D → Option D} (hf : OpS X.K r f) (hf' : OpS X.K r' f') {σ : L2.St} {H : Hp} {Q : VK} (h : tZ X.K X.N.length (zChain f f' ma mb mc) σ H Q) :
    tChain r r' (tZ X.K X.N.length ma) (tZ X.K X.N.length mb) (tZ X.K X.N.length mc) σ H Q := by
  obtain ⟨C, Hs, A, g, r, g', hK, hn, ok, e, q⟩ := h
  unfold zChain at e
  simp only [Option.bind_eq_bind, Option.bind_eq_some_iff] at e
  obtain ⟨⟨r1, g1⟩, h1, ⟨r2, g2⟩, h2, d1, h3, d2, h4, z, h5, e⟩ := e
  refine tZ2 hK hn ok h1 h2 fun Hs2 A2 v1 v2 H2 s p ok2 w1 w2 => ?_
  have x1 := ok2.rd w1 h3
  have x2 := ok2.rd w2 h4
  rw [hK] at x1 x2
  refine hf H2 v1 v2 d1 d2 z _ x1 x2 h5 ?_
  split at e
  · simp only [Option.bind_eq_bind, Option.bind_eq_some_iff] at e
    obtain ⟨⟨r3, g3⟩, h6, e2, h7, h, h8, z2, h9, e⟩ := e
    split at e
    · rename_i hs
      cases e
      refine ⟨true, rfl, ?_⟩
      rw [if_pos rfl]
      refine ⟨C, Hs2, A2, g2, r3, _, hK, hn, ok2, h6, fun Hs3 A3 v3 H3 s3 p3 ok3 w3 => ?_⟩
      have y1 := ok3.rd (w2.mono s3 p3) h7
      have y2 := ok3.rd w3 h8
      rw [hK] at y1 y2
      exact hf' H3 v2 v3 e2 h z2 Q y1 y2 h9 (q Hs3 A3 z2.v H3 (s.trans s3) (p.trans p3) ok3 (D.vz hs))
    · cases e
  · cases e
    refine ⟨false, rfl, ?_⟩
    rw [if_neg Bool.false_ne_true]
    exact q Hs2 A2 _ H2 s p ok2 (.bl false)
  · cases e
theorem zt_chain {op op' : CmpOp} {r r' : R2} {f f' : D → D → Option D} (ho : OpR X (compareOp op) r) (hf : OpS X.K r f) (ho' : OpR X (compareOp op') r') (hf' : OpS X.K r' f') (ha : ZE X a ma) (hb : ZE X b mb) (hc : ZE X c mc)
    (hm : lastMarks [op, op'] [b, c] = false := by with_unfolding_all rfl) : ZTe X (.Compare a [op, op'] [b, c] pos) (zTst (zChain f f' ma mb mc)) :=
  PT.of (pt_chain ho ho' ha hb hc hm) fun σ H Q h => chain_of hf hf' (tst_of h)
def zNil : ZAr := fun g => some ([], g)
def zCons (ma : ZM) (mr : ZAr) : ZAr := fun g => do
  let (r, g1) ← ma g
  let (rs, g2) ← mr g1
  some (r :: rs, g2)
theorem za_nil : ZAs X [] zNil := by
  refine PA.of pa_nil fun σ H Q ⟨C, Hs, A, g, rs, g', hK, hn, ok, e, q⟩ => ?_
  cases e
  exact q Hs A [] H (Same.refl _) (Pre.refl _) ok trivial
variable {es : List Expr} {mr : ZAr}
theorem za_cons (ha : ZE X a ma) (hr : ZAs X es mr) (hs : starEach (a :: es) X.env = (false, eval a X.env) :: starEach es X.env := by rfl) : ZAs X (a :: es) (zCons ma mr) := by
  refine PA.of (pa_cons ha hr hs) fun σ H Q ⟨C, Hs, A, g, rs, g', hK, hn, ok, e, q⟩ => ?_
  unfold zCons at e
  simp only [Option.bind_eq_bind, Option.bind_eq_some_iff] at e
  obtain ⟨⟨r1, g1⟩, h1, ⟨rs2, g2⟩, h2, e⟩ := e
  cases e
  exact ⟨C, Hs, A, g, r1, g1, hK, hn, ok, h1, fun Hs1 A1 v1 H1 s1 p1 ok1 rel1 => ⟨C, Hs1, A1, g1, rs2, _, hK, hn, ok1, h2, fun Hs2 A2 vs H2 s2 p2 ok2 rel2 =>
    q Hs2 A2 (v1 :: vs) H2 (s1.trans s2) (p1.trans p2) ok2 ⟨rel1.mono s2 p2, rel2⟩⟩⟩
/-- all are read as data -/
def rdAll (g : G) : List R → Option (List D)
  | [] => some []
  | r :: rs => do
    let d ← rdX g r
    let ds ← rdAll g rs
    some (d :: ds)
theorem rdAll_ok {C : Ct} {Hs : Hp} {A : List Addr} {g : G} {σ : L2.St} {H : Hp} (ok : Ok C Hs A g σ H) : ∀ {vs : List V} {rs : List R} {ds : List D}, RelRs C.K Hs A vs rs → rdAll g rs = some ds → DzA C.K H vs ds
  | [], [], ds, _, e => by cases e; exact .nil
  | v :: vs, r :: rs, ds, h, e => by
    unfold rdAll at e
    simp only [Option.bind_eq_bind, Option.bind_eq_some_iff] at e
    obtain ⟨d, h1, ds', h2, e⟩ := e
    cases e
    exact .cons (ok.rdX h.1 h1) (rdAll_ok ok h.2 h2)
  | [], _ :: _, _, h, _ => h.elim
  | _ :: _, [], _, h, _ => h.elim
/-- all become data -/
def frzAll : List R → G → Option (List D × G)
  | [], g => some ([], g)
  | r :: rs, g => do
    let (d, g1) ← frzR r g
    let (ds, g2) ← frzAll rs g1
    some (d :: ds, g2)
theorem frzAll_ok {C : Ct} {A : List Addr} {σ : L2.St} {H : Hp} : ∀ {g g' : G} {Hs : Hp} {vs : List V} {rs : List R} {ds : List D}, Ok C Hs A g σ H → RelRs C.K Hs A vs rs → frzAll rs g = some (ds, g') → ∃ Hs', Same Hs Hs' ∧ Ok C Hs' A g' σ H ∧ DzA C.K Hs' vs ds
  | g, g', Hs, [], [], ds, ok, _, e => by cases e; exact ⟨Hs, Same.refl _, ok, .nil⟩
  | g, g', Hs, v :: vs, r :: rs, ds, ok, h, e => by
    unfold frzAll at e
    simp only [Option.bind_eq_bind, Option.bind_eq_some_iff] at e
    obtain ⟨⟨d, g1⟩, h1, ⟨ds', g2⟩, h2, e⟩ := e
    cases e
    obtain ⟨Hs1, s1, ok1, z1⟩ := ok.frzR h.1 h1
    obtain ⟨Hs2, s2, ok2, z2⟩ := frzAll_ok ok1 (h.2.mono s1 (Pre.refl _)) h2
    exact ⟨Hs2, s1.trans s2, ok2, .cons (z1.mono s2) z2⟩
  | _, _, _, [], _ :: _, _, _, h, _ => h.elim
  | _, _, _, _ :: _, [], _, _, h, _ => h.elim
def zTup (ma : ZAr) : ZM := fun g => do
  let (rs, g1) ← ma g
  let (ds, g2) ← frzAll rs g1
  if ds.length ≤ sizeLine then some (.dat (.tup ds), g2) else none
def zLst (ma : ZAr) : ZM := fun g => do
  let (rs, g1) ← ma g
  let (ds, g2) ← frzAll rs g1
  if ds.length ≤ sizeLine then some (.bor g2.length, g2 ++ [.own (.lst ds) false false]) else none
theorem ze_tup {x1} {mr : ZAr} (h : ZAs X es mr) : ZE X (.Tuple es x1 pos) (zTup mr) := by
  refine PE.of (pe_tup h) fun σ H Q ⟨C, Hs, A, g, r, g', hK, hn, ok, e, q⟩ => ?_
  unfold zTup at e
  simp only [Option.bind_eq_bind, Option.bind_eq_some_iff] at e
  obtain ⟨⟨rs, g1⟩, h1, ⟨ds, g2⟩, h2, e⟩ := e
  split at e
  · rename_i hz
    cases e
    refine ⟨C, Hs, A, g, rs, g1, hK, hn, ok, h1, fun Hs1 A1 vs H1 s1 p1 ok1 rel1 => ?_⟩
    obtain ⟨Hs2, s2, ok2, z2⟩ := frzAll_ok ok1 rel1 h2
    refine ⟨by rw [z2.length]; exact hz, fun p hp => ?_⟩
    obtain ⟨ok3, s3⟩ := ok2.lay (o := .tup vs) hp
    exact q _ A1 (.ref p) _ ((s1.trans s2).trans s3) p1 ok3 (.tup (SqT.of upd_same) (z2.mono s3))
  · cases e
theorem Ok.tmpR {C : Ct} {Hs : Hp} {A : List Addr} {g : G} {σ : L2.St} {H : Hp} (ok : Ok C Hs A g σ H) (p : Addr) : RelR C.K Hs (A ++ [p]) (.ref p) (.bor g.length) := ⟨p, by rw [← ok.la]; simp, rfl⟩
theorem ze_lst {mr : ZAr} (h : ZAs X es mr) : ZE X (.List es pos) (zLst mr) := by
  refine PE.of (pe_lst h) fun σ H Q ⟨C, Hs, A, g, r, g', hK, hn, ok, e, q⟩ => ?_
  unfold zLst at e
  simp only [Option.bind_eq_bind, Option.bind_eq_some_iff] at e
  obtain ⟨⟨rs, g1⟩, h1, ⟨ds, g2⟩, h2, e⟩ := e
  split at e
  · rename_i hz
    cases e
    refine ⟨C, Hs, A, g, rs, g1, hK, hn, ok, h1, fun Hs1 A1 vs H1 s1 p1 ok1 rel1 => ?_⟩
    obtain ⟨Hs2, s2, ok2, z2⟩ := frzAll_ok ok1 rel1 h2
    refine ⟨by rw [z2.length]; exact hz, fun p hp => ?_⟩
    exact q _ (A1 ++ [p]) (.ref p) _ (s1.trans s2) (p1.trans (Pre.app _ _)) (ok2.tmp (o := .lst vs) (c := .lst ds) hp z2) (ok2.tmpR p)
  · cases e
def CallS (K : PySem.W.Frag) (r : List V → Hp → VK → Prop) (f : List D → Option D) : Prop := ∀ (H : Hp) (vs : List V) (ds : List D) (z : D) (Q : VK), DzA K H vs ds → f ds = some z → Q z.v H → r vs H Q
def zCallS (f : List D → Option D) (ma : ZAr) : ZM := fun g => do
  let (rs, g1) ← ma g
  let ds ← rdAll g1 rs
  let z ← f ds
  if z.scal = true then some (.dat z, g1) else none
theorem zcallS_of {r : List V → Hp → VK → Prop} {f : List D → Option D} {mr : ZAr} {e : Expr} (h : PE X e (tCB r (tZA X.K X.N.length mr))) (hf : CallS X.K r f) : ZE X e (zCallS f mr) := by
  refine PE.of h fun σ H Q ⟨C, Hs, A, g, r, g', hK, hn, ok, e, q⟩ => ?_
  unfold zCallS at e
  simp only [Option.bind_eq_bind, Option.bind_eq_some_iff] at e
  obtain ⟨⟨rs, g1⟩, h1, ds, h2, z, h3, e⟩ := e
  split at e
  · rename_i hs
    cases e
    refine ⟨C, Hs, A, g, rs, _, hK, hn, ok, h1, fun Hs1 A1 vs H1 s1 p1 ok1 rel1 => ?_⟩
    have x := rdAll_ok ok1 rel1 h2
    rw [hK] at x
    exact hf H1 vs ds z Q x h3 (q Hs1 A1 z.v H1 s1 p1 ok1 (D.vz hs))
  · cases e
theorem ze_callB {x : Str} {p : Pos} {id : String} {r : List V → Hp → VK → Prop} {f : List D → Option D} {mr : ZAr} (hc : CallR X (.builtin id) r) (hf : CallS X.K r f) (hg : Gl X x) (hm : X.mg x = none) (hv : bootBuiltins x = some (.builtin id)) (ha : ZAs X (a :: es) mr)
    (hn : x ≠ "__name__" := by decide) (hdb : (x == ("__debug__" : Str)) = false := by decide) (he : starEach (a :: es) X.env = (false, eval a X.env) :: starEach es X.env := by rfl) (hpl : (backTo pos (starEach es X.env)).any (·.1) = false := by rfl) :
    ZE X (.Call (.Name x p) (a :: es) [] pos) (zCallS f mr) := zcallS_of (pe_callB hc hg hm hv ha hn hdb he hpl) hf
theorem ze_callTy {x : Str} {p : Pos} {T : String} {r : List V → Hp → VK → Prop} {f : List D → Option D} {mr : ZAr} (hc : CallR X (.type T) r) (hf : CallS X.K r f) (hg : Gl X x) (hm : X.mg x = none) (hv : bootBuiltins x = some (.type T)) (ha : ZAs X (a :: es) mr)
    (hn : x ≠ "__name__" := by decide) (hdb : (x == ("__debug__" : Str)) = false := by decide) (he : starEach (a :: es) X.env = (false, eval a X.env) :: starEach es X.env := by rfl) (hpl : (backTo pos (starEach es X.env)).any (·.1) = false := by rfl) :
    ZE X (.Call (.Name x p) (a :: es) [] pos) (zCallS f mr) := zcallS_of (pe_callTy hc hg hm hv ha hn hdb he hpl) hf
/-- methods of texts with a plain answer -/
def MtS (K : PySem.W.Frag) (r : V → List V → Hp → VK → Prop) (f : D → List D → Option D) : Prop := ∀ (H : Hp) (x : V) (vs : List V) (d : D) (ds : List D) (z : D) (Q : VK), Dz K H x d → DzA K H vs ds → f d ds = some z → Q z.v H → r x vs H Q
def tyD (T : String) : D → Bool
  | .str _ => T == "str"
  | .int _ => T == "int"
  | .lst _ => T == "list"
  | _ => false
theorem tyD_of {K : PySem.W.Frag} {H : Hp} {T : String} {x : V} {d : D} (h : Dz K H x d) (e : tyD T d = true) : tyV K T x H := by
  cases h with
  | str s => exact (beq_iff_eq.mp e : T = "str")
  | int i => exact (beq_iff_eq.mp e : T = "int")
  | lst hs ha => exact .inl ⟨beq_iff_eq.mp e, _, hs⟩
  | non => exact absurd e (by simp [tyD])
  | bl _ => exact absurd e (by simp [tyD])
  | tup _ _ => exact absurd e (by simp [tyD])
  | raw _ => exact absurd e (by simp [tyD])
  | dic _ _ _ => exact absurd e (by simp [tyD])
  | obj _ _ _ _ => exact absurd e (by simp [tyD])
def zMt (T : String) (f : D → List D → Option D) (mo : ZM) (ma : ZAr) : ZM := fun g => do
  let (r, g1) ← mo g
  let d ← rd g1 r
  if tyD T d = true then do
    let (rs, g2) ← ma g1
    let d2 ← rd g2 r
    let ds ← rdAll g2 rs
    let z ← f d2 ds
    if z.scal = true then some (.dat z, g2) else none
  else none
theorem zmt_of {T : String} {r : V → List V → Hp → VK → Prop} {f : D → List D → Option D} {mo : ZM} {mr : ZAr} (hf : MtS X.K r f) {σ : L2.St} {H : Hp} {Q : VK} (h : tZ X.K X.N.length (zMt T f mo mr) σ H Q) :
    tBM X.K T r (tZ X.K X.N.length mo) (tZA X.K X.N.length mr) σ H Q := by
  obtain ⟨C, Hs, A, g, r, g', hK, hn, ok, e, q⟩ := h
  unfold zMt at e
  simp only [Option.bind_eq_bind, Option.bind_eq_some_iff] at e
  obtain ⟨⟨r1, g1⟩, h1, d, h2, e⟩ := e
  split at e
  · rename_i ht
    simp only [Option.bind_eq_some_iff] at e
    obtain ⟨⟨rs, g2⟩, h3, d2, h4, ds, h5, z, h6, e⟩ := e
    split at e
    · rename_i hs
      cases e
      refine ⟨C, Hs, A, g, r1, g1, hK, hn, ok, h1, fun Hs1 A1 v1 H1 s1 p1 ok1 rel1 => ?_⟩
      have x := ok1.rd rel1 h2
      rw [hK] at x
      refine ⟨tyD_of x ht, C, Hs1, A1, g1, rs, _, hK, hn, ok1, h3, fun Hs2 A2 vs H2 s2 p2 ok2 rel2 => ?_⟩
      have y := ok2.rd (rel1.mono s2 p2) h4
      have w := rdAll_ok ok2 rel2 h5
      rw [hK] at y w
      exact hf H2 v1 vs d2 ds z Q y w h6 (q Hs2 A2 z.v H2 (s1.trans s2) (p1.trans p2) ok2 (D.vz hs))
    · cases e
  · cases e
theorem ze_mt {o : Expr} {name : Str} {apos : Pos} {T id : String} {r : V → List V → Hp → VK → Prop} {f : D → List D → Option D} {mo : ZM} {mr : ZAr} (pa : PlainAttrs T) (slot : Slot T name id) (hty : typeOf (.builtin id) = pure (.type "method_descriptor")) (hm : MtR X id r) (hf : MtS X.K r f)
    (ho : ZE X o mo) (ha : ZAs X (a :: es) mr)
    (hbase : attributeBase o name X.env (eval o X.env) = eval o X.env := by rfl)
    (hfew : ((backTo pos (starEach (a :: es) X.env)).all (fun x => !x.1) && (backToKw pos (keywordEach [] X.env)).all (fun x => x.1.isSome)
      && decide ((a :: es).length + ([] : List Keyword).length + (if ([] : List Keyword).isEmpty then 0 else 1) < 30)) = true := by rfl)
    (hline : (apos.endLine == pos.line) = true := by rfl) (hs : starEach (a :: es) X.env = (false, eval a X.env) :: starEach es X.env := by rfl) (hplain : (backTo pos (starEach es X.env)).any (·.1) = false := by rfl) :
    ZE X (.Call (.Attribute o name apos) (a :: es) [] pos) (zMt T f mo mr) :=
  PE.of (pe_bm pa slot hty hm ho ha hbase hfew hline hs hplain) fun σ H Q h => zmt_of hf h
end
end Z
set_option Elab.async false
set_option linter.all false
set_option maxRecDepth 100000
set_option maxHeartbeats 4000000
namespace Z
open PySem PySem.Spec PyProof.Rows L2
theorem relB {K : PySem.W.Frag} {Hs : Hp} {A : List Addr} {a : Addr} {j : Nat} (h : A[j]? = some a) : RelR K Hs A (.ref a) (.bor j) := ⟨a, h, rfl⟩
inductive Fl where
  | nx | ret (r : R) | bk | ct
  deriving Inhabited
abbrev SM := G → Option (Fl × G)
def FlP (C : Ct) (Hs : Hp) (g' : G) (D : Ends) : Fl → Prop
  | .nx => ∀ (Hs' : Hp) (A' : List Addr) (σ' : L2.St) (H' : Hp), Same Hs Hs' → Ok C Hs' A' g' σ' H' → D.nx σ' H'
  | .bk => ∀ (Hs' : Hp) (A' : List Addr) (σ' : L2.St) (H' : Hp), Same Hs Hs' → Ok C Hs' A' g' σ' H' → D.bk σ' H'
  | .ct => ∀ (Hs' : Hp) (A' : List Addr) (σ' : L2.St) (H' : Hp), Same Hs Hs' → Ok C Hs' A' g' σ' H' → D.ct σ' H'
  | .ret r => ∀ (Hs' : Hp) (A' : List Addr) (σ' : L2.St) (H' : Hp) (v : V), Same Hs Hs' → Ok C Hs' A' g' σ' H' → RelR C.K Hs' A' v r → D.rt v H'
theorem FlP.mono {C : Ct} {Hs Hs1 : Hp} {g' : G} {D : Ends} {fl : Fl} (s : Same Hs Hs1) (h : FlP C Hs g' D fl) : FlP C Hs1 g' D fl := by
  cases fl with
  | nx => exact fun Hs' A' σ' H' s1 ok => h Hs' A' σ' H' (s.trans s1) ok
  | bk => exact fun Hs' A' σ' H' s1 ok => h Hs' A' σ' H' (s.trans s1) ok
  | ct => exact fun Hs' A' σ' H' s1 ok => h Hs' A' σ' H' (s.trans s1) ok
  | ret r => exact fun Hs' A' σ' H' v s1 ok => h Hs' A' σ' H' v (s.trans s1) ok
def tZS (K : PySem.W.Frag) (n : Nat) (s : SM) : TS := fun D σ H => ∃ (C : Ct) (Hs : Hp) (A : List Addr) (g : G) (fl : Fl) (g' : G), C.K = K ∧ C.n = n ∧ Ok C Hs A g σ H ∧ s g = some (fl, g') ∧ FlP C Hs g' D fl
abbrev ZS (X : Cx) (st : Stmt) (s : SM) : Prop := PS X st (tZS X.K X.N.length s)
abbrev ZSs (X : Cx) (st : List Stmt) (s : SM) : Prop := PSs X st (tZS X.K X.N.length s)
def zNx : SM := fun g => some (.nx, g)
def zBk : SM := fun g => some (.bk, g)
def zCt : SM := fun g => some (.ct, g)
def zSeq (s t : SM) : SM := fun g => do
  let (fl, g1) ← s g
  match fl with
  | .nx => t g1
  | fl => some (fl, g1)
def zRet (m : ZM) : SM := fun g => do
  let (r, g1) ← m g
  some (.ret r, g1)
def zIfS (n : Nat) (t : ZT) (s1 s2 : SM) : SM := fun g => do
  let (b, g1) ← t g
  if b = true then s1 (g1.take n) else s2 (g1.take n)
/-- a value goes to the slot i -/
def setR (n i : Nat) (r : R) (g : G) : Option G := match r with
  | .dat d => setDat i d g
  | .bor j => if n ≤ j then
      match g[j]? with
      | some (.own c false false) => if freeAt i g = true then some ((g.set i (.own c false false)).set j .un) else none
      | some (.frz d) => setDat i d g
      | some (.rws ls) => if freeAt i g = true then some ((g.set i (.rws ls)).set j .un) else none
      | _ => none
    else do
      let (d, g1) ← frzAt j g
      setDat i d g1
def zSet (n i : Nat) (m : ZM) : SM := fun g => do
  let (r, g1) ← m g
  let g2 ← setR n i r g1
  some (.nx, g2.take n)
section
variable {X : Cx} {pos : Pos} {st : Stmt} {rest : List Stmt} {s t : SM} {m : ZM}
theorem zss_nil : ZSs X [] zNx := by
  refine PSs.of pss_nil fun D σ H ⟨C, Hs, A, g, fl, g', hK, hn, ok, e, q⟩ => ?_
  cases e
  exact q Hs A σ H (Same.refl _) ok
theorem seq_of {D : Ends} {σ : L2.St} {H : Hp} {K : PySem.W.Frag} {n : Nat} (h : tZS K n (zSeq s t) D σ H) : tSeq (tZS K n s) (tZS K n t) D σ H := by
  obtain ⟨C, Hs, A, g, fl, g', hK, hn, ok, e, q⟩ := h
  unfold zSeq at e
  simp only [Option.bind_eq_bind, Option.bind_eq_some_iff] at e
  obtain ⟨⟨fl1, g1⟩, h1, e⟩ := e
  refine ⟨C, Hs, A, g, fl1, g1, hK, hn, ok, h1, ?_⟩
  cases fl1 with
  | nx => exact fun Hs' A' σ' H' s1 ok1 => ⟨C, Hs', A', g1, fl, g', hK, hn, ok1, e, q.mono s1⟩
  | bk => cases e; exact q
  | ct => cases e; exact q
  | ret r => cases e; exact q
theorem zss_cons (h1 : ZS X st s) (h2 : ZSs X rest t) : ZSs X (st :: rest) (zSeq s t) := PSs.of (pss_cons h1 h2) fun D σ H h => seq_of h
theorem zss_one (h1 : ZS X st s) : ZSs X [st] s := pss_one h1
theorem zs_ret {e : Expr} (he : ZE X e m) : ZS X (.Return (some e) pos) (zRet m) := by
  refine PS.of (ps_ret he) fun D σ H ⟨C, Hs, A, g, fl, g', hK, hn, ok, e, q⟩ => ?_
  unfold zRet at e
  simp only [Option.bind_eq_bind, Option.bind_eq_some_iff] at e
  obtain ⟨⟨r1, g1⟩, h1, e⟩ := e
  cases e
  exact ⟨C, Hs, A, g, r1, _, hK, hn, ok, h1, fun Hs1 A1 v1 H1 s1 p1 ok1 rel1 => q Hs1 A1 σ H1 v1 s1 ok1 rel1⟩
theorem zs_if {c : Expr} {a b : List Stmt} {tc : ZT} (hc : ZTe X c tc) (ha : ZSs X a s) (hb : ZSs X b t) : ZS X (.If c a b pos) (zIfS X.N.length tc s t) := by
  refine PS.of (ps_if hc ha hb) fun D σ H ⟨C, Hs, A, g, fl, g', hK, hn, ok, e, q⟩ => ?_
  unfold zIfS at e
  simp only [Option.bind_eq_bind, Option.bind_eq_some_iff] at e
  obtain ⟨⟨b1, g1⟩, h1, e⟩ := e
  refine ⟨C, Hs, A, g, b1, g1, hK, hn, ok, h1, fun Hs1 A1 H1 s1 p1 ok1 => ?_⟩
  have ok2 := ok1.cut
  rw [hn] at ok2
  cases b1 with
  | true => exact ⟨C, Hs1, _, _, fl, g', hK, hn, ok2, e, q.mono s1⟩
  | false => exact ⟨C, Hs1, _, _, fl, g', hK, hn, ok2, e, q.mono s1⟩
theorem Ok.setR {C : Ct} {Hs : Hp} {A : List Addr} {g g' : G} {σ : L2.St} {H : Hp} {i : Nat} {v : V} {r : R} (ok : Ok C Hs A g σ H) (hi : i < C.n) (h : RelR C.K Hs A v r) (e : setR C.n i r g = some g') :
    ∃ Hs' A', Same Hs Hs' ∧ Ok C Hs' A' g' (σ.set i (some v)) H := by
  unfold Z.setR at e
  cases r with
  | dat d => exact ⟨Hs, A, Same.refl _, ok.set e hi h⟩
  | bor j =>
    obtain ⟨a, ha, rfl⟩ := (show ∃ a, A[j]? = some a ∧ v = .ref a from h)
    simp only at e
    split at e
    · rename_i hj
      split at e
      · rename_i c hg
        split at e
        · rename_i hf
          cases e
          exact ⟨Hs, _, Same.refl _, ok.move hf hi hj hg ha⟩
        · cases e
      · rename_i d hg
        obtain ⟨a', h1, _, h3⟩ := ok.frz j d hg
        rw [ha] at h1
        have e1 : a = a' := Option.some.inj h1
        subst e1
        exact ⟨Hs, A, Same.refl _, ok.set e hi h3⟩
      · rename_i ls hg
        split at e
        · rename_i hf
          cases e
          exact ⟨Hs, _, Same.refl _, ok.moveR hf hi hj hg ha⟩
        · cases e
      · cases e
    · simp only [Option.bind_eq_bind, Option.bind_eq_some_iff] at e
      obtain ⟨⟨d, g1⟩, h1, e⟩ := e
      obtain ⟨Hs', a', s, ok', h2, dz⟩ := ok.frzAt h1
      rw [ha] at h2
      have e1 : a = a' := Option.some.inj h2
      subst e1
      exact ⟨Hs', A, s, ok'.set e hi dz⟩
theorem set_of {i : Nat} {D : Ends} {σ : L2.St} {H : Hp} {K : PySem.W.Frag} {n : Nat} (hi : i < n) (h : tZS K n (zSet n i m) D σ H) : tAsg (tZ K n m) (gName i) D σ H := by
  obtain ⟨C, Hs, A, g, fl, g', hK, hn, ok, e, q⟩ := h
  unfold zSet at e
  simp only [Option.bind_eq_bind, Option.bind_eq_some_iff] at e
  obtain ⟨⟨r1, g1⟩, h1, g2, h2, e⟩ := e
  cases e
  refine ⟨C, Hs, A, g, r1, g1, hK, hn, ok, h1, fun Hs1 A1 v1 H1 s1 p1 ok1 rel1 => ?_⟩
  rw [← hn] at h2
  obtain ⟨Hs2, A2, s2, ok2⟩ := ok1.setR (by rw [hn]; exact hi) rel1 h2
  have ok3 := ok2.cut
  rw [hn] at ok3
  exact q Hs2 _ _ H1 (s1.trans s2) ok3
/-- name = value -/
theorem zs_set {i : Nat} {x : Str} {e : Expr} {pos' : Pos} (hN : X.N.Nodup) (hi : X.N[i]? = some x) (hx : Loc X.env.scope x) (he : ZE X e m) (hs : swapsWith e (some (.Name x pos')) pos.line X.env = pure false := by rfl) (hf : X.fn x = true ∨ X.env.scope.names.lookup x = some .local := by first | exact .inl rfl | exact .inr rfl | assumption) :
    ZS X (.Assign [.Name x pos'] e pos) (zSet X.N.length i m) :=
  PS.of (ps_set hN hi hx he hs hf) fun D σ H h => set_of (List.getElem?_eq_some_iff.mp hi).1 h
def zAug (n i : Nat) (f : D → D → Option D) (m : ZM) : SM := fun g => do
  let (r0, _) ← zVar i g
  let d ← rd g r0
  if d.scal = true then do
    let (r, g1) ← m g
    let e ← rd g1 r
    let z ← f d e
    if z.scal = true then do
      let g2 ← setDat i z g1
      some (.nx, g2.take n)
    else none
  else none
abbrev TD := D → G → Option G
def tZG (K : PySem.W.Frag) (n : Nat) (tg : TD) : TG := fun v σ H Q => ∃ (C : Ct) (Hs : Hp) (A : List Addr) (g : G) (d : D) (g' : G), C.K = K ∧ C.n = n ∧ Ok C Hs A g σ H ∧ Dz K Hs v d ∧ tg d g = some g' ∧
  ∀ (σ' : L2.St), Ok C Hs A g' σ' H → Q σ' H
abbrev ZG (X : Cx) (e : Expr) (tg : TD) : Prop := PG X e (tZG X.K X.N.length tg)
abbrev TDs := List D → G → Option G
def tZGs (K : PySem.W.Frag) (n : Nat) (tg : TDs) : TGs := fun vs σ H Q => ∃ (C : Ct) (Hs : Hp) (A : List Addr) (g : G) (ds : List D) (g' : G), C.K = K ∧ C.n = n ∧ Ok C Hs A g σ H ∧ DzA K Hs vs ds ∧ tg ds g = some g' ∧
  ∀ (σ' : L2.St), Ok C Hs A g' σ' H → Q σ' H
abbrev ZGs (X : Cx) (es : List Expr) (tg : TDs) : Prop := PGs X es (tZGs X.K X.N.length tg)
theorem PG.of {e : Expr} {t t' : TG} (h : PG X e t) (w : ∀ v σ H Q, t' v σ H Q → t v σ H Q) : PG X e t' := ⟨fun pins s σ H v u Q I r q => h.run pins s σ H v u Q I r (w v σ H Q q)⟩
theorem PGs.of {es : List Expr} {t t' : TGs} (h : PGs X es t) (w : ∀ v σ H Q, t' v σ H Q → t v σ H Q) : PGs X es t' := ⟨fun pins s σ H v u Q I r q => h.run pins s σ H v u Q I r (w v σ H Q q)⟩
def gN (i : Nat) : TD := fun d g => setDat i d g
theorem zg_name {i : Nat} {x : Str} (hN : X.N.Nodup) (hi : X.N[i]? = some x) (hx : Loc X.env.scope x) (hf : X.fn x = true ∨ X.env.scope.names.lookup x = some .local := by first | exact .inl rfl | exact .inr rfl | assumption) : ZG X (.Name x pos) (gN i) := by
  refine PG.of (pg_name hN hi hx hf) fun v σ H Q ⟨C, Hs, A, g, d, g', hK, hn, ok, hd, e, q⟩ => ?_
  rw [← hK] at hd
  exact q _ (ok.set e (by rw [hn]; exact (List.getElem?_eq_some_iff.mp hi).1) hd)
def gNil' : TDs := fun ds g => match ds with
  | [] => some g
  | _ => none
def gCons' (t : TD) (u : TDs) : TDs := fun ds g => match ds with
  | d :: ds => do
    let g1 ← t d g
    u ds g1
  | [] => none
theorem zgs_nil : ZGs X [] gNil' := by
  refine PGs.of pgs_nil fun vs σ H Q ⟨C, Hs, A, g, ds, g', hK, hn, ok, hd, e, q⟩ => ?_
  cases ds with
  | nil =>
    cases hd
    cases e
    exact ⟨rfl, q σ ok⟩
  | cons _ _ => cases e
theorem zgs_cons {e : Expr} {es : List Expr} {t : TD} {u : TDs} (h1 : ZG X e t) (h2 : ZGs X es u)
    (hs : (assignEach (e :: es) X.env).map (·.2) = assign e X.env :: (assignEach es X.env).map (·.2) := by rfl) : ZGs X (e :: es) (gCons' t u) := by
  refine PGs.of (pgs_cons h1 h2 hs) fun vs σ H Q ⟨C, Hs, A, g, ds, g', hK, hn, ok, hd, e, q⟩ => ?_
  cases hd with
  | nil => cases e
  | cons h1 h2 =>
    simp only [gCons', Option.bind_eq_bind, Option.bind_eq_some_iff] at e
    obtain ⟨g1, e1, e2⟩ := e
    exact ⟨_, _, rfl, C, Hs, A, g, _, g1, hK, hn, ok, h1, e1, fun σ1 ok1 => ⟨C, Hs, A, g1, _, g', hK, hn, ok1, h2, e2, q⟩⟩
def gT (k : Nat) (u : TDs) : TD := fun d g => match d with
  | .tup ds => if ds.length = k then u ds g else none
  | _ => none
theorem zg_tup {es : List Expr} {j : Nat} {t : TDs} {k : Nat} (hc : X.calm = true) (h : ZGs X es t)
    (hn : (assignEach es X.env).length = k := by rfl) (hst : (assignEach es X.env).findIdx? (·.1) = none := by rfl) : ZG X (.Tuple es j pos) (gT k t) := by
  refine PG.of (pg_tup hc h hn hst) fun v σ H Q ⟨C, Hs, A, g, d, g', hK, hn, ok, hd, e, q⟩ => ?_
  cases hd with
  | tup hs ha =>
    simp only [gT] at e
    split at e
    · rename_i hl
      exact ⟨_, _, rfl, sameT ok.same hs, by rw [ha.length]; exact hl, C, Hs, A, g, _, g', hK, hn, ok, ha, e, q⟩
    · cases e
  | _ => cases e
/-- target = value -/
def zAsg (n : Nat) (m : ZM) (tg : TD) : SM := fun g => do
  let (r, g1) ← m g
  let (d, g2) ← frzR r g1
  let g3 ← tg d g2
  some (.nx, g3.take n)
theorem zs_asg {tg e : Expr} {g : TD} (he : ZE X e m) (hg : ZG X tg g) (hs : swapsWithSole [tg] e pos.line X.env = pure false := by rfl) (hw : swappedStores [tg] e X.env = pure none := by rfl)
    (h1 : (assignEach [tg] X.env).map (·.2) = [assign tg X.env] := by rfl) : ZS X (.Assign [tg] e pos) (zAsg X.N.length m g) := by
  refine PS.of (ps_asg he hg hs hw h1) fun D σ H ⟨C, Hs, A, g, fl, g', hK, hn, ok, e, q⟩ => ?_
  unfold zAsg at e
  simp only [Option.bind_eq_bind, Option.bind_eq_some_iff] at e
  obtain ⟨⟨r1, g1⟩, h1, ⟨d, g2⟩, h2, g3, h3, e⟩ := e
  cases e
  refine ⟨C, Hs, A, g, r1, g1, hK, hn, ok, h1, fun Hs1 A1 v1 H1 s1 p1 ok1 rel1 => ?_⟩
  obtain ⟨Hs2, s2, ok2, dz⟩ := ok1.frzR rel1 h2
  refine ⟨C, Hs2, A1, g2, d, g3, hK, hn, ok2, by rw [← hK]; exact dz, h3, fun σ' ok3 => ?_⟩
  have ok4 := ok3.cut
  rw [hn] at ok4
  exact q Hs2 _ _ H1 (s1.trans s2) ok4
def zApp (n : Nat) (mo me : ZM) : SM := fun g => do
  let (ro, g1) ← mo g
  match ro with
  | .bor j => match g1[j]? with
    | some (.own (.lst _) _ _) => do
      let (re, g2) ← me g1
      let (d, g3) ← frzR re g2
      match g3[j]? with
      | some (.own (.lst ds) p false) => if ds.length < sizeLine then some (.nx, (g3.set j (.own (.lst (ds ++ [d])) p false)).take n) else none
      | _ => none
    | _ => none
  | _ => none
theorem CnOk.lst_inv {K : PySem.W.Frag} {H : Hp} {ds : List D} {o : HO} (h : CnOk K H (.lst ds) o) : ∃ vs, o = .lst vs ∧ DzA K H vs ds := by
  cases o with
  | lst vs => exact ⟨vs, rfl, h⟩
  | _ => exact (show False from h).elim
/-- what stands at a borrowed list -/
theorem Ok.bor {C : Ct} {Hs : Hp} {A : List Addr} {g : G} {σ : L2.St} {H : Hp} {v : V} {j : Nat} {ds : List D} {p l : Bool} (ok : Ok C Hs A g σ H) (h : RelR C.K Hs A v (.bor j)) (e : g[j]? = some (.own (.lst ds) p l)) :
    ∃ a vs, v = .ref a ∧ A[j]? = some a ∧ H a = some (.lst vs) ∧ DzA C.K Hs vs ds := by
  obtain ⟨a, ha, rfl⟩ := (show ∃ a, A[j]? = some a ∧ v = .ref a from h)
  obtain ⟨a', o, w1, _, _, w4, w5, _⟩ := ok.own j _ _ _ e
  rw [ha] at w1
  have e1 : a = a' := Option.some.inj w1
  subst e1
  obtain ⟨vs, rfl, z⟩ := w5.lst_inv
  exact ⟨a, vs, rfl, ha, w4, z⟩
theorem zs_app {o e : Expr} {apos cpos : Pos} {mo me : ZM} (ho : ZE X o mo) (he : ZE X e me)
    (hbase : attributeBase o "append" X.env (eval o X.env) = eval o X.env := by rfl)
    (hfew : ((backTo cpos (starEach [e] X.env)).all (fun x => !x.1) && (backToKw cpos (keywordEach [] X.env)).all (fun x => x.1.isSome)
      && decide ([e].length + ([] : List Keyword).length + (if ([] : List Keyword).isEmpty then 0 else 1) < 30)) = true := by rfl)
    (hline : (apos.endLine == cpos.line) = true := by rfl) (hs : starEach [e] X.env = (false, eval e X.env) :: starEach [] X.env := by rfl) (hplain : (backTo cpos (starEach [] X.env)).any (·.1) = false := by rfl)
    (hsw : swapsWith (.Call (.Attribute o "append" apos) [e] [] cpos) none pos.line X.env = pure false := by rfl) :
    ZS X (.Expr (.Call (.Attribute o "append" apos) [e] [] cpos) pos) (zApp X.N.length mo me) := by
  refine PS.of (ps_expr (pe_bm PySem.F.plainAttrs_list PySem.F.slot_list_append PySem.F.type_list_append mt_append ho (pa_cons he pa_nil hs) hbase hfew hline hs hplain) hsw) fun D σ H ⟨C, Hs, A, g, fl, g', hK, hn, ok, e, q⟩ => ?_
  unfold zApp at e
  simp only [Option.bind_eq_bind, Option.bind_eq_some_iff] at e
  obtain ⟨⟨ro, g1⟩, h1, e⟩ := e
  cases ro with
  | dat d => cases e
  | bor j =>
    simp only at e
    split at e
    · rename_i ds0 p0 l0 hg0
      simp only [Option.bind_eq_some_iff] at e
      obtain ⟨⟨re, g2⟩, h2, ⟨d, g3⟩, h3, e⟩ := e
      split at e
      · rename_i ds p hg
        split at e
        · rename_i hz
          cases e
          refine ⟨C, Hs, A, g, _, g1, hK, hn, ok, h1, fun Hs1 A1 v1 H1 s1 p1 ok1 rel1 => ?_⟩
          obtain ⟨a, ys, ev, _, hH, _⟩ := ok1.bor rel1 hg0
          subst ev
          refine ⟨.inl ⟨rfl, ys, SqL.of hH⟩, C, Hs1, A1, g1, re, g2, hK, hn, ok1, h2, fun Hs2 A2 v2 H2 s2 p2 ok2 rel2 => ?_⟩
          obtain ⟨Hs3, s3, ok3, dz⟩ := ok2.frzR rel2 h3
          obtain ⟨a', vs, ea, hA, hH3, hz3⟩ := ok3.bor (rel1.mono (s2.trans s3) p2) hg
          cases ea
          refine ⟨a, vs, v2, rfl, rfl, hH3, by rw [hz3.length]; exact hz, ?_⟩
          have ok4 := (ok3.wr (o := .lst (vs ++ [v2])) (c' := .lst (ds ++ [d])) hg hA (show DzA C.K Hs3 (vs ++ [v2]) (ds ++ [d]) from hz3.append (.cons dz .nil))).cut
          rw [hn] at ok4
          exact q Hs3 _ σ _ ((s1.trans s2).trans s3) ok4
        · cases e
      · cases e
    · cases e
def isI : R → Option Int
  | .dat (.int i) => some i
  | _ => none
theorem isI_some {r : R} {b : Int} (h : isI r = some b) : r = .dat (.int b) := by
  unfold isI at h
  split at h
  · cases h; rfl
  · cases h
/-- xs[i] = e -/
def zSto (n : Nat) (mo mi me : ZM) : SM := fun g => do
  let (re, g1) ← me g
  let (d, g2) ← frzR re g1
  let (ro, g3) ← mo g2
  match ro with
  | .bor j => do
    let (ri, g4) ← mi g3
    let k ← isI ri
    match g4[j]? with
    | some (.own (.lst ds) p false) => match ixN ds.length k with
      | some m => some (.nx, (g4.set j (.own (.lst (ds.set m d)) p false)).take n)
      | none => none
    | _ => none
  | _ => none
theorem zs_sto {o i e : Expr} {tpos : Pos} {mo mi me : ZM} (he : ZE X e me) (ho : ZE X o mo) (hi : ZE X i mi)
    (ha : ∀ v, assign (.Subscript o i tpos) X.env v = (do
      let ov ← holding [v] (eval o X.env)
      let iv ← holding [v, ov] (eval i X.env)
      standAt tpos
      holding [v, ov, iv] (setItem ov iv v)
      release [v, ov, iv] []) := by intro _; rfl)
    (hs : swapsWithSole [.Subscript o i tpos] e pos.line X.env = pure false := by rfl) (hw : swappedStores [.Subscript o i tpos] e X.env = pure none := by rfl)
    (h1 : (assignEach [.Subscript o i tpos] X.env).map (·.2) = [assign (.Subscript o i tpos) X.env] := by rfl) : ZS X (.Assign [.Subscript o i tpos] e pos) (zSto X.N.length mo mi me) := by
  refine PS.of (ps_asg he (pg_sub ho hi set_list ha) hs hw h1) fun W σ H ⟨C, Hs, A, g, fl, g', hK, hn, ok, e, q⟩ => ?_
  unfold zSto at e
  simp only [Option.bind_eq_bind, Option.bind_eq_some_iff] at e
  obtain ⟨⟨re, g1⟩, h1, ⟨d, g2⟩, h2, ⟨ro, g3⟩, h3, e⟩ := e
  cases ro with
  | dat d => cases e
  | bor j =>
    simp only [Option.bind_eq_some_iff] at e
    obtain ⟨⟨ri, g4⟩, h4, k, hk, e⟩ := e
    have ei : ri = .dat (.int k) := isI_some hk
    subst ei
    split at e
    · rename_i ds p hg
      split at e
      · rename_i m hm
        cases e
        refine ⟨C, Hs, A, g, re, g1, hK, hn, ok, h1, fun Hs1 A1 v1 H1 s1 p1 ok1 rel1 => ?_⟩
        obtain ⟨Hs2, s2, ok2, dz⟩ := ok1.frzR rel1 h2
        refine ⟨C, Hs2, A1, g2, _, g3, hK, hn, ok2, h3, fun Hs3 A3 v3 H3 s3 p3 ok3 rel3 => ?_⟩
        refine ⟨C, Hs3, A3, g3, _, _, hK, hn, ok3, h4, fun Hs4 A4 v4 H4 s4 p4 ok4 rel4 => ?_⟩
        have ek : v4 = .int k := (show Dz C.K Hs4 v4 (.int k) from rel4).v rfl
        subst ek
        obtain ⟨a, vs, ev, hA, hH, hz⟩ := ok4.bor (rel3.mono s4 p4) hg
        subst ev
        refine ⟨a, vs, k, m, rfl, rfl, hH, by rw [hz.length]; exact hm, ?_⟩
        have ok5 := (ok4.wr (o := .lst (vs.set m v1)) (c' := .lst (ds.set m d)) hg hA (show DzA C.K Hs4 (vs.set m v1) (ds.set m d) from DzA.set ((dz.mono s3).mono s4) m hz)).cut
        rw [hn] at ok5
        exact q Hs4 _ σ _ (((s1.trans s2).trans s3).trans s4) ok5
      · cases e
    · cases e
end
end Z
set_option Elab.async false
set_option linter.all false
set_option maxRecDepth 100000
set_option maxHeartbeats 4000000
namespace Z
open PySem PySem.Spec PyProof.Rows L2
/-- the source of a walk still stands -/
def Src (K : PySem.W.Frag) (Hs0 : Hp) : Option (Addr × Cn) → Hp → Hp → Prop
  | none, Hs, H => Same Hs0 Hs ∧ Same Hs H
  | some (a, c), Hs, H => ∃ o, H a = some o ∧ CnOk K Hs c o
structure JW (K : PySem.W.Frag) (J : It) (L : List D) (St : Hp → Hp → Prop) : Prop where
  stop : ∀ Hs H (i : Nat), St Hs H → L.length ≤ i → J.stop i H
  go : ∀ Hs H (i : Nat), St Hs H → i < L.length → J.go i H
  yld : ∀ (C : Ct) (Hs : Hp) (A : List Addr) (g : G) (σ : L2.St) (H : Hp) (i : Nat) (x : V) (H' : Hp), C.K = K → Ok C Hs A g σ H → St Hs H → i < L.length → J.yld i H x H' →
    ∃ d Hs', L[i]? = some d ∧ Same Hs Hs' ∧ Ok C Hs' A g σ H' ∧ Dz K Hs' x d
def LkOk (n : Nat) (A : List Addr) (g : G) : Option Nat → Option (Addr × Cn) → Prop
  | none, none => True
  | some j, some (a, c) => A[j]? = some a ∧ (∃ p l, g[j]? = some (.own c p l)) ∧ j < n
  | _, _ => False
abbrev MI := G → Option (List D × Option Nat × G)
def tZI (K : PySem.W.Frag) (n : Nat) (mi : MI) : TI := fun σ H Rr => ∃ (C : Ct) (Hs : Hp) (A : List Addr) (g : G) (L : List D) (lk : Option Nat) (g' : G), C.K = K ∧ C.n = n ∧ Ok C Hs A g σ H ∧ mi g = some (L, lk, g') ∧
  ∀ (Hs' : Hp) (A' : List Addr) (H' : Hp) (J : It) (lk' : Option (Addr × Cn)), Same Hs Hs' → Pre A A' → Ok C Hs' A' g' σ H' → LkOk n A' g' lk lk' → JW K J L (Src K Hs' lk') → Rr J H'
abbrev ZI (X : Cx) (tg iter : Expr) (mi : MI) : Prop := PI X tg iter (tZI X.K X.N.length mi)
theorem PI.of {X : Cx} {tg iter : Expr} {t t' : TI} (h : PI X tg iter t) (w : ∀ σ H Rr, t' σ H Rr → t σ H Rr) : PI X tg iter t' := ⟨fun pins s σ H Rr I q => h.run pins s σ H Rr I (w σ H Rr q)⟩
def ziB (n j : Nat) (g1 : G) : Option (List D × Option Nat × G) := if j < n then
    (match g1[j]? with
    | some (.own (.lst L) _ _) => some (L, some j, g1)
    | some (.frz (.lst L)) => some (L, none, g1)
    | some (.rws ls) => some (ls.map D.lst, none, g1.set j (.frz (.lst (ls.map D.lst))))
    | _ => none)
  else (match frzAt j g1 with
    | some (.lst L, g2) => some (L, none, g2)
    | _ => none)
def ziL (n : Nat) (m : ZM) : MI := fun g => do
  let (r, g1) ← m g
  match r with
  | .dat (.lst L) => some (L, none, g1)
  | .bor j => ziB n j g1
  | _ => none
theorem jw_list {K : PySem.W.Frag} {Hs0 : Hp} {a : Addr} {vs : List V} {L : List D} (h : SqL K Hs0 a vs) (hz : DzA K Hs0 vs L) : JW K (Itl K a) L (Src K Hs0 none) where
  stop := fun Hs H i st hi => ⟨vs, (st.1.trans st.2).seq h, by rw [hz.length]; exact hi⟩
  go := fun Hs H i st hi => by
    have hv : i < vs.length := by rw [hz.length]; exact hi
    exact ⟨vs, vs[i], (st.1.trans st.2).seq h, List.getElem?_eq_getElem hv⟩
  yld := fun C Hs A g σ H i x H' hK ok st hi y => by
    obtain ⟨rfl, y⟩ := y
    obtain ⟨d, h1, h2⟩ := (hz.mono st.1).getV (y vs ((st.1.trans st.2).seq h))
    exact ⟨d, Hs, h1, Same.refl _, ok, h2⟩
theorem jw_own {K : PySem.W.Frag} {Hs0 : Hp} {a : Addr} {L : List D} : JW K (Itl K a) L (Src K Hs0 (some (a, .lst L))) where
  stop := fun Hs H i st hi => by
    obtain ⟨o, h1, h2⟩ := st
    obtain ⟨vs, rfl, hz⟩ := h2.lst_inv
    exact ⟨vs, SqL.of h1, by rw [hz.length]; exact hi⟩
  go := fun Hs H i st hi => by
    obtain ⟨o, h1, h2⟩ := st
    obtain ⟨vs, rfl, hz⟩ := h2.lst_inv
    have hv : i < vs.length := by rw [hz.length]; exact hi
    exact ⟨vs, vs[i], SqL.of h1, List.getElem?_eq_getElem hv⟩
  yld := fun C Hs A g σ H i x H' hK ok st hi y => by
    obtain ⟨o, h1, h2⟩ := st
    obtain ⟨vs, rfl, hz⟩ := h2.lst_inv
    obtain ⟨rfl, y⟩ := y
    obtain ⟨d, w1, w2⟩ := hz.getV (y vs (SqL.of h1))
    exact ⟨d, Hs, w1, Same.refl _, ok, w2⟩
section
variable {X : Cx} {pos : Pos} {tg : Expr} {m : ZM}
theorem zi_list {l : Expr} (hl : ZE X l m) : ZI X tg l (ziL X.N.length m) := by
  refine PI.of (pi_list hl) fun σ H Rr ⟨C, Hs, A, g, L, lk, g', hK, hn, ok, e, q⟩ => ?_
  unfold ziL at e
  simp only [Option.bind_eq_bind, Option.bind_eq_some_iff] at e
  obtain ⟨⟨r, g1⟩, h1, e⟩ := e
  refine ⟨C, Hs, A, g, r, g1, hK, hn, ok, h1, fun Hs1 A1 v1 H1 s1 p1 ok1 rel1 => ?_⟩
  cases r with
  | dat d =>
    cases d with
    | lst L' =>
      cases e
      have hd : Dz C.K Hs1 v1 (.lst L) := rel1
      rw [hK] at hd
      cases hd with
      | lst hs ha => exact ⟨_, rfl, ⟨_, ok1.same.seq hs⟩, q Hs1 A1 H1 _ none s1 p1 ok1 trivial (jw_list hs ha)⟩
    | _ => cases e
  | bor j =>
    obtain ⟨a, ha, rfl⟩ := (show ∃ a, A1[j]? = some a ∧ v1 = .ref a from rel1)
    simp only [ziB] at e
    split at e
    · rename_i hj
      split at e
      · rename_i L' p l hg
        cases e
        obtain ⟨a', vs, ev, hA, hH, hz⟩ := ok1.bor rel1 hg
        cases ev
        refine ⟨a, rfl, ⟨vs, SqL.of hH⟩, q Hs1 A1 H1 _ (some (a, .lst L)) s1 p1 ok1 ⟨ha, ⟨p, l, hg⟩, hj⟩ jw_own⟩
      · rename_i L' hg
        cases e
        obtain ⟨a', w1, _, hd⟩ := ok1.frz j _ hg
        rw [ha] at w1
        cases w1
        rw [hK] at hd
        cases hd with
        | lst hs hz => exact ⟨a, rfl, ⟨_, ok1.same.seq hs⟩, q Hs1 A1 H1 _ none s1 p1 ok1 trivial (jw_list hs hz)⟩
      · rename_i ls hg
        cases e
        obtain ⟨Hs2, a', s2, ok2, w1, hd⟩ := ok1.frzAt (d := .lst (ls.map D.lst)) (g' := g1.set j (.frz (.lst (ls.map D.lst)))) (by unfold Z.frzAt; rw [hg])
        rw [ha] at w1
        cases w1
        rw [hK] at hd
        cases hd with
        | lst hs hz => exact ⟨a, rfl, ⟨_, ok2.same.seq hs⟩, q Hs2 A1 H1 _ none (s1.trans s2) p1 ok2 trivial (jw_list hs hz)⟩
      · cases e
    · split at e
      · rename_i L' g2 h2
        cases e
        obtain ⟨Hs2, a', s2, ok2, w1, hd⟩ := ok1.frzAt h2
        rw [ha] at w1
        cases w1
        rw [hK] at hd
        cases hd with
        | lst hs hz => exact ⟨a, rfl, ⟨_, ok2.same.seq hs⟩, q Hs2 A1 H1 _ none (s1.trans s2) p1 ok2 trivial (jw_list hs hz)⟩
      · cases e
def ziT (m : ZM) : MI := fun g => do
  let (r, g1) ← m g
  match r with
  | .dat (.tup L) => some (L, none, g1)
  | _ => none
theorem zi_tup {l : Expr} (hl : ZE X l m) : ZI X tg l (ziT m) := by
  refine PI.of (pi_tup hl) fun σ H Rr ⟨C, Hs, A, g, L, lk, g', hK, hn, ok, e, q⟩ => ?_
  unfold ziT at e
  simp only [Option.bind_eq_bind, Option.bind_eq_some_iff] at e
  obtain ⟨⟨r, g1⟩, h1, e⟩ := e
  refine ⟨C, Hs, A, g, r, g1, hK, hn, ok, h1, fun Hs1 A1 v1 H1 s1 p1 ok1 rel1 => ?_⟩
  cases r with
  | bor j => cases e
  | dat d =>
    cases d with
    | tup L' =>
      cases e
      have hd : Dz C.K Hs1 v1 (.tup L) := rel1
      rw [hK] at hd
      cases hd with
      | tup hs ha =>
        rename_i a vs
        refine ⟨a, rfl, ⟨vs, sameT ok1.same hs⟩, q Hs1 A1 H1 _ none s1 p1 ok1 trivial ⟨fun Hs H i st hi => ⟨vs, sameT (st.1.trans st.2) hs, by rw [ha.length]; exact hi⟩, fun Hs H i st hi => ?_, fun C Hs A g σ H i x H' hK ok st hi y => ?_⟩⟩
        · have hv : i < vs.length := by rw [ha.length]; exact hi
          exact ⟨vs, vs[i], sameT (st.1.trans st.2) hs, List.getElem?_eq_getElem hv⟩
        · obtain ⟨rfl, y⟩ := y
          obtain ⟨d, h1, h2⟩ := (ha.mono st.1).getV (y vs (sameT (st.1.trans st.2) hs))
          exact ⟨d, Hs, h1, Same.refl _, ok, h2⟩
    | _ => cases e
/-- lo, lo + 1, .. -/
def rgD (lo : Int) (n : Nat) : List D := (List.range n).map fun (i : Nat) => D.int (lo + (i : Int))
theorem rgD_len (lo : Int) (n : Nat) : (rgD lo n).length = n := by simp [rgD]
theorem rgD_get {lo : Int} {n i : Nat} (h : i < n) : (rgD lo n)[i]? = some (.int (lo + (i : Int))) := by simp [rgD, h]
theorem jw_range {K : PySem.W.Frag} {lo : Int} {n : Nat} {St : Hp → Hp → Prop} : JW K (Itr lo n) (rgD lo n) St where
  stop := fun Hs H i _ hi => by rw [rgD_len] at hi; exact hi
  go := fun Hs H i _ hi => by rw [rgD_len] at hi; exact hi
  yld := fun C Hs A g σ H i x H' hK ok st hi y => by
    rw [rgD_len] at hi
    obtain ⟨rfl, rfl⟩ := y
    exact ⟨_, Hs, rgD_get hi, Same.refl _, ok, .int _⟩
def rgOk (i : Int) : Bool := decide (-(2 ^ 62) ≤ i) && decide (i < 2 ^ 62)
def ziR1 (ma : ZAr) : MI := fun g => do
  let (rs, g1) ← ma g
  match rs with
  | [.dat (.int j)] => if rgOk j = true then some (rgD 0 j.toNat, none, g1) else none
  | _ => none
theorem rgOk_ok {i : Int} (h : rgOk i = true) : -(2 ^ 62) ≤ i ∧ i < 2 ^ 62 := by
  unfold rgOk at h
  rw [Bool.and_eq_true] at h
  exact ⟨of_decide_eq_true h.1, of_decide_eq_true h.2⟩
theorem relRs1 {K : PySem.W.Frag} {Hs : Hp} {A : List Addr} {vs : List V} {r : R} (h : RelRs K Hs A vs [r]) : ∃ v, vs = [v] ∧ RelR K Hs A v r := by
  cases vs with
  | nil => exact h.elim
  | cons v vs =>
    cases vs with
    | nil => exact ⟨v, rfl, h.1⟩
    | cons _ _ => exact h.2.elim
variable {a b : Expr} {ma : ZAr} {p : Pos}
theorem zi_range1 (hg : Gl X "range") (hm : X.mg "range" = none) (ha : ZAs X [a] ma) (hs : starEach [a] X.env = [(false, eval a X.env)] := by rfl) : ZI X tg (.Call (.Name "range" p) [a] [] pos) (ziR1 ma) := by
  refine PI.of (pi_range1 hg hm ha hs) fun σ H Rr ⟨C, Hs, A, g, L, lk, g', hK, hn, ok, e, q⟩ => ?_
  unfold ziR1 at e
  simp only [Option.bind_eq_bind, Option.bind_eq_some_iff] at e
  obtain ⟨⟨rs, g1⟩, h1, e⟩ := e
  refine ⟨C, Hs, A, g, rs, g1, hK, hn, ok, h1, fun Hs1 A1 vs H1 s1 p1 ok1 rel1 => ?_⟩
  simp only at e
  split at e
  · rename_i j
    split at e
    · rename_i hj
      cases e
      obtain ⟨v, rfl, w⟩ := relRs1 rel1
      have ev : v = .int j := (show Dz C.K Hs1 v (.int j) from w).v rfl
      subst ev
      exact ⟨j, rfl, (rgOk_ok hj).1, (rgOk_ok hj).2, q Hs1 A1 H1 _ none s1 p1 ok1 trivial jw_range⟩
    · cases e
  · cases e
def forL (tg : TD) (body : SM) : List D → SM
  | [], g => some (.nx, g)
  | x :: xs, g => do
    let g1 ← tg x g
    let (fl, g2) ← body g1
    match fl with
    | .nx => forL tg body xs g2
    | .ct => forL tg body xs g2
    | .bk => some (.nx, g2)
    | .ret r => some (.ret r, g2)
def unlk (j : Nat) (l : Bool) (g : G) : G := match g[j]? with
  | some (.own c p _) => g.set j (.own c p l)
  | _ => g
def zFor (n : Nat) (mi : MI) (tg : TD) (body : SM) : SM := fun g => do
  let (L, lk, g1) ← mi g
  match lk with
  | none => forL tg body L (g1.take n)
  | some j => match (g1.take n)[j]? with
    | some (.own c p l) => do
      let (fl, g3) ← forL tg body L ((g1.take n).set j (.own c p true))
      some (fl, unlk j l g3)
    | _ => none
def Ct.lock (C : Ct) (q : Nat × Addr × Cn) (h : q.1 < C.n) : Ct := { C with
  locks := q :: C.locks
  llt := fun r hr => by
    rcases List.mem_cons.mp hr with rfl | hr
    · exact h
    · exact C.llt r hr }
/-- the walk itself -/
theorem for_of {tgd : TD} {body : SM} {W : Ends} {C : Ct} {Hs1 : Hp} {A1 : List Addr} {g2 g3 : G} {σ : L2.St} {H1 : Hp} {L : List D} {J : It} {lk' : Option (Addr × Cn)} {fl : Fl} {K : PySem.W.Frag} {n : Nat} (hK : C.K = K) (hn : C.n = n)
    (ok : Ok C Hs1 A1 g2 σ H1) (jw : JW K J L (Src K Hs1 lk')) (hl : ∀ a c, lk' = some (a, c) → ∃ j, (j, a, c) ∈ C.locks) (e : forL tgd body L g2 = some (fl, g3)) (q : FlP C Hs1 g3 W fl) :
    ∃ Wi : Nat → Nat → L2.St → Hp → Prop, (∃ m, Wi 0 m σ H1) ∧ ∀ i m σ H, Wi i m σ H →
      (J.stop i H ∧ W.nx σ H) ∨ (J.go i H ∧ ∃ N : L2.St → Hp → Prop, (∀ σ' H', N σ' H' → ∃ m', m' < m ∧ Wi (i + 1) m' σ' H') ∧ ∀ x H', J.yld i H x H' → tZG K n tgd x σ H' fun σ2 H2 => tZS K n body { W with nx := N, ct := N, bk := W.nx } σ2 H2) := by
  have src : ∀ {Hs A g σ H}, Same Hs1 Hs → Ok C Hs A g σ H → Src K Hs1 lk' Hs H := fun {Hs A g σ H} s ok => by
    cases lk' with
    | none => exact ⟨s, ok.same⟩
    | some ac =>
      obtain ⟨a, c⟩ := ac
      obtain ⟨j, hj⟩ := hl a c rfl
      obtain ⟨p, h1, h2⟩ := ok.locked _ hj
      obtain ⟨a', o, w1, _, _, w4, w5, _⟩ := ok.own j c p true h1
      have : some a = some a' := h2.symm.trans w1
      cases this
      exact ⟨o, w4, by rw [← hK]; exact w5⟩
  refine ⟨fun i m σ H => m = L.length - i ∧ i ≤ L.length ∧ ∃ Hs A g, Same Hs1 Hs ∧ Ok C Hs A g σ H ∧ forL tgd body (L.drop i) g = some (fl, g3), ⟨L.length, by simp, Nat.zero_le _, Hs1, A1, g2, Same.refl _, ok, by simpa using e⟩, ?_⟩
  rintro i m σ H ⟨rfl, hi, Hs, A, g, s, ok, e⟩
  by_cases hlt : i < L.length
  · refine .inr ⟨jw.go Hs H i (src s ok) hlt, ?_⟩
    rw [List.drop_eq_getElem_cons hlt] at e
    simp only [forL, Option.bind_eq_bind, Option.bind_eq_some_iff] at e
    obtain ⟨ga, e1, ⟨flb, gb⟩, e2, e3⟩ := e
    have fin : ∀ (N : L2.St → Hp → Prop), (∀ Hs', Same Hs Hs' → FlP C Hs' gb { W with nx := N, ct := N, bk := W.nx } flb) → ∀ x H', J.yld i H x H' → tZG K n tgd x σ H' fun σ2 H2 => tZS K n body { W with nx := N, ct := N, bk := W.nx } σ2 H2 := fun N hf x H' y => by
      obtain ⟨d, Hs', hd, s', ok', dz⟩ := jw.yld C Hs A g σ H i x H' hK ok (src s ok) hlt y
      rw [List.getElem?_eq_getElem hlt] at hd
      cases hd
      exact ⟨C, Hs', A, g, _, ga, hK, hn, ok', dz, e1, fun σ2 ok2 => ⟨C, Hs', A, ga, flb, gb, hK, hn, ok2, e2, hf Hs' s'⟩⟩
    cases flb with
    | nx =>
      refine ⟨fun σ' H' => ∃ Hs' A', Same Hs1 Hs' ∧ Ok C Hs' A' gb σ' H', fun σ' H' ⟨Hs', A', s', ok'⟩ => ⟨L.length - (i + 1), by omega, rfl, hlt, Hs', A', gb, s', ok', e3⟩, fin _ fun Hs' s' => ?_⟩
      exact fun Hs2 A2 σ2 H2 s2 ok2 => ⟨Hs2, A2, (s.trans s').trans s2, ok2⟩
    | ct =>
      refine ⟨fun σ' H' => ∃ Hs' A', Same Hs1 Hs' ∧ Ok C Hs' A' gb σ' H', fun σ' H' ⟨Hs', A', s', ok'⟩ => ⟨L.length - (i + 1), by omega, rfl, hlt, Hs', A', gb, s', ok', e3⟩, fin _ fun Hs' s' => ?_⟩
      exact fun Hs2 A2 σ2 H2 s2 ok2 => ⟨Hs2, A2, (s.trans s').trans s2, ok2⟩
    | bk =>
      refine ⟨fun _ _ => False, fun _ _ z => z.elim, fin _ fun Hs' s' => ?_⟩
      cases e3
      exact fun Hs2 A2 σ2 H2 s2 ok2 => q Hs2 A2 σ2 H2 ((s.trans s').trans s2) ok2
    | ret r =>
      refine ⟨fun _ _ => False, fun _ _ z => z.elim, fin _ fun Hs' s' => ?_⟩
      cases e3
      exact fun Hs2 A2 σ2 H2 v s2 ok2 => q Hs2 A2 σ2 H2 v ((s.trans s').trans s2) ok2
  · have ei : i = L.length := by omega
    subst ei
    rw [List.drop_length] at e
    cases e
    exact .inl ⟨jw.stop Hs H _ (src s ok) (Nat.le_refl _), q Hs A σ H s ok⟩
theorem FlP.of {C C' : Ct} {Hs : Hp} {g g' : G} {W : Ends} {fl : Fl} (hK : C'.K = C.K) (h : ∀ Hs' A' σ' H', Ok C' Hs' A' g' σ' H' → Ok C Hs' A' g σ' H') (q : FlP C Hs g W fl) : FlP C' Hs g' W fl := by
  cases fl with
  | nx => exact fun Hs' A' σ' H' s ok => q Hs' A' σ' H' s (h _ _ _ _ ok)
  | bk => exact fun Hs' A' σ' H' s ok => q Hs' A' σ' H' s (h _ _ _ _ ok)
  | ct => exact fun Hs' A' σ' H' s ok => q Hs' A' σ' H' s (h _ _ _ _ ok)
  | ret r => exact fun Hs' A' σ' H' v s ok rel => q Hs' A' σ' H' v s (h _ _ _ _ ok) (by rw [← hK]; exact rel)
theorem zs_for {iter : Expr} {body : List Stmt} {mi : MI} {g : TD} {s : SM} (hp : PassesOwn (model X.prog X.w) X.A X.env X.xe) (hc : X.calm = true) (hi : ZI X tg iter mi) (hg : ZG X tg g) (hb : ZSs X body s)
    (hs : ∀ x, foldedSetIterable iter X.env x = pure x := by intro _; rfl) : ZS X (.For tg iter body [] pos) (zFor X.N.length mi g s) := by
  refine PS.of (ps_for hp hc hi hg hb hs) fun W σ H ⟨C, Hs, A, g, fl, g', hK, hn, ok, e, q⟩ => ?_
  unfold zFor at e
  simp only [Option.bind_eq_bind, Option.bind_eq_some_iff] at e
  obtain ⟨⟨L, lk, g1⟩, h1, e⟩ := e
  refine ⟨C, Hs, A, g, L, lk, g1, hK, hn, ok, h1, fun Hs1 A1 H1 J lk' s1 _p1 ok1 hl jw => ?_⟩
  have okc := ok1.cut
  rw [hn] at okc
  cases lk with
  | none =>
    cases lk' with
    | some _ => exact hl.elim
    | none =>
      exact for_of hK hn okc jw (fun _ _ z => by cases z) e (q.mono s1)
  | some j =>
    cases lk' with
    | none => exact hl.elim
    | some ac =>
      obtain ⟨a, c⟩ := ac
      obtain ⟨ha, ⟨p0, l0, hgj⟩, hj⟩ := hl
      simp only at e
      split at e
      · rename_i c' p l hg2
        rw [List.getElem?_take_of_lt hj, hgj] at hg2
        cases hg2
        simp only [Option.bind_eq_some_iff] at e
        obtain ⟨⟨fl1, g3⟩, e1, e2⟩ := e
        cases e2
        have hgc : (g1.take X.N.length)[j]? = some (.own c p0 l0) := by rw [List.getElem?_take_of_lt hj]; exact hgj
        have hac : (A1.take X.N.length)[j]? = some a := by rw [List.getElem?_take_of_lt hj]; exact ha
        have hjn : j < C.n := by rw [hn]; exact hj
        have okl : Ok (C.lock (j, a, c) hjn) Hs1 (A1.take X.N.length) ((g1.take X.N.length).set j (.own c p0 true)) σ H1 := by
          refine okc.lk hgc rfl rfl rfl rfl rfl fun r hr => ?_
          rcases List.mem_cons.mp hr with rfl | hr
          · exact .inl ⟨rfl, rfl, rfl, hac⟩
          · by_cases z : r.1 = j
            · obtain ⟨p', w1, w2⟩ := okc.locked r hr
              rw [z, hgc] at w1
              cases w1
              rw [z] at w2
              exact .inl ⟨z, rfl, rfl, w2⟩
            · exact .inr ⟨z, hr⟩
        refine for_of (C := C.lock (j, a, c) hjn) hK hn okl jw (fun a' c' z => ⟨j, by cases z; exact List.mem_cons_self⟩) e1 ?_
        refine (q.mono s1).of (C := C) rfl fun Hs' A' σ' H' ok' => ?_
        obtain ⟨p', w1, w2⟩ := ok'.locked (j, a, c) List.mem_cons_self
        unfold unlk
        rw [show g3[j]? = some (.own c p' true) from w1]
        refine ok'.lk (C' := C) w1 rfl rfl rfl rfl rfl fun r hr => ?_
        by_cases z : r.1 = j
        · obtain ⟨p2, y1, y2⟩ := okc.locked r hr
          rw [z, hgc] at y1
          have e3 : some (Sl.own c p0 l0) = some (.own r.2.2 p2 true) := y1
          cases e3
          obtain ⟨p3, x1, x2⟩ := ok'.locked r (List.mem_cons_of_mem _ hr)
          rw [z] at x2
          exact .inl ⟨z, rfl, rfl, x2⟩
        · exact .inr ⟨z, List.mem_cons_of_mem _ hr⟩
      · cases e
end
end Z
set_option Elab.async false
set_option linter.all false
set_option maxRecDepth 100000
set_option maxHeartbeats 4000000
namespace Z
open PySem PySem.Spec PyProof.Rows L2
/-- what a def hands back: data, or a new container -/
inductive FR where
  | dat (d : D) | new (c : Cn) | newR (ls : List (List D))
  deriving Inhabited
def RelF (K : PySem.W.Frag) (Hs' H H' : Hp) (v : V) : FR → Prop
  | .dat d => Dz K Hs' v d
  | .new c => ∃ a o, v = .ref a ∧ H a = none ∧ Hs' a = none ∧ H' a = some o ∧ CnOk K Hs' c o
  | .newR ls => ∃ a ks, v = .ref a ∧ Kd K Hs' H H' a ks ls
/-- the promise of a def that changes nothing -/
def spP (K : PySem.W.Frag) (f : List D → Option FR) : Sp := fun vs H Q _ => ∃ (Hs : Hp) (ds : List D) (fr : FR), Same Hs H ∧ DzA K Hs vs ds ∧ f ds = some fr ∧
  ∀ (v : V) (Hs' H' : Hp), Same Hs Hs' → Same H H' → Same Hs' H' → (∀ b o, Hs' b = some o → Hs b = some o ∨ H b = none) → RelF K Hs' H H' v fr → Q v H'
def fin (g : G) : R → Option FR
  | .dat d => some (.dat d)
  | .bor j => match g[j]? with
    | some (.own c false false) => some (.new c)
    | some (.frz d) => some (.dat d)
    | some (.rws ls) => some (.newR ls)
    | _ => none
def start0 (n : Nat) (ds : List D) : G := ds.map Sl.dat ++ List.replicate (n - ds.length) .un
def runP (n np : Nat) (s : SM) : List D → Option FR := fun ds => if ds.length = np then
    (match s (start0 n ds) with
    | some (.ret r, g) => fin g r
    | some (.nx, _) => some (.dat .non)
    | _ => none)
  else none
theorem start_len {N : List Str} {vs : List V} (h : vs.length ≤ N.length) : (L2.start N vs).length = N.length := by
  unfold L2.start
  rw [List.length_append, List.length_map, List.length_replicate]
  omega
theorem ok_start {K : PySem.W.Frag} {N : List Str} {Hs H : Hp} {vs : List V} {ds : List D} (h : ds.length ≤ N.length) (s : Same Hs H) (hz : DzA K Hs vs ds) :
    Ok { K := K, n := N.length, H0 := H, Hs0 := Hs, pins := [], locks := [], plt := fun _ h => (List.not_mem_nil h).elim, llt := fun _ h => (List.not_mem_nil h).elim } Hs (List.replicate N.length 0) (start0 N.length ds) (L2.start N vs) H := by
  have hvl := hz.length
  have old : ∀ (i : Nat) (t : Sl), (start0 N.length ds)[i]? = some t → (∃ d, ds[i]? = some d ∧ t = .dat d) ∨ t = .un := fun i t e => by
    unfold start0 at e
    by_cases hi : i < ds.length
    · rw [List.getElem?_append_left (by simpa using hi), List.getElem?_map] at e
      rw [List.getElem?_eq_getElem hi] at e
      exact .inl ⟨ds[i], List.getElem?_eq_getElem hi, (Option.some.inj e).symm⟩
    · rw [List.getElem?_append_right (by simpa using hi), List.getElem?_replicate] at e
      split at e
      · exact .inr (Option.some.inj e).symm
      · cases e
  refine ⟨start_len (by omega), by unfold start0; simp; omega, by unfold start0; simp; omega, Same.refl _, s, fun i d e => ?_, fun i d e => ?_, fun i c p l e => ?_, fun i j c p l c' p' l' a e _ _ _ => ?_, fun b o e => .inl e, fun b o e _ => e, fun _ h => (List.not_mem_nil h).elim, fun i c l a e _ => ?_, fun _ h => (List.not_mem_nil h).elim, fun i ls e => ?_⟩
  · rcases old i _ e with ⟨d', h1, h2⟩ | z
    · cases h2
      obtain ⟨v, w1, w2⟩ := hz.get h1
      refine ⟨v, ?_, w2⟩
      have hi := (List.getElem?_eq_some_iff.mp w1).1
      unfold L2.start
      rw [List.getElem?_append_left (by simpa using hi), List.getElem?_map, w1]
      rfl
    · cases z
  · rcases old i _ e with ⟨d', h1, h2⟩ | z
    · cases h2
    · cases z
  · rcases old i _ e with ⟨d', h1, h2⟩ | z
    · cases h2
    · cases z
  · rcases old i _ e with ⟨d', h1, h2⟩ | z
    · cases h2
    · cases z
  · rcases old i _ e with ⟨d', h1, h2⟩ | z
    · cases h2
    · cases z
  · rcases old i _ e with ⟨d', h1, h2⟩ | z
    · cases h2
    · cases z
theorem fin_ok {C : Ct} {Hs H' : Hp} {A : List Addr} {g : G} {σ : L2.St} {v : V} {r : R} {fr : FR} (ok : Ok C Hs A g σ H') (h : RelR C.K Hs A v r) (e : fin g r = some fr) : RelF C.K Hs C.H0 H' v fr := by
  cases r with
  | dat d => cases e; exact h
  | bor j =>
    obtain ⟨a, ha, rfl⟩ := (show ∃ a, A[j]? = some a ∧ v = .ref a from h)
    simp only [fin] at e
    split at e
    · rename_i c hg
      cases e
      obtain ⟨a', o, w1, _, w3, w4, w5, w6⟩ := ok.own j _ _ _ hg
      rw [ha] at w1
      cases w1
      exact ⟨a, o, rfl, w6 rfl, w3, w4, w5⟩
    · rename_i d hg
      cases e
      obtain ⟨a', w1, _, w3⟩ := ok.frz j _ hg
      rw [ha] at w1
      cases w1
      exact w3
    · rename_i ls hg
      cases e
      obtain ⟨a', ks, w1, _, w3, _⟩ := ok.rws j _ hg
      rw [ha] at w1
      cases w1
      exact ⟨a, ks, rfl, w3⟩
    · cases e
section
variable {P : Program} {w : World} {K : PySem.W.Frag} {mg : Str → Option Value} {base : Heap}
/-- THE RULE for a def that changes nothing -/
theorem okP {x qual : Str} {st : Stmt} {f : Addr} {fd : FuncData} {N ps : List Str} {k : Nat} {s : SM} (F : Fun K x qual st f fd) (S : FnScope N ps (defScope st))
    (hbody : ∀ (cdv : Value) (A : Around) (outer : List Env) (s0 : Shared) (H : Hp) (E : XK), Room k (A.deeper (envOfC qual (defScope st) s0.heap.objs.size f cdv)) →
      ZSs (cxOf CX0 P w K mg base N qual (defScope st) f cdv A outer s0 H E).nox (defBody st) s) : FnOk P w K mg base CX0 (k + 1) f fd ps (spP K (runP N.length ps.length s)) := by
  have arity : ∀ vs H Q E, spP K (runP N.length ps.length s) vs H Q E → vs.length = ps.length := fun vs H Q E ⟨Hs, ds, fr, _, hz, e, _⟩ => by
    unfold runP at e
    split at e
    · rename_i h
      rw [hz.length]
      exact h
    · cases e
  refine F.ok S arity (fun cdv A outer s0 H vs Q E hr h => ⟨_, hbody cdv A outer s0 H E hr, ?_⟩)
  have hal := arity vs H Q E h
  obtain ⟨Hs, ds, fr, sm, hz, e, q⟩ := h
  have hpl : ps.length ≤ N.length := by
    have := congrArg List.length S.pre
    rw [List.length_take] at this
    omega
  have hdl : ds.length ≤ N.length := by rw [← hz.length]; omega
  unfold runP at e
  rw [if_pos (by rw [← hz.length]; exact hal)] at e
  split at e
  · rename_i r g' hs
    refine ⟨_, Hs, _, start0 N.length ds, .ret r, g', rfl, rfl, ok_start hdl sm hz, hs, ?_⟩
    exact fun Hs' A' σ' H' v s1 ok1 rel1 => q v Hs' H' s1 (fun b o e => ok1.keep b o e (fun _ h => (List.not_mem_nil h).elim)) ok1.same ok1.grow (fin_ok ok1 rel1 e)
  · rename_i g' hs
    cases e
    refine ⟨_, Hs, _, start0 N.length ds, .nx, g', rfl, rfl, ok_start hdl sm hz, hs, ?_⟩
    exact fun Hs' A' σ' H' s1 ok1 => q .non Hs' H' s1 (fun b o e => ok1.keep b o e (fun _ h => (List.not_mem_nil h).elim)) ok1.same ok1.grow .non
  · cases e
/-- the def that the module's name x holds keeps a promise, by at most level k -/
def Cal (P : Program) (w : World) (K : PySem.W.Frag) (mg : Str → Option Value) (base : Heap) (k : Nat) (x : Str) (sp : Sp) : Prop :=
  ∃ (f : Addr) (fd : FuncData) (ps : List Str), mg x = some (.ref f) ∧ PySem.W.keepIn K (.ref f) = true ∧ Binds K fd ps [] ∧ FnOk P w K mg base CX0 k f fd ps sp
theorem Cal.mono {j k : Nat} {x : Str} {sp : Sp} (c : Cal P w K mg base j x sp) (h : j ≤ k) : Cal P w K mg base k x sp :=
  let ⟨f, fd, ps, h1, h2, h3, h4⟩ := c
  ⟨f, fd, ps, h1, h2, h3, h4.mono h⟩
end
theorem Ok.adopt {C : Ct} {Hs : Hp} {A : List Addr} {g : G} {σ : L2.St} {H H' : Hp} (ok : Ok C Hs A g σ H) {a : Addr} {o : HO} {c : Cn} (h : H a = none) (s : Same H H') (e : H' a = some o) (hc : CnOk C.K Hs c o) : Ok C Hs (A ++ [a]) (g ++ [.own c false false]) σ H' :=
  (ok.tmp h hc).more fun b u q => by
    by_cases z : b = a
    · subst z
      rw [upd_same] at q
      cases q
      exact e
    · rw [upd_ne z] at q
      exact s b u q
/-- .. where the known things grew too -/
theorem Ok.adoptS {C : Ct} {Hs Hs' : Hp} {A : List Addr} {g : G} {σ : L2.St} {H H' : Hp} (ok : Ok C Hs A g σ H) (s : Same H H') (s1 : Same Hs Hs') (s2 : Same Hs' H') (gr : ∀ b o, Hs' b = some o → Hs b = some o ∨ H b = none) {a : Addr} {o : HO} {c : Cn} (h : H a = none) (ha : Hs' a = none) (e : H' a = some o) (hc : CnOk C.K Hs' c o) :
    Ok C Hs' (A ++ [a]) (g ++ [.own c false false]) σ H' := by
  -- first without a
  have ok1 : Ok C Hs' A g σ (fun b => if b = a then none else H' b) := by
    refine ok.moreS (fun b u q => ?_) s1 (fun b u q => ?_) gr
    · have z : b ≠ a := fun z => by rw [z, h] at q; cases q
      show (if b = a then none else H' b) = some u
      rw [if_neg z]
      exact s b u q
    · have z : b ≠ a := fun z => by rw [z, ha] at q; cases q
      show (if b = a then none else H' b) = some u
      rw [if_neg z]
      exact s2 b u q
  refine (ok1.adopt (H' := H') (a := a) (o := o) (by show (if a = a then none else H' a) = none; rw [if_pos rfl]) (fun b u q => ?_) e hc)
  have q' : (if b = a then none else H' b) = some u := q
  split at q'
  · cases q'
  · exact q'
def zCall (f : List D → Option FR) (ma : ZAr) : ZM := fun g => do
  let (rs, g1) ← ma g
  let ds ← rdAll g1 rs
  let fr ← f ds
  match fr with
  | .dat d => if d.scal = true then some (.dat d, g1) else do
    let (ds2, g2) ← frzAll rs g1
    let fr2 ← f ds2
    match fr2 with
    | .dat d2 => some (.dat d2, g2)
    | _ => none
  | .new c => if c.scal = true then some (.bor g1.length, g1 ++ [.own c false false]) else do
    let (ds2, g2) ← frzAll rs g1
    let fr2 ← f ds2
    match fr2 with
    | .new c2 => some (.bor g2.length, g2 ++ [.own c2 false false])
    | _ => none
  | .newR _ => do
    let (ds2, g2) ← frzAll rs g1
    let fr2 ← f ds2
    match fr2 with
    | .newR ls => some (.bor g2.length, g2 ++ [.rws ls])
    | _ => none
section
variable {X : Cx} {f : List D → Option FR} {ma : ZAr}
theorem call_of {σ : L2.St} {H : Hp} {Q : VK} {E : XK} (h : tZ X.K X.N.length (zCall f ma) σ H Q) : tCall (spP X.K f) [] E (tZA X.K X.N.length ma) σ H Q := by
  obtain ⟨C, Hs, A, g, r, g', hK, hn, ok, e, q⟩ := h
  unfold zCall at e
  simp only [Option.bind_eq_bind, Option.bind_eq_some_iff] at e
  obtain ⟨⟨rs, g1⟩, h1, ds, h2, fr, h3, e⟩ := e
  refine ⟨C, Hs, A, g, rs, g1, hK, hn, ok, h1, fun Hs1 A1 vs H1 s1 p1 ok1 rel1 => ?_⟩
  show spP X.K f (vs ++ []) H1 Q E
  rw [List.append_nil]
  have plain : DzA X.K H1 vs ds := by
    have x := rdAll_ok ok1 rel1 h2
    rw [hK] at x
    exact x
  cases fr with
  | dat d =>
    simp only at e
    split at e
    · rename_i hs
      cases e
      refine ⟨H1, ds, .dat d, Same.refl _, plain, h3, fun v Hs' H' _ sH _ _ rf => ?_⟩
      exact q Hs1 A1 v H' s1 p1 (ok1.more sH) (show Dz C.K Hs1 v d from by rw [hK]; exact (show Dz X.K Hs' v d from rf).any hs)
    · simp only [Option.bind_eq_some_iff] at e
      obtain ⟨⟨ds2, g2⟩, h4, fr2, h5, e⟩ := e
      obtain ⟨Hs2, s2, ok2, z2⟩ := frzAll_ok ok1 rel1 h4
      cases fr2 with
      | new _ => cases e
      | newR _ => cases e
      | dat d2 =>
        cases e
        refine ⟨Hs2, ds2, .dat d2, ok2.same, by rw [← hK]; exact z2, h5, fun v Hs' H' sS sH sP gr rf => ?_⟩
        exact q Hs' A1 v H' ((s1.trans s2).trans sS) p1 (ok2.moreS sH sS sP gr) (show Dz C.K Hs' v d2 from by rw [hK]; exact rf)
  | new c =>
    simp only at e
    split at e
    · rename_i hs
      cases e
      refine ⟨H1, ds, .new c, Same.refl _, plain, h3, fun v Hs' H' _ sH _ _ rf => ?_⟩
      obtain ⟨a, o, rfl, w1, w2, w3, w4⟩ := rf
      have w5 : CnOk C.K Hs1 c o := by rw [hK]; exact w4.any hs
      exact q Hs1 (A1 ++ [a]) _ H' s1 (p1.trans (Pre.app _ _)) (ok1.adopt w1 sH w3 w5) (ok1.tmpR a)
    · simp only [Option.bind_eq_some_iff] at e
      obtain ⟨⟨ds2, g2⟩, h4, fr2, h5, e⟩ := e
      obtain ⟨Hs2, s2, ok2, z2⟩ := frzAll_ok ok1 rel1 h4
      cases fr2 with
      | dat _ => cases e
      | newR _ => cases e
      | new c2 =>
        cases e
        refine ⟨Hs2, ds2, .new c2, ok2.same, by rw [← hK]; exact z2, h5, fun v Hs' H' sS sH sP gr rf => ?_⟩
        obtain ⟨a, o, rfl, w1, w2, w3, w4⟩ := rf
        exact q Hs' (A1 ++ [a]) _ H' ((s1.trans s2).trans sS) (p1.trans (Pre.app _ _)) (ok2.adoptS sH sS sP gr w1 w2 w3 (by rw [hK]; exact w4)) (ok2.tmpR a)
  | newR _ =>
    simp only [Option.bind_eq_some_iff] at e
    obtain ⟨⟨ds2, g2⟩, h4, fr2, h5, e⟩ := e
    obtain ⟨Hs2, s2, ok2, z2⟩ := frzAll_ok ok1 rel1 h4
    cases fr2 with
    | dat _ => cases e
    | new _ => cases e
    | newR ls =>
      cases e
      refine ⟨Hs2, ds2, .newR ls, ok2.same, by rw [← hK]; exact z2, h5, fun v Hs' H' sS sH sP gr rf => ?_⟩
      obtain ⟨a, ks, rfl, w⟩ := rf
      rw [← hK] at w
      exact q Hs' (A1 ++ [a]) _ H' ((s1.trans s2).trans sS) (p1.trans (Pre.app _ _)) ((ok2.moreS sH sS sP gr).addR (w.low fun x m => (ok2.fresh0 (w.fr x m).2).2) (fun j c p l b e1 e2 m => ok2.deadO e1 e2 (w.fr b m).2) (fun j ms b x e1 e2 m1 m2 => ok2.deadR e1 e2 (by
        obtain ⟨a2, ks2, r1, _, r3, _⟩ := ok2.rws j ms e1
        rw [e2] at r1
        cases r1
        rw [sH _ _ r3.hd, ← r3.hd] at m1
        exact m1) (w.fr x m2).2)) (ok2.tmpR a)
theorem ze_call {k : Nat} {x : Str} {p pos : Pos} {e : Expr} {es : List Expr} (c : Cal X.prog X.w X.K X.mg X.base k x (spP X.K f)) (hr : Room k X.A) (ha : ZAs X (e :: es) ma) (hg : Gl X x := by rfl)
    (hdb : (x == ("__debug__" : Str)) = false := by decide) (he : starEach (e :: es) X.env = (false, eval e X.env) :: starEach es X.env := by rfl) (hpl : (backTo pos (starEach es X.env)).any (·.1) = false := by rfl) :
    ZE X (.Call (.Name x p) (e :: es) [] pos) (zCall f ma) := by
  obtain ⟨fa, fd, ps, h1, h2, h3, h4⟩ := c
  exact PE.of (pe_call (E := E0) h4 hr hg h1 h2 h3 .nil pass0 ha hdb he hpl) fun σ H Q h => call_of h
end
end Z
set_option Elab.async false
set_option linter.all false
set_option maxRecDepth 100000
set_option maxHeartbeats 4000000
namespace Z
open PySem PySem.Spec PyProof.Rows L2
theorem OpR.or {X : Cx} {f : Value → Value → Sem Value} {r r' : R2} (h : OpR X f r) (h' : OpR X f r') : OpR X f (fun x y H Q => r x y H Q ∨ r' x y H Q) := by
  intro pins s σ H x y v u Q I rx ry q
  rcases q with q | q
  · exact h pins s σ H x y v u Q I rx ry q
  · exact h' pins s σ H x y v u Q I rx ry q
theorem OpR.of {X : Cx} {f : Value → Value → Sem Value} {r r' : R2} (h : OpR X f r) (w : ∀ x y H Q, r' x y H Q → r x y H Q) : OpR X f r' := fun pins s σ H x y v u Q I rx ry q => h pins s σ H x y v u Q I rx ry (w _ _ _ _ q)
def subD : D → D → Option D
  | .int i, .int j => some (.int (i - j))
  | _, _ => none
theorem s_int {K : PySem.W.Frag} {g : Int → Int → D} {f : D → D → Option D} (hg : ∀ i j, (g i j).scal = true) (hf : ∀ d e z, f d e = some z → ∃ i j, d = .int i ∧ e = .int j ∧ z = g i j) : OpS K (rI0 fun i j => (g i j).v) f := by
  intro H x y d e z Q hx hy e1 q
  obtain ⟨i, j, rfl, rfl, rfl⟩ := hf d e z e1
  cases hx
  cases hy
  exact ⟨i, j, rfl, rfl, q⟩
theorem s_intC {K : PySem.W.Frag} {C : Int → Int → Prop} {g : Int → Int → D} {f : D → D → Option D} (hf : ∀ d e z, f d e = some z → ∃ i j, d = .int i ∧ e = .int j ∧ C i j ∧ z = g i j) : OpS K (rI C fun i j => (g i j).v) f := by
  intro H x y d e z Q hx hy e1 q
  obtain ⟨i, j, rfl, rfl, hc, rfl⟩ := hf d e z e1
  cases hx
  cases hy
  exact ⟨i, j, rfl, rfl, hc, q⟩
theorem s_sub {K : PySem.W.Frag} : OpS K (rI0 fun i j => .int (i - j)) subD := s_int (g := fun i j => .int (i - j)) (fun _ _ => rfl) fun d e z h => by
  unfold subD at h
  split at h
  · cases h; exact ⟨_, _, rfl, rfl, rfl⟩
  · cases h
/-- the product of two ints that the model reckons -/
def mulOk (i j : Int) : Bool := decide (i.natAbs < 2 ^ 64) || decide (j.natAbs < 2 ^ 64) || decide (i.natAbs.log2 + j.natAbs.log2 < 1000000)
theorem mulOk_ok {i j : Int} (h : mulOk i j = true) : IntMulOk i j := by
  unfold mulOk at h
  rw [Bool.or_eq_true, Bool.or_eq_true] at h
  rcases h with (h | h) | h
  · exact (show CMul i j from .inl (by have := of_decide_eq_true h; omega)).ok
  · exact (show CMul i j from .inr (by have := of_decide_eq_true h; omega)).ok
  · have h2 : i.natAbs.log2 + j.natAbs.log2 < 1000000 := of_decide_eq_true h
    exact CMulW.ok h2
def mulD : D → D → Option D
  | .int i, .int j => if mulOk i j = true then some (.int (i * j)) else none
  | _, _ => none
theorem o_mul {X : Cx} : OpR X (binaryOp .Mult) (rI (fun i j => mulOk i j = true) fun i j => .int (i * j)) := opI fun _ _ _ _ _ _ _ hc q => mul_int q (mulOk_ok hc)
theorem s_mul {K : PySem.W.Frag} : OpS K (rI (fun i j => mulOk i j = true) fun i j => .int (i * j)) mulD := s_intC (g := fun i j => .int (i * j)) fun d e z h => by
  unfold mulD at h
  split at h
  · split at h
    · cases h; exact ⟨_, _, rfl, rfl, by assumption, rfl⟩
    · cases h
  · cases h
def divOk (j : Int) : Bool := decide (j ≠ 0) && decide (j.natAbs.log2 < 9000)
def fdivV (i j : Int) : Int := if 0 < j then i / j else i.fdiv j
def fmodV (i j : Int) : Int := if 0 < j then i % j else i.fmod j
theorem fdivV_eq (i j : Int) : fdivV i j = i.fdiv j := by
  unfold fdivV
  split
  · rw [Int.fdiv_eq_ediv_of_nonneg i (by omega)]
  · rfl
theorem fmodV_eq (i j : Int) : fmodV i j = i.fmod j := by
  unfold fmodV
  split
  · rw [Int.fmod_eq_emod_of_nonneg i (by omega)]
  · rfl
def divD : D → D → Option D
  | .int i, .int j => if divOk j = true then some (.int (fdivV i j)) else none
  | _, _ => none
theorem o_div {X : Cx} : OpR X (binaryOp .FloorDiv) (rI (fun _ j => divOk j = true) fun i j => .int (fdivV i j)) := opI fun i j _ _ _ _ _ hc q => by
  have h : divOk j = true := hc
  unfold divOk at h
  rw [Bool.and_eq_true] at h
  exact floordiv_int (of_decide_eq_true h.1) (by rw [← fdivV_eq]; exact q) (.inl (PyProof.noPylong_of_log2 (of_decide_eq_true h.2)))
theorem s_div {K : PySem.W.Frag} : OpS K (rI (fun _ j => divOk j = true) fun i j => .int (fdivV i j)) divD := s_intC (g := fun i j => .int (fdivV i j)) fun d e z h => by
  unfold divD at h
  split at h
  · split at h
    · cases h; exact ⟨_, _, rfl, rfl, by assumption, rfl⟩
    · cases h
  · cases h
def modD : D → D → Option D
  | .int i, .int j => if j ≠ 0 then some (.int (fmodV i j)) else none
  | _, _ => none
theorem o_mod {X : Cx} : OpR X (binaryOp .Mod) (rI (fun _ j => j ≠ 0) fun i j => .int (fmodV i j)) := opI fun i j _ _ _ _ _ hc q => mod_int' hc (by rw [← fmodV_eq]; exact q)
theorem s_mod {K : PySem.W.Frag} : OpS K (rI (fun _ j => j ≠ 0) fun i j => .int (fmodV i j)) modD := s_intC (g := fun i j => .int (fmodV i j)) fun d e z h => by
  unfold modD at h
  split at h
  · split at h
    · cases h; exact ⟨_, _, rfl, rfl, by assumption, rfl⟩
    · cases h
  · cases h
def negD : D → Option D
  | .int i => some (.int (-i))
  | _ => none
theorem s_neg {K : PySem.W.Frag} : UnS K (rU fun i => .int (-i)) negD := by
  intro H x d z Q hx e q
  cases hx with
  | int i => cases e; exact ⟨i, rfl, q⟩
  | _ => cases e
def ltD : D → D → Option D
  | .int i, .int j => some (.bl (decide (i < j)))
  | .str a, .str b => some (.bl (decide (a < b)))
  | _, _ => none
def rLtU : R2 := fun x y H Q => (∃ i j, x = .int i ∧ y = .int j ∧ Q (.bl (decide (i < j))) H) ∨ (∃ i j, x = .str i ∧ y = .str j ∧ Q (.bl (decide (i.cps.toList < j.cps.toList))) H)
theorem o_lt {X : Cx} : OpR X (compareOp .Lt) rLtU := OpR.or op_lt op_lt_str
theorem s_lt {K : PySem.W.Frag} : OpS K rLtU ltD := by
  intro H x y d e z Q hx hy e1 q
  unfold ltD at e1
  split at e1
  · cases e1; cases hx; cases hy; exact .inl ⟨_, _, rfl, rfl, q⟩
  · cases e1; cases hx; cases hy; exact .inr ⟨_, _, rfl, rfl, q⟩
  · cases e1
def leD : D → D → Option D
  | .int i, .int j => some (.bl (decide (i ≤ j)))
  | .str a, .str b => some (.bl (!decide (b < a)))
  | _, _ => none
def rLeU : R2 := fun x y H Q => (∃ i j, x = .int i ∧ y = .int j ∧ Q (.bl (decide (i ≤ j))) H) ∨ (∃ i j, x = .str i ∧ y = .str j ∧ Q (.bl (!decide (j.cps.toList < i.cps.toList))) H)
theorem o_le {X : Cx} : OpR X (compareOp .LtE) rLeU := OpR.or op_le op_le_str
theorem s_le {K : PySem.W.Frag} : OpS K rLeU leD := by
  intro H x y d e z Q hx hy e1 q
  unfold leD at e1
  split at e1
  · cases e1; cases hx; cases hy; exact .inl ⟨_, _, rfl, rfl, q⟩
  · cases e1; cases hx; cases hy; exact .inr ⟨_, _, rfl, rfl, q⟩
  · cases e1
def gtD : D → D → Option D
  | .int i, .int j => some (.bl (decide (j < i)))
  | .str a, .str b => some (.bl (decide (b < a)))
  | _, _ => none
def rGtU : R2 := fun x y H Q => (∃ i j, x = .int i ∧ y = .int j ∧ Q (.bl (decide (j < i))) H) ∨ (∃ i j, x = .str i ∧ y = .str j ∧ Q (.bl (decide (j.cps.toList < i.cps.toList))) H)
theorem o_gt {X : Cx} : OpR X (compareOp .Gt) rGtU := OpR.or op_gt op_gt_str
theorem s_gt {K : PySem.W.Frag} : OpS K rGtU gtD := by
  intro H x y d e z Q hx hy e1 q
  unfold gtD at e1
  split at e1
  · cases e1; cases hx; cases hy; exact .inl ⟨_, _, rfl, rfl, q⟩
  · cases e1; cases hx; cases hy; exact .inr ⟨_, _, rfl, rfl, q⟩
  · cases e1
def geD : D → D → Option D
  | .int i, .int j => some (.bl (decide (j ≤ i)))
  | .str a, .str b => some (.bl (!decide (a < b)))
  | _, _ => none
def rGeU : R2 := fun x y H Q => (∃ i j, x = .int i ∧ y = .int j ∧ Q (.bl (decide (j ≤ i))) H) ∨ (∃ i j, x = .str i ∧ y = .str j ∧ Q (.bl (!decide (i.cps.toList < j.cps.toList))) H)
theorem o_ge {X : Cx} : OpR X (compareOp .GtE) rGeU := OpR.or op_ge op_ge_str
theorem s_ge {K : PySem.W.Frag} : OpS K rGeU geD := by
  intro H x y d e z Q hx hy e1 q
  unfold geD at e1
  split at e1
  · cases e1; cases hx; cases hy; exact .inl ⟨_, _, rfl, rfl, q⟩
  · cases e1; cases hx; cases hy; exact .inr ⟨_, _, rfl, rfl, q⟩
  · cases e1
mutual
def D.eqv : D → D → Bool
  | .non, .non => true
  | .bl a, .bl b => a == b
  | .bl a, .int j => (if a then 1 else 0) == j
  | .int i, .bl b => i == (if b then 1 else 0)
  | .int i, .int j => i == j
  | .str a, .str b => a == b
  | .tup a, .tup b => D.eqvA a b
  | .lst a, .lst b => D.eqvA a b
  | _, _ => false
def D.eqvA : List D → List D → Bool
  | [], [] => true
  | x :: xs, y :: ys => D.eqv x y && D.eqvA xs ys
  | _, _ => false
end
mutual
def D.py : D → PyData
  | .non => .none | .bl b => .bool b | .int i => .int i | .str s => .str ⟨s.toArray⟩
  | .tup l => .tuple (D.pyA l) | .lst l => .list (D.pyA l) | .raw _ => .dict [] | .dic _ _ => .dict [] | .obj _ _ _ => .dict []
def D.pyA : List D → List PyData
  | [] => []
  | x :: xs => x.py :: D.pyA xs
end
theorem str_beq (a b : List Nat) : ((⟨a.toArray⟩ : Str) == ⟨b.toArray⟩) = (a == b) := by
  rw [Bool.eq_iff_iff]
  simp
mutual
theorem D.py_eqv : ∀ d e : D, PyData.eqv d.py e.py = D.eqv d e
  | .non, e => by cases e <;> simp [D.py, D.eqv, PyData.eqv]
  | .bl b, e => by cases e <;> simp [D.py, D.eqv, PyData.eqv]
  | .int i, e => by cases e <;> simp [D.py, D.eqv, PyData.eqv]
  | .str s, e => by
    cases e with
    | str t => simp only [D.py, D.eqv, PyData.eqv, str_beq]
    | _ => simp [D.py, D.eqv, PyData.eqv]
  | .tup l, e => by
    cases e with
    | tup m => simp only [D.py, D.eqv, PyData.eqv]; exact D.py_eqvA l m
    | _ => simp [D.py, D.eqv, PyData.eqv]
  | .lst l, e => by
    cases e with
    | lst m => simp only [D.py, D.eqv, PyData.eqv]; exact D.py_eqvA l m
    | _ => simp [D.py, D.eqv, PyData.eqv]
  | .raw v, e => by cases e <;> simp [D.py, D.eqv, PyData.eqv]
  | .dic _ _, e => by cases e <;> simp [D.py, D.eqv, PyData.eqv]
  | .obj _ _ _, e => by cases e <;> simp [D.py, D.eqv, PyData.eqv]
theorem D.py_eqvA : ∀ l m : List D, PyData.eqvAll (D.pyA l) (D.pyA m) = D.eqvA l m
  | [], [] => rfl
  | [], _ :: _ => rfl
  | _ :: _, [] => rfl
  | x :: xs, y :: ys => by simp only [D.pyA, PyData.eqvAll, D.eqvA, D.py_eqv x y, D.py_eqvA xs ys]
end
/-- what == can look through -/
def D.shp (d : D) : Bool := SeqAt.shaped d.py
mutual
theorem Dz.dp {K : PySem.W.Frag} {H : Hp} : ∀ {v : V} {d : D}, Dz K H v d → d.py.canLay0 = true → Dp K H v d.py
  | _, _, .non, _ => .non
  | _, _, .bl b, _ => .bl b
  | _, _, .int i, _ => .int i
  | _, _, .str s, _ => .str _
  | _, _, .tup hs ha, h => .tup hs (DzA.dp ha (by simpa [D.py, PyData.canLay0] using h))
  | _, _, .lst hs ha, h => .lst hs (DzA.dp ha (by simpa [D.py, PyData.canLay0] using h))
  | _, _, .raw v, h => by simp [D.py, PyData.canLay0] at h
  | _, _, .dic _ _ _, h => by simp [D.py, PyData.canLay0] at h
  | _, _, .obj _ _ _ _, h => by simp [D.py, PyData.canLay0] at h
theorem DzA.dp {K : PySem.W.Frag} {H : Hp} : ∀ {vs : List V} {ds : List D}, DzA K H vs ds → PyData.canLayAll0 (D.pyA ds) = true → DpAll K H vs (D.pyA ds)
  | _, _, .nil, _ => .nil
  | _, _, .cons h t, q => by
    simp only [D.pyA, PyData.canLayAll0, Bool.and_eq_true] at q
    exact .cons (Dz.dp h q.1) (DzA.dp t q.2)
end
/-- plain and no object -/
def D.pl : D → Bool
  | .non => true | .bl _ => true | .int _ => true | .str _ => true
  | _ => false
def eqOk (d e : D) : Bool := (d.pl && e.pl) || (d.shp && e.shp)
def eqD (d e : D) : Option D := if eqOk d e = true then some (.bl (D.eqv d e)) else none
def rEqU (K : PySem.W.Frag) : R2 := fun x y H Q => rEq x y H Q ∨ ((∃ b j, x = .bl b ∧ y = .int j ∧ Q (.bl ((if b then 1 else 0) == j)) H) ∨ ((∃ i b, x = .int i ∧ y = .bl b ∧ Q (.bl (i == (if b then 1 else 0))) H) ∨ rEqD K x y H Q))
theorem o_eq {X : Cx} {k : Nat} (hr : Room k X.A) : OpR X (compareOp .Eq) (rEqU X.K) := by
  refine OpR.or op_eq (OpR.or ?_ (OpR.or ?_ (op_eqD hr.units)))
  · intro pins s σ H x y v u Q I rx ry h
    obtain ⟨b, j, rfl, rfl, q⟩ := h
    cases rx
    obtain ⟨t, rfl⟩ := ry
    exact PySem.EqBoolInt.eq_bool_int (fin_bl I q rfl)
  · intro pins s σ H x y v u Q I rx ry h
    obtain ⟨i, b, rfl, rfl, q⟩ := h
    obtain ⟨t, rfl⟩ := rx
    cases ry
    exact PySem.EqBoolInt.eq_int_bool (fin_bl I q rfl)
theorem s_eq {K : PySem.W.Frag} : OpS K (rEqU K) eqD := by
  intro H x y d e z Q hx hy e1 q
  unfold eqD at e1
  split at e1
  · rename_i ho
    cases e1
    unfold eqOk at ho
    rw [Bool.or_eq_true, Bool.and_eq_true, Bool.and_eq_true] at ho
    rcases ho with ⟨p1, p2⟩ | ⟨p1, p2⟩
    · cases hx <;> cases hy <;> simp [D.pl] at p1 p2
      · exact .inl ⟨rfl, q⟩
      · exact .inl ⟨rfl, q⟩
      · exact .inl ⟨rfl, q⟩
      · exact .inl ⟨rfl, q⟩
      · exact .inl ⟨rfl, q⟩
      · exact .inl ⟨rfl, by rw [dec_bl]; exact q⟩
      · exact .inr (.inl ⟨_, _, rfl, rfl, q⟩)
      · exact .inl ⟨rfl, q⟩
      · exact .inl ⟨rfl, q⟩
      · exact .inr (.inr (.inl ⟨_, _, rfl, rfl, q⟩))
      · exact .inl ⟨rfl, by rw [dec_int]; exact q⟩
      · exact .inl ⟨rfl, q⟩
      · exact .inl ⟨rfl, q⟩
      · exact .inl ⟨rfl, q⟩
      · exact .inl ⟨rfl, q⟩
      · exact .inl ⟨rfl, by rw [dec_str, str_beq]; exact q⟩
    · refine .inr (.inr (.inr ⟨d.py, e.py, hx.dp (SeqAt.canLay_of_shaped p1), hy.dp (SeqAt.canLay_of_shaped p2), p1, p2, ?_⟩))
      rw [D.py_eqv]
      exact q
  · cases e1
def rNeU (K : PySem.W.Frag) : R2 := fun x y H Q => rNe x y H Q ∨ rNeD K x y H Q
theorem o_ne {X : Cx} {k : Nat} (hr : Room k X.A) : OpR X (compareOp .NotEq) (rNeU X.K) := OpR.or op_ne (op_neD hr.units)
/-- != asks for plain values of kinds that are told apart, or for shaped data -/
def D.kin : D → D → Bool
  | .bl _, .int _ => false
  | .int _, .bl _ => false
  | _, _ => true
def neOk (d e : D) : Bool := (d.pl && e.pl && D.kin d e) || (d.shp && e.shp)
def neqD (d e : D) : Option D := if neOk d e = true then some (.bl (!D.eqv d e)) else none
theorem s_ne {K : PySem.W.Frag} : OpS K (rNeU K) neqD := by
  intro H x y d e z Q hx hy e1 q
  unfold neqD at e1
  split at e1
  · rename_i ho
    cases e1
    unfold neOk at ho
    rw [Bool.or_eq_true, Bool.and_eq_true, Bool.and_eq_true, Bool.and_eq_true] at ho
    rcases ho with ⟨⟨p1, p2⟩, p3⟩ | ⟨p1, p2⟩
    · cases hx <;> cases hy <;> simp [D.pl, D.kin] at p1 p2 p3
      · exact .inl ⟨rfl, q⟩
      · exact .inl ⟨rfl, q⟩
      · exact .inl ⟨rfl, q⟩
      · exact .inl ⟨rfl, q⟩
      · exact .inl ⟨rfl, q⟩
      · exact .inl ⟨rfl, by rw [dec_bl]; exact q⟩
      · exact .inl ⟨rfl, q⟩
      · exact .inl ⟨rfl, q⟩
      · exact .inl ⟨rfl, by rw [dec_int]; exact q⟩
      · exact .inl ⟨rfl, q⟩
      · exact .inl ⟨rfl, q⟩
      · exact .inl ⟨rfl, q⟩
      · exact .inl ⟨rfl, q⟩
      · exact .inl ⟨rfl, by rw [dec_str, str_beq]; exact q⟩
    · refine .inr ⟨d.py, e.py, hx.dp (SeqAt.canLay_of_shaped p1), hy.dp (SeqAt.canLay_of_shaped p2), p1, p2, ?_⟩
      rw [D.py_eqv]
      exact q
  · cases e1
def isD : D → D → Option D
  | d, .non => (match d with
    | .non => some (.bl true)
    | .raw _ => none
    | _ => some (.bl false))
  | d, .bl b => (match d with
    | .bl c => some (.bl (decide (c = b)))
    | .raw _ => none
    | _ => some (.bl false))
  | _, _ => none
def isntD (d e : D) : Option D := match isD d e with
  | some (.bl b) => some (.bl (!b))
  | _ => none
def rIsU (neg : Bool) : R2 := fun x y H Q => (y = .non ∧ Q (.bl (if neg then !decide (x = .non) else decide (x = .non))) H) ∨ ∃ b, y = .bl b ∧ Q (.bl (if neg then !decide (x = .bl b) else decide (x = .bl b))) H
theorem RelV.ne_bl {x : V} {v : Value} {b : Bool} (r : RelV x v) (h : x ≠ .bl b) : v ≠ Value.bool b := by
  intro z
  subst z
  cases x with
  | bl c => cases r; exact h rfl
  | non => cases r
  | int _ => obtain ⟨t, e⟩ := r; cases e
  | str _ => obtain ⟨t, e⟩ := r; cases e
  | byt _ => obtain ⟨t, e⟩ := r; cases e
  | flt _ => obtain ⟨t, e⟩ := r; cases e
  | ref _ => cases r
  | ty _ => cases r
theorem plainB {x : V} {v : Value} {b : Bool} (r : RelV x v) : plainIs v (.bool b) = true := by
  cases x with
  | bl c => cases r; rfl
  | non => cases r; rfl
  | int _ => obtain ⟨t, e⟩ := r; subst e; rfl
  | str _ => obtain ⟨t, e⟩ := r; subst e; rfl
  | byt _ => obtain ⟨t, e⟩ := r; subst e; rfl
  | flt _ => obtain ⟨t, e⟩ := r; subst e; rfl
  | ref _ => cases r; rfl
  | ty _ => cases r; rfl
theorem o_is {X : Cx} : OpR X (compareOp .Is) (rIsU false) := by
  intro pins s σ H x y v u Q I rx ry h
  rcases h with h | ⟨b, rfl, q⟩
  · exact op_isN pins s σ H x y v u Q I rx ry h
  · cases ry
    have q' : Q (.bl (decide (x = .bl b))) H := q
    by_cases e : x = .bl b
    · subst e
      cases rx
      exact wpAny_is_self rfl ⟨.bl true, H, I, rfl, by simpa using q'⟩
    · exact wpAny_is_other (plainB rx) (RelV.ne_bl rx e) ⟨.bl false, H, I, rfl, by simpa [e] using q'⟩
theorem o_isnt {X : Cx} : OpR X (compareOp .IsNot) (rIsU true) := by
  intro pins s σ H x y v u Q I rx ry h
  rcases h with h | ⟨b, rfl, q⟩
  · exact op_notN pins s σ H x y v u Q I rx ry h
  · cases ry
    have q' : Q (.bl (!decide (x = .bl b))) H := q
    by_cases e : x = .bl b
    · subst e
      cases rx
      exact wpAny_isNot_self rfl ⟨.bl false, H, I, rfl, by simpa using q'⟩
    · exact wpAny_isNot_other (plainB rx) (RelV.ne_bl rx e) ⟨.bl true, H, I, rfl, by simpa [e] using q'⟩
theorem isD_ok {K : PySem.W.Frag} {H : Hp} {x : V} {d e : D} {b : Bool} (hx : Dz K H x d) (h : isD d e = some (.bl b)) : (e = .non ∧ b = decide (x = .non)) ∨ ∃ c, e = .bl c ∧ b = decide (x = .bl c) := by
  cases e with
  | non =>
    refine .inl ⟨rfl, ?_⟩
    cases hx <;> simp [isD] at h ⊢ <;> exact h
  | bl c =>
    refine .inr ⟨c, rfl, ?_⟩
    cases hx <;> simp [isD] at h ⊢ <;> first | exact h | exact h.symm
  | _ => cases d <;> simp [isD] at h
theorem isD_bl {d e z : D} (h : isD d e = some z) : ∃ b, z = .bl b := by
  unfold isD at h
  split at h
  · split at h <;> cases h <;> exact ⟨_, rfl⟩
  · split at h <;> cases h <;> exact ⟨_, rfl⟩
  · cases h
theorem s_is {K : PySem.W.Frag} : OpS K (rIsU false) isD := by
  intro H x y d e z Q hx hy e1 q
  obtain ⟨b, rfl⟩ := isD_bl e1
  rcases isD_ok hx e1 with ⟨rfl, rfl⟩ | ⟨c, rfl, rfl⟩
  · cases hy; exact .inl ⟨rfl, q⟩
  · cases hy; exact .inr ⟨c, rfl, q⟩
theorem s_isnt {K : PySem.W.Frag} : OpS K (rIsU true) isntD := by
  intro H x y d e z Q hx hy e1 q
  unfold isntD at e1
  split at e1
  · rename_i b e2
    cases e1
    rcases isD_ok hx e2 with ⟨rfl, rfl⟩ | ⟨c, rfl, rfl⟩
    · cases hy; exact .inl ⟨rfl, q⟩
    · cases hy; exact .inr ⟨c, rfl, q⟩
  · cases e1
end Z
set_option Elab.async false
set_option linter.all false
set_option maxRecDepth 100000
set_option maxHeartbeats 4000000
namespace Z
open PySem PySem.Spec PyProof.Rows L2
/-- a list or tuple by what is read of it -/
theorem Ok.rdL {C : Ct} {Hs : Hp} {A : List Addr} {g : G} {σ : L2.St} {H : Hp} (ok : Ok C Hs A g σ H) {v : V} {r : R} {ds : List D} (h : RelR C.K Hs A v r) (e : Z.rd g r = some (.lst ds)) : ∃ a vs, v = .ref a ∧ SqL C.K H a vs ∧ DzA C.K Hs vs ds := by
  cases r with
  | dat d =>
    cases e
    have hd : Dz C.K Hs v (.lst ds) := h
    cases hd with
    | lst hs ha => exact ⟨_, _, rfl, ok.same.seq hs, ha⟩
  | bor j =>
    obtain ⟨a, h1, rfl⟩ := (show ∃ a, A[j]? = some a ∧ v = .ref a from h)
    have e : (match g[j]? with
      | some (.own c _ _) => some c.d
      | some (.frz d) => some d
      | _ => none) = some (.lst ds) := e
    split at e
    · rename_i c p l hg
      cases c with
      | lst L =>
        cases e
        obtain ⟨a', vs, ev, w1, w2, w3⟩ := ok.bor (relB h1) hg
        cases ev
        exact ⟨a, vs, rfl, SqL.of w2, w3⟩
    · rename_i d hg
      cases e
      obtain ⟨a', w1, _, hd⟩ := ok.frz j _ hg
      rw [h1] at w1
      cases w1
      cases hd with
      | lst hs ha => exact ⟨_, _, rfl, ok.same.seq hs, ha⟩
    · cases e
theorem Ok.rdT {C : Ct} {Hs : Hp} {A : List Addr} {g : G} {σ : L2.St} {H : Hp} (ok : Ok C Hs A g σ H) {v : V} {r : R} {ds : List D} (h : RelR C.K Hs A v r) (e : Z.rd g r = some (.tup ds)) : ∃ a vs, v = .ref a ∧ SqT C.K Hs a vs ∧ DzA C.K Hs vs ds := by
  cases r with
  | dat d =>
    cases e
    have hd : Dz C.K Hs v (.tup ds) := h
    cases hd with
    | tup hs ha => exact ⟨_, _, rfl, hs, ha⟩
  | bor j =>
    obtain ⟨a, h1, rfl⟩ := (show ∃ a, A[j]? = some a ∧ v = .ref a from h)
    have e : (match g[j]? with
      | some (.own c _ _) => some c.d
      | some (.frz d) => some d
      | _ => none) = some (.tup ds) := e
    split at e
    · rename_i c p l hg
      cases c with
      | lst L => cases e
    · rename_i d hg
      cases e
      obtain ⟨a', w1, _, hd⟩ := ok.frz j _ hg
      rw [h1] at w1
      cases w1
      cases hd with
      | tup hs ha => exact ⟨_, _, rfl, hs, ha⟩
    · cases e
def rCatL (K : PySem.W.Frag) : R2 := fun x y H Q => ∃ l b xs zs, x = .ref l ∧ y = .ref b ∧ SqL K H l xs ∧ SqL K H b zs ∧ xs.length + zs.length ≤ sizeLine ∧ ∀ p, H p = none → Q (.ref p) (upd H p (.lst (xs ++ zs)))
theorem add_plain {prog : Program} {w : World} {A : Around} {E : Value → Shared → Prop} {s : Shared} {l b : Addr} {xs ys : Array Value} {Q : Value → Shared → Prop} (hl : PlainL s.heap l xs) (hb : PlainL s.heap b ys)
    (h : Q (.ref s.heap.objs.size) { s with heap := s.heap.push { cls := .type "list", data := .seq (xs ++ ys) } }) (hz : xs.size + ys.size ≤ sizeLine) : wpAny (model prog w) A (binaryOp .Add (.ref l) (.ref b)) Q E s := by
  obtain ⟨⟨cls, dd, data, sl⟩, ho, hc, n, hd⟩ := id hl.isList
  obtain ⟨⟨cls2, dd2, data2, sl2⟩, ho2, hc2, n2, hd2⟩ := id hb.isList
  simp only at hc hd hc2 hd2
  subst hc hd hc2 hd2
  exact concat_meets ⟨_, ho, rfl⟩ ⟨_, ho2, rfl⟩ noFill_list_add seq_list_add PySem.F.slot_list_add PySem.F.entry_list_add (PySem.F.args_list_add_2 _ _) (list_addW l b xs ys n n2 dd dd2 sl sl2 hz) ⟨ho, ho2, h⟩
theorem op_catL {X : Cx} : OpR X (binaryOp .Add) (rCatL X.K) := by
  intro pins s σ H x y v u Q I rx ry h
  obtain ⟨l, b, xs, zs, rfl, rfl, hH, hB, hz, q⟩ := h
  cases rx
  cases ry
  obtain ⟨its, r, pl, z⟩ := I.list hH
  obtain ⟨its2, r2, pl2, z2⟩ := I.list hB
  have h1 := r.length
  have h2 := r2.length
  refine add_plain pl pl2 ?_ (by rw [List.size_toArray, List.size_toArray]; omega)
  have ea : its.toArray ++ its2.toArray = (its ++ its2).toArray := by simp
  rw [ea]
  refine ⟨.ref s.heap.objs.size, _, I.laid (t' := s.toks) (o := .lst (xs ++ zs)) (fun b o e => Heap.get?_push_of_some _ e) (Nat.le_refl _) ?_, rfl, q _ (I.hok.fresh (Nat.le_refl _))⟩
  exact ⟨by rw [List.length_append]; exact hz, _, 0, r.append r2, Heap.get?_push_size _ rfl⟩
def catOk (n m : Nat) : Bool := decide (n + m ≤ sizeLine)
def addS : D → D → Option D
  | .int i, .int j => some (.int (i + j))
  | .int i, .bl b => some (.int (i + b2i b))
  | .str a, .str b => if catOk a.length b.length = true then some (.str (a ++ b)) else none
  | _, _ => none
def rAddS : R2 := fun x y H Q => rI0 (fun i j => .int (i + j)) x y H Q ∨ (∃ i k, x = .int i ∧ y = .bl k ∧ Q (.int (i + b2i k)) H) ∨ (∃ i j, x = .str i ∧ y = .str j ∧ i.length + j.length ≤ sizeLine ∧ Q (.str (i ++ j)) H)
theorem o_add {X : Cx} : OpR X (binaryOp .Add) rAddS := OpR.or op_add (OpR.or op_add_ib op_add_str)
theorem str_app (a b : List Nat) : (⟨a.toArray⟩ : Str) ++ ⟨b.toArray⟩ = ⟨(a ++ b).toArray⟩ := by
  show Str.append _ _ = _
  simp [Str.append]
theorem s_add {K : PySem.W.Frag} : OpS K rAddS addS := by
  intro H x y d e z Q hx hy e1 q
  unfold addS at e1
  split at e1
  · cases e1; cases hx; cases hy; exact .inl ⟨_, _, rfl, rfl, q⟩
  · cases e1; cases hx; cases hy; exact .inr (.inl ⟨_, _, rfl, rfl, q⟩)
  · split at e1
    · rename_i h
      cases e1; cases hx; cases hy
      exact .inr (.inr ⟨_, _, rfl, rfl, by have := of_decide_eq_true h; simpa [Str.length] using this, by rw [str_app]; exact q⟩)
    · cases e1
  · cases e1
/-- o[i] -/
def ixD (d : D) (k : Int) : Option D := match d with
  | .lst l => atI l k
  | .tup l => atI l k
  | .str s => if s.length ≤ sizeLine then (atI s k).map fun c => .str [c] else none
  | _ => none
def zIx (ma mb : ZM) : ZM := fun g => do
  let (r1, g1) ← ma g
  let (r2, g2) ← mb g1
  let d ← rd g2 r1
  let k ← isI r2
  let z ← ixD d k
  some (.dat z, g2)
theorem atI_dz {K : PySem.W.Frag} {H : Hp} {vs : List V} {ds : List D} {k : Int} {z : D} (h : DzA K H vs ds) (e : atI ds k = some z) : ∃ v, atI vs k = some v ∧ Dz K H v z := by
  unfold atI at e ⊢
  rw [h.length]
  cases q : ixN ds.length k with
  | none => rw [q] at e; cases e
  | some j =>
    rw [q] at e
    obtain ⟨v, h1, h2⟩ := h.get (show ds[j]? = some z from e)
    exact ⟨v, h1, h2⟩
section
variable {X : Cx} {pos : Pos} {a b : Expr} {ma mb : ZM}
theorem ze_ix (ha : ZE X a ma) (hb : ZE X b mb) (hs : PlainIx b := by exact fun _ _ => rfl) : ZE X (.Subscript a b pos) (zIx ma mb) := by
  refine PE.of (pe_ix ix_seq ha hb hs) fun σ H Q ⟨C, Hs, A, g, r, g', hK, hn, ok, e, q⟩ => ?_
  unfold zIx at e
  simp only [Option.bind_eq_bind, Option.bind_eq_some_iff] at e
  obtain ⟨⟨r1, g1⟩, h1, ⟨r2, g2⟩, h2, d, h3, k, h4, z, h5, e⟩ := e
  cases e
  have er : r2 = .dat (.int k) := isI_some h4
  subst er
  refine tZ2 hK hn ok h1 h2 fun Hs2 A2 v1 v2 H2 s p ok2 w1 w2 => ?_
  have e2 : v2 = .int k := (show Dz C.K Hs2 v2 (.int k) from w2).v rfl
  subst e2
  cases d with
  | lst l =>
    obtain ⟨a', vs, rfl, y1, y2⟩ := ok2.rdL w1 h3
    obtain ⟨v, x1, x2⟩ := atI_dz y2 h5
    exact .inl ⟨a', vs, k, v, rfl, rfl, by rw [← hK]; exact y1, x1, q Hs2 A2 v H2 s p ok2 x2⟩
  | tup l =>
    obtain ⟨a', vs, rfl, y1, y2⟩ := ok2.rdT w1 h3
    obtain ⟨v, x1, x2⟩ := atI_dz y2 h5
    exact .inr (.inl ⟨a', vs, k, v, rfl, rfl, by rw [← hK]; exact sameT ok2.same y1, x1, q Hs2 A2 v H2 s p ok2 x2⟩)
  | str t =>
    have hd := ok2.rd w1 h3
    cases hd
    simp only [ixD] at h5
    split at h5
    · rename_i hl
      cases ec : atI t k with
      | none => rw [ec] at h5; cases h5
      | some c =>
        rw [ec] at h5
        cases h5
        exact .inr (.inr ⟨_, k, c, rfl, rfl, by simpa [Str.length] using hl, by simpa using ec, q Hs2 A2 _ H2 s p ok2 (.str [c])⟩)
    · cases h5
  | _ => cases h5
theorem len_codes (t : List Nat) : (⟨t.toArray⟩ : Str).length = t.length := by simp [Str.length]
def lenD : List D → Option D
  | [.lst l] => some (.int l.length)
  | [.tup l] => some (.int l.length)
  | [.str s] => if s.length ≤ sizeLine then some (.int s.length) else none
  | _ => none
def rLen (K : PySem.W.Frag) : List V → Hp → VK → Prop := fun xs H Q => ∃ x n, xs = [x] ∧ LenV K x H n ∧ Q (.int n) H
theorem s_len {K : PySem.W.Frag} : CallS K (rLen K) lenD := by
  intro H vs ds z Q hz e q
  unfold lenD at e
  split at e
  · cases e
    cases hz with
    | cons h t =>
      cases t
      cases h with
      | lst hs ha => exact ⟨_, _, rfl, .inl ⟨_, hs, rfl⟩, by rw [ha.length]; exact q⟩
  · cases e
    cases hz with
    | cons h t =>
      cases t
      cases h with
      | tup hs ha => exact ⟨_, _, rfl, .inr ⟨_, hs, rfl⟩, by rw [ha.length]; exact q⟩
  · split at e
    · rename_i hl
      cases e
      cases hz with
      | cons h t =>
        cases t
        cases h with
        | str s => exact ⟨_, _, rfl, ⟨by simpa [Str.length] using hl, rfl⟩, by rw [len_codes]; exact q⟩
    · cases e
  · cases e
def absD : List D → Option D
  | [.int i] => some (.int (if i < 0 then -i else i))
  | _ => none
theorem s_abs {K : PySem.W.Frag} : CallS K (fun xs H Q => ∃ i, xs = [.int i] ∧ Q (.int (if i < 0 then -i else i)) H) absD := by
  intro H vs ds z Q hz e q
  unfold absD at e
  split at e
  · cases e
    cases hz with
    | cons h t =>
      cases t
      cases h
      exact ⟨_, rfl, q⟩
  · cases e
/-- the texts of a list -/
def txsD : List D → Option (List (List Nat))
  | [] => some []
  | .str s :: r => do
    let t ← txsD r
    some (s :: t)
  | _ :: _ => none
theorem strs_map : ∀ {ds : List D} {ts : List (List Nat)}, txsD ds = some ts → ds = ts.map D.str
  | [], ts, e => by cases e; rfl
  | d :: r, ts, e => by
    cases d with
    | str s =>
      simp only [txsD, Option.bind_eq_bind, Option.bind_eq_some_iff] at e
      obtain ⟨t, h1, e⟩ := e
      cases e
      rw [strs_map h1]
      rfl
    | _ => cases e
theorem dzA_strs {K : PySem.W.Frag} {H : Hp} : ∀ {vs : List V} {ts : List (List Nat)}, DzA K H vs (ts.map D.str) → vs = (ts.map fun t => (⟨t.toArray⟩ : Str)).map V.str
  | [], [], _ => rfl
  | _ :: _, [], h => by cases h
  | [], _ :: _, h => by cases h
  | v :: vs, t :: ts, h => by
    cases h with
    | cons h1 h2 =>
      cases h1
      rw [dzA_strs h2]
      rfl
def joinD : D → List D → Option D
  | .str sep, [.lst l] => do
    let ts ← txsD l
    if (ts.map List.length).sum + ts.length * sep.length ≤ 16777216 then some (.str (TL.joinL sep ts)) else none
  | .str sep, [.tup l] => do
    let ts ← txsD l
    if (ts.map List.length).sum + ts.length * sep.length ≤ 16777216 then some (.str (TL.joinL sep ts)) else none
  | _, _ => none
def rJoin (K : PySem.W.Frag) : V → List V → Hp → VK → Prop := fun x xs H Q => ∃ a p, ∃ ys : List Str, x = .str a ∧ xs = [.ref p] ∧ (SqL K H p (ys.map V.str) ∨ SqT K H p (ys.map V.str)) ∧
    (ys.map (·.length)).sum + ys.length * a.length ≤ 16777216 ∧ Q (.str (Txt.join a ys)) H
theorem join_codes (sep : List Nat) (ts : List (List Nat)) : Txt.join ⟨sep.toArray⟩ (ts.map fun t => (⟨t.toArray⟩ : Str)) = ⟨(TL.joinL sep ts).toArray⟩ := by
  refine TL.ext_tl ?_
  rw [TL.join_eq, TL.tl_join]
  show TL.joinL (TL.tl ⟨sep.toArray⟩) ((ts.map fun t => (⟨t.toArray⟩ : Str)).map TL.tl) = TL.joinL sep ts
  rw [List.map_map, TL.tl_mk]
  congr 1
  exact List.map_id' ts
theorem s_join {K : PySem.W.Frag} : MtS K (rJoin K) joinD := by
  intro H x vs d ds z Q hx hz e q
  unfold joinD at e
  have key : ∀ (sep : List Nat) (ts : List (List Nat)), (ts.map List.length).sum + ts.length * sep.length ≤ 16777216 → ((ts.map fun t => (⟨t.toArray⟩ : Str)).map (·.length)).sum + (ts.map fun t => (⟨t.toArray⟩ : Str)).length * (⟨sep.toArray⟩ : Str).length ≤ 16777216 := fun sep ts h => by
    rw [List.map_map, List.length_map]
    have e1 : ((fun x : Str => x.length) ∘ fun t : List Nat => (⟨t.toArray⟩ : Str)) = List.length := by funext t; simp [Str.length]
    rw [e1]
    simpa [Str.length] using h
  split at e
  · simp only [Option.bind_eq_bind, Option.bind_eq_some_iff] at e
    obtain ⟨ts, h1, e⟩ := e
    split at e
    · rename_i hl
      cases e
      cases hx
      cases hz with
      | cons h t =>
        cases t
        cases h with
        | lst hs ha =>
          rw [strs_map h1] at ha
          have ev := dzA_strs ha
          subst ev
          exact ⟨_, _, _, rfl, rfl, .inl hs, key _ _ hl, by rw [join_codes]; exact q⟩
    · cases e
  · simp only [Option.bind_eq_bind, Option.bind_eq_some_iff] at e
    obtain ⟨ts, h1, e⟩ := e
    split at e
    · rename_i hl
      cases e
      cases hx
      cases hz with
      | cons h t =>
        cases t
        cases h with
        | tup hs ha =>
          rw [strs_map h1] at ha
          have ev := dzA_strs ha
          subst ev
          exact ⟨_, _, _, rfl, rfl, .inr hs, key _ _ hl, by rw [join_codes]; exact q⟩
    · cases e
  · cases e
end
end Z
set_option Elab.async false
set_option linter.all false
set_option maxRecDepth 100000
set_option maxHeartbeats 4000000
namespace Z
open PySem PySem.Spec PyProof.Rows L2
/-- a def of the top stands at its name -/
def DefAt (K : PySem.W.Frag) (mg : Str → Option Value) (x : Str) (st : Stmt) : Prop := ∃ (a : Addr) (fd : FuncData), mg x = some (.ref a) ∧ Fun K x x st a fd
/-- a constant of the top -/
def ConstAt (K : PySem.W.Frag) (mg : Str → Option Value) (x : Str) (v : V) (d : D) : Prop := (∃ u, mg x = some u ∧ RelV v u) ∧ ∀ H, Dz K H v d
theorem ze_gc {X : Cx} {pos : Pos} {x : Str} {v : V} {d : D} (h : ConstAt X.K X.mg x v d) (hg : Gl X x := by rfl) (hdb : (x == ("__debug__" : Str)) = false := by decide) : ZE X (.Name x pos) (zC d) := by
  obtain ⟨⟨u, h1, h2⟩, h3⟩ := h
  exact ze_glob hg h1 h2 h3 hdb
/-- int(x): of an int, a bool, a text -/
def intU : List D → Option D
  | [.int i] => some (.int i)
  | [.bl b] => some (.int (if b then 1 else 0))
  | [.str s] => match PySem.intText? ⟨s.toArray⟩ with
    | some n => if s.length ≤ 640 then some (.int n) else none
    | none => none
  | _ => none
def rIntU : List V → Hp → VK → Prop := fun xs H Q => ((∃ i, xs = [.int i] ∧ Q (.int i) H) ∨ ∃ k, xs = [.bl k] ∧ Q (.int (if k then 1 else 0)) H) ∨ (∃ a n, xs = [.str a] ∧ PySem.intText? a = some n ∧ a.length ≤ 640 ∧ Q (.int n) H)
theorem call_intU {X : Cx} : CallR X (.type "int") rIntU := CallR.or call_int1 call_int_str
theorem s_intU {K : PySem.W.Frag} : CallS K rIntU intU := by
  intro H vs ds z Q hz e q
  unfold intU at e
  split at e
  · cases e
    cases hz with
    | cons h t =>
      cases t
      cases h
      exact .inl (.inl ⟨_, rfl, q⟩)
  · cases e
    cases hz with
    | cons h t =>
      cases t
      cases h
      exact .inl (.inr ⟨_, rfl, q⟩)
  · split at e
    · rename_i n hn
      split at e
      · rename_i hl
        cases e
        cases hz with
        | cons h t =>
          cases t
          cases h
          exact .inr ⟨_, n, rfl, hn, by rw [len_codes]; exact hl, q⟩
      · cases e
    · cases e
  · cases e
/-- the script as data -/
def scriptD (ns : List Int) : D := .lst (ns.map .int)
theorem dzA_ints {K : PySem.W.Frag} {H : Hp} : ∀ ns : List Int, DzA K H (ns.map V.int) (ns.map D.int)
  | [] => .nil
  | n :: r => .cons (.int n) (dzA_ints r)
/-- the law's promise from its function -/
theorem law_sp {K : PySem.W.Frag} {H : Hp} {a : Addr} {ns : List Int} {f : List D → Option FR} (h : SqL K H a (ns.map V.int)) (e : f [scriptD ns] = some (.dat (.bl true))) : spP K f [.ref a] H (fun v _ => v = .bl true) fun _ _ _ => False := by
  refine ⟨H, [scriptD ns], .dat (.bl true), Same.refl _, .cons (.lst h (dzA_ints ns)) .nil, e, fun v Hs' H' _ _ _ _ rf => ?_⟩
  exact (show Dz K Hs' v (.bl true) from rf).v rfl
end Z
set_option Elab.async false
set_option linter.all false
set_option maxRecDepth 100000
set_option maxHeartbeats 4000000
namespace Z
open PySem PySem.Spec PyProof.Rows L2
section
variable {g g1 g2 g3 : G} {r r1 r2 : R} {d e z : D} {ma mb mc m : ZM} {mr : ZAr} {rs : List R} {ds : List D} {b b1 b2 : Bool} {t s : ZT} {n i j : Nat}
theorem er_op {f : D → D → Option D} (h1 : ma g = some (r1, g1)) (h2 : mb g1 = some (r2, g2)) (h3 : rd g2 r1 = some d) (h4 : rd g2 r2 = some e) (h5 : f d e = some z) (h6 : z.scal = true) : zOp f ma mb g = some (.dat z, g2) := by
  unfold zOp; simp only [h1, h2, h3, h4, h5, h6, Option.bind_eq_bind, Option.bind_some, if_true]
theorem er_un {f : D → Option D} (h1 : ma g = some (r1, g1)) (h3 : rd g1 r1 = some d) (h5 : f d = some z) (h6 : z.scal = true) : zUn f ma g = some (.dat z, g1) := by
  unfold zUn; simp only [h1, h3, h5, h6, Option.bind_eq_bind, Option.bind_some, if_true]
theorem er_chain {f f' : D → D → Option D} {r3 : R} {h : D} (h1 : ma g = some (r1, g1)) (h2 : mb g1 = some (r2, g)) (h3 : rd g r1 = some d) (h4 : rd g r2 = some e) (h5 : f d e = some (.bl b1)) (h6 : b1 = true → mc g = some (r3, g)) (h7 : rd g r3 = some h) (h8 : f' e h = some (.bl b2)) :
    zChain f f' ma mb mc g = some (.dat (.bl (b1 && b2)), g) := by
  unfold zChain; simp only [h1, h2, h3, h4, h5, Option.bind_eq_bind, Option.bind_some]
  cases b1 with
  | true => simp only [h6 rfl, h4, h7, h8, Option.bind_some, D.scal, if_true, Bool.true_and]
  | false => rfl
theorem er_tst (h1 : m g = some (.dat (.bl b), g1)) : zTst m g = some (b, g1) := by
  unfold zTst; simp only [h1, isB, Option.bind_eq_bind, Option.bind_some]
theorem er_tru (h1 : m g = some (r, g1)) (h2 : rd g1 r = some d) (h3 : tru d = some b) : zTru m g = some (b, g1) := by
  unfold zTru; simp only [h1, h2, h3, Option.bind_eq_bind, Option.bind_some]
theorem er_andT (h1 : s g = some (b1, g)) (h2 : b1 = true → t g = some (b2, g)) : zAndT s t g = some (b1 && b2, g) := by
  unfold zAndT; simp only [h1, Option.bind_eq_bind, Option.bind_some]
  cases b1 with
  | true => simp only [h2 rfl, if_true, Bool.true_and]
  | false => rfl
theorem er_orT (h1 : s g = some (b1, g)) (h2 : b1 = false → t g = some (b2, g)) : zOrT s t g = some (b1 || b2, g) := by
  unfold zOrT; simp only [h1, Option.bind_eq_bind, Option.bind_some]
  cases b1 with
  | true => rfl
  | false =>
    rw [if_neg Bool.false_ne_true, h2 rfl]
    rfl
theorem er_notT (h1 : s g = some (b, g1)) : zNotT s g = some (!b, g1) := by
  unfold zNotT; simp only [h1, Option.bind_eq_bind, Option.bind_some]
theorem er_andV (h1 : ma g = some (.dat (.bl b1), g)) (h2 : b1 = true → mb g = some (.dat (.bl b2), g)) : zAndV ma mb g = some (.dat (.bl (b1 && b2)), g) := by
  unfold zAndV; simp only [h1, isB, Option.bind_eq_bind, Option.bind_some]
  cases b1 with
  | true => simp only [h2 rfl, if_true, Bool.true_and]
  | false => rfl
theorem er_orV (h1 : ma g = some (.dat (.bl b1), g)) (h2 : b1 = false → mb g = some (.dat (.bl b2), g)) : zOrV ma mb g = some (.dat (.bl (b1 || b2)), g) := by
  unfold zOrV; simp only [h1, isB, Option.bind_eq_bind, Option.bind_some]
  cases b1 with
  | true => rfl
  | false =>
    rw [if_neg Bool.false_ne_true, h2 rfl]
    rfl
theorem er_notV (h1 : ma g = some (.dat (.bl b), g1)) : zNotV ma g = some (.dat (.bl (!b)), g1) := by
  unfold zNotV; simp only [h1, isB, Option.bind_eq_bind, Option.bind_some]
theorem er_ifT (h1 : t g = some (true, g1)) (h2 : ma g1 = some (r, g2)) : zIf t ma mb g = some (r, g2) := by
  unfold zIf; simp only [h1, h2, Option.bind_eq_bind, Option.bind_some, if_true]
theorem er_ifF (h1 : t g = some (false, g1)) (h2 : mb g1 = some (r, g2)) : zIf t ma mb g = some (r, g2) := by
  unfold zIf; simp only [h1, Option.bind_eq_bind, Option.bind_some]
  rw [if_neg Bool.false_ne_true]
  exact h2
theorem er_cons (h1 : ma g = some (r, g1)) (h2 : mr g1 = some (rs, g2)) : zCons ma mr g = some (r :: rs, g2) := by
  unfold zCons; simp only [h1, h2, Option.bind_eq_bind, Option.bind_some]
theorem er_callS {f : List D → Option D} (h1 : mr g = some (rs, g1)) (h2 : rdAll g1 rs = some ds) (h3 : f ds = some z) (h4 : z.scal = true) : zCallS f mr g = some (.dat z, g1) := by
  unfold zCallS; simp only [h1, h2, h3, h4, Option.bind_eq_bind, Option.bind_some, if_true]
theorem er_callV {f : List D → Option FR} (h1 : mr g = some (rs, g1)) (h2 : rdAll g1 rs = some ds) (h3 : f ds = some (.dat d)) (h4 : d.scal = true) : zCall f mr g = some (.dat d, g1) := by
  unfold zCall; simp only [h1, h2, h3, h4, Option.bind_eq_bind, Option.bind_some, if_true]
theorem frzAll_dat : ∀ (ds : List D) (g : G), frzAll (ds.map R.dat) g = some (ds, g)
  | [], _ => rfl
  | d :: ds, g => by
    simp only [List.map_cons, frzAll, frzR, frzAll_dat ds g, Option.bind_eq_bind, Option.bind_some]
/-- all arguments data: no matter what comes back -/
theorem rdAll_dat : ∀ (ds : List D) (g : G), rdAll g (ds.map R.dat) = some ds
  | [], _ => rfl
  | d :: ds, g => by
    simp only [List.map_cons, rdAll, rdX, rd, rdAll_dat ds g, Option.bind_eq_bind, Option.bind_some]
theorem er_call {f : List D → Option FR} (h1 : mr g = some (ds.map R.dat, g1)) (h3 : f ds = some (.dat d)) : zCall f mr g = some (.dat d, g1) := by
  unfold zCall; simp only [h1, rdAll_dat, frzAll_dat, h3, Option.bind_eq_bind, Option.bind_some]
  split
  · rfl
  · rfl
theorem er_callL {f : List D → Option FR} {c : Cn} (h1 : mr g = some (ds.map R.dat, g1)) (h3 : f ds = some (.new c)) : zCall f mr g = some (.bor g1.length, g1 ++ [.own c false false]) := by
  unfold zCall; simp only [h1, rdAll_dat, frzAll_dat, h3, Option.bind_eq_bind, Option.bind_some]
  split
  · rfl
  · rfl
/-- a call whose arguments are data, or whose answer is plain -/
theorem er_callG {f : List D → Option FR} (h1 : mr g = some (rs, g1)) (h2 : rdAll g1 rs = some ds) (h2' : frzAll rs g1 = some (ds, g2)) (h3 : f ds = some (.dat d)) (h4 : g2 = g1) : zCall f mr g = some (.dat d, g1) := by
  subst h4
  unfold zCall; simp only [h1, h2, h2', h3, Option.bind_eq_bind, Option.bind_some]
  split
  · rfl
  · rfl
theorem er_callH {f : List D → Option FR} {c : Cn} (h1 : mr g = some (rs, g1)) (h2 : rdAll g1 rs = some ds) (h2' : frzAll rs g1 = some (ds, g2)) (h3 : f ds = some (.new c)) (h4 : g2 = g1) : zCall f mr g = some (.bor g1.length, g1 ++ [.own c false false]) := by
  subst h4
  unfold zCall; simp only [h1, h2, h2', h3, Option.bind_eq_bind, Option.bind_some]
  split
  · rfl
  · rfl
theorem er_ix {k : Int} (h1 : ma g = some (r1, g1)) (h2 : mb g1 = some (.dat (.int k), g2)) (h3 : rd g2 r1 = some d) (h4 : ixD d k = some z) : zIx ma mb g = some (.dat z, g2) := by
  unfold zIx; simp only [h1, h2, h3, h4, isI, Option.bind_eq_bind, Option.bind_some]
theorem er_mt {T : String} {f : D → List D → Option D} (h1 : ma g = some (r, g1)) (h2 : rd g1 r = some d) (h3 : tyD T d = true) (h4 : mr g1 = some (rs, g2)) (h5 : rd g2 r = some e) (h6 : rdAll g2 rs = some ds) (h7 : f e ds = some z) (h8 : z.scal = true) : zMt T f ma mr g = some (.dat z, g2) := by
  unfold zMt; simp only [h1, h2, h3, h4, h5, h6, h7, h8, Option.bind_eq_bind, Option.bind_some, if_true]
theorem er_tup (h1 : mr g = some (rs, g1)) (h2 : frzAll rs g1 = some (ds, g2)) (h3 : ds.length ≤ sizeLine) : zTup mr g = some (.dat (.tup ds), g2) := by
  unfold zTup; simp only [h1, h2, h3, Option.bind_eq_bind, Option.bind_some, if_true]
theorem er_lst (h1 : mr g = some (rs, g1)) (h2 : frzAll rs g1 = some (ds, g2)) (h3 : ds.length ≤ sizeLine) : zLst mr g = some (.bor g2.length, g2 ++ [.own (.lst ds) false false]) := by
  unfold zLst; simp only [h1, h2, h3, Option.bind_eq_bind, Option.bind_some, if_true]
def ap {β : Type} (kk : Option (Fl × G) → β) (o : Option (Fl × G)) : β := kk o
variable {β : Type} {kk : Option (Fl × G) → β} {OUT : β} {st st1 st2 rest : SM} {c : Cn}
theorem sr_nx (k : ap kk (rest g) = OUT) : ap kk (zSeq zNx rest g) = OUT := k
theorem sr_assoc {s1 s2 s3 : SM} (k : ap kk (zSeq s1 (zSeq s2 s3) g) = OUT) : ap kk (zSeq (zSeq s1 s2) s3 g) = OUT := by
  have e : zSeq (zSeq s1 s2) s3 g = zSeq s1 (zSeq s2 s3) g := by
    unfold zSeq
    simp only [Option.bind_eq_bind]
    cases s1 g with
    | none => rfl
    | some o =>
      obtain ⟨fl, g1⟩ := o
      cases fl <;> rfl
  rw [e]; exact k
theorem set_dat (h1 : m g = some (.dat d, g1)) (hf : freeAt i g1 = true) (hg : (g1.set i (.dat d)).take n = g2) : zSet n i m g = some (.nx, g2) := by
  unfold zSet; simp only [h1, setR, setDat, hf, hg, Option.bind_eq_bind, Option.bind_some, if_true]
theorem set_own (h1 : m g = some (.bor j, g1)) (hj : n ≤ j) (ho : g1[j]? = some (.own c false false)) (hf : freeAt i g1 = true) (hg : ((g1.set i (.own c false false)).set j .un).take n = g2) : zSet n i m g = some (.nx, g2) := by
  unfold zSet; simp only [h1, setR, if_pos hj, ho, hf, hg, Option.bind_eq_bind, Option.bind_some, if_true]
theorem app_run (h1 : ma g = some (.bor j, g1)) {ds0 : List D} {p0 l0 p : Bool} (h0 : g1[j]? = some (.own (.lst ds0) p0 l0)) (h2 : mb g1 = some (r, g2)) (h3 : frzR r g2 = some (d, g3)) (h4 : g3[j]? = some (.own (.lst ds) p false)) (hz : ds.length < sizeLine) {g4 : G} (hg : (g3.set j (.own (.lst (ds ++ [d])) p false)).take n = g4) :
    zApp n ma mb g = some (.nx, g4) := by
  unfold zApp; simp only [h1, h0, h2, h3, h4, if_pos hz, hg, Option.bind_eq_bind, Option.bind_some]
theorem seq_nx (h : st g = some (.nx, g1)) (k : ap kk (rest g1) = OUT) : ap kk (zSeq st rest g) = OUT := by
  unfold zSeq; simp only [h, Option.bind_eq_bind, Option.bind_some]; exact k
theorem one_nx (h : st g = some (.nx, g1)) (k : ap kk (some (.nx, g1)) = OUT) : ap kk (st g) = OUT := by rw [h]; exact k
theorem sr_if (h1 : t g = some (b, g1)) (hg : g1.take n = g2) (k1 : b = true → ap kk (zSeq st1 rest g2) = OUT) (k2 : b = false → ap kk (zSeq st2 rest g2) = OUT) : ap kk (zSeq (zIfS n t st1 st2) rest g) = OUT := by
  have e : zSeq (zIfS n t st1 st2) rest g = if b = true then zSeq st1 rest g2 else zSeq st2 rest g2 := by
    unfold zSeq zIfS
    simp only [h1, hg, Option.bind_eq_bind, Option.bind_some]
    cases b with
    | true => rfl
    | false => rfl
  rw [e]
  cases b with
  | true => exact k1 rfl
  | false => exact k2 rfl
theorem sr_if1 (h1 : t g = some (b, g1)) (hg : g1.take n = g2) (k1 : b = true → ap kk (st1 g2) = OUT) (k2 : b = false → ap kk (st2 g2) = OUT) : ap kk (zIfS n t st1 st2 g) = OUT := by
  have e : zIfS n t st1 st2 g = if b = true then st1 g2 else st2 g2 := by
    unfold zIfS
    simp only [h1, hg, Option.bind_eq_bind, Option.bind_some]
  rw [e]
  cases b with
  | true => exact k1 rfl
  | false => exact k2 rfl
theorem sr_ret (h : m g = some (r, g1)) (k : ap kk (some (.ret r, g1)) = OUT) : ap kk (zRet m g) = OUT := by
  unfold zRet; simp only [h, Option.bind_eq_bind, Option.bind_some]; exact k
theorem sr_retS (h : m g = some (r, g1)) (k : ap kk (some (.ret r, g1)) = OUT) : ap kk (zSeq (zRet m) rest g) = OUT := by
  unfold zSeq zRet; simp only [h, Option.bind_eq_bind, Option.bind_some]; exact k
/-- what runP does with the end -/
def finK : Option (Fl × G) → Option FR
  | some (.ret r, g) => fin g r
  | some (.nx, _) => some (.dat .non)
  | _ => none
theorem runP_ap {np : Nat} {s : SM} {OUT : Option FR} (hl : ds.length = np) (hg : start0 n ds = g) (k : ap finK (s g) = OUT) : runP n np s ds = OUT := by
  unfold runP
  rw [if_pos hl, hg]
  exact k
/-- .. where only something is said of what comes back -/
theorem runP_post {np : Nat} {s : SM} {post : FR → Prop} (hl : ds.length = np) (hg : start0 n ds = g) (k : ap (fun o => ∃ fr, finK o = some fr ∧ post fr) (s g) = True) : ∃ fr, runP n np s ds = some fr ∧ post fr := by
  have h : ∃ fr, finK (s g) = some fr ∧ post fr := by
    have h1 : (∃ fr, finK (s g) = some fr ∧ post fr) = True := k
    rw [h1]
    trivial
  obtain ⟨fr, h1, h2⟩ := h
  exact ⟨fr, runP_ap hl hg h1, h2⟩
theorem end_post {post : FR → Prop} {o : Option (Fl × G)} {fr : FR} (h : finK o = some fr) (h2 : post fr) : ap (fun o => ∃ fr, finK o = some fr ∧ post fr) o = True := eq_true ⟨fr, h, h2⟩
/-- loops -/
theorem for_none {mi : MI} {tg : TD} {L : List D} (h1 : mi g = some (L, none, g1)) (hg : g1.take n = g2) {o : Option (Fl × G)} (h2 : forL tg st L g2 = o) : zFor n mi tg st g = o := by
  unfold zFor; simp only [h1, hg, h2, Option.bind_eq_bind, Option.bind_some]
theorem mi_R1 {k : Int} (h1 : mr g = some ([.dat (.int k)], g1)) (h2 : rgOk k = true) : ziR1 mr g = some (rgD 0 k.toNat, none, g1) := by
  unfold ziR1; simp only [h1, h2, Option.bind_eq_bind, Option.bind_some, if_true]
theorem mi_Ld {L : List D} (h1 : m g = some (.dat (.lst L), g1)) : ziL n m g = some (L, none, g1) := by
  unfold ziL; simp only [h1, Option.bind_eq_bind, Option.bind_some]
theorem mi_Lb {L : List D} {p l : Bool} (h1 : m g = some (.bor j, g1)) (hj : j < n) (h2 : g1[j]? = some (.own (.lst L) p l)) : ziL n m g = some (L, some j, g1) := by
  unfold ziL; simp only [h1, ziB, if_pos hj, h2, Option.bind_eq_bind, Option.bind_some]
/-- a loop by an invariant that only says something of the slots -/
theorem forL_inv {tg : TD} : ∀ {L : List D} (I : Nat → G → Prop) (k : Nat) (g : G), I k g → (∀ i d g, L[i]? = some d → I (k + i) g → ∃ g1 g2, tg d g = some g1 ∧ (st g1 = some (.nx, g2) ∨ st g1 = some (.ct, g2)) ∧ I (k + i + 1) g2) → ∃ g2, forL tg st L g = some (.nx, g2) ∧ I (k + L.length) g2
  | [], I, k, g, h0, _ => ⟨g, rfl, h0⟩
  | d :: L, I, k, g, h0, h => by
    obtain ⟨g1, g2, h1, h2, h3⟩ := h 0 d g rfl h0
    obtain ⟨g3, e3, i3⟩ := forL_inv (L := L) I (k + 1) g2 h3 fun i d' g' hd hi => by
      have := h (i + 1) d' g' (by simpa using hd) (by rw [show k + (i + 1) = k + 1 + i by omega]; exact hi)
      rw [show k + (i + 1) = k + 1 + i by omega] at this
      exact this
    refine ⟨g3, ?_, by rw [show k + (d :: L).length = k + 1 + L.length by simp; omega]; exact i3⟩
    simp only [forL, Option.bind_eq_bind]
    rw [h1]
    simp only [Option.bind_some]
    rcases h2 with h2 | h2
    · rw [h2]; exact e3
    · rw [h2]; exact e3
/-- the size of a number -/
def iabs (i : Int) : Int := if i < 0 then -i else i
theorem dr_div {i j : Int} (h : 0 < j) (h2 : j.natAbs.log2 < 9000) : divD (.int i) (.int j) = some (.int (i / j)) := by
  have h0 : j ≠ 0 := by omega
  simp [divD, divOk, fdivV, h, h0, h2]
theorem dr_divB {i j : Int} (h : 0 < j) (h2 : j < 2 ^ 256) : divD (.int i) (.int j) = some (.int (i / j)) := by
  refine dr_div h (Nat.lt_of_lt_of_le (PySem.Flt.log2_lt_of (k := 256) (by decide) (by omega)) (by decide))
theorem dr_mod {i j : Int} (h : 0 < j) : modD (.int i) (.int j) = some (.int (i % j)) := by
  have h0 : j ≠ 0 := by omega
  simp [modD, fmodV, h, h0]
theorem dr_mulr {i j : Int} (h : decide (j.natAbs < 2 ^ 64) = true) : mulD (.int i) (.int j) = some (.int (i * j)) := by
  simp only [mulD, mulOk, h, Bool.or_true, Bool.true_or, if_true]
theorem dr_mull {i j : Int} (h : decide (i.natAbs < 2 ^ 64) = true) : mulD (.int i) (.int j) = some (.int (i * j)) := by
  simp only [mulD, mulOk, h, Bool.or_true, Bool.true_or, if_true]
theorem dr_mulrB {i j : Int} (h : -(2 ^ 64) < j) (h2 : j < 2 ^ 64) : mulD (.int i) (.int j) = some (.int (i * j)) := dr_mulr (decide_eq_true (by omega))
theorem dr_mullB {i j : Int} (h : -(2 ^ 64) < i) (h2 : i < 2 ^ 64) : mulD (.int i) (.int j) = some (.int (i * j)) := dr_mull (decide_eq_true (by omega))
theorem dr_mulC {i j : Int} (h : -(2 ^ 256) < i) (h2 : i < 2 ^ 256) (h3 : -(2 ^ 256) < j) (h4 : j < 2 ^ 256) : mulD (.int i) (.int j) = some (.int (i * j)) := by
  have a : i.natAbs.log2 < 256 := PySem.Flt.log2_lt_of (by decide) (by omega)
  have b : j.natAbs.log2 < 256 := PySem.Flt.log2_lt_of (by decide) (by omega)
  have c : i.natAbs.log2 + j.natAbs.log2 < 1000000 := by omega
  simp only [mulD, mulOk, decide_eq_true c, Bool.or_true, if_true]
theorem dr_neB {a b : Bool} : neqD (.bl a) (.bl b) = some (.bl (!(a == b))) := rfl
theorem dr_eqB {a b : Bool} : eqD (.bl a) (.bl b) = some (.bl (a == b)) := rfl
theorem dr_abs {i : Int} : absD [.int i] = some (.int (iabs i)) := rfl
theorem dr_eqI {i j : Int} : eqD (.int i) (.int j) = some (.bl (i == j)) := rfl
theorem dr_eqS {a b : List Nat} : eqD (.str a) (.str b) = some (.bl (a == b)) := rfl
theorem dr_neI {i j : Int} : neqD (.int i) (.int j) = some (.bl (!(i == j))) := rfl
theorem dr_neS {a b : List Nat} : neqD (.str a) (.str b) = some (.bl (!(a == b))) := rfl
theorem dr_cat {a b : List Nat} (h : a.length + b.length ≤ sizeLine) : addS (.str a) (.str b) = some (.str (a ++ b)) := by
  simp only [addS, catOk, decide_eq_true h, if_true]
theorem dr_lenS {a : List Nat} (h : a.length ≤ sizeLine) : lenD [.str a] = some (.int a.length) := by
  simp only [lenD, if_pos h]
end
theorem rgD_at {lo : Int} {n i : Nat} {d : D} (h : (rgD lo n)[i]? = some d) : i < n ∧ d = .int (lo + (i : Int)) := by
  have hi := (List.getElem?_eq_some_iff.mp h).1
  rw [rgD_len] at hi
  rw [rgD_get hi] at h
  exact ⟨hi, (Option.some.inj h).symm⟩
theorem atI_lt {α : Type} {xs : List α} {k : Int} (h0 : 0 ≤ k) (h1 : k < xs.length) : ∃ x, atI xs k = some x ∧ x ∈ xs := by
  have hk : k.toNat < xs.length := by omega
  refine ⟨xs[k.toNat], ?_, List.getElem_mem hk⟩
  have := atI_nat (xs := xs) (j := k.toNat) (List.getElem?_eq_getElem hk)
  rw [Int.toNat_of_nonneg h0] at this
  exact this
theorem atI_map {α β : Type} {f : α → β} {xs : List α} {k : Int} {x : α} (h : atI xs k = some x) : atI (xs.map f) k = some (f x) := by
  unfold atI at h ⊢
  rw [List.length_map]
  cases e : ixN xs.length k with
  | none => rw [e] at h; cases h
  | some j =>
    rw [e] at h
    show (xs.map f)[j]? = _
    rw [List.getElem?_map, show xs[j]? = some x from h]
    rfl
/-- the cell that k means, taken round -/
theorem round_in {k n : Int} (h0 : 0 ≤ k) (hn : 0 < n) : 0 ≤ k - k / n * n ∧ k - k / n * n < n := by
  have h1 := Int.emod_nonneg k (show n ≠ 0 by omega)
  have h2 := Int.emod_lt_of_pos k hn
  have h3 := Int.emod_add_mul_ediv k n
  have h4 : k / n * n = n * (k / n) := Int.mul_comm _ _
  omega
theorem rgOk_of {k : Int} (h : -(2 ^ 62) ≤ k) (h2 : k < 2 ^ 62) : rgOk k = true := by
  unfold rgOk
  rw [decide_eq_true h, decide_eq_true h2]
  rfl
end Z
set_option Elab.async false
set_option linter.all false
set_option maxRecDepth 100000
set_option maxHeartbeats 4000000
namespace Z
open PySem PySem.Spec PyProof.Rows L2
def tyNm : D → Option String
  | .non => some "NoneType" | .bl _ => some "bool" | .int _ => some "int" | .str _ => some "str" | .lst _ => some "list" | .tup _ => some "tuple" | .raw _ => none | .dic _ _ => none | .obj _ _ _ => none
theorem tyNm_ok {K : PySem.W.Frag} {H : Hp} {v : V} {d : D} {t : String} (h : Dz K H v d) (e : tyNm d = some t) : TyX K H v (.type t) := by
  cases h with
  | non => cases e; exact .base .non
  | bl b => cases e; exact .base (.bl b)
  | int i => cases e; exact .base (.int i)
  | str s => cases e; exact .base (.str _)
  | lst hs ha =>
    cases e
    rcases hs with (hs | ⟨o, hs⟩) | ⟨o, its, n, h1, h2, _⟩
    · exact .base (.lst hs)
    · exact .base (.frz hs)
    · exact .kList h1 h2
  | tup hs ha =>
    cases e
    rcases hs with (hs | ⟨o, hs⟩) | ⟨o, its, n, h1, h2, _⟩
    · exact .base (.tup hs)
    · exact .fTuple hs
    · exact .kTuple h1 h2
  | raw v => cases e
  | dic _ _ _ => cases e
  | obj _ _ _ _ => cases e
def isiD : List D → Option D
  | [d, .raw (.ty n)] => do
    let t ← tyNm d
    let b ← kitB t n
    some (.bl b)
  | _ => none
theorem call_isiU {X : Cx} : CallR X (.builtin "isinstance") (rIsi X.K) := call_isi
theorem s_isi {K : PySem.W.Frag} : CallS K (rIsi K) isiD := by
  intro H vs ds z Q hz e q
  unfold isiD at e
  split at e
  · rename_i d n
    simp only [Option.bind_eq_bind, Option.bind_eq_some_iff] at e
    obtain ⟨t, h1, b, h2, e⟩ := e
    cases e
    cases hz with
    | cons h r =>
      cases r with
      | cons h3 r =>
        cases r
        cases h3
        exact ⟨_, .ty n, .type t, .type n, b, rfl, .ty n, tyNm_ok h h1, kit_ty h2, q⟩
  · cases e
theorem isi_of {d : D} {t n : String} {b : Bool} (h : tyNm d = some t) (h2 : kitB t n = some b) : isiD [d, .raw (.ty n)] = some (.bl b) := by
  simp only [isiD, h, h2, Option.bind_eq_bind, Option.bind_some]
theorem kb_int_int : kitB "int" "int" = some true := by decide +kernel
theorem kb_int_bool : kitB "int" "bool" = some false := by decide +kernel
theorem kb_bool_bool : kitB "bool" "bool" = some true := by decide +kernel
theorem kb_bool_int : kitB "bool" "int" = some true := by decide +kernel
theorem kb_str_int : kitB "str" "int" = some false := by decide +kernel
theorem kb_str_bool : kitB "str" "bool" = some false := by decide +kernel
theorem kb_str_str : kitB "str" "str" = some true := by decide +kernel
theorem kb_int_str : kitB "int" "str" = some false := by decide +kernel
theorem kb_bool_str : kitB "bool" "str" = some false := by decide +kernel
theorem kb_non_int : kitB "NoneType" "int" = some false := by decide +kernel
theorem kb_non_bool : kitB "NoneType" "bool" = some false := by decide +kernel
theorem kb_non_str : kitB "NoneType" "str" = some false := by decide +kernel
theorem kb_list_list : kitB "list" "list" = some true := by decide +kernel
theorem kb_tuple_tuple : kitB "tuple" "tuple" = some true := by decide +kernel
theorem kb_list_tuple : kitB "list" "tuple" = some false := by decide +kernel
theorem kb_tuple_list : kitB "tuple" "list" = some false := by decide +kernel
end Z
set_option Elab.async false
set_option linter.all false
set_option maxRecDepth 100000
set_option maxHeartbeats 4000000
namespace Z
open PySem PySem.Spec PyProof.Rows L2
def absP : Value → Option D
  | .none => some .non
  | .bool b => some (.bl b)
  | .int i _ => some (.int i)
  | .str x _ => some (.str x.cps.toList)
  | _ => none
theorem absP_ok {u : Value} {d : D} (h : absP u = some d) : ∃ v, RelV v u ∧ ∀ (K : PySem.W.Frag) (H : Hp), Dz K H v d := by
  cases u with
  | none => cases h; exact ⟨.non, rfl, fun _ _ => .non⟩
  | bool b => cases h; exact ⟨.bl b, rfl, fun _ _ => .bl b⟩
  | int i t => cases h; exact ⟨.int i, ⟨t, rfl⟩, fun _ _ => .int i⟩
  | str x t =>
    cases h
    refine ⟨.str x, ⟨t, rfl⟩, fun K H => ?_⟩
    have : x = ⟨x.cps.toList.toArray⟩ := by cases x; simp
    conv => arg 3; rw [this]
    exact .str _
  | _ => cases h
section
variable {K : PySem.W.Frag} {h : Heap} {mg : Str → Option Value} {x : Str}
def ConstD (K : PySem.W.Frag) (mg : Str → Option Value) (x : Str) (d : D) : Prop := ∃ v, ConstAt K mg x v d
theorem constP {u : Value} {d : D} (X : K.In h) (G : h.Ns mainGlobals mg) (e : PySem.W.nsIn K mainGlobals x = some (some u)) (hd : absP u = some d) : ConstD K mg x d := by
  obtain ⟨v, r, z⟩ := absP_ok hd
  exact ⟨v, ⟨_, PySem.W.mg_of X G e, r⟩, z K⟩
theorem ze_cd {X : Cx} {pos : Pos} {x : Str} {d : D} (h : ConstD X.K X.mg x d) (hg : Gl X x := by rfl) (hdb : (x == ("__debug__" : Str)) = false := by decide) : ZE X (.Name x pos) (zC d) := by
  obtain ⟨v, h⟩ := h
  exact ze_gc h hg hdb
end
def inL (x : D) (l : List D) : Bool := l.any fun y => D.eqv y x
def inB (x y : D) : Option Bool := match y with
  | .lst l => if (x.pl && l.all D.pl) = true then some (inL x l) else if (x.shp && (D.lst l).shp) = true then some (inL x l) else none
  | .tup l => if (x.pl && l.all D.pl) = true then some (inL x l) else if (x.shp && (D.tup l).shp) = true then some (inL x l) else none
  | .str t => match x with
    | .str [c] => some (decide (c ∈ t))
    | _ => none
  | _ => none
def inD (x y : D) : Option D := (inB x y).map D.bl
def rInT (K : PySem.W.Frag) (neg : Bool) : R2 := fun x y H Q => ∃ d ds, Dp K H x d ∧ Dp K H y (.tuple ds) ∧ SeqAt.shaped d = true ∧ SeqAt.shaped (.tuple ds) = true ∧ Q (.bl (if neg then !(ds.any fun z => PyData.eqv z d) else ds.any fun z => PyData.eqv z d)) H
theorem op_inT {X : Cx} (hu : X.A.units + 65 < cLine) : OpR X (compareOp .In) (rInT X.K false) := by
  intro pins s σ H x y v u Q I rx ry h
  obtain ⟨d, ds, hd, he, sd, se, q⟩ := h
  obtain ⟨as, r1⟩ := Dp.reads I d x v hd rx
  obtain ⟨bs, r2⟩ := Dp.reads I (.tuple ds) y u he ry
  exact SeqAt.in_tuple_reads r2 r1 (SeqAt.canLay_of_shaped se) (SeqAt.canLay_of_shaped sd) (room_in_shaped sd hu) ⟨.bl _, H, I, rfl, q⟩
def rInU (K : PySem.W.Frag) : R2 := fun x y H Q => rIn K false x y H Q ∨ rInD K x y H Q ∨ rInT K false x y H Q ∨ (∃ (c : Nat) (z : Str), x = .str ⟨#[c]⟩ ∧ y = .str z ∧ Q (.bl (decide (c ∈ z.cps.toList))) H)
theorem o_in {X : Cx} {k : Nat} (hr : Room k X.A) : OpR X (compareOp .In) (rInU X.K) := OpR.or op_in_seq (OpR.or (op_inD (by have := hr.un; omega)) (OpR.or (op_inT (by have := hr.un; omega)) op_in_sign))
theorem eqV_eqv {K : PySem.W.Frag} {H : Hp} {v w : V} {d e : D} (h : Dz K H v d) (h' : Dz K H w e) (p : d.pl = true) (q : e.pl = true) : eqV v w = D.eqv d e := by
  cases h <;> cases h' <;> simp [D.pl] at p q <;> simp [eqV, D.eqv, str_beq]
theorem flat_pl {K : PySem.W.Frag} {H : Hp} {v : V} {d : D} (h : Dz K H v d) (p : d.pl = true) : flatV v = true := by
  cases h <;> simp [D.pl] at p <;> rfl
theorem flats_pl {K : PySem.W.Frag} {H : Hp} : ∀ {vs : List V} {ds : List D}, DzA K H vs ds → ds.all D.pl = true → vs.all flatV = true
  | _, _, .nil, _ => rfl
  | _, _, .cons h t, p => by
    rw [List.all_cons, Bool.and_eq_true] at p
    rw [List.all_cons, flat_pl h p.1, flats_pl t p.2]
    rfl
theorem inV_inL {K : PySem.W.Frag} {H : Hp} {v : V} {d : D} (h : Dz K H v d) (p : d.pl = true) : ∀ {vs : List V} {ds : List D}, DzA K H vs ds → ds.all D.pl = true → inV v vs = inL d ds
  | _, _, .nil, _ => rfl
  | _, _, .cons h2 t, q => by
    rw [List.all_cons, Bool.and_eq_true] at q
    unfold inV inL
    rw [List.any_cons, List.any_cons, eqV_eqv h2 h q.1 p]
    have := inV_inL h p t q.2
    unfold inV inL at this
    rw [this]
theorem pyA_map : ∀ l : List D, D.pyA l = l.map D.py
  | [] => rfl
  | d :: l => by rw [D.pyA, List.map_cons, pyA_map l]
theorem shp_lay {d : D} (h : d.shp = true) : d.py.canLay0 = true := SeqAt.canLay_of_shaped h
theorem s_in {K : PySem.W.Frag} : OpS K (rInU K) inD := by
  intro H x y d e z Q hx hy e1 q
  unfold inD at e1
  rw [Option.map_eq_some_iff] at e1
  obtain ⟨b, e1, rfl⟩ := e1
  have deep : ∀ {l : List D}, d.shp = true → (D.lst l).shp = true → Dz K H y (.lst l) → b = inL d l → rInD K x y H Q := fun {l} p1 p2 hy eb => by
    have hl : Dp K H y (PyData.list (D.pyA l)) := Dz.dp hy (shp_lay p2)
    refine ⟨d.py, D.pyA l, Dz.dp hx (shp_lay p1), hl, p1, p2, ?_⟩
    rw [pyA_map, List.any_map]
    have : ((fun z => PyData.eqv z d.py) ∘ D.py) = fun y => D.eqv y d := by funext y; exact D.py_eqv y d
    rw [this]
    rw [eb] at q
    exact q
  have deepT : ∀ {l : List D}, d.shp = true → (D.tup l).shp = true → Dz K H y (.tup l) → b = inL d l → rInT K false x y H Q := fun {l} p1 p2 hy eb => by
    have hl : Dp K H y (PyData.tuple (D.pyA l)) := Dz.dp hy (shp_lay p2)
    refine ⟨d.py, D.pyA l, Dz.dp hx (shp_lay p1), hl, p1, p2, ?_⟩
    rw [if_neg Bool.false_ne_true, pyA_map, List.any_map]
    have : ((fun z => PyData.eqv z d.py) ∘ D.py) = fun y => D.eqv y d := by funext y; exact D.py_eqv y d
    rw [this]
    rw [eb] at q
    exact q
  cases e with
  | lst l =>
    simp only [inB] at e1
    split at e1
    · rename_i hp
      cases e1
      rw [Bool.and_eq_true] at hp
      cases hy with
      | lst hs ha => exact .inl ⟨_, _, rfl, .inl hs, flat_pl hx hp.1, flats_pl ha hp.2, by rw [if_neg Bool.false_ne_true, inV_inL hx hp.1 ha hp.2]; exact q⟩
    · split at e1
      · rename_i hp
        cases e1
        rw [Bool.and_eq_true] at hp
        exact .inr (.inl (deep hp.1 hp.2 hy rfl))
      · cases e1
  | tup l =>
    simp only [inB] at e1
    split at e1
    · rename_i hp
      cases e1
      rw [Bool.and_eq_true] at hp
      cases hy with
      | tup hs ha => exact .inl ⟨_, _, rfl, .inr hs, flat_pl hx hp.1, flats_pl ha hp.2, by rw [if_neg Bool.false_ne_true, inV_inL hx hp.1 ha hp.2]; exact q⟩
    · split at e1
      · rename_i hp
        cases e1
        rw [Bool.and_eq_true] at hp
        exact .inr (.inr (.inl (deepT hp.1 hp.2 hy rfl)))
      · cases e1
  | str t =>
    simp only [inB] at e1
    split at e1
    · rename_i c
      cases e1
      cases hx
      cases hy
      exact .inr (.inr (.inr ⟨c, _, rfl, rfl, q⟩))
    · cases e1
  | _ => cases e1
/-- the items of a list or a tuple -/
def seqD : D → Option (List D)
  | .lst l => some l
  | .tup l => some l
  | _ => none
def z_list (ma : ZAr) : ZM := fun g => do
  let (rs, g1) ← ma g
  match rs with
  | [r] => do
    let d ← rd g1 r
    let l ← seqD d
    some (.bor g1.length, g1 ++ [.own (.lst l) false false])
  | _ => none
def z_tuple (ma : ZAr) : ZM := fun g => do
  let (rs, g1) ← ma g
  match rs with
  | [r] => do
    let d ← rd g1 r
    match d with
    | .lst l => some (.dat (.tup l), g1)
    | .tup l => match r with
      | .dat _ => some (.dat (.tup l), g1)
      | _ => none
    | _ => none
  | _ => none
section
variable {X : Cx} {pos : Pos} {a b : Expr} {ma mb : ZM} {mr : ZAr} {es : List Expr}
theorem ze_list {x : Str} {p : Pos} {k : Nat} (hr : Room k X.A) (hg : Gl X x) (hm : X.mg x = none) (ha : ZAs X (a :: es) mr) (hv : bootBuiltins x = some (.type "list") := by decide +kernel)
    (hn : x ≠ "__name__" := by decide) (hdb : (x == ("__debug__" : Str)) = false := by decide) (he : starEach (a :: es) X.env = (false, eval a X.env) :: starEach es X.env := by rfl) (hpl : (backTo pos (starEach es X.env)).any (·.1) = false := by rfl) :
    ZE X (.Call (.Name x p) (a :: es) [] pos) (z_list mr) := by
  refine PE.of (pe_callTy call_list_of hg hm hv ha hn hdb he hpl) fun σ H Q ⟨C, Hs, A, g, r, g', hK, hn, ok, e, q⟩ => ?_
  unfold z_list at e
  simp only [Option.bind_eq_bind, Option.bind_eq_some_iff] at e
  obtain ⟨⟨rs, g1⟩, h1, e⟩ := e
  refine ⟨C, Hs, A, g, rs, g1, hK, hn, ok, h1, fun Hs1 A1 vs H1 s1 p1 ok1 rel1 => ?_⟩
  simp only at e
  split at e
  · rename_i r1
    simp only [Option.bind_eq_some_iff] at e
    obtain ⟨d, h2, l, h3, e⟩ := e
    cases e
    obtain ⟨v, rfl, w⟩ := relRs1 rel1
    cases d with
    | lst l' =>
      cases h3
      obtain ⟨a, xs, rfl, y1, y2⟩ := ok1.rdL w h2
      exact ⟨a, xs, rfl, .inl (by rw [← hK]; exact y1), fun p hp => q Hs1 (A1 ++ [p]) _ _ s1 (p1.trans (Pre.app _ _)) (ok1.tmp (o := .lst xs) (c := .lst l) hp y2) (ok1.tmpR p)⟩
    | tup l' =>
      cases h3
      obtain ⟨a, xs, rfl, y1, y2⟩ := ok1.rdT w h2
      exact ⟨a, xs, rfl, .inr (by rw [← hK]; exact sameT ok1.same y1), fun p hp => q Hs1 (A1 ++ [p]) _ _ s1 (p1.trans (Pre.app _ _)) (ok1.tmp (o := .lst xs) (c := .lst l) hp y2) (ok1.tmpR p)⟩
    | _ => cases h3
  · cases e
theorem ze_tuple {x : Str} {p : Pos} {k : Nat} (hr : Room k X.A) (hg : Gl X x) (hm : X.mg x = none) (ha : ZAs X (a :: es) mr) (hv : bootBuiltins x = some (.type "tuple") := by decide +kernel)
    (hn : x ≠ "__name__" := by decide) (hdb : (x == ("__debug__" : Str)) = false := by decide) (he : starEach (a :: es) X.env = (false, eval a X.env) :: starEach es X.env := by rfl) (hpl : (backTo pos (starEach es X.env)).any (·.1) = false := by rfl) :
    ZE X (.Call (.Name x p) (a :: es) [] pos) (z_tuple mr) := by
  refine PE.of (pe_callTy call_tuple_of hg hm hv ha hn hdb he hpl) fun σ H Q ⟨C, Hs, A, g, r, g', hK, hn, ok, e, q⟩ => ?_
  unfold z_tuple at e
  simp only [Option.bind_eq_bind, Option.bind_eq_some_iff] at e
  obtain ⟨⟨rs, g1⟩, h1, e⟩ := e
  refine ⟨C, Hs, A, g, rs, g1, hK, hn, ok, h1, fun Hs1 A1 vs H1 s1 p1 ok1 rel1 => ?_⟩
  simp only at e
  split at e
  · rename_i r1
    simp only [Option.bind_eq_some_iff] at e
    obtain ⟨d, h2, e⟩ := e
    obtain ⟨v, rfl, w⟩ := relRs1 rel1
    split at e
    · cases e
      obtain ⟨a, xs, rfl, y1, y2⟩ := ok1.rdL w h2
      refine ⟨a, xs, rfl, .inl ⟨by rw [← hK]; exact y1, fun p hp => ?_⟩⟩
      obtain ⟨ok3, s3⟩ := ok1.lay (o := .tup xs) hp
      exact q _ A1 (.ref p) _ (s1.trans s3) p1 ok3 (.tup (SqT.of upd_same) (y2.mono s3))
    · split at e
      · cases e
        cases h2
        have w' : Dz C.K Hs1 v (.tup _) := w
        cases w' with
        | tup hs hz =>
          exact ⟨_, _, rfl, .inr ⟨by rw [← hK]; exact sameT ok1.same hs, q Hs1 A1 _ H1 s1 p1 ok1 (.tup hs hz)⟩⟩
      · cases e
    · cases e
  · cases e
abbrev ZO := G → Option (Option Int × G)
def tZO (K : PySem.W.Frag) (n : Nat) (m : ZO) : TO := fun σ H Q => ∃ (C : Ct) (Hs : Hp) (A : List Addr) (g : G) (o : Option Int) (g' : G), C.K = K ∧ C.n = n ∧ Ok C Hs A g σ H ∧ m g = some (o, g') ∧
  ∀ (Hs' : Hp) (A' : List Addr) (H' : Hp), Same Hs Hs' → Pre A A' → Ok C Hs' A' g' σ H' → Q o H'
abbrev ZPo (X : Cx) (e : Option Expr) (m : ZO) : Prop := PO X e (tZO X.K X.N.length m)
theorem PO.of {X : Cx} {e : Option Expr} {t t' : TO} (h : PO X e t) (w : ∀ σ H Q, t' σ H Q → t σ H Q) : PO X e t' := ⟨fun pins s σ H Q I q => h.run pins s σ H Q I (w σ H Q q)⟩
def zoN : ZO := fun g => some (none, g)
def zoS (m : ZM) : ZO := fun g => do
  let (r, g1) ← m g
  let k ← isI r
  some (some k, g1)
theorem zo_none : ZPo X none zoN := PO.of po_none fun σ H Q ⟨C, Hs, A, g, o, g', hK, hn, ok, e, q⟩ => by
  cases e
  exact q Hs A H (Same.refl _) (Pre.refl _) ok
theorem zo_some {e : Expr} {m : ZM} (h : ZE X e m) : ZPo X (some e) (zoS m) := by
  refine PO.of (po_some h) fun σ H Q ⟨C, Hs, A, g, o, g', hK, hn, ok, e, q⟩ => ?_
  unfold zoS at e
  simp only [Option.bind_eq_bind, Option.bind_eq_some_iff] at e
  obtain ⟨⟨r, g1⟩, h1, k, h2, e⟩ := e
  cases e
  have er := isI_some h2
  subst er
  refine ⟨C, Hs, A, g, _, _, hK, hn, ok, h1, fun Hs1 A1 v1 H1 s1 p1 ok1 rel1 => ?_⟩
  have ev : v1 = .int k := (show Dz C.K Hs1 v1 (.int k) from rel1).v rfl
  exact ⟨k, ev, q Hs1 A1 H1 s1 p1 ok1⟩
/-- the part of a list -/
def cutL {α : Type} (xs : List α) (lo hi : Option Int) : List α := (xs.drop (HT.sIx xs.length 0 lo)).take (HT.sIx xs.length xs.length hi - HT.sIx xs.length 0 lo)
theorem cutL_dz {K : PySem.W.Frag} {H : Hp} {vs : List V} {ds : List D} (h : DzA K H vs ds) (lo hi : Option Int) : DzA K H (cutV vs lo hi) (cutL ds lo hi) := by
  unfold cutV cutL
  rw [h.length]
  exact (h.drop _).take _
theorem cutL_whole {vs : List V} {ds : List D} {lo hi : Option Int} (hl : vs.length = ds.length) (e1 : HT.sIx vs.length 0 lo = 0) (e2 : HT.sIx vs.length vs.length hi = vs.length) : cutL ds lo hi = ds := by
  unfold cutL
  rw [← hl, e1, e2, hl]
  simp
def zSl (ma : ZM) (ml mh : ZO) : ZM := fun g => do
  let (r, g1) ← ma g
  let (lo, g2) ← ml g1
  let (hi, g3) ← mh g2
  let d ← rd g3 r
  match d with
  | .lst l => some (.bor g3.length, g3 ++ [.own (.lst (cutL l lo hi)) false false])
  | .str t => if t.length ≤ sizeLine then some (.dat (.str (cutL t lo hi)), g3) else none
  | .tup l => match r with
    | .dat _ => some (.dat (.tup (cutL l lo hi)), g3)
    | _ => none
  | _ => none
def rSlU (K : PySem.W.Frag) : V → Option Int → Option Int → Hp → VK → Prop := fun x lo hi H Q => rSlL K x lo hi H Q ∨ rSlS x lo hi H Q ∨ rSlA K x lo hi H Q
theorem sl_U : SlR X (rSlU X.K) := SlR.or sl_list (SlR.or sl_str sl_tupA)
theorem cutS_codes (t : List Nat) (lo hi : Option Int) : cutS ⟨t.toArray⟩ lo hi = ⟨(cutL t lo hi).toArray⟩ := by
  unfold cutS cutL
  simp [Str.length]
theorem ze_sl {lo hi : Option Expr} {p2 : Pos} {ml mh : ZO} (ha : ZE X a ma) (hl : ZPo X lo ml) (hh : ZPo X hi mh) : ZE X (.Subscript a (.Slice lo hi none p2) pos) (zSl ma ml mh) := by
  refine PE.of (pe_slice sl_U ha hl hh) fun σ H Q ⟨C, Hs, A, g, r, g', hK, hn, ok, e, q⟩ => ?_
  unfold zSl at e
  simp only [Option.bind_eq_bind, Option.bind_eq_some_iff] at e
  obtain ⟨⟨r1, g1⟩, h1, ⟨lo', g2⟩, h2, ⟨hi', g3⟩, h3, d, h4, e⟩ := e
  refine ⟨C, Hs, A, g, r1, g1, hK, hn, ok, h1, fun Hs1 A1 v1 H1 s1 p1 ok1 rel1 => ?_⟩
  refine ⟨C, Hs1, A1, g1, lo', g2, hK, hn, ok1, h2, fun Hs2 A2 H2 s2 p2 ok2 => ?_⟩
  refine ⟨C, Hs2, A2, g2, hi', g3, hK, hn, ok2, h3, fun Hs3 A3 H3 s3 p3 ok3 => ?_⟩
  have rel3 := rel1.mono (s2.trans s3) (p2.trans p3)
  have S := (s1.trans s2).trans s3
  have PP := (p1.trans p2).trans p3
  dsimp only at e h4
  split at e
  · cases e
    obtain ⟨a, xs, rfl, y1, y2⟩ := ok3.rdL rel3 h4
    exact .inl ⟨a, xs, rfl, by rw [← hK]; exact y1, fun p hp => q Hs3 (A3 ++ [p]) _ _ S (PP.trans (Pre.app _ _)) (ok3.tmp (o := .lst (cutV xs lo' hi')) (c := .lst (cutL _ lo' hi')) hp (cutL_dz y2 lo' hi')) (ok3.tmpR p)⟩
  · split at e
    · rename_i hz
      cases e
      have hd := ok3.rd rel3 h4
      cases hd
      exact .inr (.inl ⟨_, rfl, by simpa [Str.length] using hz, by rw [cutS_codes]; exact q Hs3 A3 _ H3 S PP ok3 (.str _)⟩)
    · cases e
  · split at e
    · cases e
      cases h4
      have w' : Dz C.K Hs3 v1 (.tup _) := rel3
      cases w' with
      | tup hs hz =>
        rename_i a xs
        refine .inr (.inr ⟨a, xs, rfl, by rw [← hK]; exact sameT ok3.same hs, fun ee => ?_, fun _ p hp => ?_⟩)
        · obtain ⟨e1, e2⟩ := ee
          refine q Hs3 A3 _ H3 S PP ok3 (.tup hs ?_)
          have : cutL _ lo' hi' = _ := cutL_whole hz.length e1 e2
          rw [this]
          exact hz
        · obtain ⟨ok4, s4⟩ := ok3.lay (o := .tup (cutV xs lo' hi')) hp
          exact q _ A3 (.ref p) _ (S.trans s4) PP ok4 (.tup (SqT.of upd_same) ((cutL_dz hz lo' hi').mono s4))
    · cases e
  · cases e
end
end Z
set_option Elab.async false
set_option linter.all false
set_option maxRecDepth 100000
set_option maxHeartbeats 4000000
namespace Z
open PySem PySem.Spec PyProof.Rows L2
section
variable {g g1 g2 g3 : G} {r r1 r2 : R} {d e z : D} {ma mb mc m : ZM} {mr : ZAr} {rs : List R} {ds : List D} {b b1 b2 : Bool} {n i j : Nat}
theorem asg_run {tg : TD} (h1 : m g = some (.dat d, g1)) (h2 : tg d g1 = some g2) (hg : g2.take n = g3) : zAsg n m tg g = some (.nx, g3) := by
  unfold zAsg; simp only [h1, frzR, h2, hg, Option.bind_eq_bind, Option.bind_some]
theorem aug_run {f : D → D → Option D} (h0 : zVar i g = some (.dat d, g)) (hs : d.scal = true) (h1 : m g = some (r, g1)) (h2 : rd g1 r = some e) (h3 : f d e = some z) (hz : z.scal = true) (hf : freeAt i g1 = true) (hg : (g1.set i (.dat z)).take n = g2) : zAug n i f m g = some (.nx, g2) := by
  have h00 : rd g (.dat d) = some d := rfl
  have h4 : setDat i z g1 = some (g1.set i (.dat z)) := by unfold setDat; rw [if_pos hf]
  unfold zAug
  simp only [h0, h00, hs, h1, h2, h3, hz, h4, hg, Option.bind_eq_bind, Option.bind_some, if_true]
theorem sto_run {k : Int} {q : Nat} {p : Bool} (h1 : mc g = some (.dat d, g1)) (h2 : ma g1 = some (.bor j, g2)) (h3 : mb g2 = some (.dat (.int k), g3)) (h4 : g3[j]? = some (.own (.lst ds) p false)) (h5 : ixN ds.length k = some q) {g4 : G} (hg : (g3.set j (.own (.lst (ds.set q d)) p false)).take n = g4) : zSto n ma mb mc g = some (.nx, g4) := by
  unfold zSto; simp only [h1, h2, h3, h4, h5, hg, frzR, isI, Option.bind_eq_bind, Option.bind_some]
theorem er_list {l : List D} (h1 : mr g = some ([r], g1)) (h2 : rd g1 r = some d) (h3 : seqD d = some l) : z_list mr g = some (.bor g1.length, g1 ++ [.own (.lst l) false false]) := by
  unfold z_list; simp only [h1, h2, h3, Option.bind_eq_bind, Option.bind_some]
theorem er_tupL {l : List D} (h1 : mr g = some ([r], g1)) (h2 : rd g1 r = some (.lst l)) : z_tuple mr g = some (.dat (.tup l), g1) := by
  unfold z_tuple; simp only [h1, h2, Option.bind_eq_bind, Option.bind_some]
theorem er_zoN : zoN g = some (none, g) := rfl
theorem er_zoS {k : Int} (h : m g = some (.dat (.int k), g1)) : zoS m g = some (some k, g1) := by
  unfold zoS; simp only [h, isI, Option.bind_eq_bind, Option.bind_some]
theorem er_slS {ml mh : ZO} {lo hi : Option Int} {t : List Nat} (h1 : ma g = some (r, g1)) (h2 : ml g1 = some (lo, g2)) (h3 : mh g2 = some (hi, g3)) (h4 : rd g3 r = some (.str t)) (hz : t.length ≤ sizeLine) : zSl ma ml mh g = some (.dat (.str (cutL t lo hi)), g3) := by
  unfold zSl; simp only [h1, h2, h3, h4, if_pos hz, Option.bind_eq_bind, Option.bind_some]
theorem er_slL {ml mh : ZO} {lo hi : Option Int} {l : List D} (h1 : ma g = some (r, g1)) (h2 : ml g1 = some (lo, g2)) (h3 : mh g2 = some (hi, g3)) (h4 : rd g3 r = some (.lst l)) : zSl ma ml mh g = some (.bor g3.length, g3 ++ [.own (.lst (cutL l lo hi)) false false]) := by
  unfold zSl; simp only [h1, h2, h3, h4, Option.bind_eq_bind, Option.bind_some]
theorem er_C : zC d g = some (.dat d, g) := rfl
theorem er_nil : zNil g = some ([], g) := rfl
theorem er_varD (h : g[i]? = some (.dat d)) : zVar i g = some (.dat d, g) := by unfold zVar; rw [h]
theorem er_varO {c : Cn} {p l : Bool} (h : g[i]? = some (.own c p l)) : zVar i g = some (.bor i, g) := by unfold zVar; rw [h]
theorem er_varF (h : g[i]? = some (.frz d)) : zVar i g = some (.dat d, g) := by unfold zVar; rw [h]
theorem mi_T {L : List D} (h1 : m g = some (.dat (.tup L), g1)) : ziT m g = some (L, none, g1) := by
  unfold ziT; simp only [h1, Option.bind_eq_bind, Option.bind_some]
end
end Z
set_option Elab.async false
set_option linter.all false
set_option maxRecDepth 100000
set_option maxHeartbeats 4000000
namespace Z
open PySem PySem.Spec PyProof.Rows L2
def FR.scal : FR → Bool
  | .dat d => d.scal
  | .new c => c.scal
  | .newR _ => false
def noB (j : Nat) : R → Bool
  | .bor i => i != j
  | .dat _ => true
/-- what comes back, put by -/
def putFR (fr : FR) (g : G) : R × G := match fr with
  | .dat d => (.dat d, g)
  | .new c => (.bor g.length, g ++ [.own c false false])
  | .newR ls => (.bor g.length, g ++ [.rws ls])
def zCallM (kk : Nat) (f : Cn → List D → Option (FR × Cn)) (ma : ZAr) : ZM := fun g => do
  let (rs, g1) ← ma g
  match rs[kk]? with
  | some (.bor j) => match g1[j]? with
    | some (.own c p false) =>
      if (rs.eraseIdx kk).all (noB j) = true then do
        let ds ← rdAll g1 (rs.eraseIdx kk)
        let (fr, c') ← f c ds
        if (c'.scal && fr.scal) = true then some (putFR fr (g1.set j (.own c' p false))) else do
          let (ds2, g2) ← frzAll (rs.eraseIdx kk) g1
          match g2[j]? with
          | some (.own c2 p2 false) => do
            let (fr2, c2') ← f c2 ds2
            some (putFR fr2 (g2.set j (.own c2' p2 false)))
          | _ => none
      else none
    | _ => none
  | _ => none
theorem RelRs.get {K : PySem.W.Frag} {Hs : Hp} {A : List Addr} : ∀ {vs : List V} {rs : List R} {i : Nat} {r : R}, RelRs K Hs A vs rs → rs[i]? = some r → ∃ v, vs[i]? = some v ∧ RelR K Hs A v r
  | [], [], _, _, _, e => by simp at e
  | v :: vs, r :: rs, 0, _, h, e => by simp at e; subst e; exact ⟨v, rfl, h.1⟩
  | v :: vs, r :: rs, i + 1, _, h, e => by
    obtain ⟨x, h1, h2⟩ := RelRs.get (i := i) h.2 (by simpa using e)
    exact ⟨x, by simpa using h1, h2⟩
  | [], _ :: _, _, _, h, _ => h.elim
  | _ :: _, [], _, _, h, _ => h.elim
end Z
set_option Elab.async false
set_option linter.all false
set_option maxRecDepth 100000
set_option maxHeartbeats 4000000
namespace Z
open PySem PySem.Spec PyProof.Rows L2
theorem wipe_get (σ : L2.St) : ∀ (vs : List Nat) (i : Nat), (wipe σ vs)[i]? = if i ∈ vs ∧ i < σ.length then some none else σ[i]?
  | [], i => by simp [wipe]
  | v :: vs, i => by
    unfold wipe
    by_cases h : i = v
    · subst h
      by_cases hl : i < σ.length
      · rw [List.getElem?_set_self (by rw [wipe_length]; exact hl), if_pos ⟨List.mem_cons_self, hl⟩]
      · rw [List.getElem?_eq_none (by rw [List.length_set, wipe_length]; omega), if_neg (by omega), List.getElem?_eq_none (by omega)]
    · rw [List.getElem?_set_ne (Ne.symm h), wipe_get σ vs i]
      have : (i ∈ v :: vs) ↔ i ∈ vs := by simp [h]
      simp only [this]
theorem wipe_set {σ : L2.St} {vs : List Nat} {i : Nat} {x : Option V} (h : i ∈ vs) : wipe (σ.set i x) vs = wipe σ vs := by
  refine List.ext_getElem? fun j => ?_
  rw [wipe_get, wipe_get, List.length_set]
  by_cases hj : j ∈ vs ∧ j < σ.length
  · rw [if_pos hj, if_pos hj]
  · rw [if_neg hj, if_neg hj]
    by_cases e : i = j
    · subst e
      have : ¬ i < σ.length := fun z => hj ⟨h, z⟩
      rw [List.getElem?_eq_none (by rw [List.length_set]; omega), List.getElem?_eq_none (by omega)]
    · rw [List.getElem?_set_ne e]
theorem wipe_out {σ : L2.St} {vs : List Nat} {i : Nat} (h : i ∉ vs) : (wipe σ vs)[i]? = σ[i]? := by rw [wipe_get, if_neg (fun z => h z.1)]
def wipeG (g : G) : List Nat → G
  | [] => g
  | v :: vs => (wipeG g vs).set v .un
theorem wipeG_len (g : G) : ∀ vs : List Nat, (wipeG g vs).length = g.length
  | [] => rfl
  | v :: vs => by unfold wipeG; rw [List.length_set, wipeG_len g vs]
theorem wipeG_some {g : G} : ∀ {vs : List Nat} {i : Nat} {s : Sl}, (wipeG g vs)[i]? = some s → s = .un ∨ (i ∉ vs ∧ g[i]? = some s)
  | [], i, s, h => .inr ⟨by simp, h⟩
  | v :: vs, i, s, h => by
    unfold wipeG at h
    rcases set_some h with ⟨_, e, _⟩ | ⟨ne, h⟩
    · exact .inl e
    · rcases wipeG_some h with e | ⟨e1, e2⟩
      · exact .inl e
      · exact .inr ⟨by simp [ne, e1], e2⟩
theorem wipeG_out {g : G} : ∀ {vs : List Nat} {i : Nat}, i ∉ vs → (wipeG g vs)[i]? = g[i]?
  | [], i, _ => rfl
  | v :: vs, i, h => by
    unfold wipeG
    simp only [List.mem_cons, not_or] at h
    rw [List.getElem?_set_ne (Ne.symm h.1), wipeG_out h.2]
def freeAll (g : G) (vs : List Nat) : Bool := vs.all fun v => freeAt v g
theorem freeAll_at {g : G} {vs : List Nat} (h : freeAll g vs = true) {v : Nat} (hv : v ∈ vs) : freeAt v g = true := List.all_eq_true.mp h v hv
/-- slots forgotten; σ may change there -/
theorem Ok.puts {C : Ct} {Hs : Hp} {A : List Addr} {g : G} {σ σ' : L2.St} {H : Hp} {vs : List Nat} (ok : Ok C Hs A g σ H) (hf : freeAll g vs = true) (hl : σ'.length = σ.length) (hσ : ∀ i, i ∉ vs → σ'[i]? = σ[i]?) : Ok C Hs A (wipeG g vs) σ' H := by
  have no : ∀ {i : Nat} {c : Cn} {p l : Bool}, (wipeG g vs)[i]? = some (.own c p l) → i ∉ vs ∧ g[i]? = some (.own c p l) := fun {i c p l} e => by
    rcases wipeG_some e with z | z
    · cases z
    · exact z
  refine ⟨hl.trans ok.ln, by rw [wipeG_len]; exact ok.lg, by rw [wipeG_len]; exact ok.la, ok.base, ok.same, fun i d e => ?_, fun i d e => ?_, fun i c p l e => ?_, fun i k c1 p1 l1 c2 p2 l2 a' e1 e2 h1 h2 => ok.inj i k _ _ _ _ _ _ a' (no e1).2 (no e2).2 h1 h2, ok.grow, ok.keep, fun q hq => ?_, fun i c' l a' e ha => ok.pin1 i c' l a' (no e).2 ha, fun q hq => ?_, ?_⟩
  · rcases wipeG_some e with z | ⟨z1, z2⟩
    · cases z
    · rw [hσ i z1]; exact ok.dat i d z2
  · rcases wipeG_some e with z | ⟨z1, z2⟩
    · cases z
    · rw [hσ i z1]; exact ok.frz i d z2
  · obtain ⟨z1, z2⟩ := no e
    rw [hσ i z1]; exact ok.own i c p l z2
  · obtain ⟨c', l, h1, h2⟩ := ok.pinned q hq
    refine ⟨c', l, ?_, h2⟩
    rw [wipeG_out (fun z => freeAt_pin (freeAll_at hf z) h1)]
    exact h1
  · obtain ⟨p, h1, h2⟩ := ok.locked q hq
    refine ⟨p, ?_, h2⟩
    rw [wipeG_out (fun z => freeAt_lock (freeAll_at hf z) h1)]
    exact h1
  · refine RwOk.step ok.rws rfl rfl (Same.refl _) (fun x u ex n1 n2 _ => ⟨ex, n1, n2⟩) (fun i ls e => ?_) (fun i c' p l b e hb => .inl ⟨i, c', p, l, (no e).2, hb⟩)
    rcases wipeG_some e with z | ⟨z1, z2⟩
    · cases z
    · exact ⟨z2, rfl, fun _ => hσ i z1⟩
/-- what was held aside beyond m is dropped -/
theorem Ok.cutM {C : Ct} {Hs : Hp} {A : List Addr} {g : G} {σ : L2.St} {H : Hp} {m : Nat} (ok : Ok C Hs A g σ H) (hm : C.n ≤ m) : Ok C Hs (A.take m) (g.take m) σ H := by
  have tk : ∀ {α : Type} {l : List α} {i : Nat} {s : α}, (l.take m)[i]? = some s → i < m ∧ l[i]? = some s := fun {α l i s} e => by
    by_cases h : i < m
    · rw [List.getElem?_take_of_lt h] at e; exact ⟨h, e⟩
    · have := (List.getElem?_eq_some_iff.mp e).1
      rw [List.length_take] at this; omega
  have kt : ∀ {α : Type} {l : List α} {i : Nat} {s : α}, i < m → l[i]? = some s → (l.take m)[i]? = some s := fun {α l i s} h e => by
    rw [List.getElem?_take_of_lt h]; exact e
  refine ⟨ok.ln, by rw [List.length_take]; have := ok.lg; omega, by rw [List.length_take, List.length_take, ok.la], ok.base, ok.same, fun i d e => ok.dat i d (tk e).2, fun i d e => ?_, fun i c' p l e => ?_, fun i k c1 p1 l1 c2 p2 l2 a' e1 e2 h1 h2 => ok.inj i k _ _ _ _ _ _ a' (tk e1).2 (tk e2).2 (tk h1).2 (tk h2).2, ok.grow, ok.keep, fun q hq => ?_, fun i c' l a' e ha => ok.pin1 i c' l a' (tk e).2 (tk ha).2, fun q hq => ?_, RwOk.step ok.rws rfl rfl (Same.refl _) (fun x u ex n1 n2 _ => ⟨ex, n1, n2⟩) (fun i ls e => ⟨(tk e).2, List.getElem?_take_of_lt (tk e).1, fun _ => rfl⟩) (fun i c' p l b e hb => .inl ⟨i, c', p, l, (tk e).2, (tk hb).2⟩)⟩
  · obtain ⟨a, q1, q2⟩ := ok.frz i d (tk e).2
    exact ⟨a, kt (tk e).1 q1, q2⟩
  · obtain ⟨a, o, q1, q2⟩ := ok.own i c' p l (tk e).2
    exact ⟨a, o, kt (tk e).1 q1, q2⟩
  · obtain ⟨c', l, h1, h2⟩ := ok.pinned q hq
    have := C.plt q hq
    exact ⟨c', l, kt (by omega) h1, kt (by omega) h2⟩
  · obtain ⟨p, h1, h2⟩ := ok.locked q hq
    have := C.llt q hq
    exact ⟨p, kt (by omega) h1, kt (by omega) h2⟩
def tZGw (K : PySem.W.Frag) (n : Nat) (vs : List Nat) (tg : TD) : TG := fun v σ H Q => ∃ (C : Ct) (Hs : Hp) (A : List Addr) (g : G) (d : D) (g' : G), C.K = K ∧ C.n = n ∧ Ok C Hs A g σ H ∧ Dz K Hs v d ∧ tg d g = some g' ∧
  ∀ (σ' : L2.St), wipe σ' vs = wipe σ vs → Ok C Hs A g' σ' H → Q σ' H
abbrev ZGw (X : Cx) (vs : List Nat) (e : Expr) (tg : TD) : Prop := PG X e (tZGw X.K X.N.length vs tg)
def tZGws (K : PySem.W.Frag) (n : Nat) (vs : List Nat) (tg : TDs) : TGs := fun us σ H Q => ∃ (C : Ct) (Hs : Hp) (A : List Addr) (g : G) (ds : List D) (g' : G), C.K = K ∧ C.n = n ∧ Ok C Hs A g σ H ∧ DzA K Hs us ds ∧ tg ds g = some g' ∧
  ∀ (σ' : L2.St), wipe σ' vs = wipe σ vs → Ok C Hs A g' σ' H → Q σ' H
abbrev ZGws (X : Cx) (vs : List Nat) (es : List Expr) (tg : TDs) : Prop := PGs X es (tZGws X.K X.N.length vs tg)
section
variable {X : Cx} {pos : Pos} {vs : List Nat}
theorem zgw_name {i : Nat} {x : Str} (hN : X.N.Nodup) (hi : X.N[i]? = some x) (hx : Loc X.env.scope x) (hv : i ∈ vs) (hf : X.fn x = true ∨ X.env.scope.names.lookup x = some .local := by first | exact .inl rfl | exact .inr rfl | assumption) : ZGw X vs (.Name x pos) (gN i) := by
  refine PG.of (pg_name hN hi hx hf) fun v σ H Q ⟨C, Hs, A, g, d, g', hK, hn, ok, hd, e, q⟩ => ?_
  rw [← hK] at hd
  exact q _ (wipe_set hv) (ok.set e (by rw [hn]; exact (List.getElem?_eq_some_iff.mp hi).1) hd)
theorem zgws_nil : ZGws X vs [] gNil' := by
  refine PGs.of pgs_nil fun us σ H Q ⟨C, Hs, A, g, ds, g', hK, hn, ok, hd, e, q⟩ => ?_
  cases ds with
  | nil =>
    cases hd
    cases e
    exact ⟨rfl, q σ rfl ok⟩
  | cons _ _ => cases e
theorem zgws_cons {e : Expr} {es : List Expr} {t : TD} {u : TDs} (h1 : ZGw X vs e t) (h2 : ZGws X vs es u)
    (hs : (assignEach (e :: es) X.env).map (·.2) = assign e X.env :: (assignEach es X.env).map (·.2) := by rfl) : ZGws X vs (e :: es) (gCons' t u) := by
  refine PGs.of (pgs_cons h1 h2 hs) fun us σ H Q ⟨C, Hs, A, g, ds, g', hK, hn, ok, hd, e, q⟩ => ?_
  cases hd with
  | nil => cases e
  | cons h1 h2 =>
    simp only [gCons', Option.bind_eq_bind, Option.bind_eq_some_iff] at e
    obtain ⟨g1, e1, e2⟩ := e
    exact ⟨_, _, rfl, C, Hs, A, g, _, g1, hK, hn, ok, h1, e1, fun σ1 w1 ok1 => ⟨C, Hs, A, g1, _, g', hK, hn, ok1, h2, e2, fun σ2 w2 ok2 => q σ2 (w2.trans w1) ok2⟩⟩
theorem zgw_tup {es : List Expr} {j : Nat} {t : TDs} {k : Nat} (hc : X.calm = true) (h : ZGws X vs es t)
    (hn : (assignEach es X.env).length = k := by rfl) (hst : (assignEach es X.env).findIdx? (·.1) = none := by rfl) : ZGw X vs (.Tuple es j pos) (gT k t) := by
  refine PG.of (pg_tup hc h hn hst) fun v σ H Q ⟨C, Hs, A, g, d, g', hK, hn, ok, hd, e, q⟩ => ?_
  cases hd with
  | tup hs ha =>
    simp only [gT] at e
    split at e
    · rename_i hl
      exact ⟨_, _, rfl, sameT ok.same hs, by rw [ha.length]; exact hl, C, Hs, A, g, _, g', hK, hn, ok, ha, e, q⟩
    · cases e
  | _ => cases e
def zYes : ZT := fun g => some (true, g)
abbrev ZTs (X : Cx) (es : List Expr) (m : ZT) : Prop := PTs X es (tZT X.K X.N.length m)
theorem zts_nil : ZTs X [] zYes := ⟨fun pins s σ H Q I ⟨C, Hs, A, g, b, g', hK, hn, ok, e, q⟩ => pts_nil.run pins s σ H Q I (by
  cases e
  exact q Hs A H (Same.refl _) (Pre.refl _) ok)⟩
theorem zts_one {c : Expr} {t : ZT} (h : ZTe X c t) : ZTs X [c] t := ⟨fun pins s σ H Q I q => (pts_one h).run pins s σ H Q I q⟩
end
def lcL (tg : TD) (tt : ZT) (el : ZM) (vs : List Nat) (t : Nat) : List D → G → Option G
  | [], g => if freeAll g vs = true then some g else none
  | x :: xs, g => if freeAll g vs = true then do
      let g1 ← tg x (wipeG g vs)
      let (b, g2) ← tt g1
      if b = true then do
        let (r, g3) ← el g2
        let (d, g4) ← frzR r g3
        match g4[t]? with
        | some (.own (.lst acc) false false) => if acc.length < sizeLine then lcL tg tt el vs t xs ((g4.set t (.own (.lst (acc ++ [d])) false false)).take (t + 1)) else none
        | _ => none
      else lcL tg tt el vs t xs (g2.take (t + 1))
    else none
def zLc (mi : MI) (tg : TD) (tt : ZT) (el : ZM) (vs : List Nat) : ZM := fun g => do
  let (L, lk, g1) ← mi g
  match lk with
  | none => do
    let g3 ← lcL tg tt el vs g1.length L (g1 ++ [Sl.own (.lst []) false false])
    some (.bor g1.length, wipeG g3 vs)
  | some j => match g1[j]? with
    | some (.own c p l) => do
      let g3 ← lcL tg tt el vs g1.length L ((g1 ++ [Sl.own (.lst []) false false]).set j (.own c p true))
      some (.bor g1.length, unlk j l (wipeG g3 vs))
    | _ => none
theorem lc_of {tgd : TD} {tt : ZT} {el : ZM} {vs : List Nat} {C : Ct} {Hs1 : Hp} {A1 : List Addr} {g1 g3 : G} {σ : L2.St} {H1 : Hp} {L : List D} {J : It} {lk' : Option (Addr × Cn)} {K : PySem.W.Frag} {n t : Nat} {D0 : Addr} {Qd : Hp → Prop} (hK : C.K = K) (hn : C.n = n) (ht : C.n ≤ t)
    (ok : Ok C Hs1 A1 g1 σ H1) (hA : A1[t]? = some D0) (hAl : A1.length = t + 1) (jw : JW K J L (Src K Hs1 lk')) (hl : ∀ a c, lk' = some (a, c) → ∃ j, (j, a, c) ∈ C.locks) (e : lcL tgd tt el vs t L g1 = some g3)
    (q : ∀ Hs A H, Same Hs1 Hs → Ok C Hs A (wipeG g3 vs) σ H → Pre A1 A → Qd H) :
    ∃ W : Nat → Nat → Hp → Prop, (∃ m, W 0 m H1) ∧ ∀ i m H, W i m H → (J.stop i H ∧ Qd H) ∨ (J.go i H ∧ ∃ Nx : Hp → Prop, (∀ H', Nx H' → ∃ m', m' < m ∧ W (i + 1) m' H') ∧ ∀ x H', J.yld i H x H' → tZGw K n vs tgd x (wipe σ vs) H' fun σ2 H2 => wipe σ2 vs = wipe σ vs ∧ tZT K n tt σ2 H2 fun b H3 =>
      if b = true then tZ K n el σ2 H3 fun y H4 => ∃ acc, H4 D0 = some (.lst acc) ∧ acc.length < sizeLine ∧ Nx (upd H4 D0 (.lst (acc ++ [y]))) else Nx H3) := by
  have src : ∀ {Hs A g σ H}, Same Hs1 Hs → Ok C Hs A g σ H → Src K Hs1 lk' Hs H := fun {Hs A g σ H} s ok => by
    cases lk' with
    | none => exact ⟨s, ok.same⟩
    | some ac =>
      obtain ⟨a, c⟩ := ac
      obtain ⟨j, hj⟩ := hl a c rfl
      obtain ⟨p, h1, h2⟩ := ok.locked _ hj
      obtain ⟨a', o, w1, _, _, w4, w5, _⟩ := ok.own j c p true h1
      have : some a = some a' := h2.symm.trans w1
      cases this
      exact ⟨o, w4, by rw [← hK]; exact w5⟩
  have ptk : ∀ {A : List Addr}, Pre A1 A → Pre A1 (A.take (t + 1)) := fun {A} h j a e => by
    have := (List.getElem?_eq_some_iff.mp e).1
    rw [List.getElem?_take_of_lt (by omega)]
    exact h j a e
  refine ⟨fun i m H => m = L.length - i ∧ i ≤ L.length ∧ ∃ Hs A g σ', wipe σ' vs = wipe σ vs ∧ σ'.length = σ.length ∧ Same Hs1 Hs ∧ Ok C Hs A g σ' H ∧ Pre A1 A ∧ lcL tgd tt el vs t (L.drop i) g = some g3, ⟨L.length, by simp, Nat.zero_le _, Hs1, A1, g1, σ, rfl, rfl, Same.refl _, ok, Pre.refl _, by simpa using e⟩, ?_⟩
  rintro i m H ⟨rfl, hi, Hs, A, g, σ', hw, hlen, s, ok, hP, e⟩
  by_cases hlt : i < L.length
  · refine .inr ⟨jw.go Hs H i (src s ok) hlt, ?_⟩
    rw [List.drop_eq_getElem_cons hlt] at e
    simp only [lcL] at e
    split at e
    · rename_i hfr
      simp only [Option.bind_eq_bind, Option.bind_eq_some_iff] at e
      obtain ⟨ga, e1, ⟨b, gb⟩, e2, e3⟩ := e
      have okw : Ok C Hs A (wipeG g vs) (wipe σ vs) H := ok.puts hfr (by rw [wipe_length, hlen]) (fun i hi => by rw [← hw]; exact wipe_out hi)
      refine ⟨fun H' => ∃ Hs' A' g' σ2, wipe σ2 vs = wipe σ vs ∧ σ2.length = σ.length ∧ Same Hs1 Hs' ∧ Ok C Hs' A' g' σ2 H' ∧ Pre A1 A' ∧ lcL tgd tt el vs t (L.drop (i + 1)) g' = some g3, fun H' ⟨Hs', A', g', σ2, w1, w2, w3, w4, w5, w6⟩ => ⟨L.length - (i + 1), by omega, rfl, hlt, Hs', A', g', σ2, w1, w2, w3, w4, w5, w6⟩, fun x H' y => ?_⟩
      obtain ⟨d, Hs', hd, s', ok', dz⟩ := jw.yld C Hs A _ _ H i x H' hK okw (src s ok) hlt y
      rw [List.getElem?_eq_getElem hlt] at hd
      cases hd
      refine ⟨C, Hs', A, _, _, ga, hK, hn, ok', dz, e1, fun σ2 hw2 ok2 => ?_⟩
      have hw3 : wipe σ2 vs = wipe σ vs := by
        rw [hw2]
        refine List.ext_getElem? fun j => ?_
        rw [wipe_get, wipe_get, wipe_length]
        by_cases hj : j ∈ vs ∧ j < σ.length
        · simp only [if_pos hj]
        · simp only [if_neg hj]
      have hl2 : σ2.length = σ.length := by have := ok2.ln; have := ok.ln; omega
      refine ⟨hw3, C, Hs', A, ga, b, gb, hK, hn, ok2, e2, fun Hs3 A3 H3 s3 p3 ok3 => ?_⟩
      cases b with
      | false =>
        show if false = true then _ else _
        rw [if_neg Bool.false_ne_true]
        have e3 : lcL tgd tt el vs t (L.drop (i + 1)) (gb.take (t + 1)) = some g3 := e3
        exact ⟨Hs3, A3.take (t + 1), _, σ2, hw3, hl2, (s.trans s').trans s3, ok3.cutM (by omega), ptk (hP.trans p3), e3⟩
      | true =>
        show if true = true then _ else _
        rw [if_pos rfl]
        simp only [if_true, Option.bind_eq_some_iff] at e3
        obtain ⟨⟨r, gc⟩, e4, ⟨dd, gd⟩, e5, e6⟩ := e3
        refine ⟨C, Hs3, A3, gb, r, gc, hK, hn, ok3, e4, fun Hs4 A4 v4 H4 s4 p4 ok4 rel4 => ?_⟩
        obtain ⟨Hs5, s5, ok5, dz5⟩ := ok4.frzR rel4 e5
        dsimp only at e6
        split at e6
        · rename_i acc hgt
          split at e6
          · rename_i hsz
            have hA4 : A4[t]? = some D0 := p4 _ _ (p3 _ _ (hP _ _ hA))
            obtain ⟨a', vs', ev, w1, w2, w3⟩ := ok5.bor (relB hA4) hgt
            cases ev
            refine ⟨vs', w2, by rw [w3.length]; exact hsz, Hs5, A4.take (t + 1), _, σ2, hw3, hl2, (((s.trans s').trans s3).trans s4).trans s5, (ok5.wr (o := .lst (vs' ++ [v4])) (c' := .lst (acc ++ [dd])) hgt hA4 (show DzA C.K Hs5 (vs' ++ [v4]) (acc ++ [dd]) from w3.append (.cons dz5 .nil))).cutM (by omega), ptk ((hP.trans p3).trans p4), e6⟩
          · cases e6
        · cases e6
    · cases e
  · have ei : i = L.length := by omega
    subst ei
    rw [List.drop_length] at e
    simp only [lcL] at e
    split at e
    · rename_i hfr
      cases e
      refine .inl ⟨jw.stop Hs H _ (src s ok) (Nat.le_refl _), q Hs A H s (ok.puts hfr hlen.symm fun i hi => ?_) hP⟩
      have h1 := wipe_out (σ := σ') hi
      have h2 := wipe_out (σ := σ) hi
      rw [← h1, hw, h2]
    · cases e
section
variable {X : Cx} {pos : Pos}
theorem zlc_of {mi : MI} {tgd : TD} {tt : ZT} {el : ZM} {vs : List Nat} {σ : L2.St} {H : Hp} {Q : VK} (h : tZ X.K X.N.length (zLc mi tgd tt el vs) σ H Q) :
    tLc (tZI X.K X.N.length mi) (tZGw X.K X.N.length vs tgd) (tZT X.K X.N.length tt) (tZ X.K X.N.length el) vs σ H Q := by
  obtain ⟨C, Hs, A, g, r, g', hK, hn, ok, e, q⟩ := h
  unfold zLc at e
  simp only [Option.bind_eq_bind, Option.bind_eq_some_iff] at e
  obtain ⟨⟨L, lk, g1⟩, h1, e⟩ := e
  refine ⟨C, Hs, A, g, L, lk, g1, hK, hn, ok, h1, fun Hs1 A1 H1 J lk' s1 PRE ok1 hl jw D0 hD => ?_⟩
  have ok2 := ok1.tmp (a := D0) (o := .lst []) (c := .lst []) hD (show DzA C.K Hs1 [] [] from .nil)
  have hA2 : (A1 ++ [D0])[g1.length]? = some D0 := by rw [← ok1.la]; simp
  have hAl : (A1 ++ [D0]).length = g1.length + 1 := by rw [List.length_append, ok1.la]; rfl
  cases lk with
  | none =>
    cases lk' with
    | some _ => exact hl.elim
    | none =>
      simp only [Option.bind_eq_some_iff] at e
      obtain ⟨g3, e1, e2⟩ := e
      cases e2
      exact lc_of hK hn ok1.lg ok2 hA2 hAl jw (fun _ _ z => by cases z) e1 fun Hs2 A2 H2 s2 ok3 pre => q Hs2 A2 (.ref D0) H2 (s1.trans s2) (fun j a h => pre j a (Pre.app _ _ j a (PRE j a h))) ok3 ⟨D0, pre _ _ hA2, rfl⟩
  | some j =>
    cases lk' with
    | none => exact hl.elim
    | some ac =>
      obtain ⟨a, c⟩ := ac
      obtain ⟨ha, ⟨p0, l0, hgj⟩, hj⟩ := hl
      simp only at e
      split at e
      · rename_i c' p l hg2
        rw [hgj] at hg2
        cases hg2
        simp only [Option.bind_eq_some_iff] at e
        obtain ⟨g3, e1, e2⟩ := e
        cases e2
        have hjl := (List.getElem?_eq_some_iff.mp hgj).1
        have hgc : (g1 ++ [Sl.own (.lst []) false false])[j]? = some (.own c p0 l0) := by rw [List.getElem?_append_left hjl]; exact hgj
        have hac : (A1 ++ [D0])[j]? = some a := Pre.app _ _ _ _ ha
        have hjn : j < C.n := by rw [hn]; exact hj
        have okl : Ok (C.lock (j, a, c) hjn) Hs1 (A1 ++ [D0]) ((g1 ++ [Sl.own (.lst []) false false]).set j (.own c p0 true)) σ (upd H1 D0 (.lst [])) := by
          refine ok2.lk hgc rfl rfl rfl rfl rfl fun r hr => ?_
          rcases List.mem_cons.mp hr with rfl | hr
          · exact .inl ⟨rfl, rfl, rfl, hac⟩
          · by_cases z : r.1 = j
            · obtain ⟨p', w1, w2⟩ := ok2.locked r hr
              rw [z, hgc] at w1
              cases w1
              rw [z] at w2
              exact .inl ⟨z, rfl, rfl, w2⟩
            · exact .inr ⟨z, hr⟩
        refine lc_of (C := C.lock (j, a, c) hjn) hK hn ok1.lg okl hA2 hAl jw (fun a' c' z => ⟨j, by cases z; exact List.mem_cons_self⟩) e1 fun Hs2 A2 H2 s2 ok' pre => ?_
        have okU : Ok C Hs2 A2 (unlk j l0 (wipeG g3 vs)) σ H2 := by
          obtain ⟨p', w1, w2⟩ := ok'.locked (j, a, c) List.mem_cons_self
          unfold unlk
          rw [show (wipeG g3 vs)[j]? = some (.own c p' true) from w1]
          refine ok'.lk (C' := C) w1 rfl rfl rfl rfl rfl fun r hr => ?_
          by_cases z : r.1 = j
          · obtain ⟨p2, y1, y2⟩ := ok2.locked r hr
            rw [z, hgc] at y1
            have e3 : some (Sl.own c p0 l0) = some (.own r.2.2 p2 true) := y1
            cases e3
            obtain ⟨p3, x1, x2⟩ := ok'.locked r (List.mem_cons_of_mem _ hr)
            rw [z] at x2
            exact .inl ⟨z, rfl, rfl, x2⟩
          · exact .inr ⟨z, List.mem_cons_of_mem _ hr⟩
        exact q Hs2 A2 (.ref D0) H2 (s1.trans s2) (fun j a h => pre j a (Pre.app _ _ j a (PRE j a h))) okU ⟨D0, pre _ _ hA2, rfl⟩
      · cases e
theorem ze_lc {elt tg iter : Expr} {ifs : List Expr} {scope : Scope} {own : List (Str × Nat)} {mi : MI} {g : TD} {tt : ZT} {el : ZM} (hc : X.calm = true) (hN : X.N.Nodup) (hi : ZI X tg iter mi) (ok : BlkOk X.N X.env.scope scope own)
    (hg : ∀ (s : Shared) (H : Hp) (C : Addr) (cl : List (Str × Addr)) (fp : List Addr), ZGw (X.blk s H scope (compEnvC scope cl C X.env) fp) (own.map (·.2)) tg g) (ht : ∀ (s : Shared) (H : Hp) (C : Addr) (cl : List (Str × Addr)) (fp : List Addr), ZTs (X.blk s H scope (compEnvC scope cl C X.env) fp) ifs tt)
    (he : ∀ (s : Shared) (H : Hp) (C : Addr) (cl : List (Str × Addr)) (fp : List Addr), ZE (X.blk s H scope (compEnvC scope cl C X.env) fp) elt el) (hs : ∀ x, foldedSetIterable iter X.env x = pure x := by intro _; rfl) :
    ZE X (.ListComp elt [⟨tg, iter, ifs, 0⟩] scope pos) (zLc mi g tt el (own.map (·.2))) :=
  PE.of (pe_lc hc hN hi ok hg ht he hs) fun σ H Q h => zlc_of h
theorem zs_setLc {i : Nat} {y : Str} {py spos : Pos} {elt tg iter : Expr} {ifs : List Expr} {scope : Scope} {own : List (Str × Nat)} {mi : MI} {g : TD} {tt : ZT} {el : ZM} (hy : X.N[i]? = some y) (hyl : X.env.scope.names.lookup y = some .local)
    (hsw : swapsWith (.ListComp elt [⟨tg, iter, ifs, 0⟩] scope pos) (some (.Name y py)) spos.line X.env = pure true) (hc : X.calm = true) (hN : X.N.Nodup) (hi : ZI X tg iter mi) (ok : BlkOk X.N X.env.scope scope own)
    (hg : ∀ (s : Shared) (H : Hp) (C : Addr) (cl : List (Str × Addr)) (fp : List Addr), ZGw (X.blk s H scope (compEnvC scope cl C X.env) fp) (own.map (·.2)) tg g) (ht : ∀ (s : Shared) (H : Hp) (C : Addr) (cl : List (Str × Addr)) (fp : List Addr), ZTs (X.blk s H scope (compEnvC scope cl C X.env) fp) ifs tt)
    (he : ∀ (s : Shared) (H : Hp) (C : Addr) (cl : List (Str × Addr)) (fp : List Addr), ZE (X.blk s H scope (compEnvC scope cl C X.env) fp) elt el) (hs : ∀ x, foldedSetIterable iter X.env x = pure x := by intro _; rfl) :
    ZS X (.Assign [.Name y py] (.ListComp elt [⟨tg, iter, ifs, 0⟩] scope pos) spos) (zSet X.N.length i (zLc mi g tt el (own.map (·.2)))) := by
  refine PS.of (ps_setLc (te := tZ X.K X.N.length el) (tt := tZT X.K X.N.length tt) (g := tZGw X.K X.N.length (own.map (·.2)) g) hc hN hy hyl hsw hi ok hg ht he hs) fun D σ H h => ?_
  obtain ⟨C, Hs, A, g, fl, g', hK, hn, ok, e, q⟩ := h
  have hin := (List.getElem?_eq_some_iff.mp hy).1
  have h2 := set_of (i := i) (D := D) hin ⟨C, Hs, A, g, fl, g', hK, hn, ok, e, q⟩
  exact zlc_of h2
end
end Z
set_option Elab.async false
set_option linter.all false
set_option maxRecDepth 100000
set_option maxHeartbeats 4000000
namespace Z
open PySem PySem.Spec PyProof.Rows L2
section
variable {X : Cx} {pos : Pos} {tg : Expr} {m : ZM} {ma : ZAr} {a b c : Expr} {p : Pos}
/-- the signs of a text -/
def signsD (t : List Nat) : List D := t.map fun c => D.str [c]
def ziS (m : ZM) : MI := fun g => do
  let (r, g1) ← m g
  let d ← rd g1 r
  match d with
  | .str t => some (signsD t, none, g1)
  | _ => none
theorem jw_str {K : PySem.W.Frag} {t : List Nat} {St : Hp → Hp → Prop} : JW K (Its ⟨t.toArray⟩) (signsD t) St where
  stop := fun Hs H i _ hi => by
    have : t.length ≤ i := by simpa [signsD] using hi
    show (⟨t.toArray⟩ : Str).cps.size ≤ i
    simpa using this
  go := fun Hs H i _ hi => by
    have : i < t.length := by simpa [signsD] using hi
    show i < (⟨t.toArray⟩ : Str).cps.size
    simpa using this
  yld := fun C Hs A g σ H i x H' hK ok st hi y => by
    obtain ⟨rfl, c, hc, rfl⟩ := y
    refine ⟨.str [c], Hs, ?_, Same.refl _, ok, .str [c]⟩
    have : t[i]? = some c := by simpa using hc
    simp [signsD, this]
theorem zi_str {l : Expr} (hl : ZE X l m) : ZI X tg l (ziS m) := by
  refine PI.of (pi_str hl) fun σ H Rr ⟨C, Hs, A, g, L, lk, g', hK, hn, ok, e, q⟩ => ?_
  unfold ziS at e
  simp only [Option.bind_eq_bind, Option.bind_eq_some_iff] at e
  obtain ⟨⟨r, g1⟩, h1, d, h2, e⟩ := e
  refine ⟨C, Hs, A, g, r, g1, hK, hn, ok, h1, fun Hs1 A1 v1 H1 s1 p1 ok1 rel1 => ?_⟩
  cases d with
  | str t =>
    cases e
    have hd := ok1.rd rel1 h2
    cases hd
    exact ⟨_, rfl, q Hs1 A1 H1 _ none s1 p1 ok1 trivial jw_str⟩
  | _ => cases e
variable {ma' mb : ZM}
def zCatL (ma mb : ZM) : ZM := fun g => do
  let (r1, g1) ← ma g
  let (r2, g2) ← mb g1
  let d ← rd g2 r1
  let e ← rd g2 r2
  match d, e with
  | .lst l, .lst k => if l.length + k.length ≤ sizeLine then some (.bor g2.length, g2 ++ [.own (.lst (l ++ k)) false false]) else none
  | _, _ => none
theorem ze_catL (ha : ZE X a ma') (hb : ZE X b mb) : ZE X (.BinOp a .Add b pos) (zCatL ma' mb) := by
  refine PE.of (pe_op op_catL ha hb) fun σ H Q ⟨C, Hs, A, g, r, g', hK, hn, ok, e, q⟩ => ?_
  unfold zCatL at e
  simp only [Option.bind_eq_bind, Option.bind_eq_some_iff] at e
  obtain ⟨⟨r1, g1⟩, h1, ⟨r2, g2⟩, h2, d, h3, d2, h4, e⟩ := e
  dsimp only at e h3 h4
  split at e
  · split at e
    · rename_i hz
      cases e
      refine tZ2 hK hn ok h1 h2 fun Hs2 A2 v1 v2 H2 s p ok2 w1 w2 => ?_
      obtain ⟨x, xs, rfl, y1, y2⟩ := ok2.rdL w1 h3
      obtain ⟨x', xs', rfl, z1, z2⟩ := ok2.rdL w2 h4
      rw [hK] at y1 z1
      exact ⟨x, x', xs, xs', rfl, rfl, y1, z1, by rw [y2.length, z2.length]; exact hz, fun p' hp => q Hs2 (A2 ++ [p']) _ _ s (p.trans (Pre.app _ _)) (ok2.tmp (o := .lst (xs ++ xs')) (c := .lst _) hp (show DzA C.K Hs2 (xs ++ xs') _ from y2.append z2)) (ok2.tmpR p')⟩
    · cases e
  · cases e
end
section
variable {g g1 g2 g3 : G} {r r1 r2 : R} {d e z : D} {ma mb mc m : ZM} {mr : ZAr} {rs : List R} {ds : List D} {b b1 b2 : Bool} {n i j : Nat}
theorem er_catL {l k : List D} (h1 : ma g = some (r1, g1)) (h2 : mb g1 = some (r2, g2)) (h3 : rd g2 r1 = some (.lst l)) (h4 : rd g2 r2 = some (.lst k)) (hz : l.length + k.length ≤ sizeLine) : zCatL ma mb g = some (.bor g2.length, g2 ++ [.own (.lst (l ++ k)) false false]) := by
  unfold zCatL; simp only [h1, h2, h3, h4, if_pos hz, Option.bind_eq_bind, Option.bind_some]
/-- a call that changes its kk-th argument, the others data -/
theorem er_callM {kk : Nat} {f : Cn → List D → Option (FR × Cn)} {c c' : Cn} {p : Bool} (h1 : mr g = some (rs, g1)) (h2 : rs[kk]? = some (.bor j)) (h3 : g1[j]? = some (.own c p false)) (h4 : (rs.eraseIdx kk).all (noB j) = true) (h5 : rdAll g1 (rs.eraseIdx kk) = some ds) (h6 : frzAll (rs.eraseIdx kk) g1 = some (ds, g2)) (h8 : f c ds = some (.dat d, c')) (h7 : g2 = g1) :
    zCallM kk f mr g = some (.dat d, g1.set j (.own c' p false)) := by
  subst h7
  unfold zCallM
  simp only [h1, h2, h3, h4, h5, h6, h8, Option.bind_eq_bind, Option.bind_some, if_true]
  split
  · rfl
  · rfl
end
end Z
set_option Elab.async false
set_option linter.all false
set_option maxRecDepth 100000
set_option maxHeartbeats 4000000
namespace Z
open PySem PySem.Spec PyProof.Rows L2
/-- plain, and a text that can stand in a shaped thing -/
def D.okp : D → Bool
  | .str s => PyData.strOk ⟨s.toArray⟩
  | d => d.pl
theorem pl_lay {d : D} (h : d.okp = true) : d.py.canLay0 = true ∧ d.py.depth = 0 := by
  cases d with
  | str s => exact ⟨h, rfl⟩
  | non => exact ⟨rfl, rfl⟩
  | bl b => exact ⟨rfl, rfl⟩
  | int i => exact ⟨rfl, rfl⟩
  | _ => exact absurd h (by simp [D.okp, D.pl])
theorem pls_lay : ∀ {l : List D}, l.all D.okp = true → PyData.canLayAll0 (D.pyA l) = true ∧ PyData.depthAll (D.pyA l) = 0
  | [], _ => ⟨rfl, rfl⟩
  | d :: l, h => by
    rw [List.all_cons, Bool.and_eq_true] at h
    obtain ⟨a1, a2⟩ := pl_lay h.1
    obtain ⟨b1, b2⟩ := pls_lay h.2
    simp [D.pyA, PyData.canLayAll0, PyData.depthAll, a1, a2, b1, b2]
theorem shp_flat {l : List D} (h : l.all D.okp = true) : (D.lst l).shp = true := by
  obtain ⟨b1, b2⟩ := pls_lay h
  show ((D.lst l).py.canLay0 && decide ((D.lst l).py.depth ≤ 64)) = true
  have e1 : (D.lst l).py.canLay0 = true := by show PyData.canLay0 (.list (D.pyA l)) = true; simpa [PyData.canLay0] using b1
  have e2 : (D.lst l).py.depth ≤ 64 := by show PyData.depth (.list (D.pyA l)) ≤ 64; simp [PyData.depth, b2]
  rw [e1, decide_eq_true e2]
  rfl
theorem pl_ints (a : List Int) : (a.map D.int).all D.okp = true := by simp [D.okp, D.pl]
theorem eqvA_ints : ∀ a b : List Int, D.eqvA (a.map D.int) (b.map D.int) = (a == b)
  | [], [] => rfl
  | [], _ :: _ => rfl
  | _ :: _, [] => rfl
  | x :: a, y :: b => by
    show (D.eqv (.int x) (.int y) && D.eqvA (a.map D.int) (b.map D.int)) = _
    rw [eqvA_ints a b]
    rfl
theorem dr_neL (a b : List Int) : neqD (.lst (a.map D.int)) (.lst (b.map D.int)) = some (.bl (!(a == b))) := by
  have : neOk (.lst (a.map D.int)) (.lst (b.map D.int)) = true := by simp [neOk, shp_flat (pl_ints a), shp_flat (pl_ints b)]
  unfold neqD
  rw [if_pos this]
  show some (D.bl (!D.eqvA _ _)) = _
  rw [eqvA_ints]
/-- one turn of a comprehension that takes its item -/
theorem lcL_go {tg : TD} {tt : ZT} {el : ZM} {vs : List Nat} {t : Nat} {x : D} {xs : List D} {g g1 g2 g3 g4 g5 : G} {r : R} {d : D} {acc : List D} {o : Option G} (h0 : freeAll g vs = true) (h1 : tg x (wipeG g vs) = some g1) (h2 : tt g1 = some (true, g2)) (h3 : el g2 = some (r, g3)) (h4 : frzR r g3 = some (d, g4)) (h5 : g4[t]? = some (.own (.lst acc) false false)) (hz : acc.length < sizeLine)
    (hg : (g4.set t (.own (.lst (acc ++ [d])) false false)).take (t + 1) = g5) (k : lcL tg tt el vs t xs g5 = o) : lcL tg tt el vs t (x :: xs) g = o := by
  simp only [lcL, h0, h1, h2, h3, h4, h5, hz, hg, if_true, Option.bind_eq_bind, Option.bind_some]
  exact k
theorem lcL_no {tg : TD} {tt : ZT} {el : ZM} {vs : List Nat} {t : Nat} {x : D} {xs : List D} {g g1 g2 g5 : G} {o : Option G} (h0 : freeAll g vs = true) (h1 : tg x (wipeG g vs) = some g1) (h2 : tt g1 = some (false, g2)) (hg : g2.take (t + 1) = g5) (k : lcL tg tt el vs t xs g5 = o) : lcL tg tt el vs t (x :: xs) g = o := by
  simp only [lcL, h0, h1, h2, hg, if_true, Option.bind_eq_bind, Option.bind_some]
  exact k
theorem lcL_end {tg : TD} {tt : ZT} {el : ZM} {vs : List Nat} {t : Nat} {g : G} (h0 : freeAll g vs = true) : lcL tg tt el vs t [] g = some g := by
  simp only [lcL, h0, if_true]
theorem er_lc {mi : MI} {tg : TD} {tt : ZT} {el : ZM} {vs : List Nat} {g g1 g3 g4 : G} {L : List D} (h1 : mi g = some (L, none, g1)) (h2 : lcL tg tt el vs g1.length L (g1 ++ [Sl.own (.lst []) false false]) = some g3) (hg : wipeG g3 vs = g4) : zLc mi tg tt el vs g = some (.bor g1.length, g4) := by
  unfold zLc
  simp only [h1, h2, hg, Option.bind_eq_bind, Option.bind_some]
theorem er_orTF {s t : ZT} {g g1 g2 : G} {b1 b2 : Bool} (h1 : s g = some (b1, g1)) (hb : b1 = false) (h2 : t g1 = some (b2, g2)) : zOrT s t g = some (b2, g2) := by
  subst hb
  unfold zOrT; simp only [h1, Option.bind_eq_bind, Option.bind_some]
  rw [if_neg Bool.false_ne_true]
  exact h2
theorem er_andTT {s t : ZT} {g g1 g2 : G} {b1 b2 : Bool} (h1 : s g = some (b1, g1)) (hb : b1 = true) (h2 : t g1 = some (b2, g2)) : zAndT s t g = some (b2, g2) := by
  subst hb
  unfold zAndT; simp only [h1, Option.bind_eq_bind, Option.bind_some, if_true]
  exact h2
theorem sr_bk {β : Type} {kk : Option (Fl × G) → β} {OUT : β} {rest : SM} {g : G} (k : ap kk (some (.bk, g)) = OUT) : ap kk (zSeq zBk rest g) = OUT := k
end Z
set_option Elab.async false
set_option linter.all false
set_option maxRecDepth 100000
set_option maxHeartbeats 4000000
namespace Z
open PySem PySem.Spec PyProof.Rows L2
def intsD : List D → Option (List Int)
  | [] => some []
  | .int i :: r => do
    let t ← intsD r
    some (i :: t)
  | _ :: _ => none
theorem ints_map : ∀ {ds : List D} {ts : List Int}, intsD ds = some ts → ds = ts.map D.int
  | [], ts, e => by cases e; rfl
  | d :: r, ts, e => by
    cases d with
    | int s =>
      simp only [intsD, Option.bind_eq_bind, Option.bind_eq_some_iff] at e
      obtain ⟨t, h1, e⟩ := e
      cases e
      rw [ints_map h1]
      rfl
    | _ => cases e
theorem intsD_map : ∀ ns : List Int, intsD (ns.map D.int) = some ns
  | [] => rfl
  | n :: r => by
    rw [List.map_cons, intsD, intsD_map r]
    rfl
theorem dzA_ints' {K : PySem.W.Frag} {H : Hp} : ∀ {vs : List V} {ts : List Int}, DzA K H vs (ts.map D.int) → vs = ts.map V.int
  | [], [], _ => rfl
  | _ :: _, [], h => by cases h
  | [], _ :: _, h => by cases h
  | v :: vs, t :: ts, h => by
    cases h with
    | cons h1 h2 =>
      cases h1
      rw [dzA_ints' h2]
      rfl
def sumL : List D → Option D
  | [.lst l] => match intsD l with
    | some ns => some (.int ns.sum)
    | _ => none
  | _ => none
theorem s_sumL {K : PySem.W.Frag} : CallS K (rSum K) sumL := by
  intro H vs ds z Q hz e q
  unfold sumL at e
  split at e
  · split at e
    · rename_i ns hn
      cases e
      cases hz with
      | cons h t =>
        cases t
        cases h with
        | lst hs ha =>
          rw [ints_map hn] at ha
          have ev := dzA_ints' ha
          subst ev
          exact ⟨_, _, rfl, hs, q⟩
    · cases e
  · cases e
end Z
set_option Elab.async false
set_option linter.all false
set_option maxRecDepth 100000
set_option maxHeartbeats 4000000
namespace Z
open PySem PySem.Spec PyProof.Rows L2
def zFg (vs : List Nat) (s : SM) : SM := fun g => do
  let (fl, g1) ← s g
  match fl with
  | .ret r => some (.ret r, g1)
  | fl => if freeAll g1 vs = true then some (fl, wipeG g1 vs) else none
section
variable {X : Cx} {st : Stmt} {sts : List Stmt} {s : SM} {vs : List Nat}
theorem fg_of {D : Ends} {σ : L2.St} {H : Hp} {K : PySem.W.Frag} {n : Nat} (h : tZS K n (zFg vs s) D σ H) : tZS K n s D σ H := by
  obtain ⟨C, Hs, A, g, fl, g', hK, hn, ok, e, q⟩ := h
  unfold zFg at e
  simp only [Option.bind_eq_bind, Option.bind_eq_some_iff] at e
  obtain ⟨⟨fl1, g1⟩, h1, e⟩ := e
  refine ⟨C, Hs, A, g, fl1, g1, hK, hn, ok, h1, ?_⟩
  cases fl1 with
  | ret r => cases e; exact q
  | nx =>
    simp only at e
    split at e
    · rename_i hf; cases e; exact fun Hs' A' σ' H' s1 ok1 => q Hs' A' σ' H' s1 (ok1.puts hf rfl (fun _ _ => rfl))
    · cases e
  | bk =>
    simp only at e
    split at e
    · rename_i hf; cases e; exact fun Hs' A' σ' H' s1 ok1 => q Hs' A' σ' H' s1 (ok1.puts hf rfl (fun _ _ => rfl))
    · cases e
  | ct =>
    simp only at e
    split at e
    · rename_i hf; cases e; exact fun Hs' A' σ' H' s1 ok1 => q Hs' A' σ' H' s1 (ok1.puts hf rfl (fun _ _ => rfl))
    · cases e
theorem zss_fg (h : ZSs X sts s) : ZSs X sts (zFg vs s) := PSs.of h fun D σ H h => fg_of h
end
section
variable {g g1 g2 : G} {st s rest : SM} {r : R} {vs : List Nat}
theorem fg_nx (h : s g = some (.nx, g1)) (hf : freeAll g1 vs = true) (hg : wipeG g1 vs = g2) : zFg vs s g = some (.nx, g2) := by
  unfold zFg; simp only [h, hf, hg, if_true, Option.bind_eq_bind, Option.bind_some]
/-- what follows a forgetting, told as one's end -/
def fgK {β : Type} (vs : List Nat) (kk : Option (Fl × G) → β) : Option (Fl × G) → β := fun o => kk (o.bind fun q => match q.1 with
  | .ret r => some (.ret r, q.2)
  | fl => if freeAll q.2 vs = true then some (fl, wipeG q.2 vs) else none)
theorem ap_fg {β : Type} {kk : Option (Fl × G) → β} {OUT : β} (k : ap (fgK vs kk) (s g) = OUT) : ap kk (zFg vs s g) = OUT := by
  have e : zFg vs s g = (s g).bind fun q => match q.1 with
    | .ret r => some (.ret r, q.2)
    | fl => if freeAll q.2 vs = true then some (fl, wipeG q.2 vs) else none := by
    unfold zFg
    cases s g with
    | none => rfl
    | some q => rfl
  rw [e]; exact k
theorem fgK_nx {β : Type} {kk : Option (Fl × G) → β} {OUT : β} (hf : freeAll g vs = true) (hg : wipeG g vs = g2) (k : kk (some (.nx, g2)) = OUT) : ap (fgK vs kk) (some (.nx, g)) = OUT := by
  show kk (if freeAll g vs = true then some (.nx, wipeG g vs) else none) = OUT
  rw [if_pos hf, hg]; exact k
theorem fgK_ct {β : Type} {kk : Option (Fl × G) → β} {OUT : β} (hf : freeAll g vs = true) (hg : wipeG g vs = g2) (k : kk (some (.ct, g2)) = OUT) : ap (fgK vs kk) (some (.ct, g)) = OUT := by
  show kk (if freeAll g vs = true then some (.ct, wipeG g vs) else none) = OUT
  rw [if_pos hf, hg]; exact k
theorem fgK_bk {β : Type} {kk : Option (Fl × G) → β} {OUT : β} (hf : freeAll g vs = true) (hg : wipeG g vs = g2) (k : kk (some (.bk, g2)) = OUT) : ap (fgK vs kk) (some (.bk, g)) = OUT := by
  show kk (if freeAll g vs = true then some (.bk, wipeG g vs) else none) = OUT
  rw [if_pos hf, hg]; exact k
theorem fgK_ret {β : Type} {kk : Option (Fl × G) → β} {OUT : β} (k : kk (some (.ret r, g)) = OUT) : ap (fgK vs kk) (some (.ret r, g)) = OUT := k
theorem sr_ct {β : Type} {kk : Option (Fl × G) → β} {OUT : β} {rest : SM} {g : G} (k : ap kk (some (.ct, g)) = OUT) : ap kk (zSeq zCt rest g) = OUT := k
theorem sr_bk1 {β : Type} {kk : Option (Fl × G) → β} {OUT : β} {g : G} (k : ap kk (some (.bk, g)) = OUT) : ap kk (zBk g) = OUT := k
theorem sr_ct1 {β : Type} {kk : Option (Fl × G) → β} {OUT : β} {g : G} (k : ap kk (some (.ct, g)) = OUT) : ap kk (zCt g) = OUT := k
theorem sr_nx1 {β : Type} {kk : Option (Fl × G) → β} {OUT : β} {g : G} (k : ap kk (some (.nx, g)) = OUT) : ap kk (zNx g) = OUT := k
theorem wipeG_nil (g : G) : wipeG g [] = g := rfl
theorem wipeG_cons (g : G) (v : Nat) (vs : List Nat) : wipeG g (v :: vs) = (wipeG g vs).set v .un := rfl
theorem for_run {n : Nat} {mi : MI} {tg : TD} {L : List D} {o : Option (Fl × G)} (h1 : mi g = some (L, none, g)) (hg : g.take n = g) (h2 : forL tg st L g = o) : zFor n mi tg st g = o := for_none h1 hg h2
theorem er_andVT {ma mb : ZM} {g3 : G} {b1 b2 : Bool} (h1 : ma g = some (.dat (.bl b1), g1)) (hb : b1 = true) (h2 : mb g1 = some (.dat (.bl b2), g3)) : zAndV ma mb g = some (.dat (.bl b2), g3) := by
  subst hb
  unfold zAndV; simp only [h1, isB, h2, if_true, Option.bind_eq_bind, Option.bind_some]
theorem er_orVF {ma mb : ZM} {g3 : G} {b1 b2 : Bool} (h1 : ma g = some (.dat (.bl b1), g1)) (hb : b1 = false) (h2 : mb g1 = some (.dat (.bl b2), g3)) : zOrV ma mb g = some (.dat (.bl b2), g3) := by
  subst hb
  unfold zOrV; simp only [h1, isB, Option.bind_eq_bind, Option.bind_some]
  rw [if_neg Bool.false_ne_true]
  exact h2
/-- a call that hands out data with references within: what was handed in becomes data -/
theorem er_callGF {f : List D → Option FR} {mr : ZAr} {rs : List R} {ds : List D} {d : D} (h1 : mr g = some (rs, g1)) (h2 : rdAll g1 rs = some ds) (h2' : frzAll rs g1 = some (ds, g2)) (h3 : f ds = some (.dat d)) (hs : d.scal = false) : zCall f mr g = some (.dat d, g2) := by
  unfold zCall; simp only [h1, h2, h2', h3, hs, Option.bind_eq_bind, Option.bind_some]
  rfl
theorem er_callHF {f : List D → Option FR} {mr : ZAr} {rs : List R} {ds : List D} {c : Cn} (h1 : mr g = some (rs, g1)) (h2 : rdAll g1 rs = some ds) (h2' : frzAll rs g1 = some (ds, g2)) (h3 : f ds = some (.new c)) (hs : c.scal = false) : zCall f mr g = some (.bor g2.length, g2 ++ [.own c false false]) := by
  unfold zCall; simp only [h1, h2, h2', h3, hs, Option.bind_eq_bind, Option.bind_some]
  rfl
theorem er_orTt {s t : ZT} {b : Bool} (h1 : s g = some (b, g1)) (hb : b = true) : zOrT s t g = some (true, g1) := by
  subst hb
  unfold zOrT; simp only [h1, Option.bind_eq_bind, Option.bind_some, if_true]
theorem forL_nx {tg : TD} {x : D} {xs : List D} {g3 : G} {o : Option (Fl × G)} (h1 : tg x g = some g1) (h2 : st g1 = some (.nx, g3)) (h3 : forL tg st xs g3 = o) : forL tg st (x :: xs) g = o := by
  simp only [forL, h1, h2, Option.bind_eq_bind, Option.bind_some]; exact h3
/-- what an item does: b whether it is taken, f what it becomes; base the slots without the new list -/
structure LcItem (tg : TD) (tt : ZT) (el : ZM) (vs : List Nat) (t : Nat) (base : G) (x : D) (b : Bool) (y : D) : Prop where
  run : ∀ acc : List D, ∃ h : G, h.length = t ∧ freeAll (h ++ [.own (.lst acc) false false]) vs = true ∧ (∀ o : Sl, wipeG (h ++ [o]) vs = base ++ [o]) ∧ (∀ o : Sl, freeAll (h ++ [o]) vs = true) ∧ tg x (base ++ [.own (.lst acc) false false]) = some (h ++ [.own (.lst acc) false false]) ∧
    tt (h ++ [.own (.lst acc) false false]) = some (b, h ++ [.own (.lst acc) false false]) ∧
    (b = true → ∃ r g3 g4, el (h ++ [.own (.lst acc) false false]) = some (r, g3) ∧ frzR r g3 = some (y, g4) ∧ g4[t]? = some (.own (.lst acc) false false) ∧ ∀ o : Sl, (g4.set t o).take (t + 1) = h ++ [o])
theorem lcL_fm {tg : TD} {tt : ZT} {el : ZM} {vs : List Nat} {t : Nat} {base : G} {b : D → Bool} {f : D → D} : ∀ {L : List D} (acc : List D) (h : G), h.length = t → (∀ o : Sl, wipeG (h ++ [o]) vs = base ++ [o]) → (∀ o : Sl, freeAll (h ++ [o]) vs = true) → acc.length + L.length ≤ sizeLine → (∀ x ∈ L, LcItem tg tt el vs t base x (b x) (f x)) →
    ∃ g3, lcL tg tt el vs t L (h ++ [.own (.lst acc) false false]) = some g3 ∧ wipeG g3 vs = base ++ [.own (.lst (acc ++ (L.filter b).map f)) false false]
  | [], acc, h, hl, hw, hf, _, _ => ⟨_, lcL_end (hf _), by rw [hw]; simp⟩
  | x :: L, acc, h, hl, hw, hf, hz, hx => by
    obtain ⟨h', q1, q2, q3, q4, q5, q6, q7⟩ := (hx x List.mem_cons_self).run acc
    have hx' : ∀ x ∈ L, LcItem tg tt el vs t base x (b x) (f x) := fun x h => hx x (List.mem_cons_of_mem _ h)
    simp only [List.length_cons] at hz
    cases hb : b x with
    | true =>
      obtain ⟨r, g3, g4, w1, w2, w3, w4⟩ := q7 hb
      obtain ⟨g5, x1, x2⟩ := lcL_fm (L := L) (acc ++ [f x]) h' q1 q3 q4 (by simp; omega) hx'
      refine ⟨g5, lcL_go (hf _) (by rw [hw]; exact q5) (by rw [q6, hb]) w1 w2 w3 (by omega) (w4 _) x1, ?_⟩
      rw [x2, List.filter_cons, hb, if_pos rfl]
      simp
    | false =>
      obtain ⟨g5, x1, x2⟩ := lcL_fm (L := L) acc h' q1 q3 q4 (by omega) hx'
      refine ⟨g5, lcL_no (hf _) (by rw [hw]; exact q5) (by rw [q6, hb]) (by rw [List.take_of_length_le (by simp [q1])]) x1, ?_⟩
      rw [x2, List.filter_cons, hb, if_neg Bool.false_ne_true]
/-- an item whose value is data -/
theorem lc_dat {tg : TD} {tt : ZT} {el : ZM} {vs : List Nat} {t : Nat} {base h : G} {x : D} {b : Bool} {y : D} (hl : h.length = t) (hw : ∀ o : Sl, wipeG (h ++ [o]) vs = base ++ [o]) (hf : ∀ o : Sl, freeAll (h ++ [o]) vs = true) (h1 : ∀ o : Sl, tg x (base ++ [o]) = some (h ++ [o])) (h2 : ∀ o : Sl, tt (h ++ [o]) = some (b, h ++ [o]))
    (h3 : b = true → ∀ o : Sl, el (h ++ [o]) = some (.dat y, h ++ [o])) : LcItem tg tt el vs t base x b y :=
  ⟨fun acc => ⟨h, hl, hf _, hw, hf, h1 _, h2 _, fun hb => ⟨_, _, _, h3 hb _, rfl, by rw [← hl]; simp, fun o => by rw [← hl, List.set_append_right _ _ (Nat.le_refl _)]; simp [List.take_of_length_le]⟩⟩⟩
theorem er_lc1 {mi : MI} {tg : TD} {tt : ZT} {el : ZM} {vs : List Nat} {g : G} {L : List D} {base h : G} {b : D → Bool} {f : D → D} (h1 : mi g = some (L, none, h)) (hw : ∀ o : Sl, wipeG (h ++ [o]) vs = base ++ [o]) (hf : ∀ o : Sl, freeAll (h ++ [o]) vs = true) (hz : L.length ≤ sizeLine) (hx : ∀ x ∈ L, LcItem tg tt el vs h.length base x (b x) (f x)) :
    zLc mi tg tt el vs g = some (.bor h.length, base ++ [.own (.lst ((L.filter b).map f)) false false]) := by
  obtain ⟨g3, x1, x2⟩ := lcL_fm (L := L) [] h rfl hw hf (by simpa using hz) hx
  rw [List.nil_append] at x2
  exact er_lc h1 x1 x2
theorem er_lcO {mi : MI} {tg : TD} {tt : ZT} {el : ZM} {vs : List Nat} {g g1 : G} {L : List D} {base h : G} {b : D → Bool} {f : D → D} {j : Nat} {c : Cn} {p l : Bool} (h1 : mi g = some (L, some j, g1)) (hj : g1[j]? = some (.own c p l)) (hh : g1.set j (.own c p true) = h) (hw : ∀ o : Sl, wipeG (h ++ [o]) vs = base ++ [o]) (hf : ∀ o : Sl, freeAll (h ++ [o]) vs = true) (hz : L.length ≤ sizeLine) (hx : ∀ x ∈ L, LcItem tg tt el vs h.length base x (b x) (f x)) :
    zLc mi tg tt el vs g = some (.bor h.length, unlk j l (base ++ [.own (.lst ((L.filter b).map f)) false false])) := by
  have hjl := (List.getElem?_eq_some_iff.mp hj).1
  obtain ⟨g3, x1, x2⟩ := lcL_fm (L := L) [] h rfl hw hf (by simpa using hz) hx
  rw [List.nil_append] at x2
  unfold zLc
  have e : (g1 ++ [Sl.own (.lst []) false false]).set j (.own c p true) = h ++ [Sl.own (.lst []) false false] := by
    rw [List.set_append, if_pos hjl, hh]
  have el : g1.length = h.length := by rw [← hh, List.length_set]
  simp only [h1, hj, Option.bind_eq_bind, Option.bind_some]
  rw [e, el, x1]
  simp only [Option.bind_some, x2]
end
theorem inL_ints (n : Int) : ∀ R : List Int, inL (.int n) (R.map D.int) = decide (n ∈ R)
  | [] => rfl
  | z :: R => by
    have := inL_ints n R
    unfold inL at this ⊢
    rw [List.map_cons, List.any_cons, this]
    show ((z == n) || _) = _
    by_cases h : z = n
    · subst h; simp
    · have : ¬ n = z := fun e => h e.symm
      simp [h, this]
theorem in_ints (n : Int) (R : List Int) : inD (.int n) (.lst (R.map D.int)) = some (.bl (decide (n ∈ R))) := by
  unfold inD
  show Option.map D.bl (if _ then _ else _) = _
  rw [if_pos (by simp [D.pl]), inL_ints]
  rfl
end Z
set_option Elab.async false
set_option linter.all false
set_option maxRecDepth 100000
set_option maxHeartbeats 4000000
namespace Z
open PySem PySem.Spec PyProof.Rows L2
structure FnA (P : Program) (w : World) (K : PySem.W.Frag) (mg : Str → Option Value) (base : Heap) (A : Around) (f : Addr) (fd : FuncData) (ps : List Str) (sp : Sp) : Prop where
  run : ∀ (out : List Env) (s : Shared) (H : Hp) (ar : Args) (us : List Value) (vs : List V) (Q : VK) (E : XK), Env0 P w K mg base A out s H → BindsTo s fd ar (ps.zip us) → Vals vs us → sp vs H Q E →
    codeAny (model P w) A (.call (.ref f) ar) (CR CX0 out P w H s Q E) s
section
variable {P : Program} {w : World} {K : PySem.W.Frag} {mg : Str → Option Value} {base : Heap}
/-- the reading of a body by runP, wherever it is called -/
theorem runP_reads {N ps : List Str} {s : SM} {vs : List V} {H : Hp} {Q : VK} {E : XK} (hp : ps.length ≤ N.length) (hs : spP K (runP N.length ps.length s) vs H Q E) : tZS K N.length s { nx := fun _ H' => Q .non H', rt := Q } (L2.start N vs) H ∧ vs.length = ps.length := by
  obtain ⟨Hs, ds, fr, sm, hz, e, q⟩ := hs
  unfold runP at e
  split at e
  · rename_i hl
    have hd : ds.length ≤ N.length := by omega
    refine ⟨?_, by rw [hz.length]; exact hl⟩
    split at e
    · rename_i r g' hr
      refine ⟨_, Hs, _, start0 N.length ds, .ret r, g', rfl, rfl, ok_start hd sm hz, hr, ?_⟩
      exact fun Hs' A' σ' H' v s1 ok1 rel1 => q v Hs' H' s1 (fun b o e => ok1.keep b o e (fun _ h => (List.not_mem_nil h).elim)) ok1.same ok1.grow (fin_ok ok1 rel1 e)
    · rename_i g' hr
      cases e
      refine ⟨_, Hs, _, start0 N.length ds, .nx, g', rfl, rfl, ok_start hd sm hz, hr, ?_⟩
      exact fun Hs' A' σ' H' s1 ok1 => q .non Hs' H' s1 (fun b o e => ok1.keep b o e (fun _ h => (List.not_mem_nil h).elim)) ok1.same ok1.grow .non
    · cases e
  · cases e
theorem okA {x qual : Str} {st : Stmt} {f : Addr} {fd : FuncData} {N ps : List Str} {k : Nat} {s : SM} {A : Around} (F : Fun K x qual st f fd) (S : FnScope N ps (defScope st)) (hA : Room (k + 1) A)
    (body : ∀ (cdv : Value) (out : List Env) (s0 : Shared) (H : Hp) (E : XK), Room k (A.deeper (envOfC qual (defScope st) s0.heap.objs.size f cdv)) → ZSs (cxOf CX0 P w K mg base N qual (defScope st) f cdv A out s0 H E).nox (defBody st) s) :
    FnA P w K mg base A f fd ps (spP K (runP N.length ps.length s)) := by
  obtain ⟨oc, od, kV, doc, pm, an, cdv, ct, osl, rfl, atf, hcode⟩ := F.ex
  have hpN : ps.length ≤ N.length := by
    have := congrArg List.length S.pre
    rw [List.length_take] at this
    omega
  constructor
  intro out s0 H ar us vs Q E e0 hbd rel hs
  obtain ⟨reads, lv⟩ := runP_reads hpN hs
  have inK : K.In s0.heap := e0.mod.kin.keeps fun c u z => (e0.bs c u z).1
  have noL : s0.heap.NoLimit := e0.mod.nolimit.keeps fun c u z => (e0.bs c u z).1
  have kinds : ∀ y ∈ ps.zip us, (defScope st).names.lookup y.1 = some .local ∨ ((defScope st).names.lookup y.1 = some .cell ∧ ((cellsFrom (s0.heap.objs.size + 1) (defScope st).names []).lookup y.1).isSome = true) := by
    rintro ⟨n, u⟩ hy
    exact (S.par n (List.of_mem_zip hy).1).imp id fun c => ⟨c, PySem.W.cellsFrom_some _ _ _ (.inl c)⟩
  apply codeAny_call_function hA.depth (inK _ _ atf) rfl S.co S.gen rfl (PySem.W.codeRec_of inK hcode)
  apply hbd
  apply wpAny_newFunctionEnv_cells S.kind kinds
  rintro env rfl s1 new
  refine ⟨noL.keeps new.toInCall.keep, ?_⟩
  apply codeAny_func
  have I0 : Inv (cxOf CX0 P w K mg base N qual (defScope st) f cdv A out s0 H E) [] (L2.start N vs) H s1 := inv_start S hA.hd e0 lv rel new
  have B := (body cdv out s0 H E (hA.deeper _)).nox
  apply wpAny_mono (B.run [] s1 (L2.start N vs) H _ I0 reads)
  · intro fl s2 hfl
    cases fl with
    | ret u =>
      obtain ⟨v, σ2, H2, J, rv, q⟩ := hfl
      exact ⟨v, H2, J.os, J.bare, J.base, J.hok, rv, q⟩
    | next =>
      obtain ⟨σ2, H2, J, q⟩ := hfl
      exact ⟨V.non, H2, J.os, J.bare, J.base, J.hok, rfl, q⟩
    | brk => obtain ⟨_, _, _, q⟩ := hfl; cases q
    | cont => obtain ⟨_, _, _, q⟩ := hfl; cases q
  · exact fun e s2 z => z
end
theorem law_callA {P : Program} {w : World} {K : PySem.W.Frag} {mg mb : Str → Option Value} {fa a : Addr} {fd : FuncData} {x : Str} {f : List D → Option FR} {s1 : Shared} {vs : List Value} {ns : List Int}
    (kin : K.In s1.heap) (gns : s1.heap.Ns mainGlobals mg) (bns : s1.heap.Ns builtinsNs mb) (bbo : ∀ y : Str, y ≠ "__name__" → mb y = bootBuiltins y) (nol : s1.heap.NoLimit) (gens : s1.gens = #[])
    (obj : s1.heap.get? a = some { cls := .type "list", data := .seq vs.toArray }) (hint : IntsAre vs ns) (small : ns.length ≤ sizeLine)
    (nod : s1.heap.NoDigits) (F : ∀ base : Heap, K.In base → base.Ns mainGlobals mg → base.NoDigits → FnA P w K mg base callerA fa fd [x] (spP K f)) (bnd : ∀ (s : Shared) (u : Value), BindsTo s fd ⟨[u], []⟩ [(x, u)])
    (good : f [scriptD ns] = some (.dat (.bl true))) :
    codeAny (model P w) callerA (.call (.ref fa) ⟨[.ref a], []⟩) (fun r s2 => r = .ok (.ret (.bool true)) ∧ OldK s1.heap s2.heap ∧ s2.os = s1.os ∧ AllBare s2.gens) s1 := by
  have relV := vals_ints hint
  -- the heap that is known: nothing, or the script
  obtain ⟨H, only, seq, hok, atA, notK⟩ : ∃ H : Hp, Only H ∧ SqL K H a (ns.map V.int) ∧ HOk P w H s1.heap ∧ (∀ b, H b ≠ none → b = a) ∧ (H a ≠ none → K.lookup a = none) := by
    cases look : K.lookup a with
    | some o =>
      have same := kin a o look
      rw [obj] at same
      cases same
      exact ⟨fun _ => none, fun _ => .inl rfl, .inr ⟨_, vs.toArray, _, look, rfl, rfl, rfl, by rw [List.size_toArray, hint.length]; exact small, by simpa using relV⟩, fun b u z => by simp at z, fun b z => absurd rfl z, fun z => absurd rfl z⟩
    | none =>
      refine ⟨upd (fun _ => none) a (.frz { cls := .type "list", data := .seq vs.toArray } (.lst (ns.map V.int))), fun b => ?_, .inl (.inr ⟨_, upd_same⟩), fun b u z => ?_, fun b z => ?_, fun _ => rfl⟩
      · by_cases e : b = a
        · subst e; exact .inr ⟨_, _, upd_same⟩
        · exact .inl (upd_ne e)
      · by_cases e : b = a
        · subst e
          rw [upd_same] at z
          cases z
          exact ⟨obj, by rw [List.length_map]; exact small, vs, _, relV, obj⟩
        · rw [upd_ne e] at z; cases z
      · by_cases e : b = a
        · exact e
        · exact absurd (upd_ne e) z
  have stays : ∀ {b : Addr} {m : Str → Option Value}, s1.heap.Ns b m → (hidT s1.heap H).Ns b m := by
    rintro b m ⟨o, es, ep, e, d, r⟩
    refine ⟨o, es, ep, hidT_get e ?_, d, r⟩
    cases q : H b with
    | none => rfl
    | some u =>
      have := atA b (by simp [q])
      subst this
      rw [obj] at e
      cases e
      cases d
  have kin0 : K.In (hidT s1.heap H) := by
    intro b o e
    refine hidT_get (kin b o e) ?_
    cases q : H b with
    | none => rfl
    | some u =>
      have := atA b (by simp [q])
      subst this
      rw [notK (by simp [q])] at e
      cases e
  obtain ⟨ml, l1, l2⟩ := nol
  have env : Env0 P w K mg (hidT s1.heap H) callerA [] s1 H :=
    ⟨rfl, ⟨kin0, stays gns, ⟨mb, stays bns, bbo⟩, ⟨ml, stays l1, l2⟩⟩, fun b o e => of_hidT e, Nat.le_of_eq (hidT_size _ _), trivial, fun b hb => absurd (show b ∈ ([] : List Addr) from hb) List.not_mem_nil, hok, .of_eq gens⟩
  obtain ⟨md, d1, d2⟩ := nod
  have ran := (F _ kin0 (stays gns) ⟨md, stays d1, d2⟩).run [] s1 H ⟨[.ref a], []⟩ [.ref a] [.ref a] _ _ env (bnd s1 (.ref a)) (.cons rfl .nil) (law_sp seq good)
  apply codeAny_mono ran
  intro r s2 end2
  match r, end2 with
  | .ok (.ret u), end2 =>
    obtain ⟨v, H2, os, bare, un, hok2, rv, q⟩ := end2
    have ev : v = .bl true := q
    subst ev
    have eu : u = Value.bool true := rv
    subst eu
    refine ⟨rfl, OldK.of_keep ?_, os, bare⟩
    intro b o e
    rcases only b with z | ⟨ob, xs, z⟩
    · exact un.keep b o e z (fun y => absurd (show b ∈ ([] : List Addr) from y) List.not_mem_nil) List.not_mem_nil
    · obtain ⟨e1, _⟩ := hok b _ z
      obtain ⟨e2, _⟩ := hok2 b _ (un.frzs b ob _ z)
      rw [e] at e1
      cases e1
      exact e2
  | .ok .next, z => exact z.elim
  | .ok .brk, z => exact z.elim
  | .ok .cont, z => exact z.elim
  | .error e, z => exact z.elim
theorem walk_ofA {l : PySem.W.OpenLaw} {n : Nat} {q : Program} {loose : List Str} {XP : (Str → Option Value) → Heap → Prop} {YP : World → Heap → Prop} {d : DefRec} {K : Params → PySem.W.Frag} {f : List D → Option FR} {x : Str}
    (most : l.most = some n) (small : n ≤ sizeLine) (plain : d.params.defaults = []) (hY : ∀ (w : World) (h : Heap), YP w h → (K w.params).In h)
    (F : ∀ (w : World) (mg : Str → Option Value) (fa : Addr) (h : Heap), (K w.params).In h → h.Ns mainGlobals mg → mg d.name = some (.ref fa) →
      ∃ fd : FuncData, (∀ (s : Shared) (u : Value), BindsTo s fd ⟨[u], []⟩ [(x, u)]) ∧ ∀ base : Heap, (K w.params).In base → base.Ns mainGlobals mg → base.NoDigits → FnA l.prog w (K w.params) mg base callerA fa fd [x] (spP (K w.params) f))
    (good : ∀ ns : List Int, ns.length ≤ n → f [scriptD ns] = some (.dat (.bl true))) :
    PySem.W.WalkO q loose XP YP l.row.toRowW d [] (fun f vs => PySem.call f vs) := by
  apply Att.attach_call most plain
  intro w s0 s1 mg mb fa o pm cd doc a vs ns Gr Y ho hd hcd hmg hobj hints hlen hg
  obtain ⟨fd, hb, hF⟩ := F w mg fa _ (hY w _ Y) Gr.T.g hmg
  exact law_callA (hY w _ Y) Gr.T.g Gr.T.b Gr.T.builtins Gr.T.nolimit hg hobj hints (Nat.le_trans hlen small) Gr.T.nodigits hF hb (good ns hlen)
def isRef : D → Bool
  | .lst _ => true
  | .tup _ => true
  | _ => false
def shownD (d : D) : List Nat := d.py.shown.cps.toList
def reprOk (d : D) : Bool := isRef d && d.py.canLay0 && d.py.showable && decide (d.py.depth ≤ 64) && decide (d.py.shown.length ≤ sizeLine)
def reprD : List D → Option D
  | [d] => if reprOk d = true then some (.str (shownD d)) else none
  | _ => none
mutual
theorem D.noDict : ∀ d : D, d.py.canLay0 = true → d.py.hasDict = false
  | .non, _ => rfl
  | .bl _, _ => rfl
  | .int _, _ => rfl
  | .str _, _ => rfl
  | .raw _, h => by cases h
  | .dic _ _, h => by cases h
  | .obj _ _ _, h => by cases h
  | .tup l, h => D.noDictA l h
  | .lst l, h => D.noDictA l h
theorem D.noDictA : ∀ l : List D, PyData.canLayAll0 (D.pyA l) = true → PyData.hasDictAll (D.pyA l) = false
  | [], _ => rfl
  | d :: l, h => by
    have h : (PyData.canLay0 d.py && PyData.canLayAll0 (D.pyA l)) = true := h
    rw [Bool.and_eq_true] at h
    show (PyData.hasDict d.py || PyData.hasDictAll (D.pyA l)) = false
    rw [D.noDict d h.1, D.noDictA l h.2]
    rfl
end
def rRepr (K : PySem.W.Frag) : List V → Hp → VK → Prop := fun xs H Q => ∃ (a : Addr) (d : PyData), xs = [.ref a] ∧ Dp K H (.ref a) d ∧ d.showable = true ∧ d.hasDict = false ∧ d.depth ≤ 64 ∧ d.shown.length ≤ sizeLine ∧ Q (.str d.shown) H
theorem call_reprD {X : Cx} (free : X.A.guards = some []) (room : X.A.units + 100 < cLine) : CallR X (.builtin "repr") (rRepr X.K) := by
  intro pins s σ H xs us Q I r h
  obtain ⟨a, d, rfl, dp, sh, nd, dep, siz, q⟩ := h
  obtain ⟨u, rfl, ru⟩ := vals1 r
  obtain ⟨as, rd⟩ := Dp.reads I d _ u dp ru
  have eu : u = .ref a := ru
  subst eu
  exact repr_of_reads' rd sh (PyData.noDict_hsm nd) free (by omega) (fun _ _ e => e) (fun h' u tk hk => ⟨.str _, H, I.kept hk, ⟨_, rfl⟩, q⟩) siz
theorem call_reprR {X : Cx} {k : Nat} (free : X.A.guards = some []) (room : Room k X.A) : CallR X (.builtin "repr") (rRepr X.K) := call_reprD free (by have := room.un; omega)
theorem s_repr {K : PySem.W.Frag} : CallS K (rRepr K) reprD := by
  intro H vs ds z Q hz e q
  unfold reprD at e
  split at e
  · rename_i d
    split at e
    · rename_i ok
      cases e
      unfold reprOk at ok
      simp only [Bool.and_eq_true, decide_eq_true_eq] at ok
      obtain ⟨⟨⟨⟨o1, o2⟩, o3⟩, o4⟩, o5⟩ := ok
      cases hz with
      | cons h t =>
        cases t
        have dp := h.dp o2
        have ref : ∃ a, ‹V› = V.ref a := by
          cases h with
          | lst _ _ => exact ⟨_, rfl⟩
          | tup _ _ => exact ⟨_, rfl⟩
          | _ => cases o1
        obtain ⟨a, rfl⟩ := ref
        refine ⟨a, d.py, rfl, dp, o3, D.noDict d o2, o4, o5, ?_⟩
        have : (D.str (shownD d)).v = V.str d.py.shown := by
          show V.str ⟨d.py.shown.cps.toList.toArray⟩ = _
          rw [Array.toArray_toList]
        rw [← this]
        exact q
    · cases e
  · cases e
end Z
set_option Elab.async false
set_option linter.all false
set_option maxRecDepth 100000
set_option maxHeartbeats 4000000
namespace Z
open PySem PySem.Spec PyProof.Rows L2
local macro_rules | `(tactic| walk_at "l") => `(tactic| first | (simp only [wipeG_nil, wipeG_cons, List.set_cons_succ, List.set_cons_zero, List.take_succ_cons, List.take_zero, List.take_nil, List.cons_append, List.nil_append, List.length_cons, List.length_nil, List.set_nil, List.getElem?_cons_zero, List.getElem?_cons_succ, Nat.zero_add, Nat.reduceAdd]; first | done | exact rfl) | exact rfl)
local macro_rules | `(tactic| walk_at "d") => `(tactic| first
  | with_reducible assumption
  | (with_reducible apply dr_div) <;> decide
  | (with_reducible apply dr_mod) <;> decide
  | (with_reducible apply dr_mulr); decide
  | (with_reducible apply dr_mull); decide
  | (with_reducible apply dr_divB) <;> omega
  | (with_reducible apply dr_mulrB) <;> omega
  | (with_reducible apply dr_mullB) <;> omega
  | (with_reducible apply dr_mulC) <;> omega
  | (with_reducible apply dr_mod) <;> omega
  | (with_reducible refine isi_of ?_ ?_); (exact rfl); (first | exact kb_int_int | exact kb_int_bool | exact kb_bool_bool | exact kb_bool_int | exact kb_str_int | exact kb_str_bool | exact kb_str_str | exact kb_int_str | exact kb_bool_str | exact kb_non_int | exact kb_non_bool | exact kb_non_str | exact kb_list_list | exact kb_tuple_tuple | exact kb_list_tuple | exact kb_tuple_list)
  | with_reducible exact dr_abs
  | (with_reducible exact dr_neL _ _)
  | (simp only [Cn.d]; with_reducible assumption)
  | (simp only [Cn.d]; with_reducible exact dr_neL _ _)
  | with_reducible exact in_ints _ _
  | (simp only [Cn.d]; with_reducible exact in_ints _ _)
  | ((with_reducible apply dr_cat); (try simp only [List.length_append, List.length_cons, List.length_nil]); omega)
  | with_reducible exact dr_eqI
  | with_reducible exact dr_eqB
  | with_reducible exact dr_neB
  | with_reducible exact dr_eqS
  | with_reducible exact dr_neI
  | with_reducible exact dr_neS
  | exact rfl)
local macro_rules | `(tactic| walk_at "c") => `(tactic| first | with_reducible assumption | (simp only [Cn.d]; with_reducible assumption))
local macro_rules | `(tactic| walk_at "e") => `(tactic| first
  | with_reducible exact er_C
  | with_reducible exact er_nil
  | (with_reducible apply er_varD); exact rfl
  | (with_reducible apply er_varO); exact rfl
  | (with_reducible apply er_varF); exact rfl
  | (with_reducible apply er_op); walk_at "e"; walk_at "e"; exact rfl; exact rfl; walk_at "d"; exact rfl
  | (with_reducible apply er_chain); walk_at "e"; walk_at "e"; exact rfl; exact rfl; walk_at "d"; (intro _h; walk_at "e"); exact rfl; walk_at "d"
  | (with_reducible apply er_slS); walk_at "e"; walk_at "o"; walk_at "o"; exact rfl; walk_at "z"
  | (with_reducible apply er_slL); walk_at "e"; walk_at "o"; walk_at "o"; exact rfl
  | (with_reducible apply er_list); walk_at "e"; exact rfl; exact rfl
  | (with_reducible apply er_tupL); walk_at "e"; exact rfl
  | (with_reducible apply er_un); walk_at "e"; exact rfl; exact rfl; exact rfl
  | (with_reducible apply er_tst); walk_at "e"
  | (with_reducible apply er_tru); walk_at "e"; exact rfl; exact rfl
  | (with_reducible apply er_andT); walk_at "e"; (intro _h; walk_at "e")
  | (with_reducible apply er_orT); walk_at "e"; (intro _h; walk_at "e")
  | (with_reducible apply er_andTT); walk_at "e"; exact rfl; walk_at "e"
  | (with_reducible apply er_orTF); walk_at "e"; exact rfl; walk_at "e"
  | (with_reducible apply er_notT); walk_at "e"
  | (with_reducible apply er_andV); walk_at "e"; (intro _h; walk_at "e")
  | (with_reducible apply er_orV); walk_at "e"; (intro _h; walk_at "e")
  | (with_reducible apply er_notV); walk_at "e"
  | (with_reducible apply er_andVT); walk_at "e"; exact rfl; walk_at "e"
  | (with_reducible apply er_orVF); walk_at "e"; exact rfl; walk_at "e"
  | (with_reducible apply er_ix); walk_at "e"; walk_at "e"; exact rfl; walk_at "x"
  | (with_reducible apply er_callS); walk_at "e"; exact rfl; walk_at "d"; exact rfl
  | (with_reducible apply er_cons); walk_at "e"; walk_at "e"
  | (with_reducible apply er_callG); walk_at "e"; exact rfl; exact rfl; walk_at "c"; exact rfl
  | (with_reducible apply er_callH); walk_at "e"; exact rfl; exact rfl; walk_at "c"; exact rfl
  | (with_reducible apply er_callV); walk_at "e"; exact rfl; walk_at "c"; exact rfl
  | (with_reducible apply er_callGF); walk_at "e"; exact rfl; exact rfl; walk_at "c"; exact rfl
  | (with_reducible apply er_callHF); walk_at "e"; exact rfl; exact rfl; walk_at "c"; exact rfl
  | (with_reducible apply er_callM); walk_at "e"; exact rfl; exact rfl; exact rfl; exact rfl; exact rfl; walk_at "c"; exact rfl
  | (with_reducible apply er_catL); walk_at "e"; walk_at "e"; exact rfl; exact rfl; walk_at "z"
  | (with_reducible apply er_mt); walk_at "e"; exact rfl; exact rfl; walk_at "e"; exact rfl; exact rfl; walk_at "m"; exact rfl
  | (with_reducible apply er_tup); walk_at "e"; exact rfl; walk_at "z" 
  | (with_reducible apply er_lst); walk_at "e"; exact rfl; walk_at "z")
local macro_rules | `(tactic| walk_at "o") => `(tactic| first | exact er_zoN | ((with_reducible apply er_zoS); walk_at "e"))
local macro_rules | `(tactic| walk_at "x") => `(tactic| first | with_reducible assumption | (simp only [Cn.d]; with_reducible assumption) | exact rfl)
local macro_rules | `(tactic| walk_at "m") => `(tactic| first | with_reducible assumption | (simp only [Cn.d]; with_reducible assumption) | exact rfl)
local macro_rules | `(tactic| walk_at "st") => `(tactic| first
  | ((with_reducible apply set_dat); (walk_at "e"); (exact rfl); walk_at "l")
  | ((with_reducible apply set_own); (walk_at "e"); (exact Nat.le_of_ble_eq_true rfl); (exact rfl); (exact rfl); walk_at "l")
  | ((with_reducible apply asg_run); (walk_at "e"); (exact rfl); walk_at "l")
  | ((with_reducible apply aug_run); (exact rfl); (exact rfl); (walk_at "e"); (exact rfl); (walk_at "d"); (exact rfl); (exact rfl); walk_at "l")
  | ((with_reducible apply sto_run); (walk_at "e"); (walk_at "e"); (walk_at "e"); (exact rfl); (walk_at "x"); walk_at "l")
  | ((with_reducible apply app_run); (walk_at "e"); (exact rfl); (walk_at "e"); (exact rfl); (exact rfl); (walk_at "z"); walk_at "l"))
local macro_rules | `(tactic| walk_at "z") => `(tactic| first | assumption | exact Nat.le_of_ble_eq_true rfl | (simp; omega))
local macro_rules | `(tactic| walk_at "s") => `(tactic| first
  | with_reducible apply sr_nx
  | with_reducible apply sr_assoc
  | with_reducible apply ap_fg
  | ((with_reducible apply fgK_nx); (exact rfl); (walk_at "l"); skip)
  | ((with_reducible apply fgK_ct); (exact rfl); (walk_at "l"); skip)
  | ((with_reducible apply fgK_bk); (exact rfl); (walk_at "l"); skip)
  | with_reducible apply fgK_ret
  | with_reducible apply sr_bk1
  | with_reducible apply sr_ct1
  | with_reducible apply sr_nx1
  | with_reducible apply sr_ct
  | with_reducible apply sr_bk
  | (with_reducible apply sr_retS); (walk_at "e"); skip
  | (with_reducible apply sr_ret); (walk_at "e"); skip
  | (with_reducible apply sr_if); (walk_at "e"); (walk_at "l")
  | (with_reducible apply sr_if1); (walk_at "e"); (walk_at "l")
  | (with_reducible apply seq_nx); (walk_at "st")
  | (with_reducible apply one_nx); (walk_at "st"))
local macro_rules | `(tactic| walk_at "r") => `(tactic| repeat' (first | (intro _) | walk_at "s"))
local macro_rules | `(tactic| walk_at "k") => `(tactic| (intro q; (try simp only [decide_eq_true_eq, decide_eq_false_iff_not, beq_iff_eq, beq_eq_false_iff_ne, ne_eq, Bool.not_eq_true', Bool.not_eq_false', Bool.and_eq_true, Bool.or_eq_true, Bool.and_eq_false_iff, Bool.or_eq_false_iff, Int.not_lt, Int.not_le, List.cons.injEq, and_true, reduceCtorEq, beq_self_eq_true, Bool.not_true, Bool.not_false, Bool.or_false, Bool.false_or, Bool.or_true, Bool.true_or, Bool.and_false, Bool.false_and, Bool.and_true, Bool.true_and, not_true_eq_false, Bool.false_eq_true] at q) <;> (try (exfalso; first | (cases q; done) | omega | contradiction))))
local macro_rules | `(tactic| walk_at "w") => `(tactic| repeat' (first | (walk_at "k") | walk_at "s"))
mutual
def D.rok : D → Bool
  | .non => true
  | .bl _ => true
  | .int i => decide (i.natAbs < 10 ^ 60)
  | .str s => s.all fun c => decide (c < 1114112)
  | .raw _ => false
  | .dic _ _ => false
  | .obj _ _ _ => false
  | .tup l => D.rokA l
  | .lst l => D.rokA l
def D.rokA : List D → Bool
  | [] => true
  | d :: l => d.rok && D.rokA l
end
mutual
def D.wt : D → Nat
  | .str s => s.length
  | .int _ => 200
  | .tup l => D.wtA l
  | .lst l => D.wtA l
  | _ => 0
def D.wtA : List D → Nat
  | [] => 0
  | d :: l => d.wt + 1 + D.wtA l
end
mutual
def D.dp : D → Nat
  | .tup l => D.dpA l + 1
  | .lst l => D.dpA l + 1
  | _ => 0
def D.dpA : List D → Nat
  | [] => 0
  | d :: l => max d.dp (D.dpA l)
end
theorem big60 {i : Int} (h : i.natAbs < 10 ^ 60) : i.natAbs.log2 < 200 := by
  by_cases z : i.natAbs = 0
  · rw [z]; decide
  · rw [Nat.log2_lt z]
    exact Nat.lt_trans h (by decide)
mutual
theorem rok_lay : ∀ d : D, d.rok = true → d.py.canLay0 = true ∧ d.py.showable = true ∧ d.py.intsShort 61 = true ∧ d.py.depth = d.dp ∧ d.py.weight ≤ d.wt
  | .non, _ => ⟨rfl, rfl, rfl, rfl, Nat.le_refl _⟩
  | .bl _, _ => ⟨rfl, rfl, rfl, rfl, Nat.le_refl _⟩
  | .int i, h => by
    have h : i.natAbs < 10 ^ 60 := of_decide_eq_true h
    have l := big60 h
    refine ⟨rfl, decide_eq_true (by omega), decide_eq_true ?_, rfl, ?_⟩
    · have e := int_text_length_le10 (k := 60) (by decide) h
      show (Str.ofString (toString i)).length ≤ 61
      rw [PySem.ofString_length]
      exact e
    · show (if (i == 0) = true then 0 else i.natAbs.log2 + 1) ≤ 200
      split <;> omega
  | .str s, h => by
    have h : (s.all fun c => decide (c < 1114112)) = true := h
    refine ⟨?_, rfl, rfl, rfl, ?_⟩
    · show PyData.strOk ⟨s.toArray⟩ = true
      simpa [PyData.strOk] using h
    · show s.toArray.size ≤ s.length
      simp
  | .raw _, h => by cases h
  | .dic _ _, h => by cases h
  | .obj _ _ _, h => by cases h
  | .tup l, h => by
    obtain ⟨a, b, c, d, e⟩ := rok_layA l h
    exact ⟨a, b, c, by show PyData.depthAll _ + 1 = D.dpA l + 1; rw [d], e⟩
  | .lst l, h => by
    obtain ⟨a, b, c, d, e⟩ := rok_layA l h
    exact ⟨a, b, c, by show PyData.depthAll _ + 1 = D.dpA l + 1; rw [d], e⟩
theorem rok_layA : ∀ l : List D, D.rokA l = true → PyData.canLayAll0 (D.pyA l) = true ∧ PyData.showableAll (D.pyA l) = true ∧ PyData.intsShortAll 61 (D.pyA l) = true ∧ PyData.depthAll (D.pyA l) = D.dpA l ∧ PyData.weightAll (D.pyA l) ≤ D.wtA l
  | [], _ => ⟨rfl, rfl, rfl, rfl, Nat.le_refl _⟩
  | d :: l, h => by
    have h : (d.rok && D.rokA l) = true := h
    rw [Bool.and_eq_true] at h
    obtain ⟨a1, b1, c1, d1, e1⟩ := rok_lay d h.1
    obtain ⟨a2, b2, c2, d2, e2⟩ := rok_layA l h.2
    refine ⟨?_, ?_, ?_, ?_, ?_⟩
    · show (PyData.canLay0 d.py && PyData.canLayAll0 (D.pyA l)) = true
      rw [a1, a2]; rfl
    · show (PyData.showable d.py && PyData.showableAll (D.pyA l)) = true
      rw [b1, b2]; rfl
    · show (PyData.intsShort 61 d.py && PyData.intsShortAll 61 (D.pyA l)) = true
      rw [c1, c2]; rfl
    · show max (PyData.depth d.py) (PyData.depthAll (D.pyA l)) = max d.dp (D.dpA l)
      rw [d1, d2]
    · show PyData.weight d.py + 1 + PyData.weightAll (D.pyA l) ≤ d.wt + 1 + D.wtA l
      omega
end
theorem rok_shp {d : D} (h : d.rok = true) (h2 : d.dp ≤ 60) : d.shp = true := by
  obtain ⟨a, _, _, e, _⟩ := rok_lay d h
  show (d.py.canLay0 && decide (d.py.depth ≤ 64)) = true
  rw [a, e, decide_eq_true (by omega)]
  rfl
theorem rok_repr {d : D} (r : isRef d = true) (h : d.rok = true) (h2 : d.dp ≤ 60) (h3 : d.wt ≤ 100000) : reprOk d = true := by
  obtain ⟨a, b, c, e, w⟩ := rok_lay d h
  have s := PyData.shown_le 61 (by decide) d.py (PyData.leavesShort_of_canLay0 61 d.py a c)
  have m : (61 + 2) * d.py.weight ≤ (61 + 2) * 100000 := Nat.mul_le_mul_left _ (by omega)
  have z : (7000000 : Nat) ≤ sizeLine := by decide
  unfold reprOk
  rw [r, a, b, decide_eq_true (show d.py.depth ≤ 64 by omega), decide_eq_true (show d.py.shown.length ≤ sizeLine by omega)]
  rfl
theorem dr_repr {d : D} (h : reprOk d = true) : reprD [d] = some (.str (shownD d)) := by
  unfold reprD
  simp only [h, if_true]
/-- equal shapes compare -/
theorem dr_eqR {d e : D} (h : d.rok = true) (h2 : d.dp ≤ 60) (k : e.rok = true) (k2 : e.dp ≤ 60) : eqD d e = some (.bl (D.eqv d e)) := by
  unfold eqD eqOk
  rw [rok_shp h h2, rok_shp k k2]
  simp
theorem dr_neR {d e : D} (h : d.rok = true) (h2 : d.dp ≤ 60) (k : e.rok = true) (k2 : e.dp ≤ 60) : neqD d e = some (.bl (!D.eqv d e)) := by
  unfold neqD neOk
  rw [rok_shp h h2, rok_shp k k2]
  simp
/-- a sign from the blank to the tilde, but not the percent sign -/
def sg (c : Nat) : Prop := 32 ≤ c ∧ c ≤ 126 ∧ c ≠ 37
instance (c : Nat) : Decidable (sg c) := by unfold sg; exact inferInstance
end Z
set_option Elab.async false
set_option linter.all false
set_option maxRecDepth 100000
set_option maxHeartbeats 4000000
namespace Z
open PySem PySem.Spec PyProof.Rows L2
end Z
set_option Elab.async false
set_option linter.all false
set_option maxRecDepth 100000
set_option maxHeartbeats 4000000
namespace Z
open PySem PySem.Spec PyProof.Rows L2
section
open PySem.SeqAt PySem.MeetsSeq PySem.MeetsSeq2 PySem.MeetsSeq3 Ob
open PySem.AutoSeq1 (wpAny_loadPart')
theorem tup_meet (p q : Addr) (us ws : Array Value) (n m : Nat) (c1 c2 : Option Addr) (t1 t2 : Array (Option Value)) (e r : Nat → Bool) :
    Meets (Builtin.«tuple.__lt__» ⟨[.ref p, .ref q], []⟩)
      (fun A R s => s.heap.get? p = some { cls := .type "tuple", dict := c1, data := .seq us n, slots := t1 } ∧ s.heap.get? q = some { cls := .type "tuple", dict := c2, data := .seq ws m, slots := t2 } ∧
        (∀ j (h1 : j < us.size) (h2 : j < ws.size), EqAt A.in1 s us[j] ws[j] (e j)) ∧
        (∀ j (h1 : j < us.size) (h2 : j < ws.size), (∀ i, i < j → e i = true) → e j = false → RcOp .Lt A.in1 s us[j] ws[j] (r j)) ∧
        R (.ok (.ret (.bool (lexAt e r (decide (us.size < ws.size)) 0 (min us.size ws.size))))) s) := by
  refine .of_wp fun prog w A R s hyp => ?_
  obtain ⟨hp, gg, dd, tk, os⟩ := s
  obtain ⟨atp, atq, eqs, lts, goal⟩ := hyp
  have subs := AutoSeq1.sub_tuple_tuple
  have zl : (us.toList.zip ws.toList).length = min us.size ws.size := by simp
  wp_walk using wpAny_loadPart' atp, wpAny_loadPart' atq, wpAny_forIn_list _ (fun left acc st => acc.1 = none ∧ st = ⟨hp, gg, dd, tk, os⟩ ∧ ∃ k, left = (us.toList.zip ws.toList).drop k ∧ (∀ i, i < k → e i = true) ∧
    R (.ok (.ret (.bool (lexAt e r (decide (us.size < ws.size)) k (min us.size ws.size - k))))) ⟨hp, gg, dd, tk, os⟩) _
  case turn =>
    rintro ⟨u1, w1⟩ left acc st ⟨_, rfl, k, hz, before, hR⟩
    have hk : k < (us.toList.zip ws.toList).length := by
      by_cases c : k < (us.toList.zip ws.toList).length
      · exact c
      · rw [List.drop_of_length_le (by omega)] at hz
        cases hz
    have hm : k < min us.size ws.size := zl ▸ hk
    have k1 : k < us.size := by omega
    have k2 : k < ws.size := by omega
    rw [List.drop_eq_getElem_cons hk] at hz
    injection hz with pair others
    have eu : u1 = us[k] := by simpa using congrArg Prod.fst pair
    have ew : w1 = ws[k] := by simpa using congrArg Prod.snd pair
    subst eu ew
    rw [show min us.size ws.size - k = (min us.size ws.size - (k + 1)) + 1 by omega, lexAt_succ] at hR
    refine wpAny_bind (eqs k k1 k2 prog w _ _ ?_)
    cases hek : e k with
    | true =>
      rw [hek, if_pos rfl] at hR
      wp_walk
      refine ⟨rfl, rfl, k + 1, others, fun i hi => ?_, hR⟩
      by_cases c : i = k
      · rw [c]; exact hek
      · exact before i (by omega)
    | false =>
      rw [hek, if_neg Bool.false_ne_true] at hR
      have now := lts k k1 k2 before hek prog w
      wp_walk using now
      exact ⟨_, rfl, by simpa using hR⟩
  case fin =>
    rintro ⟨a1, a2⟩ st ⟨ha, rfl, k, hz, _, hR⟩
    simp only at ha
    subst ha
    have over : min us.size ws.size ≤ k := by
      by_cases c : k < (us.toList.zip ws.toList).length
      · rw [List.drop_eq_getElem_cons c] at hz
        cases hz
      · omega
    rw [Nat.sub_eq_zero_of_le over, lexAt_zero] at hR
    wp_walk
    exact ⟨_, rfl, by simpa [Builtin.Tuple.tupleCompareSizes] using hR⟩
  case h =>
    exact ⟨rfl, rfl, 0, rfl, fun i hi => absurd hi (Nat.not_lt_zero i), by simpa using goal⟩
theorem tup_lt {A : Around} {s : Shared} {p q : Addr} {us ws : Array Value} {e r : Nat → Bool} (atp : s.heap.IsTuple p us) (atq : s.heap.IsTuple q ws) (room : A.units < cLine)
    (eqs : ∀ j (h1 : j < us.size) (h2 : j < ws.size), EqAt A.in1 s us[j] ws[j] (e j))
    (lts : ∀ j (h1 : j < us.size) (h2 : j < ws.size), (∀ i, i < j → e i = true) → e j = false → RcOp .Lt A.in1 s us[j] ws[j] (r j)) :
    RcOp .Lt A s (.ref p) (.ref q) (lexAt e r (decide (us.size < ws.size)) 0 (min us.size ws.size)) := by
  intro prog w E Q h
  obtain ⟨⟨k1, c1, d1, t1⟩, o1, rfl, n, rfl⟩ := id atp
  obtain ⟨⟨k2, c2, d2, t2⟩, o2, rfl, m, rfl⟩ := id atq
  exact richCompare_meets_room (op := .Lt) ⟨_, o1, rfl⟩ ⟨_, o2, rfl⟩ F.slot_tuple_lt F.entry_tuple_lt (F.args_tuple_lt_2 _ _) (tup_meet p q us ws n m c1 c2 t1 t2 e r) ⟨o1, o2, eqs, lts, ⟨nofun, h⟩⟩ room
mutual
def ltP : PyData → PyData → Option Bool
  | .int a, .int b => some (decide (a < b))
  | .str x, .str y => some (decide (x.cps.toList < y.cps.toList))
  | .tuple xs, .tuple ys => ltPs xs ys
  | _, _ => none
def ltPs : List PyData → List PyData → Option Bool
  | [], [] => some false
  | [], _ :: _ => some true
  | _ :: _, [] => some false
  | x :: xs, y :: ys => if PyData.eqv x y = true then ltPs xs ys else ltP x y
end
theorem reads_get {h : Heap} : ∀ {vs : List Value} {ds : List PyData} {as : List Addr}, ReadsAll h vs ds as → ∀ {j : Nat} (h1 : j < vs.length) (h2 : j < ds.length), ∃ bs, Reads h vs[j] ds[j] bs
  | _, _, _, .nil, j, h1, _ => absurd h1 (Nat.not_lt_zero j)
  | _, _, _, .cons r _, 0, _, _ => ⟨_, r⟩
  | _, _, _, .cons _ t, j + 1, h1, h2 => reads_get t (Nat.lt_of_succ_lt_succ h1) (Nat.lt_of_succ_lt_succ h2)
theorem reads_len {h : Heap} : ∀ {vs : List Value} {ds : List PyData} {as : List Addr}, ReadsAll h vs ds as → vs.length = ds.length
  | _, _, _, .nil => rfl
  | _, _, _, .cons _ t => congrArg Nat.succ (reads_len t)
theorem first_ne {b : Bool} : ∀ {xs ys : List PyData} {j : Nat} (h1 : j < xs.length) (h2 : j < ys.length), ltPs xs ys = some b → (∀ i (i1 : i < xs.length) (i2 : i < ys.length), i < j → PyData.eqv xs[i] ys[i] = true) → PyData.eqv xs[j] ys[j] = false → ltP xs[j] ys[j] = some b
  | x :: xs, y :: ys, 0, _, _, h, _, ne => by
    have ne : PyData.eqv x y = false := ne
    simp only [ltPs, ne, Bool.false_eq_true, if_false] at h
    exact h
  | x :: xs, y :: ys, j + 1, h1, h2, h, eqs, ne => by
    have e0 : PyData.eqv x y = true := eqs 0 (by simp) (by simp) (by omega)
    simp only [ltPs, e0, if_true] at h
    exact first_ne (xs := xs) (ys := ys) (j := j) (Nat.lt_of_succ_lt_succ h1) (Nat.lt_of_succ_lt_succ h2) h (fun i i1 i2 hi => eqs (i + 1) (Nat.succ_lt_succ i1) (Nat.succ_lt_succ i2) (by omega)) ne
theorem all_eq : ∀ {xs ys : List PyData}, (∀ i (i1 : i < xs.length) (i2 : i < ys.length), PyData.eqv xs[i] ys[i] = true) → ltPs xs ys = some (decide (xs.length < ys.length))
  | [], [], _ => rfl
  | [], _ :: _, _ => by simp [ltPs]
  | _ :: _, [], _ => by simp [ltPs]
  | x :: xs, y :: ys, eqs => by
    have e0 : PyData.eqv x y = true := eqs 0 (by simp) (by simp)
    have ih := all_eq (xs := xs) (ys := ys) fun i i1 i2 => eqs (i + 1) (Nat.succ_lt_succ i1) (Nat.succ_lt_succ i2)
    simp only [ltPs, e0, if_true, ih]
    simp
theorem lexAt_const {e : Nat → Bool} {z b : Bool} : ∀ (k i : Nat), (z = b ∨ ∃ j, i ≤ j ∧ j < i + k ∧ e j = false) → lexAt e (fun _ => b) z i k = b
  | 0, i, h => by
    rcases h with h | ⟨j, h1, h2, _⟩
    · exact h
    · omega
  | k + 1, i, h => by
    rw [lexAt_succ]
    cases he : e i with
    | false => rfl
    | true =>
      rw [if_pos rfl]
      refine lexAt_const k (i + 1) (h.imp id fun ⟨j, h1, h2, h3⟩ => ⟨j, ?_, by omega, h3⟩)
      have : j ≠ i := fun z => by rw [z, he] at h3; cases h3
      omega
theorem depth_mem {x : PyData} : ∀ {xs : List PyData} {j : Nat} (h : j < xs.length), xs[j].depth ≤ PyData.depthAll xs
  | y :: ys, 0, _ => by show PyData.depth y ≤ max (PyData.depth y) (PyData.depthAll ys); omega
  | y :: ys, j + 1, h => by
    have := depth_mem (x := x) (xs := ys) (j := j) (Nat.lt_of_succ_lt_succ h)
    show (ys[j]'(Nat.lt_of_succ_lt_succ h)).depth ≤ max (PyData.depth y) (PyData.depthAll ys)
    omega
theorem lay_mem : ∀ {xs : List PyData} {j : Nat} (h : j < xs.length), PyData.canLayAll0 xs = true → xs[j].canLay0 = true
  | y :: ys, 0, _, hl => by
    have hl : (PyData.canLay0 y && PyData.canLayAll0 ys) = true := hl
    exact (Bool.and_eq_true_iff.mp hl).1
  | y :: ys, j + 1, h, hl => by
    have hl : (PyData.canLay0 y && PyData.canLayAll0 ys) = true := hl
    exact lay_mem (xs := ys) (Nat.lt_of_succ_lt_succ h) (Bool.and_eq_true_iff.mp hl).2
theorem rc_lt : ∀ (n : Nat) (d e : PyData) (b : Bool) (A : Around) (s : Shared) (u v : Value) (as bs : List Addr), d.depth ≤ n → ltP d e = some b → Reads s.heap u d as → Reads s.heap v e bs → d.canLay0 = true → e.canLay0 = true → A.units + n < cLine → RcOp .Lt A s u v b := by
  intro n
  induction n with
  | zero =>
    intro d e b A s u v as bs hn h ru rv ld le room
    cases ru with
    | int i t =>
      cases rv with
      | int j t' => cases h; exact .lt_int i j t t'
      | _ => cases h
    | str x t =>
      cases rv with
      | str y t' => cases h; exact fun prog w E Q q => PySem.P.lt_str q
      | _ => cases h
    | tuple _ _ _ _ =>
      have hn : PyData.depthAll _ + 1 ≤ 0 := hn
      omega
    | _ => cases rv <;> cases h
  | succ n ih =>
    intro d e b A s u v as bs hn h ru rv ld le room
    cases ru with
    | int i t =>
      cases rv with
      | int j t' => cases h; exact .lt_int i j t t'
      | _ => cases h
    | str x t =>
      cases rv with
      | str y t' => cases h; exact fun prog w E Q q => PySem.P.lt_str q
      | _ => cases h
    | tuple h1 h2 h3 h4 =>
      rename_i p o vs n1 xs
      cases rv with
      | tuple g1 g2 g3 g4 =>
        rename_i q o' ws n2 ys
        have h : ltPs xs ys = some b := h
        have hn : PyData.depthAll xs + 1 ≤ n + 1 := hn
        have ld : PyData.canLayAll0 xs = true := by simpa only [PyData.canLay0] using ld
        have le : PyData.canLayAll0 ys = true := by simpa only [PyData.canLay0] using le
        have lx : vs.size = xs.length := by rw [← reads_len h4, Array.length_toList]
        have ly : ws.size = ys.length := by rw [← reads_len g4, Array.length_toList]
        have tp : s.heap.IsTuple p vs := ⟨o, h1, h2, n1, h3⟩
        have tq : s.heap.IsTuple q ws := ⟨o', g1, g2, n2, g3⟩
        have key := tup_lt (A := A) (s := s) (e := fun j => PyData.eqv (xs[j]?.getD .none) (ys[j]?.getD .none)) (r := fun _ => b) tp tq (by omega) (fun j j1 j2 => by
          have a1 : j < xs.length := by omega
          have a2 : j < ys.length := by omega
          obtain ⟨r1, w1⟩ := reads_get h4 (j := j) (by rw [Array.length_toList]; exact j1) a1
          obtain ⟨r2, w2⟩ := reads_get g4 (j := j) (by rw [Array.length_toList]; exact j2) a2
          have dep := depth_mem (x := .none) a1
          simp only [List.getElem?_eq_getElem a1, List.getElem?_eq_getElem a2, Option.getD_some]
          rw [Array.getElem_toList] at w1 w2
          exact eqAt_reads _ _ _ _ _ _ _ _ w1 w2 (lay_mem a1 ld) (lay_mem a2 le) (by show A.units + 1 + _ < cLine; omega)) (fun j j1 j2 bef ne => by
          have a1 : j < xs.length := by omega
          have a2 : j < ys.length := by omega
          obtain ⟨r1, w1⟩ := reads_get h4 (j := j) (by rw [Array.length_toList]; exact j1) a1
          obtain ⟨r2, w2⟩ := reads_get g4 (j := j) (by rw [Array.length_toList]; exact j2) a2
          have dep := depth_mem (x := .none) a1
          rw [Array.getElem_toList] at w1 w2
          simp only [List.getElem?_eq_getElem a1, List.getElem?_eq_getElem a2, Option.getD_some] at ne
          have lt := first_ne a1 a2 h (fun i i1 i2 hi => by
            have := bef i hi
            simpa only [List.getElem?_eq_getElem i1, List.getElem?_eq_getElem i2, Option.getD_some] using this) ne
          exact ih _ _ b _ _ _ _ _ _ (by omega) lt w1 w2 (lay_mem a1 ld) (lay_mem a2 le) (by show A.units + 1 + n < cLine; omega))
        have val : lexAt (fun j => PyData.eqv (xs[j]?.getD .none) (ys[j]?.getD .none)) (fun _ => b) (decide (vs.size < ws.size)) 0 (min vs.size ws.size) = b := by
          apply lexAt_const
          by_cases c : ∀ i (i1 : i < xs.length) (i2 : i < ys.length), PyData.eqv xs[i] ys[i] = true
          · left
            rw [lx, ly]
            have := all_eq c
            rw [h] at this
            exact (Option.some.inj this).symm
          · right
            simp only [Classical.not_forall] at c
            obtain ⟨i, i1, i2, c⟩ := c
            exact ⟨i, Nat.zero_le _, by omega, by simp only [List.getElem?_eq_getElem i1, List.getElem?_eq_getElem i2, Option.getD_some]; exact Bool.eq_false_iff.mpr c⟩
        rw [val] at key
        exact key
      | _ => cases h
    | _ => cases rv <;> cases h
end
mutual
def ltT : D → D → Option Bool
  | .int a, .int b => some (decide (a < b))
  | .str x, .str y => some (decide (x < y))
  | .tup xs, .tup ys => ltTs xs ys
  | _, _ => none
def ltTs : List D → List D → Option Bool
  | [], [] => some false
  | [], _ :: _ => some true
  | _ :: _, [] => some false
  | x :: xs, y :: ys => if D.eqv x y = true then ltTs xs ys else ltT x y
end
mutual
theorem ltT_py : ∀ d e : D, ∀ b, ltT d e = some b → ltP d.py e.py = some b
  | .int a, .int b, _, h => h
  | .str x, .str y, _, h => h
  | .tup xs, .tup ys, b, h => ltTs_py xs ys b h
  | .int _, .non, _, h | .int _, .bl _, _, h | .int _, .str _, _, h | .int _, .tup _, _, h | .int _, .lst _, _, h | .int _, .raw _, _, h | .int _, .dic _ _, _, h | .int _, .obj _ _ _, _, h => by cases h
  | .str _, .non, _, h | .str _, .bl _, _, h | .str _, .int _, _, h | .str _, .tup _, _, h | .str _, .lst _, _, h | .str _, .raw _, _, h | .str _, .dic _ _, _, h | .str _, .obj _ _ _, _, h => by cases h
  | .tup _, .non, _, h | .tup _, .bl _, _, h | .tup _, .int _, _, h | .tup _, .str _, _, h | .tup _, .lst _, _, h | .tup _, .raw _, _, h | .tup _, .dic _ _, _, h | .tup _, .obj _ _ _, _, h => by cases h
  | .non, _, _, h | .bl _, _, _, h | .lst _, _, _, h | .raw _, _, _, h | .dic _ _, _, _, h | .obj _ _ _, _, _, h => by cases h
theorem ltTs_py : ∀ l m : List D, ∀ b, ltTs l m = some b → ltPs (D.pyA l) (D.pyA m) = some b
  | [], [], _, h => h
  | [], _ :: _, _, h => h
  | _ :: _, [], _, h => h
  | x :: xs, y :: ys, b, h => by
    show (if PyData.eqv x.py y.py = true then ltPs (D.pyA xs) (D.pyA ys) else ltP x.py y.py) = some b
    rw [D.py_eqv]
    simp only [ltTs] at h
    split at h
    · rename_i c; rw [if_pos c]; exact ltTs_py xs ys b h
    · rename_i c; rw [if_neg c]; exact ltT_py x y b h
end
def ltX (d e : D) : Option D := match d, e with
  | .int i, .int j => some (.bl (decide (i < j)))
  | .str i, .str j => some (.bl (decide (i < j)))
  | .tup l, .tup m => if ((D.tup l).shp && (D.tup m).shp) = true then (ltTs l m).map D.bl else none
  | _, _ => none
def rLtD (K : PySem.W.Frag) : R2 := fun x y H Q => ∃ d e b, Dp K H x d ∧ Dp K H y e ∧ SeqAt.shaped d = true ∧ SeqAt.shaped e = true ∧ ltP d e = some b ∧ Q (.bl b) H
theorem op_ltD {X : Cx} (room : X.A.units + 64 < cLine) : OpR X (compareOp .Lt) (rLtD X.K) := by
  intro pins s σ H x y v u Q I rx ry h
  obtain ⟨d, e, b, hd, he, sd, se, lt, q⟩ := h
  obtain ⟨as, r1⟩ := Dp.reads I d x v hd rx
  obtain ⟨bs, r2⟩ := Dp.reads I e y u he ry
  have key := rc_lt 64 d e b X.A s _ _ _ _ (SeqAt.depth_of_shaped sd) lt r1 r2 (SeqAt.canLay_of_shaped sd) (SeqAt.canLay_of_shaped se) room
  exact key X.prog X.w _ _ ⟨.bl _, H, I, rfl, q⟩
theorem o_ltX {X : Cx} {k : Nat} (hr : Room k X.A) : OpR X (compareOp .Lt) (fun x y H Q => rLtU x y H Q ∨ rLtD X.K x y H Q) := OpR.or o_lt (op_ltD hr.units)
theorem s_ltX {K : PySem.W.Frag} : OpS K (fun x y H Q => rLtU x y H Q ∨ rLtD K x y H Q) ltX := by
  intro H x y d e z Q hx hy h q
  unfold ltX at h
  split at h
  · rename_i i j
    exact .inl (s_lt H x y _ _ z Q hx hy (show ltD (.int i) (.int j) = some z from h) q)
  · rename_i i j
    exact .inl (s_lt H x y _ _ z Q hx hy (show ltD (.str i) (.str j) = some z from h) q)
  · rename_i l m
    split at h
    · rename_i c
      rw [Bool.and_eq_true] at c
      rw [Option.map_eq_some_iff] at h
      obtain ⟨b, hb, rfl⟩ := h
      exact .inr ⟨_, _, b, hx.dp (SeqAt.canLay_of_shaped c.1), hy.dp (SeqAt.canLay_of_shaped c.2), c.1, c.2, ltTs_py l m b hb, q⟩
    · cases h
  · cases h
end Z
set_option Elab.async false
set_option linter.all false
set_option maxRecDepth 100000
set_option maxHeartbeats 4000000
namespace Z
open PySem PySem.Spec PyProof.Rows L2
local macro_rules | `(tactic| walk_at "l") => `(tactic| first | (simp only [wipeG_nil, wipeG_cons, List.set_cons_succ, List.set_cons_zero, List.take_succ_cons, List.take_zero, List.take_nil, List.cons_append, List.nil_append, List.length_cons, List.length_nil, List.set_nil, List.getElem?_cons_zero, List.getElem?_cons_succ, Nat.zero_add, Nat.reduceAdd]; first | done | exact rfl) | exact rfl)
local macro_rules | `(tactic| walk_at "d") => `(tactic| first
  | with_reducible assumption
  | (with_reducible apply dr_div) <;> decide
  | (with_reducible apply dr_mod) <;> decide
  | (with_reducible apply dr_mulr); decide
  | (with_reducible apply dr_mull); decide
  | (with_reducible apply dr_divB) <;> omega
  | (with_reducible apply dr_mulrB) <;> omega
  | (with_reducible apply dr_mullB) <;> omega
  | (with_reducible apply dr_mulC) <;> omega
  | (with_reducible apply dr_mod) <;> omega
  | (with_reducible refine isi_of ?_ ?_); (exact rfl); (first | exact kb_int_int | exact kb_int_bool | exact kb_bool_bool | exact kb_bool_int | exact kb_str_int | exact kb_str_bool | exact kb_str_str | exact kb_int_str | exact kb_bool_str | exact kb_non_int | exact kb_non_bool | exact kb_non_str | exact kb_list_list | exact kb_tuple_tuple | exact kb_list_tuple | exact kb_tuple_list)
  | with_reducible exact dr_abs
  | (with_reducible exact dr_neL _ _)
  | (simp only [Cn.d]; with_reducible assumption)
  | (simp only [Cn.d]; with_reducible exact dr_neL _ _)
  | with_reducible exact in_ints _ _
  | (simp only [Cn.d]; with_reducible exact in_ints _ _)
  | ((with_reducible apply dr_cat); (try simp only [List.length_append, List.length_cons, List.length_nil]); omega)
  | with_reducible exact dr_eqI
  | with_reducible exact dr_eqB
  | with_reducible exact dr_neB
  | with_reducible exact dr_eqS
  | with_reducible exact dr_neI
  | with_reducible exact dr_neS
  | exact rfl)
local macro_rules | `(tactic| walk_at "c") => `(tactic| first | with_reducible assumption | (simp only [Cn.d]; with_reducible assumption))
local macro_rules | `(tactic| walk_at "e") => `(tactic| first
  | with_reducible exact er_C
  | with_reducible exact er_nil
  | (with_reducible apply er_varD); exact rfl
  | (with_reducible apply er_varO); exact rfl
  | (with_reducible apply er_varF); exact rfl
  | (with_reducible apply er_op); walk_at "e"; walk_at "e"; exact rfl; exact rfl; walk_at "d"; exact rfl
  | (with_reducible apply er_chain); walk_at "e"; walk_at "e"; exact rfl; exact rfl; walk_at "d"; (intro _h; walk_at "e"); exact rfl; walk_at "d"
  | (with_reducible apply er_slS); walk_at "e"; walk_at "o"; walk_at "o"; exact rfl; walk_at "z"
  | (with_reducible apply er_slL); walk_at "e"; walk_at "o"; walk_at "o"; exact rfl
  | (with_reducible apply er_list); walk_at "e"; exact rfl; exact rfl
  | (with_reducible apply er_tupL); walk_at "e"; exact rfl
  | (with_reducible apply er_un); walk_at "e"; exact rfl; exact rfl; exact rfl
  | (with_reducible apply er_tst); walk_at "e"
  | (with_reducible apply er_tru); walk_at "e"; exact rfl; exact rfl
  | (with_reducible apply er_andT); walk_at "e"; (intro _h; walk_at "e")
  | (with_reducible apply er_orT); walk_at "e"; (intro _h; walk_at "e")
  | (with_reducible apply er_andTT); walk_at "e"; exact rfl; walk_at "e"
  | (with_reducible apply er_orTF); walk_at "e"; exact rfl; walk_at "e"
  | (with_reducible apply er_notT); walk_at "e"
  | (with_reducible apply er_andV); walk_at "e"; (intro _h; walk_at "e")
  | (with_reducible apply er_orV); walk_at "e"; (intro _h; walk_at "e")
  | (with_reducible apply er_notV); walk_at "e"
  | (with_reducible apply er_andVT); walk_at "e"; exact rfl; walk_at "e"
  | (with_reducible apply er_orVF); walk_at "e"; exact rfl; walk_at "e"
  | (with_reducible apply er_ix); walk_at "e"; walk_at "e"; exact rfl; walk_at "x"
  | (with_reducible apply er_callS); walk_at "e"; exact rfl; walk_at "d"; exact rfl
  | (with_reducible apply er_cons); walk_at "e"; walk_at "e"
  | (with_reducible apply er_callG); walk_at "e"; exact rfl; exact rfl; walk_at "c"; exact rfl
  | (with_reducible apply er_callH); walk_at "e"; exact rfl; exact rfl; walk_at "c"; exact rfl
  | (with_reducible apply er_callV); walk_at "e"; exact rfl; walk_at "c"; exact rfl
  | (with_reducible apply er_callGF); walk_at "e"; exact rfl; exact rfl; walk_at "c"; exact rfl
  | (with_reducible apply er_callHF); walk_at "e"; exact rfl; exact rfl; walk_at "c"; exact rfl
  | (with_reducible apply er_callM); walk_at "e"; exact rfl; exact rfl; exact rfl; exact rfl; exact rfl; walk_at "c"; exact rfl
  | (with_reducible apply er_catL); walk_at "e"; walk_at "e"; exact rfl; exact rfl; walk_at "z"
  | (with_reducible apply er_mt); walk_at "e"; exact rfl; exact rfl; walk_at "e"; exact rfl; exact rfl; walk_at "m"; exact rfl
  | (with_reducible apply er_tup); walk_at "e"; exact rfl; walk_at "z" 
  | (with_reducible apply er_lst); walk_at "e"; exact rfl; walk_at "z")
local macro_rules | `(tactic| walk_at "o") => `(tactic| first | exact er_zoN | ((with_reducible apply er_zoS); walk_at "e"))
local macro_rules | `(tactic| walk_at "x") => `(tactic| first | with_reducible assumption | (simp only [Cn.d]; with_reducible assumption) | exact rfl)
local macro_rules | `(tactic| walk_at "m") => `(tactic| first | with_reducible assumption | (simp only [Cn.d]; with_reducible assumption) | exact rfl)
local macro_rules | `(tactic| walk_at "st") => `(tactic| first
  | ((with_reducible apply set_dat); (walk_at "e"); (exact rfl); walk_at "l")
  | ((with_reducible apply set_own); (walk_at "e"); (exact Nat.le_of_ble_eq_true rfl); (exact rfl); (exact rfl); walk_at "l")
  | ((with_reducible apply asg_run); (walk_at "e"); (exact rfl); walk_at "l")
  | ((with_reducible apply aug_run); (exact rfl); (exact rfl); (walk_at "e"); (exact rfl); (walk_at "d"); (exact rfl); (exact rfl); walk_at "l")
  | ((with_reducible apply sto_run); (walk_at "e"); (walk_at "e"); (walk_at "e"); (exact rfl); (walk_at "x"); walk_at "l")
  | ((with_reducible apply app_run); (walk_at "e"); (exact rfl); (walk_at "e"); (exact rfl); (exact rfl); (walk_at "z"); walk_at "l"))
local macro_rules | `(tactic| walk_at "z") => `(tactic| first | assumption | exact Nat.le_of_ble_eq_true rfl | (simp; omega))
local macro_rules | `(tactic| walk_at "s") => `(tactic| first
  | with_reducible apply sr_nx
  | with_reducible apply sr_assoc
  | with_reducible apply ap_fg
  | ((with_reducible apply fgK_nx); (exact rfl); (walk_at "l"); skip)
  | ((with_reducible apply fgK_ct); (exact rfl); (walk_at "l"); skip)
  | ((with_reducible apply fgK_bk); (exact rfl); (walk_at "l"); skip)
  | with_reducible apply fgK_ret
  | with_reducible apply sr_bk1
  | with_reducible apply sr_ct1
  | with_reducible apply sr_nx1
  | with_reducible apply sr_ct
  | with_reducible apply sr_bk
  | (with_reducible apply sr_retS); (walk_at "e"); skip
  | (with_reducible apply sr_ret); (walk_at "e"); skip
  | (with_reducible apply sr_if); (walk_at "e"); (walk_at "l")
  | (with_reducible apply sr_if1); (walk_at "e"); (walk_at "l")
  | (with_reducible apply seq_nx); (walk_at "st")
  | (with_reducible apply one_nx); (walk_at "st"))
local macro_rules | `(tactic| walk_at "r") => `(tactic| repeat' (first | (intro _) | walk_at "s"))
local macro_rules | `(tactic| walk_at "k") => `(tactic| (intro q; (try simp only [decide_eq_true_eq, decide_eq_false_iff_not, beq_iff_eq, beq_eq_false_iff_ne, ne_eq, Bool.not_eq_true', Bool.not_eq_false', Bool.and_eq_true, Bool.or_eq_true, Bool.and_eq_false_iff, Bool.or_eq_false_iff, Int.not_lt, Int.not_le, List.cons.injEq, and_true, reduceCtorEq, beq_self_eq_true, Bool.not_true, Bool.not_false, Bool.or_false, Bool.false_or, Bool.or_true, Bool.true_or, Bool.and_false, Bool.false_and, Bool.and_true, Bool.true_and, not_true_eq_false, Bool.false_eq_true] at q) <;> (try (exfalso; first | (cases q; done) | omega | contradiction))))
local macro_rules | `(tactic| walk_at "w") => `(tactic| repeat' (first | (walk_at "k") | walk_at "s"))
def kd : D → Nat
  | .non => 0
  | .bl _ => 1
  | .int _ => 2
  | _ => 3
def kx : D → D
  | .non => .int 0
  | .bl b => .int (if b then 1 else 0)
  | d => d
def rk (v : D) : D := .tup [.int (kd v : Nat), kx v]
theorem natL_tri : ∀ x y : List Nat, (x = y ↔ ¬ x < y ∧ ¬ y < x)
  | [], [] => by simp
  | [], b :: y => by simp
  | a :: x, [] => by simp
  | a :: x, b :: y => by
    have ih := natL_tri x y
    rw [List.cons_lt_cons_iff, List.cons_lt_cons_iff, List.cons.injEq, ih]
    constructor
    · rintro ⟨rfl, h1, h2⟩
      exact ⟨fun h => h.elim (fun h => absurd h (Nat.lt_irrefl _)) fun h => h1 h.2, fun h => h.elim (fun h => absurd h (Nat.lt_irrefl _)) fun h => h2 h.2⟩
    · rintro ⟨h1, h2⟩
      have e : a = b := by
        rcases Nat.lt_trichotomy a b with h | h | h
        · exact absurd (Or.inl h) h1
        · exact h
        · exact absurd (Or.inl h) h2
      subst e
      exact ⟨rfl, fun h => h1 (.inr ⟨rfl, h⟩), fun h => h2 (.inr ⟨rfl, h⟩)⟩
def sameV (v w : D) : Bool := D.eqv (rk v) (rk w)
theorem sameV_eq (v w : D) : sameV v w = (decide (kd v = kd w) && D.eqv (kx v) (kx w)) := by
  show ((((kd v : Nat) : Int) == ((kd w : Nat) : Int)) && (D.eqv (kx v) (kx w) && true)) = _
  rw [Bool.and_true]
  congr 1
  rw [Bool.eq_iff_iff]
  simp
  omega
def ltV (v w : D) : Bool := if kd v = kd w then (match kx v, kx w with
  | .int i, .int j => decide (i < j)
  | .str x, .str y => decide (x < y)
  | _, _ => false) else decide (kd v < kd w)
def ltR : List D → List D → Bool
  | [], [] => false
  | [], _ :: _ => true
  | _ :: _, [] => false
  | x :: xs, y :: ys => if sameV x y = true then ltR xs ys else ltV x y
end Z
set_option Elab.async false
set_option linter.all false
set_option maxRecDepth 100000
set_option maxHeartbeats 4000000
namespace Z
open PySem PySem.Spec PyProof.Rows L2
def isS : R → Option (List Nat)
  | .dat (.str t) => some t
  | _ => none
theorem isS_some {r : R} {t : List Nat} (h : isS r = some t) : r = .dat (.str t) := by
  unfold isS at h
  split at h
  · cases h; rfl
  · cases h
end Z
set_option Elab.async false
set_option linter.all false
set_option maxRecDepth 100000
set_option maxHeartbeats 4000000
namespace Z
open PySem PySem.Spec PyProof.Rows L2
local macro_rules | `(tactic| walk_at "l") => `(tactic| first | (simp only [wipeG_nil, wipeG_cons, List.set_cons_succ, List.set_cons_zero, List.take_succ_cons, List.take_zero, List.take_nil, List.cons_append, List.nil_append, List.length_cons, List.length_nil, List.set_nil, List.getElem?_cons_zero, List.getElem?_cons_succ, Nat.zero_add, Nat.reduceAdd]; first | done | exact rfl) | exact rfl)
local macro_rules | `(tactic| walk_at "d") => `(tactic| first
  | with_reducible assumption
  | (with_reducible apply dr_div) <;> decide
  | (with_reducible apply dr_mod) <;> decide
  | (with_reducible apply dr_mulr); decide
  | (with_reducible apply dr_mull); decide
  | (with_reducible apply dr_divB) <;> omega
  | (with_reducible apply dr_mulrB) <;> omega
  | (with_reducible apply dr_mullB) <;> omega
  | (with_reducible apply dr_mulC) <;> omega
  | (with_reducible apply dr_mod) <;> omega
  | (with_reducible refine isi_of ?_ ?_); (exact rfl); (first | exact kb_int_int | exact kb_int_bool | exact kb_bool_bool | exact kb_bool_int | exact kb_str_int | exact kb_str_bool | exact kb_str_str | exact kb_int_str | exact kb_bool_str | exact kb_non_int | exact kb_non_bool | exact kb_non_str | exact kb_list_list | exact kb_tuple_tuple | exact kb_list_tuple | exact kb_tuple_list)
  | with_reducible exact dr_abs
  | (with_reducible exact dr_neL _ _)
  | (simp only [Cn.d]; with_reducible assumption)
  | (simp only [Cn.d]; with_reducible exact dr_neL _ _)
  | with_reducible exact in_ints _ _
  | (simp only [Cn.d]; with_reducible exact in_ints _ _)
  | ((with_reducible apply dr_cat); (try simp only [List.length_append, List.length_cons, List.length_nil]); omega)
  | with_reducible exact dr_eqI
  | with_reducible exact dr_eqB
  | with_reducible exact dr_neB
  | with_reducible exact dr_eqS
  | with_reducible exact dr_neI
  | with_reducible exact dr_neS
  | exact rfl)
local macro_rules | `(tactic| walk_at "c") => `(tactic| first | with_reducible assumption | (simp only [Cn.d]; with_reducible assumption))
local macro_rules | `(tactic| walk_at "e") => `(tactic| first
  | with_reducible exact er_C
  | with_reducible exact er_nil
  | (with_reducible apply er_varD); exact rfl
  | (with_reducible apply er_varO); exact rfl
  | (with_reducible apply er_varF); exact rfl
  | (with_reducible apply er_op); walk_at "e"; walk_at "e"; exact rfl; exact rfl; walk_at "d"; exact rfl
  | (with_reducible apply er_chain); walk_at "e"; walk_at "e"; exact rfl; exact rfl; walk_at "d"; (intro _h; walk_at "e"); exact rfl; walk_at "d"
  | (with_reducible apply er_slS); walk_at "e"; walk_at "o"; walk_at "o"; exact rfl; walk_at "z"
  | (with_reducible apply er_slL); walk_at "e"; walk_at "o"; walk_at "o"; exact rfl
  | (with_reducible apply er_list); walk_at "e"; exact rfl; exact rfl
  | (with_reducible apply er_tupL); walk_at "e"; exact rfl
  | (with_reducible apply er_un); walk_at "e"; exact rfl; exact rfl; exact rfl
  | (with_reducible apply er_tst); walk_at "e"
  | (with_reducible apply er_tru); walk_at "e"; exact rfl; exact rfl
  | (with_reducible apply er_andT); walk_at "e"; (intro _h; walk_at "e")
  | (with_reducible apply er_orT); walk_at "e"; (intro _h; walk_at "e")
  | (with_reducible apply er_andTT); walk_at "e"; exact rfl; walk_at "e"
  | (with_reducible apply er_orTF); walk_at "e"; exact rfl; walk_at "e"
  | (with_reducible apply er_notT); walk_at "e"
  | (with_reducible apply er_andV); walk_at "e"; (intro _h; walk_at "e")
  | (with_reducible apply er_orV); walk_at "e"; (intro _h; walk_at "e")
  | (with_reducible apply er_notV); walk_at "e"
  | (with_reducible apply er_andVT); walk_at "e"; exact rfl; walk_at "e"
  | (with_reducible apply er_orVF); walk_at "e"; exact rfl; walk_at "e"
  | (with_reducible apply er_ix); walk_at "e"; walk_at "e"; exact rfl; walk_at "x"
  | (with_reducible apply er_callS); walk_at "e"; exact rfl; walk_at "d"; exact rfl
  | (with_reducible apply er_cons); walk_at "e"; walk_at "e"
  | (with_reducible apply er_callG); walk_at "e"; exact rfl; exact rfl; walk_at "c"; exact rfl
  | (with_reducible apply er_callH); walk_at "e"; exact rfl; exact rfl; walk_at "c"; exact rfl
  | (with_reducible apply er_callV); walk_at "e"; exact rfl; walk_at "c"; exact rfl
  | (with_reducible apply er_callGF); walk_at "e"; exact rfl; exact rfl; walk_at "c"; exact rfl
  | (with_reducible apply er_callHF); walk_at "e"; exact rfl; exact rfl; walk_at "c"; exact rfl
  | (with_reducible apply er_callM); walk_at "e"; exact rfl; exact rfl; exact rfl; exact rfl; exact rfl; walk_at "c"; exact rfl
  | (with_reducible apply er_catL); walk_at "e"; walk_at "e"; exact rfl; exact rfl; walk_at "z"
  | (with_reducible apply er_mt); walk_at "e"; exact rfl; exact rfl; walk_at "e"; exact rfl; exact rfl; walk_at "m"; exact rfl
  | (with_reducible apply er_tup); walk_at "e"; exact rfl; walk_at "z" 
  | (with_reducible apply er_lst); walk_at "e"; exact rfl; walk_at "z")
local macro_rules | `(tactic| walk_at "o") => `(tactic| first | exact er_zoN | ((with_reducible apply er_zoS); walk_at "e"))
local macro_rules | `(tactic| walk_at "x") => `(tactic| first | with_reducible assumption | (simp only [Cn.d]; with_reducible assumption) | exact rfl)
local macro_rules | `(tactic| walk_at "m") => `(tactic| first | with_reducible assumption | (simp only [Cn.d]; with_reducible assumption) | exact rfl)
local macro_rules | `(tactic| walk_at "st") => `(tactic| first
  | ((with_reducible apply set_dat); (walk_at "e"); (exact rfl); walk_at "l")
  | ((with_reducible apply set_own); (walk_at "e"); (exact Nat.le_of_ble_eq_true rfl); (exact rfl); (exact rfl); walk_at "l")
  | ((with_reducible apply asg_run); (walk_at "e"); (exact rfl); walk_at "l")
  | ((with_reducible apply aug_run); (exact rfl); (exact rfl); (walk_at "e"); (exact rfl); (walk_at "d"); (exact rfl); (exact rfl); walk_at "l")
  | ((with_reducible apply sto_run); (walk_at "e"); (walk_at "e"); (walk_at "e"); (exact rfl); (walk_at "x"); walk_at "l")
  | ((with_reducible apply app_run); (walk_at "e"); (exact rfl); (walk_at "e"); (exact rfl); (exact rfl); (walk_at "z"); walk_at "l"))
local macro_rules | `(tactic| walk_at "z") => `(tactic| first | assumption | exact Nat.le_of_ble_eq_true rfl | (simp; omega))
local macro_rules | `(tactic| walk_at "s") => `(tactic| first
  | with_reducible apply sr_nx
  | with_reducible apply sr_assoc
  | with_reducible apply ap_fg
  | ((with_reducible apply fgK_nx); (exact rfl); (walk_at "l"); skip)
  | ((with_reducible apply fgK_ct); (exact rfl); (walk_at "l"); skip)
  | ((with_reducible apply fgK_bk); (exact rfl); (walk_at "l"); skip)
  | with_reducible apply fgK_ret
  | with_reducible apply sr_bk1
  | with_reducible apply sr_ct1
  | with_reducible apply sr_nx1
  | with_reducible apply sr_ct
  | with_reducible apply sr_bk
  | (with_reducible apply sr_retS); (walk_at "e"); skip
  | (with_reducible apply sr_ret); (walk_at "e"); skip
  | (with_reducible apply sr_if); (walk_at "e"); (walk_at "l")
  | (with_reducible apply sr_if1); (walk_at "e"); (walk_at "l")
  | (with_reducible apply seq_nx); (walk_at "st")
  | (with_reducible apply one_nx); (walk_at "st"))
local macro_rules | `(tactic| walk_at "r") => `(tactic| repeat' (first | (intro _) | walk_at "s"))
local macro_rules | `(tactic| walk_at "k") => `(tactic| (intro q; (try simp only [decide_eq_true_eq, decide_eq_false_iff_not, beq_iff_eq, beq_eq_false_iff_ne, ne_eq, Bool.not_eq_true', Bool.not_eq_false', Bool.and_eq_true, Bool.or_eq_true, Bool.and_eq_false_iff, Bool.or_eq_false_iff, Int.not_lt, Int.not_le, List.cons.injEq, and_true, reduceCtorEq, beq_self_eq_true, Bool.not_true, Bool.not_false, Bool.or_false, Bool.false_or, Bool.or_true, Bool.true_or, Bool.and_false, Bool.false_and, Bool.and_true, Bool.true_and, not_true_eq_false, Bool.false_eq_true] at q) <;> (try (exfalso; first | (cases q; done) | omega | contradiction))))
local macro_rules | `(tactic| walk_at "w") => `(tactic| repeat' (first | (walk_at "k") | walk_at "s"))
end Z
set_option Elab.async false
set_option linter.all false
set_option maxRecDepth 100000
set_option maxHeartbeats 4000000
namespace Z
open PySem PySem.Spec PyProof.Rows L2
end Z
set_option Elab.async false
set_option linter.all false
set_option maxRecDepth 100000
set_option maxHeartbeats 4000000
namespace Z
open PySem PySem.Spec PyProof.Rows L2
end Z
set_option Elab.async false
set_option linter.all false
set_option maxRecDepth 100000
set_option maxHeartbeats 4000000
namespace Z
open PySem PySem.Spec PyProof.Rows L2
local macro_rules | `(tactic| walk_at "l") => `(tactic| first | (simp only [wipeG_nil, wipeG_cons, List.set_cons_succ, List.set_cons_zero, List.take_succ_cons, List.take_zero, List.take_nil, List.cons_append, List.nil_append, List.length_cons, List.length_nil, List.set_nil, List.getElem?_cons_zero, List.getElem?_cons_succ, Nat.zero_add, Nat.reduceAdd]; first | done | exact rfl) | exact rfl)
local macro_rules | `(tactic| walk_at "d") => `(tactic| first
  | with_reducible assumption
  | (with_reducible apply dr_div) <;> decide
  | (with_reducible apply dr_mod) <;> decide
  | (with_reducible apply dr_mulr); decide
  | (with_reducible apply dr_mull); decide
  | (with_reducible apply dr_divB) <;> omega
  | (with_reducible apply dr_mulrB) <;> omega
  | (with_reducible apply dr_mullB) <;> omega
  | (with_reducible apply dr_mulC) <;> omega
  | (with_reducible apply dr_mod) <;> omega
  | (with_reducible refine isi_of ?_ ?_); (exact rfl); (first | exact kb_int_int | exact kb_int_bool | exact kb_bool_bool | exact kb_bool_int | exact kb_str_int | exact kb_str_bool | exact kb_str_str | exact kb_int_str | exact kb_bool_str | exact kb_non_int | exact kb_non_bool | exact kb_non_str | exact kb_list_list | exact kb_tuple_tuple | exact kb_list_tuple | exact kb_tuple_list)
  | with_reducible exact dr_abs
  | (with_reducible exact dr_neL _ _)
  | (simp only [Cn.d]; with_reducible assumption)
  | (simp only [Cn.d]; with_reducible exact dr_neL _ _)
  | with_reducible exact in_ints _ _
  | (simp only [Cn.d]; with_reducible exact in_ints _ _)
  | ((with_reducible apply dr_cat); (try simp only [List.length_append, List.length_cons, List.length_nil]); omega)
  | with_reducible exact dr_eqI
  | with_reducible exact dr_eqB
  | with_reducible exact dr_neB
  | with_reducible exact dr_eqS
  | with_reducible exact dr_neI
  | with_reducible exact dr_neS
  | exact rfl)
local macro_rules | `(tactic| walk_at "c") => `(tactic| first | with_reducible assumption | (simp only [Cn.d]; with_reducible assumption))
local macro_rules | `(tactic| walk_at "e") => `(tactic| first
  | with_reducible exact er_C
  | with_reducible exact er_nil
  | (with_reducible apply er_varD); exact rfl
  | (with_reducible apply er_varO); exact rfl
  | (with_reducible apply er_varF); exact rfl
  | (with_reducible apply er_op); walk_at "e"; walk_at "e"; exact rfl; exact rfl; walk_at "d"; exact rfl
  | (with_reducible apply er_chain); walk_at "e"; walk_at "e"; exact rfl; exact rfl; walk_at "d"; (intro _h; walk_at "e"); exact rfl; walk_at "d"
  | (with_reducible apply er_slS); walk_at "e"; walk_at "o"; walk_at "o"; exact rfl; walk_at "z"
  | (with_reducible apply er_slL); walk_at "e"; walk_at "o"; walk_at "o"; exact rfl
  | (with_reducible apply er_list); walk_at "e"; exact rfl; exact rfl
  | (with_reducible apply er_tupL); walk_at "e"; exact rfl
  | (with_reducible apply er_un); walk_at "e"; exact rfl; exact rfl; exact rfl
  | (with_reducible apply er_tst); walk_at "e"
  | (with_reducible apply er_tru); walk_at "e"; exact rfl; exact rfl
  | (with_reducible apply er_andT); walk_at "e"; (intro _h; walk_at "e")
  | (with_reducible apply er_orT); walk_at "e"; (intro _h; walk_at "e")
  | (with_reducible apply er_andTT); walk_at "e"; exact rfl; walk_at "e"
  | (with_reducible apply er_orTF); walk_at "e"; exact rfl; walk_at "e"
  | (with_reducible apply er_notT); walk_at "e"
  | (with_reducible apply er_andV); walk_at "e"; (intro _h; walk_at "e")
  | (with_reducible apply er_orV); walk_at "e"; (intro _h; walk_at "e")
  | (with_reducible apply er_notV); walk_at "e"
  | (with_reducible apply er_andVT); walk_at "e"; exact rfl; walk_at "e"
  | (with_reducible apply er_orVF); walk_at "e"; exact rfl; walk_at "e"
  | (with_reducible apply er_ix); walk_at "e"; walk_at "e"; exact rfl; walk_at "x"
  | (with_reducible apply er_callS); walk_at "e"; exact rfl; walk_at "d"; exact rfl
  | (with_reducible apply er_cons); walk_at "e"; walk_at "e"
  | (with_reducible apply er_callG); walk_at "e"; exact rfl; exact rfl; walk_at "c"; exact rfl
  | (with_reducible apply er_callH); walk_at "e"; exact rfl; exact rfl; walk_at "c"; exact rfl
  | (with_reducible apply er_callV); walk_at "e"; exact rfl; walk_at "c"; exact rfl
  | (with_reducible apply er_callGF); walk_at "e"; exact rfl; exact rfl; walk_at "c"; exact rfl
  | (with_reducible apply er_callHF); walk_at "e"; exact rfl; exact rfl; walk_at "c"; exact rfl
  | (with_reducible apply er_callM); walk_at "e"; exact rfl; exact rfl; exact rfl; exact rfl; exact rfl; walk_at "c"; exact rfl
  | (with_reducible apply er_catL); walk_at "e"; walk_at "e"; exact rfl; exact rfl; walk_at "z"
  | (with_reducible apply er_mt); walk_at "e"; exact rfl; exact rfl; walk_at "e"; exact rfl; exact rfl; walk_at "m"; exact rfl
  | (with_reducible apply er_tup); walk_at "e"; exact rfl; walk_at "z" 
  | (with_reducible apply er_lst); walk_at "e"; exact rfl; walk_at "z")
local macro_rules | `(tactic| walk_at "o") => `(tactic| first | exact er_zoN | ((with_reducible apply er_zoS); walk_at "e"))
local macro_rules | `(tactic| walk_at "x") => `(tactic| first | with_reducible assumption | (simp only [Cn.d]; with_reducible assumption) | exact rfl)
local macro_rules | `(tactic| walk_at "m") => `(tactic| first | with_reducible assumption | (simp only [Cn.d]; with_reducible assumption) | exact rfl)
local macro_rules | `(tactic| walk_at "st") => `(tactic| first
  | ((with_reducible apply set_dat); (walk_at "e"); (exact rfl); walk_at "l")
  | ((with_reducible apply set_own); (walk_at "e"); (exact Nat.le_of_ble_eq_true rfl); (exact rfl); (exact rfl); walk_at "l")
  | ((with_reducible apply asg_run); (walk_at "e"); (exact rfl); walk_at "l")
  | ((with_reducible apply aug_run); (exact rfl); (exact rfl); (walk_at "e"); (exact rfl); (walk_at "d"); (exact rfl); (exact rfl); walk_at "l")
  | ((with_reducible apply sto_run); (walk_at "e"); (walk_at "e"); (walk_at "e"); (exact rfl); (walk_at "x"); walk_at "l")
  | ((with_reducible apply app_run); (walk_at "e"); (exact rfl); (walk_at "e"); (exact rfl); (exact rfl); (walk_at "z"); walk_at "l"))
local macro_rules | `(tactic| walk_at "z") => `(tactic| first | assumption | exact Nat.le_of_ble_eq_true rfl | (simp; omega))
local macro_rules | `(tactic| walk_at "s") => `(tactic| first
  | with_reducible apply sr_nx
  | with_reducible apply sr_assoc
  | with_reducible apply ap_fg
  | ((with_reducible apply fgK_nx); (exact rfl); (walk_at "l"); skip)
  | ((with_reducible apply fgK_ct); (exact rfl); (walk_at "l"); skip)
  | ((with_reducible apply fgK_bk); (exact rfl); (walk_at "l"); skip)
  | with_reducible apply fgK_ret
  | with_reducible apply sr_bk1
  | with_reducible apply sr_ct1
  | with_reducible apply sr_nx1
  | with_reducible apply sr_ct
  | with_reducible apply sr_bk
  | (with_reducible apply sr_retS); (walk_at "e"); skip
  | (with_reducible apply sr_ret); (walk_at "e"); skip
  | (with_reducible apply sr_if); (walk_at "e"); (walk_at "l")
  | (with_reducible apply sr_if1); (walk_at "e"); (walk_at "l")
  | (with_reducible apply seq_nx); (walk_at "st")
  | (with_reducible apply one_nx); (walk_at "st"))
local macro_rules | `(tactic| walk_at "r") => `(tactic| repeat' (first | (intro _) | walk_at "s"))
local macro_rules | `(tactic| walk_at "k") => `(tactic| (intro q; (try simp only [decide_eq_true_eq, decide_eq_false_iff_not, beq_iff_eq, beq_eq_false_iff_ne, ne_eq, Bool.not_eq_true', Bool.not_eq_false', Bool.and_eq_true, Bool.or_eq_true, Bool.and_eq_false_iff, Bool.or_eq_false_iff, Int.not_lt, Int.not_le, List.cons.injEq, and_true, reduceCtorEq, beq_self_eq_true, Bool.not_true, Bool.not_false, Bool.or_false, Bool.false_or, Bool.or_true, Bool.true_or, Bool.and_false, Bool.false_and, Bool.and_true, Bool.true_and, not_true_eq_false, Bool.false_eq_true] at q) <;> (try (exfalso; first | (cases q; done) | omega | contradiction))))
local macro_rules | `(tactic| walk_at "w") => `(tactic| repeat' (first | (walk_at "k") | walk_at "s"))
end Z
set_option Elab.async false
set_option linter.all false
set_option maxRecDepth 100000
set_option maxHeartbeats 4000000
namespace Z
open PySem PySem.Spec PyProof.Rows L2
section
variable {P : Program} {w : World} {K : PySem.W.Frag} {mg : Str → Option Value} {base : Heap}
theorem okN {k : Nat} {f : Addr} {fd : FuncData} {ps : List Str} : FnOk P w K mg base CX0 k f fd ps (spP K fun _ => none) :=
  ⟨fun _ _ _ _ ⟨_, _, _, _, _, e, _⟩ => (by cases e), fun _ _ _ _ _ _ _ _ _ _ _ _ _ ⟨_, _, _, _, _, e, _⟩ => (by cases e)⟩
end
end Z
set_option Elab.async false
set_option linter.all false
set_option maxRecDepth 100000
set_option maxHeartbeats 4000000
namespace Z
open PySem PySem.Spec PyProof.Rows L2
abbrev Tab := List (List Nat × (List D → Option FR))
def look : Tab → List Nat → Option (List D → Option FR)
  | [], _ => none
  | (k, F) :: t, s => if k = s then some F else look t s
def inE (es : Array DictEntry) (s : Str) : Option Value := findBy (fun k v => v.isStr k) es s
section
variable (P : Program) (w : World) (K : PySem.W.Frag) (mg : Str → Option Value) (base : Heap)
def FnAt (k : Nat) (f : Addr) (sp : Sp) : Prop := ∃ (fd : FuncData) (ps : List Str), PySem.W.keepIn K (.ref f) = true ∧ Binds K fd ps [] ∧ FnOk P w K mg base CX0 k f fd ps sp
def TabIn (k : Nat) (es : Array DictEntry) (tab : Tab) : Prop := ∀ s F, look tab s = some F → ∃ f, inE es ⟨s.toArray⟩ = some (.ref f) ∧ FnAt P w K mg base k f (spP K F)
def TabOk (k : Nat) (x : Str) (tab : Tab) : Prop := ∃ (a : Addr) (es : Array DictEntry) (ep : Nat) (sl : Array (Option Value)),
  mg x = some (.ref a) ∧ K.lookup a = some ⟨.type "dict", none, .dict es ep, sl⟩ ∧ (es.all fun e => isExactStrKey e.key) = true ∧ TabIn P w K mg base k es tab
end
section
variable {P : Program} {w : World} {K : PySem.W.Frag} {mg : Str → Option Value} {base : Heap}
theorem FnAt.mono {j k : Nat} {f : Addr} {sp : Sp} (h : FnAt P w K mg base j f sp) (le : j ≤ k) : FnAt P w K mg base k f sp :=
  let ⟨fd, ps, a, b, c⟩ := h
  ⟨fd, ps, a, b, c.mono le⟩
theorem Cal.at {k : Nat} {x : Str} {sp : Sp} {f : Addr} (c : Cal P w K mg base k x sp) (hm : mg x = some (.ref f)) : FnAt P w K mg base k f sp := by
  obtain ⟨g, fd, ps, h1, h2, h3, h4⟩ := c
  rw [h1] at hm
  cases hm
  exact ⟨fd, ps, h2, h3, h4⟩
theorem tab_all {es : Array DictEntry} (h : (es.toList.all fun e => isExactStrKey e.key) = true) : (es.all fun e => isExactStrKey e.key) = true := by
  rw [← Array.all_toList]
  exact h
theorem tab_nil {k : Nat} {es : Array DictEntry} : TabIn P w K mg base k es [] := fun _ _ h => by cases h
theorem tab_cons {j k : Nat} {es : Array DictEntry} {x : Str} {s : List Nat} {F : List D → Option FR} {f : Addr} {t : Tab} (c : Cal P w K mg base j x (spP K F)) (le : j ≤ k) (hm : mg x = some (.ref f)) (he : inE es ⟨s.toArray⟩ = some (.ref f)) (h : TabIn P w K mg base k es t) : TabIn P w K mg base k es ((s, F) :: t) := fun s' F' e => by
  unfold look at e
  split at e
  · rename_i q
    cases e
    subst q
    exact ⟨f, he, (c.at hm).mono le⟩
  · exact h s' F' e
end
section
variable {X : Cx}
/-- what stands in the module's dict behind a text -/
theorem pe_fn {x : Str} {a : Addr} {es : Array DictEntry} {ep : Nat} {sl : Array (Option Value)} {p pos : Pos} {i : Expr} {ti : TE} (hx : X.mg x = some (.ref a)) (hl : X.K.lookup a = some ⟨.type "dict", none, .dict es ep, sl⟩)
    (hall : (es.all fun e => isExactStrKey e.key) = true) (hi : PE X i ti) (hg : Gl X x := by rfl) (hs : NoSl i := by intro _ _; rfl) (hdb : (x == ("__debug__" : Str)) = false := by decide) :
    PE X (.Subscript (.Name x p) i pos) (fun σ H Q => ti σ H fun y H1 => ∃ st f, y = .str st ∧ inE es st = some (.ref f) ∧ Q (.ref f) H1) := by
  refine ⟨fun pins s σ H Q I h => ?_⟩
  refine subD_of PySem.F.slot_dict_getitem.lookup hs (thn ((pe_glob (v := .ref a) (pos := p) hg hx rfl hdb).run pins s σ H (fun v H1 => v = .ref a ∧ H1 = H) I ⟨rfl, rfl⟩) fun u s1 ⟨x0, H1, I1, rx, q1⟩ => ?_)
  obtain ⟨rfl, rfl⟩ := q1
  cases rx
  refine thn (hi.run pins s1 σ H1 _ I1 h) fun iv s2 ⟨y, H2, I2, ry, st, f, ey, hf, q2⟩ => ?_
  subst ey
  obtain ⟨t, rfl⟩ : ∃ t, iv = Value.str st t := ry
  have ho := I2.kIn _ _ hl
  have ty : s2.TypeIs (.ref a) "dict" := ⟨_, ho, rfl⟩
  refine ⟨ty, ?_⟩
  unfold getItem
  try with_reducible refine wpAny_holding ?_
  refine wpAny_bind (wpAny_sequenceKey ty (by decide) ?_)
  refine wpAny_bind (wpAny_callSpecial?_slot (name := Str.ofString "__getitem__") ty PySem.F.slot_dict_getitem (wpAny_call_entry PySem.F.slot_dict_getitem ty PySem.F.entry_dict_getitem ?_ (PySem.args_dict_getitem _ _)))
  show wpAny _ _ (dictGet a (.str st t) >>= _) _ _ s2
  refine wpAny_bind ?_
  unfold dictGet
  try with_reducible refine wpAny_holding ?_
  refine wpAny_bind (wpAny_pyHash_str (wpAny_bind (KTD.kt_dictFind_strs (s := { s2 with toks := s2.toks + 1 }) ho rfl hall ?_)))
  unfold inE at hf
  rw [findBy_of_findIdx?] at hf
  have done : wpAny (model X.prog X.w) X.A (pure (Value.ref f)) (EP X pins σ Q) X.xe { s2 with toks := s2.toks + 1 } := wpAny_pure ⟨.ref f, H2, I2.tok _, rfl, q2⟩
  cases e : es.findIdx? fun e => e.key.isStr st with
  | none => rw [e] at hf; cases hf
  | some j =>
    rw [e] at hf
    refine wpAny_bind (wpAny_dictEntries (s := { s2 with toks := s2.toks + 1 }) ho rfl ?_)
    dsimp only at hf ⊢
    rw [hf]
    exact wpAny_pure (wpAny_pure ⟨_, rfl, done⟩)
/-- a local name that holds a def, called -/
theorem pe_cf {i j : Nat} {x : Str} {e : Expr} {es : List Expr} {t : TA} {p pos : Pos} (hr : Room j X.A) (hN : X.N[i]? = some x) (hv : Vis X.env.scope x) (ha : PA X (e :: es) t)
    (hd : (x == ("__debug__" : Str)) = false := by decide) (hcd : (x == ("__classdict__" : Str)) = false := by decide)
    (he : starEach (e :: es) X.env = (false, eval e X.env) :: starEach es X.env := by rfl) (hpl : (backTo pos (starEach es X.env)).any (·.1) = false := by rfl) :
    PE X (.Call (.Name x p) (e :: es) [] pos) (fun σ H Q => ∃ f sp, σ[i]? = some (some (.ref f)) ∧ FnAt X.prog X.w X.K X.mg X.base j f sp ∧ t σ H fun vs H1 => sp vs H1 Q E0) := by
  refine ⟨fun pins s σ H Q I ⟨f, sp, hσ, ⟨fd, ps, kp, b, F⟩, ht⟩ => ?_⟩
  refine wpAny_Call_Name_kw (thn ((pe_var (pos := p) hN hv hd hcd).run pins s σ H (fun v H1 => v = .ref f ∧ H1 = H) I ⟨.ref f, hσ, rfl, rfl⟩) fun u s1 ⟨v, H1, I1, r1, q1⟩ => ?_)
  obtain ⟨e1, e2⟩ := q1
  subst e1 e2
  cases r1
  refine PySem.W.callWith_K (h₀ := X.base) I.ok.mod.kin kp (thn (ha.run pos pins s1 σ _ _ I1 ht) fun us s2 ⟨vs, H2, I2, r, q⟩ => ⟨I2.kIn, ?_⟩) he hpl
  exact run_fn F hr b .nil pass0 I2 r (by rw [List.append_nil]; exact q)
end
/-- action = DEEDS[name]; return action(..) -/
def zDeed (i : Nat) (tab : Tab) (mk : ZM) (mr : ZAr) : SM := fun g => do
  let (rk, g1) ← mk g
  let s ← isS rk
  let F ← look tab s
  if freeAt i g1 = true then zRet (zCall F mr) (g1.set i .un) else none
section
variable {X : Cx}
theorem zss_deed {i j : Nat} {x act : Str} {tab : Tab} {mk : ZM} {mr : ZAr} {ke e : Expr} {es : List Expr} {p1 p2 p3 p4 p5 p6 p7 : Pos} (hT : TabOk X.prog X.w X.K X.mg X.base j x tab) (hr : Room j X.A)
    (hN : X.N.Nodup) (hi : X.N[i]? = some act) (hx : Loc X.env.scope act) (hv : Vis X.env.scope act) (hk : ZE X ke mk) (ha : ZAs X (e :: es) mr)
    (hg : Gl X x := by rfl) (hs : NoSl ke := by intro _ _; rfl) (hdb : (x == ("__debug__" : Str)) = false := by decide)
    (hsw : swapsWith (.Subscript (.Name x p2) ke p3) (some (.Name act p1)) p4.line X.env = pure false := by rfl) (hf : X.fn act = true ∨ X.env.scope.names.lookup act = some .local := by first | exact .inl rfl | exact .inr rfl | assumption)
    (hd : (act == ("__debug__" : Str)) = false := by decide) (hcd : (act == ("__classdict__" : Str)) = false := by decide)
    (he : starEach (e :: es) X.env = (false, eval e X.env) :: starEach es X.env := by rfl) (hpl : (backTo p6 (starEach es X.env)).any (·.1) = false := by rfl) :
    ZSs X [.Assign [.Name act p1] (.Subscript (.Name x p2) ke p3) p4, .Return (some (.Call (.Name act p5) (e :: es) [] p6)) p7] (zDeed i tab mk mr) := by
  obtain ⟨a, ds, ep, sl, hm, hl, hall, hin⟩ := hT
  refine PSs.of (pss_cons (ps_set hN hi hx (pe_fn hm hl hall hk hg hs hdb) hsw hf) (pss_one (ps_ret (pe_cf hr hi hv ha hd hcd he hpl)))) fun D σ H ⟨C, Hs, A, g, fl, g', hK, hn, ok, ev, q⟩ => ?_
  unfold zDeed at ev
  simp only [Option.bind_eq_bind, Option.bind_eq_some_iff] at ev
  obtain ⟨⟨rk, g1⟩, h1, s, h2, F, h3, ev⟩ := ev
  have er := isS_some h2
  subst er
  split at ev
  · rename_i hfree
    obtain ⟨f, hf1, hf2⟩ := hin s F h3
    refine ⟨C, Hs, A, g, _, g1, hK, hn, ok, h1, fun Hs1 A1 v1 H1 s1 p1 ok1 rel1 => ?_⟩
    have e1 : v1 = .str ⟨s.toArray⟩ := (show Dz C.K Hs1 v1 (.str s) from rel1).v rfl
    refine ⟨_, f, e1, hf1, ?_⟩
    have hil : i < σ.length := by rw [ok1.ln, hn]; exact (List.getElem?_eq_some_iff.mp hi).1
    have ok2 : Ok C Hs1 A1 (g1.set i .un) (σ.set i (some (.ref f))) H1 := ok1.put hfree (by rw [List.length_set]) (fun k ne => List.getElem?_set_ne (Ne.symm ne)) (.inl rfl)
    show ∃ f sp, _
    refine ⟨f, spP X.K F, List.getElem?_set_self hil, hf2, ?_⟩
    unfold zRet at ev
    simp only [Option.bind_eq_bind, Option.bind_eq_some_iff] at ev
    obtain ⟨⟨r2, g2⟩, h4, ev⟩ := ev
    cases ev
    have hc : tZ X.K X.N.length (zCall F mr) (σ.set i (some (.ref f))) H1 D.rt := ⟨C, Hs1, A1, _, r2, _, hK, hn, ok2, h4, fun Hs2 A2 v2 H2 s2 p2 ok3 rel3 => q Hs2 A2 _ H2 v2 (s1.trans s2) ok3 rel3⟩
    have hcall := call_of (E := E0) hc
    obtain ⟨C', Hs', A', g3, rs, g4, k1, k2, k3, k4, k5⟩ := hcall
    refine ⟨C', Hs', A', g3, rs, g4, k1, k2, k3, k4, fun Hs2 A2 vs H2 z1 z2 z3 z4 => ?_⟩
    have this : spP X.K F (vs ++ []) H2 D.rt E0 := k5 Hs2 A2 vs H2 z1 z2 z3 z4
    rw [List.append_nil] at this
    exact this
  · cases ev
end
section
variable {g g1 : G}
theorem deed_run {i : Nat} {tab : Tab} {mk : ZM} {mr : ZAr} {s : List Nat} {F : List D → Option FR} {o : Option (Fl × G)} (h1 : mk g = some (.dat (.str s), g1)) (h2 : look tab s = some F) (h3 : freeAt i g1 = true) (h4 : zRet (zCall F mr) (g1.set i .un) = o) : zDeed i tab mk mr g = o := by
  simp only [zDeed, h1, isS, h2, h3, if_true, Option.bind_eq_bind, Option.bind_some]
  exact h4
end
end Z
set_option Elab.async false
set_option linter.all false
set_option maxRecDepth 100000
set_option maxHeartbeats 4000000
namespace Z
open PySem PySem.Spec PyProof.Rows L2
end Z
set_option Elab.async false
set_option linter.all false
set_option maxRecDepth 100000
set_option maxHeartbeats 4000000
namespace Z
open PySem PySem.Spec PyProof.Rows L2
/-- an object beside all slots, held as it is -/
def Ct.hold (C : Ct) (p : Addr) (o : HO) : Ct := { C with H0 := upd C.H0 p o }
section
variable {C : Ct} {Hs : Hp} {A : List Addr} {g : List Sl} {σ : L2.St} {H : Hp} {p : Addr} {o : HO}
theorem Ok.hold (ok : Ok C Hs A g σ H) (h : H p = none) : Ok (C.hold p o) Hs A g σ (upd H p o) := by
  obtain ⟨f1, f2⟩ := ok.fresh0 h
  have up : ∀ b, upd C.H0 p o b = none → C.H0 b = none := fun b e => by
    by_cases z : b = p
    · rw [z]; exact f2
    · rwa [upd_ne z] at e
  refine ⟨ok.ln, ok.lg, ok.la, ok.base, fun b o' e => ?_, ok.dat, ok.frz, fun i c pn l e => ?_, ok.inj, fun b o' e => ?_, fun b o' e k => ?_, ok.pinned, ok.pin1, ok.locked, ?_⟩
  · rw [upd_ne (fun z => by rw [z, f1] at e; cases e)]
    exact ok.same b o' e
  · obtain ⟨a, o', q1, q2, q3, q4, q5, q6⟩ := ok.own i c pn l e
    have ne : a ≠ p := fun z => by rw [z, h] at q4; cases q4
    exact ⟨a, o', q1, q2, q3, by rw [upd_ne ne]; exact q4, q5, fun z => by show upd C.H0 p o a = none; rw [upd_ne ne]; exact q6 z⟩
  · rcases ok.grow b o' e with z | z
    · exact .inl z
    · refine .inr ?_
      show upd C.H0 p o b = none
      rw [upd_ne (fun y => by rw [y, f1] at e; cases e)]
      exact z
  · by_cases z : b = p
    · subst z
      have e : upd C.H0 b o b = some o' := e
      rw [upd_same] at e ⊢
      exact e
    · have e : upd C.H0 p o b = some o' := e
      rw [upd_ne z] at e ⊢
      exact ok.keep b o' e k
  · refine RwOk.step ok.rws rfl rfl (Same.refl _) (fun x u ex n1 n2 _ => ?_) (fun i ls e => ⟨e, rfl, fun _ => rfl⟩) (fun i c' p l b e hb => .inl ⟨i, c', p, l, e, hb⟩)
    have ne : x ≠ p := fun z => by rw [z, h] at ex; cases ex
    exact ⟨by rw [upd_ne ne]; exact ex, n1, by show upd C.H0 p o x = none; rw [upd_ne ne]; exact n2⟩
theorem hold_dn {b : Addr} (e : (C.hold p o).H0 b = none) : b ≠ p ∧ C.H0 b = none := by
  have e : upd C.H0 p o b = none := e
  have ne : b ≠ p := fun z => by rw [z, upd_same] at e; cases e
  rw [upd_ne ne] at e
  exact ⟨ne, e⟩
/-- no more held -/
theorem Ok.unhold (h0 : C.H0 p = none) (ok : Ok (C.hold p o) Hs A g σ H) : Ok C Hs A g σ H := by
  refine ⟨ok.ln, ok.lg, ok.la, ok.base, ok.same, ok.dat, ok.frz, fun i c pn l e => ?_, ok.inj, fun b u e => ?_, fun b u e k => ?_, ok.pinned, ok.pin1, ok.locked, ?_⟩
  · obtain ⟨a, u, q1, q2, q3, q4, q5, q6⟩ := ok.own i c pn l e
    exact ⟨a, u, q1, q2, q3, q4, q5, fun z => (hold_dn (q6 z)).2⟩
  · rcases ok.grow b u e with z | z
    · exact .inl z
    · exact .inr (hold_dn z).2
  · refine ok.keep b u ?_ k
    show upd C.H0 p o b = some u
    rw [upd_ne (fun z => by rw [z, h0] at e; cases e)]
    exact e
  · exact RwOk.step ok.rws rfl rfl (Same.refl _) (fun x u ex n1 n2 _ => ⟨ex, n1, (hold_dn n2).2⟩) (fun i ls e => ⟨e, rfl, fun _ => rfl⟩) (fun i c' p l b e hb => .inl ⟨i, c', p, l, e, hb⟩)
end
end Z
set_option Elab.async false
set_option linter.all false
set_option maxRecDepth 100000
set_option maxHeartbeats 4000000
namespace Z
open PySem PySem.Spec PyProof.Rows L2
local macro_rules | `(tactic| walk_at "l") => `(tactic| first | (simp only [wipeG_nil, wipeG_cons, List.set_cons_succ, List.set_cons_zero, List.take_succ_cons, List.take_zero, List.take_nil, List.cons_append, List.nil_append, List.length_cons, List.length_nil, List.set_nil, List.getElem?_cons_zero, List.getElem?_cons_succ, Nat.zero_add, Nat.reduceAdd]; first | done | exact rfl) | exact rfl)
local macro_rules | `(tactic| walk_at "d") => `(tactic| first
  | with_reducible assumption
  | (with_reducible apply dr_div) <;> decide
  | (with_reducible apply dr_mod) <;> decide
  | (with_reducible apply dr_mulr); decide
  | (with_reducible apply dr_mull); decide
  | (with_reducible apply dr_divB) <;> omega
  | (with_reducible apply dr_mulrB) <;> omega
  | (with_reducible apply dr_mullB) <;> omega
  | (with_reducible apply dr_mulC) <;> omega
  | (with_reducible apply dr_mod) <;> omega
  | (with_reducible refine isi_of ?_ ?_); (exact rfl); (first | exact kb_int_int | exact kb_int_bool | exact kb_bool_bool | exact kb_bool_int | exact kb_str_int | exact kb_str_bool | exact kb_str_str | exact kb_int_str | exact kb_bool_str | exact kb_non_int | exact kb_non_bool | exact kb_non_str | exact kb_list_list | exact kb_tuple_tuple | exact kb_list_tuple | exact kb_tuple_list)
  | with_reducible exact dr_abs
  | (with_reducible exact dr_neL _ _)
  | (simp only [Cn.d]; with_reducible assumption)
  | (simp only [Cn.d]; with_reducible exact dr_neL _ _)
  | with_reducible exact in_ints _ _
  | (simp only [Cn.d]; with_reducible exact in_ints _ _)
  | ((with_reducible apply dr_cat); (try simp only [List.length_append, List.length_cons, List.length_nil]); omega)
  | with_reducible exact dr_eqI
  | with_reducible exact dr_eqB
  | with_reducible exact dr_neB
  | with_reducible exact dr_eqS
  | with_reducible exact dr_neI
  | with_reducible exact dr_neS
  | exact rfl)
local macro_rules | `(tactic| walk_at "c") => `(tactic| first | with_reducible assumption | (simp only [Cn.d]; with_reducible assumption))
local macro_rules | `(tactic| walk_at "e") => `(tactic| first
  | with_reducible exact er_C
  | with_reducible exact er_nil
  | (with_reducible apply er_varD); exact rfl
  | (with_reducible apply er_varO); exact rfl
  | (with_reducible apply er_varF); exact rfl
  | (with_reducible apply er_op); walk_at "e"; walk_at "e"; exact rfl; exact rfl; walk_at "d"; exact rfl
  | (with_reducible apply er_chain); walk_at "e"; walk_at "e"; exact rfl; exact rfl; walk_at "d"; (intro _h; walk_at "e"); exact rfl; walk_at "d"
  | (with_reducible apply er_slS); walk_at "e"; walk_at "o"; walk_at "o"; exact rfl; walk_at "z"
  | (with_reducible apply er_slL); walk_at "e"; walk_at "o"; walk_at "o"; exact rfl
  | (with_reducible apply er_list); walk_at "e"; exact rfl; exact rfl
  | (with_reducible apply er_tupL); walk_at "e"; exact rfl
  | (with_reducible apply er_un); walk_at "e"; exact rfl; exact rfl; exact rfl
  | (with_reducible apply er_tst); walk_at "e"
  | (with_reducible apply er_tru); walk_at "e"; exact rfl; exact rfl
  | (with_reducible apply er_andT); walk_at "e"; (intro _h; walk_at "e")
  | (with_reducible apply er_orT); walk_at "e"; (intro _h; walk_at "e")
  | (with_reducible apply er_andTT); walk_at "e"; exact rfl; walk_at "e"
  | (with_reducible apply er_orTF); walk_at "e"; exact rfl; walk_at "e"
  | (with_reducible apply er_notT); walk_at "e"
  | (with_reducible apply er_andV); walk_at "e"; (intro _h; walk_at "e")
  | (with_reducible apply er_orV); walk_at "e"; (intro _h; walk_at "e")
  | (with_reducible apply er_notV); walk_at "e"
  | (with_reducible apply er_andVT); walk_at "e"; exact rfl; walk_at "e"
  | (with_reducible apply er_orVF); walk_at "e"; exact rfl; walk_at "e"
  | (with_reducible apply er_ix); walk_at "e"; walk_at "e"; exact rfl; walk_at "x"
  | (with_reducible apply er_callS); walk_at "e"; exact rfl; walk_at "d"; exact rfl
  | (with_reducible apply er_cons); walk_at "e"; walk_at "e"
  | (with_reducible apply er_callG); walk_at "e"; exact rfl; exact rfl; walk_at "c"; exact rfl
  | (with_reducible apply er_callH); walk_at "e"; exact rfl; exact rfl; walk_at "c"; exact rfl
  | (with_reducible apply er_callV); walk_at "e"; exact rfl; walk_at "c"; exact rfl
  | (with_reducible apply er_callGF); walk_at "e"; exact rfl; exact rfl; walk_at "c"; exact rfl
  | (with_reducible apply er_callHF); walk_at "e"; exact rfl; exact rfl; walk_at "c"; exact rfl
  | (with_reducible apply er_callM); walk_at "e"; exact rfl; exact rfl; exact rfl; exact rfl; exact rfl; walk_at "c"; exact rfl
  | (with_reducible apply er_catL); walk_at "e"; walk_at "e"; exact rfl; exact rfl; walk_at "z"
  | (with_reducible apply er_mt); walk_at "e"; exact rfl; exact rfl; walk_at "e"; exact rfl; exact rfl; walk_at "m"; exact rfl
  | (with_reducible apply er_tup); walk_at "e"; exact rfl; walk_at "z" 
  | (with_reducible apply er_lst); walk_at "e"; exact rfl; walk_at "z")
local macro_rules | `(tactic| walk_at "o") => `(tactic| first | exact er_zoN | ((with_reducible apply er_zoS); walk_at "e"))
local macro_rules | `(tactic| walk_at "x") => `(tactic| first | with_reducible assumption | (simp only [Cn.d]; with_reducible assumption) | exact rfl)
local macro_rules | `(tactic| walk_at "m") => `(tactic| first | with_reducible assumption | (simp only [Cn.d]; with_reducible assumption) | exact rfl)
local macro_rules | `(tactic| walk_at "st") => `(tactic| first
  | ((with_reducible apply set_dat); (walk_at "e"); (exact rfl); walk_at "l")
  | ((with_reducible apply set_own); (walk_at "e"); (exact Nat.le_of_ble_eq_true rfl); (exact rfl); (exact rfl); walk_at "l")
  | ((with_reducible apply asg_run); (walk_at "e"); (exact rfl); walk_at "l")
  | ((with_reducible apply aug_run); (exact rfl); (exact rfl); (walk_at "e"); (exact rfl); (walk_at "d"); (exact rfl); (exact rfl); walk_at "l")
  | ((with_reducible apply sto_run); (walk_at "e"); (walk_at "e"); (walk_at "e"); (exact rfl); (walk_at "x"); walk_at "l")
  | ((with_reducible apply app_run); (walk_at "e"); (exact rfl); (walk_at "e"); (exact rfl); (exact rfl); (walk_at "z"); walk_at "l"))
local macro_rules | `(tactic| walk_at "z") => `(tactic| first | assumption | exact Nat.le_of_ble_eq_true rfl | (simp; omega))
local macro_rules | `(tactic| walk_at "s") => `(tactic| first
  | with_reducible apply sr_nx
  | with_reducible apply sr_assoc
  | with_reducible apply ap_fg
  | ((with_reducible apply fgK_nx); (exact rfl); (walk_at "l"); skip)
  | ((with_reducible apply fgK_ct); (exact rfl); (walk_at "l"); skip)
  | ((with_reducible apply fgK_bk); (exact rfl); (walk_at "l"); skip)
  | with_reducible apply fgK_ret
  | with_reducible apply sr_bk1
  | with_reducible apply sr_ct1
  | with_reducible apply sr_nx1
  | with_reducible apply sr_ct
  | with_reducible apply sr_bk
  | (with_reducible apply sr_retS); (walk_at "e"); skip
  | (with_reducible apply sr_ret); (walk_at "e"); skip
  | (with_reducible apply sr_if); (walk_at "e"); (walk_at "l")
  | (with_reducible apply sr_if1); (walk_at "e"); (walk_at "l")
  | (with_reducible apply seq_nx); (walk_at "st")
  | (with_reducible apply one_nx); (walk_at "st"))
local macro_rules | `(tactic| walk_at "r") => `(tactic| repeat' (first | (intro _) | walk_at "s"))
local macro_rules | `(tactic| walk_at "k") => `(tactic| (intro q; (try simp only [decide_eq_true_eq, decide_eq_false_iff_not, beq_iff_eq, beq_eq_false_iff_ne, ne_eq, Bool.not_eq_true', Bool.not_eq_false', Bool.and_eq_true, Bool.or_eq_true, Bool.and_eq_false_iff, Bool.or_eq_false_iff, Int.not_lt, Int.not_le, List.cons.injEq, and_true, reduceCtorEq, beq_self_eq_true, Bool.not_true, Bool.not_false, Bool.or_false, Bool.false_or, Bool.or_true, Bool.true_or, Bool.and_false, Bool.false_and, Bool.and_true, Bool.true_and, not_true_eq_false, Bool.false_eq_true] at q) <;> (try (exfalso; first | (cases q; done) | omega | contradiction))))
local macro_rules | `(tactic| walk_at "w") => `(tactic| repeat' (first | (walk_at "k") | walk_at "s"))
def VW (v : D) : Prop := match v with
  | .non => True
  | .bl _ => True
  | .int i => i.natAbs ≤ 10 ^ 15
  | .str t => t.length ≤ 10000 ∧ ∀ c ∈ t, c < 128
  | _ => False
theorem VW.scal {v : D} (h : VW v) : v.scal = true := by cases v <;> first | exact h.elim | rfl
theorem VW.rok {v : D} (h : VW v) : v.rok = true ∧ v.dp = 0 := by
  cases v with
  | non => exact ⟨rfl, rfl⟩
  | bl b => exact ⟨rfl, rfl⟩
  | int i => exact ⟨decide_eq_true (Nat.lt_of_le_of_lt (show i.natAbs ≤ 10 ^ 15 from h) (by decide)), rfl⟩
  | str t =>
    obtain ⟨h1, h2⟩ := (show t.length ≤ 10000 ∧ ∀ c ∈ t, c < 128 from h)
    refine ⟨?_, rfl⟩
    show (t.all fun c => decide (c < 1114112)) = true
    rw [List.all_eq_true]
    intro c hc
    exact decide_eq_true (Nat.lt_trans (h2 c hc) (by decide))
  | tup _ => exact h.elim
  | lst _ => exact h.elim
  | raw _ => exact h.elim
  | dic _ _ => exact h.elim
  | obj _ _ _ => exact h.elim
theorem rk_rokW {v : D} (h : VW v) : (rk v).rok = true ∧ (rk v).dp = 1 ∧ True := by
  have f := h.rok
  cases v with
  | non => exact ⟨by decide, rfl, trivial⟩
  | bl b => cases b <;> exact ⟨by decide, rfl, trivial⟩
  | int i =>
    refine ⟨?_, rfl, trivial⟩
    show (decide ((2 : Int).natAbs < 10 ^ 60) && ((D.int i).rok && true)) = true
    rw [f.1, decide_eq_true (by decide)]; rfl
  | str t =>
    refine ⟨?_, rfl, trivial⟩
    show (decide ((3 : Int).natAbs < 10 ^ 60) && ((D.str t).rok && true)) = true
    rw [f.1, decide_eq_true (by decide)]; rfl
  | tup _ => exact h.elim
  | lst _ => exact h.elim
  | raw _ => exact h.elim
  | dic _ _ => exact h.elim
  | obj _ _ _ => exact h.elim
theorem rks_rokW : ∀ {L : List D}, (∀ v ∈ L, VW v) → D.rokA (L.map rk) = true ∧ D.dpA (L.map rk) ≤ 1 ∧ True
  | [], _ => ⟨rfl, Nat.zero_le _, trivial⟩
  | v :: L, h => by
    obtain ⟨a, b, _⟩ := rks_rokW (L := L) fun x hx => h x (List.mem_cons_of_mem _ hx)
    obtain ⟨a1, b1, _⟩ := rk_rokW (h v List.mem_cons_self)
    refine ⟨?_, ?_, trivial⟩
    · show ((rk v).rok && D.rokA (L.map rk)) = true
      rw [a1, a]; rfl
    · show max (rk v).dp (D.dpA (L.map rk)) ≤ 1
      omega
theorem kx_sameW {v w : D} (hv : VW v) (hw : VW w) (h : kd v = kd w) : (∃ i j, kx v = .int i ∧ kx w = .int j) ∨ ∃ x y, kx v = .str x ∧ kx w = .str y := by
  cases v <;> cases w <;> first
    | exact hv.elim
    | exact hw.elim
    | exact .inl ⟨_, _, rfl, rfl⟩
    | exact .inr ⟨_, _, rfl, rfl⟩
    | cases h
theorem ltT_rkW {v w : D} (hv : VW v) (hw : VW w) (ne : sameV v w = false) : ltT (rk v) (rk w) = some (ltV v w) := by
  rw [sameV_eq] at ne
  show ltTs [.int (kd v : Nat), kx v] [.int (kd w : Nat), kx w] = _
  unfold ltV
  by_cases c : kd v = kd w
  · rw [if_pos c]
    rw [decide_eq_true c, Bool.true_and] at ne
    have e0 : D.eqv (.int (kd v : Nat)) (.int (kd w : Nat)) = true := by rw [c]; exact beq_self_eq_true _
    simp only [ltTs, e0, if_true, ne, Bool.false_eq_true, if_false]
    rcases kx_sameW hv hw c with ⟨i, j, e1, e2⟩ | ⟨i, j, e1, e2⟩
    · rw [e1, e2]; rfl
    · rw [e1, e2]; rfl
  · rw [if_neg c]
    have e0 : D.eqv (.int (kd v : Nat)) (.int (kd w : Nat)) = false := by
      show (((kd v : Nat) : Int) == ((kd w : Nat) : Int)) = false
      rw [beq_eq_false_iff_ne]
      omega
    simp only [ltTs, e0, Bool.false_eq_true, if_false]
    show some (decide (((kd v : Nat) : Int) < ((kd w : Nat) : Int))) = some (decide (kd v < kd w))
    congr 1
    rw [Bool.eq_iff_iff]
    simp
theorem triVW {v w : D} (hv : VW v) (hw : VW w) : sameV v w = (!ltV v w && !ltV w v) := by
  rw [sameV_eq]
  unfold ltV
  by_cases c : kd v = kd w
  · rw [if_pos c, if_pos c.symm, decide_eq_true c, Bool.true_and]
    rcases kx_sameW hv hw c with ⟨i, j, e1, e2⟩ | ⟨i, j, e1, e2⟩
    · rw [e1, e2]
      show (i == j) = (!decide (i < j) && !decide (j < i))
      rw [Bool.eq_iff_iff]
      simp
      omega
    · rw [e1, e2]
      show (i == j) = (!decide (i < j) && !decide (j < i))
      rw [Bool.eq_iff_iff]
      have := natL_tri i j
      simp only [beq_iff_eq, Bool.and_eq_true, Bool.not_eq_true', decide_eq_false_iff_not]
      exact this
  · rw [if_neg c, if_neg (fun h => c h.symm), decide_eq_false c, Bool.false_and]
    rcases Nat.lt_or_gt_of_ne c with h | h
    · rw [decide_eq_true h]; rfl
    · rw [decide_eq_true (show kd w < kd v from h), Bool.not_true, Bool.and_false]
theorem eq_rkW {v w : D} (hv : VW v) (hw : VW w) : eqD (rk v) (rk w) = some (.bl (sameV v w)) := by
  obtain ⟨a1, b1, _⟩ := rk_rokW hv
  obtain ⟨a2, b2, _⟩ := rk_rokW hw
  exact dr_eqR a1 (by omega) a2 (by omega)
theorem lt_rkW {v w : D} (hv : VW v) (hw : VW w) : ltX (rk v) (rk w) = some (.bl (ltR [v] [w])) := by
  obtain ⟨a1, b1, _⟩ := rk_rokW hv
  obtain ⟨a2, b2, _⟩ := rk_rokW hw
  have s1 := rok_shp a1 (by omega)
  have s2 := rok_shp a2 (by omega)
  show (if ((rk v).shp && (rk w).shp) = true then (ltT (rk v) (rk w)).map D.bl else none) = _
  rw [s1, s2, if_pos (show (true && true) = true from rfl)]
  show (ltT (rk v) (rk w)).map D.bl = some (.bl (if sameV v w = true then false else ltV v w))
  by_cases c : sameV v w = true
  · rw [if_pos c]
    have c2 := c
    rw [sameV_eq, Bool.and_eq_true] at c2
    have e0 : D.eqv (.int (kd v : Nat)) (.int (kd w : Nat)) = true := by rw [of_decide_eq_true c2.1]; exact beq_self_eq_true _
    show (ltTs [.int (kd v : Nat), kx v] [.int (kd w : Nat), kx w]).map D.bl = _
    simp only [ltTs, e0, if_true, c2.2]
    rfl
  · rw [if_neg c, ltT_rkW hv hw (Bool.eq_false_iff.mpr c)]; rfl
theorem ltR1W {v w : D} (hv : VW v) (hw : VW w) : ltR [v] [w] = ltV v w := by
  show (if sameV v w = true then false else ltV v w) = _
  have t := triVW hv hw
  cases h : sameV v w with
  | true =>
    rw [h] at t
    have := (Bool.and_eq_true _ _ ▸ t.symm).1
    rw [if_pos rfl]
    simpa using this.symm
  | false => rw [if_neg Bool.false_ne_true]
end Z
set_option Elab.async false
set_option linter.all false
set_option maxRecDepth 100000
set_option maxHeartbeats 4000000
namespace Z
open PySem PySem.Spec PyProof.Rows L2
section
variable {P : Program} {w : World} {A : Around} {E : Value → Shared → Prop} {s : Shared}
abbrev setNew (w : World) : Obj := { cls := .type "set", dict := none, data := .set #[] 0 (.fresh 0 0 (!w.params.followText "set-order")) }
abbrev withSet (w : World) (s : Shared) : Shared := { s with heap := s.heap.push (setNew w) }
end
/-- an object beside all slots -/
theorem Ok.junk {C : Ct} {Hs : Hp} {A : List Addr} {g : List Sl} {σ : L2.St} {H : Hp} {p : Addr} {o : HO} (ok : Ok C Hs A g σ H) (h : H p = none) : Ok C Hs A g σ (upd H p o) := (ok.hold h).unhold (ok.fresh0 h).2
end Z
set_option Elab.async false
set_option linter.all false
set_option maxRecDepth 100000
set_option maxHeartbeats 4000000
namespace Z
open PySem PySem.Spec PyProof.Rows L2
section
variable {X : Cx} {o e a b : Expr} {apos pos : Pos} {mo me ma mb : ZM}
def blsD : List D → Option (List Bool)
  | [] => some []
  | .bl x :: r => do
    let t ← blsD r
    some (x :: t)
  | _ :: _ => none
theorem dzA_bls {K : PySem.W.Frag} {H : Hp} : ∀ {vs : List V} {ds : List D} {bs : List Bool}, DzA K H vs ds → blsD ds = some bs → vs = bs.map V.bl
  | [], [], bs, _, e => by cases e; rfl
  | _ :: _, [], _, h, _ => by cases h
  | [], _ :: _, _, h, _ => by cases h
  | v :: vs, d :: ds, bs, h, e => by
    cases h with
    | cons h1 h2 =>
      cases d with
      | bl x =>
        simp only [blsD, Option.bind_eq_bind, Option.bind_eq_some_iff] at e
        obtain ⟨t, e1, e⟩ := e
        cases e
        cases h1
        rw [dzA_bls h2 e1]
        rfl
      | _ => cases e
theorem blsD_of : ∀ bs : List Bool, blsD (bs.map D.bl) = some bs
  | [] => rfl
  | b :: bs => by simp only [List.map_cons, blsD, blsD_of bs, Option.bind_eq_bind, Option.bind_some]
def allL : List D → Option D
  | [.lst l] => (blsD l).map fun bs => .bl (bs.all id)
  | _ => none
def anyL : List D → Option D
  | [.lst l] => (blsD l).map fun bs => .bl (bs.any id)
  | _ => none
theorem s_allL {K : PySem.W.Frag} : CallS K (rAll K) allL := by
  intro H vs ds z Q hz ev q
  unfold allL at ev
  split at ev
  · rw [Option.map_eq_some_iff] at ev
    obtain ⟨bs, h1, rfl⟩ := ev
    cases hz with
    | cons h t =>
      cases t
      cases h with
      | lst hs ha => exact ⟨_, bs, rfl, by rw [← dzA_bls ha h1]; exact hs, q⟩
  · cases ev
theorem s_anyL {K : PySem.W.Frag} : CallS K (rAny K) anyL := by
  intro H vs ds z Q hz ev q
  unfold anyL at ev
  split at ev
  · rw [Option.map_eq_some_iff] at ev
    obtain ⟨bs, h1, rfl⟩ := ev
    cases hz with
    | cons h t =>
      cases t
      cases h with
      | lst hs ha => exact ⟨_, bs, rfl, by rw [← dzA_bls ha h1]; exact hs, q⟩
  · cases ev
end
section
variable {mo me ma mb : ZM} {mr : ZAr} {g g1 g2 : G} {r : R} {rs : List R} {n : Nat}
theorem er_slT {ml mh : ZO} {lo hi : Option Int} {l : List D} {g3 : G} (h1 : ma g = some (.dat (.tup l), g1)) (h2 : ml g1 = some (lo, g2)) (h3 : mh g2 = some (hi, g3)) : zSl ma ml mh g = some (.dat (.tup (cutL l lo hi)), g3) := by
  unfold zSl; simp only [h1, h2, h3, rd, Option.bind_eq_bind, Option.bind_some]
theorem forL_all {st : SM} {tg : TD} : ∀ {L : List D}, (∀ d ∈ L, ∃ g1, tg d g = some g1 ∧ st g1 = some (.nx, g)) → forL tg st L g = some (.nx, g)
  | [], _ => rfl
  | d :: L, h => by
    obtain ⟨g1, h1, h2⟩ := h d List.mem_cons_self
    exact forL_nx h1 h2 (forL_all fun x hx => h x (List.mem_cons_of_mem _ hx))
end
end Z
set_option Elab.async false
set_option linter.all false
set_option maxRecDepth 100000
set_option maxHeartbeats 4000000
namespace Z
open PySem PySem.Spec PyProof.Rows L2
def ziU (n : Nat) (m : ZM) : MI := fun g => match m g with
  | some (.dat (.tup _), _) => ziT m g
  | some (.dat (.str _), _) => ziS m g
  | _ => ziL n m g
theorem zi_any {X : Cx} {tg l : Expr} {m : ZM} (hl : ZE X l m) : ZI X tg l (ziU X.N.length m) := by
  refine ⟨fun pins s σ H Rr I ⟨C, Hs, A, g, L, lk, g', hK, hn, ok, e, q⟩ => ?_⟩
  unfold ziU at e
  split at e
  · exact (zi_tup hl).run pins s σ H Rr I ⟨C, Hs, A, g, L, lk, g', hK, hn, ok, e, q⟩
  · exact (zi_str hl).run pins s σ H Rr I ⟨C, Hs, A, g, L, lk, g', hK, hn, ok, e, q⟩
  · exact (zi_list hl).run pins s σ H Rr I ⟨C, Hs, A, g, L, lk, g', hK, hn, ok, e, q⟩
section
variable {m : ZM} {g g1 : G} {n j : Nat}
theorem mi_UT {L : List D} (h1 : m g = some (.dat (.tup L), g1)) : ziU n m g = some (L, none, g1) := by
  unfold ziU; rw [h1]; exact mi_T h1
theorem mi_Ud {L : List D} (h1 : m g = some (.dat (.lst L), g1)) : ziU n m g = some (L, none, g1) := by
  unfold ziU; rw [h1]; exact mi_Ld h1
end
end Z
set_option Elab.async false
set_option linter.all false
set_option maxRecDepth 100000
set_option maxHeartbeats 4000000
namespace Z
open PySem PySem.Spec PyProof.Rows L2
end Z
set_option Elab.async false
set_option linter.all false
set_option maxRecDepth 100000
set_option maxHeartbeats 4000000
namespace Z
open PySem PySem.Spec PyProof.Rows L2
end Z
set_option Elab.async false
set_option linter.all false
set_option maxRecDepth 100000
set_option maxHeartbeats 4000000
namespace PySem
open Sem (wp)
end PySem
namespace Z
open PySem PySem.Spec PyProof.Rows L2
end Z
set_option Elab.async false
set_option linter.all false
set_option maxRecDepth 100000
set_option maxHeartbeats 4000000
namespace Z
open PySem PySem.Spec PyProof.Rows L2
end Z
namespace Z
open PySem PySem.Spec PyProof.Rows L2
end Z
set_option Elab.async false
set_option linter.all false
set_option maxRecDepth 100000
set_option maxHeartbeats 4000000
namespace Z
open PySem PySem.Spec PyProof.Rows L2
end Z
set_option Elab.async false
set_option linter.all false
set_option maxRecDepth 100000
set_option maxHeartbeats 4000000
namespace Z
open PySem PySem.Spec PyProof.Rows L2
section
variable {C : Ct} {Hs : Hp} {A : List Addr} {g g' : List Sl} {σ : L2.St} {H H' : Hp} {j : Nat}
/-- the slot j's rows changed, the others stay -/
theorem RwOk.stepJ (w : RwOk C Hs A g σ H) {a : Addr} {ks ks' : List Addr} {ls ls' : List (List D)} (ej : g[j]? = some (.rws ls)) (haj : A[j]? = some a) (kj : Kd C.K Hs C.H0 H a ks ls) (kj' : Kd C.K Hs C.H0 H' a ks' ls')
    (hx : ∀ x o, H x = some o → x ∉ a :: ks → (∀ (i : Nat) (c : Cn) (p l : Bool), g[i]? = some (.own c p l) → A[i]? ≠ some x) → H' x = some o)
    (hg : ∀ (i : Nat) (ms : List (List D)), g'[i]? = some (.rws ms) → (i = j ∧ ms = ls') ∨ (i ≠ j ∧ g[i]? = some (.rws ms)))
    (ho : ∀ (i : Nat) (c : Cn) (p l : Bool), g'[i]? = some (.own c p l) → (∃ c0 : Cn, g[i]? = some (.own c0 p l)) ∧ ∀ b, A[i]? = some b → b ∉ a :: ks')
    (hks : ∀ x ∈ a :: ks', x ∈ a :: ks ∨ ∃ (t : Nat) (c : Cn) (p l : Bool), g[t]? = some (.own c p l) ∧ A[t]? = some x) : RwOk C Hs A g' σ H' := by
  obtain ⟨a0, ks0, t1, t2, t3, t4, t5⟩ := w j ls ej
  rw [haj] at t1
  cases t1
  have ek : ks0 = ks := by
    have e := t3.hd.symm.trans kj.hd
    have e : ks0.map V.ref = ks.map V.ref := by injection (Option.some.inj e)
    exact List.map_inj_right (fun _ _ h => by injection h) |>.mp e
  subst ek
  -- of another slot
  have oth : ∀ (i : Nat) (ms : List (List D)) (b : Addr) (bs : List Addr), i ≠ j → g[i]? = some (.rws ms) → A[i]? = some b → Kd C.K Hs C.H0 H b bs ms →
      (∀ (k : Nat) (c : Cn) (p l : Bool) (y : Addr), g[k]? = some (.own c p l) → A[k]? = some y → y ∉ b :: bs) → ∀ x ∈ b :: bs, x ∉ a :: ks0 ∧ ∀ o, H x = some o → H' x = some o := fun i ms b bs ne e eb kb no x m => by
    have n1 : x ∉ a :: ks0 := fun m2 => ne (t5 i ms b x e eb (by rw [kb.hd, kidsOf_refs]; exact m) m2)
    exact ⟨n1, fun o q => hx x o q n1 fun k c p l hk z => no k c p l x hk z m⟩
  have ntk : ∀ (i : Nat) (ms : List (List D)) (b : Addr) (bs : List Addr), i ≠ j → g[i]? = some (.rws ms) → A[i]? = some b → Kd C.K Hs C.H0 H b bs ms →
      (∀ (k : Nat) (c : Cn) (p l : Bool) (y : Addr), g[k]? = some (.own c p l) → A[k]? = some y → y ∉ b :: bs) → ∀ x ∈ b :: bs, x ∉ a :: ks' := fun i ms b bs ne e eb kb no x m m2 => by
    rcases hks x m2 with z | ⟨t, c, p, l, z1, z2⟩
    · exact (oth i ms b bs ne e eb kb no x m).1 z
    · exact no t c p l x z1 z2 m
  intro i ms e
  rcases hg i ms e with ⟨ei, em⟩ | ⟨ne, e⟩
  · subst ei
    subst em
    refine ⟨a, ks', haj, t2, kj', fun k c p l y ek ay => (ho k c p l ek).2 y ay, fun k ns y x ek ay m1 m2 => ?_⟩
    rcases hg k ns ek with ⟨z, _⟩ | ⟨nk, ek⟩
    · exact z
    · obtain ⟨b, bs, r1, _, r3, r4, _⟩ := w k ns ek
      rw [ay] at r1
      cases r1
      rw [(oth k ns y bs nk ek ay r3 r4 y List.mem_cons_self).2 _ r3.hd, kidsOf_refs] at m1
      exact (ntk k ns y bs nk ek ay r3 r4 x m1 m2).elim
  · obtain ⟨b, bs, r1, r2, r3, r4, r5⟩ := w i ms e
    have ot := oth i ms b bs ne e r1 r3 r4
    refine ⟨b, bs, r1, r2, ⟨(ot b List.mem_cons_self).2 _ r3.hd, r3.nd, r3.fr, r3.kd.move (Same.refl _) fun x m => (ot x (List.mem_cons_of_mem _ m)).2⟩, fun k c p l y ek ay => ?_, fun k ns y x ek ay m1 m2 => ?_⟩
    · obtain ⟨c0, z⟩ := (ho k c p l ek).1
      exact r4 k c0 p l y z ay
    · rcases hg k ns ek with ⟨z, _⟩ | ⟨nk, ek⟩
      · subst z
        rw [haj] at ay
        cases ay
        rw [kj'.hd, kidsOf_refs] at m1
        exact (ntk i ms b bs ne e r1 r3 r4 x m2 m1).elim
      · obtain ⟨y', ys, q1, _, q3, q4, _⟩ := w k ns ek
        rw [ay] at q1
        cases q1
        rw [(oth k ns y ys nk ek ay q3 q4 y List.mem_cons_self).2 _ q3.hd, ← q3.hd] at m1
        exact r5 k ns y x ek ay m1 m2
/-- a heap changed at things that nobody else knows -/
theorem Ok.chR (ok : Ok C Hs A g σ H) (hl : g'.length = g.length) {F : Addr → Prop} (hF : ∀ x, F x → Hs x = none ∧ C.H0 x = none) (hH : ∀ x, ¬ F x → H' x = H x)
    (hnF : ∀ (i : Nat) (c : Cn) (p l : Bool) (b : Addr), g'[i]? = some (.own c p l) → A[i]? = some b → ¬ F b)
    (hd : ∀ (i : Nat) (d : D), g'[i]? = some (.dat d) → g[i]? = some (.dat d)) (hf : ∀ (i : Nat) (d : D), g'[i]? = some (.frz d) → g[i]? = some (.frz d)) (ho : ∀ (i : Nat) (c : Cn) (p l : Bool), g'[i]? = some (.own c p l) → g[i]? = some (.own c p l))
    (hp : ∀ (i : Nat) (c : Cn) (l : Bool), g[i]? = some (.own c true l) → g'[i]? = some (.own c true l)) (hk : ∀ (i : Nat) (c : Cn) (p : Bool), g[i]? = some (.own c p true) → g'[i]? = some (.own c p true)) (hr : RwOk C Hs A g' σ H') : Ok C Hs A g' σ H' := by
  refine ⟨ok.ln, by rw [hl]; exact ok.lg, by rw [hl]; exact ok.la, ok.base, fun b o e => ?_, fun i d e => ok.dat i d (hd i d e), fun i d e => ok.frz i d (hf i d e), fun i c p l e => ?_, fun i k c1 p1 l1 c2 p2 l2 a' e1 e2 h1 h2 => ok.inj i k _ _ _ _ _ _ a' (ho _ _ _ _ e1) (ho _ _ _ _ e2) h1 h2, ok.grow, fun b o e k => ?_, fun q hq => ?_, fun i c l a' e ha => ok.pin1 i c l a' (ho _ _ _ _ e) ha, fun q hq => ?_, hr⟩
  · rw [hH b (fun z => by rw [(hF b z).1] at e; cases e)]
    exact ok.same b o e
  · obtain ⟨a, o, q1, q2, q3, q4, q5⟩ := ok.own i c p l (ho _ _ _ _ e)
    exact ⟨a, o, q1, q2, q3, by rw [hH a (hnF i c p l a e q1)]; exact q4, q5⟩
  · rw [hH b (fun z => by rw [(hF b z).2] at e; cases e)]
    exact ok.keep b o e k
  · obtain ⟨c, l, h1, h2⟩ := ok.pinned q hq
    exact ⟨c, l, hp _ _ _ h1, h2⟩
  · obtain ⟨p, h1, h2⟩ := ok.locked q hq
    exact ⟨p, hk _ _ _ h1, h2⟩
theorem KdOk.at {K : PySem.W.Frag} {Hs H : Hp} : ∀ {ks : List Addr} {ls : List (List D)} {k : Nat} {b : Addr}, KdOk K Hs H ks ls → ks[k]? = some b → ∃ l us, ls[k]? = some l ∧ H b = some (.lst us) ∧ DzA K Hs us l
  | b :: bs, l :: ls, 0, _, h, e => by
    cases e
    obtain ⟨us, h1, h2⟩ := h.1
    exact ⟨l, us, rfl, h1, h2⟩
  | b :: bs, l :: ls, k + 1, _, h, e => KdOk.at (k := k) h.2 e
  | [], _, k, _, _, e => by simp at e
  | _ :: _, [], _, _, h, _ => h.elim
theorem KdOk.put {K : PySem.W.Frag} {Hs H : Hp} {l' : List D} {us' : List V} (hz : DzA K Hs us' l') : ∀ {ks : List Addr} {ls : List (List D)} {k : Nat} {b : Addr}, KdOk K Hs H ks ls → ks.Nodup → ks[k]? = some b → KdOk K Hs (upd H b (.lst us')) ks (ls.set k l')
  | b :: bs, l :: ls, 0, _, h, nd, e => by
    cases e
    have nd := List.nodup_cons.mp nd
    exact ⟨⟨us', upd_same, hz⟩, KdOk.move (Same.refl _) h.2 fun x m o q => by rw [upd_ne (fun z => nd.1 (by rw [← z]; exact m))]; exact q⟩
  | b :: bs, l :: ls, k + 1, b', h, nd, e => by
    have nd := List.nodup_cons.mp nd
    have m : b' ∈ bs := List.mem_of_getElem? (i := k) e
    obtain ⟨us, h1, h2⟩ := h.1
    exact ⟨⟨us, by rw [upd_ne (fun z => nd.1 (by rw [z]; exact m))]; exact h1, h2⟩, KdOk.put (k := k) hz h.2 nd.2 e⟩
  | [], _, k, _, _, _, e => by simp at e
  | _ :: _, [], _, _, h, _, _ => h.elim
theorem KdOk.snoc {K : PySem.W.Frag} {Hs H : Hp} {b : Addr} {us : List V} {l : List D} (e : H b = some (.lst us)) (z : DzA K Hs us l) : ∀ {ks : List Addr} {ls : List (List D)}, KdOk K Hs H ks ls → KdOk K Hs H (ks ++ [b]) (ls ++ [l])
  | [], [], _ => ⟨⟨us, e, z⟩, trivial⟩
  | _ :: _, _ :: _, h => ⟨h.1, KdOk.snoc e z h.2⟩
  | [], _ :: _, h => h.elim
  | _ :: _, [], h => h.elim
/-- an own list goes to the rows -/
theorem Ok.pushR (ok : Ok C Hs A g σ H) {t : Nat} {a b : Addr} {ks : List Addr} {ls : List (List D)} {us : List D} (e : g[j]? = some (.rws ls)) (ha : A[j]? = some a) (hH : H a = some (.lst (ks.map V.ref))) (et : g[t]? = some (.own (.lst us) false false)) (hb : A[t]? = some b) :
    Ok C Hs A ((g.set j (.rws (ls ++ [us]))).set t .un) σ (upd H a (.lst (ks.map V.ref ++ [.ref b]))) := by
  obtain ⟨a0, ks0, t1, t2, t3, t4, t5⟩ := ok.rws j ls e
  rw [ha] at t1
  cases t1
  have ek : ks0 = ks := by
    have e := t3.hd.symm.trans hH
    have e : ks0.map V.ref = ks.map V.ref := by injection (Option.some.inj e)
    exact List.map_inj_right (fun _ _ h => by injection h) |>.mp e
  subst ek
  have nb : b ∉ a :: ks0 := t4 t _ _ _ b et hb
  have nab : b ≠ a := fun z => nb (z ▸ List.mem_cons_self)
  obtain ⟨b0, o, u1, _, u3, u4, u5, u6⟩ := ok.own t _ _ _ et
  rw [hb] at u1
  cases u1
  obtain ⟨vs, eo, uz⟩ := u5.lst_inv
  subst eo
  have old : ∀ {i : Nat} {s : Sl}, ((g.set j (.rws (ls ++ [us]))).set t .un)[i]? = some s → (i = t ∧ s = .un) ∨ (i = j ∧ s = .rws (ls ++ [us])) ∨ (i ≠ t ∧ i ≠ j ∧ g[i]? = some s) := fun {i s} e => by
    rcases set_some e with ⟨ei, e, _⟩ | ⟨ne, e⟩
    · exact .inl ⟨ei, e⟩
    · rcases set_some e with ⟨ei, e, _⟩ | ⟨ne2, e⟩
      · exact .inr (.inl ⟨ei, e⟩)
      · exact .inr (.inr ⟨ne, ne2, e⟩)
  have own' : ∀ (i : Nat) (c : Cn) (p l : Bool), ((g.set j (.rws (ls ++ [us]))).set t .un)[i]? = some (.own c p l) → i ≠ t ∧ g[i]? = some (.own c p l) := fun i c p l e => by
    rcases old e with ⟨_, e⟩ | ⟨_, e⟩ | ⟨nt, _, e⟩
    · cases e
    · cases e
    · exact ⟨nt, e⟩
  have keepO : ∀ (i : Nat) (c : Cn) (p l : Bool), (p = true ∨ l = true) → g[i]? = some (.own c p l) → ((g.set j (.rws (ls ++ [us]))).set t .un)[i]? = some (.own c p l) := fun i c p l pl q => by
    rw [List.getElem?_set_ne (fun z => by rw [← z, et] at q; cases q; rcases pl with z | z <;> cases z), List.getElem?_set_ne (fun z => by rw [← z, e] at q; cases q)]
    exact q
  have hj := (List.getElem?_eq_some_iff.mp e).1
  refine ok.chR (F := fun x => x = a) (by rw [List.length_set, List.length_set]) (fun x z => by rw [z]; exact t3.fr a List.mem_cons_self) (fun x z => upd_ne z) (fun i c p l y q1 q2 z => t4 i c p l y (own' _ _ _ _ q1).2 q2 (by rw [z]; exact List.mem_cons_self)) (fun i d q => ?_) (fun i d q => ?_) (fun i c p l q => (own' _ _ _ _ q).2) (fun i c l q => keepO _ _ _ _ (.inl rfl) q) (fun i c p q => keepO _ _ _ _ (.inr rfl) q) ?_
  · rcases old q with ⟨_, q⟩ | ⟨_, q⟩ | ⟨_, _, q⟩
    · cases q
    · cases q
    · exact q
  · rcases old q with ⟨_, q⟩ | ⟨_, q⟩ | ⟨_, _, q⟩
    · cases q
    · cases q
    · exact q
  · have nd := List.nodup_cons.mp t3.nd
    have k2 : KdOk C.K Hs (upd H a (.lst (ks0.map V.ref ++ [.ref b]))) ks0 ls := t3.kd.move (Same.refl _) fun x m o q => by rw [upd_ne (fun z => nd.1 (by rw [← z]; exact m))]; exact q
    refine RwOk.stepJ ok.rws (ks' := ks0 ++ [b]) (ls' := ls ++ [us]) e ha t3 ⟨by rw [upd_same, List.map_append]; rfl, ?_, fun x m => ?_, k2.snoc (b := b) (us := vs) (by rw [upd_ne nab]; exact u4) uz⟩ (fun x o q n _ => by rw [upd_ne (fun z => n (by rw [z]; exact List.mem_cons_self))]; exact q) (fun i ms q => ?_) (fun i c p l q => ?_) (fun x m => ?_)
    · rw [← List.cons_append, List.nodup_append]
      refine ⟨t3.nd, by simp, fun x m y my z => ?_⟩
      rw [List.mem_singleton] at my
      subst my
      exact nb (z ▸ m)
    · rw [← List.cons_append] at m
      rcases List.mem_append.mp m with m | m
      · exact t3.fr x m
      · rw [List.mem_singleton.mp m]
        exact ⟨u3, u6 rfl⟩
    · rcases old q with ⟨_, q⟩ | ⟨ei, q⟩ | ⟨_, ne, q⟩
      · cases q
      · cases q; exact .inl ⟨ei, rfl⟩
      · exact .inr ⟨ne, q⟩
    · obtain ⟨nt, q⟩ := own' _ _ _ _ q
      refine ⟨⟨c, q⟩, fun y hy m => ?_⟩
      rw [← List.cons_append] at m
      rcases List.mem_append.mp m with m | m
      · exact t4 i c p l y q hy m
      · rw [List.mem_singleton] at m
        subst m
        exact nt (ok.inj i t _ _ _ _ _ _ y q et hy hb)
    · rw [← List.cons_append] at m
      rcases List.mem_append.mp m with m | m
      · exact .inl m
      · rw [List.mem_singleton] at m
        subst m
        exact .inr ⟨t, _, _, _, et, hb⟩
/-- an own list without elements may hold rows -/
theorem Ok.toR (ok : Ok C Hs A g σ H) (e : g[j]? = some (.own (.lst []) false false)) : Ok C Hs A (g.set j (.rws [])) σ H := by
  obtain ⟨a, o, u1, u2, u3, u4, u5, u6⟩ := ok.own j _ _ _ e
  obtain ⟨vs, eo, uz⟩ := u5.lst_inv
  subst eo
  cases uz
  have old : ∀ {i : Nat} {s : Sl}, (g.set j (.rws []))[i]? = some s → (i = j ∧ s = .rws []) ∨ (i ≠ j ∧ g[i]? = some s) := fun {i s} e => by
    rcases set_some e with ⟨ei, e, _⟩ | ⟨ne, e⟩
    · exact .inl ⟨ei, e⟩
    · exact .inr ⟨ne, e⟩
  have own' : ∀ (i : Nat) (c : Cn) (p l : Bool), (g.set j (.rws []))[i]? = some (.own c p l) → i ≠ j ∧ g[i]? = some (.own c p l) := fun i c p l e => by
    rcases old e with ⟨_, e⟩ | ⟨ne, e⟩
    · cases e
    · exact ⟨ne, e⟩
  have keepO : ∀ (i : Nat) (c : Cn) (p l : Bool), (p = true ∨ l = true) → g[i]? = some (.own c p l) → (g.set j (.rws []))[i]? = some (.own c p l) := fun i c p l pl q => by
    rw [List.getElem?_set_ne (fun z => by rw [← z, e] at q; cases q; rcases pl with z | z <;> cases z)]
    exact q
  refine ok.chR (F := fun _ => False) (by rw [List.length_set]) (fun x z => z.elim) (fun x _ => rfl) (fun _ _ _ _ _ _ _ z => z) (fun i d q => ?_) (fun i d q => ?_) (fun i c p l q => (own' _ _ _ _ q).2) (fun i c l q => keepO _ _ _ _ (.inl rfl) q) (fun i c p q => keepO _ _ _ _ (.inr rfl) q) (fun i ms q => ?_)
  · rcases old q with ⟨_, q⟩ | ⟨_, q⟩
    · cases q
    · exact q
  · rcases old q with ⟨_, q⟩ | ⟨_, q⟩
    · cases q
    · exact q
  · rcases old q with ⟨ei, q⟩ | ⟨ne, q⟩
    · cases q
      subst ei
      refine ⟨a, [], u1, u2, ⟨u4, by simp, fun x m => ?_, trivial⟩, fun k c p l y ek ay m => ?_, fun k ns y x ek ay m1 m2 => ?_⟩
      · rw [List.mem_singleton.mp m]
        exact ⟨u3, u6 rfl⟩
      · rw [List.mem_singleton] at m
        subst m
        obtain ⟨nk, ek⟩ := own' _ _ _ _ ek
        exact nk (ok.inj k i _ _ _ _ _ _ y ek e ay u1)
      · rw [List.mem_singleton] at m2
        subst m2
        rcases old ek with ⟨z, _⟩ | ⟨nk, ek⟩
        · exact z
        · obtain ⟨b, bs, r1, _, r3, r4, _⟩ := ok.rws k ns ek
          rw [ay] at r1
          cases r1
          rw [r3.hd, kidsOf_refs] at m1
          exact (r4 i _ _ _ x e u1 m1).elim
    · obtain ⟨b, bs, r1, r2, r3, r4, r5⟩ := ok.rws i ms q
      refine ⟨b, bs, r1, r2, r3, fun k c p l y ek ay => r4 k c p l y (own' _ _ _ _ ek).2 ay, fun k ns y x ek ay m1 m2 => ?_⟩
      rcases old ek with ⟨z, ek⟩ | ⟨nk, ek⟩
      · cases ek
        subst z
        rw [u1] at ay
        cases ay
        rw [u4] at m1
        rw [show kidsOf (some (.lst [])) = [] from rfl, List.mem_singleton] at m1
        subst m1
        exact (r4 k _ _ _ x e u1 m2).elim
      · exact r5 k ns y x ek ay m1 m2
end
end Z
set_option Elab.async false
set_option linter.all false
set_option maxRecDepth 100000
set_option maxHeartbeats 4000000
namespace Z
open PySem PySem.Spec PyProof.Rows L2
/-- an empty list that is to hold rows -/
def zAsR (i : Nat) (s : SM) : SM := fun g => match s g with
  | some (.nx, g') => match g'[i]? with
    | some (.own (.lst []) false false) => some (.nx, g'.set i (.rws []))
    | _ => none
  | _ => none
section
variable {X : Cx} {pos : Pos} {st : Stmt} {s : SM}
theorem zs_asR {i : Nat} (h : ZS X st s) : ZS X st (zAsR i s) := by
  refine PS.of h fun W σ H ⟨C, Hs, A, g, fl, g', hK, hn, ok, e, q⟩ => ?_
  unfold zAsR at e
  split at e
  · rename_i g1 h1
    split at e
    · rename_i hg
      cases e
      exact ⟨C, Hs, A, g, .nx, g1, hK, hn, ok, h1, fun Hs' A' σ' H' s ok' => q Hs' A' σ' H' s (ok'.toR hg)⟩
    · cases e
  · cases e
/-- xs.append(e): e a list of its own -/
def zAppR (n : Nat) (mo me : ZM) : SM := fun g => do
  let (ro, g1) ← mo g
  match ro with
  | .bor j => match g1[j]? with
    | some (.rws _) => do
      let (re, g2) ← me g1
      match re with
      | .bor t => match g2[t]? with
        | some (.own (.lst us) false false) => match g2[j]? with
          | some (.rws ls) => if ls.length < sizeLine then some (.nx, ((g2.set j (.rws (ls ++ [us]))).set t .un).take n) else none
          | _ => none
        | _ => none
      | _ => none
    | _ => none
  | _ => none
theorem zs_appR {o e : Expr} {apos cpos : Pos} {mo me : ZM} (ho : ZE X o mo) (he : ZE X e me)
    (hbase : attributeBase o "append" X.env (eval o X.env) = eval o X.env := by rfl)
    (hfew : ((backTo cpos (starEach [e] X.env)).all (fun x => !x.1) && (backToKw cpos (keywordEach [] X.env)).all (fun x => x.1.isSome)
      && decide ([e].length + ([] : List Keyword).length + (if ([] : List Keyword).isEmpty then 0 else 1) < 30)) = true := by rfl)
    (hline : (apos.endLine == cpos.line) = true := by rfl) (hs : starEach [e] X.env = (false, eval e X.env) :: starEach [] X.env := by rfl) (hplain : (backTo cpos (starEach [] X.env)).any (·.1) = false := by rfl)
    (hsw : swapsWith (.Call (.Attribute o "append" apos) [e] [] cpos) none pos.line X.env = pure false := by rfl) :
    ZS X (.Expr (.Call (.Attribute o "append" apos) [e] [] cpos) pos) (zAppR X.N.length mo me) := by
  refine PS.of (ps_expr (pe_bm PySem.F.plainAttrs_list PySem.F.slot_list_append PySem.F.type_list_append mt_append ho (pa_cons he pa_nil hs) hbase hfew hline hs hplain) hsw) fun D σ H ⟨C, Hs, A, g, fl, g', hK, hn, ok, e, q⟩ => ?_
  unfold zAppR at e
  simp only [Option.bind_eq_bind, Option.bind_eq_some_iff] at e
  obtain ⟨⟨ro, g1⟩, h1, e⟩ := e
  cases ro with
  | dat d => cases e
  | bor j =>
    simp only at e
    split at e
    · rename_i ls0 hg0
      simp only [Option.bind_eq_some_iff] at e
      obtain ⟨⟨re, g2⟩, h2, e⟩ := e
      cases re with
      | dat d => cases e
      | bor t =>
        simp only at e
        split at e
        · rename_i us ht
          split at e
          · rename_i ls hg
            split at e
            · rename_i hz
              cases e
              refine ⟨C, Hs, A, g, _, g1, hK, hn, ok, h1, fun Hs1 A1 v1 H1 s1 p1 ok1 rel1 => ?_⟩
              obtain ⟨a, hA, rfl⟩ := (show ∃ a, A1[j]? = some a ∧ v1 = .ref a from rel1)
              obtain ⟨a0, ks0, t1, _, t3, _⟩ := ok1.rws j ls0 hg0
              rw [hA] at t1
              cases t1
              refine ⟨.inl ⟨rfl, _, SqL.of t3.hd⟩, C, Hs1, A1, g1, _, g2, hK, hn, ok1, h2, fun Hs2 A2 v2 H2 s2 p2 ok2 rel2 => ?_⟩
              obtain ⟨b, hB, rfl⟩ := (show ∃ a, A2[t]? = some a ∧ v2 = .ref a from rel2)
              have hA2 := p2 j a hA
              obtain ⟨a1, ks, u1, _, u3, _⟩ := ok2.rws j ls hg
              rw [hA2] at u1
              cases u1
              refine ⟨a, ks.map V.ref, .ref b, rfl, rfl, u3.hd, by rw [List.length_map, u3.kd.len]; exact hz, ?_⟩
              have ok4 := (ok2.pushR hg hA2 u3.hd ht hB).cut
              rw [hn] at ok4
              exact q Hs2 _ σ _ (s1.trans s2) ok4
            · cases e
          · cases e
        · cases e
    · cases e
end
end Z
set_option Elab.async false
set_option linter.all false
set_option maxRecDepth 100000
set_option maxHeartbeats 4000000
namespace Z
open PySem PySem.Spec PyProof.Rows L2
theorem asR_run {i : Nat} {s : SM} {g g1 g2 : G} (h : s g = some (.nx, g1)) (hg : g1[i]? = some (.own (.lst []) false false)) (e : g1.set i (.rws []) = g2) : zAsR i s g = some (.nx, g2) := by
  unfold zAsR; simp only [h, hg, e]
theorem appR_run {n j t : Nat} {mo me : ZM} {g g1 g2 g4 : G} {ls0 ls : List (List D)} {us : List D} (h1 : mo g = some (.bor j, g1)) (h0 : g1[j]? = some (.rws ls0)) (h2 : me g1 = some (.bor t, g2)) (ht : g2[t]? = some (.own (.lst us) false false)) (hg : g2[j]? = some (.rws ls)) (hz : ls.length < sizeLine)
    (e : ((g2.set j (.rws (ls ++ [us]))).set t .un).take n = g4) : zAppR n mo me g = some (.nx, g4) := by
  unfold zAppR; simp only [h1, h0, h2, ht, hg, if_pos hz, e, Option.bind_eq_bind, Option.bind_some]
/-- a call that gives a list of own lists -/
theorem er_callR {f : List D → Option FR} {mr : ZAr} {g g1 g2 : G} {rs : List R} {ds : List D} {ls : List (List D)} (h1 : mr g = some (rs, g1)) (h2 : rdAll g1 rs = some ds) (h2' : frzAll rs g1 = some (ds, g2)) (h3 : f ds = some (.newR ls)) : zCall f mr g = some (.bor g2.length, g2 ++ [.rws ls]) := by
  unfold zCall; simp only [h1, h2, h2', h3, Option.bind_eq_bind, Option.bind_some]
theorem set_rws {n i t : Nat} {m : ZM} {g g1 g4 : G} {ls : List (List D)} (h1 : m g = some (.bor t, g1)) (ht : n ≤ t) (hg : g1[t]? = some (.rws ls)) (hf : freeAt i g1 = true) (e : ((g1.set i (.rws ls)).set t .un).take n = g4) : zSet n i m g = some (.nx, g4) := by
  unfold zSet setR; simp only [h1, if_pos ht, hg, hf, if_true, e, Option.bind_eq_bind, Option.bind_some]
end Z
set_option Elab.async false
set_option linter.all false
set_option maxRecDepth 100000
set_option maxHeartbeats 4000000
namespace ZS
open PySem PyProof.Rows Srt SrtO
section
variable {prog : Program} {w : World} {A : Around} {E : Value → Shared → Prop}
/-- the pairs that are sorted -/
def prs (b : Bool) (ks vs : List Value) : List Keyed := if b = true then (ks.zip vs).reverse else ks.zip vs
theorem prs_arr (b : Bool) (ks vs : List Value) : (if b = true then (ks.toArray.zip vs.toArray).reverse else ks.toArray.zip vs.toArray).toList = prs b ks vs := by
  unfold prs
  cases b <;> simp
theorem prs_len {b : Bool} {ks vs : List Value} (h : ks.length = vs.length) : (prs b ks vs).length = vs.length := by
  unfold prs
  cases b <;> simp [h]
theorem prs_fst {b : Bool} {ks vs : List Value} {p : Keyed} (h : p ∈ prs b ks vs) : p.1 ∈ ks := by
  have h2 : p ∈ ks.zip vs := by
    unfold prs at h
    cases b
    · exact h
    · exact List.mem_reverse.mp h
  obtain ⟨x, y⟩ := p
  exact (List.of_mem_zip h2).1
/-- the heap behind: the keys' list emptied, the list filled -/
def endHeap (h : Heap) (kS a : Addr) (out : List Value) : Heap := (h.update kS (Obj.mapSeq fun _ => (#[] : Array Value))).update a (Obj.mapSeq fun _ => out.toArray)
def outOf (b : Bool) (o : List Keyed) : List Value := if b = true then (o.map (·.2)).reverse else o.map (·.2)
theorem outOf_len {b : Bool} {o : List Keyed} : (outOf b o).length = o.length := by
  unfold outOf
  cases b <;> simp
theorem out_arr (b : Bool) (st : SortSt) : (if b = true then ((arrOf st).map (·.2)).reverse else (arrOf st).map (·.2)) = (outOf b (arrOf st).toList).toArray := by
  unfold outOf
  apply Array.toList_inj.mp
  cases b <;> simp
theorem zk_tail {s : Shared} {a kS e e1 : Nat} {b : Bool} {ks vs : List Value} {st : SortSt} {P : PySem.Fin → Shared → Prop} (hka : kS ≠ a) (nk : s.heap.get? kS = some (seqObj "list" ks.toArray e)) (na : s.heap.get? a = some (seqObj "list" #[] e1))
    (hk : ks.length = vs.length) (hz : vs.length ≤ sizeLine) (hl : (arrOf st).toList.length = vs.length) (hf : failedOf st = none) (h : P (.done (.ret .none)) { s with heap := endHeap s.heap kS a (outOf b (arrOf st).toList) }) :
    wpAny (model prog w) A (ksk_tail a b e1 (.ref kS) st) P E s := by
  have na1 : (s.heap.update kS (Obj.mapSeq fun _ => (#[] : Array Value))).get? a = some (seqObj "list" #[] e1) := (Heap.get?_update_ne _ _ _ _ (Ne.symm hka)).trans na
  have ez : (outOf b (arrOf st).toList).toArray.size ≤ sizeLine := by rw [List.size_toArray, outOf_len, hl]; exact hz
  unfold ksk_tail
  try dsimp only
  rw [out_arr]
  refine wpAny_bind (listUpdate_at nk rfl ?_ (by rw [List.size_toArray, hk]; exact hz) (Nat.zero_le _))
  refine wpAny_bind (wpAny_letGo ?_)
  refine wpAny_bind (seqEpoch_at na1 rfl ?_)
  refine wpAny_bind (listUpdate_at na1 rfl ?_ (Nat.zero_le _) (Nat.le_trans ez (Nat.le_succ _)))
  rw [hf]
  simp only [bne_self_eq_false, Bool.false_eq_true, if_false]
  exact wpAny_pure h
theorem zk_end {s : Shared} {a kS e e1 : Nat} {b : Bool} {ks vs : List Value} {lt : Keyed → Keyed → Bool} {P : PySem.Fin → Shared → Prop} (O : Swo lt) (hka : kS ≠ a) (nk : s.heap.get? kS = some (seqObj "list" ks.toArray e)) (na : s.heap.get? a = some (seqObj "list" #[] e1))
    (hk : ks.length = vs.length) (hz : vs.length ≤ sizeLine)
    (cmp : 2 ≤ vs.length → ∃ κ, (∀ (Q : SortKind → Shared → Prop) (E : Value → Shared → Prop), Q κ s → wpAny (model prog w) A (keyKind' ks.toArray) Q E s) ∧ Cmp prog w A s κ (fun p => p.1 ∈ ks) lt)
    (h : ∀ o, Srtd lt o → Stb lt o (prs b ks vs) → P (.done (.ret .none)) { s with heap := endHeap s.heap kS a (outOf b o) }) :
    wpAny (model prog w) A (ksk_end a b vs.toArray e1 (.ref kS) ks.toArray) P E s := by
  have step : ∀ t : Sem PySem.Fin, wpAny (model prog w) A t P E s → wpAny (model prog w) A (if b = true then (do let _ ← rule "list.sort.reverse"; t) else t) P E s := fun t ht => by
    split
    · exact wpAny_bind (wpAny_rule ht)
    · exact ht
  have done : ∀ st : SortSt, Srtd lt (arrOf st).toList → Stb lt (arrOf st).toList (prs b ks vs) → failedOf st = none → wpAny (model prog w) A (ksk_tail a b e1 (.ref kS) st) P E s := fun st h1 h2 h3 =>
    zk_tail hka nk na hk hz (by rw [h2.perm.length_eq]; exact prs_len hk) h3 (h _ h1 h2)
  unfold ksk_end
  try dsimp only
  refine step _ ?_
  by_cases h2 : vs.toArray.size < 2
  · rw [if_pos h2, if_pos h2]
    refine wpAny_bind (wpAny_pure ?_)
    rw [StateT.run_pure]
    refine wpAny_bind (wpAny_pure ?_)
    try dsimp only
    have e0 : (arrOf (SortSt.mk' general' (if b = true then (ks.toArray.zip vs.toArray).reverse else ks.toArray.zip vs.toArray) #[] 7 none)).toList = prs b ks vs := prs_arr b ks vs
    refine done _ ?_ (Stb.of_eq e0) rfl
    rw [e0]
    have hl := prs_len (b := b) hk
    rw [List.size_toArray] at h2
    match hp : prs b ks vs, hl with
    | [], _ => exact List.Pairwise.nil
    | [x], _ => exact srtd_one x
    | _ :: _ :: l, hl => simp at hl; omega
  · rw [if_neg h2, if_neg h2]
    rw [List.size_toArray] at h2
    obtain ⟨κ, c1, c2⟩ := cmp (by omega)
    refine wpAny_bind (c1 _ _ ?_)
    have hall : AllL (fun p : Keyed => p.1 ∈ ks) (if b = true then (ks.toArray.zip vs.toArray).reverse else ks.toArray.zip vs.toArray).toList := fun p hp => by
      rw [prs_arr] at hp
      exact prs_fst hp
    refine wpAny_bind (wpAny_mono (wpS_sortO (st0 := SortSt.mk' κ (if b = true then (ks.toArray.zip vs.toArray).reverse else ks.toArray.zip vs.toArray) #[] 7 none)
      (Q := fun _ st' => Srtd lt (arrOf st').toList ∧ Stb lt (arrOf st').toList (prs b ks vs) ∧ failedOf st' = none) O c2 rfl hall rfl rfl fun st' a1 a2 a3 => ⟨a1, by rw [← prs_arr]; exact a2, a3⟩) ?_ fun _ _ z => z)
    rintro ⟨⟨⟩, st'⟩ s' ⟨rfl, q1, q2, q3⟩
    exact done st' q1 q2 q3
/-- the keys are asked one by one, then all is sorted: I tells what is known after the i-th call, the keys so far -/
theorem zk_rest {s : Shared} {a kS e1 : Nat} {b : Bool} {f : Value} {vs : List Value} {I : Nat → List Value → Shared → Prop} {P : PySem.Fin → Shared → Prop} (hka : kS ≠ a) (hz : vs.length ≤ sizeLine) (h0 : I 0 [] s)
    (hat : ∀ i ks s', I i ks s' → (∃ e, s'.heap.get? kS = some (seqObj "list" ks.toArray e)) ∧ s'.heap.get? a = some (seqObj "list" #[] e1) ∧ ks.length = i)
    (turn : ∀ i ks x s', vs[i]? = some x → I i ks s' → wpAny (model prog w) A (call f [x]) (fun k s2 => (∃ e, s2.heap.get? kS = some (seqObj "list" ks.toArray e)) ∧ I (i + 1) (ks ++ [k]) { s2 with heap := s2.heap.update kS (Obj.mapSeq fun c => c.push k) }) (fun _ _ => False) s')
    (last : ∀ ks s', I vs.length ks s' → ∃ lt : Keyed → Keyed → Bool, Swo lt ∧ (2 ≤ vs.length → ∃ κ, (∀ (Q : SortKind → Shared → Prop) (E : Value → Shared → Prop), Q κ s' → wpAny (model prog w) A (keyKind' ks.toArray) Q E s') ∧ Cmp prog w A s' κ (fun p => p.1 ∈ ks) lt) ∧
      ∀ o, Srtd lt o → Stb lt o (prs b ks vs) → P (.done (.ret .none)) { s' with heap := endHeap s'.heap kS a (outOf b o) }) :
    wpAny (model prog w) A (ksk_rest a f b vs.toArray e1 (.ref kS)) P E s := by
  unfold ksk_rest
  refine wpAny_bind (wpAny_rule ?_)
  first
    | rw [List.forIn_toArray]
    | (rw [← Array.forIn_toList]; simp only [List.toList_toArray])
    | rw [← Array.forIn_toList]
  refine wpAny_bind (ksk_fold (fun i s' => ∃ ks, I i ks s') vs 0 s ⟨[], h0⟩ (fun j x s' hx ⟨ks, hI⟩ => ?_) (fun s' ⟨ks, hI⟩ => ?_))
  · rw [Nat.zero_add] at hI ⊢
    have hj : j < vs.length := (List.getElem?_eq_some_iff.mp hx).1
    refine wpAny_bind (wpAny_attempt (wpAny_mono (turn j ks x s' hx hI) (fun k s2 ⟨⟨e, ek⟩, hI2⟩ => ?_) fun _ _ z => z.elim))
    dsimp only
    have hl := (hat j ks s' hI).2.2
    refine wpAny_bind (listUpdate_at ek rfl ?_ (by rw [List.size_toArray, hl]; omega) (Nat.le_trans (Nat.le_of_eq (Array.size_push ..)) (by rw [List.size_toArray, hl]; omega)))
    exact wpAny_pure ⟨rfl, _, hI2⟩
  · rw [Nat.zero_add] at hI
    obtain ⟨⟨e, ek⟩, ea, hl⟩ := hat _ _ _ hI
    obtain ⟨lt, O, cmp, fin⟩ := last ks s' hI
    try dsimp only
    refine wpAny_bind (listItems_at ek rfl ?_)
    exact zk_end O hka ek ea hl hz cmp fin
end
end ZS
set_option Elab.async false
set_option linter.all false
set_option maxRecDepth 100000
set_option maxHeartbeats 4000000
namespace ZS
open PySem PyProof.Rows Srt SrtO
section
variable {α β : Type}
def ins (lt : α → α → Bool) (x : α) : List α → List α
  | [] => [x]
  | y :: l => if lt y x = true then y :: ins lt x l else x :: y :: l
def isort (lt : α → α → Bool) : List α → List α
  | [] => []
  | x :: l => ins lt x (isort lt l)
variable {lt : α → α → Bool} {lt' : β → β → Bool}
theorem ins_perm (x : α) : ∀ l : List α, (ins lt x l).Perm (x :: l)
  | [] => List.Perm.refl _
  | y :: l => by
    unfold ins
    split
    · exact (List.Perm.cons y (ins_perm x l)).trans (List.Perm.swap x y l)
    · exact List.Perm.refl _
theorem isort_perm : ∀ l : List α, (isort lt l).Perm l
  | [] => List.Perm.refl _
  | x :: l => (ins_perm x _).trans (List.Perm.cons x (isort_perm l))
theorem ins_map (f : α → β) (h : ∀ x y, lt' (f x) (f y) = lt x y) (x : α) : ∀ l : List α, (ins lt x l).map f = ins lt' (f x) (l.map f)
  | [] => rfl
  | y :: l => by
    show (ins lt x (y :: l)).map f = ins lt' (f x) (f y :: l.map f)
    unfold ins
    rw [h]
    split
    · rw [List.map_cons, ins_map f h x l]
    · rfl
theorem isort_map (f : α → β) (h : ∀ x y, lt' (f x) (f y) = lt x y) : ∀ l : List α, (isort lt l).map f = isort lt' (l.map f)
  | [] => rfl
  | x :: l => by
    show (ins lt x (isort lt l)).map f = ins lt' (f x) (isort lt' (l.map f))
    rw [ins_map f h, isort_map f h l]
theorem ins_srtd (O : Swo lt) (x : α) : ∀ {l : List α}, Srtd lt l → Srtd lt (ins lt x l)
  | [], _ => srtd_one x
  | y :: l, h => by
    unfold ins
    have h1 := List.pairwise_cons.mp h
    split
    · rename_i c
      refine List.pairwise_cons.mpr ⟨fun z hz => ?_, ins_srtd O x h1.2⟩
      rcases List.mem_cons.mp ((ins_perm x l).mem_iff.mp hz) with rfl | hz
      · exact O.asym _ _ c
      · exact h1.1 z hz
    · rename_i c
      have c : lt y x = false := by
        cases e : lt y x with
        | true => exact absurd e c
        | false => rfl
      exact List.pairwise_cons.mpr ⟨fun z hz => O.le_all h c z hz, h⟩
theorem isort_srtd (O : Swo lt) : ∀ l : List α, Srtd lt (isort lt l)
  | [] => List.Pairwise.nil
  | x :: l => ins_srtd O x (isort_srtd O l)
theorem ins_cls (O : Swo lt) (x z : α) : ∀ {l : List α}, Srtd lt l → (ins lt x l).filter (eqv lt z) = (x :: l).filter (eqv lt z)
  | [], _ => rfl
  | y :: l, h => by
    unfold ins
    have h1 := List.pairwise_cons.mp h
    split
    · rename_i c
      have ih := ins_cls O x z h1.2
      rw [List.filter_cons, ih, List.filter_cons, List.filter_cons, List.filter_cons]
      cases ex : eqv lt z x with
      | false => cases eqv lt z y <;> rfl
      | true =>
        have ey : eqv lt z y = false := by
          cases ey : eqv lt z y with
          | false => rfl
          | true =>
            exfalso
            unfold eqv at ex ey
            simp only [Bool.and_eq_true, Bool.not_eq_true'] at ex ey
            have := O.tr x z y (by first | exact ex.1 | exact ex.2) (by first | exact ey.2 | exact ey.1)
            rw [this] at c; cases c
        rw [ey]
        rfl
    · rfl
theorem isort_stb (O : Swo lt) : ∀ l : List α, Stb lt (isort lt l) l
  | [] => Stb.refl _
  | x :: l => by
    refine ⟨isort_perm _, fun z => ?_⟩
    show (ins lt x (isort lt l)).filter (eqv lt z) = _
    rw [ins_cls O x z (isort_srtd O l), List.filter_cons, List.filter_cons, (isort_stb O l).cls z]
/-- sorted and stable: there is but one such list -/
theorem srtd_uniq (O : Swo lt) : ∀ {a b : List α}, Srtd lt a → Srtd lt b → a.Perm b → (∀ z, a.filter (eqv lt z) = b.filter (eqv lt z)) → a = b
  | [], b, _, _, p, _ => (List.nil_perm.mp p).symm
  | x :: a, [], _, _, p, _ => (List.perm_nil.mp p)
  | x :: a, y :: b, ha, hb, p, hc => by
    have h1 := List.pairwise_cons.mp ha
    have h2 := List.pairwise_cons.mp hb
    have xx : lt x x = false := O.refl x
    have yy : lt y y = false := O.refl y
    have l1 : lt y x = false := by
      rcases List.mem_cons.mp (p.mem_iff.mpr (List.mem_cons_self (a := y) (l := b))) with e | m
      · rw [e]; exact xx
      · exact h1.1 y m
    have l2 : lt x y = false := by
      rcases List.mem_cons.mp (p.mem_iff.mp (List.mem_cons_self (a := x) (l := a))) with e | m
      · rw [e]; exact yy
      · exact h2.1 x m
    have e1 : eqv lt x x = true := by unfold eqv; rw [xx]; rfl
    have e2 : eqv lt x y = true := by unfold eqv; rw [l1, l2]; rfl
    have f := hc x
    rw [List.filter_cons, if_pos e1, List.filter_cons, if_pos e2] at f
    have exy : x = y := (List.cons.inj f).1
    subst exy
    refine congrArg _ (srtd_uniq O h1.2 h2.2 ((List.perm_cons x).mp p) fun z => ?_)
    have g := hc z
    rw [List.filter_cons, List.filter_cons] at g
    cases q : eqv lt z x with
    | true => rw [q, if_pos rfl, if_pos rfl] at g; exact (List.cons.inj g).2
    | false => rw [q, if_neg Bool.false_ne_true, if_neg Bool.false_ne_true] at g; exact g
theorem isort_uniq (O : Swo lt) {o l : List α} (h1 : Srtd lt o) (h2 : Stb lt o l) : o = isort lt l := by
  have s := isort_stb O l
  exact srtd_uniq O h1 (isort_srtd O l) (h2.perm.trans s.perm.symm) fun z => (h2.cls z).trans (s.cls z).symm
end
theorem ins_congr {α : Type} {lt lt' : α → α → Bool} {x : α} : ∀ {l : List α}, (∀ y ∈ l, lt y x = lt' y x) → ins lt x l = ins lt' x l
  | [], _ => rfl
  | y :: l, h => by
    unfold ins
    rw [h y List.mem_cons_self, ins_congr fun z m => h z (List.mem_cons_of_mem _ m)]
theorem isort_congr {α : Type} {lt lt' : α → α → Bool} : ∀ {l : List α}, (∀ x ∈ l, ∀ y ∈ l, lt x y = lt' x y) → isort lt l = isort lt' l
  | [], _ => rfl
  | x :: l, h => by
    unfold isort
    rw [isort_congr fun y m z n => h y (List.mem_cons_of_mem _ m) z (List.mem_cons_of_mem _ n)]
    exact ins_congr fun y m => h y (List.mem_cons_of_mem _ ((isort_perm l).mem_iff.mp m)) x List.mem_cons_self
theorem swo_code {α : Type} (c : α → List Int) : Swo fun x y => decide (c x < c y) := by
  refine ⟨fun x y h => ?_, fun x y z h1 h2 => ?_⟩
  · exact decide_eq_false (List.lt_asymm (of_decide_eq_true h))
  · have a : c x ≤ c y := of_decide_eq_false h1
    have b : c y ≤ c z := of_decide_eq_false h2
    exact decide_eq_false (fun q => (List.le_trans a b : c x ≤ c z) q)
end ZS
set_option Elab.async false
set_option linter.all false
set_option maxRecDepth 100000
set_option maxHeartbeats 4000000
namespace ZN
open PySem PySem.Spec PyProof.Rows L2
/-- the tuple at a is the key k -/
def NK (h : Heap) (k : NestedKey) (a : Addr) : Prop := NestedIs h k (.ref a) ∧ k.depth ≤ 8
section
variable {P : Program} {w : World}
mutual
theorem ofA_key : ∀ (k : NestedKey) (v : Value) (n : Nat) (A : Around) (E : Value → Shared → Prop) (s : Shared) (Q : Bool → Shared → Prop), NestedIs s.heap k v → k.depth ≤ n → Q false s → wpAny (model P w) A (ofAClassStatement n v) Q E s
  | .none, _, n, A, E, s, Q, x, _, q => by cases x; cases n <;> exact wpAny_pure q
  | .num i, _, n, A, E, s, Q, x, _, q => by cases x <;> cases n <;> exact wpAny_pure q
  | .text y, _, n, A, E, s, Q, x, _, q => by cases x; cases n <;> exact wpAny_pure q
  | .tup ks, _, n, A, E, s, Q, x, hn, q => by
    cases x with
    | @tup a o vs m _ hg hc hd hk =>
      simp only [NestedKey.depth] at hn
      cases n with
      | zero => omega
      | succ n =>
        have all := ofA_keys ks _ n A E s hk (by omega)
        unfold ofAClassStatement
        refine wpAny_bind (wpAny_typeOf (show s.TypeIs (.ref a) "tuple" from ⟨o, hg, hc⟩) ?_)
        dsimp only
        rw [if_pos (show (("tuple" : String) == "tuple") = true by decide)]
        try refine wpAny_bind (wpAny_pure ?_)
        simp only [Bool.not_true, Bool.false_eq_true, if_false, pure_bind]
        refine wpAny_bind (wpAny_seqItems hg hd ?_)
        dsimp only
        refine wpAny_bind ?_
        show wpAny _ _ (forIn vs _ _) _ _ s
        rw [← Array.forIn_toList]
        refine wpAny_forIn_list _ (fun left acc st => (∀ v ∈ left, v ∈ vs.toList) ∧ acc.1 = none ∧ st = s) _ (fun v left acc st ⟨a1, a2, a3⟩ => ?_) (fun acc st ⟨_, a2, a3⟩ => ?_) _ _ ⟨fun _ m => m, rfl, rfl⟩
        · subst a3
          refine wpAny_bind (all v (a1 v List.mem_cons_self) _ ?_)
          simp only [Bool.false_eq_true, if_false]
          exact wpAny_pure ⟨fun u m => a1 u (List.mem_cons_of_mem _ m), rfl, rfl⟩
        · subst a3
          obtain ⟨c1, c2⟩ := acc
          obtain rfl : c1 = none := a2
          exact wpAny_pure q
theorem ofA_keys : ∀ (ks : List NestedKey) (vs : List Value) (n : Nat) (A : Around) (E : Value → Shared → Prop) (s : Shared), NestedAll s.heap ks vs → NestedKey.depthAll ks ≤ n → ∀ v ∈ vs, ∀ R : Bool → Shared → Prop, R false s → wpAny (model P w) A (ofAClassStatement n v) R E s
  | [], _, n, A, E, s, x, _, v, m, R, r => by cases x; cases m
  | k :: ks, _, n, A, E, s, x, hn, v, m, R, r => by
    cases x with
    | cons x1 x2 =>
      simp only [NestedKey.depthAll] at hn
      rcases List.mem_cons.mp m with e | m
      · rw [e]; exact ofA_key k _ n A E s R x1 (by omega) r
      · exact ofA_keys ks _ n A E s x2 (by omega) v m R r
end
mutual
/-- whether its hash is by value: some answer -/
theorem hv_key : ∀ (k : NestedKey) (v : Value) (n : Nat) (A : Around) (E : Value → Shared → Prop) (s : Shared) (Q : Bool → Shared → Prop), NestedIs s.heap k v → (∀ b, Q b s) → wpAny (model P w) A (hashByValue n v) Q E s
  | .none, _, n, A, E, s, Q, x, q => by cases x; cases n <;> exact wpAny_pure (q _)
  | .num i, _, n, A, E, s, Q, x, q => by cases x <;> cases n <;> exact wpAny_pure (q _)
  | .text y, _, n, A, E, s, Q, x, q => by cases x; cases n <;> exact wpAny_pure (q _)
  | .tup ks, _, n, A, E, s, Q, x, q => by
    cases x with
    | @tup a o vs m _ hg hc hd hk =>
      cases n with
      | zero => exact wpAny_pure (q _)
      | succ n =>
        have all := hv_keys ks _ n A E s hk
        unfold hashByValue
        refine wpAny_bind (wpAny_specialOf (show s.TypeIs (.ref a) "tuple" from ⟨o, hg, hc⟩) F.slot_tuple_hash.lookup ?_)
        show wpAny _ _ (seqItems? (.ref a) >>= _) _ _ s
        refine wpAny_bind (wpAny_seqItems hg hd ?_)
        refine wpAny_bind ?_
        show wpAny _ _ (forIn vs _ _) _ _ s
        rw [← Array.forIn_toList]
        refine wpAny_forIn_list _ (fun left acc st => (∀ v ∈ left, v ∈ vs.toList) ∧ acc.1 = none ∧ st = s) _ (fun v left acc st ⟨a1, a2, a3⟩ => ?_) (fun acc st ⟨_, a2, a3⟩ => ?_) _ _ ⟨fun _ m => m, rfl, rfl⟩
        · subst a3
          refine wpAny_bind (all v (a1 v List.mem_cons_self) _ fun b => ?_)
          cases b with
          | true =>
            simp only [Bool.not_true, Bool.false_eq_true, if_false]
            exact wpAny_pure ⟨fun u m => a1 u (List.mem_cons_of_mem _ m), rfl, rfl⟩
          | false =>
            simp only [Bool.not_false, if_true]
            exact wpAny_pure (wpAny_pure (q _))
        · subst a3
          obtain ⟨c1, c2⟩ := acc
          obtain rfl : c1 = none := a2
          exact wpAny_pure (q _)
theorem hv_keys : ∀ (ks : List NestedKey) (vs : List Value) (n : Nat) (A : Around) (E : Value → Shared → Prop) (s : Shared), NestedAll s.heap ks vs → ∀ v ∈ vs, ∀ R : Bool → Shared → Prop, (∀ b, R b s) → wpAny (model P w) A (hashByValue n v) R E s
  | [], _, n, A, E, s, x, v, m, R, r => by cases x; cases m
  | k :: ks, _, n, A, E, s, x, v, m, R, r => by
    cases x with
    | cons x1 x2 =>
      rcases List.mem_cons.mp m with e | m
      · rw [e]; exact hv_key k _ n A E s R x1 r
      · exact hv_keys ks _ n A E s x2 v m R r
end
variable {A : Around} {E : Value → Shared → Prop} {s : Shared}
/-- a search among such keys shows nothing of the table -/
theorem quiet_search {k : NestedKey} {x : Addr} {ys : List Value} {Q : Bool → Shared → Prop} (hx : NK s.heap k x) (hy : ∀ y ∈ ys, ∃ k' c, y = Value.ref c ∧ NK s.heap k' c) (q : Q false s) : wpAny (model P w) A (searchCouldBeSeen (.ref x) ys) Q E s := by
  unfold searchCouldBeSeen
  refine wpAny_bind (wpAny_forIn_list _ (fun left acc st => (∀ y ∈ left, y ∈ ys) ∧ acc.1 = none ∧ st = s) _ (fun v left acc st ⟨a1, a2, a3⟩ => ?_) (fun acc st ⟨_, a2, a3⟩ => ?_) _ _ ⟨fun _ m => m, rfl, rfl⟩)
  · subst a3
    obtain ⟨k', c, rfl, hc⟩ := hy v (a1 _ List.mem_cons_self)
    have on : (fun (left : List Value) (acc : MProd (Option Bool) PUnit) (st' : Shared) => (∀ y ∈ left, y ∈ ys) ∧ acc.1 = none ∧ st' = st) left ⟨none, ⟨⟩⟩ st := ⟨fun u m => a1 u (List.mem_cons_of_mem _ m), rfl, rfl⟩
    dsimp only
    split
    · exact wpAny_pure on
    · refine wpAny_bind ((quiet_key k _ 8 st hx.1 hx.2) A E _ ?_)
      simp only [Bool.not_true, Bool.false_eq_true, if_false]
      refine wpAny_bind ((quiet_key k' _ 8 st hc.1 hc.2) A E _ ?_)
      simp only [Bool.not_true, Bool.false_eq_true, if_false]
      refine wpAny_bind (ofA_key k _ 8 A E st _ hx.1 hx.2 ?_)
      simp only [Bool.false_eq_true, if_false]
      refine wpAny_bind (ofA_key k' _ 8 A E st _ hc.1 hc.2 ?_)
      simp only [Bool.false_eq_true, if_false]
      exact wpAny_pure on
  · subst a3
    obtain ⟨c1, c2⟩ := acc
    obtain rfl : c1 = none := a2
    exact wpAny_pure q
end
end ZN
set_option Elab.async false
set_option linter.all false
set_option maxRecDepth 100000
set_option maxHeartbeats 4000000
namespace ZN
open PySem PySem.Spec PyProof.Rows L2
/-- the rows of the table -/
def cells (w : World) (L : List (Addr × NestedKey)) : List (Int × Value) := L.map fun p => (p.2.hash w, .ref p.1)
/-- the set at a holds the keys L -/
structure NS (w : World) (h : Heap) (a : Addr) (L : List (Addr × NestedKey)) (es : Array (Int × Value)) (ep : Nat) (t : SetTable) : Prop where
  obj : ∃ o, h.get? a = some o ∧ o.ExactSet ∧ o.data = .set es ep t
  lay : es.toList = cells w L
  tab : TabOk t (L.map fun p => p.2.hash w)
  one : (L.map (·.2)).Nodup
  mem : ∀ p ∈ L, NK h p.2 p.1
  room : L.length * 5 < t.mask * 3
  few : L.length < 64
/-- the way that a hash goes, from its c-th step -/
abbrev pth (m : Nat) (H : Int) (c : Nat) : SetTable.Probe := nth m (runAt m (SetTable.bits H % (m + 1)) (SetTable.bits H)) c
theorem pth_on (m : Nat) (H : Int) (c q : Nat) : nth m (pth m H c) q = pth m H (c + q) := (nth_add m c _ q).symm
theorem nth_clean {m : Nat} : ∀ (n : Nat) {p : SetTable.Probe}, p.dummy = none → (nth m p n).dummy = none
  | 0, _, h => h
  | n + 1, p, h => nth_clean n (p := adv m p) (by unfold adv; split <;> exact h)
section
variable {P : Program} {w : World} {A : Around} {E : Value → Shared → Prop} {s : Shared} {a : Addr} {L : List (Addr × NestedKey)} {es : Array (Int × Value)} {ep : Nat} {t : SetTable}
theorem cells_at {i : Nat} {p : Addr × NestedKey} (h : es.toList = cells w L) (e : L[i]? = some p) : es[i]? = some (p.2.hash w, Value.ref p.1) := by
  rw [← Array.getElem?_toList, h, cells, List.getElem?_map, e]; rfl
theorem NS.size (R : NS w s.heap a L es ep t) : es.size = L.length := by
  rw [← Array.length_toList, R.lay, cells, List.length_map]
theorem NS.places (R : NS w s.heap a L es ep t) : t.place.toList.length = L.length := by
  rw [Array.length_toList, R.tab.sz, List.length_map]
theorem NS.fits (R : NS w s.heap a L es ep t) : t.fits es.size = true := by
  have h1 := R.places
  have h2 := R.size
  have h3 := R.room
  rw [Array.length_toList] at h1
  simp only [SetTable.fits, SetTable.fill, R.tab.dm, Bool.and_eq_true, beq_iff_eq, decide_eq_true_eq, List.size_toArray, List.length_nil]
  omega
theorem NS.odd (R : NS w s.heap a L es ep t) : t.gaveWay = false := by
  simp only [SetTable.gaveWay, mask_odd R.tab.mok]
  decide
theorem seek (R : NS w s.heap a L es ep t) {k : NestedKey} {x : Addr} (hx : NK s.heap k x) (hu : A.units + 8 < cLine) (ad : Bool) {K : Nat} (lim : K < 10 * SetTable.turns t.mask) (hK : way t.mask (k.hash w) K ∉ t.place.toList) (hb : ∀ c, c < K → way t.mask (k.hash w) c ∈ t.place.toList)
    {Q : SetFound → Shared → Prop} (yes : ∀ r : Option Nat, (ad = false → r.isSome = true) → k ∈ L.map (·.2) → Q (.there r) s) (no : k ∉ L.map (·.2) → Q (.free (way t.mask (k.hash w) K) false) s) :
    ∀ (f c : Nat) (st : Option SetTable.Probe), st.getD (t.probeStart (k.hash w)) = pth t.mask (k.hash w) c → c ≤ K → K < f + c → (∀ (i : Nat) p, L[i]? = some p → p.2 = k → ∃ c', c ≤ c' ∧ c' < K ∧ t.place.toList[i]? = some (way t.mask (k.hash w) c')) →
      wpAny (model P w) A (setSearchFrom a (.ref x) (k.hash w) ad f st) Q E s
  | 0, c, st, _, h1, h2, _ => absurd h2 (by omega)
  | f + 1, c, st, hst, h1, h2, ahead => by
    obtain ⟨o, ho, hex, hd⟩ := R.obj
    have stepJ : ∀ q, (nth t.mask (pth t.mask (k.hash w) c) q).j = way t.mask (k.hash w) (c + q) := fun q => congrArg SetTable.Probe.j (pth_on ..)
    have hashes : ∀ (i : Nat) p, L[i]? = some p → (fun i => (es[i]?.map (·.1)).getD 0) i = p.2.hash w := fun i p e => by
      show (es[i]?.map (·.1)).getD 0 = _
      rw [cells_at R.lay e]; rfl
    have here : ∀ (i : Nat) p, L[i]? = some p → p.2 = k → (fun i => (es[i]?.map (·.1)).getD 0) i = k.hash w := fun i p e ek => (hashes i p e).trans (by rw [ek])
    have word := go_spec t R.tab.ris R.tab.dm (fun i => (es[i]?.map (·.1)).getD 0) (k.hash w) (10 * SetTable.turns t.mask) (K - c) (pth t.mask (k.hash w) c) (nth_clean c rfl) (by omega)
      (fun q hq => by rw [stepJ]; exact hb _ (by omega)) (by rw [stepJ, Nat.add_sub_cancel' h1]; exact hK)
    rw [setSearchFrom_succ]
    refine wpAny_bind (wpAny_setState_of ho hd R.fits ?_)
    dsimp only
    refine wp_if_neg (by rw [R.odd]; decide) ?_
    try refine wpAny_bind (wpAny_pure ?_)
    rcases word with ⟨q, i, hq, hi, hh, none_before, met⟩ | ⟨none_at_all, met⟩
    · have met2 : t.probe (fun i => (es[i]?.map (·.1)).getD 0) (k.hash w) (st.getD (t.probeStart (k.hash w))) = some (.candidate (way t.mask (k.hash w) (c + q)) i (pth t.mask (k.hash w) (c + (q + 1)))) := by
        rw [hst, ← stepJ, ← pth_on]
        exact met
      rw [stepJ] at hi
      rw [met2]
      dsimp only
      obtain ⟨p, ep'⟩ : ∃ p, L[i]? = some p := ⟨_, List.getElem?_eq_getElem (by rw [← R.places]; exact (List.getElem?_eq_some_iff.mp hi).1)⟩
      have hp := List.mem_of_getElem? ep'
      have live := slot_live R.tab.ris hi
      have tail : wpAny (model P w) A (searchRest a (.ref x) (k.hash w) ad f es t (way t.mask (k.hash w) (c + q)) i (pth t.mask (k.hash w) (c + (q + 1)))) Q E s := by
        unfold searchRest
        rw [cells_at R.lay ep']
        dsimp only
        refine wpAny_bind (wpAny_holding ((nestedKind P w).eqBool (show A.units + 8 < cLine from hu) (R.mem p hp) hx ?_))
        refine wpAny_bind (wpAny_setState_of ho hd R.fits ?_)
        dsimp only
        have later : ∀ (z : Bool), (z = true → k ∈ L.map (·.2) ∧ ad = false) → (z = false → p.2 ≠ k) → wpAny (model P w) A (if z = true then pure (SetFound.there (some i)) else setSearchFrom a (.ref x) (k.hash w) ad f (some (pth t.mask (k.hash w) (c + (q + 1))))) Q E s := fun z z1 z2 => by
          cases z with
          | true =>
            rw [if_pos rfl]
            exact wpAny_pure (yes _ (fun _ => rfl) (z1 rfl).1)
          | false =>
            rw [if_neg Bool.false_ne_true]
            refine seek R hx hu ad lim hK hb yes no f (c + (q + 1)) _ rfl (by omega) (by omega) fun j r er ek => ?_
            obtain ⟨c', b1, b2, b3⟩ := ahead j r er ek
            refine ⟨c', ?_, b2, b3⟩
            rcases Nat.lt_trichotomy c' (c + q) with lt | eq | gt
            · exact absurd (here j r er ek) (none_before (c' - c) j (by omega) (by rw [stepJ, Nat.add_sub_cancel' b1]; exact b3))
            · rw [eq] at b3
              have l2 := slot_live R.tab.ris b3
              rw [live] at l2
              cases l2
              rw [ep'] at er
              cases er
              exact absurd ek (z2 rfl)
            · omega
        by_cases ek : p.2 = k
        · have hin : k ∈ L.map (·.2) := List.mem_map.mpr ⟨p, hp, ek⟩
          have dk : decide (p.2 = k) = true := decide_eq_true ek
          cases ad with
          | true =>
            refine wp_if_pos (by rw [dk]; rfl) ?_
            exact wpAny_pure (yes none (fun z => by cases z) hin)
          | false =>
            refine wp_if_neg (by simp) ?_
            try refine wpAny_bind (wpAny_pure ?_)
            rw [sameMem]
            dsimp only
            simp only [if_true, live, cells_at R.lay ep']
            refine wpAny_bind (wpAny_isSame_ref_self (wpAny_bind (wpAny_pure ?_)))
            simp only [if_true]
            exact later _ (fun _ => ⟨hin, rfl⟩) fun z => by rw [dk] at z; cases z
        · have dk : decide (p.2 = k) = false := decide_eq_false ek
          refine wp_if_neg (by rw [dk]; simp) ?_
          try refine wpAny_bind (wpAny_pure ?_)
          rw [sameMem]
          dsimp only
          simp only [if_true, live, cells_at R.lay ep']
          refine wpAny_bind (wpAny_isSame_ref_self (wpAny_bind (wpAny_pure ?_)))
          simp only [if_true]
          exact later _ (fun z => by rw [dk] at z; cases z) fun _ => ek
      cases hl : t.led with
      | true =>
        refine wp_if_neg (by simp) ?_
        try refine wpAny_bind (wpAny_pure ?_)
        exact tail
      | false =>
        refine wp_if_pos (by simp) ?_
        refine wpAny_bind (quiet_search hx (fun y hy => ?_) ?_)
        · obtain ⟨e, he, rfl⟩ := List.mem_map.mp hy
          have h3 : e ∈ es.toList := by
            have h4 : e ∈ es ∧ e.1 = k.hash w := by simpa using he
            simpa using h4.1
          rw [R.lay] at h3
          obtain ⟨r, hr, rfl⟩ := List.mem_map.mp h3
          exact ⟨r.2, r.1, rfl, R.mem r hr⟩
        · refine wp_if_neg (by decide) ?_
          try refine wpAny_bind (wpAny_pure ?_)
          exact tail
    · have met2 : t.probe (fun i => (es[i]?.map (·.1)).getD 0) (k.hash w) (st.getD (t.probeStart (k.hash w))) = some (.empty (way t.mask (k.hash w) K) none) := by
        rw [hst, show way t.mask (k.hash w) K = (nth t.mask (pth t.mask (k.hash w) c) (K - c)).j by rw [stepJ, Nat.add_sub_cancel' h1]]
        exact met
      rw [met2]
      dsimp only
      refine wpAny_pure (no fun hm => ?_)
      obtain ⟨r, hr, ek⟩ := List.mem_map.mp hm
      obtain ⟨j, er⟩ := List.getElem?_of_mem hr
      obtain ⟨c', b1, b2, b3⟩ := ahead j r er ek
      exact none_at_all (c' - c) j (by omega) (by rw [stepJ, Nat.add_sub_cancel' b1]; exact b3) (here j r er ek)
/-- .. from the beginning -/
theorem seek_all (R : NS w s.heap a L es ep t) {k : NestedKey} {x : Addr} (hx : NK s.heap k x) (hu : A.units + 8 < cLine) (ad : Bool) {Q : SetFound → Shared → Prop} (yes : ∀ r : Option Nat, (ad = false → r.isSome = true) → k ∈ L.map (·.2) → Q (.there r) s)
    (no : ∀ K, k ∉ L.map (·.2) → way t.mask (k.hash w) K ∉ t.place.toList → (∀ c, c < K → way t.mask (k.hash w) c ∈ t.place.toList) → Q (.free (way t.mask (k.hash w) K) false) s) : wpAny (model P w) A (setSearch a (.ref x) (k.hash w) ad) Q E s := by
  have hr := R.room
  obtain ⟨K, lim, hK, hb⟩ := R.tab.first (by rw [List.length_map]; omega) (k.hash w)
  have big : K < 100000 := by
    have : SetTable.turns t.mask ≤ 1000 := by
      unfold SetTable.turns
      rcases R.tab.mok with e | e | e <;> omega
    omega
  refine seek R hx hu ad lim hK hb yes (fun n => no K n hK hb) 100000 0 none rfl (Nat.zero_le _) big fun i p e ek => ?_
  have hi : i < t.place.toList.length := by rw [R.places]; exact (List.getElem?_eq_some_iff.mp e).1
  obtain ⟨c, h1, h2⟩ := R.tab.before (i := i) (h := k.hash w) hK (by rw [List.getElem?_map, e, ← ek]; rfl) (List.getElem?_eq_getElem hi)
  exact ⟨c, Nat.zero_le _, h1, by rw [h2]; exact List.getElem?_eq_getElem hi⟩
end
end ZN
set_option Elab.async false
set_option linter.all false
set_option maxRecDepth 100000
set_option maxHeartbeats 4000000
namespace ZN
open PySem PySem.Spec PyProof.Rows L2
/-- keys stay where all but a set stays -/
theorem NK.stay {h h' : Heap} {a x : Addr} {k : NestedKey} {o : Obj} {es : Array (Int × Value)} {ep : Nat} {t : SetTable} (hk : NK h k x) (ho : h.get? a = some o) (hd : o.data = .set es ep t) (sb : Heap.SameBut a h h') : NK h' k x :=
  ⟨NestedIs.at (fun b u vs n hb hu => (sb.2 b fun z => by subst z; rw [ho] at hb; cases hb; rw [hd] at hu; cases hu).trans hb) k _ hk.1, hk.2⟩
theorem NK.keep {h h' : Heap} {x : Addr} {k : NestedKey} (hk : NK h k x) (keep : ∀ b o, h.get? b = some o → h'.get? b = some o) : NK h' k x := ⟨NestedIs.at (fun b u _ _ hb _ => keep b u hb) k _ hk.1, hk.2⟩
theorem range_all {α : Type} (L : List α) : (List.range L.length).filterMap (fun i => L[i]?) = L := by
  have e : (List.range L.length).map (fun i => L[i]?) = L.map some := by
    apply List.ext_getElem?
    intro i
    rw [List.getElem?_map, List.getElem?_map]
    by_cases hi : i < L.length
    · rw [List.getElem?_range hi, List.getElem?_eq_getElem hi, Option.map_some, Option.map_some, List.getElem?_eq_getElem hi]
    · rw [List.getElem?_eq_none (by rw [List.length_range]; omega), List.getElem?_eq_none (by omega)]; rfl
  have e2 : ∀ (l : List Nat), l.filterMap (fun i => L[i]?) = (l.map fun i => L[i]?).filterMap id := fun l => by rw [List.filterMap_map]; rfl
  rw [e2, e, List.filterMap_map]
  induction L with
  | nil => rfl
  | cons x L ih => simp
section
variable {w : World}
theorem cells_any {L : List (Addr × NestedKey)} {es : Array (Int × Value)} (h : es.toList = cells w L) (i : Nat) : es[i]? = (L[i]?).map fun p => (p.2.hash w, Value.ref p.1) := by
  rw [← Array.getElem?_toList, h, cells, List.getElem?_map]
/-- the rows in another order -/
theorem ordered_cells {L : List (Addr × NestedKey)} {es : Array (Int × Value)} {ord : Array Nat} (h : es.toList = cells w L) (pm : ord.toList.Perm (List.range L.length)) :
    ∃ L2 : List (Addr × NestedKey), L2.Perm L ∧ (ord.filterMap (es[·]?)).toList = cells w L2 ∧ (L2.map fun p => p.2.hash w) = ord.toList.map fun i => (es.map (·.1)).getD i 0 := by
  refine ⟨ord.toList.filterMap fun i => L[i]?, ?_, ?_, ?_⟩
  · have := pm.filterMap fun i => L[i]?
    rwa [range_all] at this
  · rw [Array.toList_filterMap, cells, List.map_filterMap]
    congr 1
    funext i
    exact cells_any h i
  · have : ∀ (l : List Nat), (∀ i ∈ l, i < L.length) → ((l.filterMap fun i => L[i]?).map fun p => p.2.hash w) = l.map fun i => (es.map (·.1)).getD i 0 := by
      intro l
      induction l with
      | nil => intro _; rfl
      | cons i l ih =>
        intro hl
        have hi := hl i List.mem_cons_self
        have e1 := cells_any h i
        rw [List.getElem?_eq_getElem hi] at e1
        rw [List.filterMap_cons_some (List.getElem?_eq_getElem hi), List.map_cons, List.map_cons, ih fun j m => hl j (List.mem_cons_of_mem _ m)]
        congr 1
        rw [Array.getD_eq_getD_getElem?, Array.getElem?_map, e1]
        rfl
    exact this _ fun i m => List.mem_range.mp (pm.mem_iff.mp m)
end
section
variable {P : Program} {w : World} {A : Around} {E : Value → Shared → Prop} {s : Shared} {a : Addr} {L : List (Addr × NestedKey)} {es : Array (Int × Value)} {ep : Nat} {t : SetTable}
theorem relay {o : Obj} (ho : s.heap.get? a = some o) (hex : o.ExactSet) (hd : o.data = .set es ep t) (lay : es.toList = cells w L) (tab : TabOk t (L.map fun p => p.2.hash w)) (one : (L.map (·.2)).Nodup) (mem : ∀ p ∈ L, NK s.heap p.2 p.1) (few : L.length < 64) (le : L.length ≤ t.mask)
    {wanted M : Nat} (h1 : SetTable.sizeAbove wanted = M + 1) (h2 : MaskOk M) (h3 : L.length * 5 < M * 3) {Q : Unit → Shared → Prop} (q : ∀ h' L' es' ep' t', Heap.SameBut a s.heap h' → NS w h' a L' es' ep' t' → L'.Perm L → Q () { s with heap := h' }) :
    wpAny (model P w) A (setRelay a wanted) Q E s := by
  have z : es.size = L.length := by rw [← Array.length_toList, lay, cells, List.length_map]
  have m128 : M ≤ 127 := by rcases h2 with e | e | e <;> omega
  have ft : t.fits es.size = true := by
    have h4 := tab.sz
    rw [List.length_map] at h4
    simp only [SetTable.fits, SetTable.fill, tab.dm, Bool.and_eq_true, beq_iff_eq, decide_eq_true_eq, List.size_toArray, List.length_nil]
    omega
  obtain ⟨t', ord, e, pm, T, em, _, _, _⟩ := relaid_ok t (hs := es.map (·.1)) (wanted := wanted) (M := M) (by omega) h2 (by rw [Array.size_map, z]; omega)
  rw [Array.size_map, z] at pm
  obtain ⟨L2, p2, lay2, hs2⟩ := ordered_cells lay pm
  rw [← hs2] at T
  have z2 : (ord.filterMap (es[·]?)).size = es.size := by rw [← Array.length_toList, lay2, cells, List.length_map, p2.length_eq, z]
  rw [setRelay_eq]
  refine wpAny_bind (wpAny_setState_of ho hd ft ?_)
  dsimp only
  refine wp_if_neg (by rw [sizeLine_eq]; omega) ?_
  try refine wpAny_bind (wpAny_pure ?_)
  rw [e]
  dsimp only
  refine wpAny_bind ?_
  refine wp_if_neg (by rw [z2]; simp) ?_
  try refine wpAny_bind (wpAny_pure ?_)
  refine wpAny_pure ?_
  dsimp only
  refine wpAny_storeSet_of ho hd ?_ (by rw [z2, z, sizeLine_eq]; omega)
  have sb : Heap.SameBut a s.heap (s.heap.update a (Obj.putSet (ord.filterMap (es[·]?)) t')) := Heap.SameBut.update ..
  exact q _ L2 _ _ t' sb ⟨⟨_, store_at ho hd, ⟨hex.1, hex.2.1, hex.2.2⟩, rfl⟩, lay2, T, (p2.map _).nodup_iff.mpr one, fun p m => (mem p (p2.mem_iff.mp m)).stay ho hd sb, by rw [p2.length_eq, em]; exact h3, by rw [p2.length_eq]; exact few⟩ p2
/-- one member more -/
theorem adds (R : NS w s.heap a L es ep t) {k : NestedKey} {x : Addr} (hx : NK s.heap k x) (hu : A.units + 8 < cLine) (few : L.length + 1 < 64) {Q : Bool → Shared → Prop}
    (q : ∀ b h' L' es' ep' t', Heap.SameBut a s.heap h' → NS w h' a L' es' ep' t' → (k ∈ L.map (·.2) → L' = L) → (k ∉ L.map (·.2) → L'.Perm ((x, k) :: L)) → Q b { s with heap := h' }) :
    wpAny (model P w) A (setAddHashed a (.ref x) (k.hash w)) Q E s := by
  obtain ⟨o, ho, hex, hd⟩ := R.obj
  have hr := R.room
  have z := R.size
  unfold setAddHashed
  rw [show (100000 : Nat) = 99999 + 1 from rfl, setAddHashedIn_succ]
  refine wpAny_holding (wpAny_bind (wpAny_setState_of ho hd R.fits ?_))
  dsimp only
  refine wp_if_neg (by simp [byScan, Value.scannable]) ?_
  try refine wpAny_bind (wpAny_pure ?_)
  refine wpAny_bind (seek_all R hx hu true (fun r _ hm => ?_) fun K hm hK hb => ?_)
  · exact wpAny_pure (q false s.heap L es ep t (Heap.SameBut.refl a s.heap) R (fun _ => rfl) fun n => absurd hm n)
  · dsimp only
    refine wpAny_bind (wpAny_setState_of ho hd R.fits ?_)
    dsimp only
    obtain ⟨e1, c1, T1, e2, _, _, _, _, e3⟩ := R.tab.put hK hb
    rw [List.length_map] at c1 e3
    generalize hb0 : SetTable.below t.place (way t.mask (k.hash w) K) = p0 at *
    generalize hpt : t.put (way t.mask (k.hash w) K) = pt at *
    obtain ⟨t1, p⟩ := pt
    dsimp only at *
    subst e1
    -- the row put in
    have pm : (L.take p ++ (x, k) :: L.drop p).Perm ((x, k) :: L) := by
      have := List.perm_middle (a := (x, k)) (l₁ := L.take p) (l₂ := L.drop p)
      rwa [List.take_append_drop] at this
    have lay1 : (SetTable.insertAt es p (k.hash w, Value.ref x)).toList = cells w (L.take p ++ (x, k) :: L.drop p) := by
      rw [SetTable.toList_insertAt, R.lay]
      simp only [cells, List.map_append, List.map_cons, List.map_take, List.map_drop]
    have T2 : TabOk t1 ((L.take p ++ (x, k) :: L.drop p).map fun p => p.2.hash w) := by
      rw [List.map_append, List.map_cons, List.map_take, List.map_drop]
      exact T1
    have one1 : ((L.take p ++ (x, k) :: L.drop p).map (·.2)).Nodup := (pm.map _).nodup_iff.mpr (List.nodup_cons.mpr ⟨hm, R.one⟩)
    have ln : (L.take p ++ (x, k) :: L.drop p).length = L.length + 1 := pm.length_eq
    generalize SetTable.insertAt es p (k.hash w, Value.ref x) = es1 at *
    generalize L.take p ++ (x, k) :: L.drop p = L1 at *
    have z1 : es1.size = L.length + 1 := by rw [← Array.length_toList, lay1, cells, List.length_map, ln]
    -- what follows, for any table that differs in plain alone
    have go : ∀ t2 : SetTable, TabOk t2 (L1.map fun p => p.2.hash w) → t2.mask = t.mask → t2.fill = L.length + 1 →
        wpAny (model P w) A (do storeSet a es1 t2; if (!false && t2.tooFull) = true then (do setRelay a (SetTable.grown (es.size + 1)); pure true) else pure true) Q E s := fun t2 T m2 f2 => by
      refine wpAny_bind (wpAny_storeSet_of ho hd ?_ (by rw [z1, sizeLine_eq]; omega))
      have sb : Heap.SameBut a s.heap (s.heap.update a (Obj.putSet es1 t2)) := Heap.SameBut.update ..
      have ho1 := store_at (es' := es1) (t' := t2) ho hd
      generalize s.heap.update a (Obj.putSet es1 t2) = h1 at sb ho1 ⊢
      have mem1 : ∀ r ∈ L1, NK h1 r.2 r.1 := fun r m => by
        rcases List.mem_cons.mp (pm.mem_iff.mp m) with rfl | m
        · exact hx.stay ho hd sb
        · exact (R.mem r m).stay ho hd sb
      have full : t2.tooFull = true ↔ (L.length + 1) * 5 ≥ t2.mask * 3 := by
        unfold SetTable.tooFull
        rw [decide_eq_true_eq, f2]
      by_cases hf : t2.tooFull = true
      · have hf2 := full.mp hf
        rw [m2] at hf2
        refine wp_if_pos (by simp [hf]) ?_
        rw [z]
        have next : ∀ M, SetTable.sizeAbove (SetTable.grown (L.length + 1)) = M + 1 → MaskOk M → (L.length + 1) * 5 < M * 3 → wpAny (model P w) A (setRelay a (SetTable.grown (L.length + 1))) (fun _ s' => wpAny (model P w) A (pure true) Q E s') E { s with heap := h1 } := fun M g1 g2 g3 =>
          relay (s := { s with heap := h1 }) ho1 ⟨hex.1, hex.2.1, hex.2.2⟩ rfl lay1 T one1 mem1 (by omega) (by rw [ln, m2]; rcases R.tab.mok with e | e | e <;> omega) g1 g2 (by rw [ln]; exact g3) fun h' L' es' ep' t' sb' R' p' =>
            wpAny_pure (q true h' L' es' ep' t' (sb.trans sb') R' (fun n => absurd n hm) fun _ => p'.trans pm)
        refine wpAny_bind ?_
        rcases R.tab.mok with e | e | e
        · have : L.length = 4 := by omega
          exact next 31 (by rw [this]; exact size_20) (.inr (.inl rfl)) (by omega)
        · have : L.length = 18 := by omega
          exact next 127 (by rw [this]; exact size_76) (.inr (.inr rfl)) (by omega)
        · omega
      · refine wp_if_neg (by simp [hf]) ?_
        rw [full] at hf
        exact wpAny_pure (q true h1 L1 es1 (ep + 1) t2 sb ⟨⟨_, ho1, ⟨hex.1, hex.2.1, hex.2.2⟩, rfl⟩, lay1, T, one1, mem1, by omega, by omega⟩ (fun n => absurd n hm) fun _ => pm)
    have both : ∀ b : Bool, wpAny (model P w) A (do storeSet a es1 (if b = true then t1 else { t1 with plain := false }); if (!false && (if b = true then t1 else { t1 with plain := false }).tooFull) = true then (do setRelay a (SetTable.grown (es.size + 1)); pure true) else pure true) Q E s := fun b => by
      cases b with
      | true => exact go t1 T2 e2 e3
      | false => exact go { t1 with plain := false } ⟨T2.ris, T2.dm, T2.sz, T2.mok, T2.bd, T2.reach⟩ e2 e3
    by_cases hp : t1.plain = true
    · first
        | (refine wpAny_bind ?_; refine wp_if_pos hp ?_; refine hv_key k _ 8 A E s _ hx.1 fun b => ?_; exact both b)
        | (refine wp_if_pos hp (wpAny_bind (hv_key k _ 8 A E s _ hx.1 fun b => ?_)); exact both b)
    · first
        | (refine wpAny_bind ?_; refine wp_if_neg hp ?_; refine wpAny_pure ?_; exact both true)
        | (refine wp_if_neg hp (wpAny_bind (wpAny_pure ?_)); exact both true)
        | (refine wp_if_neg hp ?_; exact both true)
theorem NS.typeIs (R : NS w s.heap a L es ep t) : s.TypeIs (.ref a) "set" := let ⟨o, ho, hc, _⟩ := R.obj; ⟨o, ho, hc.1⟩
theorem NS.noDict (R : NS w s.heap a L es ep t) : ∀ b, Value.ref a = .ref b → ∃ ob, s.heap.get? b = some ob ∧ ob.dict = none := fun b e => by
  injection e with e
  subst e
  obtain ⟨o, ho, hc, _⟩ := R.obj
  exact ⟨o, ho, hc.2.1⟩
theorem NS.at (R : NS w s.heap a L es ep t) {h' : Heap} (keep : ∀ b o, s.heap.get? b = some o → h'.get? b = some o) : NS w h' a L es ep t :=
  let ⟨o, ho, hc⟩ := R.obj
  ⟨⟨o, keep _ _ ho, hc⟩, R.lay, R.tab, R.one, fun p m => (R.mem p m).keep keep, R.room, R.few⟩
end
end ZN
set_option Elab.async false
set_option linter.all false
set_option maxRecDepth 100000
set_option maxHeartbeats 4000000
namespace ZN
open PySem PySem.Spec PyProof.Rows L2 Z
/-- NS without the members' own objects -/
structure NS0 (w : World) (h : Heap) (a : Addr) (L : List (Addr × NestedKey)) : Prop where
  ex : ∃ es ep t, (∃ o, h.get? a = some o ∧ o.ExactSet ∧ o.data = .set es ep t) ∧ es.toList = cells w L ∧ TabOk t (L.map fun p => p.2.hash w) ∧ L.length * 5 < t.mask * 3
  one : (L.map (·.2)).Nodup
  few : L.length < 64
theorem NS.low {w : World} {h : Heap} {a : Addr} {L : List (Addr × NestedKey)} {es : Array (Int × Value)} {ep : Nat} {t : SetTable} (R : NS w h a L es ep t) : NS0 w h a L := ⟨⟨es, ep, t, R.obj, R.lay, R.tab, R.room⟩, R.one, R.few⟩
theorem NS0.up {w : World} {h : Heap} {a : Addr} {L : List (Addr × NestedKey)} (R : NS0 w h a L) (m : ∀ p ∈ L, NK h p.2 p.1) : ∃ es ep t, NS w h a L es ep t :=
  let ⟨es, ep, t, o, l, tb, r⟩ := R.ex
  ⟨es, ep, t, o, l, tb, R.one, m, r, R.few⟩
/-- the set of the keys L, tracked -/
def NSetO (w : World) (a : Addr) (L : List (Addr × NestedKey)) : HO := .ext fun h => NS0 w h a L
theorem nset_ok {P : Program} {w : World} {H : Hp} {h : Heap} {a : Addr} {L : List (Addr × NestedKey)} (R : NS0 w h a L) : ObjOk P w H h a (NSetO w a L) := by
  have ⟨_, _, _, ⟨o, ho, _⟩, _⟩ := R.ex
  exact ⟨R, ⟨o, ho⟩, fun h1 h2 p k => let ⟨es, ep, t, ⟨o, ho, hc⟩, r⟩ := p.ex; ⟨⟨es, ep, t, ⟨o, k o ho, hc⟩, r⟩, p.one, p.few⟩⟩
mutual
def nkD : D → Option NestedKey
  | .non => some .none
  | .bl b => some (.num (if b = true then 1 else 0))
  | .int i => some (.num i)
  | .str x => some (.text ⟨x.toArray⟩)
  | .tup l => match nkDs l with
    | some ks => some (.tup ks)
    | none => none
  | _ => none
def nkDs : List D → Option (List NestedKey)
  | [] => some []
  | d :: ds => match nkD d, nkDs ds with
    | some k, some ks => some (k :: ks)
    | _, _ => none
end
section
variable {X : Cx} {pins : List (Addr × Obj)} {σ : L2.St} {H : Hp} {s : Shared}
mutual
theorem nk_is (I : Inv X pins σ H s) : ∀ {v : V} {d : D} {u : Value} {k : NestedKey}, Dz X.K H v d → RelV v u → nkD d = some k → NestedIs s.heap k u
  | _, _, _, _, .non, r, e => by
    simp only [nkD] at e
    cases e
    obtain rfl : _ = Value.none := r
    exact .none
  | _, _, _, _, .bl b, r, e => by
    simp only [nkD] at e
    cases e
    obtain rfl : _ = Value.bool b := r
    exact .bool rfl
  | _, _, _, _, .int i, r, e => by
    simp only [nkD] at e
    cases e
    obtain ⟨t, rfl⟩ := r
    exact .int i t
  | _, _, _, _, .str x, r, e => by
    simp only [nkD] at e
    cases e
    obtain ⟨t, rfl⟩ := r
    exact .text _ t
  | _, _, _, _, .tup (a := a) sq zs, r, e => by
    simp only [nkD] at e
    split at e
    · rename_i ks hk
      cases e
      obtain rfl : _ = Value.ref a := r
      obtain ⟨its, rv, ⟨o, ho, hc, n, hd⟩, _⟩ := I.tuple sq
      exact .tup ho hc hd (by simpa using nk_all I zs rv hk)
    · cases e
  | _, _, _, _, .lst _ _, _, e => by simp [nkD] at e
  | _, _, _, _, .raw _, _, e => by simp [nkD] at e
  | _, _, _, _, .dic _ _ _, _, e => by simp [nkD] at e
  | _, _, _, _, .obj _ _ _ _, _, e => by simp [nkD] at e
theorem nk_all (I : Inv X pins σ H s) : ∀ {vs : List V} {ds : List D} {us : List Value} {ks : List NestedKey}, DzA X.K H vs ds → Vals vs us → nkDs ds = some ks → NestedAll s.heap ks us
  | _, _, _, _, .nil, r, e => by
    simp only [nkDs] at e
    cases e
    cases r
    exact .nil
  | _, _, _, _, .cons z zs, r, e => by
    simp only [nkDs] at e
    split at e
    · rename_i k ks h1 h2
      cases e
      cases r with
      | cons r rs => exact .cons (nk_is I z r h1) (nk_all I zs rs h2)
    · cases e
end
/-- the tracked tuple at b is the key k -/
def KeyH (K : PySem.W.Frag) (H : Hp) (k : NestedKey) (b : Addr) : Prop := ∃ d, Dz K H (.ref b) d ∧ nkD d = some k ∧ k.depth ≤ 8
theorem KeyH.mono {K : PySem.W.Frag} {H H' : Hp} {k : NestedKey} {b : Addr} (h : KeyH K H k b) (e : Same H H') : KeyH K H' k b := let ⟨d, z, r⟩ := h; ⟨d, z.mono e, r⟩
theorem KeyH.nk {k : NestedKey} {b : Addr} (h : KeyH X.K H k b) (I : Inv X pins σ H s) : NK s.heap k b := let ⟨_, z, e, r⟩ := h; ⟨nk_is I z rfl e, r⟩
end
end ZN
set_option Elab.async false
set_option linter.all false
set_option maxRecDepth 100000
set_option maxHeartbeats 4000000
namespace ZN
open PySem PySem.Spec PyProof.Rows L2 Z
theorem same_upd {H H' : Hp} {x : Addr} {o : HO} (s : Same H H') (n : H x = none) : Same H (upd H' x o) := fun b u e => by
  rw [upd_ne (fun z => by rw [z, n] at e; cases e)]
  exact s b u e
theorem set3 {σ : L2.St} {i j : Nat} {v : Option V} (h : i ≠ j) : (σ.set j v)[i]? = σ[i]? := List.getElem?_set_ne (Ne.symm h)
end ZN
set_option Elab.async false
set_option linter.all false
set_option maxRecDepth 100000
set_option maxHeartbeats 4000000
namespace Z
open PySem PySem.Spec PyProof.Rows L2
end Z
set_option Elab.async false
set_option linter.all false
set_option maxRecDepth 100000
set_option maxHeartbeats 4000000
namespace ZS
open PySem PyProof.Rows Srt SrtO PySem.W
section
variable {prog : Program} {w : World} {A : Around} {E : Value → Shared → Prop} {s : Shared}
theorem zk_shell {l : Addr} {vs : List Value} {f : Value} {b : Bool} {kw : List (Str × Value)} {Q : Value → Shared → Prop} (hl : s.heap.IsList l vs.toArray) (hz : vs.length ≤ sizeLine) (ha1 : argsOk "sorted" ⟨[.ref l], kw⟩) (ha2 : ∀ x, argsOk "list.sort" ⟨[.ref x], kw⟩)
    (ht : ∀ x, Builtin.«list.sort» ⟨[.ref x], kw⟩ = ksk_tree x f b)
    (h : ∀ (hm : Heap) (a e1 : Addr), (∀ c o, s.heap.get? c = some o → hm.get? c = some o) → s.heap.objs.size ≤ a → hm.get? a = some (seqObj "list" #[] e1) →
      wpAny (model prog w) A.in1.in1 (ksk_rest a f b vs.toArray e1 (.ref hm.objs.size)) (fun fin s' => fin = .done (.ret .none) ∧ Q (.ref a) s') E { s with heap := hm.push (seqObj "list" #[] 0) }) :
    wpAny (model prog w) A (call (.builtin "sorted") [.ref l] kw) Q E s := by
  refine call_function_entry_kw kind_sorted plain_sorted entry_sorted ha1 ?_
  unfold Builtin.«sorted»
  refine wpAny_bind (m := checkCount "sorted" 1 1 _) (wpAny_pure ?_)
  refine wpAny_bind (collect_list hl ?_ hz)
  refine wpAny_bind (wpAny_newList ?_ hz)
  obtain ⟨h1, eh1⟩ : ∃ h1, h1 = (s.heap.push (seqObj "list" #[] 0)).update s.heap.objs.size (Obj.mapSeq (· ++ vs.toArray)) := ⟨_, rfl⟩
  have z1 : h1.objs.size = s.heap.objs.size + 1 := by rw [eh1, Heap.size_update, size_push']
  have k1 : ∀ c o, s.heap.get? c = some o → h1.get? c = some o := fun c o q => by
    rw [eh1, Heap.get?_update_ne _ _ _ _ (Nat.ne_of_lt (Heap.lt_size q))]
    exact Heap.get?_push_of_some _ q
  show wpAny _ _ _ _ _ { s with heap := ((s.heap.push (seqObj "list" #[] 0)).update s.heap.objs.size (Obj.mapSeq (· ++ vs.toArray))).push (seqObj "list" vs.toArray 0) }
  rw [← eh1]
  obtain ⟨h2, eh2⟩ : ∃ h2, h2 = h1.push (seqObj "list" vs.toArray 0) := ⟨_, rfl⟩
  have z2 : h2.objs.size = h1.objs.size + 1 := by rw [eh2, size_push']
  have o2 : h2.get? h1.objs.size = some (seqObj "list" vs.toArray 0) := by rw [eh2]; exact Heap.get?_push_size _ rfl
  have k2 : ∀ c o, h1.get? c = some o → h2.get? c = some o := fun c o q => by rw [eh2]; exact Heap.get?_push_of_some _ q
  rw [← eh2]
  have zs1 : s.heap.objs.size ≤ h1.objs.size := by omega
  have la : h1.objs.size < h2.objs.size := by omega
  generalize ea : h1.objs.size = a at *
  refine wpAny_bind (wpAny_holding (wpAny_call_entry_kw slot_list_sort ⟨_, o2, rfl⟩ entry_list_sort ?_ (ha2 _)))
  rw [ht]
  unfold ksk_tree
  refine wpAny_bind (listItems_at (s := { s with heap := h2 }) o2 rfl ?_)
  refine wpAny_bind (listUpdate_at (s := { s with heap := h2 }) o2 rfl ?_ (by rw [List.size_toArray]; exact hz) (Nat.zero_le _))
  obtain ⟨e1, o3⟩ : ∃ e1, (h2.update a (Obj.mapSeq fun _ => (#[] : Array Value))).get? a = some (seqObj "list" #[] e1) := ⟨_, get?_update_seq o2 fun _ => #[]⟩
  have z3 : (h2.update a (Obj.mapSeq fun _ => (#[] : Array Value))).objs.size = h2.objs.size := Heap.size_update ..
  have k3 : ∀ c o, c ≠ a → h2.get? c = some o → (h2.update a (Obj.mapSeq fun _ => (#[] : Array Value))).get? c = some o := fun c o n q => (Heap.get?_update_ne _ _ _ _ n).trans q
  show wpAny _ _ _ _ _ { s with heap := h2.update a (Obj.mapSeq fun _ => (#[] : Array Value)) }
  generalize h2.update a (Obj.mapSeq fun _ => (#[] : Array Value)) = h3 at *
  refine wpAny_bind (seqEpoch_at (s := { s with heap := h3 }) o3 rfl ?_)
  refine wpAny_bind (wpAny_newTuple ?_ (by show vs.length ≤ _; exact hz))
  refine wpAny_bind (wpAny_newList ?_ (Nat.zero_le _))
  refine wpAny_holding ?_
  have o4 : (h3.push (seqObj "tuple" vs.toArray 0)).get? a = some (seqObj "list" #[] e1) := Heap.get?_push_of_some _ o3
  show wpAny (model prog w) A.in1.in1 (ksk_rest a f b vs.toArray e1 (.ref (h3.push (seqObj "tuple" vs.toArray 0)).objs.size)) _ _ { s with heap := (h3.push (seqObj "tuple" vs.toArray 0)).push (seqObj "list" #[] 0) }
  refine wpAny_mono (h (h3.push (seqObj "tuple" vs.toArray 0)) a e1 (fun c o q => ?_) zs1 o4) ?_ fun _ _ z => z
  · exact Heap.get?_push_of_some _ (k3 c o (Nat.ne_of_lt (Nat.lt_of_lt_of_le (Heap.lt_size q) zs1)) (k2 c o (k1 c o q)))
  · rintro fin s' ⟨rfl, q⟩
    exact ⟨_, rfl, wpAny_pure ⟨_, rfl, q⟩⟩
/-- a key: (n, i) or (3, text) -/
inductive RkIs (h : Heap) : List Int → Value → Prop
  | num {a : Addr} {o : Obj} {n i : Int} {t u m : Nat} : h.get? a = some o → o.cls = .type "tuple" → o.data = .seq #[.int n t, .int i u] m → n ≠ 3 → RkIs h [n, i] (.ref a)
  | txt {a : Addr} {o : Obj} {x : Str} {t u m : Nat} : h.get? a = some o → o.cls = .type "tuple" → o.data = .seq #[.int 3 t, .str x u] m → RkIs h (3 :: x.cps.toList.map Int.ofNat) (.ref a)
theorem RkIs.inj {h : Heap} {c c' : List Int} {v : Value} (x : RkIs h c v) (y : RkIs h c' v) : c = c' := by
  cases x with
  | num h1 h2 h3 h4 =>
    cases y with
    | num g1 g2 g3 g4 =>
      rw [h1] at g1; cases g1
      rw [h3] at g3; cases g3
      rfl
    | txt g1 g2 g3 =>
      rw [h1] at g1; cases g1
      rw [h3] at g3; cases g3
  | txt h1 h2 h3 =>
    cases y with
    | num g1 g2 g3 g4 =>
      rw [h1] at g1; cases g1
      rw [h3] at g3; cases g3
    | txt g1 g2 g3 =>
      rw [h1] at g1; cases g1
      rw [h3] at g3; cases g3
      rfl
theorem RkIs.keep {h h' : Heap} {c : List Int} {v : Value} (x : RkIs h c v) (k : ∀ b o, h.get? b = some o → o.cls = .type "tuple" → h'.get? b = some o) : RkIs h' c v := by
  cases x with
  | num h1 h2 h3 h4 => exact .num (k _ _ h1 h2) h2 h3 h4
  | txt h1 h2 h3 => exact .txt (k _ _ h1 h2) h2 h3
theorem nat_lt_int : ∀ a b : List Nat, (a.map Int.ofNat < b.map Int.ofNat) ↔ a < b
  | [], [] => by simp
  | [], _ :: _ => by simp
  | _ :: _, [] => by simp
  | x :: a, y :: b => by
    rw [List.map_cons, List.map_cons, List.cons_lt_cons_iff, List.cons_lt_cons_iff, nat_lt_int a b]
    have e1 : (Int.ofNat x < Int.ofNat y) ↔ x < y := Int.ofNat_lt
    have e2 : (Int.ofNat x = Int.ofNat y) ↔ x = y := Int.ofNat_inj
    rw [e1, e2]
theorem rk_lt {h : Heap} {c c' : List Int} {v v' : Value} (hs : s.heap = h) (x : RkIs h c v) (y : RkIs h c' v') : wpAny (model prog w) A (keyLt' (tuples' true) v v') (fun r s' => s' = s ∧ r = decide (c < c')) (fun _ _ => False) s := by
  subst hs
  have fst : ∀ {n n' : Int} {l l' : List Int}, n ≠ n' → decide (n :: l < n' :: l') = decide (n < n') := fun {n n' l l'} ne => by
    rw [Bool.eq_iff_iff, decide_eq_true_iff, decide_eq_true_iff, List.cons_lt_cons_iff]
    omega
  have snd : ∀ {n : Int} {l l' : List Int}, decide (n :: l < n :: l') = decide (l < l') := fun {n l l'} => by
    rw [Bool.eq_iff_iff, decide_eq_true_iff, decide_eq_true_iff, List.cons_lt_cons_iff]
    simp
  cases x with
  | @num a o n i t u m h1 h2 h3 h4 =>
    cases y with
    | @num a' o' n' i' t' u' m' g1 g2 g3 g4 =>
      refine kat_lt h1 h3 g1 g3 ?_
      show KatLex prog w A true (decide (2 < 2)) _ [(.int n t, .int n' t'), (.int i u, .int i' u')] 0 s
      refine kat_cons (SeqAt.EqAt.int_int n t n' t' prog w _ _ (kat_go (fun e => ?_) fun e => ?_))
      · have en : n = n' := by simpa using e
        subst en
        refine kat_yes (kat_cons (SeqAt.EqAt.int_int i u i' u' prog w _ _ (kat_go (fun e => ?_) fun e => ?_)))
        · have ei : i = i' := by simpa using e
          subst ei
          refine kat_yes (kat_nil ⟨rfl, ?_⟩)
          rw [snd]
          exact (decide_eq_false (List.lt_irrefl _)).symm
        · refine kat_no (kat_one _ _ (PyProof.Rows.lt_int ?_))
          show s = s ∧ decide (i < i') = decide ([n, i] < [n, i'])
          refine ⟨rfl, ?_⟩
          rw [snd, fst (by simpa using e)]
      · have en : n ≠ n' := by simpa using e
        exact kat_no (oneLt_int ⟨rfl, (fst en).symm⟩)
    | @txt a' o' x t' u' m' g1 g2 g3 =>
      refine kat_lt h1 h3 g1 g3 ?_
      show KatLex prog w A true (decide (2 < 2)) _ [(.int n t, .int 3 t'), (.int i u, .str x u')] 0 s
      refine kat_cons (SeqAt.EqAt.int_int n t 3 t' prog w _ _ (kat_go (fun e => ?_) fun e => ?_))
      · exact absurd (by simpa using e) h4
      · exact kat_no (oneLt_int ⟨rfl, (fst h4).symm⟩)
  | @txt a o x t u m h1 h2 h3 =>
    cases y with
    | @num a' o' n' i' t' u' m' g1 g2 g3 g4 =>
      refine kat_lt h1 h3 g1 g3 ?_
      show KatLex prog w A true (decide (2 < 2)) _ [(.int 3 t, .int n' t'), (.str x u, .int i' u')] 0 s
      refine kat_cons (SeqAt.EqAt.int_int 3 t n' t' prog w _ _ (kat_go (fun e => ?_) fun e => ?_))
      · exact absurd (show (3 : Int) = n' by simpa using e).symm g4
      · exact kat_no (oneLt_int ⟨rfl, (fst (Ne.symm g4)).symm⟩)
    | @txt a' o' y t' u' m' g1 g2 g3 =>
      refine kat_lt h1 h3 g1 g3 ?_
      show KatLex prog w A true (decide (2 < 2)) _ [(.int 3 t, .int 3 t'), (.str x u, .str y u')] 0 s
      refine kat_cons (SeqAt.EqAt.int_int 3 t 3 t' prog w _ _ (kat_go (fun e => ?_) fun e => ?_))
      · refine kat_yes (kat_cons (SeqAt.EqAt.str_str x u y u' prog w _ _ (kat_go (fun e => ?_) fun e => ?_)))
        · have ei : x = y := by simpa using e
          subst ei
          refine kat_yes (kat_nil ⟨rfl, ?_⟩)
          exact (decide_eq_false (List.lt_irrefl _)).symm
        · refine kat_no (kat_one _ _ (PyProof.Rows.lt_str ?_))
          refine ⟨rfl, ?_⟩
          rw [snd, Bool.eq_iff_iff, decide_eq_true_iff, decide_eq_true_iff, nat_lt_int]
      · exact absurd e (by simp)
/-- all of them: the kind of the comparison -/
theorem rk_kind {ks : List Value} {Q : SortKind → Shared → Prop} (h : ∀ v ∈ ks, ∃ c, RkIs s.heap c v) (h0 : 0 < ks.length) (q : Q (tuples' true) s) : wpAny (model prog w) A (keyKind' ks.toArray) Q E s := by
  have all : ∀ ks : List Value, (∀ v ∈ ks, ∃ c, RkIs s.heap c v) → ∃ fs, KatTups s.heap ks fs ∧ fs.length = ks.length ∧ ∀ f ∈ fs, ∃ n t, f = Value.int n t := by
    intro ks
    induction ks with
    | nil => intro _; exact ⟨[], .nil, rfl, fun _ m => (List.not_mem_nil m).elim⟩
    | cons v ks ih =>
      intro h
      obtain ⟨fs, i1, i2, i3⟩ := ih fun u m => h u (List.mem_cons_of_mem _ m)
      obtain ⟨c, hc⟩ := h v List.mem_cons_self
      cases hc with
      | @num a o n i t u m h1 h2 h3 h4 =>
        refine ⟨.int n t :: fs, .cons h1 h2 h3 rfl i1, by simp [i2], fun f m => ?_⟩
        rcases List.mem_cons.mp m with rfl | m
        · exact ⟨n, t, rfl⟩
        · exact i3 f m
      | @txt a o x t u m h1 h2 h3 =>
        refine ⟨.int 3 t :: fs, .cons h1 h2 h3 rfl i1, by simp [i2], fun f m => ?_⟩
        rcases List.mem_cons.mp m with rfl | m
        · exact ⟨3, t, rfl⟩
        · exact i3 f m
  obtain ⟨fs, i1, i2, i3⟩ := all ks h
  refine kat_kind (T := .type "int") i1 (by omega) (fun f m => ?_) (by rfl) ?_
  · obtain ⟨n, t, rfl⟩ := i3 f m
    exact Looks.now
  · rw [show (Value.type "int" != Value.type "tuple") = true by decide]
    exact q
end
end ZS
set_option Elab.async false
set_option linter.all false
set_option maxRecDepth 100000
set_option maxHeartbeats 4000000
namespace ZS
open PySem PySem.Spec PyProof.Rows L2 Z Srt SrtO
/-- the code of a key -/
noncomputable def cv (h : Heap) (v : Value) : List Int := by
  classical
  exact if hx : ∃ c, RkIs h c v then Classical.choose hx else []
theorem cv_is {h : Heap} {c : List Int} {v : Value} (x : RkIs h c v) : cv h v = c := by
  unfold cv
  rw [dif_pos ⟨c, x⟩]
  exact (Classical.choose_spec (⟨c, x⟩ : ∃ c, RkIs h c v)).inj x
def cdD : D → Option (List Int)
  | .tup [.int n, .int i] => if n = 3 then none else some [n, i]
  | .tup [.int n, .str t] => if n = 3 then some (3 :: t.map Int.ofNat) else none
  | _ => none
section
variable {X : Cx} {pins : List (Addr × Obj)} {σ : L2.St} {H : Hp} {s : Shared}
theorem rk_is (I : Inv X pins σ H s) {v : V} {d : D} {u : Value} {c : List Int} (z : Dz X.K H v d) (r : RelV v u) (e : cdD d = some c) : RkIs s.heap c u := by
  unfold cdD at e
  split at e
  · rename_i n i
    split at e
    · cases e
    · rename_i n3
      cases e
      cases z with
      | tup sq zs =>
        obtain ⟨its, rv, ⟨o, ho, hc, m, hd⟩, _⟩ := I.tuple sq
        obtain rfl := r
        cases zs with
        | cons z1 zs =>
          cases zs with
          | cons z2 zs =>
            cases zs
            cases z1
            cases z2
            obtain ⟨u1, u2, rfl, ⟨t1, rfl⟩, ⟨t2, rfl⟩⟩ := vals2 rv
            exact .num ho hc hd n3
  · rename_i n t
    split at e
    · rename_i n3
      cases e
      subst n3
      cases z with
      | tup sq zs =>
        obtain ⟨its, rv, ⟨o, ho, hc, m, hd⟩, _⟩ := I.tuple sq
        obtain rfl := r
        cases zs with
        | cons z1 zs =>
          cases zs with
          | cons z2 zs =>
            cases zs
            cases z1
            cases z2
            obtain ⟨u1, u2, rfl, ⟨t1, rfl⟩, ⟨t2, rfl⟩⟩ := vals2 rv
            have := RkIs.txt (x := (⟨t.toArray⟩ : Str)) ho hc hd
            simpa using this
    · cases e
  · cases e
theorem Vals.mem {xs : List V} {us : List Value} (r : Vals xs us) {i : Nat} {u : Value} (e : us[i]? = some u) : ∃ x, xs[i]? = some x ∧ RelV x u := by
  have hi : i < xs.length := by rw [r.length]; exact (List.getElem?_eq_some_iff.mp e).1
  obtain ⟨u', h1, h2⟩ := r.get (List.getElem?_eq_getElem hi)
  rw [e] at h1
  cases h1
  exact ⟨_, List.getElem?_eq_getElem hi, h2⟩
end
/-- the key's code of an item -/
def keyC (fk : List D → Option FR) (d : D) : Option (List Int) := match fk [d] with
  | some (.dat q) => cdD q
  | _ => none
/-- items with their codes, sorted -/
def sortP (b : Bool) (ps : List (D × List Int)) : List D :=
  if b = true then ((isort (fun x y : D × List Int => decide (x.2 < y.2)) ps.reverse).map (·.1)).reverse else (isort (fun x y : D × List Int => decide (x.2 < y.2)) ps).map (·.1)
def codesD (fk : List D → Option FR) : List D → Option (List (D × List Int))
  | [] => some []
  | d :: ds => match keyC fk d, codesD fk ds with
    | some c, some ps => some ((d, c) :: ps)
    | _, _ => none
def sortD (fk : List D → Option FR) (b : Bool) (ds : List D) : Option (List D) := (codesD fk ds).map (sortP b)
theorem codesD_get {fk : List D → Option FR} : ∀ {ds : List D} {ps : List (D × List Int)}, codesD fk ds = some ps → ps.map (·.1) = ds ∧ ∀ (i : Nat) p, ps[i]? = some p → keyC fk p.1 = some p.2
  | [], _, e => by
    cases e
    exact ⟨rfl, fun i p h => by simp at h⟩
  | d :: ds, ps, e => by
    unfold codesD at e
    split at e
    · rename_i c qs h1 h2
      cases e
      obtain ⟨e1, e2⟩ := codesD_get h2
      refine ⟨by rw [List.map_cons, e1], fun i p h => ?_⟩
      cases i with
      | zero => cases h; exact h1
      | succ i => exact e2 i p h
    · cases e
/-- a key, its value, the value's slot, its datum, its code -/
abbrev Q5 := Value × Value × V × D × List Int
theorem zip_maps {α β γ : Type} (f : α → β) (g : α → γ) : ∀ T : List α, (T.map f).zip (T.map g) = T.map fun t => (f t, g t)
  | [] => rfl
  | t :: T => by rw [List.map_cons, List.map_cons, List.zip_cons_cons, List.map_cons, zip_maps f g T]
theorem out_of {h : Heap} {b : Bool} {T : List Q5} {o : List Keyed} (hc : ∀ t ∈ T, RkIs h t.2.2.2.2 t.1) (h1 : Srtd (fun p q : Keyed => decide (cv h p.1 < cv h q.1)) o) (h2 : Stb (fun p q : Keyed => decide (cv h p.1 < cv h q.1)) o (prs b (T.map (·.1)) (T.map (·.2.1)))) :
    ∃ T' : List Q5, T'.Perm T ∧ outOf b o = T'.map (·.2.1) ∧ T'.map (·.2.2.2.1) = sortP b (T.map (·.2.2.2)) := by
  have eo := isort_uniq (swo_code fun p : Keyed => cv h p.1) h1 h2
  let S : List Q5 := if b = true then T.reverse else T
  have hS : S.Perm T := by
    show (if b = true then T.reverse else T).Perm T
    split
    · exact List.reverse_perm _
    · exact List.Perm.refl _
  have ep : prs b (T.map (·.1)) (T.map (·.2.1)) = S.map fun t => (t.1, t.2.1) := by
    unfold prs
    rw [zip_maps]
    show _ = (if b = true then T.reverse else T).map _
    cases b
    · rfl
    · simp
  rw [ep, ← isort_map (lt := fun x y : Q5 => decide (cv h x.1 < cv h y.1)) (fun t : Q5 => ((t.1, t.2.1) : Keyed)) (fun _ _ => rfl)] at eo
  have ec : isort (fun x y : Q5 => decide (cv h x.1 < cv h y.1)) S = isort (fun x y : Q5 => decide (x.2.2.2.2 < y.2.2.2.2)) S := isort_congr fun x m y n => by
    rw [cv_is (hc x (hS.mem_iff.mp m)), cv_is (hc y (hS.mem_iff.mp n))]
  have ed : (isort (fun x y : Q5 => decide (x.2.2.2.2 < y.2.2.2.2)) S).map (·.2.2.2) = isort (fun x y : D × List Int => decide (x.2 < y.2)) (S.map (·.2.2.2)) := isort_map (lt' := fun x y : D × List Int => decide (x.2 < y.2)) (fun t : Q5 => t.2.2.2) (fun _ _ => rfl) S
  rw [ec] at eo
  have es : S.map (·.2.2.2) = if b = true then (T.map (·.2.2.2)).reverse else T.map (·.2.2.2) := by
    show (if b = true then T.reverse else T).map _ = _
    cases b
    · rfl
    · simp
  rw [es] at ed
  have pm := (isort_perm (lt := fun x y : Q5 => decide (x.2.2.2.2 < y.2.2.2.2)) S).trans hS
  generalize isort (fun x y : Q5 => decide (x.2.2.2.2 < y.2.2.2.2)) S = J at *
  subst eo
  cases b with
  | false =>
    refine ⟨J, pm, ?_, ?_⟩
    · simp [outOf]
    · simp only [sortP, Bool.false_eq_true, if_false] at ed ⊢
      rw [← ed, List.map_map]
      rfl
  | true =>
    refine ⟨J.reverse, (List.reverse_perm _).trans pm, ?_, ?_⟩
    · simp [outOf, List.map_reverse]
    · simp only [sortP, if_true] at ed ⊢
      rw [← ed, List.map_map, List.map_reverse]
      rfl
/-- what is known after the i-th call -/
structure SK (X : Cx) (pins : List (Addr × Obj)) (σ : L2.St) (Hs H : Hp) (a kS e1 : Nat) (cs : List (D × List Int)) (i : Nat) (ks : List Value) (s' : Shared) (H' Hk : Hp) (kv : List V) (kd : List D) : Prop where
  inv : Inv X pins σ H' s'
  sk : Same Hs Hk
  kh : Same Hk H'
  hh : Same H H'
  gr : ∀ b o, Hk b = some o → Hs b = some o ∨ H b = none
  ha : H' a = some (.ext fun h => h.get? a = some (seqObj "list" #[] e1))
  hk : H' kS = some (.ext fun h => ∃ e, h.get? kS = some (seqObj "list" ks.toArray e))
  ka : Hk a = none
  kk : Hk kS = none
  ln : ks.length = i
  vk : Vals kv ks
  dk : DzA X.K Hk kv kd
  ld : kd.length = i
  ck : ∀ (j : Nat) q, kd[j]? = some q → ∃ p, cs[j]? = some p ∧ cdD q = some p.2
theorem DzA.mem5 {K : PySem.W.Frag} {H : Hp} : ∀ {T : List Q5}, DzA K H (T.map (·.2.2.1)) (T.map (·.2.2.2.1)) → ∀ {T' : List Q5}, (∀ t ∈ T', t ∈ T) → DzA K H (T'.map (·.2.2.1)) (T'.map (·.2.2.2.1)) := by
  intro T h T'
  have all : ∀ t ∈ T, Dz K H t.2.2.1 t.2.2.2.1 := by
    induction T with
    | nil => intro t m; cases m
    | cons t T ih =>
      intro u m
      cases h with
      | cons z zs =>
        rcases List.mem_cons.mp m with rfl | m
        · exact z
        · exact ih zs u m
  induction T' with
  | nil => intro _; exact .nil
  | cons t T' ih => intro m; exact .cons (all t (m t List.mem_cons_self)) (ih fun u n => m u (List.mem_cons_of_mem _ n))
theorem Vals.mem5 : ∀ {T : List Q5}, Vals (T.map (·.2.2.1)) (T.map (·.2.1)) → ∀ {T' : List Q5}, (∀ t ∈ T', t ∈ T) → Vals (T'.map (·.2.2.1)) (T'.map (·.2.1)) := by
  intro T h T'
  have all : ∀ t ∈ T, RelV t.2.2.1 t.2.1 := by
    induction T with
    | nil => intro t m; cases m
    | cons t T ih =>
      intro u m
      cases h with
      | cons z zs =>
        rcases List.mem_cons.mp m with rfl | m
        · exact z
        · exact ih zs u m
  induction T' with
  | nil => intro _; exact .nil
  | cons t T' ih => intro m; exact .cons (all t (m t List.mem_cons_self)) (ih fun u n => m u (List.mem_cons_of_mem _ n))
end ZS
set_option Elab.async false
set_option linter.all false
set_option maxRecDepth 100000
set_option maxHeartbeats 4000000
namespace ZS
open PySem PySem.Spec PyProof.Rows L2 Z Srt SrtO
theorem sorted_run {X : Cx} {pins : List (Addr × Obj)} {σ : L2.St} {H Hs : Hp} {s : Shared} {l fa : Addr} {xs : List V} {ds : List D} {fk : List D → Option FR} {b : Bool} {kw : List (Str × Value)} {fd : FuncData} {ps : List Str} {k : Nat} {cs : List (D × List Int)} {Q : VK}
    (I : Inv X pins σ H s) (hs : SqL X.K H l xs) (same : Same Hs H) (hz : DzA X.K Hs xs ds) (hcs : codesD fk ds = some cs) (c3 : L2.Binds X.K fd ps []) (c4 : FnOk X.prog X.w X.K X.mg X.base CX0 k fa fd ps (spP X.K fk)) (hr : Room (k + 2) X.A)
    (ha1 : argsOk "sorted" ⟨[.ref l], kw⟩) (ha2 : ∀ x, argsOk "list.sort" ⟨[.ref x], kw⟩) (ht : ∀ x, Builtin.«list.sort» ⟨[.ref x], kw⟩ = ksk_tree x (.ref fa) b)
    (q : ∀ (p : Addr) (Hk H' : Hp) (out : List V), Same Hs Hk → Same H H' → Same Hk H' → (∀ b o, Hk b = some o → Hs b = some o ∨ H b = none) → H p = none → Hk p = none → H' p = some (.lst out) → DzA X.K Hk out (sortP b cs) → Q (.ref p) H') :
    wpAny (model X.prog X.w) X.A (call (.builtin "sorted") [.ref l] kw) (EP X pins σ Q) X.xe s := by
  obtain ⟨its, rv, pl, hzl⟩ := I.list hs
  obtain ⟨em, eg⟩ := codesD_get hcs
  have lx : its.length = xs.length := rv.length.symm
  have lc : cs.length = xs.length := by rw [← List.length_map (f := (·.1)), em, hz.length]
  refine zk_shell (vs := its) pl.isList (by rw [lx]; exact hzl) ha1 ha2 ht fun hm a e1 keep ha oa => ?_
  have la := Heap.lt_size oa
  have na : H a = none := I.hok.fresh ha
  have nk : H hm.objs.size = none := I.hok.fresh (Nat.le_of_lt (Nat.lt_of_le_of_lt ha la))
  have hka : hm.objs.size ≠ a := Nat.ne_of_gt la
  have I1 : Inv X pins σ (upd H a (.ext fun h => h.get? a = some (seqObj "list" #[] e1))) { s with heap := hm } := I.laid (t' := s.toks) keep ha ⟨oa, ⟨_, oa⟩, fun h1 h2 p kk => kk _ p⟩
  have okS : (hm.push (seqObj "list" #[] 0)).get? hm.objs.size = some (seqObj "list" #[] 0) := Heap.get?_push_size _ rfl
  have I2 : Inv X pins σ (upd (upd H a (.ext fun h => h.get? a = some (seqObj "list" #[] e1))) hm.objs.size (.ext fun h => ∃ e, h.get? hm.objs.size = some (seqObj "list" ([] : List Value).toArray e))) { s with heap := hm.push (seqObj "list" #[] 0) } :=
    I1.laid (t' := s.toks) (fun b u e => Heap.get?_push_of_some _ e) (Nat.le_refl _) ⟨⟨0, okS⟩, ⟨_, okS⟩, fun h1 h2 ⟨e, p⟩ kk => ⟨e, kk _ p⟩⟩
  generalize hm.push (seqObj "list" #[] 0) = h0 at *
  generalize hm.objs.size = kS at *
  have sa : Hs a = none := Same.free same na
  have sk : Hs kS = none := Same.free same nk
  refine zk_rest (I := fun i ks s' => ∃ H' Hk kv kd, SK X pins σ Hs H a kS e1 cs i ks s' H' Hk kv kd) hka (by rw [lx]; exact hzl) ⟨upd (upd H a (.ext fun h => h.get? a = some (seqObj "list" #[] e1))) kS (.ext fun h => ∃ e, h.get? kS = some (seqObj "list" ([] : List Value).toArray e)), Hs, [], [], ?_⟩ ?_ ?_ ?_
  · refine ⟨I2, Same.refl _, ZN.same_upd (ZN.same_upd same sa) sk, ZN.same_upd (ZN.same_upd (Same.refl H) na) nk, fun b o e => .inl e, ?_, upd_same, sa, sk, rfl, .nil, .nil, rfl, fun j q e => by simp at e⟩
    rw [upd_ne (Ne.symm hka), upd_same]
  · rintro i ks s' ⟨H', Hk, kv, kd, S⟩
    exact ⟨(S.inv.hok kS _ S.hk).1, (S.inv.hok a _ S.ha).1, S.ln⟩
  · rintro i ks x s' hx ⟨H', Hk, kv, kd, S⟩
    obtain ⟨v, ev, rvx⟩ := Vals.mem rv hx
    obtain ⟨d, hd, dz⟩ := hz.getV ev
    obtain ⟨p, hp, e1p⟩ : ∃ p, cs[i]? = some p ∧ p.1 = d := by
      rw [← em, List.getElem?_map] at hd
      cases hc : cs[i]? with
      | none => rw [hc] at hd; cases hd
      | some p => rw [hc] at hd; cases hd; exact ⟨p, rfl, rfl⟩
    have hkey := eg i p hp
    rw [e1p] at hkey
    unfold keyC at hkey
    split at hkey
    · rename_i qd hfk
      have J := S.inv
      have sp : spP X.K fk ([v] ++ []) H' (fun (u : V) (H2 : Hp) => ∃ Hk2, Same Hk Hk2 ∧ Same H' H2 ∧ Same Hk2 H2 ∧ (∀ b o, Hk2 b = some o → Hk b = some o ∨ H' b = none) ∧ Dz X.K Hk2 u qd) E0 :=
        ⟨Hk, [d], .dat qd, S.kh, .cons (dz.mono S.sk) .nil, hfk, fun u Hk2 H2 t1 t2 t3 t4 rel => ⟨Hk2, t1, t2, t3, t4, rel⟩⟩
      have len := c4.len _ _ _ _ sp
      have b3 := c3 s' [x] J.kIn (by simpa using len)
      refine wpAny_call (codeAny_mono (c4.run X.A.in1.in1 X.stack s' H' ⟨[x], []⟩ ([x] ++ []) ([v] ++ []) _ E0 (Room.in1 (Room.in1 hr)) J.env0.in1.in1 b3 (.cons rvx .nil) sp) fun r s2 hq => ?_)
      cases r with
      | error e => exact False.elim hq
      | ok fl =>
        cases fl with
        | next => exact False.elim hq
        | brk => exact False.elim hq
        | cont => exact False.elim hq
        | ret u =>
          obtain ⟨w, H2, J2, rw2, Hk2, t1, t2, t3, t4, rel⟩ := J.after hq
          have hk2 := t2 _ _ S.hk
          obtain ⟨e, ek⟩ := (J2.hok kS _ hk2).1
          obtain ⟨e', enew⟩ : ∃ e', (s2.heap.update kS (Obj.mapSeq fun c => c.push u)).get? kS = some (seqObj "list" (ks ++ [u]).toArray e') := by
            rw [show (ks ++ [u]).toArray = ks.toArray.push u by simp]
            exact ⟨_, get?_update_seq ek fun c => c.push u⟩
          have fresh : ∀ {y o}, H' y = some o → Hk y = none → Hk2 y = none := fun {y o} h1 h2 => by
            cases z : Hk2 y with
            | none => rfl
            | some u' =>
              rcases t4 y u' z with g | g
              · rw [h2] at g; cases g
              · rw [h1] at g; cases g
          have ka2 := fresh S.ha S.ka
          have kk2 := fresh S.hk S.kk
          have J3 : Inv X pins σ (upd H2 kS (.ext fun h => ∃ e, h.get? kS = some (seqObj "list" (ks ++ [u]).toArray e))) { s2 with heap := s2.heap.update kS (Obj.mapSeq fun c => c.push u) } :=
            J2.write (x := kS) (e := kS) (t' := s2.toks) (by rw [hk2]; trivial) (.inl rfl) (fun b u' hb hu => (Heap.get?_update_ne _ _ _ _ hb).trans hu) ⟨_, enew⟩ ⟨⟨_, enew⟩, ⟨_, enew⟩, fun h1 h2 ⟨e, p⟩ kk => ⟨e, kk _ p⟩⟩
          refine ⟨⟨e, ek⟩, _, Hk2, kv ++ [w], kd ++ [qd], J3, S.sk.trans t1, ZN.same_upd t3 kk2, ZN.same_upd (S.hh.trans t2) nk, fun y o g => ?_, ?_, upd_same, ka2, kk2, by rw [List.length_append, S.ln]; rfl, S.vk.append (.cons rw2 .nil), (S.dk.mono t1).append (.cons rel .nil), by rw [List.length_append, S.ld]; rfl, fun j q' hq' => ?_⟩
          · rcases t4 y o g with g | g
            · exact S.gr y o g
            · exact .inr (Same.free S.hh g)
          · rw [upd_ne (Ne.symm hka)]
            exact t2 _ _ S.ha
          · by_cases hj : j < kd.length
            · rw [List.getElem?_append_left hj] at hq'
              exact S.ck j q' hq'
            · rw [List.getElem?_append_right (by omega)] at hq'
              have hj0 : j - kd.length = 0 := by
                have := (List.getElem?_eq_some_iff.mp hq').1
                simp at this
                omega
              rw [hj0] at hq'
              cases hq'
              have : j = i := by rw [← S.ld]; omega
              subst this
              exact ⟨p, hp, hkey⟩
    · cases hkey
  · rintro ks s' ⟨H', Hk, kv, kd, S⟩
    have lk : ks.length = its.length := S.ln
    have m1 : (ks.zip (its.zip (xs.zip cs))).map (·.1) = ks := List.map_fst_zip (by simp; omega)
    have m2 : (ks.zip (its.zip (xs.zip cs))).map (·.2) = its.zip (xs.zip cs) := List.map_snd_zip (by simp; omega)
    have m3 : (ks.zip (its.zip (xs.zip cs))).map (·.2.1) = its := by
      have := congrArg (List.map Prod.fst) m2
      rw [List.map_map, List.map_fst_zip (by simp; omega)] at this
      exact this
    have m4 : (ks.zip (its.zip (xs.zip cs))).map (·.2.2) = xs.zip cs := by
      have := congrArg (List.map Prod.snd) m2
      rw [List.map_map, List.map_snd_zip (by simp; omega)] at this
      exact this
    have m5 : (ks.zip (its.zip (xs.zip cs))).map (·.2.2.1) = xs := by
      have := congrArg (List.map Prod.fst) m4
      rw [List.map_map, List.map_fst_zip (by omega)] at this
      exact this
    have m6 : (ks.zip (its.zip (xs.zip cs))).map (·.2.2.2) = cs := by
      have := congrArg (List.map Prod.snd) m4
      rw [List.map_map, List.map_snd_zip (by omega)] at this
      exact this
    have m7 : (ks.zip (its.zip (xs.zip cs))).map (·.2.2.2.1) = ds := by
      have := congrArg (List.map Prod.fst) m6
      rw [List.map_map, em] at this
      exact this
    have hc : ∀ t ∈ (ks.zip (its.zip (xs.zip cs)) : List Q5), RkIs s'.heap t.2.2.2.2 t.1 := fun t ht' => by
      obtain ⟨j, hj⟩ := List.getElem?_of_mem ht'
      have j1 : ks[j]? = some t.1 := by rw [← m1, List.getElem?_map, hj]; rfl
      have j6 : cs[j]? = some t.2.2.2 := by rw [← m6, List.getElem?_map, hj]; rfl
      obtain ⟨w, ew, rw1⟩ := Vals.mem S.vk j1
      obtain ⟨qd, eq, dzq⟩ := S.dk.getV ew
      obtain ⟨p, hp, hcd⟩ := S.ck j qd eq
      rw [j6] at hp
      cases hp
      exact rk_is S.inv (dzq.mono S.kh) rw1 hcd
    have hck : ∀ v ∈ ks, ∃ c, RkIs s'.heap c v := fun v hv => by
      rw [← m1] at hv
      obtain ⟨t, ht', rfl⟩ := List.mem_map.mp hv
      exact ⟨_, hc t ht'⟩
    refine ⟨fun p q => decide (cv s'.heap p.1 < cv s'.heap q.1), swo_code fun p : Keyed => cv s'.heap p.1, fun h2 => ⟨PyProof.Rows.tuples' true, fun Q E hq => rk_kind hck (by omega) hq, fun p q hp hq => ?_⟩, fun o h1 h2 => ?_⟩
    · obtain ⟨c1, x1⟩ := hck _ hp
      obtain ⟨c2, x2⟩ := hck _ hq
      have e3 : decide (c1 < c2) = decide (cv s'.heap p.1 < cv s'.heap q.1) := by rw [cv_is x1, cv_is x2]
      refine wpAny_mono (rk_lt rfl x1 x2) (fun r st z => ⟨z.1, z.2.trans e3⟩) fun _ _ z => z
    · obtain ⟨T', pm, e1', e2⟩ := out_of (b := b) (T := ks.zip (its.zip (xs.zip cs))) hc h1 (by rw [m1, m3]; exact h2)
      rw [m6] at e2
      rw [e1']
      have sub : ∀ t ∈ T', t ∈ ks.zip (its.zip (xs.zip cs)) := fun t m => pm.mem_iff.mp m
      have vo : Vals (T'.map (·.2.2.1)) (T'.map (·.2.1)) := Vals.mem5 (T := ks.zip (its.zip (xs.zip cs))) (by rw [m5, m3]; exact rv) sub
      have zo : DzA X.K Hk (T'.map (·.2.2.1)) (sortP b cs) := by
        rw [← e2]
        exact (DzA.mem5 (T := ks.zip (its.zip (xs.zip cs))) (by rw [m5, m7]; exact hz) sub).mono S.sk
      have lT : T'.length ≤ sizeLine := by
        rw [pm.length_eq]
        simp
        omega
      obtain ⟨ek0, ekS⟩ := (S.inv.hok kS _ S.hk).1
      have oaS : s'.heap.get? a = some (seqObj "list" #[] e1) := (S.inv.hok a _ S.ha).1
      obtain ⟨ek1, n1⟩ : ∃ e, (s'.heap.update kS (Obj.mapSeq fun _ => (#[] : Array Value))).get? kS = some (seqObj "list" #[] e) := ⟨_, get?_update_seq ekS fun _ => #[]⟩
      have J1 : Inv X pins σ (upd H' kS (.ext fun h => ∃ e, h.get? kS = some (seqObj "list" #[] e))) { s' with heap := s'.heap.update kS (Obj.mapSeq fun _ => (#[] : Array Value)) } :=
        S.inv.write (x := kS) (e := kS) (t' := s'.toks) (by rw [S.hk]; trivial) (.inl rfl) (fun b u' hb hu => (Heap.get?_update_ne _ _ _ _ hb).trans hu) ⟨_, n1⟩ ⟨⟨_, n1⟩, ⟨_, n1⟩, fun h1 h2 ⟨e, p⟩ kk => ⟨e, kk _ p⟩⟩
      have oa2 : (s'.heap.update kS (Obj.mapSeq fun _ => (#[] : Array Value))).get? a = some (seqObj "list" #[] e1) := (Heap.get?_update_ne _ _ _ _ (Ne.symm hka)).trans oaS
      obtain ⟨ea2, n2⟩ : ∃ e, (endHeap s'.heap kS a (T'.map (·.2.1))).get? a = some (seqObj "list" (T'.map (·.2.1)).toArray e) := ⟨_, get?_update_seq oa2 fun _ : Array Value => (List.map (fun t : Q5 => t.2.1) T').toArray⟩
      have J2 : Inv X pins σ (upd (upd H' kS (.ext fun h => ∃ e, h.get? kS = some (seqObj "list" #[] e))) a (.lst (T'.map (·.2.2.1)))) { s' with heap := endHeap s'.heap kS a (T'.map (·.2.1)) } :=
        J1.write (x := a) (e := a) (t' := s'.toks) (by rw [upd_ne (Ne.symm hka), S.ha]; trivial) (.inl rfl) (fun b u' hb hu => (Heap.get?_update_ne _ _ _ _ hb).trans hu) ⟨_, n2⟩ ⟨by rw [List.length_map]; exact lT, _, _, vo, n2⟩
      exact ⟨rfl, .ref a, _, J2, rfl, q a Hk _ _ S.sk (ZN.same_upd (ZN.same_upd S.hh nk) na) (ZN.same_upd (ZN.same_upd S.kh S.kk) S.ka) S.gr na S.ka upd_same zo⟩
end ZS
set_option Elab.async false
set_option linter.all false
set_option maxRecDepth 100000
set_option maxHeartbeats 4000000
namespace Z
open PySem PySem.Spec PyProof.Rows L2 ZS
def zSortK (f : List D → Option FR) (b : Bool) (ma : ZM) : ZM := fun g => do
  let (r, g1) ← ma g
  let d ← rd g1 r
  match d with
  | .lst ds => do
    let out ← sortD f b ds
    some (.bor g1.length, g1 ++ [.own (.lst out) false false])
  | _ => none
def rSortK (K : PySem.W.Frag) (f : List D → Option FR) (b : Bool) (zs0 : List V) : List V → List V → Hp → VK → Prop := fun vs zs H Q => ∃ (l : Addr) (xs : List V) (Hs : Hp) (ds : List D) (cs : List (D × List Int)), vs = [.ref l] ∧ zs = zs0 ∧ SqL K H l xs ∧ Same Hs H ∧ DzA K Hs xs ds ∧ codesD f ds = some cs ∧
  ∀ (p : Addr) (Hk H' : Hp) (out : List V), Same Hs Hk → Same H H' → Same Hk H' → (∀ b o, Hk b = some o → Hs b = some o ∨ H b = none) → H p = none → Hk p = none → H' p = some (.lst out) → DzA K Hk out (sortP b cs) → Q (.ref p) H'
section
variable {X : Cx} {f : List D → Option FR}
theorem cr_sortK {fa : Addr} {fd : FuncData} {ps : List Str} {k : Nat} (c3 : L2.Binds X.K fd ps []) (c4 : FnOk X.prog X.w X.K X.mg X.base CX0 k fa fd ps (spP X.K f)) (hr : Room (k + 2) X.A) : CallRK X (.builtin "sorted") [Str.ofString "key"] (rSortK X.K f false [.ref fa]) := by
  intro pins s σ H vs zs us ws Q I rv rz h
  obtain ⟨l, xs, Hs, ds, cs, rfl, rfl, hs, sm, hz, hc, q⟩ := h
  obtain rfl := Vals.ref1 rv
  obtain ⟨w1, rfl, e1⟩ := vals1 rz
  obtain rfl : w1 = Value.ref fa := e1
  exact sorted_run I hs sm hz hc c3 c4 hr (ksk_s1 _ _) (fun _ => ksk_l1 _ _) (fun x => ksk_t1 fa x) q
theorem sortK_of {b : Bool} {ma : ZM} {zs0 : List V} {tk : TA} (htk : ∀ σ H (Q : List V → Hp → Prop), Q zs0 H → tk σ H Q) {σ : L2.St} {H : Hp} {Q : VK} (h : tZ X.K X.N.length (zSortK f b ma) σ H Q) : tCKw (rSortK X.K f b zs0) (tCons (tZ X.K X.N.length ma) tNil) tk σ H Q := by
  obtain ⟨C, Hs, A, g, r, g', hK, hn, ok, e, q⟩ := h
  unfold zSortK at e
  simp only [Option.bind_eq_bind, Option.bind_eq_some_iff] at e
  obtain ⟨⟨r1, g1⟩, h1, d, h2, e⟩ := e
  cases d with
  | lst ds =>
    simp only [Option.bind_eq_some_iff] at e
    obtain ⟨out, h3, e⟩ := e
    cases e
    obtain ⟨cs, h4, h5⟩ := Option.map_eq_some_iff.mp h3
    subst h5
    refine ⟨C, Hs, A, g, r1, g1, hK, hn, ok, h1, fun Hs1 A1 v1 H1 s1 p1 ok1 rel1 => htk _ _ _ ?_⟩
    obtain ⟨a, xs, rfl, y1, y2⟩ := ok1.rdL rel1 h2
    rw [hK] at y1 y2
    refine ⟨a, xs, Hs1, ds, cs, rfl, rfl, y1, ok1.same, y2, h4, fun p Hk H' out t1 t2 t3 t4 t5 t6 t7 t8 => ?_⟩
    exact q Hk (A1 ++ [p]) _ H' (s1.trans t1) (p1.trans (Pre.app _ _)) (ok1.adoptS (c := .lst (sortP b cs)) t2 t1 t3 t4 t5 t6 t7 (by rw [hK]; exact t8)) (ok1.tmpR p)
  | _ => cases e
variable {a : Expr} {ma : ZM} {x y : Str} {p p2 pos kp kp2 : Pos}
theorem ze_sortK {k j : Nat} (c : Cal X.prog X.w X.K X.mg X.base k y (spP X.K f)) (hr : Room j X.A) (hj : k + 2 ≤ j) (hg : Gl X x) (hm : X.mg x = none) (ha : ZE X a ma) (hy : Gl X y) (hv : bootBuiltins x = some (.builtin "sorted") := by decide +kernel) (hn : x ≠ "__name__" := by decide) (hdb : (x == ("__debug__" : Str)) = false := by decide) (hdy : (y == ("__debug__" : Str)) = false := by decide)
    (hs : starEach [a] X.env = [(false, eval a X.env)] := by rfl)
    (he : backTo pos (starEach [a] X.env) = (false, eval a X.env) :: backTo pos (starEach [] X.env) := by rfl) (hpl : (backTo pos (starEach [a] X.env)).any (·.1) = false := by rfl)
    (hall : (backToKw pos (keywordEach [⟨some (Str.ofString "key"), .Name y p2, kp⟩] X.env)).all (·.1.isSome) = true := by rfl) (hnone : (backToKw pos (keywordEach [⟨some (Str.ofString "key"), .Name y p2, kp⟩] X.env)).any (·.1.isNone) = false := by rfl)
    (hks : (backToKw pos (keywordEach [⟨some (Str.ofString "key"), .Name y p2, kp⟩] X.env)).filterMap (·.1) = [Str.ofString "key"] := by rfl) :
    ZE X (.Call (.Name x p) [a] [⟨some (Str.ofString "key"), .Name y p2, kp⟩] pos) (zSortK f false ma) := by
  obtain ⟨fa, fd, ps, c1, c2, c3, c4⟩ := c
  exact PE.of (pe_callBK (cr_sortK c3 c4 (hr.mono hj)) hg hm hv (pa_cons ha pa_nil hs) (pk_cons (pe_glob hy c1 (v := .ref fa) rfl hdy) pk_nil) hn hdb he hpl hall hnone hks) fun σ H Q h => sortK_of (fun _ _ _ z => z) h
end
section
variable {f : List D → Option FR} {g g1 : G} {ma : ZM}
theorem er_sortK {b : Bool} {r : R} {ds : List D} {cs : List (D × List Int)} (h1 : ma g = some (r, g1)) (h2 : rd g1 r = some (.lst ds)) (h3 : codesD f ds = some cs) : zSortK f b ma g = some (.bor g1.length, g1 ++ [.own (.lst (sortP b cs)) false false]) := by
  unfold zSortK
  simp only [Option.bind_eq_bind, h1, h2, sortD, h3, Option.bind_some, Option.map_some]
theorem codesD_map {c : D → List Int} : ∀ {ds : List D}, (∀ d ∈ ds, keyC f d = some (c d)) → codesD f ds = some (ds.map fun d => (d, c d))
  | [], _ => rfl
  | d :: ds, h => by
    unfold codesD
    rw [h d List.mem_cons_self, codesD_map fun x m => h x (List.mem_cons_of_mem _ m)]
    rfl
end
end Z
set_option Elab.async false
set_option linter.all false
set_option maxRecDepth 100000
set_option maxHeartbeats 4000000
namespace ZN
open PySem PySem.Spec PyProof.Rows L2 Z
section
variable {P : Program} {w : World} {A : Around} {E : Value → Shared → Prop} {s : Shared}
theorem ns_fresh (P : Program) {h : Heap} {a : Addr} (ho : h.get? a = some (setNew w)) : NS w h a [] #[] 0 (.fresh 0 0 (!w.params.followText "set-order")) := by
  have T := setTR_fresh (P := P) (w := w) ho
  exact ⟨T.ob, rfl, T.tab, List.nodup_nil, fun p m => (List.not_mem_nil m).elim, T.room, by decide⟩
/-- what the set holds of the first i items -/
structure Of (ks : List (Addr × NestedKey)) (i : Nat) (L : List (Addr × NestedKey)) : Prop where
  me : ∀ k, k ∈ L.map (·.2) ↔ k ∈ (ks.take i).map (·.2)
  su : ∀ p ∈ L, p ∈ ks
  ln : L.length ≤ i
theorem upd_loop {I S : Addr} {fp wr : List Addr} {G : Array GenState → Array GenState → Prop} {n : Nat} {Pv : Nat → Value → Prop} {St : Nat → Shared → Prop} {R : Result → Shared → Prop} (W : WalksS P w A.in1 I fp wr G n Pv St) (hS : S ∉ fp) (ks : List (Addr × NestedKey)) (hn : n = ks.length) (few : ks.length < 64)
    (hv : ∀ i v, Pv i v → ∃ p, ks[i]? = some p ∧ v = .ref p.1) (g0 : Heap) (hk : ∀ p ∈ ks, NK g0 p.2 p.1) (hS0 : g0.get? S = none) (hw : ∀ b ∈ wr, g0.get? b = none) (hu : A.units + 60 < cLine) :
    ∀ (m i : Nat) (s : Shared), i + m = n → St i s → (∀ b o, g0.get? b = some o → s.heap.get? b = some o) → (∃ L es ep t, NS w s.heap S L es ep t ∧ Of ks i L) →
      (∀ s' L es ep t, Moved (S :: wr) G s s' → NS w s'.heap S L es ep t → Of ks n L → (∀ b o, g0.get? b = some o → s'.heap.get? b = some o) → R (.ok (.ret .none)) s') →
      codeAny (model P w) A (.builtin "set.update.loop" ⟨[.ref S, .ref I], []⟩) R s := by
  have nw : S ∉ wr := fun z => hS (W.sub _ z)
  have up : ∀ b ∈ wr, b ∈ S :: wr := fun b z => List.mem_cons_of_mem _ z
  have old : ∀ {s s' : Shared}, Moved wr G s s' → (∀ b o, g0.get? b = some o → s.heap.get? b = some o) → ∀ b o, g0.get? b = some o → s'.heap.get? b = some o := fun mv kp b o e => mv.heap b o (fun z => by rw [hw b z] at e; cases e) (kp b o e)
  have again : ∀ {s s' : Shared} {L : List (Addr × NestedKey)} {es : Array (Int × Value)} {ep : Nat} {t : SetTable}, Moved wr G s s' → NS w s.heap S L es ep t → (∀ p ∈ L, p ∈ ks) → (∀ b o, g0.get? b = some o → s'.heap.get? b = some o) → NS w s'.heap S L es ep t := fun mv N su kp =>
    let ⟨o, ho, hc⟩ := N.obj
    ⟨⟨o, mv.heap S o nw ho, hc⟩, N.lay, N.tab, N.one, fun p m => (hk p (su p m)).keep kp, N.room, N.few⟩
  intro m
  induction m with
  | zero =>
    intro i s hi hst kp ⟨L, es, ep, t, N, f⟩ fin
    rw [Nat.add_zero] at hi
    subst hi
    refine codeAny_builtin F.entry_set_update_loop ?_
    rw [Around.under_plainId F.plain_set_update_loop _]
    show wpAny _ A.in1 (pyNext (.ref I) >>= _) _ _ s
    refine wpAny_bind (W.done s _ _ hst fun s' mv => ?_)
    show wpAny _ A.in1 (ret Value.none) _ _ s'
    have kp' := old mv kp
    exact wpAny_pure (fin s' L es ep t (mv.mono up) (again mv N f.su kp') f kp')
  | succ m ih =>
    intro i s hi hst kp ⟨L, es, ep, t, N, f⟩ fin
    refine codeAny_builtin F.entry_set_update_loop ?_
    rw [Around.under_plainId F.plain_set_update_loop _]
    show wpAny _ A.in1 (pyNext (.ref I) >>= _) _ _ s
    refine wpAny_bind (W.item i s _ _ (by omega) hst fun v s' pv hst' mv => ?_)
    obtain ⟨p, hp, rfl⟩ := hv i v pv
    have kp' := old mv kp
    have N' := again mv N f.su kp'
    have hx : NK s'.heap p.2 p.1 := (hk p (List.mem_of_getElem? hp)).keep kp'
    show wpAny _ A.in1 (holding [Value.ref p.1] (setAdd S (.ref p.1)) >>= _) _ _ s'
    unfold setAdd
    refine wpAny_bind (wpAny_holding (wpAny_holding (wpAny_bind ?_)))
    refine pyHash_key p.2 _ _ _ _ hx.1 (by have := hx.2; simp only [Around.in1_units]; omega) ?_
    refine adds (s := { s' with toks := s'.toks + p.2.draws }) N' hx (by simp only [Around.in1_units]; omega) (by have := f.ln; omega) fun b h' L' es' ep' t' sb R' e1 e2 => ?_
    have tk : ks.take (i + 1) = ks.take i ++ [p] := by rw [List.take_succ, hp]; rfl
    have f' : Of ks (i + 1) L' := by
      by_cases c : p.2 ∈ L.map (·.2)
      · rw [e1 c]
        refine ⟨fun k => ?_, f.su, Nat.le_succ_of_le f.ln⟩
        rw [f.me k, tk, List.map_append, List.mem_append, List.map_cons, List.map_nil, List.mem_singleton]
        exact ⟨.inl, fun z => z.elim id fun z => by rw [z]; exact (f.me _).mp c⟩
      · have pm := e2 c
        refine ⟨fun k => ?_, fun q m => ?_, by rw [pm.length_eq, List.length_cons]; exact Nat.succ_le_succ f.ln⟩
        · rw [(pm.map (·.2)).mem_iff, List.map_cons, List.mem_cons, f.me k, tk, List.map_append, List.mem_append, List.map_cons, List.map_nil, List.mem_singleton]
          exact or_comm
        · rcases List.mem_cons.mp (pm.mem_iff.mp m) with z | z
          · rw [z]; exact List.mem_of_getElem? hp
          · exact f.su q z
    have kp2 : ∀ b o, g0.get? b = some o → h'.get? b = some o := fun b o e => (sb.2 b (fun z => by rw [z, hS0] at e; cases e)).trans (kp' b o e)
    refine wpAny_pure ⟨plainId_quiet F.plain_set_update_loop _, ih (i + 1) _ (by omega) (W.frame _ s' _ _ hst' (Nat.le_add_right _ _) fun c hc o e => (sb.2 c (fun z => hS (by rw [← z]; exact hc))).trans e) kp2 ⟨L', es', ep', t', R', f'⟩ fun s'' L2 es2 ep2 t2 mv2 N2 f2 kp3 => ?_⟩
    exact fin s'' L2 es2 ep2 t2 (Moved.trans W.gtrans ((mv.mono up).then_heap (Nat.le_add_right _ _) fun c o hc e => (sb.2 c (fun z => hc (by rw [z]; exact List.mem_cons_self))).trans e) mv2) N2 f2 kp3
/-- what set.__init__ leaves -/
def SetMade (w : World) (s : Shared) (ks : List (Addr × NestedKey)) (s2 : Shared) : Prop := ∃ (h' : Heap) (tk : Nat) (L : List (Addr × NestedKey)) (es : Array (Int × Value)) (ep : Nat) (t : SetTable), s2 = { s with heap := h', toks := tk } ∧ NS w h' s.heap.objs.size L es ep t ∧ Of ks ks.length L ∧ ∀ b o, s.heap.get? b = some o → h'.get? b = some o
set_option maxHeartbeats 3200000 in
theorem init_keys {l : Addr} {items : Array Value} (ks : List (Addr × NestedKey)) (hh : A.handled = none) (hl : s.heap.IsList l items) (hit : items.toList = ks.map fun p => Value.ref p.1) (hk : ∀ p ∈ ks, NK s.heap p.2 p.1) (few : ks.length < 64) (hu : A.units + 64 < cLine) :
    wpAny (model P w) A.in1.in1 (Builtin.«set.__init__» ⟨[.ref s.heap.objs.size, .ref l], []⟩) (fun fl s2 => ∃ r, fl = .done (.ret r) ∧ r = .none ∧ SetMade w s ks s2) E (withSet w s) := by
  have hsz : items.size = ks.length := by
    rw [← Array.length_toList, hit, List.length_map]
  have hS : (withSet w s).heap.get? s.heap.objs.size = some (setNew w) := Heap.get?_push_size _ rfl
  obtain ⟨⟨oc, od, odt, osl⟩, hol, hcl, nl, hdl⟩ := hl
  simp only at hcl hdl
  subst hcl hdl
  have hol' : (withSet w s).heap.get? l = some { cls := .type "list", dict := od, data := .seq items nl, slots := osl } := Heap.get?_push_of_some _ hol
  have hll : (withSet w s).heap.IsList l items := ⟨_, hol', rfl, nl, rfl⟩
  have hlS : l < s.heap.objs.size := Heap.lt_size hol
  have a1 := F.sub_list_set
  have a2 := F.sub_list_frozenset
  have a3 : (Value.type "list" == Value.type "dict") = false := by decide
  unfold Builtin.«set.__init__» noKeywords Builtin.Frozenset.updateFrom
  generalize hPI : pyIter = PI
  wp_walk
  subst hPI
  refine wpAny_pyIter_list hll ?_
  refine wpAny_bind (wpAny_runValue ?_)
  have h3 : A.in1.in1.in1.handled = none := by simp [hh]
  have zI : (withSet w s).heap.objs.size = s.heap.objs.size + 1 := Heap.size_push ..
  have nI : l ≠ (withSet w s).heap.objs.size := by rw [zI]; exact Nat.ne_of_lt (Nat.lt_succ_of_lt hlS)
  have nS : s.heap.objs.size ∉ [(withSet w s).heap.objs.size, l] := by
    rw [zI]
    intro z
    rcases List.mem_cons.mp z with z | z
    · exact absurd z (Nat.ne_of_lt (Nat.lt_succ_self _))
    · exact absurd (List.mem_singleton.mp z) (Nat.ne_of_gt hlS)
  have hv : ∀ (i : Nat) (v : Value), items[i]? = some v → ∃ p, ks[i]? = some p ∧ v = .ref p.1 := fun i v hv => by
    have q : items.toList[i]? = some v := by rw [Array.getElem?_toList]; exact hv
    rw [hit, List.getElem?_map] at q
    cases hq : ks[i]? with
    | none => rw [hq] at q; cases q
    | some p => rw [hq] at q; cases q; exact ⟨p, rfl, rfl⟩
  have out : ∀ b, s.heap.objs.size ≤ b → s.heap.get? b = none := fun b hb => by
    cases q : s.heap.get? b with
    | none => rfl
    | some o => exact absurd (Nat.lt_of_lt_of_le (Heap.lt_size q) hb) (Nat.lt_irrefl _)
  have hI : ((withSet w s).heap.push { cls := .type "list_iterator", data := .fields #[.ref l, .int 0 0] }).get? s.heap.objs.size = some (setNew w) := Heap.get?_push_of_some _ hS
  refine upd_loop ((Walks.list h3 _ l nI items).toS) nS ks hsz few hv s.heap hk (out _ (Nat.le_refl _)) (fun b hb => out b (by rw [List.mem_singleton.mp hb, zI]; exact Nat.le_succ _)) (by simp only [Around.in1_units]; omega) items.size 0 _ (by omega) ⟨⟨_, Heap.get?_push_size _ rfl, rfl, rfl⟩, hll.push _⟩
    (fun b o e => Heap.get?_push_of_some _ (Heap.get?_push_of_some _ e)) ⟨[], #[], 0, _, ns_fresh P hI, ⟨fun k => by simp, fun p m => (List.not_mem_nil m).elim, Nat.le_refl _⟩⟩ fun s2 L es ep t mv N f kp => ?_
  obtain ⟨h2, g2, d2, t2, o2⟩ := s2
  have e1 : g2 = s.gens := mv.gens
  have e2 : d2 = s.drawn := mv.drawn
  have e3 : o2 = s.os := mv.os
  subst e1 e2 e3
  refine wpAny_pure ?_
  show wpAny _ _ (ret Value.none) _ _ _
  rw [hsz] at f
  exact wpAny_pure ⟨_, rfl, rfl, h2, t2, L, es, ep, t, rfl, N, f, kp⟩
set_option maxHeartbeats 3200000 in
theorem call_set_keys {l : Addr} {items : Array Value} (ks : List (Addr × NestedKey)) {Q : Value → Shared → Prop} (hh : A.handled = none) (hl : s.heap.IsList l items) (hit : items.toList = ks.map fun p => Value.ref p.1) (hk : ∀ p ∈ ks, NK s.heap p.2 p.1) (few : ks.length < 64) (hu : A.units + 64 < cLine)
    (h : ∀ s2, SetMade w s ks s2 → Q (.ref s.heap.objs.size) s2) : wpAny (model P w) A (call (.type "set") [.ref l]) Q E s := by
  have T := F.called_set
  obtain ⟨c, tl, hmro⟩ := T.mro
  have b1 := T.made
  have b2 := T.sub
  have b3 := T.notType
  have b4 := T.canCreate
  have b5 := F.typeCall_set_1 (.ref l)
  refine wpAny_call (codeAny_of_tree ?_)
  refine wpAny_pure ⟨Code.quiet_builtin _ (by decide +kernel), codeAny_builtin F.entry_type_call ?_⟩
  rw [Around.under_plain (weight_type_call_type "set" [.ref l] []) rfl]
  repeat (any_goals (first | assumption | wp_step))
  refine codeAny_mono (code_set_led1 (.ref l) (E := E) (Q₁ := fun x s1 => x = .ref s.heap.objs.size ∧ s1 = withSet w s) ⟨rfl, rfl⟩) fun r s1 hr => ?_
  match r, hr with
  | .error _, hr => exact hr
  | .ok (.ret x), hr =>
    obtain ⟨rfl, rfl⟩ := hr
    have hS : (withSet w s).heap.get? s.heap.objs.size = some (setNew w) := Heap.get?_push_size _ rfl
    have hT : (withSet w s).TypeIs (.ref s.heap.objs.size) "set" := ⟨_, hS, rfl⟩
    have c1 := T.init.lookup
    have c2 := T.init.bind (.ref s.heap.objs.size)
    repeat (any_goals (first | assumption | wp_step))
    refine codeAny_mono (codeAny_call_builtin (R := wants (fun r s2 => r = .none ∧ SetMade w s ks s2) E) T.init.plain F.entry_set_init (check_set_init_1 hT ?_)) fun r2 s2 hr2 => ?_
    · exact wpAny_mono (init_keys ks hh hl hit hk few hu) (fun fl s2 ⟨r, e1, e2, e3⟩ => by rw [e1]; exact ⟨e2, e3⟩) (fun _ _ z => z)
    · match r2, hr2 with
      | .error _, hr2 => exact hr2
      | .ok (.ret r), hr2 =>
        obtain ⟨rfl, hd⟩ := hr2
        repeat (any_goals (first | assumption | wp_step))
        exact h _ hd
end
end ZN
set_option Elab.async false
set_option linter.all false
set_option maxRecDepth 100000
set_option maxHeartbeats 4000000
namespace ZN
open PySem PySem.Spec PyProof.Rows L2 Z
def isTupD : D → Bool
  | .tup _ => true
  | _ => false
/-- each key once -/
def once : List NestedKey → List NestedKey
  | [] => []
  | k :: ks => if k ∈ once ks then once ks else k :: once ks
theorem once_mem : ∀ {ks : List NestedKey} {k : NestedKey}, k ∈ once ks ↔ k ∈ ks
  | [], _ => Iff.rfl
  | x :: ks, k => by
    unfold once
    split
    · rename_i h
      rw [once_mem, List.mem_cons]
      exact ⟨.inr, fun z => z.elim (fun z => by rw [z]; exact once_mem.mp h) id⟩
    · rw [List.mem_cons, List.mem_cons, once_mem]
theorem once_nd : ∀ ks : List NestedKey, (once ks).Nodup
  | [] => List.nodup_nil
  | x :: ks => by
    unfold once
    split
    · exact once_nd ks
    · rename_i h
      exact List.nodup_cons.mpr ⟨h, once_nd ks⟩
theorem same_len {a b : List NestedKey} (ha : a.Nodup) (hb : b.Nodup) (h : ∀ k, k ∈ a ↔ k ∈ b) : a.length = b.length := ((List.perm_ext_iff_of_nodup ha hb).mpr h).length_eq
section
variable {X : Cx}
def rNSetOf (K : PySem.W.Frag) (w : World) : List V → Hp → VK → Prop := fun xs H Q => ∃ (l : Addr) (ks : List (Addr × NestedKey)), xs = [.ref l] ∧ SqL K H l (ks.map fun p => V.ref p.1) ∧ (∀ p ∈ ks, KeyH K H p.2 p.1) ∧ ks.length < 64 ∧
  ∀ a L, H a = none → (L.map (·.2)).Nodup → (∀ k : NestedKey, k ∈ L.map (·.2) ↔ k ∈ ks.map (·.2)) → Q (.ref a) (upd H a (NSetO w a L))
theorem refs_are : ∀ {ks : List (Addr × NestedKey)} {us : List Value}, Vals (ks.map fun p => V.ref p.1) us → us = ks.map fun p => Value.ref p.1
  | [], _, r => by cases r; rfl
  | p :: ks, _, r => by
    cases r with
    | cons r rs =>
      rw [List.map_cons, ← refs_are rs]
      congr 1
theorem cr_nsetOf (hc : X.calm = true) (hu : X.A.units + 64 < cLine) : CallR X (.type "set") (rNSetOf X.K X.w) := by
  intro pins s σ H xs us Q I r h
  obtain ⟨l, ks, rfl, hl, hk, few, q⟩ := h
  obtain rfl := Vals.ref1 r
  obtain ⟨its, rv, pl, _⟩ := I.list hl
  have hn : H s.heap.objs.size = none := I.hok.fresh (Nat.le_refl _)
  refine call_set_keys (P := X.prog) (w := X.w) ks (I.ok.hd hc) pl.isList (by simpa using refs_are rv) (fun p m => (hk p m).nk I) few hu fun s2 ⟨h', tk, L, es, ep, t, e, N, f, k⟩ => ?_
  subst e
  exact ⟨.ref s.heap.objs.size, upd H s.heap.objs.size (NSetO X.w s.heap.objs.size L), I.laid (t' := tk) k (Nat.le_refl _) (nset_ok N.low), rfl, q _ L hn N.one fun k' => by rw [f.me k', List.take_length]⟩
def rNLen (w : World) : List V → Hp → VK → Prop := fun xs H Q => ∃ (a : Addr) (L : List (Addr × NestedKey)), xs = [.ref a] ∧ H a = some (NSetO w a L) ∧ Q (.int L.length) H
theorem cr_nlen : CallR X (.builtin "len") (rNLen X.w) := by
  intro pins s σ H xs us Q I r h
  obtain ⟨a, L, rfl, ha, q⟩ := h
  obtain rfl := Vals.ref1 r
  have R : NS0 X.w s.heap a L := (I.hok a _ ha).1
  obtain ⟨es, ep, t, ⟨o, ho, hc, hd⟩, lay, tab, room⟩ := R.ex
  have z : es.size = L.length := by rw [← Array.length_toList, lay, cells, List.length_map]
  have few := R.few
  have ft : t.fits es.size = true := by
    have h4 := tab.sz
    rw [List.length_map] at h4
    simp only [SetTable.fits, SetTable.fill, tab.dm, Bool.and_eq_true, beq_iff_eq, decide_eq_true_eq, List.size_toArray, List.length_nil]
    omega
  refine call_len_set ho hc hd ft (by rw [z]; omega) ?_
  rw [z]
  exact ⟨.int L.length, H, I.tok _, ⟨_, rfl⟩, q⟩
/-- the items as keys -/
theorem keys_of {K : PySem.W.Frag} {Hs H : Hp} (s : Same Hs H) : ∀ {vs : List V} {ds : List D} {kk : List NestedKey}, DzA K Hs vs ds → (ds.all isTupD) = true → nkDs ds = some kk → (∀ k ∈ kk, k.depth ≤ 8) → ∃ ks : List (Addr × NestedKey), vs = ks.map (fun p => V.ref p.1) ∧ ks.map (·.2) = kk ∧ ∀ p ∈ ks, KeyH K H p.2 p.1
  | _, _, _, .nil, _, e, _ => by
    simp only [nkDs] at e
    cases e
    exact ⟨[], rfl, rfl, fun p m => (List.not_mem_nil m).elim⟩
  | _, _, _, .cons (v := v) (d := d) z zs, ha, e, hd => by
    simp only [nkDs] at e
    split at e
    · rename_i k ks h1 h2
      cases e
      rw [List.all_cons, Bool.and_eq_true] at ha
      obtain ⟨qs, e1, e2, e3⟩ := keys_of s zs ha.2 h2 fun x m => hd x (List.mem_cons_of_mem _ m)
      obtain ⟨b, rfl⟩ : ∃ b, v = .ref b := by
        cases z with
        | tup sq _ => exact ⟨_, rfl⟩
        | _ => simp [isTupD] at ha
      refine ⟨(b, k) :: qs, by rw [List.map_cons, e1], by rw [List.map_cons, e2], fun p m => ?_⟩
      rcases List.mem_cons.mp m with rfl | m
      · exact ⟨d, z.mono s, h1, hd _ List.mem_cons_self⟩
      · exact e3 p m
    · cases e
end
end ZN
namespace Z
open PySem PySem.Spec PyProof.Rows L2 ZN
def zLenSet (ma : ZM) : ZM := fun g => do
  let (r, g1) ← ma g
  let d ← rd g1 r
  match d with
  | .lst ds => do
    let kk ← nkDs ds
    if (ds.all isTupD && kk.all (fun k => decide (k.depth ≤ 8)) && decide (ds.length < 64)) = true then some (.dat (.int (once kk).length), g1) else none
  | _ => none
theorem nkDs_len : ∀ {ds : List D} {kk : List NestedKey}, nkDs ds = some kk → kk.length = ds.length
  | [], _, e => by simp only [nkDs] at e; cases e; rfl
  | d :: ds, _, e => by
    simp only [nkDs] at e
    split at e
    · rename_i k ks h1 h2
      cases e
      rw [List.length_cons, List.length_cons, nkDs_len h2]
    · cases e
section
variable {X : Cx} {a : Expr} {ma : ZM} {x y : Str} {p p2 pos pos2 : Pos}
theorem ze_lenSet {k : Nat} (hr : Room k X.A) (hc : X.calm = true) (hg : Gl X x) (hm : X.mg x = none) (hg2 : Gl X y) (hm2 : X.mg y = none) (ha : ZE X a ma) (hv : bootBuiltins x = some (.builtin "len") := by decide +kernel) (hv2 : bootBuiltins y = some (.type "set") := by decide +kernel)
    (hn : x ≠ "__name__" := by decide) (hdb : (x == ("__debug__" : Str)) = false := by decide) (hn2 : y ≠ "__name__" := by decide) (hdb2 : (y == ("__debug__" : Str)) = false := by decide) (hs : starEach [a] X.env = (false, eval a X.env) :: starEach [] X.env := by rfl) :
    ZE X (.Call (.Name x p) [.Call (.Name y p2) [a] [] pos2] [] pos) (zLenSet ma) := by
  refine PE.of (pe_callB cr_nlen hg hm hv (pa_cons (pe_callTy (cr_nsetOf hc hr.units) hg2 hm2 hv2 (pa_cons ha pa_nil hs) hn2 hdb2 hs rfl) pa_nil) hn hdb rfl rfl) fun σ H Q ⟨C, Hs, A, g, r, g', hK, hn, ok, e, q⟩ => ?_
  unfold zLenSet at e
  simp only [Option.bind_eq_bind, Option.bind_eq_some_iff] at e
  obtain ⟨⟨r1, g1⟩, h1, d, h2, e⟩ := e
  cases d with
  | lst ds =>
    simp only [Option.bind_eq_some_iff] at e
    obtain ⟨kk, h3, e⟩ := e
    split at e
    · rename_i hcnd
      cases e
      simp only [Bool.and_eq_true, decide_eq_true_eq, List.all_eq_true] at hcnd
      obtain ⟨⟨c1, c2⟩, c3⟩ := hcnd
      refine ⟨C, Hs, A, g, r1, _, hK, hn, ok, h1, fun Hs1 A1 v1 H1 s1 p1 ok1 rel1 => ?_⟩
      obtain ⟨b, xs, rfl, y1, y2⟩ := ok1.rdL rel1 h2
      rw [hK] at y1 y2
      obtain ⟨ks, e1, e2, e3⟩ := keys_of ok1.same y2 (List.all_eq_true.mpr c1) h3 c2
      have lk : ks.length = ds.length := by rw [← nkDs_len h3, ← e2, List.length_map]
      refine ⟨b, ks, rfl, by rw [← e1]; exact y1, e3, by omega, fun s L hs0 nd me => ⟨s, L, rfl, upd_same, ?_⟩⟩
      have ln : L.length = (once kk).length := by
        rw [← List.length_map (f := (·.2))]
        exact same_len nd (once_nd kk) fun k => by rw [me k, e2, once_mem]
      rw [ln]
      exact q Hs1 A1 _ _ s1 p1 (ok1.junk hs0) (.int _)
    · cases e
  | _ => cases e
end
section
variable {g g1 : G} {ma : ZM}
theorem er_lenSet {r : R} {ds : List D} {kk : List NestedKey} {n : Nat} (h1 : ma g = some (r, g1)) (h2 : rd g1 r = some (.lst ds)) (h3 : nkDs ds = some kk) (h4 : (ds.all isTupD) = true) (h5 : ∀ k ∈ kk, k.depth ≤ 8) (h6 : ds.length < 64) (h7 : (once kk).length = n) : zLenSet ma g = some (.dat (.int n), g1) := by
  unfold zLenSet
  simp only [Option.bind_eq_bind, h1, h2, h3, Option.bind_some]
  rw [if_pos (by simp only [Bool.and_eq_true, decide_eq_true_eq, List.all_eq_true]; exact ⟨⟨List.all_eq_true.mp h4, h5⟩, h6⟩), h7]
end
end Z
set_option Elab.async false
set_option linter.all false
set_option maxRecDepth 100000
set_option maxHeartbeats 4000000
namespace Z
open PySem PySem.Spec PyProof.Rows L2 ZS SrtO
def ltTx (a b : List Nat) : Bool := decide (a < b)
theorem swo_ltTx : Swo ltTx := by
  refine ⟨fun x y h => decide_eq_false (List.lt_asymm (of_decide_eq_true h)), fun x y z h1 h2 => ?_⟩
  have a : x ≤ y := of_decide_eq_false h1
  have b : y ≤ z := of_decide_eq_false h2
  exact decide_eq_false (fun q => (List.le_trans a b : x ≤ z) q)
theorem eqv_ltTx {x y : List Nat} : eqv ltTx x y = true ↔ x = y := by
  unfold eqv ltTx
  simp only [Bool.and_eq_true, Bool.not_eq_true', decide_eq_false_iff_not]
  constructor
  · rintro ⟨h1, h2⟩
    exact List.le_antisymm (show x ≤ y by first | exact h2 | exact h1) (show y ≤ x by first | exact h1 | exact h2)
  · rintro rfl
    exact ⟨List.lt_irrefl _, List.lt_irrefl _⟩
theorem rising_pw : ∀ (l : List Str) (p : Str), risingS p l = true → (∀ x ∈ l, ¬ x.cps.toList < p.cps.toList) ∧ l.Pairwise fun x y => ¬ y.cps.toList < x.cps.toList
  | [], _, _ => ⟨fun _ m => (List.not_mem_nil m).elim, .nil⟩
  | x :: l, p, h => by
    have h' : (!decide (x.cps.toList < p.cps.toList)) = true ∧ risingS x l = true := by
      unfold risingS at h
      rw [Bool.and_eq_true, PyProof.Rows.ltCps_eq] at h
      exact h
    obtain ⟨h1, h2⟩ := h'
    have h1 : ¬ x.cps.toList < p.cps.toList := fun z => by rw [decide_eq_true z] at h1; cases h1
    obtain ⟨i1, i2⟩ := rising_pw l x h2
    refine ⟨fun y m => ?_, List.pairwise_cons.mpr ⟨i1, i2⟩⟩
    rcases List.mem_cons.mp m with rfl | m
    · exact h1
    · have a : p.cps.toList ≤ x.cps.toList := h1
      have b : x.cps.toList ≤ y.cps.toList := i1 y m
      exact List.le_trans a b
theorem sorted_pw {l : List Str} (h : sortedS l = true) : l.Pairwise fun x y => ¬ y.cps.toList < x.cps.toList := by
  cases l with
  | nil => exact .nil
  | cons x r =>
    obtain ⟨a, b⟩ := rising_pw r x h
    exact List.pairwise_cons.mpr ⟨a, b⟩
theorem sorted_is {ys xs : List Str} (pm : ys.Perm xs) (h : sortedS ys = true) : ys.map (·.cps.toList) = isort ltTx (xs.map (·.cps.toList)) := by
  have O := swo_ltTx
  have s1 : Srtd ltTx (ys.map (·.cps.toList)) := by
    show (ys.map (·.cps.toList)).Pairwise _
    rw [List.pairwise_map]
    exact (sorted_pw h).imp fun z => decide_eq_false z
  have p1 : (ys.map (·.cps.toList)).Perm (xs.map (·.cps.toList)) := pm.map _
  refine srtd_uniq O s1 (isort_srtd O _) (p1.trans (isort_perm _).symm) fun z => ?_
  have q := (p1.trans (isort_perm (lt := ltTx) _).symm).filter (eqv ltTx z)
  have all : ∀ l : List (List Nat), ∃ n, l.filter (eqv ltTx z) = List.replicate n z := fun l => ⟨(l.filter (eqv ltTx z)).length, List.eq_replicate_iff.mpr ⟨rfl, fun b m => (eqv_ltTx.mp (List.mem_filter.mp m).2).symm⟩⟩
  obtain ⟨n, e1⟩ := all (ys.map (·.cps.toList))
  obtain ⟨m, e2⟩ := all (isort ltTx (xs.map (·.cps.toList)))
  rw [e1, e2] at q ⊢
  have := q.length_eq
  rw [List.length_replicate, List.length_replicate] at this
  rw [this]
def zSortS (ma : ZM) : ZM := fun g => do
  let (r, g1) ← ma g
  let d ← rd g1 r
  match d with
  | .lst ds => do
    let ts ← txsD ds
    if ts.length < 64 then some (.bor g1.length, g1 ++ [.own (.lst ((isort ltTx ts).map D.str)) false false]) else none
  | _ => none
theorem txs_vals {K : PySem.W.Frag} {H : Hp} : ∀ {vs : List V} {ds : List D} {ts : List (List Nat)}, DzA K H vs ds → txsD ds = some ts → vs = (ts.map fun t => (⟨t.toArray⟩ : Str)).map V.str
  | _, _, _, .nil, e => by cases e; rfl
  | _, _, _, .cons (d := d) z zs, e => by
    cases z with
    | str t =>
      simp only [txsD, Option.bind_eq_bind, Option.bind_eq_some_iff] at e
      obtain ⟨r, h1, e⟩ := e
      cases e
      rw [txs_vals zs h1]
      rfl
    | _ => cases e
theorem strs_dz {K : PySem.W.Frag} {H : Hp} : ∀ ys : List Str, DzA K H (ys.map V.str) ((ys.map (·.cps.toList)).map D.str)
  | [] => .nil
  | y :: ys => by
    refine .cons ?_ (strs_dz ys)
    have := Dz.str (K := K) (H := H) y.cps.toList
    simpa using this
section
variable {X : Cx} {a : Expr} {ma : ZM} {x : Str} {p pos : Pos}
theorem ze_sortS (hg : Gl X x) (hm : X.mg x = none) (ha : ZE X a ma) (hv : bootBuiltins x = some (.builtin "sorted") := by decide +kernel) (hn : x ≠ "__name__" := by decide) (hdb : (x == ("__debug__" : Str)) = false := by decide)
    (hs : starEach [a] X.env = (false, eval a X.env) :: starEach [] X.env := by rfl) : ZE X (.Call (.Name x p) [a] [] pos) (zSortS ma) := by
  refine PE.of (pe_callB cr_sortedS hg hm hv (pa_cons ha pa_nil hs) hn hdb hs rfl) fun σ H Q ⟨C, Hs, A, g, r, g', hK, hn, ok, e, q⟩ => ?_
  unfold zSortS at e
  simp only [Option.bind_eq_bind, Option.bind_eq_some_iff] at e
  obtain ⟨⟨r1, g1⟩, h1, d, h2, e⟩ := e
  cases d with
  | lst ds =>
    simp only [Option.bind_eq_some_iff] at e
    obtain ⟨ts, h3, e⟩ := e
    split at e
    · rename_i hz
      cases e
      refine ⟨C, Hs, A, g, r1, g1, hK, hn, ok, h1, fun Hs1 A1 v1 H1 s1 p1 ok1 rel1 => ?_⟩
      obtain ⟨b, xs, rfl, y1, y2⟩ := ok1.rdL rel1 h2
      have ev := txs_vals y2 h3
      subst ev
      rw [hK] at y1
      refine ⟨b, ts.map fun t => (⟨t.toArray⟩ : Str), rfl, y1, by rw [List.length_map]; exact hz, fun ys s pm hso hs0 => ?_⟩
      have es := sorted_is pm hso
      rw [List.map_map, show ((fun y : Str => y.cps.toList) ∘ fun t : List Nat => (⟨t.toArray⟩ : Str)) = id by funext t; simp, List.map_id] at es
      have dz : DzA C.K Hs1 (ys.map V.str) ((isort ltTx ts).map D.str) := by rw [← es]; exact strs_dz ys
      exact q Hs1 (A1 ++ [s]) _ _ s1 (p1.trans (Pre.app _ _)) (ok1.tmp (o := .lst (ys.map V.str)) (c := .lst ((isort ltTx ts).map D.str)) hs0 dz) (ok1.tmpR s)
    · cases e
  | _ => cases e
end
section
variable {g g1 : G} {ma : ZM}
theorem er_sortS {r : R} {ds : List D} {ts : List (List Nat)} (h1 : ma g = some (r, g1)) (h2 : rd g1 r = some (.lst ds)) (h3 : txsD ds = some ts) (h4 : ts.length < 64) : zSortS ma g = some (.bor g1.length, g1 ++ [.own (.lst ((isort ltTx ts).map D.str)) false false]) := by
  unfold zSortS
  simp only [Option.bind_eq_bind, h1, h2, h3, Option.bind_some]
  rw [if_pos h4]
end
end Z
set_option Elab.async false
set_option linter.all false
set_option maxRecDepth 100000
set_option maxHeartbeats 4000000
namespace Z
open PySem PySem.Spec PyProof.Rows L2
end Z
set_option Elab.async false
set_option linter.all false
set_option maxRecDepth 100000
set_option maxHeartbeats 4000000
namespace Z
open PySem PySem.Spec PyProof.Rows L2
def zListR (j : Nat) (mi : ZM) : ZM := fun g => match g[j]? with
  | some (.rws _) => do
    let (ri, g1) ← mi g
    let k ← isI ri
    match g1[j]? with
    | some (.rws ls) => do
      let l ← atI ls k
      some (.bor g1.length, g1 ++ [.own (.lst l) false false])
    | _ => none
  | _ => none
section
variable {X : Cx} {a : Expr} {mi : ZM} {x y : Str} {p p2 s1 pos : Pos}
theorem ze_listR {j : Nat} (hg : Gl X x) (hm : X.mg x = none) (hy : PE X (.Name y p2) (tVar j)) (hi : ZE X a mi) (hj : j < X.N.length) (hix : PlainIx a := by exact fun _ _ => rfl) (hv : bootBuiltins x = some (.type "list") := by decide +kernel) (hn : x ≠ "__name__" := by decide) (hdb : (x == ("__debug__" : Str)) = false := by decide) :
    ZE X (.Call (.Name x p) [.Subscript (.Name y p2) a s1] [] pos) (zListR j mi) := by
  refine PE.of (pe_callTy call_list_of hg hm hv (pa_cons (pe_ix ix_seq hy hi hix) pa_nil) hn hdb rfl rfl) fun σ H Q ⟨C, Hs, A, g, r, g', hK, hn, ok, e, q⟩ => ?_
  unfold zListR at e
  split at e
  · rename_i ls0 hg0
    simp only [Option.bind_eq_bind, Option.bind_eq_some_iff] at e
    obtain ⟨⟨ri, g1⟩, h1, k, h2, e⟩ := e
    have er : ri = .dat (.int k) := isI_some h2
    subst er
    simp only at e
    split at e
    · rename_i ls hg1
      simp only [Option.bind_eq_some_iff] at e
      obtain ⟨l, h3, e⟩ := e
      cases e
      obtain ⟨a0, ks0, t1, t2, t3, _⟩ := ok.rws j ls0 hg0
      refine ⟨_, t2 (by rw [hn]; exact hj), C, Hs, A, g, _, g1, hK, hn, ok, h1, fun Hs1 A1 v1 H1 s1 p1 ok1 rel1 => ?_⟩
      obtain rfl : v1 = .int k := (show Dz C.K Hs1 v1 (.int k) from rel1).v rfl
      obtain ⟨a1, ks, u1, _, u3, _⟩ := ok1.rws j ls hg1
      rw [p1 j a0 t1] at u1
      cases u1
      obtain ⟨m, hm', hl, _⟩ : ∃ m, ixN ls.length k = some m ∧ ls[m]? = some l ∧ True := by
        unfold atI at h3
        obtain ⟨m, e1, e2⟩ := Option.bind_eq_some_iff.mp h3
        exact ⟨m, e1, e2, trivial⟩
      have lk : ks.length = ls.length := u3.kd.len
      have hmk : m < ks.length := by rw [lk]; exact (ixN_seq hm').2.1
      obtain ⟨l0, us, w1, w2, w3⟩ := u3.kd.at (k := m) (List.getElem?_eq_getElem hmk)
      rw [hl] at w1
      cases w1
      refine .inl ⟨a0, ks.map V.ref, k, .ref ks[m], rfl, rfl, by rw [← hK]; exact SqL.of u3.hd, ?_, ?_⟩
      · unfold atI
        rw [List.length_map, lk, hm', Option.bind_some, List.getElem?_map, List.getElem?_eq_getElem hmk]
        rfl
      · exact ⟨ks[m], us, rfl, .inl (by rw [← hK]; exact SqL.of w2), fun s hs0 => q Hs1 (A1 ++ [s]) _ _ s1 (p1.trans (Pre.app _ _)) (ok1.tmp (o := .lst us) (c := .lst l) hs0 w3) (ok1.tmpR s)⟩
    · cases e
  · cases e
end
section
theorem er_listR {j : Nat} {mi : ZM} {g g1 : G} {ls0 ls : List (List D)} {k : Int} {l : List D} (h0 : g[j]? = some (.rws ls0)) (h1 : mi g = some (.dat (.int k), g1)) (h2 : g1[j]? = some (.rws ls)) (h3 : atI ls k = some l) : zListR j mi g = some (.bor g1.length, g1 ++ [.own (.lst l) false false]) := by
  unfold zListR
  simp only [h0, Option.bind_eq_bind, h1, Option.bind_some, isI, h2, h3]
end
end Z
set_option Elab.async false
set_option linter.all false
set_option maxRecDepth 100000
set_option maxHeartbeats 4000000
namespace Z
open PySem PySem.Spec PyProof.Rows L2
end Z
set_option Elab.async false
set_option linter.all false
set_option maxRecDepth 100000
set_option maxHeartbeats 4000000
namespace Z
open PySem PySem.Spec PyProof.Rows L2 ZN ZS SrtO
/-- a plain value -/
def PlV (v : D) : Prop := match v with
  | .non => True | .bl _ => True | .int _ => True | .str _ => True | _ => False
theorem VW.pl {v : D} (h : VW v) : PlV v := by cases v <;> first | exact h.elim | trivial
def vX : D → NestedKey
  | .int i => .num i
  | .str t => .text ⟨t.toArray⟩
  | _ => .none
/-- the rank as a key -/
def vN (v : D) : NestedKey := .tup [.num (kd v : Nat), vX (kx v)]
theorem nk_rkP {v : D} (h : PlV v) : nkD (rk v) = some (vN v) := by
  cases v with
  | non => rfl
  | bl b => cases b <;> rfl
  | int i => rfl
  | str t => rfl
  | _ => exact h.elim
theorem vN_eq {v w : D} (hv : PlV v) (hw : PlV w) : NestedKey.beq (vN v) (vN w) = sameV v w := by
  rw [sameV_eq]
  show (decide (((kd v : Nat) : Int) = ((kd w : Nat) : Int)) && (NestedKey.beq (vX (kx v)) (vX (kx w)) && true)) = _
  rw [Bool.and_true]
  have e0 : decide (((kd v : Nat) : Int) = ((kd w : Nat) : Int)) = decide (kd v = kd w) := by
    rw [Bool.eq_iff_iff, decide_eq_true_iff, decide_eq_true_iff]
    omega
  rw [e0]
  congr 1
  have i1 : ∀ a b : Int, NestedKey.beq (.num a) (.num b) = (a == b) := fun a b => by simp only [NestedKey.beq]; rfl
  have s1 : ∀ a b : List Nat, NestedKey.beq (.text ⟨a.toArray⟩) (.text ⟨b.toArray⟩) = (a == b) := fun a b => by
    simp only [NestedKey.beq]
    rw [Bool.eq_iff_iff, decide_eq_true_iff, beq_iff_eq]
    constructor
    · intro h
      injection h with h
      simpa using congrArg Array.toList h
    · rintro rfl; rfl
  cases v <;> first | exact hv.elim | skip
  all_goals cases w <;> first | exact hw.elim | skip
  all_goals first
    | exact i1 _ _
    | exact s1 _ _
    | rfl
theorem vN_iff {v w : D} (hv : PlV v) (hw : PlV w) : vN v = vN w ↔ sameV v w = true := by
  rw [← vN_eq hv hw]
  exact ⟨fun h => by rw [h]; exact NestedKey.beq_self _, NestedKey.eq_of_beq _ _⟩
theorem vN_depth (v : D) : (vN v).depth ≤ 8 := by
  cases v <;> simp [vN, kx, vX, NestedKey.depth, NestedKey.depthAll]
theorem nk_rksP : ∀ {r : List D}, (∀ v ∈ r, PlV v) → nkDs (r.map rk) = some (r.map vN)
  | [], _ => by simp [nkDs]
  | v :: r, h => by
    rw [List.map_cons, List.map_cons, nkDs, nk_rkP (h v List.mem_cons_self), nk_rksP fun x hx => h x (List.mem_cons_of_mem _ hx)]
theorem rks_tup (r : List D) : ((r.map rk).all isTupD) = true := by
  rw [List.all_map, List.all_eq_true]
  intro v _
  rfl
theorem once_snoc (ks : List NestedKey) (k : NestedKey) : (once (ks ++ [k])).length = (once ks).length + if k ∈ ks then 0 else 1 := by
  by_cases c : k ∈ ks
  · rw [if_pos c]
    exact same_len (once_nd _) (once_nd _) fun x => by
      rw [once_mem, once_mem, List.mem_append, List.mem_singleton]
      exact ⟨fun z => z.elim id fun z => by rw [z]; exact c, .inl⟩
  · rw [if_neg c, ← List.length_singleton (a := k), ← List.length_append]
    refine same_len (once_nd _) (List.nodup_append.mpr ⟨once_nd _, by simp, fun x hx y hy z => ?_⟩) fun x => ?_
    · rw [List.mem_singleton] at hy
      subst hy z
      exact c (once_mem.mp hx)
    · rw [once_mem, List.mem_append, List.mem_append, once_mem]
def xC : D → List Int
  | .int i => [i]
  | .str t => t.map Int.ofNat
  | _ => []
/-- the rank's code -/
def vC (v : D) : List Int := (kd v : Nat) :: xC (kx v)
theorem cd_rk {v : D} (h : PlV v) : cdD (rk v) = some (vC v) := by
  cases v with
  | non => rfl
  | bl b => cases b <;> rfl
  | int i => rfl
  | str t => rfl
  | _ => exact h.elim
theorem codes_rk {f : List D → Option FR} {vs : List D} (hf : ∀ v ∈ vs, f [v] = some (.dat (rk v))) (h : ∀ v ∈ vs, PlV v) : codesD f vs = some (vs.map fun v => (v, vC v)) := codesD_map fun v m => by
  unfold keyC
  rw [hf v m]
  exact cd_rk (h v m)
/-- the values in order -/
def sortV (vs : List D) : List D := isort (fun v w => decide (vC v < vC w)) vs
theorem sortP_rk (vs : List D) : sortP false (vs.map fun v => (v, vC v)) = sortV vs := by
  simp only [sortP, Bool.false_eq_true, if_false]
  rw [← isort_map (lt := fun v w => decide (vC v < vC w)) (fun v : D => (v, vC v)) (fun _ _ => rfl), List.map_map]
  exact List.map_id' _
theorem sortV_perm (vs : List D) : (sortV vs).Perm vs := isort_perm vs
end Z
set_option Elab.async false
set_option linter.all false
set_option maxRecDepth 100000
set_option maxHeartbeats 4000000
namespace Z
open PySem PySem.Spec PyProof.Rows L2
end Z
set_option Elab.async false
set_option linter.all false
set_option maxRecDepth 100000
set_option maxHeartbeats 4000000
namespace Z
open PySem PySem.Spec PyProof.Rows L2 ZN ZS SrtO
def minV (P : List D) : D := (sortV P).headD .non
def maxV (P : List D) : D := (sortV P).getLastD .non
end Z
set_option Elab.async false
set_option linter.all false
set_option maxRecDepth 100000
set_option maxHeartbeats 4000000
namespace Z
open PySem PySem.Spec PyProof.Rows L2
def ClsAt (K : PySem.W.Frag) (c : Str) (C : Addr) : Prop := PySem.W.nsIn K mainGlobals c = some (some (.ref C))
/-- the promise of an __init__ that stores fields -/
def spI (K : PySem.W.Frag) (fl : List Str) (f : List D → Option (List D)) : Sp := fun vs H Q _ => ∃ (C x dx : Addr) (us : List V) (Hs : Hp) (ds es : List D), vs = .ref x :: us ∧ Cls K C ∧ (∀ n ∈ fl, NoAttr K C n) ∧ H x = some (.ins C dx []) ∧ Hs x = none ∧ Same Hs H ∧ DzA K Hs us ds ∧ f ds = some es ∧
  ∀ (Hs' H' : Hp) (xs : List V), Same Hs Hs' → (∀ b u, b ≠ x → H b = some u → H' b = some u) → Same Hs' H' → (∀ b o, Hs' b = some o → Hs b = some o ∨ (b ≠ x ∧ H b = none)) → Hs' x = none → H' x = some (.ins C dx (fl.zip xs)) → fl.length = xs.length → DzA K Hs' xs es → Q .non H'
theorem KdOk.lsts {K : PySem.W.Frag} {Hs H : Hp} : ∀ {ks : List Addr} {ls : List (List D)}, KdOk K Hs H ks ls → ∀ x ∈ ks, ∃ us, H x = some (.lst us)
  | [], [], _, _, m => (List.not_mem_nil m).elim
  | b :: bs, l :: ls, h, x, m => by
    rcases List.mem_cons.mp m with rfl | m
    · obtain ⟨us, e, _⟩ := h.1
      exact ⟨us, e⟩
    · exact KdOk.lsts h.2 x m
  | [], _ :: _, h, _, _ => h.elim
  | _ :: _, [], h, _, _ => h.elim
/-- an instance that nothing known rests on is changed -/
def Ct.ins (C : Ct) (x : Addr) (o : HO) : Ct := { C with H0 := upd C.H0 x o }
theorem Ok.ins {C : Ct} {Hs : Hp} {A : List Addr} {g : G} {σ : L2.St} {H : Hp} (ok : Ok C Hs A g σ H) {x Cc dx : Addr} {fs : List (Str × V)} {o : HO} (h : H x = some (.ins Cc dx fs)) (hs : Hs x = none) : Ok (C.ins x o) Hs A g σ (upd H x o) := by
  have ne : ∀ {b : Addr} {us : List V}, H b = some (.lst us) → b ≠ x := fun {b us} e z => by rw [z, h] at e; cases e
  have h0 : ∀ {b : Addr}, b ≠ x → (C.ins x o).H0 b = C.H0 b := fun z => upd_ne z
  refine ⟨ok.ln, ok.lg, ok.la, ok.base, fun b u e => ?_, ok.dat, ok.frz, fun i c p l e => ?_, ok.inj, fun b u e => ?_, fun b u e k => ?_, ok.pinned, ok.pin1, ok.locked, ?_⟩
  · rw [upd_ne (fun z => by rw [z, hs] at e; cases e)]
    exact ok.same b u e
  · obtain ⟨a, u, q1, q2, q3, q4, q5, q6⟩ := ok.own i c p l e
    refine ⟨a, u, q1, q2, q3, ?_, q5, fun hp => ?_⟩
    · cases c with
      | lst l' =>
        obtain ⟨vs, rfl, _⟩ := CnOk.lst_inv (show CnOk C.K Hs (.lst l') u from q5)
        rw [upd_ne (ne q4)]; exact q4
    · cases c with
      | lst l' =>
        obtain ⟨vs, rfl, _⟩ := CnOk.lst_inv (show CnOk C.K Hs (.lst l') u from q5)
        rw [h0 (ne q4)]; exact q6 hp
  · rcases ok.grow b u e with q | q
    · exact .inl q
    · by_cases z : b = x
      · rw [z, hs] at e; cases e
      · exact .inr (by rw [h0 z]; exact q)
  · by_cases z : b = x
    · subst z
      rw [show (C.ins b o).H0 b = some o from upd_same] at e
      rw [upd_same]; exact e
    · rw [h0 z] at e
      rw [upd_ne z]
      exact ok.keep b u e k
  · intro i ls e
    obtain ⟨a, ks, q1, q2, q3, q4, q5⟩ := ok.rws i ls e
    have na : ∀ y ∈ a :: ks, y ≠ x := fun y m => by
      rcases List.mem_cons.mp m with rfl | m
      · exact ne q3.hd
      · obtain ⟨us, e⟩ := q3.kd.lsts y m
        exact ne e
    refine ⟨a, ks, q1, q2, ⟨by rw [upd_ne (na a List.mem_cons_self)]; exact q3.hd, q3.nd, fun y m => ⟨(q3.fr y m).1, by rw [h0 (na y m)]; exact (q3.fr y m).2⟩, q3.kd.move (Same.refl _) fun y m o' e' => by rw [upd_ne (na y (List.mem_cons_of_mem _ m))]; exact e'⟩, q4, fun j ms b y e1 e2 m1 m2 => ?_⟩
    obtain ⟨b', ks', r1, _, r3, _⟩ := ok.rws j ms e1
    rw [e2] at r1
    cases r1
    rw [upd_ne (ne r3.hd)] at m1
    exact q5 j ms b y e1 e2 m1 m2
end Z
set_option Elab.async false
set_option linter.all false
set_option maxRecDepth 100000
set_option maxHeartbeats 4000000
namespace Z
open PySem PySem.Spec PyProof.Rows L2
/-- class c of the module: its fields, its __init__ -/
def ClsK (P : Program) (w : World) (K : PySem.W.Frag) (mg : Str → Option Value) (base : Heap) (k : Nat) (c : Str) (fl : List Str) (f : List D → Option (List D)) : Prop :=
  ∃ (C fa : Addr) (fd : FuncData) (ps : List Str), ClsAt K c C ∧ mg c = some (.ref C) ∧ Cls K C ∧ (∀ n ∈ fl, NoAttr K C n) ∧ Mk K C fa ∧ Binds K fd ps [] ∧ FnOk P w K mg base CX0 k fa fd ps (spI K fl f)
theorem ClsK.mono {P : Program} {w : World} {K : PySem.W.Frag} {mg : Str → Option Value} {base : Heap} {j k : Nat} {c : Str} {fl : List Str} {f : List D → Option (List D)} (h : ClsK P w K mg base j c fl f) (hk : j ≤ k) : ClsK P w K mg base k c fl f :=
  let ⟨C, fa, fd, ps, h1, h2, h3, h4, h5, h6, h7⟩ := h
  ⟨C, fa, fd, ps, h1, h2, h3, h4, h5, h6, h7.mono hk⟩
section
variable {X : Cx} {pos : Pos} {fl : List Str}
def MthK (P : Program) (w : World) (K : PySem.W.Frag) (mg : Str → Option Value) (base : Heap) (k : Nat) (c m : Str) (sp : Sp) : Prop :=
  ∃ (C fa : Addr) (fd : FuncData) (ps : List Str), ClsAt K c C ∧ Cls K C ∧ Meth K C m fa ∧ Binds K fd ps [] ∧ FnOk P w K mg base CX0 k fa fd ps sp
theorem MthK.mono {P : Program} {w : World} {K : PySem.W.Frag} {mg : Str → Option Value} {base : Heap} {j k : Nat} {c m : Str} {sp : Sp} (h : MthK P w K mg base j c m sp) (hk : j ≤ k) : MthK P w K mg base k c m sp :=
  let ⟨C, fa, fd, ps, h1, h2, h3, h4, h5⟩ := h
  ⟨C, fa, fd, ps, h1, h2, h3, h4, h5.mono hk⟩
end
end Z
set_option Elab.async false
set_option linter.all false
set_option maxRecDepth 100000
set_option maxHeartbeats 4000000
namespace Z
open PySem PySem.Spec PyProof.Rows L2
/-- a class without an __eq__ of its own -/
def NonK (K : PySem.W.Frag) (c : Str) : Prop := ∃ C, ClsAt K c C ∧ PySem.W.mroIn K C (.type "object") = some true ∧ PySem.W.findIn K (.ref C) "__eq__" = some (some (.builtin "object.__eq__"))
end Z
namespace Z
open PySem PySem.Spec PyProof.Rows L2
/-- class c of the module: fields to read, isinstance -/
def ClsF (K : PySem.W.Frag) (mg : Str → Option Value) (c : Str) (fl : List Str) : Prop := ∃ C, ClsAt K c C ∧ mg c = some (.ref C) ∧ (∀ n ∈ fl, NoAttr K C n) ∧ C8.InsC K C
theorem ClsF.non {K : PySem.W.Frag} {mg : Str → Option Value} {c : Str} {fl : List Str} {C : Addr} (k : ClsF K mg c fl) (a : PySem.W.nsIn K mainGlobals c = some (some (.ref C))) (h : PySem.W.findIn K (.ref C) "__eq__" = some (some (.builtin "object.__eq__"))) : NonK K c := by
  obtain ⟨C', h1, _, _, h4⟩ := k
  cases (show PySem.W.nsIn K mainGlobals c = some (some (.ref C')) from h1).symm.trans a
  exact ⟨_, a, h4.hm, h⟩
end Z
set_option Elab.async false
set_option linter.all false
set_option maxRecDepth 100000
set_option maxHeartbeats 4000000
namespace Z
open PySem PySem.Spec PyProof.Rows L2
def CalG (P : Program) (w : World) (K : PySem.W.Frag) (mg : Str → Option Value) (base : Heap) (k : Nat) (x : Str) (sp : Sp) : Prop :=
  ∃ (f : Addr) (fd : FuncData) (ps : List Str), mg x = some (.ref f) ∧ PySem.W.keepIn K (.ref f) = true ∧ Binds K fd ps [] ∧ (∀ vs H Q E, sp vs H Q E → vs.length = ps.length) ∧ ∀ A : Around, Room k A → A.guards = some [] → FnA P w K mg base A f fd ps sp
theorem CalG.mono {P : Program} {w : World} {K : PySem.W.Frag} {mg : Str → Option Value} {base : Heap} {j k : Nat} {x : Str} {sp : Sp} (c : CalG P w K mg base j x sp) (h : j ≤ k) : CalG P w K mg base k x sp :=
  let ⟨f, fd, ps, h1, h2, h3, h4, h5⟩ := c
  ⟨f, fd, ps, h1, h2, h3, h4, fun A hr => h5 A (hr.mono h)⟩
end Z
set_option Elab.async false
set_option linter.all false
set_option maxRecDepth 100000
set_option maxHeartbeats 4000000
namespace Z
open PySem PySem.Spec PyProof.Rows L2
section
variable {g g1 g2 g3 : G}
theorem if_no {n : Nat} {t : ZT} {a b : SM} {o : Option (Fl × G)} (h : t g = some (false, g1)) (hg : g1.take n = g2) (k : b g2 = o) : zIfS n t a b g = o := by
  unfold zIfS; simp only [h, hg, Option.bind_eq_bind, Option.bind_some]
  exact k
theorem if_yes {n : Nat} {t : ZT} {a b : SM} {o : Option (Fl × G)} (h : t g = some (true, g1)) (hg : g1.take n = g2) (k : a g2 = o) : zIfS n t a b g = o := by
  unfold zIfS; simp only [h, hg, Option.bind_eq_bind, Option.bind_some, if_true]
  exact k
end
end Z
set_option Elab.async false
set_option linter.all false
set_option maxRecDepth 100000
set_option maxHeartbeats 4000000
namespace Z
open PySem PySem.Spec PyProof.Rows L2
theorem look_relabel {env : Env} {y : Str} : ∀ {names : List (Str × NameKind)}, (names.lookup y = some .cell ∨ names.lookup y = some .free) →
    (names.map fun (n, k) => if (k == NameKind.free && env.scope.kind == .function && env.kindOf n == some .cell) then (n, NameKind.cell) else (n, k)).lookup y = some .cell ∨
    (names.map fun (n, k) => if (k == NameKind.free && env.scope.kind == .function && env.kindOf n == some .cell) then (n, NameKind.cell) else (n, k)).lookup y = some .free
  | [], h => by simp at h
  | (n, k) :: r, h => by
    have ih := @look_relabel env y r
    show List.lookup y ((if (k == NameKind.free && env.scope.kind == .function && env.kindOf n == some .cell) = true then (n, NameKind.cell) else (n, k)) :: _) = _ ∨ List.lookup y ((if (k == NameKind.free && env.scope.kind == .function && env.kindOf n == some .cell) = true then (n, NameKind.cell) else (n, k)) :: _) = _
    cases hx : y == n with
    | false =>
      have e : ∀ k : NameKind, List.lookup y ((n, k) :: r) = List.lookup y r := fun k => by simp only [List.lookup, hx]
      rw [e] at h
      have h2 := ih h
      split
      · simp only [List.lookup, hx]; exact h2
      · simp only [List.lookup, hx]; exact h2
    | true =>
      have e : List.lookup y ((n, k) :: r) = some k := by simp only [List.lookup, hx]
      rw [e] at h
      split
      · exact .inl (by simp only [List.lookup, hx])
      · simp only [List.lookup, hx]
        exact h
theorem blk_in {N : List Str} {sc scope : Scope} {env : Env} {own : List (Str × Nat)} (h : blkC N sc scope own = true) : BlkOk N (relabel sc env) scope own := by
  have q := blkOk_by h
  exact ⟨q.kind, q.uniq, q.ix, fun y hy e => look_relabel (q.free y hy e), q.own⟩
end Z
set_option Elab.async false
set_option linter.all false
set_option maxRecDepth 100000
set_option maxHeartbeats 4000000
namespace Z
open PySem PySem.Spec PyProof.Rows L2
end Z
set_option Elab.async false
set_option linter.all false
set_option maxRecDepth 100000
set_option maxHeartbeats 4000000
namespace Z
open PySem PySem.Spec PyProof.Rows L2
def okS (i j c : Int) : Bool := decide (0 ≤ i) && decide (i ≤ 16777216) && decide (0 ≤ j) && decide (j ≤ 16777216) && decide (0 < c) && decide (c ≤ 1000000)
/-- a call that gives a new list of plain items -/
theorem er_callNs {f : List D → Option FR} {mr : ZAr} {g g1 : G} {rs : List R} {ds : List D} {c : Cn} (h1 : mr g = some (rs, g1)) (h2 : rdAll g1 rs = some ds) (h3 : f ds = some (.new c)) (hs : c.scal = true) : zCall f mr g = some (.bor g1.length, g1 ++ [.own c false false]) := by
  unfold zCall; simp only [h1, h2, h3, hs, Option.bind_eq_bind, Option.bind_some]
  rfl
end Z
set_option Elab.async false
set_option linter.all false
set_option maxRecDepth 100000
set_option maxHeartbeats 4000000
namespace Z
open PySem PySem.Spec PyProof.Rows L2
end Z
set_option Elab.async false
set_option linter.all false
set_option maxRecDepth 100000
set_option maxHeartbeats 4000000
namespace ZN
open PySem PySem.Spec PyProof.Rows L2 Z
/-- the pairs of such a dict: the key, its object, the value -/
abbrev NKV := List (NestedKey × Addr × V)
abbrev KN : NKV → List (NestedKey × Addr × Value) → Prop := Paired fun p q => p.1 = q.1 ∧ p.2.1 = q.2.1 ∧ RelV p.2.2 q.2.2
def ent (w : World) (x : NestedKey × Addr × Value) : DictEntry := ⟨x.1.hash w, .ref x.2.1, x.2.2⟩
structure ND0 (w : World) (h : Heap) (a : Addr) (kvs : NKV) : Prop where
  ex : ∃ xs, KN kvs xs ∧ ∃ o es ep, h.get? a = some o ∧ o.ExactDict ∧ o.data = .dict es ep ∧ es.toList = xs.map (ent w) ∧ (xs.map (·.1)).Nodup
  nm : (a == sysModules) = false
  few : kvs.length ≤ sizeLine
def NDictO (w : World) (a : Addr) (kvs : NKV) : HO := .ext fun h => ND0 w h a kvs
theorem ndict_ok {P : Program} {w : World} {H : Hp} {h : Heap} {a : Addr} {kvs : NKV} (R : ND0 w h a kvs) : ObjOk P w H h a (NDictO w a kvs) := by
  have ⟨_, _, o, _, _, ho, _⟩ := R.ex
  exact ⟨R, ⟨o, ho⟩, fun h1 h2 p k => let ⟨xs, r, o, es, ep, ho, hc⟩ := p.ex; ⟨⟨xs, r, o, es, ep, k o ho, hc⟩, p.nm, p.few⟩⟩
def valN (kvs : NKV) (k : NestedKey) : Option V := (kvs.find? fun p => decide (p.1 = k)).map (·.2.2)
def putN (kvs : NKV) (k : NestedKey) (b : Addr) (v : V) : NKV := if (valN kvs k).isSome = true then kvs.map (fun p => if p.1 = k then (p.1, p.2.1, v) else p) else kvs ++ [(k, b, v)]
theorem valN_pos {p : NestedKey × Addr × V} {ps : NKV} {k : NestedKey} (e : p.1 = k) : valN (p :: ps) k = some p.2.2 := by simp [valN, List.find?_cons, e]
theorem valN_neg {p : NestedKey × Addr × V} {ps : NKV} {k : NestedKey} (e : ¬ p.1 = k) : valN (p :: ps) k = valN ps k := by simp [valN, List.find?_cons, e]
theorem KN.val {kvs : NKV} {xs : List (NestedKey × Addr × Value)} (r : KN kvs xs) (k : NestedKey) : RelO (valN kvs k) ((atKey xs k).map (·.2)) := by
  induction r with
  | nil => exact True.intro
  | @cons p q ps qs h t ih =>
    obtain ⟨h1, _, h2⟩ := h
    by_cases e : p.1 = k
    · have e' : q.1 = k := h1.symm.trans e
      have b : atKey (q :: qs) k = some q.2 := by simp [atKey, List.find?_cons, e']
      rw [valN_pos e, b]; exact h2
    · have e' : ¬ q.1 = k := fun z => e (h1.trans z)
      have b : atKey (q :: qs) k = atKey qs k := by simp [atKey, List.find?_cons, e']
      rw [valN_neg e, b]; exact ih
theorem KN.repl {kvs : NKV} {xs : List (NestedKey × Addr × Value)} (r : KN kvs xs) (k : NestedKey) {y : V} {u : Value} (ry : RelV y u) :
    KN (kvs.map fun p => if p.1 = k then (p.1, p.2.1, y) else p) (xs.map (putAt k u)) := by
  induction r with
  | nil => exact .nil
  | @cons p q ps qs h t ih =>
    rw [List.map_cons, List.map_cons]
    refine .cons ?_ ih
    obtain ⟨h1, h2, h3⟩ := h
    unfold putAt
    by_cases e : p.1 = k
    · rw [if_pos e, if_pos (h1.symm.trans e)]; exact ⟨h1, h2, ry⟩
    · rw [if_neg e, if_neg (fun z => e (h1.trans z))]; exact ⟨h1, h2, h3⟩
theorem KN.put {kvs : NKV} {xs : List (NestedKey × Addr × Value)} (r : KN kvs xs) (k : NestedKey) {b : Addr} {y : V} {u : Value} (ry : RelV y u) : KN (putN kvs k b y) (storedH xs k b u) := by
  have e : (valN kvs k).isSome = (atKey xs k).isSome := by
    have q := (r.val k).isSome_eq
    rw [Option.isSome_map] at q
    exact q
  unfold putN storedH
  rw [e]
  by_cases q : (atKey xs k).isSome = true
  · rw [if_pos q, if_pos q]; exact r.repl k ry
  · rw [if_neg q, if_neg q]; exact Paired.snoc r ⟨rfl, rfl, ry⟩
theorem putN_len (kvs : NKV) (k : NestedKey) (b : Addr) (v : V) : (putN kvs k b v).length ≤ kvs.length + 1 := by
  unfold putN
  split
  · rw [List.length_map]; omega
  · rw [List.length_append]; exact Nat.le_refl _
section
variable {X : Cx} {pins : List (Addr × Obj)} {σ : L2.St} {H : Hp} {s : Shared} {a : Addr} {kvs : NKV}
theorem ndict_get (I : Inv X pins σ H s) (ha : H a = some (NDictO X.w a kvs)) (m : ∀ p ∈ kvs, KeyH X.K H p.1 p.2.1) : (a == sysModules) = false ∧ kvs.length ≤ sizeLine ∧ ∃ xs, KN kvs xs ∧ s.heap.DictOfH (nestedKind X.prog X.w) a xs := by
  have R : ND0 X.w s.heap a kvs := (I.hok a _ ha).1
  obtain ⟨xs, r, o, es, ep, h1, h2, h3, h4, h5⟩ := R.ex
  have all : ∀ {ps : NKV} {ys : List (NestedKey × Addr × Value)}, KN ps ys → (∀ p ∈ ps, KeyH X.K H p.1 p.2.1) → ∀ x ∈ ys, (nestedKind X.prog X.w).is s.heap x.1 x.2.1 := by
    intro ps ys r
    induction r with
    | nil => exact fun _ x hx => nomatch hx
    | @cons p q ps qs hq t ih =>
      intro m x hx
      rcases List.mem_cons.mp hx with e | hx
      · subst e
        obtain ⟨e1, e2, _⟩ := hq
        have k := (m p List.mem_cons_self).nk I
        rw [e1, e2] at k
        exact k
      · exact ih (fun p hp => m p (List.mem_cons_of_mem _ hp)) x hx
  exact ⟨R.nm, R.few, xs, r, o, es, ep, h1, h2, h3, h4, all r m, h5⟩
/-- {}, to be a dict of such keys -/
def tNDNew (w : World) : TE := fun _ H Q => ∀ p, H p = none → Q (.ref p) (upd H p (NDictO w p []))
theorem pe_ndnew {pos : Pos} : PE X (.Dict [] [] pos) (tNDNew X.w) := ⟨fun pins s σ H Q I h =>
  wpAny_Dict_empty ⟨.ref s.heap.objs.size, _, I.laid (a := s.heap.objs.size) (o := NDictO X.w s.heap.objs.size []) (t' := s.toks) (fun _ _ q => Heap.get?_push_of_some _ q) (Nat.le_refl _)
    (ndict_ok ⟨⟨[], .nil, _, #[], 0, Heap.get?_push_size _ rfl, ⟨rfl, rfl, rfl⟩, rfl, rfl, List.nodup_nil⟩, beq_eq_false_iff_ne.mpr (Ne.symm (Nat.ne_of_lt I.big)), Nat.zero_le _⟩), rfl, h _ (I.hok.fresh (Nat.le_refl _))⟩⟩
/-- x in d, x not in d -/
def rNDIn (K : PySem.W.Frag) (w : World) (neg : Bool) : R2 := fun x y H Q => ∃ (k : NestedKey) (b a : Addr) (kvs : NKV), x = .ref b ∧ y = .ref a ∧ H a = some (NDictO w a kvs) ∧ (∀ p ∈ kvs, KeyH K H p.1 p.2.1) ∧ KeyH K H k b ∧
  Q (.bl (if neg = true then !(valN kvs k).isSome else (valN kvs k).isSome)) H
theorem or_ndnotin (hu : X.A.units + 64 < cLine) : OpR X (compareOp .NotIn) (rNDIn X.K X.w true) := by
  intro pins s σ H x y v u Q I rx ry h
  obtain ⟨k, b, a, kvs, rfl, rfl, ha, hm, hk, q⟩ := h
  cases rx
  cases ry
  obtain ⟨hd, _, xs, r, D⟩ := ndict_get I ha hm
  refine wpAny_notIn_heap (knd := nestedKind X.prog X.w) (by show X.A.in1.units + 8 < cLine; simp only [Around.in1_units]; omega) (hk.nk I) hd D ?_
  have e := (r.val k).isSome_eq
  rw [Option.isSome_map] at e
  rw [← e]
  exact ⟨.bl _, H, I.tok _, rfl, q⟩
/-- d[k], there -/
def rNDIx (K : PySem.W.Frag) (w : World) : R2 := fun x y H Q => ∃ (k : NestedKey) (b a : Addr) (kvs : NKV) (v : V), x = .ref a ∧ y = .ref b ∧ H a = some (NDictO w a kvs) ∧ (∀ p ∈ kvs, KeyH K H p.1 p.2.1) ∧ KeyH K H k b ∧ valN kvs k = some v ∧ Q v H
theorem pe_ndix {o i : Expr} {td ty : TE} {pos : Pos} (hu : X.A.units + 64 < cLine) (ho : PE X o td) (hi : PE X i ty) (hs : NoSl i := by exact fun _ _ => rfl) : PE X (.Subscript o i pos) (tOp (rNDIx X.K X.w) td ty) := by
  refine ⟨fun pins s σ H Q I h => ?_⟩
  refine subD_of PySem.F.slot_dict_getitem.lookup hs (thn (ho.run pins s σ H _ I h) fun u s1 ⟨x, H1, I1, rx, q1⟩ => thn (hi.run pins s1 σ H1 _ I1 q1) fun iv s2 ⟨y, H2, I2, ry, k, b, a, kvs, v, ex, ey, ha, hm, hk, hv, q2⟩ => ?_)
  subst ex ey
  obtain rfl : u = Value.ref a := rx
  obtain rfl : iv = Value.ref b := ry
  obtain ⟨hd, _, xs, r, D⟩ := ndict_get I2 ha hm
  obtain ⟨w', hw, rw'⟩ := RelO.some_of (v := v) (o := (atKey xs k).map (·.2)) (by rw [← hv]; exact r.val k)
  obtain ⟨p, hp, hp2⟩ := Option.map_eq_some_iff.mp hw
  refine ⟨D.typeIs, wpAny_getItem_heap (knd := nestedKind X.prog X.w) (by show X.A.in1.units + 8 < cLine; simp only [Around.in1_units]; omega) (hk.nk I2) D hp ?_⟩
  rw [hp2]
  exact ⟨v, H2, I2.tok _, rw', q2⟩
/-- d[k] = v -/
def sNDPut (K : PySem.W.Frag) (w : World) (td ty tv : TE) : TS := fun D σ H => tv σ H fun v H1 => td σ H1 fun x H2 => ty σ H2 fun y H3 => ∃ (k : NestedKey) (b a : Addr) (kvs : NKV), x = .ref a ∧ y = .ref b ∧ H3 a = some (NDictO w a kvs) ∧ (∀ p ∈ kvs, KeyH K H3 p.1 p.2.1) ∧ KeyH K H3 k b ∧
  kvs.length < sizeLine ∧ D.nx σ (upd H3 a (NDictO w a (putN kvs k b v)))
theorem ps_ndput {o i value : Expr} {td ty tv : TE} {pos pos' : Pos} (hu : X.A.units + 64 < cLine) (ho : PE X o td) (hi : PE X i ty) (hv : PE X value tv) (hs : swapsWith value (some (.Subscript o i pos')) pos.line X.env = pure false := by rfl) :
    PS X (.Assign [.Subscript o i pos'] value pos) (sNDPut X.K X.w td ty tv) := by
  refine ⟨fun pins s σ H D I h => ?_⟩
  refine wpAny_Assign_Subscript (thn (hv.run pins s σ H _ I h) fun r s1 ⟨v, H1, I1, rv, q1⟩ => thn (ho.run pins s1 σ H1 _ I1 q1) fun u s2 ⟨x, H2, I2, rx, q2⟩ => thn (hi.run pins s2 σ H2 _ I2 q2) fun iv s3 ⟨y, H3, I3, ry, k, b, a, kvs, ex, ey, ha, hm, hk, hl, q3⟩ => ?_) hs
  subst ex ey
  obtain rfl : u = Value.ref a := rx
  obtain rfl : iv = Value.ref b := ry
  obtain ⟨hd, hf, xs, rel, D0⟩ := ndict_get I3 ha hm
  have hz : xs.length ≤ sizeLine := by rw [← Paired.length rel]; exact hf
  refine wpAny_setItem_heap (knd := nestedKind X.prog X.w) (hsz := hz) (by show X.A.in1.units + 8 < cLine; simp only [Around.in1_units]; omega) (hk.nk I3) D0 fun h' dd' sb => ?_
  obtain ⟨q, es, ep, hq, h2, h3, h4, _, h5⟩ := dd'
  refine ⟨σ, upd H3 a (NDictO X.w a (putN kvs k b v)), ?_, q3⟩
  exact I3.write (x := a) (e := a) (by rw [ha]; trivial) (.inl rfl) (fun c u hc hu' => (sb.2 c hc).trans hu') ⟨q, hq⟩
    (ndict_ok ⟨⟨_, rel.put k rv, q, es, ep, hq, h2, h3, h4, h5⟩, hd, by have := putN_len kvs k b v; omega⟩)
end
end ZN
set_option Elab.async false
set_option linter.all false
set_option maxRecDepth 100000
set_option maxHeartbeats 4000000
namespace ZN
open PySem PySem.Spec PyProof.Rows L2 Z
/-- a group: its key, the values found, its members -/
abbrev G3 := NestedKey × List D × List D
def idx : Nat → List G3 → NestedKey → Option Nat
  | _, [], _ => none
  | n, g :: gs, k => if g.1 = k then some n else idx (n + 1) gs k
def addG (acc : List G3) (k : NestedKey) (l : List D) : List G3 := if (idx 0 acc k).isSome = true then acc else acc ++ [(k, l, [])]
def pushG (acc : List G3) (k : NestedKey) (r : D) : List G3 := match idx 0 acc k with
  | some i => match acc[i]? with
    | some g => acc.set i (g.1, g.2.1, g.2.2 ++ [r])
    | none => acc
  | none => acc
def grpF (fe fk : List D → Option FR) (keys : D) : List D → List G3 → Option (List G3)
  | [], acc => some acc
  | r :: rs, acc => match fe [keys, r] with
    | some (.new (.lst l)) => match fk [.lst l] with
      | some (.dat (.tup t)) => match nkD (.tup t) with
        | some k => if k.depth ≤ 8 then grpF fe fk keys rs (pushG (addG acc k l) k r) else none
        | none => none
      | _ => none
    | _ => none
def grpD (fe fk : List D → Option FR) : List D → Option FR
  | [keys, .lst rows] => if rows.length < 1000 then (grpF fe fk keys rows []).map fun acc => .dat (.lst (acc.map fun g => .tup [.lst g.2.1, .lst g.2.2])) else none
  | _ => none
def DK : Nat → NKV → List G3 → Prop
  | _, [], [] => True
  | n, p :: ps, g :: gs => p.1 = g.1 ∧ p.2.2 = .int (n : Int) ∧ DK (n + 1) ps gs
  | _, _, _ => False
theorem dk_val (k : NestedKey) : ∀ {n : Nat} {kvs : NKV} {acc : List G3}, DK n kvs acc → valN kvs k = (idx n acc k).map fun (i : Nat) => V.int (i : Int)
  | _, [], [], _ => rfl
  | n, p :: ps, g :: gs, h => by
    obtain ⟨h1, h2, h3⟩ := h
    unfold idx
    by_cases e : g.1 = k
    · rw [valN_pos (h1.trans e), if_pos e, h2]; rfl
    · rw [valN_neg (fun z => e (h1.symm.trans z)), if_neg e]
      exact dk_val k h3
  | _, [], _ :: _, h => h.elim
  | _, _ :: _, [], h => h.elim
theorem dk_len : ∀ {n : Nat} {kvs : NKV} {acc : List G3}, DK n kvs acc → kvs.length = acc.length
  | _, [], [], _ => rfl
  | n, p :: ps, g :: gs, h => by rw [List.length_cons, List.length_cons, dk_len h.2.2]
  | _, [], _ :: _, h => h.elim
  | _, _ :: _, [], h => h.elim
theorem dk_snoc {k : NestedKey} {b : Addr} {l m : List D} : ∀ {n : Nat} {kvs : NKV} {acc : List G3}, DK n kvs acc → DK n (kvs ++ [(k, b, .int ((n + acc.length : Nat) : Int))]) (acc ++ [(k, l, m)])
  | _, [], [], _ => ⟨rfl, rfl, trivial⟩
  | n, p :: ps, g :: gs, h => by
    refine ⟨h.1, h.2.1, ?_⟩
    have q := dk_snoc (k := k) (b := b) (l := l) (m := m) h.2.2
    rw [List.length_cons, show n + (gs.length + 1) = n + 1 + gs.length by omega]
    exact q
  | _, [], _ :: _, h => h.elim
  | _, _ :: _, [], h => h.elim
theorem dk_set {y z : List D} : ∀ {n : Nat} {kvs : NKV} {acc : List G3} {j : Nat} {g : G3}, DK n kvs acc → acc[j]? = some g → DK n kvs (acc.set j (g.1, y, z))
  | _, [], [], _, _, _, e => by simp at e
  | n, p :: ps, g :: gs, 0, g', h, e => by
    simp only [List.getElem?_cons_zero, Option.some.injEq] at e
    subst e
    exact ⟨h.1, h.2.1, h.2.2⟩
  | n, p :: ps, g :: gs, j + 1, g', h, e => by
    simp only [List.getElem?_cons_succ] at e
    exact ⟨h.1, h.2.1, dk_set h.2.2 e⟩
  | _, [], _ :: _, _, _, h, _ => h.elim
  | _, _ :: _, [], _, _, h, _ => h.elim
theorem idx_at {k : NestedKey} : ∀ {n : Nat} {acc : List G3} {i : Nat}, idx n acc k = some i → n ≤ i ∧ ∃ g, acc[i - n]? = some g
  | _, [], _, e => by cases e
  | n, g :: gs, i, e => by
    unfold idx at e
    split at e
    · cases e
      exact ⟨Nat.le_refl _, g, by simp⟩
    · obtain ⟨h1, g', h2⟩ := idx_at e
      refine ⟨by omega, g', ?_⟩
      rw [show i - n = i - (n + 1) + 1 by omega, List.getElem?_cons_succ]
      exact h2
theorem idx_new {k : NestedKey} {l m : List D} : ∀ {n : Nat} {acc : List G3}, idx n acc k = none → idx n (acc ++ [(k, l, m)]) k = some (n + acc.length)
  | n, [], _ => by show (if k = k then some n else _) = _; rw [if_pos rfl]; rfl
  | n, g :: gs, e => by
    unfold idx at e
    split at e
    · cases e
    · rename_i h
      show (if g.1 = k then some n else idx (n + 1) (gs ++ [(k, l, m)]) k) = _
      rw [if_neg h, idx_new e, List.length_cons]
      congr 1
      omega
theorem add_has (acc : List G3) (k : NestedKey) (l : List D) : ∃ i g, idx 0 (addG acc k l) k = some i ∧ (addG acc k l)[i]? = some g := by
  unfold addG
  split
  · rename_i h
    obtain ⟨i, e⟩ := Option.isSome_iff_exists.mp h
    obtain ⟨_, g, hg⟩ := idx_at e
    exact ⟨i, g, e, hg⟩
  · rename_i h
    have e := idx_new (l := l) (m := []) (Option.not_isSome_iff_eq_none.mp h)
    rw [Nat.zero_add] at e
    exact ⟨_, (k, l, []), e, by simp⟩
abbrev Tri := Addr × Addr × Addr
def ownT (ks : List Tri) : List Addr := ks.flatMap fun x => [x.1, x.2.2]
def GrpOk (K : PySem.W.Frag) (Hk H : Hp) : List Tri → List G3 → Prop
  | [], [] => True
  | x :: xs, g :: gs => (H x.1 = some (.tup [.ref x.2.1, .ref x.2.2]) ∧ Dz K Hk (.ref x.2.1) (.lst g.2.1) ∧ ∃ us, H x.2.2 = some (.lst us) ∧ DzA K Hk us g.2.2) ∧ GrpOk K Hk H xs gs
  | _, _ => False
theorem GrpOk.live {K : PySem.W.Frag} {Hk H : Hp} : ∀ {ks : List Tri} {acc : List G3}, GrpOk K Hk H ks acc → ∀ x ∈ ownT ks, ∃ o, H x = some o
  | [], [], _, _, m => (List.not_mem_nil m).elim
  | t :: ts, g :: gs, h, x, m => by
    obtain ⟨⟨h1, _, us, h2, _⟩, h3⟩ := h
    rcases List.mem_append.mp (show x ∈ [t.1, t.2.2] ++ ownT ts from m) with m | m
    · rcases List.mem_cons.mp m with rfl | m
      · exact ⟨_, h1⟩
      · rw [List.mem_singleton.mp m]; exact ⟨_, h2⟩
    · exact h3.live x m
  | [], _ :: _, h, _, _ => h.elim
  | _ :: _, [], h, _, _ => h.elim
theorem GrpOk.move {K : PySem.W.Frag} {Hk Hk' H H' : Hp} (s : Same Hk Hk') : ∀ {ks : List Tri} {acc : List G3}, GrpOk K Hk H ks acc → (∀ x ∈ ownT ks, ∀ o, H x = some o → H' x = some o) → GrpOk K Hk' H' ks acc
  | [], [], _, _ => trivial
  | t :: ts, g :: gs, h, m => by
    obtain ⟨⟨h1, hf, us, h2, h4⟩, h3⟩ := h
    exact ⟨⟨m _ (List.mem_append.mpr (.inl List.mem_cons_self) : t.1 ∈ [t.1, t.2.2] ++ ownT ts) _ h1, hf.mono s, us, m _ (List.mem_append.mpr (.inl (List.mem_cons_of_mem _ List.mem_cons_self)) : t.2.2 ∈ [t.1, t.2.2] ++ ownT ts) _ h2, h4.mono s⟩,
      h3.move s fun x hx => m x (List.mem_append.mpr (.inr hx) : x ∈ [t.1, t.2.2] ++ ownT ts)⟩
  | [], _ :: _, h, _ => h.elim
  | _ :: _, [], h, _ => h.elim
theorem GrpOk.len {K : PySem.W.Frag} {Hk H : Hp} : ∀ {ks : List Tri} {acc : List G3}, GrpOk K Hk H ks acc → ks.length = acc.length
  | [], [], _ => rfl
  | _ :: _, _ :: _, h => by rw [List.length_cons, List.length_cons, GrpOk.len h.2]
  | [], _ :: _, h => h.elim
  | _ :: _, [], h => h.elim
theorem GrpOk.snoc {K : PySem.W.Frag} {Hk H : Hp} {t : Tri} {g : G3} (h1 : H t.1 = some (.tup [.ref t.2.1, .ref t.2.2])) (h2 : Dz K Hk (.ref t.2.1) (.lst g.2.1)) (h3 : ∃ us, H t.2.2 = some (.lst us) ∧ DzA K Hk us g.2.2) : ∀ {ks : List Tri} {acc : List G3}, GrpOk K Hk H ks acc → GrpOk K Hk H (ks ++ [t]) (acc ++ [g])
  | [], [], _ => ⟨⟨h1, h2, h3⟩, trivial⟩
  | _ :: _, _ :: _, h => ⟨h.1, GrpOk.snoc h1 h2 h3 h.2⟩
  | [], _ :: _, h => h.elim
  | _ :: _, [], h => h.elim
theorem GrpOk.at_ {K : PySem.W.Frag} {Hk H : Hp} : ∀ {ks : List Tri} {acc : List G3} {i : Nat} {g : G3}, GrpOk K Hk H ks acc → acc[i]? = some g → ∃ t us, ks[i]? = some t ∧ H t.1 = some (.tup [.ref t.2.1, .ref t.2.2]) ∧ H t.2.2 = some (.lst us) ∧ DzA K Hk us g.2.2
  | [], [], _, _, _, e => by simp at e
  | t :: ts, g :: gs, 0, g', h, e => by
    simp only [List.getElem?_cons_zero, Option.some.injEq] at e
    subst e
    obtain ⟨⟨h1, _, us, h2, h4⟩, _⟩ := h
    exact ⟨t, us, rfl, h1, h2, h4⟩
  | t :: ts, g :: gs, i + 1, g', h, e => by
    simp only [List.getElem?_cons_succ] at e
    obtain ⟨t', us, a1, a2⟩ := GrpOk.at_ h.2 e
    exact ⟨t', us, by rw [List.getElem?_cons_succ]; exact a1, a2⟩
  | [], _ :: _, _, _, h, _ => h.elim
  | _ :: _, [], _, _, h, _ => h.elim
/-- one member more in the i-th group -/
theorem GrpOk.push {K : PySem.W.Frag} {Hk H : Hp} {v : V} {d : D} (z : Dz K Hk v d) : ∀ {ks : List Tri} {acc : List G3} {i : Nat} {t : Tri} {g : G3} {us : List V}, GrpOk K Hk H ks acc → (ownT ks).Nodup → ks[i]? = some t → acc[i]? = some g → H t.2.2 = some (.lst us) →
    GrpOk K Hk (upd H t.2.2 (.lst (us ++ [v]))) ks (acc.set i (g.1, g.2.1, g.2.2 ++ [d]))
  | [], [], _, _, _, _, _, _, e, _, _ => by simp at e
  | x :: xs, g :: gs, 0, t, g', us, h, nd, e1, e2, e3 => by
    simp only [List.getElem?_cons_zero, Option.some.injEq] at e1 e2
    subst e1 e2
    obtain ⟨⟨h1, hf, us', h2, h4⟩, h3⟩ := h
    have nd : ([x.1, x.2.2] ++ ownT xs).Nodup := nd
    obtain ⟨n1, n2, n3⟩ := List.nodup_append.mp nd
    have n12 : x.1 ≠ x.2.2 := by
      intro e
      rw [e] at n1
      exact (List.nodup_cons.mp n1).1 List.mem_cons_self
    rw [h2] at e3
    cases e3
    refine ⟨⟨by rw [upd_ne n12]; exact h1, hf, _, upd_same, h4.append (.cons z .nil)⟩, h3.move (Same.refl _) fun y hy o ho => ?_⟩
    rw [upd_ne (fun e => n3 x.2.2 (List.mem_cons_of_mem _ List.mem_cons_self) y hy e.symm)]
    exact ho
  | x :: xs, g :: gs, i + 1, t, g', us, h, nd, e1, e2, e3 => by
    simp only [List.getElem?_cons_succ] at e1 e2
    have nd : ([x.1, x.2.2] ++ ownT xs).Nodup := nd
    obtain ⟨n1, n2, n3⟩ := List.nodup_append.mp nd
    have mt : t.2.2 ∈ ownT xs := List.mem_flatMap.mpr ⟨t, List.mem_of_getElem? e1, List.mem_cons_of_mem _ List.mem_cons_self⟩
    obtain ⟨⟨h1, hf, us', h2, h4⟩, h3⟩ := h
    refine ⟨⟨by rw [upd_ne (n3 _ List.mem_cons_self _ mt)]; exact h1, hf, us', by rw [upd_ne (n3 _ (List.mem_cons_of_mem _ List.mem_cons_self) _ mt)]; exact h2, h4⟩, ?_⟩
    exact GrpOk.push z h3 n2 e1 e2 e3
  | [], _ :: _, _, _, _, _, h, _, _, _, _ => h.elim
  | _ :: _, [], _, _, _, _, h, _, _, _, _ => h.elim
/-- all of it as data -/
theorem GrpOk.dz {K : PySem.W.Frag} {Hk Hf H : Hp} (s : Same Hk Hf) : ∀ {ks : List Tri} {acc : List G3}, GrpOk K Hk H ks acc → (∀ x ∈ ownT ks, ∀ o, H x = some o → Hf x = some o) → DzA K Hf (ks.map fun x => V.ref x.1) (acc.map fun g => .tup [.lst g.2.1, .lst g.2.2])
  | [], [], _, _ => .nil
  | t :: ts, g :: gs, h, m => by
    obtain ⟨⟨h1, hf, us, h2, h4⟩, h3⟩ := h
    have m1 := m _ (List.mem_append.mpr (.inl List.mem_cons_self) : t.1 ∈ [t.1, t.2.2] ++ ownT ts) _ h1
    have m2 := m _ (List.mem_append.mpr (.inl (List.mem_cons_of_mem _ List.mem_cons_self)) : t.2.2 ∈ [t.1, t.2.2] ++ ownT ts) _ h2
    exact .cons (.tup (.inl (.inl m1)) (.cons (hf.mono s) (.cons (.lst (SqL.of m2) (h4.mono s)) .nil))) (h3.dz s fun x hx => m x (List.mem_append.mpr (.inr hx) : x ∈ [t.1, t.2.2] ++ ownT ts))
  | [], _ :: _, h, _ => h.elim
  | _ :: _, [], h, _ => h.elim
theorem own_snoc (ks : List Tri) (t : Tri) : ownT (ks ++ [t]) = ownT ks ++ [t.1, t.2.2] := by
  unfold ownT
  rw [List.flatMap_append]
  rfl
structure GI (K : PySem.W.Frag) (w : World) (H0 Hs : Hp) (p q : Addr) (H Hk : Hp) (kvs : NKV) (ks : List Tri) (acc : List G3) : Prop where
  sk : Same Hs Hk
  kh : Same Hk H
  h0 : Same H0 H
  gr : ∀ b o, Hk b = some o → Hs b = some o ∨ H0 b = none
  hp : H p = some (NDictO w p kvs)
  hq : H q = some (.lst (ks.map fun x => V.ref x.1))
  nd : (p :: q :: ownT ks).Nodup
  fr : ∀ x ∈ p :: q :: ownT ks, Hk x = none ∧ H0 x = none
  go : GrpOk K Hk H ks acc
  ky : ∀ r ∈ kvs, KeyH K Hk r.1 r.2.1
  dk : DK 0 kvs acc
section
variable {K : PySem.W.Frag} {w : World} {H0 Hs : Hp} {p q : Addr} {H Hk : Hp} {kvs : NKV} {ks : List Tri} {acc : List G3}
theorem GI.live (I : GI K w H0 Hs p q H Hk kvs ks acc) : ∀ x ∈ p :: q :: ownT ks, ∃ o, H x = some o := fun x m => by
  rcases List.mem_cons.mp m with rfl | m
  · exact ⟨_, I.hp⟩
  · rcases List.mem_cons.mp m with rfl | m
    · exact ⟨_, I.hq⟩
    · exact I.go.live x m
theorem GI.step (I : GI K w H0 Hs p q H Hk kvs ks acc) {H' Hk' : Hp} (s1 : Same Hk Hk') (s2 : Same H H') (s3 : Same Hk' H') (g : ∀ b o, Hk' b = some o → Hk b = some o ∨ H b = none) : GI K w H0 Hs p q H' Hk' kvs ks acc := by
  refine ⟨I.sk.trans s1, s3, I.h0.trans s2, fun b o e => ?_, s2 _ _ I.hp, s2 _ _ I.hq, I.nd, fun x m => ⟨?_, (I.fr x m).2⟩, I.go.move s1 fun x _ o e => s2 x o e, fun r m => (I.ky r m).mono s1, I.dk⟩
  · rcases g b o e with y | y
    · exact I.gr b o y
    · exact .inr (Same.free I.h0 y)
  · cases z : Hk' x with
    | none => rfl
    | some u =>
      obtain ⟨o, ho⟩ := I.live x m
      rcases g x u z with y | y
      · rw [(I.fr x m).1] at y; cases y
      · rw [ho] at y; cases y
/-- a new group -/
theorem GI.add (I : GI K w H0 Hs p q H Hk kvs ks acc) {k : NestedKey} {b f m t : Addr} {l : List D} (key : KeyH K Hk k b) (hf : Dz K Hk (.ref f) (.lst l)) (hm : H m = none) (ht : H t = none) (mt : m ≠ t) :
    GI K w H0 Hs p q (upd (upd (upd (upd H p (NDictO w p (kvs ++ [(k, b, .int ((acc.length : Nat) : Int))]))) m (.lst [])) t (.tup [.ref f, .ref m])) q (.lst (ks.map (fun x => V.ref x.1) ++ [.ref t]))) Hk (kvs ++ [(k, b, .int ((acc.length : Nat) : Int))]) (ks ++ [(t, f, m)]) (acc ++ [(k, l, [])]) := by
  have dead : ∀ {y}, H y = none → ∀ x ∈ p :: q :: ownT ks, x ≠ y := fun {y} hy x hx e => by
    obtain ⟨o, ho⟩ := I.live x hx
    rw [e, hy] at ho; cases ho
  have hpq : p ≠ q := fun e => (List.nodup_cons.mp I.nd).1 (e ▸ List.mem_cons_self)
  have pm := dead hm p List.mem_cons_self
  have pt := dead ht p List.mem_cons_self
  have qm := dead hm q (List.mem_cons_of_mem _ List.mem_cons_self)
  have qt := dead ht q (List.mem_cons_of_mem _ List.mem_cons_self)
  have kp := (I.fr p List.mem_cons_self)
  have kq := (I.fr q (List.mem_cons_of_mem _ List.mem_cons_self))
  have km : Hk m = none ∧ H0 m = none := ⟨Same.free I.kh hm, Same.free I.h0 hm⟩
  have kt : Hk t = none ∧ H0 t = none := ⟨Same.free I.kh ht, Same.free I.h0 ht⟩
  have on : ∀ x ∈ ownT ks, x ≠ p ∧ x ≠ q := fun x hx => ⟨fun e => (List.nodup_cons.mp I.nd).1 (e ▸ List.mem_cons_of_mem _ hx), fun e => (List.nodup_cons.mp (List.nodup_cons.mp I.nd).2).1 (e ▸ hx)⟩
  refine ⟨I.sk, same_upd (same_upd (same_upd (same_upd I.kh kp.1) km.1) kt.1) kq.1, same_upd (same_upd (same_upd (same_upd I.h0 kp.2) km.2) kt.2) kq.2, I.gr, ?_, ?_, ?_, ?_, ?_, ?_, ?_⟩
  · rw [upd_ne hpq, upd_ne pt, upd_ne pm, upd_same]
  · rw [upd_same, List.map_append]; rfl
  · rw [own_snoc]
    show ((p :: q :: ownT ks) ++ [t, m]).Nodup
    refine List.nodup_append.mpr ⟨I.nd, by simp [Ne.symm mt], fun x hx y hy => ?_⟩
    rcases List.mem_cons.mp hy with rfl | hy
    · exact dead ht x hx
    · rw [List.mem_singleton.mp hy]; exact dead hm x hx
  · intro x hx
    rw [own_snoc] at hx
    rcases List.mem_append.mp (show x ∈ (p :: q :: ownT ks) ++ [t, m] from hx) with hx | hx
    · exact I.fr x hx
    · rcases List.mem_cons.mp hx with rfl | hx
      · exact kt
      · rw [List.mem_singleton.mp hx]; exact km
  · refine GrpOk.snoc (t := (t, f, m)) (g := (k, l, [])) ?_ hf ⟨[], ?_, .nil⟩ (I.go.move (Same.refl _) fun x hx o ho => ?_)
    · show upd _ q _ t = _
      rw [upd_ne (Ne.symm qt), upd_same]
    · show upd _ q _ m = _
      rw [upd_ne (Ne.symm qm), upd_ne mt, upd_same]
    · have d1 := dead ht x (List.mem_cons_of_mem _ (List.mem_cons_of_mem _ hx))
      have d2 := dead hm x (List.mem_cons_of_mem _ (List.mem_cons_of_mem _ hx))
      rw [upd_ne (on x hx).2, upd_ne d1, upd_ne d2, upd_ne (on x hx).1]
      exact ho
  · intro r hr
    rcases List.mem_append.mp hr with hr | hr
    · exact I.ky r hr
    · rw [List.mem_singleton.mp hr]; exact key
  · have z := dk_snoc (k := k) (b := b) (l := l) (m := []) I.dk
    rw [Nat.zero_add] at z
    exact z
theorem GI.push (I : GI K w H0 Hs p q H Hk kvs ks acc) {i : Nat} {t : Tri} {g : G3} {us : List V} {v : V} {d : D} (z : Dz K Hk v d) (e1 : ks[i]? = some t) (e2 : acc[i]? = some g) (e3 : H t.2.2 = some (.lst us)) : GI K w H0 Hs p q (upd H t.2.2 (.lst (us ++ [v]))) Hk kvs ks (acc.set i (g.1, g.2.1, g.2.2 ++ [d])) := by
  have mt : t.2.2 ∈ ownT ks := List.mem_flatMap.mpr ⟨t, List.mem_of_getElem? e1, List.mem_cons_of_mem _ List.mem_cons_self⟩
  have n1 : p ≠ t.2.2 := fun e => (List.nodup_cons.mp I.nd).1 (e ▸ List.mem_cons_of_mem _ mt)
  have n2 : q ≠ t.2.2 := fun e => (List.nodup_cons.mp (List.nodup_cons.mp I.nd).2).1 (e ▸ mt)
  have f := I.fr _ (List.mem_cons_of_mem _ (List.mem_cons_of_mem _ mt))
  exact ⟨I.sk, same_upd I.kh f.1, same_upd I.h0 f.2, I.gr, by rw [upd_ne n1]; exact I.hp, by rw [upd_ne n2]; exact I.hq, I.nd, I.fr, I.go.push z (List.nodup_cons.mp (List.nodup_cons.mp I.nd).2).2 e1 e2 e3, I.ky, dk_set I.dk e2⟩
end
end ZN
set_option Elab.async false
set_option linter.all false
set_option maxRecDepth 100000
set_option maxHeartbeats 4000000
namespace ZN
open PySem PySem.Spec PyProof.Rows L2 Z
abbrev rLenA (K : PySem.W.Frag) : List V → Hp → VK → Prop := fun xs H Q => ∃ x n, xs = [x] ∧ LenV K x H n ∧ Q (.int n) H
def tGrpA (K : PySem.W.Frag) (w : World) : TS := tSeq (sNDPut K w (tVar 2) (tVar 6) (tCB (rLenA K) (tCons (tVar 3) tNil))) (tDrop (tBM K "list" rAppend (tVar 3) (tCons (tTup (tCons (tVar 5) (tCons (tLst tNil) tNil))) tNil)))
def tGrpB (K : PySem.W.Frag) (w : World) : TS := tDrop (tBM K "list" rAppend (tOp (rIx K) (tOp (rIx K) (tVar 3) (tOp (rNDIx K w) (tVar 2) (tVar 6))) (tC (.int 1))) (tCons (tVar 4) tNil))
def tGrp (K : PySem.W.Frag) (w : World) (fe fk : List D → Option FR) : TS :=
  tSeq (tAsg (tNDNew w) (gName 2)) (tSeq (tAsg (tLst tNil) (gName 3)) (tSeq (tFor (iList K (tVar 1)) (gName 4)
    (tSeq (tAsg (tCall (spP K fe) [] (fun _ _ _ => False) (tCons (tVar 0) (tCons (tVar 4) tNil))) (gName 5))
    (tSeq (tAsg (tCall (spP K fk) [] (fun _ _ _ => False) (tCons (tVar 5) tNil)) (gName 6))
    (tSeq (tIfS (tTest (tOp (rNDIn K w true) (tVar 6) (tVar 2))) (tGrpA K w) tNext) (tGrpB K w)))))
    (tRet (tVar 3))))
section
variable {K : PySem.W.Frag} {w : World} {H0 Hs : Hp} {p q : Addr} {H Hk : Hp} {kvs : NKV} {ks : List Tri} {acc : List G3} {τ : L2.St}
theorem grpB {k : NestedKey} {b : Addr} {x : V} {d : D} {i : Nat} {g : G3} (t2 : τ[2]? = some (some (.ref p))) (t3 : τ[3]? = some (some (.ref q))) (t4 : τ[4]? = some (some x)) (t6 : τ[6]? = some (some (.ref b))) (I : GI K w H0 Hs p q H Hk kvs ks acc) (key : KeyH K Hk k b) (hx : Dz K Hk x d)
    (hi : idx 0 acc k = some i) (hg : acc[i]? = some g) (few : g.2.2.length < sizeLine) {D : Ends} (nx : ∀ H', GI K w H0 Hs p q H' Hk kvs ks (acc.set i (g.1, g.2.1, g.2.2 ++ [d])) → D.nx τ H') : tGrpB K w D τ H := by
  obtain ⟨t, us, e1, e2, e3, e4⟩ := I.go.at_ hg
  have hv := dk_val k I.dk
  rw [hi] at hv
  have ei : (ks.map fun x => V.ref x.1)[i]? = some (V.ref t.1) := by rw [List.getElem?_map, e1]; rfl
  refine ⟨_, t3, _, t2, _, t6, k, b, p, kvs, .int (i : Int), rfl, rfl, I.hp, fun r m => (I.ky r m).mono I.kh, key.mono I.kh, hv, ?_⟩
  refine .inl ⟨q, _, (i : Int), .ref t.1, rfl, rfl, SqL.of I.hq, atI_nat ei, ?_⟩
  refine .inr (.inl ⟨t.1, [.ref t.2.1, .ref t.2.2], 1, .ref t.2.2, rfl, rfl, .inl (.inl e2), rfl, ?_⟩)
  refine ⟨.inl ⟨rfl, _, SqL.of e3⟩, _, t4, ?_⟩
  refine ⟨t.2.2, us, x, rfl, rfl, e3, by rw [e4.length]; exact few, ?_⟩
  exact nx _ (I.push hx e1 hg e3)
theorem grpA {k : NestedKey} {b f : Addr} {l : List D} (t2 : τ[2]? = some (some (.ref p))) (t3 : τ[3]? = some (some (.ref q))) (t5 : τ[5]? = some (some (.ref f))) (t6 : τ[6]? = some (some (.ref b))) (I : GI K w H0 Hs p q H Hk kvs ks acc) (key : KeyH K Hk k b) (hf : Dz K Hk (.ref f) (.lst l))
    (hi : idx 0 acc k = none) (few : acc.length < sizeLine) {D : Ends} (nx : ∀ H' kvs' ks', GI K w H0 Hs p q H' Hk kvs' ks' (acc ++ [(k, l, [])]) → D.nx τ H') : tGrpA K w D τ H := by
  have hv := dk_val k I.dk
  rw [hi] at hv
  have hv : valN kvs k = none := hv
  have lk := I.go.len
  have lv := dk_len I.dk
  have ep : putN kvs k b (.int ((acc.length : Nat) : Int)) = kvs ++ [(k, b, .int ((acc.length : Nat) : Int))] := by
    unfold putN
    rw [hv]
    rfl
  have hpq : p ≠ q := fun e => (List.nodup_cons.mp I.nd).1 (e ▸ List.mem_cons_self)
  refine ⟨_, t3, _, acc.length, rfl, .inl ⟨_, SqL.of I.hq, by rw [List.length_map]; exact lk.symm⟩, _, t2, _, t6, k, b, p, kvs, rfl, rfl, I.hp, fun r m => (I.ky r m).mono I.kh, key.mono I.kh, by omega, ?_⟩
  rw [ep]
  have hq1 : (upd H p (NDictO w p (kvs ++ [(k, b, V.int ((acc.length : Nat) : Int))]))) q = some (.lst (ks.map fun x => V.ref x.1)) := by rw [upd_ne (Ne.symm hpq)]; exact I.hq
  refine ⟨_, t3, .inl ⟨rfl, _, SqL.of hq1⟩, _, t5, Nat.zero_le _, fun m hm => ⟨show 2 ≤ sizeLine by decide, fun t ht => ?_⟩⟩
  have pm : m ≠ p := fun e => by rw [e, upd_same] at hm; cases hm
  have hm0 : H m = none := by rw [upd_ne pm] at hm; exact hm
  have tm : t ≠ m := fun e => by rw [e, upd_same] at ht; cases ht
  rw [upd_ne tm] at ht
  have pt : t ≠ p := fun e => by rw [e, upd_same] at ht; cases ht
  have ht0 : H t = none := by rw [upd_ne pt] at ht; exact ht
  have qm : q ≠ m := fun e => by rw [← e, I.hq] at hm0; cases hm0
  have qt : q ≠ t := fun e => by rw [← e, I.hq] at ht0; cases ht0
  refine ⟨q, ks.map (fun x => V.ref x.1), .ref t, rfl, rfl, by rw [upd_ne qt, upd_ne qm]; exact hq1, by rw [List.length_map]; omega, ?_⟩
  exact nx _ _ _ (I.add key hf hm0 ht0 (Ne.symm tm))
end
theorem mem_set_len {acc : List G3} {j n : Nat} {h : G3} (a : ∀ g ∈ acc, g.2.2.length ≤ n) (b : h.2.2.length ≤ n) : ∀ g ∈ acc.set j h, g.2.2.length ≤ n := fun x hx => by
  rcases List.mem_or_eq_of_mem_set hx with hx | rfl
  · exact a x hx
  · exact b
theorem grp_sem {K : PySem.W.Frag} {w : World} {fe fk : List D → Option FR} {v0 v1 : V} {σ : L2.St} {H : Hp} {Q : VK} {E : XK} (hl : σ.length = 7) (h0 : σ[0]? = some (some v0)) (h1 : σ[1]? = some (some v1)) (h : spP K (grpD fe fk) [v0, v1] H Q E) (W : Ends) (hr : W.rt = Q) : tGrp K w fe fk W σ H := by
  obtain ⟨Hs, ds, fr, sm, hz, e, q⟩ := h
  cases hz with
  | @cons _ _ keys ds1 z0 zs =>
  cases zs with
  | @cons _ _ d ds2 z zs =>
  cases zs
  cases z with
  | @lst a us rows sq zr =>
    simp only [grpD] at e
    split at e
    · rename_i h63
      obtain ⟨res, hres, e⟩ := Option.map_eq_some_iff.mp e
      subst e
      refine fun p hp => ⟨Nat.zero_le _, fun r hr' => ?_⟩
      have npr : r ≠ p := fun z => by rw [z, upd_same] at hr'; cases hr'
      have hr0 : H r = none := by rw [upd_ne npr] at hr'; exact hr'
      have l2 : 2 < σ.length := by omega
      have l3 : 3 < (σ.set 2 (some (V.ref p))).length := by rw [List.length_set]; omega
      have sn : ∀ {x}, H x = none → Hs x = none := fun {x} hx => Same.free sm hx
      refine ⟨.ref a, (by rw [set3 (by decide), set3 (by decide)]; exact h1), a, rfl, ⟨us, ?_⟩, ?_⟩
      · exact (same_upd (same_upd sm (sn hp)) (sn hr0)).seq sq
      refine for_list (xs := us) (fun i σ' H' => ∃ Hk p q kvs ks acc, σ'.length = 7 ∧ σ'[0]? = some (some v0) ∧ σ'[2]? = some (some (.ref p)) ∧ σ'[3]? = some (some (.ref q)) ∧ GI K w H Hs p q H' Hk kvs ks acc ∧ acc.length ≤ i ∧ (∀ g ∈ acc, g.2.2.length ≤ i) ∧ grpF fe fk keys (rows.drop i) acc = some res) ⟨Hs, p, r, [], [], [], ?_⟩ ?_ ?_ ?_
      · refine ⟨by rw [List.length_set, List.length_set]; exact hl, by rw [set3 (by decide), set3 (by decide)]; exact h0, by rw [set3 (by decide)]; exact List.getElem?_set_self l2, List.getElem?_set_self l3, ?_, Nat.zero_le _, (fun g m => nomatch m), hres⟩
        refine ⟨Same.refl _, same_upd (same_upd sm (sn hp)) (sn hr0), same_upd (same_upd (Same.refl H) hp) hr0, fun b o e => .inl e, ?_, upd_same, ?_, ?_, trivial, (fun r m => nomatch m), trivial⟩
        · rw [upd_ne (Ne.symm npr), upd_same]
        · simp [ownT, Ne.symm npr]
        · intro x m
          rcases List.mem_cons.mp m with rfl | m
          · exact ⟨sn hp, hp⟩
          · rw [List.mem_singleton.mp m]
            exact ⟨sn hr0, hr0⟩
      · rintro i σ' H' _ ⟨Hk, p, q, kvs, ks, acc, _, _, _, _, I, _⟩
        exact (I.sk.trans I.kh).seq sq
      · rintro i x σ' H' hx ⟨Hk, p, q, kvs, ks, acc, s7, s0, s2, s3, I, la, lm, un⟩
        obtain ⟨d, hd, dz⟩ := zr.getV hx
        have hi : i < rows.length := (List.getElem?_eq_some_iff.mp hd).1
        have hdr : rows.drop i = d :: rows.drop (i + 1) := by rw [List.drop_eq_getElem_cons hi]; congr 1; exact Option.some.inj ((List.getElem?_eq_getElem hi).symm.trans hd)
        rw [hdr] at un
        unfold grpF at un
        split at un
        · rename_i l hfe
          split at un
          · rename_i tl hfk
            split at un
            · rename_i k hk
              split at un
              · rename_i hdep
                have s4 : (σ'.set 4 (some x))[4]? = some (some x) := List.getElem?_set_self (by rw [s7]; decide)
                refine ⟨v0, by rw [set3 (by decide)]; exact s0, x, s4, Hk, [keys, d], .new (.lst l), I.kh, .cons (z0.mono I.sk) (.cons (dz.mono I.sk) .nil), hfe, fun y Hk1 H1 c1 c2 c3 c4 rel => ?_⟩
                obtain ⟨f, o, rfl, hf0, hf1, hf2, hc⟩ := rel
                cases o with
                | lst fs =>
                  have hc : DzA K Hk1 fs l := hc
                  have kf : Hk f = none := Same.free I.kh hf0
                  have sk1 : Same Hk (upd Hk1 f (.lst fs)) := same_upd c1 kf
                  have I1 : GI K w H Hs p q H1 (upd Hk1 f (.lst fs)) kvs ks acc := I.step sk1 c2 (fun b u e => by
                    by_cases z : b = f
                    · rw [z, upd_same] at e; cases e; rw [z]; exact hf2
                    · rw [upd_ne z] at e; exact c3 b u e) fun b u e => by
                    by_cases z : b = f
                    · rw [z]; exact .inr hf0
                    · rw [upd_ne z] at e; exact c4 b u e
                  have zf : Dz K (upd Hk1 f (.lst fs)) (.ref f) (.lst l) := .lst (SqL.of upd_same) (hc.mono (same_upd (Same.refl _) hf1))
                  have s5 : ((σ'.set 4 (some x)).set 5 (some (V.ref f)))[5]? = some (some (V.ref f)) := List.getElem?_set_self (by rw [List.length_set, s7]; decide)
                  refine ⟨_, s5, upd Hk1 f (.lst fs), [.lst l], .dat (.tup tl), I1.kh, .cons zf .nil, hfk, fun y Hk2 H2 d1 d2 d3 d4 rel => ?_⟩
                  have rel : Dz K Hk2 y (.tup tl) := rel
                  obtain ⟨b, rfl⟩ : ∃ b, y = V.ref b := by cases rel with | @tup b _ _ _ _ => exact ⟨b, rfl⟩
                  have I2 : GI K w H Hs p q H2 Hk2 kvs ks acc := I1.step d1 d2 d3 d4
                  have key : KeyH K Hk2 k b := ⟨_, rel, hk, hdep⟩
                  have zx : Dz K Hk2 x d := dz.mono (I.sk.trans (sk1.trans d1))
                  have zf2 := zf.mono d1
                  generalize hσ : ((σ'.set 4 (some x)).set 5 (some (V.ref f))).set 6 (some (V.ref b)) = τ
                  have t7 : τ.length = 7 := by rw [← hσ, List.length_set, List.length_set, List.length_set]; exact s7
                  have t0 : τ[0]? = some (some v0) := by rw [← hσ, set3 (by decide), set3 (by decide), set3 (by decide)]; exact s0
                  have t2 : τ[2]? = some (some (.ref p)) := by rw [← hσ, set3 (by decide), set3 (by decide), set3 (by decide)]; exact s2
                  have t3 : τ[3]? = some (some (.ref q)) := by rw [← hσ, set3 (by decide), set3 (by decide), set3 (by decide)]; exact s3
                  have t4 : τ[4]? = some (some x) := by rw [← hσ, set3 (by decide), set3 (by decide)]; exact s4
                  have t5 : τ[5]? = some (some (.ref f)) := by rw [← hσ, set3 (by decide)]; exact s5
                  have t6 : τ[6]? = some (some (.ref b)) := by rw [← hσ]; exact List.getElem?_set_self (by rw [List.length_set, List.length_set, s7]; decide)
                  dsimp only [gName]
                  rw [hσ]
                  have big : (1000 : Nat) < sizeLine := by decide
                  have finB : ∀ (H' : Hp) (kvs' : NKV) (ks' : List Tri) (D : Ends), GI K w H Hs p q H' Hk2 kvs' ks' (addG acc k l) → (∀ H'' acc', GI K w H Hs p q H'' Hk2 kvs' ks' acc' → acc'.length ≤ i + 1 → (∀ g ∈ acc', g.2.2.length ≤ i + 1) → grpF fe fk keys (rows.drop (i + 1)) acc' = some res → D.nx τ H'') → tGrpB K w D τ H' := fun H' kvs' ks' D I' nx => by
                    obtain ⟨j, g, e1, e2⟩ := add_has acc k l
                    have lg : ∀ g ∈ addG acc k l, g.2.2.length ≤ i := fun g m => by
                      unfold addG at m
                      split at m
                      · exact lm g m
                      · rcases List.mem_append.mp m with m | m
                        · exact lm g m
                        · rw [List.mem_singleton.mp m]; exact Nat.zero_le _
                    have ll : (addG acc k l).length ≤ i + 1 := by
                      unfold addG
                      split
                      · omega
                      · rw [List.length_append, List.length_singleton]; omega
                    have l1 := lg g (List.mem_of_getElem? e2)
                    have un' : grpF fe fk keys (rows.drop (i + 1)) ((addG acc k l).set j (g.1, g.2.1, g.2.2 ++ [d])) = some res := by
                      unfold pushG at un
                      rw [e1] at un
                      simp only [e2] at un
                      exact un
                    have l2 : ((addG acc k l).set j (g.1, g.2.1, g.2.2 ++ [d])).length ≤ i + 1 := by rw [List.length_set]; exact ll
                    have l3 : ∀ g' ∈ (addG acc k l).set j (g.1, g.2.1, g.2.2 ++ [d]), g'.2.2.length ≤ i + 1 := mem_set_len (fun g m => Nat.le_succ_of_le (lg g m)) (by
                      show (g.2.2 ++ [d]).length ≤ i + 1
                      rw [List.length_append, List.length_singleton]; omega)
                    exact grpB t2 t3 t4 t6 I' key zx e1 e2 (by omega) fun H'' I'' => nx H'' _ I'' l2 l3 un'
                  refine ⟨_, t6, _, t2, k, b, p, kvs, rfl, rfl, I2.hp, fun r m => (I2.ky r m).mono I2.kh, key.mono I2.kh, _, rfl, ?_⟩
                  have hv := dk_val k I2.dk
                  rw [if_pos rfl, hv, Option.isSome_map]
                  cases hid : (idx 0 acc k).isSome with
                  | true =>
                    simp only [Bool.not_true, Bool.false_eq_true, if_false]
                    have ea : addG acc k l = acc := by unfold addG; rw [if_pos hid]
                    exact finB _ kvs ks _ (by rw [ea]; exact I2) fun H'' acc' I'' q1 q2 q3 => ⟨Hk2, p, q, kvs, ks, acc', t7, t0, t2, t3, I'', q1, q2, q3⟩
                  | false =>
                    simp only [Bool.not_false, if_true]
                    have ea : addG acc k l = acc ++ [(k, l, [])] := by unfold addG; rw [hid]; rfl
                    have hn : idx 0 acc k = none := by cases z : idx 0 acc k with | none => rfl | some j => rw [z] at hid; cases hid
                    exact grpA t2 t3 t5 t6 I2 key zf2 hn (by omega) fun H' kvs' ks' I' => finB _ kvs' ks' _ (by rw [ea]; exact I') fun H'' acc' I'' q1 q2 q3 => ⟨Hk2, p, q, kvs', ks', acc', t7, t0, t2, t3, I'', q1, q2, q3⟩
                | _ => exact (show False from hc).elim
              · cases un
            · cases un
          · cases un
        · cases un
      · rintro σ' H' ⟨Hk, p, q', kvs, ks, acc, s7, s0, s2, s3, I, la, lm, un⟩
        rw [List.drop_of_length_le (by rw [zr.length]; exact Nat.le_refl _)] at un
        have un : some acc = some res := un
        cases un
        refine ⟨_, s3, ?_⟩
        show W.rt (.ref q') H'
        rw [hr]
        have off : ∀ x ∈ q' :: ownT ks, Hk x = none ∧ H x = none := fun x m => I.fr x (List.mem_cons_of_mem _ m)
        have sf : Same Hk (fun b => if b ∈ q' :: ownT ks then H' b else Hk b) := fun b o e => by
          have n : b ∉ q' :: ownT ks := fun m => by rw [(off b m).1] at e; cases e
          show (if b ∈ q' :: ownT ks then H' b else Hk b) = _
          rw [if_neg n]; exact e
        have sg : Same (fun b => if b ∈ q' :: ownT ks then H' b else Hk b) H' := fun b o e => by
          have e : (if b ∈ q' :: ownT ks then H' b else Hk b) = some o := e
          by_cases m : b ∈ q' :: ownT ks
          · rw [if_pos m] at e; exact e
          · rw [if_neg m] at e; exact I.kh b o e
        refine q _ (fun b => if b ∈ q' :: ownT ks then H' b else Hk b) H' (I.sk.trans sf) I.h0 sg (fun b o e => ?_) ?_
        · have e : (if b ∈ q' :: ownT ks then H' b else Hk b) = some o := e
          by_cases m : b ∈ q' :: ownT ks
          · exact .inr (off b m).2
          · rw [if_neg m] at e; exact I.gr b o e
        · refine .lst (SqL.of (by show (if q' ∈ q' :: ownT ks then H' q' else Hk q') = _; rw [if_pos List.mem_cons_self]; exact I.hq)) (I.go.dz sf fun x m o e => ?_)
          show (if x ∈ q' :: ownT ks then H' x else Hk x) = _
          rw [if_pos (List.mem_cons_of_mem _ m)]; exact e
    · cases e
  | _ => simp [grpD] at e
/-- THE RULE for such a def -/
theorem okGrp {P : Program} {w : World} {K : PySem.W.Frag} {mg : Str → Option Value} {base : Heap} {x qual : Str} {st : Stmt} {f : Addr} {fd : FuncData} {N ps : List Str} {k : Nat} {fe fk : List D → Option FR} (F : Fun K x qual st f fd) (S : FnScope N ps (defScope st)) (h5 : N.length = 7) (h1 : ps.length = 2)
    (hbody : ∀ (cdv : Value) (A : Around) (outer : List Env) (s0 : Shared) (H : Hp) (E : XK), Room k (A.deeper (envOfC qual (defScope st) s0.heap.objs.size f cdv)) →
      PSs (cxOf CX0 P w K mg base N qual (defScope st) f cdv A outer s0 H E).nox (defBody st) (tGrp K w fe fk)) : FnOk P w K mg base CX0 (k + 1) f fd ps (spP K (grpD fe fk)) := by
  have arity : ∀ vs H Q E, spP K (grpD fe fk) vs H Q E → vs.length = ps.length := fun vs H Q E ⟨Hs, ds, fr, _, hz, e, _⟩ => by
    rw [hz.length, h1]
    match ds, e with
    | [_, _], _ => rfl
    | [], e => simp [grpD] at e
    | [_], e => simp [grpD] at e
    | _ :: _ :: _ :: _, e => simp [grpD] at e
  refine F.ok S arity (fun cdv A outer s0 H vs Q E hr h => ⟨_, hbody cdv A outer s0 H E hr, ?_⟩)
  have hv : vs.length = 2 := (arity vs H Q E h).trans h1
  match vs, hv with
  | [v0, v1], _ =>
    refine grp_sem (σ := L2.start N [v0, v1]) (by rw [start_len (by rw [h5]; show 2 ≤ 7; decide)]; exact h5) rfl rfl h _ rfl
end ZN
set_option Elab.async false
set_option linter.all false
set_option maxRecDepth 100000
set_option maxHeartbeats 4000000
namespace Z
open PySem PySem.Spec PyProof.Rows L2
def nindexD : D → List D → Option D
  | .lst l, [x] => if (x.shp && (D.lst l).shp) = true then (l.findIdx? fun y => D.eqv y x).map fun j => .int (j : Nat) else none
  | _, _ => none
theorem mt_nindex {X : Cx} {k : Nat} (hr : Room k X.A) : MtR X "list.index" (rIndexD X.K) := mt_indexD (by have := hr.un; omega)
theorem s_nindex {K : PySem.W.Frag} : MtS K (L2.rIndexD K) nindexD := by
  intro H x vs d ds z Q hx hz e q
  unfold nindexD at e
  split at e
  · rename_i l y
    split at e
    · rename_i hp
      rw [Bool.and_eq_true] at hp
      rw [Option.map_eq_some_iff] at e
      obtain ⟨j, hj, rfl⟩ := e
      obtain ⟨h1, h2, h3⟩ := List.findIdx?_eq_some_iff_getElem.mp hj
      have hl : Dp K H x (PyData.list (D.pyA l)) := Dz.dp hx (shp_lay hp.2)
      obtain ⟨a, rfl⟩ : ∃ a, x = V.ref a := by cases hx with | lst => exact ⟨_, rfl⟩
      cases hz with
      | cons zy t =>
        cases t
        have hy := Dz.dp zy (shp_lay hp.1)
        refine ⟨a, _, y.py, D.pyA l, j, l[j].py, rfl, rfl, hl, hy, hp.2, hp.1, ?_, ?_, fun m z' hm hz' => ?_, q⟩
        · rw [pyA_map, List.getElem?_map, List.getElem?_eq_getElem h1]
          rfl
        · rw [D.py_eqv]; exact h2
        · rw [pyA_map, List.getElem?_map, List.getElem?_eq_getElem (Nat.lt_trans hm h1)] at hz'
          cases hz'
          rw [D.py_eqv]
          have := h3 m hm
          simpa using this
    · cases e
  · cases e
theorem dr_nindex {l : List D} {x : D} {j : Nat} (h1 : x.shp = true) (h2 : (D.lst l).shp = true) (h3 : l.findIdx? (fun y => D.eqv y x) = some j) : nindexD (.lst l) [x] = some (.int (j : Nat)) := by
  simp only [nindexD, h1, h2, Bool.and_self, if_true, h3, Option.map_some]
end Z
set_option Elab.async false
set_option linter.all false
set_option maxRecDepth 100000
set_option maxHeartbeats 4000000
namespace Qk38
open PySem PySem.Spec PyProof.Rows L2 Z
def topS (i : Nat) : Stmt := PySem.Challenge.pw_stylobate_k38_groups_of_rows.main.body.getD i (.Pass ⟨0, 0, 0, 0⟩)
noncomputable section
variable {P : Program} {w : World} {K : PySem.W.Frag} {mg : Str → Option Value} {base : Heap}
abbrev c_GREATEST : D := .int 1000000000000000
abbrev c_ONE : D := .int 10000
abbrev c_MOST : D := .int 10000
abbrev st__law_numbers : Stmt := topS 118
theorem sc__law_numbers : FnScope ["_law_script", "_law_count", "_law_numbers_here", "_law_k", "_law_cell"] ["_law_script", "_law_count"] (defScope st__law_numbers) := ⟨rfl, rfl, rfl, by decide +kernel, rfl, by decide +kernel, by decide +kernel⟩
def lb__law_numbers_1 : SM := zFg [3, 4] (zSeq (zSet 5 4 (zC (.int 0))) (zSeq (zIfS 5 (zTst (zOp gtD (zCallS lenD (zCons (zVar 0) (zNil))) (zC (.int 0)))) (zSet 5 4 (zCallS intU (zCons (zIx (zVar 0) (zOp subD (zVar 3) (zOp mulD (zOp divD (zVar 3) (zCallS lenD (zCons (zVar 0) (zNil)))) (zCallS lenD (zCons (zVar 0) (zNil)))))) (zNil)))) (zNx)) (zSeq (zIfS 5 (zTst (zOp ltX (zVar 4) (zC (.int 0)))) (zSet 5 4 (zOp subD (zC (.int 1)) (zOp mulD (zC (.int 2)) (zVar 4)))) (zNx)) (zSeq (zIfS 5 (zOrT (zTst (zOp geD (zVar 3) (zCallS lenD (zCons (zVar 0) (zNil))))) (zTst (zOp ltX (zVar 4) (zC (.int 1000000000))))) (zSeq (zSet 5 4 (zOp modD (zCallS intU (zCons (zOp addS (zOp mulD (zOp addS (zOp addS (zVar 4) (zOp mulD (zC (.int 101)) (zVar 3))) (zC (.int 13))) (zC (.int 40692))) (zOp mulD (zOp mulD (zVar 3) (zVar 3)) (zC (.int 6271)))) (zNil))) (zC (.int 2147483399)))) (zSet 5 4 (zOp modD (zCallS intU (zCons (zOp mulD (zOp addS (zOp addS (zVar 4) (zOp mulD (zC (.int 29)) (zVar 3))) (zC (.int 5))) (zC (.int 3935559000370003845))) (zNil))) (zC (.int 18446744073709551533))))) (zNx)) (zApp 5 (zVar 2) (zVar 4))))))
def b__law_numbers : SM := zSeq (zSet 5 2 (zLst (zNil))) (zSeq (zFor 5 (ziR1 (zCons (zVar 1) (zNil))) (gN 3) (lb__law_numbers_1)) (zRet (zVar 2)))
def d__law_numbers : List D → Option FR := runP 5 2 b__law_numbers
set_option maxHeartbeats 4000000 in
theorem ok__law_numbers (h : DefAt K mg "_law_numbers" st__law_numbers) (m_int : mg "int" = none) (m_len : mg "len" = none) (m_range : mg "range" = none) : Cal P w K mg base 1 "_law_numbers" (spP K d__law_numbers) := by
  obtain ⟨a, fd, h1, F⟩ := h
  exact ⟨a, fd, _, h1, F.kp, F.binds (ps := ["_law_script", "_law_count"]) fun _ _ _ _ _ _ us hl => match us, hl with | [_, _], _ => rfl, okP F sc__law_numbers fun cdv A outer s0 H E hr =>
    zss_cons (zs_set (i := 2) sc__law_numbers.nd rfl (Or.inl rfl) (ze_lst (za_nil))) (zss_cons (zs_for PassesOwn.never rfl (zi_range1 (by rfl) m_range (za_cons (ze_var rfl (pv 1)) (za_nil))) (zg_name (i := 3) sc__law_numbers.nd rfl (Or.inl rfl)) (zss_fg (vs := [3, 4]) (zss_cons (zs_set (i := 4) sc__law_numbers.nd rfl (Or.inl rfl) (ze_int)) (zss_cons (zs_if (zt_cmp o_gt s_gt (ze_callB call_len s_len (by rfl) m_len PySem.boot_len (za_cons (ze_var rfl (pv 0)) (za_nil))) (ze_int) (nomark _)) (zss_one (zs_set (i := 4) sc__law_numbers.nd rfl (Or.inl rfl) (ze_callTy call_intU s_intU (by rfl) m_int (by decide +kernel) (za_cons (ze_ix (ze_var rfl (pv 0)) (ze_op op_sub s_sub (ze_var rfl (pv 3)) (ze_op o_mul s_mul (ze_op o_div s_div (ze_var rfl (pv 3)) (ze_callB call_len s_len (by rfl) m_len PySem.boot_len (za_cons (ze_var rfl (pv 0)) (za_nil)))) (ze_callB call_len s_len (by rfl) m_len PySem.boot_len (za_cons (ze_var rfl (pv 0)) (za_nil)))))) (za_nil))))) (zss_nil)) (zss_cons (zs_if (zt_cmp (o_ltX hr) s_ltX (ze_var rfl (pv 4)) (ze_int) (nomark _)) (zss_one (zs_set (i := 4) sc__law_numbers.nd rfl (Or.inl rfl) (ze_op op_sub s_sub (ze_int) (ze_op o_mul s_mul (ze_int) (ze_var rfl (pv 4)))))) (zss_nil)) (zss_cons (zs_if (zt_w (zw_or (zt_cmp o_ge s_ge (ze_var rfl (pv 3)) (ze_callB call_len s_len (by rfl) m_len PySem.boot_len (za_cons (ze_var rfl (pv 0)) (za_nil))) (nomark _)) (zw_or1 (zt_cmp (o_ltX hr) s_ltX (ze_var rfl (pv 4)) (ze_int) (nomark _))))) (zss_cons (zs_set (i := 4) sc__law_numbers.nd rfl (Or.inl rfl) (ze_op o_mod s_mod (ze_callTy call_intU s_intU (by rfl) m_int (by decide +kernel) (za_cons (ze_op o_add s_add (ze_op o_mul s_mul (ze_op o_add s_add (ze_op o_add s_add (ze_var rfl (pv 4)) (ze_op o_mul s_mul (ze_int) (ze_var rfl (pv 3)))) (ze_int)) (ze_int)) (ze_op o_mul s_mul (ze_op o_mul s_mul (ze_var rfl (pv 3)) (ze_var rfl (pv 3))) (ze_int))) (za_nil))) (ze_int))) (zss_one (zs_set (i := 4) sc__law_numbers.nd rfl (Or.inl rfl) (ze_op o_mod s_mod (ze_callTy call_intU s_intU (by rfl) m_int (by decide +kernel) (za_cons (ze_op o_mul s_mul (ze_op o_add s_add (ze_op o_add s_add (ze_var rfl (pv 4)) (ze_op o_mul s_mul (ze_int) (ze_var rfl (pv 3)))) (ze_int)) (ze_int)) (za_nil))) (ze_int))))) (zss_nil)) (zss_one (zs_app (ze_var rfl (pv 2)) (ze_var rfl (pv 4)))))))))) (zss_one (zs_ret (ze_var rfl (pv 2)))))⟩
abbrev st__law_cells : Stmt := topS 120
theorem sc__law_cells : FnScope ["_law_number", "_law_width", "_law_row", "_law_k", "_law_rest"] ["_law_number", "_law_width"] (defScope st__law_cells) := ⟨rfl, rfl, rfl, by decide +kernel, rfl, by decide +kernel, by decide +kernel⟩
def lb__law_cells_1 : SM := zFg [3, 4] (zSeq (zSet 5 4 (zOp addS (zOp divD (zCallS intU (zCons (zVar 0) (zNil))) (zOp addS (zOp mulD (zC (.int 7)) (zVar 3)) (zC (.int 3)))) (zOp mulD (zC (.int 5)) (zVar 3)))) (zApp 5 (zVar 2) (zIx (zLst (zCons (zC .non) (zCons (zOp modD (zOp divD (zVar 4) (zC (.int 9))) (zC (.int 4))) (zCons (zOp subD (zOp modD (zOp divD (zVar 4) (zC (.int 9))) (zC (.int 4))) (zC (.int 1))) (zCons (zOp eqD (zOp modD (zOp divD (zVar 4) (zC (.int 9))) (zC (.int 2))) (zC (.int 0))) (zCons (zIx (zC (.str [97, 98])) (zOp modD (zOp divD (zVar 4) (zC (.int 9))) (zC (.int 2)))) (zCons (zIx (zLst (zCons (zC (.str [])) (zCons (zC (.str [97, 32, 98])) (zCons (zC (.str [65])) (zNil))))) (zOp modD (zOp divD (zVar 4) (zC (.int 9))) (zC (.int 3)))) (zCons (zOp modD (zOp divD (zVar 4) (zC (.int 9))) (zC (.int 2))) (zNil))))))))) (zOp modD (zVar 4) (zC (.int 7))))))
def b__law_cells : SM := zSeq (zSet 5 2 (zLst (zNil))) (zSeq (zFor 5 (ziR1 (zCons (zVar 1) (zNil))) (gN 3) (lb__law_cells_1)) (zRet (zVar 2)))
def d__law_cells : List D → Option FR := runP 5 2 b__law_cells
set_option maxHeartbeats 4000000 in
theorem ok__law_cells (h : DefAt K mg "_law_cells" st__law_cells) (m_int : mg "int" = none) (m_range : mg "range" = none) : Cal P w K mg base 1 "_law_cells" (spP K d__law_cells) := by
  obtain ⟨a, fd, h1, F⟩ := h
  exact ⟨a, fd, _, h1, F.kp, F.binds (ps := ["_law_number", "_law_width"]) fun _ _ _ _ _ _ us hl => match us, hl with | [_, _], _ => rfl, okP F sc__law_cells fun cdv A outer s0 H E hr =>
    zss_cons (zs_set (i := 2) sc__law_cells.nd rfl (Or.inl rfl) (ze_lst (za_nil))) (zss_cons (zs_for PassesOwn.never rfl (zi_range1 (by rfl) m_range (za_cons (ze_var rfl (pv 1)) (za_nil))) (zg_name (i := 3) sc__law_cells.nd rfl (Or.inl rfl)) (zss_fg (vs := [3, 4]) (zss_cons (zs_set (i := 4) sc__law_cells.nd rfl (Or.inl rfl) (ze_op o_add s_add (ze_op o_div s_div (ze_callTy call_intU s_intU (by rfl) m_int (by decide +kernel) (za_cons (ze_var rfl (pv 0)) (za_nil))) (ze_op o_add s_add (ze_op o_mul s_mul (ze_int) (ze_var rfl (pv 3))) (ze_int))) (ze_op o_mul s_mul (ze_int) (ze_var rfl (pv 3))))) (zss_one (zs_app (ze_var rfl (pv 2)) (ze_ix (ze_lst (za_cons (ze_non) (za_cons (ze_op o_mod s_mod (ze_op o_div s_div (ze_var rfl (pv 4)) (ze_int)) (ze_int)) (za_cons (ze_op op_sub s_sub (ze_op o_mod s_mod (ze_op o_div s_div (ze_var rfl (pv 4)) (ze_int)) (ze_int)) (ze_int)) (za_cons (ze_cmp (o_eq hr) s_eq (ze_op o_mod s_mod (ze_op o_div s_div (ze_var rfl (pv 4)) (ze_int)) (ze_int)) (ze_int) (nomark _)) (za_cons (ze_ix (ze_str) (ze_op o_mod s_mod (ze_op o_div s_div (ze_var rfl (pv 4)) (ze_int)) (ze_int))) (za_cons (ze_ix (ze_lst (za_cons (ze_str) (za_cons (ze_str) (za_cons (ze_str) (za_nil))))) (ze_op o_mod s_mod (ze_op o_div s_div (ze_var rfl (pv 4)) (ze_int)) (ze_int))) (za_cons (ze_op o_mod s_mod (ze_op o_div s_div (ze_var rfl (pv 4)) (ze_int)) (ze_int)) (za_nil))))))))) (ze_op o_mod s_mod (ze_var rfl (pv 4)) (ze_int)))))))) (zss_one (zs_ret (ze_var rfl (pv 2)))))⟩
abbrev st__law_rowlist : Stmt := topS 121
theorem sc__law_rowlist : FnScope ["_law_numbers_here", "_law_at", "_law_count", "_law_width", "_law_rows", "_law_k"] ["_law_numbers_here", "_law_at", "_law_count", "_law_width"] (defScope st__law_rowlist) := ⟨rfl, rfl, rfl, by decide +kernel, rfl, by decide +kernel, by decide +kernel⟩
def lb__law_rowlist_1 : SM := zFg [5] (zIfS 6 (zAndT (zTst (zOp gtD (zCallS lenD (zCons (zVar 4) (zNil))) (zC (.int 0)))) (zTst (zOp eqD (zOp modD (zCallS intU (zCons (zIx (zVar 0) (zOp addS (zVar 1) (zVar 5))) (zNil))) (zC (.int 4))) (zC (.int 0))))) (zAppR 6 (zVar 4) (zListR 4 (zOp modD (zOp divD (zCallS intU (zCons (zIx (zVar 0) (zOp addS (zVar 1) (zVar 5))) (zNil))) (zC (.int 4))) (zCallS lenD (zCons (zVar 4) (zNil)))))) (zAppR 6 (zVar 4) (zCall d__law_cells (zCons (zOp divD (zCallS intU (zCons (zIx (zVar 0) (zOp addS (zVar 1) (zVar 5))) (zNil))) (zC (.int 4))) (zCons (zVar 3) (zNil))))))
def b__law_rowlist : SM := zSeq (zAsR 4 (zSet 6 4 (zLst (zNil)))) (zSeq (zFor 6 (ziR1 (zCons (zVar 2) (zNil))) (gN 5) (lb__law_rowlist_1)) (zRet (zVar 4)))
def d__law_rowlist : List D → Option FR := runP 6 4 b__law_rowlist
set_option maxHeartbeats 4000000 in
theorem ok__law_rowlist (h : DefAt K mg "_law_rowlist" st__law_rowlist) (m_int : mg "int" = none) (m_len : mg "len" = none) (m_list : mg "list" = none) (m_range : mg "range" = none) (c__law_cells : Cal P w K mg base 1 "_law_cells" (spP K d__law_cells)) : Cal P w K mg base 2 "_law_rowlist" (spP K d__law_rowlist) := by
  obtain ⟨a, fd, h1, F⟩ := h
  exact ⟨a, fd, _, h1, F.kp, F.binds (ps := ["_law_numbers_here", "_law_at", "_law_count", "_law_width"]) fun _ _ _ _ _ _ us hl => match us, hl with | [_, _, _, _], _ => rfl, okP F sc__law_rowlist fun cdv A outer s0 H E hr =>
    zss_cons (zs_asR (zs_set (i := 4) sc__law_rowlist.nd rfl (Or.inl rfl) (ze_lst (za_nil)))) (zss_cons (zs_for PassesOwn.never rfl (zi_range1 (by rfl) m_range (za_cons (ze_var rfl (pv 2)) (za_nil))) (zg_name (i := 5) sc__law_rowlist.nd rfl (Or.inl rfl)) (zss_fg (vs := [5]) (zss_one (zs_if (zt_w (zw_and (zt_cmp o_gt s_gt (ze_callB call_len s_len (by rfl) m_len PySem.boot_len (za_cons (ze_var rfl (pv 4)) (za_nil))) (ze_int) (nomark _)) (zw_and1 (zt_cmp (o_eq hr) s_eq (ze_op o_mod s_mod (ze_callTy call_intU s_intU (by rfl) m_int (by decide +kernel) (za_cons (ze_ix (ze_var rfl (pv 0)) (ze_op o_add s_add (ze_var rfl (pv 1)) (ze_var rfl (pv 5)))) (za_nil))) (ze_int)) (ze_int) (nomark _))))) (zss_one (zs_appR (ze_var rfl (pv 4)) (ze_listR (by rfl) m_list (pv 4) (ze_op o_mod s_mod (ze_op o_div s_div (ze_callTy call_intU s_intU (by rfl) m_int (by decide +kernel) (za_cons (ze_ix (ze_var rfl (pv 0)) (ze_op o_add s_add (ze_var rfl (pv 1)) (ze_var rfl (pv 5)))) (za_nil))) (ze_int)) (ze_callB call_len s_len (by rfl) m_len PySem.boot_len (za_cons (ze_var rfl (pv 4)) (za_nil)))) (Nat.le_of_ble_eq_true rfl)))) (zss_one (zs_appR (ze_var rfl (pv 4)) (ze_call (c__law_cells.mono (by decide)) hr (za_cons (ze_op o_div s_div (ze_callTy call_intU s_intU (by rfl) m_int (by decide +kernel) (za_cons (ze_ix (ze_var rfl (pv 0)) (ze_op o_add s_add (ze_var rfl (pv 1)) (ze_var rfl (pv 5)))) (za_nil))) (ze_int)) (za_cons (ze_var rfl (pv 3)) (za_nil)))))))))) (zss_one (zs_ret (ze_var rfl (pv 4)))))⟩
def tab_TERNARY_DEEDS : Tab := []
abbrev st_ternary : Stmt := topS 102
theorem sc_ternary : FnScope ["name", "first", "second", "third", "action"] ["name", "first", "second", "third"] (defScope st_ternary) := ⟨rfl, rfl, rfl, by decide +kernel, rfl, by decide +kernel, by decide +kernel⟩
def b_ternary : SM := zDeed 4 tab_TERNARY_DEEDS (zVar 0) (zCons (zVar 1) (zCons (zVar 2) (zCons (zVar 3) (zNil))))
def d_ternary : List D → Option FR := runP 5 4 b_ternary
set_option maxHeartbeats 4000000 in
theorem ok_ternary (h : DefAt K mg "ternary" st_ternary) (t_TERNARY_DEEDS : TabOk P w K mg base 0 "TERNARY_DEEDS" tab_TERNARY_DEEDS) : Cal P w K mg base 1 "ternary" (spP K d_ternary) := by
  obtain ⟨a, fd, h1, F⟩ := h
  exact ⟨a, fd, _, h1, F.kp, F.binds (ps := ["name", "first", "second", "third"]) fun _ _ _ _ _ _ us hl => match us, hl with | [_, _, _, _], _ => rfl, okP F sc_ternary fun cdv A outer s0 H E hr =>
    zss_deed (i := 4) t_TERNARY_DEEDS hr sc_ternary.nd rfl (Or.inl rfl) (Or.inl rfl) (ze_var rfl (pv 0)) (za_cons (ze_var rfl (pv 1)) (za_cons (ze_var rfl (pv 2)) (za_cons (ze_var rfl (pv 3)) (za_nil))))⟩
abbrev st_negated : Stmt := topS 43
theorem sc_negated : FnScope ["value"] ["value"] (defScope st_negated) := ⟨rfl, rfl, rfl, by decide +kernel, rfl, by decide +kernel, by decide +kernel⟩
def b_negated : SM := zSeq (zIfS 1 (zTst (zOp isD (zVar 0) (zC (.bl true)))) (zRet (zC (.bl false))) (zNx)) (zSeq (zIfS 1 (zTst (zOp isD (zVar 0) (zC (.bl false)))) (zRet (zC (.bl true))) (zNx)) (zRet (zC .non)))
def d_negated : List D → Option FR := runP 1 1 b_negated
set_option maxHeartbeats 4000000 in
theorem ok_negated (h : DefAt K mg "negated" st_negated) : Cal P w K mg base 1 "negated" (spP K d_negated) := by
  obtain ⟨a, fd, h1, F⟩ := h
  exact ⟨a, fd, _, h1, F.kp, F.binds (ps := ["value"]) fun _ _ _ _ _ _ us hl => match us, hl with | [_], _ => rfl, okP F sc_negated fun cdv A outer s0 H E hr =>
    zss_cons (zs_if (zt_cmp o_is s_is (ze_var rfl (pv 0)) (ze_bl) (nomark _)) (zss_one (zs_ret (ze_bl))) (zss_nil)) (zss_cons (zs_if (zt_cmp o_is s_is (ze_var rfl (pv 0)) (ze_bl) (nomark _)) (zss_one (zs_ret (ze_bl))) (zss_nil)) (zss_one (zs_ret (ze_non))))⟩
abbrev st_is_integer : Stmt := topS 11
theorem sc_is_integer : FnScope ["value"] ["value"] (defScope st_is_integer) := ⟨rfl, rfl, rfl, by decide +kernel, rfl, by decide +kernel, by decide +kernel⟩
def b_is_integer : SM := zRet (zAndV (zCallS isiD (zCons (zVar 0) (zCons (zC (.raw (.ty "int"))) (zNil)))) (zNotV (zCallS isiD (zCons (zVar 0) (zCons (zC (.raw (.ty "bool"))) (zNil))))))
def d_is_integer : List D → Option FR := runP 1 1 b_is_integer
set_option maxHeartbeats 4000000 in
theorem ok_is_integer (h : DefAt K mg "is_integer" st_is_integer) (m_bool : mg "bool" = none) (m_int : mg "int" = none) (m_isinstance : mg "isinstance" = none) : Cal P w K mg base 1 "is_integer" (spP K d_is_integer) := by
  obtain ⟨a, fd, h1, F⟩ := h
  exact ⟨a, fd, _, h1, F.kp, F.binds (ps := ["value"]) fun _ _ _ _ _ _ us hl => match us, hl with | [_], _ => rfl, okP F sc_is_integer fun cdv A outer s0 H E hr =>
    zss_one (zs_ret (ze_and (ze_callB call_isiU s_isi (by rfl) m_isinstance (by decide +kernel) (za_cons (ze_var rfl (pv 0)) (za_cons (ze_bltn (by rfl) m_int (by decide +kernel) rfl) (za_nil)))) (ze_one (ze_not (ze_callB call_isiU s_isi (by rfl) m_isinstance (by decide +kernel) (za_cons (ze_var rfl (pv 0)) (za_cons (ze_bltn (by rfl) m_bool (by decide +kernel) rfl) (za_nil))))))))⟩
abbrev st_negate : Stmt := topS 47
theorem sc_negate : FnScope ["value"] ["value"] (defScope st_negate) := ⟨rfl, rfl, rfl, by decide +kernel, rfl, by decide +kernel, by decide +kernel⟩
def b_negate : SM := zRet (zIf (zTru (zCall d_is_integer (zCons (zVar 0) (zNil)))) (zUn negD (zVar 0)) (zC .non))
def d_negate : List D → Option FR := runP 1 1 b_negate
set_option maxHeartbeats 4000000 in
theorem ok_negate (h : DefAt K mg "negate" st_negate) (c_is_integer : Cal P w K mg base 1 "is_integer" (spP K d_is_integer)) : Cal P w K mg base 2 "negate" (spP K d_negate) := by
  obtain ⟨a, fd, h1, F⟩ := h
  exact ⟨a, fd, _, h1, F.kp, F.binds (ps := ["value"]) fun _ _ _ _ _ _ us hl => match us, hl with | [_], _ => rfl, okP F sc_negate fun cdv A outer s0 H E hr =>
    zss_one (zs_ret (ze_if (zt_truth (ze_call (c_is_integer.mono (by decide)) hr (za_cons (ze_var rfl (pv 0)) (za_nil)))) (ze_un un_neg s_neg (ze_var rfl (pv 0))) (ze_non)))⟩
abbrev st_is_null : Stmt := topS 89
theorem sc_is_null : FnScope ["value"] ["value"] (defScope st_is_null) := ⟨rfl, rfl, rfl, by decide +kernel, rfl, by decide +kernel, by decide +kernel⟩
def b_is_null : SM := zRet (zOp isD (zVar 0) (zC .non))
def d_is_null : List D → Option FR := runP 1 1 b_is_null
set_option maxHeartbeats 4000000 in
theorem ok_is_null (h : DefAt K mg "is_null" st_is_null) : Cal P w K mg base 1 "is_null" (spP K d_is_null) := by
  obtain ⟨a, fd, h1, F⟩ := h
  exact ⟨a, fd, _, h1, F.kp, F.binds (ps := ["value"]) fun _ _ _ _ _ _ us hl => match us, hl with | [_], _ => rfl, okP F sc_is_null fun cdv A outer s0 H E hr =>
    zss_one (zs_ret (ze_cmp o_is s_is (ze_var rfl (pv 0)) (ze_non) (nomark _)))⟩
abbrev st_length : Stmt := topS 78
theorem sc_length : FnScope ["value"] ["value"] (defScope st_length) := ⟨rfl, rfl, rfl, by decide +kernel, rfl, by decide +kernel, by decide +kernel⟩
def b_length : SM := zRet (zIf (zTru (zCallS isiD (zCons (zVar 0) (zCons (zC (.raw (.ty "str"))) (zNil))))) (zCallS lenD (zCons (zVar 0) (zNil))) (zC .non))
def d_length : List D → Option FR := runP 1 1 b_length
set_option maxHeartbeats 4000000 in
theorem ok_length (h : DefAt K mg "length" st_length) (m_isinstance : mg "isinstance" = none) (m_len : mg "len" = none) (m_str : mg "str" = none) : Cal P w K mg base 1 "length" (spP K d_length) := by
  obtain ⟨a, fd, h1, F⟩ := h
  exact ⟨a, fd, _, h1, F.kp, F.binds (ps := ["value"]) fun _ _ _ _ _ _ us hl => match us, hl with | [_], _ => rfl, okP F sc_length fun cdv A outer s0 H E hr =>
    zss_one (zs_ret (ze_if (zt_truth (ze_callB call_isiU s_isi (by rfl) m_isinstance (by decide +kernel) (za_cons (ze_var rfl (pv 0)) (za_cons (ze_bltn (by rfl) m_str (by decide +kernel) rfl) (za_nil))))) (ze_callB call_len s_len (by rfl) m_len PySem.boot_len (za_cons (ze_var rfl (pv 0)) (za_nil))) (ze_non)))⟩
def tab_UNARY_DEEDS : Tab := [([110, 111, 116], d_negated), ([110, 101, 103, 97, 116, 101], d_negate), ([105, 115, 32, 110, 117, 108, 108], d_is_null), ([108, 101, 110, 103, 116, 104], d_length)]
abbrev st_unary : Stmt := topS 100
theorem sc_unary : FnScope ["name", "value", "action"] ["name", "value"] (defScope st_unary) := ⟨rfl, rfl, rfl, by decide +kernel, rfl, by decide +kernel, by decide +kernel⟩
def b_unary : SM := zDeed 2 tab_UNARY_DEEDS (zVar 0) (zCons (zVar 1) (zNil))
def d_unary : List D → Option FR := runP 3 2 b_unary
set_option maxHeartbeats 4000000 in
theorem ok_unary (h : DefAt K mg "unary" st_unary) (t_UNARY_DEEDS : TabOk P w K mg base 2 "UNARY_DEEDS" tab_UNARY_DEEDS) : Cal P w K mg base 3 "unary" (spP K d_unary) := by
  obtain ⟨a, fd, h1, F⟩ := h
  exact ⟨a, fd, _, h1, F.kp, F.binds (ps := ["name", "value"]) fun _ _ _ _ _ _ us hl => match us, hl with | [_, _], _ => rfl, okP F sc_unary fun cdv A outer s0 H E hr =>
    zss_deed (i := 2) t_UNARY_DEEDS hr sc_unary.nd rfl (Or.inl rfl) (Or.inl rfl) (ze_var rfl (pv 0)) (za_cons (ze_var rfl (pv 1)) (za_nil))⟩
abbrev st_kind_rank : Stmt := topS 12
theorem sc_kind_rank : FnScope ["value"] ["value"] (defScope st_kind_rank) := ⟨rfl, rfl, rfl, by decide +kernel, rfl, by decide +kernel, by decide +kernel⟩
def b_kind_rank : SM := zSeq (zIfS 1 (zTst (zOp isD (zVar 0) (zC .non))) (zRet (zC (.int 0))) (zNx)) (zSeq (zIfS 1 (zTru (zCallS isiD (zCons (zVar 0) (zCons (zC (.raw (.ty "bool"))) (zNil))))) (zRet (zC (.int 1))) (zNx)) (zSeq (zIfS 1 (zTru (zCallS isiD (zCons (zVar 0) (zCons (zC (.raw (.ty "int"))) (zNil))))) (zRet (zC (.int 2))) (zNx)) (zRet (zC (.int 3)))))
def d_kind_rank : List D → Option FR := runP 1 1 b_kind_rank
set_option maxHeartbeats 4000000 in
theorem ok_kind_rank (h : DefAt K mg "kind_rank" st_kind_rank) (m_bool : mg "bool" = none) (m_int : mg "int" = none) (m_isinstance : mg "isinstance" = none) : Cal P w K mg base 1 "kind_rank" (spP K d_kind_rank) := by
  obtain ⟨a, fd, h1, F⟩ := h
  exact ⟨a, fd, _, h1, F.kp, F.binds (ps := ["value"]) fun _ _ _ _ _ _ us hl => match us, hl with | [_], _ => rfl, okP F sc_kind_rank fun cdv A outer s0 H E hr =>
    zss_cons (zs_if (zt_cmp o_is s_is (ze_var rfl (pv 0)) (ze_non) (nomark _)) (zss_one (zs_ret (ze_int))) (zss_nil)) (zss_cons (zs_if (zt_truth (ze_callB call_isiU s_isi (by rfl) m_isinstance (by decide +kernel) (za_cons (ze_var rfl (pv 0)) (za_cons (ze_bltn (by rfl) m_bool (by decide +kernel) rfl) (za_nil))))) (zss_one (zs_ret (ze_int))) (zss_nil)) (zss_cons (zs_if (zt_truth (ze_callB call_isiU s_isi (by rfl) m_isinstance (by decide +kernel) (za_cons (ze_var rfl (pv 0)) (za_cons (ze_bltn (by rfl) m_int (by decide +kernel) rfl) (za_nil))))) (zss_one (zs_ret (ze_int))) (zss_nil)) (zss_one (zs_ret (ze_int)))))⟩
abbrev st_comparable : Stmt := topS 90
theorem sc_comparable : FnScope ["first", "second"] ["first", "second"] (defScope st_comparable) := ⟨rfl, rfl, rfl, by decide +kernel, rfl, by decide +kernel, by decide +kernel⟩
def b_comparable : SM := zRet (zAndV (zOp eqD (zCall d_kind_rank (zCons (zVar 0) (zNil))) (zCall d_kind_rank (zCons (zVar 1) (zNil)))) (zOp isntD (zVar 0) (zC .non)))
def d_comparable : List D → Option FR := runP 2 2 b_comparable
set_option maxHeartbeats 4000000 in
theorem ok_comparable (h : DefAt K mg "comparable" st_comparable) (c_kind_rank : Cal P w K mg base 1 "kind_rank" (spP K d_kind_rank)) : Cal P w K mg base 2 "comparable" (spP K d_comparable) := by
  obtain ⟨a, fd, h1, F⟩ := h
  exact ⟨a, fd, _, h1, F.kp, F.binds (ps := ["first", "second"]) fun _ _ _ _ _ _ us hl => match us, hl with | [_, _], _ => rfl, okP F sc_comparable fun cdv A outer s0 H E hr =>
    zss_one (zs_ret (ze_and (ze_cmp (o_eq hr) s_eq (ze_call (c_kind_rank.mono (by decide)) hr (za_cons (ze_var rfl (pv 0)) (za_nil))) (ze_call (c_kind_rank.mono (by decide)) hr (za_cons (ze_var rfl (pv 1)) (za_nil))) (nomark _)) (ze_one (ze_cmp o_isnt s_isnt (ze_var rfl (pv 0)) (ze_non) (nomark _)))))⟩
abbrev st_rank : Stmt := topS 13
theorem sc_rank : FnScope ["value"] ["value"] (defScope st_rank) := ⟨rfl, rfl, rfl, by decide +kernel, rfl, by decide +kernel, by decide +kernel⟩
def b_rank : SM := zSeq (zIfS 1 (zTst (zOp isD (zVar 0) (zC .non))) (zRet (zTup (zCons (zC (.int 0)) (zCons (zC (.int 0)) (zNil))))) (zNx)) (zSeq (zIfS 1 (zTru (zCallS isiD (zCons (zVar 0) (zCons (zC (.raw (.ty "bool"))) (zNil))))) (zRet (zTup (zCons (zC (.int 1)) (zCons (zCallS intU (zCons (zVar 0) (zNil))) (zNil))))) (zNx)) (zSeq (zIfS 1 (zTru (zCallS isiD (zCons (zVar 0) (zCons (zC (.raw (.ty "int"))) (zNil))))) (zRet (zTup (zCons (zC (.int 2)) (zCons (zVar 0) (zNil))))) (zNx)) (zRet (zTup (zCons (zC (.int 3)) (zCons (zVar 0) (zNil)))))))
def d_rank : List D → Option FR := runP 1 1 b_rank
set_option maxHeartbeats 4000000 in
theorem ok_rank (h : DefAt K mg "rank" st_rank) (m_bool : mg "bool" = none) (m_int : mg "int" = none) (m_isinstance : mg "isinstance" = none) : Cal P w K mg base 1 "rank" (spP K d_rank) := by
  obtain ⟨a, fd, h1, F⟩ := h
  exact ⟨a, fd, _, h1, F.kp, F.binds (ps := ["value"]) fun _ _ _ _ _ _ us hl => match us, hl with | [_], _ => rfl, okP F sc_rank fun cdv A outer s0 H E hr =>
    zss_cons (zs_if (zt_cmp o_is s_is (ze_var rfl (pv 0)) (ze_non) (nomark _)) (zss_one (zs_ret (ze_tup (za_cons (ze_int) (za_cons (ze_int) (za_nil)))))) (zss_nil)) (zss_cons (zs_if (zt_truth (ze_callB call_isiU s_isi (by rfl) m_isinstance (by decide +kernel) (za_cons (ze_var rfl (pv 0)) (za_cons (ze_bltn (by rfl) m_bool (by decide +kernel) rfl) (za_nil))))) (zss_one (zs_ret (ze_tup (za_cons (ze_int) (za_cons (ze_callTy call_intU s_intU (by rfl) m_int (by decide +kernel) (za_cons (ze_var rfl (pv 0)) (za_nil))) (za_nil)))))) (zss_nil)) (zss_cons (zs_if (zt_truth (ze_callB call_isiU s_isi (by rfl) m_isinstance (by decide +kernel) (za_cons (ze_var rfl (pv 0)) (za_cons (ze_bltn (by rfl) m_int (by decide +kernel) rfl) (za_nil))))) (zss_one (zs_ret (ze_tup (za_cons (ze_int) (za_cons (ze_var rfl (pv 0)) (za_nil)))))) (zss_nil)) (zss_one (zs_ret (ze_tup (za_cons (ze_int) (za_cons (ze_var rfl (pv 0)) (za_nil))))))))⟩
abbrev st_same : Stmt := topS 15
theorem sc_same : FnScope ["first", "second"] ["first", "second"] (defScope st_same) := ⟨rfl, rfl, rfl, by decide +kernel, rfl, by decide +kernel, by decide +kernel⟩
def b_same : SM := zRet (zOp eqD (zCall d_rank (zCons (zVar 0) (zNil))) (zCall d_rank (zCons (zVar 1) (zNil))))
def d_same : List D → Option FR := runP 2 2 b_same
set_option maxHeartbeats 4000000 in
theorem ok_same (h : DefAt K mg "same" st_same) (c_rank : Cal P w K mg base 1 "rank" (spP K d_rank)) : Cal P w K mg base 2 "same" (spP K d_same) := by
  obtain ⟨a, fd, h1, F⟩ := h
  exact ⟨a, fd, _, h1, F.kp, F.binds (ps := ["first", "second"]) fun _ _ _ _ _ _ us hl => match us, hl with | [_, _], _ => rfl, okP F sc_same fun cdv A outer s0 H E hr =>
    zss_one (zs_ret (ze_cmp (o_eq hr) s_eq (ze_call (c_rank.mono (by decide)) hr (za_cons (ze_var rfl (pv 0)) (za_nil))) (ze_call (c_rank.mono (by decide)) hr (za_cons (ze_var rfl (pv 1)) (za_nil))) (nomark _)))⟩
abbrev st_equal : Stmt := topS 91
theorem sc_equal : FnScope ["first", "second"] ["first", "second"] (defScope st_equal) := ⟨rfl, rfl, rfl, by decide +kernel, rfl, by decide +kernel, by decide +kernel⟩
def b_equal : SM := zRet (zIf (zTru (zCall d_comparable (zCons (zVar 0) (zCons (zVar 1) (zNil))))) (zCall d_same (zCons (zVar 0) (zCons (zVar 1) (zNil)))) (zC .non))
def d_equal : List D → Option FR := runP 2 2 b_equal
set_option maxHeartbeats 4000000 in
theorem ok_equal (h : DefAt K mg "equal" st_equal) (c_comparable : Cal P w K mg base 2 "comparable" (spP K d_comparable)) (c_same : Cal P w K mg base 2 "same" (spP K d_same)) : Cal P w K mg base 3 "equal" (spP K d_equal) := by
  obtain ⟨a, fd, h1, F⟩ := h
  exact ⟨a, fd, _, h1, F.kp, F.binds (ps := ["first", "second"]) fun _ _ _ _ _ _ us hl => match us, hl with | [_, _], _ => rfl, okP F sc_equal fun cdv A outer s0 H E hr =>
    zss_one (zs_ret (ze_if (zt_truth (ze_call (c_comparable.mono (by decide)) hr (za_cons (ze_var rfl (pv 0)) (za_cons (ze_var rfl (pv 1)) (za_nil))))) (ze_call (c_same.mono (by decide)) hr (za_cons (ze_var rfl (pv 0)) (za_cons (ze_var rfl (pv 1)) (za_nil)))) (ze_non)))⟩
abbrev st_before : Stmt := topS 16
theorem sc_before : FnScope ["first", "second"] ["first", "second"] (defScope st_before) := ⟨rfl, rfl, rfl, by decide +kernel, rfl, by decide +kernel, by decide +kernel⟩
def b_before : SM := zRet (zOp ltX (zCall d_rank (zCons (zVar 0) (zNil))) (zCall d_rank (zCons (zVar 1) (zNil))))
def d_before : List D → Option FR := runP 2 2 b_before
set_option maxHeartbeats 4000000 in
theorem ok_before (h : DefAt K mg "before" st_before) (c_rank : Cal P w K mg base 1 "rank" (spP K d_rank)) : Cal P w K mg base 2 "before" (spP K d_before) := by
  obtain ⟨a, fd, h1, F⟩ := h
  exact ⟨a, fd, _, h1, F.kp, F.binds (ps := ["first", "second"]) fun _ _ _ _ _ _ us hl => match us, hl with | [_, _], _ => rfl, okP F sc_before fun cdv A outer s0 H E hr =>
    zss_one (zs_ret (ze_cmp (o_ltX hr) s_ltX (ze_call (c_rank.mono (by decide)) hr (za_cons (ze_var rfl (pv 0)) (za_nil))) (ze_call (c_rank.mono (by decide)) hr (za_cons (ze_var rfl (pv 1)) (za_nil))) (nomark _)))⟩
abbrev st_less : Stmt := topS 92
theorem sc_less : FnScope ["first", "second"] ["first", "second"] (defScope st_less) := ⟨rfl, rfl, rfl, by decide +kernel, rfl, by decide +kernel, by decide +kernel⟩
def b_less : SM := zRet (zIf (zTru (zCall d_comparable (zCons (zVar 0) (zCons (zVar 1) (zNil))))) (zCall d_before (zCons (zVar 0) (zCons (zVar 1) (zNil)))) (zC .non))
def d_less : List D → Option FR := runP 2 2 b_less
set_option maxHeartbeats 4000000 in
theorem ok_less (h : DefAt K mg "less" st_less) (c_comparable : Cal P w K mg base 2 "comparable" (spP K d_comparable)) (c_before : Cal P w K mg base 2 "before" (spP K d_before)) : Cal P w K mg base 3 "less" (spP K d_less) := by
  obtain ⟨a, fd, h1, F⟩ := h
  exact ⟨a, fd, _, h1, F.kp, F.binds (ps := ["first", "second"]) fun _ _ _ _ _ _ us hl => match us, hl with | [_, _], _ => rfl, okP F sc_less fun cdv A outer s0 H E hr =>
    zss_one (zs_ret (ze_if (zt_truth (ze_call (c_comparable.mono (by decide)) hr (za_cons (ze_var rfl (pv 0)) (za_cons (ze_var rfl (pv 1)) (za_nil))))) (ze_call (c_before.mono (by decide)) hr (za_cons (ze_var rfl (pv 0)) (za_cons (ze_var rfl (pv 1)) (za_nil)))) (ze_non)))⟩
abbrev st_at_most : Stmt := topS 93
theorem sc_at_most : FnScope ["first", "second"] ["first", "second"] (defScope st_at_most) := ⟨rfl, rfl, rfl, by decide +kernel, rfl, by decide +kernel, by decide +kernel⟩
def b_at_most : SM := zRet (zIf (zTru (zCall d_comparable (zCons (zVar 0) (zCons (zVar 1) (zNil))))) (zNotV (zCall d_before (zCons (zVar 1) (zCons (zVar 0) (zNil))))) (zC .non))
def d_at_most : List D → Option FR := runP 2 2 b_at_most
set_option maxHeartbeats 4000000 in
theorem ok_at_most (h : DefAt K mg "at_most" st_at_most) (c_comparable : Cal P w K mg base 2 "comparable" (spP K d_comparable)) (c_before : Cal P w K mg base 2 "before" (spP K d_before)) : Cal P w K mg base 3 "at_most" (spP K d_at_most) := by
  obtain ⟨a, fd, h1, F⟩ := h
  exact ⟨a, fd, _, h1, F.kp, F.binds (ps := ["first", "second"]) fun _ _ _ _ _ _ us hl => match us, hl with | [_, _], _ => rfl, okP F sc_at_most fun cdv A outer s0 H E hr =>
    zss_one (zs_ret (ze_if (zt_truth (ze_call (c_comparable.mono (by decide)) hr (za_cons (ze_var rfl (pv 0)) (za_cons (ze_var rfl (pv 1)) (za_nil))))) (ze_not (ze_call (c_before.mono (by decide)) hr (za_cons (ze_var rfl (pv 1)) (za_cons (ze_var rfl (pv 0)) (za_nil))))) (ze_non)))⟩
abbrev st_least : Stmt := topS 94
theorem sc_least : FnScope ["first", "second"] ["first", "second"] (defScope st_least) := ⟨rfl, rfl, rfl, by decide +kernel, rfl, by decide +kernel, by decide +kernel⟩
def b_least : SM := zSeq (zIfS 2 (zNotT (zTru (zCall d_comparable (zCons (zVar 0) (zCons (zVar 1) (zNil)))))) (zRet (zC .non)) (zNx)) (zRet (zIf (zTru (zCall d_before (zCons (zVar 1) (zCons (zVar 0) (zNil))))) (zVar 1) (zVar 0)))
def d_least : List D → Option FR := runP 2 2 b_least
set_option maxHeartbeats 4000000 in
theorem ok_least (h : DefAt K mg "least" st_least) (c_comparable : Cal P w K mg base 2 "comparable" (spP K d_comparable)) (c_before : Cal P w K mg base 2 "before" (spP K d_before)) : Cal P w K mg base 3 "least" (spP K d_least) := by
  obtain ⟨a, fd, h1, F⟩ := h
  exact ⟨a, fd, _, h1, F.kp, F.binds (ps := ["first", "second"]) fun _ _ _ _ _ _ us hl => match us, hl with | [_, _], _ => rfl, okP F sc_least fun cdv A outer s0 H E hr =>
    zss_cons (zs_if (zt_not (zt_truth (ze_call (c_comparable.mono (by decide)) hr (za_cons (ze_var rfl (pv 0)) (za_cons (ze_var rfl (pv 1)) (za_nil)))))) (zss_one (zs_ret (ze_non))) (zss_nil)) (zss_one (zs_ret (ze_if (zt_truth (ze_call (c_before.mono (by decide)) hr (za_cons (ze_var rfl (pv 1)) (za_cons (ze_var rfl (pv 0)) (za_nil))))) (ze_var rfl (pv 1)) (ze_var rfl (pv 0)))))⟩
abbrev st_are_integers : Stmt := topS 57
theorem sc_are_integers : FnScope ["first", "second"] ["first", "second"] (defScope st_are_integers) := ⟨rfl, rfl, rfl, by decide +kernel, rfl, by decide +kernel, by decide +kernel⟩
def b_are_integers : SM := zRet (zAndV (zCall d_is_integer (zCons (zVar 0) (zNil))) (zCall d_is_integer (zCons (zVar 1) (zNil))))
def d_are_integers : List D → Option FR := runP 2 2 b_are_integers
set_option maxHeartbeats 4000000 in
theorem ok_are_integers (h : DefAt K mg "are_integers" st_are_integers) (c_is_integer : Cal P w K mg base 1 "is_integer" (spP K d_is_integer)) : Cal P w K mg base 2 "are_integers" (spP K d_are_integers) := by
  obtain ⟨a, fd, h1, F⟩ := h
  exact ⟨a, fd, _, h1, F.kp, F.binds (ps := ["first", "second"]) fun _ _ _ _ _ _ us hl => match us, hl with | [_, _], _ => rfl, okP F sc_are_integers fun cdv A outer s0 H E hr =>
    zss_one (zs_ret (ze_and (ze_call (c_is_integer.mono (by decide)) hr (za_cons (ze_var rfl (pv 0)) (za_nil))) (ze_one (ze_call (c_is_integer.mono (by decide)) hr (za_cons (ze_var rfl (pv 1)) (za_nil))))))⟩
abbrev st_limited : Stmt := topS 3
theorem sc_limited : FnScope ["number"] ["number"] (defScope st_limited) := ⟨rfl, rfl, rfl, by decide +kernel, rfl, by decide +kernel, by decide +kernel⟩
def b_limited : SM := zSeq (zIfS 1 (zTst (zChain leD leD (zUn negD (zC c_GREATEST)) (zVar 0) (zC c_GREATEST))) (zRet (zVar 0)) (zNx)) (zRet (zC .non))
def d_limited : List D → Option FR := runP 1 1 b_limited
set_option maxHeartbeats 4000000 in
theorem ok_limited (h : DefAt K mg "limited" st_limited) (hc_GREATEST : ConstD K mg "GREATEST" c_GREATEST) : Cal P w K mg base 1 "limited" (spP K d_limited) := by
  obtain ⟨a, fd, h1, F⟩ := h
  exact ⟨a, fd, _, h1, F.kp, F.binds (ps := ["number"]) fun _ _ _ _ _ _ us hl => match us, hl with | [_], _ => rfl, okP F sc_limited fun cdv A outer s0 H E hr =>
    zss_cons (zs_if (zt_chain o_le s_le o_le s_le (ze_un un_neg s_neg (ze_cd hc_GREATEST)) (ze_var rfl (pv 0)) (ze_cd hc_GREATEST)) (zss_one (zs_ret (ze_var rfl (pv 0)))) (zss_nil)) (zss_one (zs_ret (ze_non)))⟩
abbrev st_added : Stmt := topS 58
theorem sc_added : FnScope ["first", "second"] ["first", "second"] (defScope st_added) := ⟨rfl, rfl, rfl, by decide +kernel, rfl, by decide +kernel, by decide +kernel⟩
def b_added : SM := zRet (zIf (zTru (zCall d_are_integers (zCons (zVar 0) (zCons (zVar 1) (zNil))))) (zCall d_limited (zCons (zOp addS (zVar 0) (zVar 1)) (zNil))) (zC .non))
def d_added : List D → Option FR := runP 2 2 b_added
set_option maxHeartbeats 4000000 in
theorem ok_added (h : DefAt K mg "added" st_added) (c_are_integers : Cal P w K mg base 2 "are_integers" (spP K d_are_integers)) (c_limited : Cal P w K mg base 1 "limited" (spP K d_limited)) : Cal P w K mg base 3 "added" (spP K d_added) := by
  obtain ⟨a, fd, h1, F⟩ := h
  exact ⟨a, fd, _, h1, F.kp, F.binds (ps := ["first", "second"]) fun _ _ _ _ _ _ us hl => match us, hl with | [_, _], _ => rfl, okP F sc_added fun cdv A outer s0 H E hr =>
    zss_one (zs_ret (ze_if (zt_truth (ze_call (c_are_integers.mono (by decide)) hr (za_cons (ze_var rfl (pv 0)) (za_cons (ze_var rfl (pv 1)) (za_nil))))) (ze_call (c_limited.mono (by decide)) hr (za_cons (ze_op o_add s_add (ze_var rfl (pv 0)) (ze_var rfl (pv 1))) (za_nil))) (ze_non)))⟩
abbrev st_are_texts : Stmt := topS 80
theorem sc_are_texts : FnScope ["first", "second"] ["first", "second"] (defScope st_are_texts) := ⟨rfl, rfl, rfl, by decide +kernel, rfl, by decide +kernel, by decide +kernel⟩
def b_are_texts : SM := zRet (zAndV (zCallS isiD (zCons (zVar 0) (zCons (zC (.raw (.ty "str"))) (zNil)))) (zCallS isiD (zCons (zVar 1) (zCons (zC (.raw (.ty "str"))) (zNil)))))
def d_are_texts : List D → Option FR := runP 2 2 b_are_texts
set_option maxHeartbeats 4000000 in
theorem ok_are_texts (h : DefAt K mg "are_texts" st_are_texts) (m_isinstance : mg "isinstance" = none) (m_str : mg "str" = none) : Cal P w K mg base 1 "are_texts" (spP K d_are_texts) := by
  obtain ⟨a, fd, h1, F⟩ := h
  exact ⟨a, fd, _, h1, F.kp, F.binds (ps := ["first", "second"]) fun _ _ _ _ _ _ us hl => match us, hl with | [_, _], _ => rfl, okP F sc_are_texts fun cdv A outer s0 H E hr =>
    zss_one (zs_ret (ze_and (ze_callB call_isiU s_isi (by rfl) m_isinstance (by decide +kernel) (za_cons (ze_var rfl (pv 0)) (za_cons (ze_bltn (by rfl) m_str (by decide +kernel) rfl) (za_nil)))) (ze_one (ze_callB call_isiU s_isi (by rfl) m_isinstance (by decide +kernel) (za_cons (ze_var rfl (pv 1)) (za_cons (ze_bltn (by rfl) m_str (by decide +kernel) rfl) (za_nil)))))))⟩
abbrev st_joined : Stmt := topS 81
theorem sc_joined : FnScope ["first", "second"] ["first", "second"] (defScope st_joined) := ⟨rfl, rfl, rfl, by decide +kernel, rfl, by decide +kernel, by decide +kernel⟩
def b_joined : SM := zSeq (zIfS 2 (zOrT (zNotT (zTru (zCall d_are_texts (zCons (zVar 0) (zCons (zVar 1) (zNil)))))) (zTst (zOp gtD (zOp addS (zCallS lenD (zCons (zVar 0) (zNil))) (zCallS lenD (zCons (zVar 1) (zNil)))) (zC c_MOST)))) (zRet (zC .non)) (zNx)) (zRet (zOp addS (zVar 0) (zVar 1)))
def d_joined : List D → Option FR := runP 2 2 b_joined
set_option maxHeartbeats 4000000 in
theorem ok_joined (h : DefAt K mg "joined" st_joined) (m_len : mg "len" = none) (hc_MOST : ConstD K mg "MOST" c_MOST) (c_are_texts : Cal P w K mg base 1 "are_texts" (spP K d_are_texts)) : Cal P w K mg base 2 "joined" (spP K d_joined) := by
  obtain ⟨a, fd, h1, F⟩ := h
  exact ⟨a, fd, _, h1, F.kp, F.binds (ps := ["first", "second"]) fun _ _ _ _ _ _ us hl => match us, hl with | [_, _], _ => rfl, okP F sc_joined fun cdv A outer s0 H E hr =>
    zss_cons (zs_if (zt_w (zw_or (zt_not (zt_truth (ze_call (c_are_texts.mono (by decide)) hr (za_cons (ze_var rfl (pv 0)) (za_cons (ze_var rfl (pv 1)) (za_nil)))))) (zw_or1 (zt_cmp o_gt s_gt (ze_op o_add s_add (ze_callB call_len s_len (by rfl) m_len PySem.boot_len (za_cons (ze_var rfl (pv 0)) (za_nil))) (ze_callB call_len s_len (by rfl) m_len PySem.boot_len (za_cons (ze_var rfl (pv 1)) (za_nil)))) (ze_cd hc_MOST) (nomark _))))) (zss_one (zs_ret (ze_non))) (zss_nil)) (zss_one (zs_ret (ze_op o_add s_add (ze_var rfl (pv 0)) (ze_var rfl (pv 1)))))⟩
abbrev st_coalesce : Stmt := topS 96
theorem sc_coalesce : FnScope ["first", "second"] ["first", "second"] (defScope st_coalesce) := ⟨rfl, rfl, rfl, by decide +kernel, rfl, by decide +kernel, by decide +kernel⟩
def b_coalesce : SM := zRet (zIf (zTst (zOp isD (zVar 0) (zC .non))) (zVar 1) (zVar 0))
def d_coalesce : List D → Option FR := runP 2 2 b_coalesce
set_option maxHeartbeats 4000000 in
theorem ok_coalesce (h : DefAt K mg "coalesce" st_coalesce) : Cal P w K mg base 1 "coalesce" (spP K d_coalesce) := by
  obtain ⟨a, fd, h1, F⟩ := h
  exact ⟨a, fd, _, h1, F.kp, F.binds (ps := ["first", "second"]) fun _ _ _ _ _ _ us hl => match us, hl with | [_, _], _ => rfl, okP F sc_coalesce fun cdv A outer s0 H E hr =>
    zss_one (zs_ret (ze_if (zt_cmp o_is s_is (ze_var rfl (pv 0)) (ze_non) (nomark _)) (ze_var rfl (pv 1)) (ze_var rfl (pv 0))))⟩
def tab_BINARY_DEEDS : Tab := [([101, 113, 117, 97, 108], d_equal), ([108, 101, 115, 115], d_less), ([97, 116, 32, 109, 111, 115, 116], d_at_most), ([115, 97, 109, 101], d_same), ([108, 101, 97, 115, 116], d_least), ([97, 100, 100], d_added), ([106, 111, 105, 110], d_joined), ([99, 111, 97, 108, 101, 115, 99, 101], d_coalesce)]
abbrev st_binary : Stmt := topS 101
theorem sc_binary : FnScope ["name", "first", "second", "action"] ["name", "first", "second"] (defScope st_binary) := ⟨rfl, rfl, rfl, by decide +kernel, rfl, by decide +kernel, by decide +kernel⟩
def b_binary : SM := zDeed 3 tab_BINARY_DEEDS (zVar 0) (zCons (zVar 1) (zCons (zVar 2) (zNil)))
def d_binary : List D → Option FR := runP 4 3 b_binary
set_option maxHeartbeats 4000000 in
theorem ok_binary (h : DefAt K mg "binary" st_binary) (t_BINARY_DEEDS : TabOk P w K mg base 3 "BINARY_DEEDS" tab_BINARY_DEEDS) : Cal P w K mg base 4 "binary" (spP K d_binary) := by
  obtain ⟨a, fd, h1, F⟩ := h
  exact ⟨a, fd, _, h1, F.kp, F.binds (ps := ["name", "first", "second"]) fun _ _ _ _ _ _ us hl => match us, hl with | [_, _, _], _ => rfl, okP F sc_binary fun cdv A outer s0 H E hr =>
    zss_deed (i := 3) t_BINARY_DEEDS hr sc_binary.nd rfl (Or.inl rfl) (Or.inl rfl) (ze_var rfl (pv 0)) (za_cons (ze_var rfl (pv 1)) (za_cons (ze_var rfl (pv 2)) (za_nil)))⟩
abbrev st_evaluate : Stmt := topS 104
theorem sc_evaluate : FnScope ["expression", "row", "form", "values", "part"] ["expression", "row"] (defScope st_evaluate) := ⟨rfl, rfl, rfl, by decide +kernel, rfl, by decide +kernel, by decide +kernel⟩
def b_evaluate (F : List D → Option FR) : SM := zSeq (zSet 5 2 (zIx (zVar 0) (zC (.int 0)))) (zSeq (zIfS 5 (zTst (zOp eqD (zVar 2) (zC (.str [99, 111, 110, 115, 116, 97, 110, 116])))) (zRet (zIx (zVar 0) (zC (.int 1)))) (zNx)) (zSeq (zIfS 5 (zTst (zOp eqD (zVar 2) (zC (.str [99, 111, 108, 117, 109, 110])))) (zRet (zIf (zTst (zOp ltX (zIx (zVar 0) (zC (.int 1))) (zCallS lenD (zCons (zVar 1) (zNil))))) (zIx (zVar 1) (zIx (zVar 0) (zC (.int 1)))) (zC .non))) (zNx)) (zSeq (zIfS 5 (zTst (zOp eqD (zVar 2) (zC (.str [99, 104, 111, 105, 99, 101])))) (zSeq (zIfS 5 (zTst (zOp isD (zCall F (zCons (zIx (zVar 0) (zC (.int 1))) (zCons (zVar 1) (zNil)))) (zC (.bl true)))) (zRet (zCall F (zCons (zIx (zVar 0) (zC (.int 2))) (zCons (zVar 1) (zNil))))) (zNx)) (zRet (zCall F (zCons (zIx (zVar 0) (zC (.int 3))) (zCons (zVar 1) (zNil)))))) (zNx)) (zSeq (zSet 5 3 (zLc (ziT (zSl (zVar 0) (zoS (zC (.int 2))) (zoN))) (gN 4) (zYes) (zCall F (zCons (zVar 4) (zCons (zVar 1) (zNil)))) [4])) (zSeq (zIfS 5 (zTst (zOp eqD (zVar 2) (zC (.str [117, 110, 97, 114, 121])))) (zRet (zCall d_unary (zCons (zIx (zVar 0) (zC (.int 1))) (zCons (zIx (zVar 3) (zC (.int 0))) (zNil))))) (zNx)) (zSeq (zIfS 5 (zTst (zOp eqD (zVar 2) (zC (.str [98, 105, 110, 97, 114, 121])))) (zRet (zCall d_binary (zCons (zIx (zVar 0) (zC (.int 1))) (zCons (zIx (zVar 3) (zC (.int 0))) (zCons (zIx (zVar 3) (zC (.int 1))) (zNil)))))) (zNx)) (zRet (zCall d_ternary (zCons (zIx (zVar 0) (zC (.int 1))) (zCons (zIx (zVar 3) (zC (.int 0))) (zCons (zIx (zVar 3) (zC (.int 1))) (zCons (zIx (zVar 3) (zC (.int 2))) (zNil)))))))))))))
def d_evaluate : Nat → List D → Option FR
  | 0 => fun _ => none
  | q + 1 => runP 5 2 (b_evaluate (d_evaluate q))
set_option maxHeartbeats 4000000 in
theorem ok_evaluate (h : DefAt K mg "evaluate" st_evaluate) (m_len : mg "len" = none) (c_ternary : Cal P w K mg base 1 "ternary" (spP K d_ternary)) (c_unary : Cal P w K mg base 3 "unary" (spP K d_unary)) (c_binary : Cal P w K mg base 4 "binary" (spP K d_binary)) : ∀ q : Nat, Cal P w K mg base (5 + q) "evaluate" (spP K (d_evaluate q)) := by
  obtain ⟨a, fd, h1, F⟩ := h
  intro q
  induction q with
  | zero => exact ⟨a, fd, _, h1, F.kp, F.binds (ps := ["expression", "row"]) fun _ _ _ _ _ _ us hl => match us, hl with | [_, _], _ => rfl, okN⟩
  | succ q cR =>
    show Cal P w K mg base (5 + q + 1) "evaluate" (spP K (runP 5 2 (b_evaluate (d_evaluate q))))
    exact ⟨a, fd, _, h1, F.kp, F.binds (ps := ["expression", "row"]) fun _ _ _ _ _ _ us hl => match us, hl with | [_, _], _ => rfl, okP F sc_evaluate fun cdv A outer s0 H E hr =>
    zss_cons (zs_set (i := 2) sc_evaluate.nd rfl (Or.inl rfl) (ze_ix (ze_var rfl (pv 0)) (ze_int))) (zss_cons (zs_if (zt_cmp (o_eq hr) s_eq (ze_var rfl (pv 2)) (ze_str) (nomark _)) (zss_one (zs_ret (ze_ix (ze_var rfl (pv 0)) (ze_int)))) (zss_nil)) (zss_cons (zs_if (zt_cmp (o_eq hr) s_eq (ze_var rfl (pv 2)) (ze_str) (nomark _)) (zss_one (zs_ret (ze_if (zt_cmp (o_ltX hr) s_ltX (ze_ix (ze_var rfl (pv 0)) (ze_int)) (ze_callB call_len s_len (by rfl) m_len PySem.boot_len (za_cons (ze_var rfl (pv 1)) (za_nil))) (nomark _)) (ze_ix (ze_var rfl (pv 1)) (ze_ix (ze_var rfl (pv 0)) (ze_int))) (ze_non)))) (zss_nil)) (zss_cons (zs_if (zt_cmp (o_eq hr) s_eq (ze_var rfl (pv 2)) (ze_str) (nomark _)) (zss_cons (zs_if (zt_cmp o_is s_is (ze_call cR hr (za_cons (ze_ix (ze_var rfl (pv 0)) (ze_int)) (za_cons (ze_var rfl (pv 1)) (za_nil)))) (ze_bl) (nomark _)) (zss_one (zs_ret (ze_call cR hr (za_cons (ze_ix (ze_var rfl (pv 0)) (ze_int)) (za_cons (ze_var rfl (pv 1)) (za_nil)))))) (zss_nil)) (zss_one (zs_ret (ze_call cR hr (za_cons (ze_ix (ze_var rfl (pv 0)) (ze_int)) (za_cons (ze_var rfl (pv 1)) (za_nil))))))) (zss_nil)) (zss_cons (zs_setLc (i := 3) rfl rfl (sw_true rfl rfl rfl (by decide +kernel)) (own := [("part", 4)]) rfl sc_evaluate.nd (zi_tup (ze_sl (ze_var rfl (pv 0)) (zo_some (ze_int)) (zo_none))) (blkOk_by (N := ["expression", "row", "form", "values", "part"]) (own := [("part", 4)]) (sc := defScope st_evaluate) (by decide +kernel)) (fun _ _ _ _ _ => zgw_name (i := 4) sc_evaluate.nd rfl (Or.inl rfl) (by decide)) (fun _ _ _ _ _ => zts_nil) (fun _ _ _ _ _ => ze_call cR hr (za_cons (ze_var rfl (pv 4)) (za_cons (ze_var rfl (pv 1)) (za_nil))))) (zss_cons (zs_if (zt_cmp (o_eq hr) s_eq (ze_var rfl (pv 2)) (ze_str) (nomark _)) (zss_one (zs_ret (ze_call (c_unary.mono (by omega)) hr (za_cons (ze_ix (ze_var rfl (pv 0)) (ze_int)) (za_cons (ze_ix (ze_var rfl (pv 3)) (ze_int)) (za_nil)))))) (zss_nil)) (zss_cons (zs_if (zt_cmp (o_eq hr) s_eq (ze_var rfl (pv 2)) (ze_str) (nomark _)) (zss_one (zs_ret (ze_call (c_binary.mono (by omega)) hr (za_cons (ze_ix (ze_var rfl (pv 0)) (ze_int)) (za_cons (ze_ix (ze_var rfl (pv 3)) (ze_int)) (za_cons (ze_ix (ze_var rfl (pv 3)) (ze_int)) (za_nil))))))) (zss_nil)) (zss_one (zs_ret (ze_call (c_ternary.mono (by omega)) hr (za_cons (ze_ix (ze_var rfl (pv 0)) (ze_int)) (za_cons (ze_ix (ze_var rfl (pv 3)) (ze_int)) (za_cons (ze_ix (ze_var rfl (pv 3)) (ze_int)) (za_cons (ze_ix (ze_var rfl (pv 3)) (ze_int)) (za_nil))))))))))))))⟩
abbrev st_evaluate_all : Stmt := topS 105
theorem sc_evaluate_all : FnScope ["expressions", "row", "expression"] ["expressions", "row"] (defScope st_evaluate_all) := ⟨rfl, rfl, rfl, by decide +kernel, rfl, by decide +kernel, by decide +kernel⟩
def b_evaluate_all : SM := zRet (zLc (ziU 3 (zVar 0)) (gN 2) (zYes) (zCall (d_evaluate 40) (zCons (zVar 2) (zCons (zVar 1) (zNil)))) [2])
def d_evaluate_all : List D → Option FR := runP 3 2 b_evaluate_all
set_option maxHeartbeats 4000000 in
theorem ok_evaluate_all (h : DefAt K mg "evaluate_all" st_evaluate_all) (c_evaluate : Cal P w K mg base 45 "evaluate" (spP K (d_evaluate 40))) : Cal P w K mg base 46 "evaluate_all" (spP K d_evaluate_all) := by
  obtain ⟨a, fd, h1, F⟩ := h
  exact ⟨a, fd, _, h1, F.kp, F.binds (ps := ["expressions", "row"]) fun _ _ _ _ _ _ us hl => match us, hl with | [_, _], _ => rfl, okP F sc_evaluate_all fun cdv A outer s0 H E hr =>
    zss_one (zs_ret (ze_lc (own := [("expression", 2)]) rfl sc_evaluate_all.nd (zi_any (ze_var rfl (pv 0))) (blkOk_by (N := ["expressions", "row", "expression"]) (own := [("expression", 2)]) (sc := defScope st_evaluate_all) (by decide +kernel)) (fun _ _ _ _ _ => zgw_name (i := 2) sc_evaluate_all.nd rfl (Or.inl rfl) (by decide)) (fun _ _ _ _ _ => zts_nil) (fun _ _ _ _ _ => ze_call (c_evaluate.mono (by decide)) hr (za_cons (ze_var rfl (pv 2)) (za_cons (ze_var rfl (pv 1)) (za_nil))))))⟩
abbrev st_row_rank : Stmt := topS 14
theorem sc_row_rank : FnScope ["row", "value"] ["row"] (defScope st_row_rank) := ⟨rfl, rfl, rfl, by decide +kernel, rfl, by decide +kernel, by decide +kernel⟩
def b_row_rank : SM := zRet (z_tuple (zCons (zLc (ziL 2 (zVar 0)) (gN 1) (zYes) (zCall d_rank (zCons (zVar 1) (zNil))) [1]) (zNil)))
def d_row_rank : List D → Option FR := runP 2 1 b_row_rank
set_option maxHeartbeats 4000000 in
theorem ok_row_rank (h : DefAt K mg "row_rank" st_row_rank) (m_tuple : mg "tuple" = none) (c_rank : Cal P w K mg base 1 "rank" (spP K d_rank)) : Cal P w K mg base 2 "row_rank" (spP K d_row_rank) := by
  obtain ⟨a, fd, h1, F⟩ := h
  exact ⟨a, fd, _, h1, F.kp, F.binds (ps := ["row"]) fun _ _ _ _ _ _ us hl => match us, hl with | [_], _ => rfl, okP F sc_row_rank fun cdv A outer s0 H E hr =>
    zss_one (zs_ret (ze_tuple hr (by rfl) m_tuple (za_cons (ze_lc (own := [("value", 1)]) rfl sc_row_rank.nd (zi_list (ze_var rfl (pv 0))) (blkOk_by (N := ["row", "value"]) (own := [("value", 1)]) (sc := defScope st_row_rank) (by decide +kernel)) (fun _ _ _ _ _ => zgw_name (i := 1) sc_row_rank.nd rfl (Or.inl rfl) (by decide)) (fun _ _ _ _ _ => zts_nil) (fun _ _ _ _ _ => ze_call (c_rank.mono (by decide)) hr (za_cons (ze_var rfl (pv 1)) (za_nil)))) (za_nil))))⟩
abbrev st_grouped : Stmt := topS 115
theorem sc_grouped : FnScope ["keys", "rows", "places", "groups", "row", "found", "key"] ["keys", "rows"] (defScope st_grouped) := ⟨rfl, rfl, rfl, by decide +kernel, rfl, by decide +kernel, by decide +kernel⟩
def d_grouped : List D → Option FR := ZN.grpD d_evaluate_all d_row_rank
set_option maxHeartbeats 4000000 in
theorem ok_grouped (h : DefAt K mg "grouped" st_grouped) (m_len : mg "len" = none) (c_evaluate_all : Cal P w K mg base 46 "evaluate_all" (spP K d_evaluate_all)) (c_row_rank : Cal P w K mg base 2 "row_rank" (spP K d_row_rank)) : Cal P w K mg base 47 "grouped" (spP K d_grouped) := by
  obtain ⟨a, fd, h1, F⟩ := h
  exact ⟨a, fd, _, h1, F.kp, F.binds (ps := ["keys", "rows"]) fun _ _ _ _ _ _ us hl => match us, hl with | [_, _], _ => rfl, ZN.okGrp F sc_grouped rfl rfl fun cdv A outer s0 H E hr => by
    obtain ⟨fa, fd', ps', c1, c2, c3, c4⟩ := c_row_rank
    obtain ⟨ga, gd', qs', e1, e2, e3, e4⟩ := c_evaluate_all
    exact pss_cons (ps_set sc_grouped.nd rfl (Or.inl rfl) ZN.pe_ndnew) (pss_cons (ps_set sc_grouped.nd rfl (Or.inl rfl) (pe_lst pa_nil)) (pss_cons (ps_for PassesOwn.never rfl (pi_list (pv 1)) (pg_name sc_grouped.nd rfl (Or.inl rfl)) (pss_cons (ps_set sc_grouped.nd rfl (Or.inl rfl) (pe_call e4 (hr.mono (by decide)) (by rfl) e1 e2 e3 .nil pass0 (pa_cons (pv 0) (pa_cons (pv 4) pa_nil)))) (pss_cons (ps_set sc_grouped.nd rfl (Or.inl rfl) (pe_call c4 (hr.mono (by decide)) (by rfl) c1 c2 c3 .nil pass0 (pa_cons (pv 5) pa_nil))) (pss_cons (ps_if (pt_cmpR (ZN.or_ndnotin hr.units) (pv 6) (pv 2) (by rfl)) (pss_cons (ZN.ps_ndput hr.units (pv 2) (pv 6) (pe_callB call_len (by rfl) m_len (by decide +kernel) (pa_cons (pv 3) pa_nil))) (pss_one (ps_expr (pe_bm PySem.F.plainAttrs_list PySem.F.slot_list_append PySem.F.type_list_append mt_append (pv 3) (pa_cons (pe_tup (pa_cons (pv 5) (pa_cons (pe_lst pa_nil) pa_nil))) pa_nil))))) pss_nil) (pss_one (ps_expr (pe_bm PySem.F.plainAttrs_list PySem.F.slot_list_append PySem.F.type_list_append mt_append (pe_ix ix_seq (pe_ix ix_seq (pv 3) (ZN.pe_ndix hr.units (pv 2) (pv 6)) (fun _ _ => rfl)) pe_int (fun _ _ => rfl)) (pa_cons (pv 4) pa_nil)))))))) (pss_one (ps_ret (pv 3)))))⟩
abbrev st_summed : Stmt := topS 108
theorem sc_summed : FnScope ["values", "numbers", "value"] ["values"] (defScope st_summed) := ⟨rfl, rfl, rfl, by decide +kernel, rfl, by decide +kernel, by decide +kernel⟩
def b_summed : SM := zSeq (zSet 3 1 (zLc (ziL 3 (zVar 0)) (gN 2) (zTru (zCall d_is_integer (zCons (zVar 2) (zNil)))) (zVar 2) [2])) (zSeq (zIfS 3 (zTst (zOp eqD (zCallS lenD (zCons (zVar 1) (zNil))) (zC (.int 0)))) (zRet (zC .non)) (zNx)) (zRet (zCall d_limited (zCons (zCallS sumL (zCons (zVar 1) (zNil))) (zNil)))))
def d_summed : List D → Option FR := runP 3 1 b_summed
set_option maxHeartbeats 4000000 in
theorem ok_summed (h : DefAt K mg "summed" st_summed) (m_len : mg "len" = none) (m_sum : mg "sum" = none) (c_limited : Cal P w K mg base 1 "limited" (spP K d_limited)) (c_is_integer : Cal P w K mg base 1 "is_integer" (spP K d_is_integer)) : Cal P w K mg base 2 "summed" (spP K d_summed) := by
  obtain ⟨a, fd, h1, F⟩ := h
  exact ⟨a, fd, _, h1, F.kp, F.binds (ps := ["values"]) fun _ _ _ _ _ _ us hl => match us, hl with | [_], _ => rfl, okP F sc_summed fun cdv A outer s0 H E hr =>
    zss_cons (zs_setLc (i := 1) rfl rfl (sw_true rfl rfl rfl (by decide +kernel)) (own := [("value", 2)]) rfl sc_summed.nd (zi_list (ze_var rfl (pv 0))) (blkOk_by (N := ["values", "numbers", "value"]) (own := [("value", 2)]) (sc := defScope st_summed) (by decide +kernel)) (fun _ _ _ _ _ => zgw_name (i := 2) sc_summed.nd rfl (Or.inl rfl) (by decide)) (fun _ _ _ _ _ => zts_one (zt_truth (ze_call (c_is_integer.mono (by decide)) hr (za_cons (ze_var rfl (pv 2)) (za_nil))))) (fun _ _ _ _ _ => ze_var rfl (pv 2))) (zss_cons (zs_if (zt_cmp (o_eq hr) s_eq (ze_callB call_len s_len (by rfl) m_len PySem.boot_len (za_cons (ze_var rfl (pv 1)) (za_nil))) (ze_int) (nomark _)) (zss_one (zs_ret (ze_non))) (zss_nil)) (zss_one (zs_ret (ze_call (c_limited.mono (by decide)) hr (za_cons (ze_callB (cr_sum rfl) s_sumL (by rfl) m_sum (by decide +kernel) (za_cons (ze_var rfl (pv 1)) (za_nil))) (za_nil))))))⟩
abbrev st_rounded : Stmt := topS 4
theorem sc_rounded : FnScope ["number", "divisor", "size"] ["number", "divisor"] (defScope st_rounded) := ⟨rfl, rfl, rfl, by decide +kernel, rfl, by decide +kernel, by decide +kernel⟩
def b_rounded : SM := zSeq (zSet 3 2 (zOp divD (zOp addS (zOp mulD (zC (.int 2)) (zCallS absD (zCons (zVar 0) (zNil)))) (zCallS absD (zCons (zVar 1) (zNil)))) (zOp mulD (zC (.int 2)) (zCallS absD (zCons (zVar 1) (zNil)))))) (zSeq (zIfS 3 (zTst (zOp neqD (zOp ltX (zVar 0) (zC (.int 0))) (zOp ltX (zVar 1) (zC (.int 0))))) (zRet (zUn negD (zVar 2))) (zNx)) (zRet (zVar 2)))
def d_rounded : List D → Option FR := runP 3 2 b_rounded
set_option maxHeartbeats 4000000 in
theorem ok_rounded (h : DefAt K mg "rounded" st_rounded) (m_abs : mg "abs" = none) : Cal P w K mg base 1 "rounded" (spP K d_rounded) := by
  obtain ⟨a, fd, h1, F⟩ := h
  exact ⟨a, fd, _, h1, F.kp, F.binds (ps := ["number", "divisor"]) fun _ _ _ _ _ _ us hl => match us, hl with | [_, _], _ => rfl, okP F sc_rounded fun cdv A outer s0 H E hr =>
    zss_cons (zs_set (i := 2) sc_rounded.nd rfl (Or.inl rfl) (ze_op o_div s_div (ze_op o_add s_add (ze_op o_mul s_mul (ze_int) (ze_callB call_abs s_abs (by rfl) m_abs (by decide +kernel) (za_cons (ze_var rfl (pv 0)) (za_nil)))) (ze_callB call_abs s_abs (by rfl) m_abs (by decide +kernel) (za_cons (ze_var rfl (pv 1)) (za_nil)))) (ze_op o_mul s_mul (ze_int) (ze_callB call_abs s_abs (by rfl) m_abs (by decide +kernel) (za_cons (ze_var rfl (pv 1)) (za_nil)))))) (zss_cons (zs_if (zt_cmp (o_ne hr) s_ne (ze_cmp (o_ltX hr) s_ltX (ze_var rfl (pv 0)) (ze_int) (nomark _)) (ze_cmp (o_ltX hr) s_ltX (ze_var rfl (pv 1)) (ze_int) (nomark _)) (nomark _)) (zss_one (zs_ret (ze_un un_neg s_neg (ze_var rfl (pv 2))))) (zss_nil)) (zss_one (zs_ret (ze_var rfl (pv 2)))))⟩
abbrev st_average : Stmt := topS 109
theorem sc_average : FnScope ["values", "scale", "numbers", "value"] ["values", "scale"] (defScope st_average) := ⟨rfl, rfl, rfl, by decide +kernel, rfl, by decide +kernel, by decide +kernel⟩
def b_average : SM := zSeq (zSet 4 2 (zLc (ziL 4 (zVar 0)) (gN 3) (zTru (zCall d_is_integer (zCons (zVar 3) (zNil)))) (zVar 3) [3])) (zSeq (zIfS 4 (zTst (zOp eqD (zCallS lenD (zCons (zVar 2) (zNil))) (zC (.int 0)))) (zRet (zC .non)) (zNx)) (zRet (zCall d_limited (zCons (zCall d_rounded (zCons (zOp mulD (zVar 1) (zCallS sumL (zCons (zVar 2) (zNil)))) (zCons (zCallS lenD (zCons (zVar 2) (zNil))) (zNil)))) (zNil)))))
def d_average : List D → Option FR := runP 4 2 b_average
set_option maxHeartbeats 4000000 in
theorem ok_average (h : DefAt K mg "average" st_average) (m_len : mg "len" = none) (m_sum : mg "sum" = none) (c_limited : Cal P w K mg base 1 "limited" (spP K d_limited)) (c_rounded : Cal P w K mg base 1 "rounded" (spP K d_rounded)) (c_is_integer : Cal P w K mg base 1 "is_integer" (spP K d_is_integer)) : Cal P w K mg base 2 "average" (spP K d_average) := by
  obtain ⟨a, fd, h1, F⟩ := h
  exact ⟨a, fd, _, h1, F.kp, F.binds (ps := ["values", "scale"]) fun _ _ _ _ _ _ us hl => match us, hl with | [_, _], _ => rfl, okP F sc_average fun cdv A outer s0 H E hr =>
    zss_cons (zs_setLc (i := 2) rfl rfl (sw_true rfl rfl rfl (by decide +kernel)) (own := [("value", 3)]) rfl sc_average.nd (zi_list (ze_var rfl (pv 0))) (blkOk_by (N := ["values", "scale", "numbers", "value"]) (own := [("value", 3)]) (sc := defScope st_average) (by decide +kernel)) (fun _ _ _ _ _ => zgw_name (i := 3) sc_average.nd rfl (Or.inl rfl) (by decide)) (fun _ _ _ _ _ => zts_one (zt_truth (ze_call (c_is_integer.mono (by decide)) hr (za_cons (ze_var rfl (pv 3)) (za_nil))))) (fun _ _ _ _ _ => ze_var rfl (pv 3))) (zss_cons (zs_if (zt_cmp (o_eq hr) s_eq (ze_callB call_len s_len (by rfl) m_len PySem.boot_len (za_cons (ze_var rfl (pv 2)) (za_nil))) (ze_int) (nomark _)) (zss_one (zs_ret (ze_non))) (zss_nil)) (zss_one (zs_ret (ze_call (c_limited.mono (by decide)) hr (za_cons (ze_call (c_rounded.mono (by decide)) hr (za_cons (ze_op o_mul s_mul (ze_var rfl (pv 1)) (ze_callB (cr_sum rfl) s_sumL (by rfl) m_sum (by decide +kernel) (za_cons (ze_var rfl (pv 2)) (za_nil)))) (za_cons (ze_callB call_len s_len (by rfl) m_len PySem.boot_len (za_cons (ze_var rfl (pv 2)) (za_nil))) (za_nil)))) (za_nil))))))⟩
abbrev st_listed : Stmt := topS 111
theorem sc_listed : FnScope ["values", "words", "value", "word"] ["values"] (defScope st_listed) := ⟨rfl, rfl, rfl, by decide +kernel, rfl, by decide +kernel, by decide +kernel⟩
def b_listed : SM := zSeq (zSet 4 1 (zSortS (zLc (ziL 4 (zVar 0)) (gN 2) (zTru (zCallS isiD (zCons (zVar 2) (zCons (zC (.raw (.ty "str"))) (zNil))))) (zVar 2) [2]))) (zSeq (zIfS 4 (zTst (zOp eqD (zCallS lenD (zCons (zVar 1) (zNil))) (zC (.int 0)))) (zRet (zC .non)) (zNx)) (zSeq (zIfS 4 (zTst (zOp gtD (zOp addS (zCallS sumL (zCons (zLc (ziL 4 (zVar 1)) (gN 3) (zYes) (zCallS lenD (zCons (zVar 3) (zNil))) [3]) (zNil))) (zOp mulD (zC (.int 2)) (zOp subD (zCallS lenD (zCons (zVar 1) (zNil))) (zC (.int 1))))) (zC c_MOST))) (zRet (zC .non)) (zNx)) (zRet (zMt "str" joinD (zC (.str [44, 32])) (zCons (zVar 1) (zNil))))))
def d_listed : List D → Option FR := runP 4 1 b_listed
set_option maxHeartbeats 4000000 in
theorem ok_listed (h : DefAt K mg "listed" st_listed) (m_isinstance : mg "isinstance" = none) (m_len : mg "len" = none) (m_sorted : mg "sorted" = none) (m_str : mg "str" = none) (m_sum : mg "sum" = none) (hc_MOST : ConstD K mg "MOST" c_MOST) : Cal P w K mg base 1 "listed" (spP K d_listed) := by
  obtain ⟨a, fd, h1, F⟩ := h
  exact ⟨a, fd, _, h1, F.kp, F.binds (ps := ["values"]) fun _ _ _ _ _ _ us hl => match us, hl with | [_], _ => rfl, okP F sc_listed fun cdv A outer s0 H E hr =>
    zss_cons (zs_set (i := 1) sc_listed.nd rfl (Or.inl rfl) (ze_sortS (by rfl) m_sorted (ze_lc (own := [("value", 2)]) rfl sc_listed.nd (zi_list (ze_var rfl (pv 0))) (blkOk_by (N := ["values", "words", "value", "word"]) (own := [("value", 2)]) (sc := defScope st_listed) (by decide +kernel)) (fun _ _ _ _ _ => zgw_name (i := 2) sc_listed.nd rfl (Or.inl rfl) (by decide)) (fun _ _ _ _ _ => zts_one (zt_truth (ze_callB call_isiU s_isi (by rfl) m_isinstance (by decide +kernel) (za_cons (ze_var rfl (pv 2)) (za_cons (ze_bltn (by rfl) m_str (by decide +kernel) rfl) (za_nil)))))) (fun _ _ _ _ _ => ze_var rfl (pv 2))))) (zss_cons (zs_if (zt_cmp (o_eq hr) s_eq (ze_callB call_len s_len (by rfl) m_len PySem.boot_len (za_cons (ze_var rfl (pv 1)) (za_nil))) (ze_int) (nomark _)) (zss_one (zs_ret (ze_non))) (zss_nil)) (zss_cons (zs_if (zt_cmp o_gt s_gt (ze_op o_add s_add (ze_callB (cr_sum rfl) s_sumL (by rfl) m_sum (by decide +kernel) (za_cons (ze_lc (own := [("word", 3)]) rfl sc_listed.nd (zi_list (ze_var rfl (pv 1))) (blkOk_by (N := ["values", "words", "value", "word"]) (own := [("word", 3)]) (sc := defScope st_listed) (by decide +kernel)) (fun _ _ _ _ _ => zgw_name (i := 3) sc_listed.nd rfl (Or.inl rfl) (by decide)) (fun _ _ _ _ _ => zts_nil) (fun _ _ _ _ _ => ze_callB call_len s_len (by rfl) m_len PySem.boot_len (za_cons (ze_var rfl (pv 3)) (za_nil)))) (za_nil))) (ze_op o_mul s_mul (ze_int) (ze_op op_sub s_sub (ze_callB call_len s_len (by rfl) m_len PySem.boot_len (za_cons (ze_var rfl (pv 1)) (za_nil))) (ze_int)))) (ze_cd hc_MOST) (nomark _)) (zss_one (zs_ret (ze_non))) (zss_nil)) (zss_one (zs_ret (ze_mt PySem.F.plainAttrs_str PySem.F.slot_str_join PySem.F.type_str_join mt_join s_join (ze_str) (za_cons (ze_var rfl (pv 1)) (za_nil)))))))⟩
abbrev st_truths : Stmt := topS 110
theorem sc_truths : FnScope ["values", "value"] ["values"] (defScope st_truths) := ⟨rfl, rfl, rfl, by decide +kernel, rfl, by decide +kernel, by decide +kernel⟩
def b_truths : SM := zRet (zLc (ziL 2 (zVar 0)) (gN 1) (zTru (zCallS isiD (zCons (zVar 1) (zCons (zC (.raw (.ty "bool"))) (zNil))))) (zVar 1) [1])
def d_truths : List D → Option FR := runP 2 1 b_truths
set_option maxHeartbeats 4000000 in
theorem ok_truths (h : DefAt K mg "truths" st_truths) (m_bool : mg "bool" = none) (m_isinstance : mg "isinstance" = none) : Cal P w K mg base 1 "truths" (spP K d_truths) := by
  obtain ⟨a, fd, h1, F⟩ := h
  exact ⟨a, fd, _, h1, F.kp, F.binds (ps := ["values"]) fun _ _ _ _ _ _ us hl => match us, hl with | [_], _ => rfl, okP F sc_truths fun cdv A outer s0 H E hr =>
    zss_one (zs_ret (ze_lc (own := [("value", 1)]) rfl sc_truths.nd (zi_list (ze_var rfl (pv 0))) (blkOk_by (N := ["values", "value"]) (own := [("value", 1)]) (sc := defScope st_truths) (by decide +kernel)) (fun _ _ _ _ _ => zgw_name (i := 1) sc_truths.nd rfl (Or.inl rfl) (by decide)) (fun _ _ _ _ _ => zts_one (zt_truth (ze_callB call_isiU s_isi (by rfl) m_isinstance (by decide +kernel) (za_cons (ze_var rfl (pv 1)) (za_cons (ze_bltn (by rfl) m_bool (by decide +kernel) rfl) (za_nil)))))) (fun _ _ _ _ _ => ze_var rfl (pv 1))))⟩
abbrev st_over_values : Stmt := topS 112
theorem sc_over_values : FnScope ["name", "values", "ordered", "found", "value"] ["name", "values"] (defScope st_over_values) := ⟨rfl, rfl, rfl, by decide +kernel, rfl, by decide +kernel, by decide +kernel⟩
def b_over_values : SM := zSeq (zIfS 5 (zTst (zOp eqD (zVar 0) (zC (.str [99, 111, 117, 110, 116])))) (zRet (zCallS lenD (zCons (zVar 1) (zNil)))) (zNx)) (zSeq (zIfS 5 (zTst (zOp eqD (zVar 0) (zC (.str [100, 105, 115, 116, 105, 110, 99, 116])))) (zRet (zLenSet (zLc (ziL 5 (zVar 1)) (gN 4) (zYes) (zCall d_rank (zCons (zVar 4) (zNil))) [4]))) (zNx)) (zSeq (zIfS 5 (zTst (zOp eqD (zVar 0) (zC (.str [115, 117, 109])))) (zRet (zCall d_summed (zCons (zVar 1) (zNil)))) (zNx)) (zSeq (zIfS 5 (zTst (zOp eqD (zVar 0) (zC (.str [97, 118, 101, 114, 97, 103, 101])))) (zRet (zCall d_average (zCons (zVar 1) (zCons (zC c_ONE) (zNil))))) (zNx)) (zSeq (zIfS 5 (zTst (zOp eqD (zVar 0) (zC (.str [97, 118, 101, 114, 97, 103, 101, 32, 100, 101, 99, 105, 109, 97, 108])))) (zRet (zCall d_average (zCons (zVar 1) (zCons (zC (.int 1)) (zNil))))) (zNx)) (zSeq (zIfS 5 (zTst (zOp eqD (zVar 0) (zC (.str [108, 105, 115, 116])))) (zRet (zCall d_listed (zCons (zVar 1) (zNil)))) (zNx)) (zSeq (zIfS 5 (zTst (zOp inD (zVar 0) (zTup (zCons (zC (.str [101, 118, 101, 114, 121])) (zCons (zC (.str [115, 111, 109, 101])) (zNil)))))) (zSeq (zSet 5 3 (zCall d_truths (zCons (zVar 1) (zNil)))) (zSeq (zIfS 5 (zTst (zOp eqD (zCallS lenD (zCons (zVar 3) (zNil))) (zC (.int 0)))) (zRet (zC .non)) (zNx)) (zRet (zIf (zTst (zOp eqD (zVar 0) (zC (.str [101, 118, 101, 114, 121])))) (zCallS allL (zCons (zVar 3) (zNil))) (zCallS anyL (zCons (zVar 3) (zNil))))))) (zNx)) (zSeq (zIfS 5 (zTst (zOp eqD (zCallS lenD (zCons (zVar 1) (zNil))) (zC (.int 0)))) (zRet (zC .non)) (zNx)) (zSeq (zSet 5 2 (zSortK d_rank false (zVar 1))) (zRet (zIf (zTst (zOp eqD (zVar 0) (zC (.str [109, 105, 110])))) (zIx (zVar 2) (zC (.int 0))) (zIx (zVar 2) (zUn negD (zC (.int 1))))))))))))))
def d_over_values : List D → Option FR := runP 5 2 b_over_values
set_option maxHeartbeats 4000000 in
theorem ok_over_values (h : DefAt K mg "over_values" st_over_values) (m_all : mg "all" = none) (m_any : mg "any" = none) (m_len : mg "len" = none) (m_set : mg "set" = none) (m_sorted : mg "sorted" = none) (hc_ONE : ConstD K mg "ONE" c_ONE) (c_summed : Cal P w K mg base 2 "summed" (spP K d_summed)) (c_average : Cal P w K mg base 2 "average" (spP K d_average)) (c_listed : Cal P w K mg base 1 "listed" (spP K d_listed)) (c_truths : Cal P w K mg base 1 "truths" (spP K d_truths)) (c_rank : Cal P w K mg base 1 "rank" (spP K d_rank)) : Cal P w K mg base 4 "over_values" (spP K d_over_values) := by
  obtain ⟨a, fd, h1, F⟩ := h
  exact ⟨a, fd, _, h1, F.kp, F.binds (ps := ["name", "values"]) fun _ _ _ _ _ _ us hl => match us, hl with | [_, _], _ => rfl, okP F sc_over_values fun cdv A outer s0 H E hr =>
    zss_cons (zs_if (zt_cmp (o_eq hr) s_eq (ze_var rfl (pv 0)) (ze_str) (nomark _)) (zss_one (zs_ret (ze_callB call_len s_len (by rfl) m_len PySem.boot_len (za_cons (ze_var rfl (pv 1)) (za_nil))))) (zss_nil)) (zss_cons (zs_if (zt_cmp (o_eq hr) s_eq (ze_var rfl (pv 0)) (ze_str) (nomark _)) (zss_one (zs_ret (ze_lenSet hr rfl (by rfl) m_len (by rfl) m_set (ze_lc (own := [("value", 4)]) rfl sc_over_values.nd (zi_list (ze_var rfl (pv 1))) (blkOk_by (N := ["name", "values", "ordered", "found", "value"]) (own := [("value", 4)]) (sc := defScope st_over_values) (by decide +kernel)) (fun _ _ _ _ _ => zgw_name (i := 4) sc_over_values.nd rfl (Or.inl rfl) (by decide)) (fun _ _ _ _ _ => zts_nil) (fun _ _ _ _ _ => ze_call (c_rank.mono (by decide)) hr (za_cons (ze_var rfl (pv 4)) (za_nil))))))) (zss_nil)) (zss_cons (zs_if (zt_cmp (o_eq hr) s_eq (ze_var rfl (pv 0)) (ze_str) (nomark _)) (zss_one (zs_ret (ze_call (c_summed.mono (by decide)) hr (za_cons (ze_var rfl (pv 1)) (za_nil))))) (zss_nil)) (zss_cons (zs_if (zt_cmp (o_eq hr) s_eq (ze_var rfl (pv 0)) (ze_str) (nomark _)) (zss_one (zs_ret (ze_call (c_average.mono (by decide)) hr (za_cons (ze_var rfl (pv 1)) (za_cons (ze_cd hc_ONE) (za_nil)))))) (zss_nil)) (zss_cons (zs_if (zt_cmp (o_eq hr) s_eq (ze_var rfl (pv 0)) (ze_str) (nomark _)) (zss_one (zs_ret (ze_call (c_average.mono (by decide)) hr (za_cons (ze_var rfl (pv 1)) (za_cons (ze_int) (za_nil)))))) (zss_nil)) (zss_cons (zs_if (zt_cmp (o_eq hr) s_eq (ze_var rfl (pv 0)) (ze_str) (nomark _)) (zss_one (zs_ret (ze_call (c_listed.mono (by decide)) hr (za_cons (ze_var rfl (pv 1)) (za_nil))))) (zss_nil)) (zss_cons (zs_if (zt_cmp (o_in hr) s_in (ze_var rfl (pv 0)) (ze_tup (za_cons (ze_str) (za_cons (ze_str) (za_nil)))) (by rfl)) (zss_cons (zs_set (i := 3) sc_over_values.nd rfl (Or.inl rfl) (ze_call (c_truths.mono (by decide)) hr (za_cons (ze_var rfl (pv 1)) (za_nil)))) (zss_cons (zs_if (zt_cmp (o_eq hr) s_eq (ze_callB call_len s_len (by rfl) m_len PySem.boot_len (za_cons (ze_var rfl (pv 3)) (za_nil))) (ze_int) (nomark _)) (zss_one (zs_ret (ze_non))) (zss_nil)) (zss_one (zs_ret (ze_if (zt_cmp (o_eq hr) s_eq (ze_var rfl (pv 0)) (ze_str) (nomark _)) (ze_callB (cr_all rfl) s_allL (by rfl) m_all (by decide +kernel) (za_cons (ze_var rfl (pv 3)) (za_nil))) (ze_callB (cr_any rfl) s_anyL (by rfl) m_any (by decide +kernel) (za_cons (ze_var rfl (pv 3)) (za_nil)))))))) (zss_nil)) (zss_cons (zs_if (zt_cmp (o_eq hr) s_eq (ze_callB call_len s_len (by rfl) m_len PySem.boot_len (za_cons (ze_var rfl (pv 1)) (za_nil))) (ze_int) (nomark _)) (zss_one (zs_ret (ze_non))) (zss_nil)) (zss_cons (zs_set (i := 2) sc_over_values.nd rfl (Or.inl rfl) (ze_sortK c_rank hr (by decide) (by rfl) m_sorted (ze_var rfl (pv 1)) (by rfl))) (zss_one (zs_ret (ze_if (zt_cmp (o_eq hr) s_eq (ze_var rfl (pv 0)) (ze_str) (nomark _)) (ze_ix (ze_var rfl (pv 2)) (ze_int)) (ze_ix (ze_var rfl (pv 2)) (ze_un un_neg s_neg (ze_int))))))))))))))⟩
abbrev st_present_values : Stmt := topS 107
theorem sc_present_values : FnScope ["expression", "rows", "values", "row", "value"] ["expression", "rows"] (defScope st_present_values) := ⟨rfl, rfl, rfl, by decide +kernel, rfl, by decide +kernel, by decide +kernel⟩
def b_present_values : SM := zSeq (zSet 5 2 (zLc (ziL 5 (zVar 1)) (gN 3) (zYes) (zCall (d_evaluate 40) (zCons (zVar 0) (zCons (zVar 3) (zNil)))) [3])) (zRet (zLc (ziL 5 (zVar 2)) (gN 4) (zTst (zOp isntD (zVar 4) (zC .non))) (zVar 4) [4]))
def d_present_values : List D → Option FR := runP 5 2 b_present_values
set_option maxHeartbeats 4000000 in
theorem ok_present_values (h : DefAt K mg "present_values" st_present_values) (c_evaluate : Cal P w K mg base 45 "evaluate" (spP K (d_evaluate 40))) : Cal P w K mg base 46 "present_values" (spP K d_present_values) := by
  obtain ⟨a, fd, h1, F⟩ := h
  exact ⟨a, fd, _, h1, F.kp, F.binds (ps := ["expression", "rows"]) fun _ _ _ _ _ _ us hl => match us, hl with | [_, _], _ => rfl, okP F sc_present_values fun cdv A outer s0 H E hr =>
    zss_cons (zs_setLc (i := 2) rfl rfl (sw_true rfl rfl rfl (by decide +kernel)) (own := [("row", 3)]) rfl sc_present_values.nd (zi_list (ze_var rfl (pv 1))) (blkOk_by (N := ["expression", "rows", "values", "row", "value"]) (own := [("row", 3)]) (sc := defScope st_present_values) (by decide +kernel)) (fun _ _ _ _ _ => zgw_name (i := 3) sc_present_values.nd rfl (Or.inl rfl) (by decide)) (fun _ _ _ _ _ => zts_nil) (fun _ _ _ _ _ => ze_call (c_evaluate.mono (by decide)) hr (za_cons (ze_var rfl (pv 0)) (za_cons (ze_var rfl (pv 3)) (za_nil))))) (zss_one (zs_ret (ze_lc (own := [("value", 4)]) rfl sc_present_values.nd (zi_list (ze_var rfl (pv 2))) (blkOk_by (N := ["expression", "rows", "values", "row", "value"]) (own := [("value", 4)]) (sc := defScope st_present_values) (by decide +kernel)) (fun _ _ _ _ _ => zgw_name (i := 4) sc_present_values.nd rfl (Or.inl rfl) (by decide)) (fun _ _ _ _ _ => zts_one (zt_cmp o_isnt s_isnt (ze_var rfl (pv 4)) (ze_non) (nomark _))) (fun _ _ _ _ _ => ze_var rfl (pv 4)))))⟩
abbrev st_aggregate : Stmt := topS 113
theorem sc_aggregate : FnScope ["value", "rows", "name", "expression"] ["value", "rows"] (defScope st_aggregate) := ⟨rfl, rfl, rfl, by decide +kernel, rfl, by decide +kernel, by decide +kernel⟩
def b_aggregate : SM := zSeq (zAsg 4 (zVar 0) (gT 2 (gCons' (gN 2) (gCons' (gN 3) (gNil'))))) (zSeq (zIfS 4 (zTst (zOp eqD (zVar 2) (zC (.str [114, 111, 119, 115])))) (zRet (zCallS lenD (zCons (zVar 1) (zNil)))) (zNx)) (zRet (zCall d_over_values (zCons (zVar 2) (zCons (zCall d_present_values (zCons (zVar 3) (zCons (zVar 1) (zNil)))) (zNil))))))
def d_aggregate : List D → Option FR := runP 4 2 b_aggregate
set_option maxHeartbeats 4000000 in
theorem ok_aggregate (h : DefAt K mg "aggregate" st_aggregate) (m_len : mg "len" = none) (c_over_values : Cal P w K mg base 4 "over_values" (spP K d_over_values)) (c_present_values : Cal P w K mg base 46 "present_values" (spP K d_present_values)) : Cal P w K mg base 47 "aggregate" (spP K d_aggregate) := by
  obtain ⟨a, fd, h1, F⟩ := h
  exact ⟨a, fd, _, h1, F.kp, F.binds (ps := ["value", "rows"]) fun _ _ _ _ _ _ us hl => match us, hl with | [_, _], _ => rfl, okP F sc_aggregate fun cdv A outer s0 H E hr =>
    zss_cons (zs_asg (ze_var rfl (pv 0)) (zg_tup rfl (zgs_cons (zg_name (i := 2) sc_aggregate.nd rfl (Or.inl rfl)) (zgs_cons (zg_name (i := 3) sc_aggregate.nd rfl (Or.inl rfl)) (zgs_nil))))) (zss_cons (zs_if (zt_cmp (o_eq hr) s_eq (ze_var rfl (pv 2)) (ze_str) (nomark _)) (zss_one (zs_ret (ze_callB call_len s_len (by rfl) m_len PySem.boot_len (za_cons (ze_var rfl (pv 1)) (za_nil))))) (zss_nil)) (zss_one (zs_ret (ze_call (c_over_values.mono (by decide)) hr (za_cons (ze_var rfl (pv 2)) (za_cons (ze_call (c_present_values.mono (by decide)) hr (za_cons (ze_var rfl (pv 3)) (za_cons (ze_var rfl (pv 1)) (za_nil)))) (za_nil)))))))⟩
abbrev st_group_rows : Stmt := topS 116
theorem sc_group_rows : FnScope ["keys", "values", "rows", "found", "members", "value"] ["keys", "values", "rows"] (defScope st_group_rows) := ⟨rfl, rfl, rfl, by decide +kernel, rfl, by decide +kernel, by decide +kernel⟩
def b_group_rows : SM := zSeq (zIfS 6 (zTst (zOp eqD (zCallS lenD (zCons (zVar 0) (zNil))) (zC (.int 0)))) (zRet (zLst (zCons (zLc (ziU 6 (zVar 1)) (gN 5) (zYes) (zCall d_aggregate (zCons (zVar 5) (zCons (zVar 2) (zNil)))) [5]) (zNil)))) (zNx)) (zRet (zLc (ziU 6 (zCall d_grouped (zCons (zVar 0) (zCons (zVar 2) (zNil))))) (gT 2 (gCons' (gN 3) (gCons' (gN 4) (gNil')))) (zYes) (zCatL (zVar 3) (zLc (ziU 6 (zVar 1)) (gN 5) (zYes) (zCall d_aggregate (zCons (zVar 5) (zCons (zVar 4) (zNil)))) [5])) [3, 4]))
def d_group_rows : List D → Option FR := runP 6 3 b_group_rows
set_option maxHeartbeats 4000000 in
theorem ok_group_rows (h : DefAt K mg "group_rows" st_group_rows) (m_len : mg "len" = none) (c_grouped : Cal P w K mg base 47 "grouped" (spP K d_grouped)) (c_aggregate : Cal P w K mg base 47 "aggregate" (spP K d_aggregate)) : Cal P w K mg base 48 "group_rows" (spP K d_group_rows) := by
  obtain ⟨a, fd, h1, F⟩ := h
  exact ⟨a, fd, _, h1, F.kp, F.binds (ps := ["keys", "values", "rows"]) fun _ _ _ _ _ _ us hl => match us, hl with | [_, _, _], _ => rfl, okP F sc_group_rows fun cdv A outer s0 H E hr =>
    zss_cons (zs_if (zt_cmp (o_eq hr) s_eq (ze_callB call_len s_len (by rfl) m_len PySem.boot_len (za_cons (ze_var rfl (pv 0)) (za_nil))) (ze_int) (nomark _)) (zss_one (zs_ret (ze_lst (za_cons (ze_lc (own := [("value", 5)]) rfl sc_group_rows.nd (zi_any (ze_var rfl (pv 1))) (blkOk_by (N := ["keys", "values", "rows", "found", "members", "value"]) (own := [("value", 5)]) (sc := defScope st_group_rows) (by decide +kernel)) (fun _ _ _ _ _ => zgw_name (i := 5) sc_group_rows.nd rfl (Or.inl rfl) (by decide)) (fun _ _ _ _ _ => zts_nil) (fun _ _ _ _ _ => ze_call (c_aggregate.mono (by decide)) hr (za_cons (ze_var rfl (pv 5)) (za_cons (ze_var rfl (pv 2)) (za_nil))))) (za_nil))))) (zss_nil)) (zss_one (zs_ret (ze_lc (own := [("found", 3), ("members", 4)]) rfl sc_group_rows.nd (zi_any (ze_call (c_grouped.mono (by decide)) hr (za_cons (ze_var rfl (pv 0)) (za_cons (ze_var rfl (pv 2)) (za_nil))))) (blkOk_by (N := ["keys", "values", "rows", "found", "members", "value"]) (own := [("found", 3), ("members", 4)]) (sc := defScope st_group_rows) (by decide +kernel)) (fun _ _ _ _ _ => zgw_tup rfl (zgws_cons (zgw_name (i := 3) sc_group_rows.nd rfl (Or.inl rfl) (by decide)) (zgws_cons (zgw_name (i := 4) sc_group_rows.nd rfl (Or.inr rfl) (by decide)) (zgws_nil)))) (fun _ _ _ _ _ => zts_nil) (fun _ _ _ _ _ => ze_catL (ze_var rfl (pv 3)) (ze_lc (own := [("value", 5)]) rfl sc_group_rows.nd (zi_any (ze_var rfl (pv 1))) (blk_in (N := ["keys", "values", "rows", "found", "members", "value"]) (own := [("value", 5)]) (by decide +kernel)) (fun _ _ _ _ _ => zgw_name (i := 5) sc_group_rows.nd rfl (Or.inl rfl) (by decide)) (fun _ _ _ _ _ => zts_nil) (fun _ _ _ _ _ => ze_call (c_aggregate.mono (by decide)) hr (za_cons (ze_var rfl (pv 5)) (za_cons (ze_var rfl (pv 4)) (za_nil)))))))))⟩
abbrev st__law_rank : Stmt := topS 119
theorem sc__law_rank : FnScope ["_law_value"] ["_law_value"] (defScope st__law_rank) := ⟨rfl, rfl, rfl, by decide +kernel, rfl, by decide +kernel, by decide +kernel⟩
def b__law_rank : SM := zSeq (zIfS 1 (zTst (zOp isD (zVar 0) (zC .non))) (zRet (zTup (zCons (zC (.int 0)) (zCons (zC (.int 0)) (zNil))))) (zNx)) (zSeq (zIfS 1 (zTst (zOp isD (zVar 0) (zC (.bl true)))) (zRet (zTup (zCons (zC (.int 1)) (zCons (zC (.int 1)) (zNil))))) (zNx)) (zSeq (zIfS 1 (zTst (zOp isD (zVar 0) (zC (.bl false)))) (zRet (zTup (zCons (zC (.int 1)) (zCons (zC (.int 0)) (zNil))))) (zNx)) (zSeq (zIfS 1 (zTru (zCallS isiD (zCons (zVar 0) (zCons (zC (.raw (.ty "str"))) (zNil))))) (zRet (zTup (zCons (zC (.int 3)) (zCons (zVar 0) (zNil))))) (zNx)) (zRet (zTup (zCons (zC (.int 2)) (zCons (zVar 0) (zNil))))))))
def d__law_rank : List D → Option FR := runP 1 1 b__law_rank
set_option maxHeartbeats 4000000 in
theorem ok__law_rank (h : DefAt K mg "_law_rank" st__law_rank) (m_isinstance : mg "isinstance" = none) (m_str : mg "str" = none) : Cal P w K mg base 1 "_law_rank" (spP K d__law_rank) := by
  obtain ⟨a, fd, h1, F⟩ := h
  exact ⟨a, fd, _, h1, F.kp, F.binds (ps := ["_law_value"]) fun _ _ _ _ _ _ us hl => match us, hl with | [_], _ => rfl, okP F sc__law_rank fun cdv A outer s0 H E hr =>
    zss_cons (zs_if (zt_cmp o_is s_is (ze_var rfl (pv 0)) (ze_non) (nomark _)) (zss_one (zs_ret (ze_tup (za_cons (ze_int) (za_cons (ze_int) (za_nil)))))) (zss_nil)) (zss_cons (zs_if (zt_cmp o_is s_is (ze_var rfl (pv 0)) (ze_bl) (nomark _)) (zss_one (zs_ret (ze_tup (za_cons (ze_int) (za_cons (ze_int) (za_nil)))))) (zss_nil)) (zss_cons (zs_if (zt_cmp o_is s_is (ze_var rfl (pv 0)) (ze_bl) (nomark _)) (zss_one (zs_ret (ze_tup (za_cons (ze_int) (za_cons (ze_int) (za_nil)))))) (zss_nil)) (zss_cons (zs_if (zt_truth (ze_callB call_isiU s_isi (by rfl) m_isinstance (by decide +kernel) (za_cons (ze_var rfl (pv 0)) (za_cons (ze_bltn (by rfl) m_str (by decide +kernel) rfl) (za_nil))))) (zss_one (zs_ret (ze_tup (za_cons (ze_int) (za_cons (ze_var rfl (pv 0)) (za_nil)))))) (zss_nil)) (zss_one (zs_ret (ze_tup (za_cons (ze_int) (za_cons (ze_var rfl (pv 0)) (za_nil)))))))))⟩
abbrev st__law_ranks : Stmt := topS 122
theorem sc__law_ranks : FnScope ["_law_row", "_law_value"] ["_law_row"] (defScope st__law_ranks) := ⟨rfl, rfl, rfl, by decide +kernel, rfl, by decide +kernel, by decide +kernel⟩
def b__law_ranks : SM := zRet (z_tuple (zCons (zLc (ziL 2 (zVar 0)) (gN 1) (zYes) (zCall d__law_rank (zCons (zVar 1) (zNil))) [1]) (zNil)))
def d__law_ranks : List D → Option FR := runP 2 1 b__law_ranks
set_option maxHeartbeats 4000000 in
theorem ok__law_ranks (h : DefAt K mg "_law_ranks" st__law_ranks) (m_tuple : mg "tuple" = none) (c__law_rank : Cal P w K mg base 1 "_law_rank" (spP K d__law_rank)) : Cal P w K mg base 2 "_law_ranks" (spP K d__law_ranks) := by
  obtain ⟨a, fd, h1, F⟩ := h
  exact ⟨a, fd, _, h1, F.kp, F.binds (ps := ["_law_row"]) fun _ _ _ _ _ _ us hl => match us, hl with | [_], _ => rfl, okP F sc__law_ranks fun cdv A outer s0 H E hr =>
    zss_one (zs_ret (ze_tuple hr (by rfl) m_tuple (za_cons (ze_lc (own := [("_law_value", 1)]) rfl sc__law_ranks.nd (zi_list (ze_var rfl (pv 0))) (blkOk_by (N := ["_law_row", "_law_value"]) (own := [("_law_value", 1)]) (sc := defScope st__law_ranks) (by decide +kernel)) (fun _ _ _ _ _ => zgw_name (i := 1) sc__law_ranks.nd rfl (Or.inl rfl) (by decide)) (fun _ _ _ _ _ => zts_nil) (fun _ _ _ _ _ => ze_call (c__law_rank.mono (by decide)) hr (za_cons (ze_var rfl (pv 1)) (za_nil)))) (za_nil))))⟩
abbrev st__law_same_list : Stmt := topS 123
theorem sc__law_same_list : FnScope ["_law_told", "_law_due", "_law_k"] ["_law_told", "_law_due"] (defScope st__law_same_list) := ⟨rfl, rfl, rfl, by decide +kernel, rfl, by decide +kernel, by decide +kernel⟩
def lb__law_same_list_1 : SM := zFg [2] (zIfS 3 (zOrT (zNotT (zTru (zCallS isiD (zCons (zIx (zVar 0) (zVar 2)) (zCons (zC (.raw (.ty "list"))) (zNil)))))) (zTst (zOp neqD (zCall d__law_ranks (zCons (zIx (zVar 0) (zVar 2)) (zNil))) (zCall d__law_ranks (zCons (zIx (zVar 1) (zVar 2)) (zNil)))))) (zRet (zC (.bl false))) (zNx))
def b__law_same_list : SM := zSeq (zIfS 3 (zOrT (zNotT (zTru (zCallS isiD (zCons (zVar 0) (zCons (zC (.raw (.ty "list"))) (zNil)))))) (zTst (zOp neqD (zCallS lenD (zCons (zVar 0) (zNil))) (zCallS lenD (zCons (zVar 1) (zNil)))))) (zRet (zC (.bl false))) (zNx)) (zSeq (zFor 3 (ziR1 (zCons (zCallS lenD (zCons (zVar 1) (zNil))) (zNil))) (gN 2) (lb__law_same_list_1)) (zRet (zC (.bl true))))
def d__law_same_list : List D → Option FR := runP 3 2 b__law_same_list
set_option maxHeartbeats 4000000 in
theorem ok__law_same_list (h : DefAt K mg "_law_same_list" st__law_same_list) (m_isinstance : mg "isinstance" = none) (m_len : mg "len" = none) (m_list : mg "list" = none) (m_range : mg "range" = none) (c__law_ranks : Cal P w K mg base 2 "_law_ranks" (spP K d__law_ranks)) : Cal P w K mg base 3 "_law_same_list" (spP K d__law_same_list) := by
  obtain ⟨a, fd, h1, F⟩ := h
  exact ⟨a, fd, _, h1, F.kp, F.binds (ps := ["_law_told", "_law_due"]) fun _ _ _ _ _ _ us hl => match us, hl with | [_, _], _ => rfl, okP F sc__law_same_list fun cdv A outer s0 H E hr =>
    zss_cons (zs_if (zt_w (zw_or (zt_not (zt_truth (ze_callB call_isiU s_isi (by rfl) m_isinstance (by decide +kernel) (za_cons (ze_var rfl (pv 0)) (za_cons (ze_bltn (by rfl) m_list (by decide +kernel) rfl) (za_nil)))))) (zw_or1 (zt_cmp (o_ne hr) s_ne (ze_callB call_len s_len (by rfl) m_len PySem.boot_len (za_cons (ze_var rfl (pv 0)) (za_nil))) (ze_callB call_len s_len (by rfl) m_len PySem.boot_len (za_cons (ze_var rfl (pv 1)) (za_nil))) (nomark _))))) (zss_one (zs_ret (ze_bl))) (zss_nil)) (zss_cons (zs_for PassesOwn.never rfl (zi_range1 (by rfl) m_range (za_cons (ze_callB call_len s_len (by rfl) m_len PySem.boot_len (za_cons (ze_var rfl (pv 1)) (za_nil))) (za_nil))) (zg_name (i := 2) sc__law_same_list.nd rfl (Or.inl rfl)) (zss_fg (vs := [2]) (zss_one (zs_if (zt_w (zw_or (zt_not (zt_truth (ze_callB call_isiU s_isi (by rfl) m_isinstance (by decide +kernel) (za_cons (ze_ix (ze_var rfl (pv 0)) (ze_var rfl (pv 2))) (za_cons (ze_bltn (by rfl) m_list (by decide +kernel) rfl) (za_nil)))))) (zw_or1 (zt_cmp (o_ne hr) s_ne (ze_call (c__law_ranks.mono (by decide)) hr (za_cons (ze_ix (ze_var rfl (pv 0)) (ze_var rfl (pv 2))) (za_nil))) (ze_call (c__law_ranks.mono (by decide)) hr (za_cons (ze_ix (ze_var rfl (pv 1)) (ze_var rfl (pv 2))) (za_nil))) (nomark _))))) (zss_one (zs_ret (ze_bl))) (zss_nil))))) (zss_one (zs_ret (ze_bl))))⟩
abbrev st__law_simple : Stmt := topS 124
theorem sc__law_simple : FnScope ["_law_number", "_law_width", "_law_rest", "_law_one", "_law_other", "_law_choice"] ["_law_number", "_law_width"] (defScope st__law_simple) := ⟨rfl, rfl, rfl, by decide +kernel, rfl, by decide +kernel, by decide +kernel⟩
def b__law_simple : SM := zSeq (zSet 6 2 (zOp divD (zCallS intU (zCons (zVar 0) (zNil))) (zC (.int 6)))) (zSeq (zSet 6 3 (zTup (zCons (zC (.str [99, 111, 108, 117, 109, 110])) (zCons (zOp modD (zVar 2) (zVar 1)) (zNil))))) (zSeq (zSet 6 4 (zTup (zCons (zC (.str [99, 111, 108, 117, 109, 110])) (zCons (zOp modD (zOp divD (zVar 2) (zVar 1)) (zVar 1)) (zNil))))) (zSeq (zSet 6 5 (zOp modD (zCallS intU (zCons (zVar 0) (zNil))) (zC (.int 6)))) (zSeq (zIfS 6 (zTst (zOp leD (zVar 5) (zC (.int 1)))) (zRet (zVar 3)) (zNx)) (zSeq (zIfS 6 (zTst (zOp eqD (zVar 5) (zC (.int 2)))) (zRet (zTup (zCons (zC (.str [98, 105, 110, 97, 114, 121])) (zCons (zIx (zLst (zCons (zC (.str [99, 111, 97, 108, 101, 115, 99, 101])) (zCons (zC (.str [97, 100, 100])) (zCons (zC (.str [106, 111, 105, 110])) (zCons (zC (.str [108, 101, 97, 115, 116])) (zNil)))))) (zOp modD (zOp divD (zVar 2) (zC (.int 36))) (zC (.int 4)))) (zCons (zVar 3) (zCons (zVar 4) (zNil))))))) (zNx)) (zSeq (zIfS 6 (zTst (zOp eqD (zVar 5) (zC (.int 3)))) (zRet (zTup (zCons (zC (.str [117, 110, 97, 114, 121])) (zCons (zIx (zLst (zCons (zC (.str [105, 115, 32, 110, 117, 108, 108])) (zCons (zC (.str [110, 111, 116])) (zCons (zC (.str [110, 101, 103, 97, 116, 101])) (zCons (zC (.str [108, 101, 110, 103, 116, 104])) (zNil)))))) (zOp modD (zOp divD (zVar 2) (zC (.int 36))) (zC (.int 4)))) (zCons (zVar 3) (zNil)))))) (zNx)) (zSeq (zIfS 6 (zTst (zOp eqD (zVar 5) (zC (.int 4)))) (zRet (zTup (zCons (zC (.str [98, 105, 110, 97, 114, 121])) (zCons (zIx (zLst (zCons (zC (.str [101, 113, 117, 97, 108])) (zCons (zC (.str [108, 101, 115, 115])) (zCons (zC (.str [115, 97, 109, 101])) (zCons (zC (.str [97, 116, 32, 109, 111, 115, 116])) (zNil)))))) (zOp modD (zOp divD (zVar 2) (zC (.int 36))) (zC (.int 4)))) (zCons (zVar 3) (zCons (zVar 4) (zNil))))))) (zNx)) (zRet (zTup (zCons (zC (.str [99, 111, 110, 115, 116, 97, 110, 116])) (zCons (zIx (zLst (zCons (zC .non) (zCons (zC (.int 1)) (zCons (zC (.bl true)) (zCons (zC (.str [97])) (zNil)))))) (zOp modD (zOp divD (zVar 2) (zC (.int 36))) (zC (.int 4)))) (zNil))))))))))))
def d__law_simple : List D → Option FR := runP 6 2 b__law_simple
set_option maxHeartbeats 4000000 in
theorem ok__law_simple (h : DefAt K mg "_law_simple" st__law_simple) (m_int : mg "int" = none) : Cal P w K mg base 1 "_law_simple" (spP K d__law_simple) := by
  obtain ⟨a, fd, h1, F⟩ := h
  exact ⟨a, fd, _, h1, F.kp, F.binds (ps := ["_law_number", "_law_width"]) fun _ _ _ _ _ _ us hl => match us, hl with | [_, _], _ => rfl, okP F sc__law_simple fun cdv A outer s0 H E hr =>
    zss_cons (zs_set (i := 2) sc__law_simple.nd rfl (Or.inl rfl) (ze_op o_div s_div (ze_callTy call_intU s_intU (by rfl) m_int (by decide +kernel) (za_cons (ze_var rfl (pv 0)) (za_nil))) (ze_int))) (zss_cons (zs_set (i := 3) sc__law_simple.nd rfl (Or.inl rfl) (ze_tup (za_cons (ze_str) (za_cons (ze_op o_mod s_mod (ze_var rfl (pv 2)) (ze_var rfl (pv 1))) (za_nil))))) (zss_cons (zs_set (i := 4) sc__law_simple.nd rfl (Or.inl rfl) (ze_tup (za_cons (ze_str) (za_cons (ze_op o_mod s_mod (ze_op o_div s_div (ze_var rfl (pv 2)) (ze_var rfl (pv 1))) (ze_var rfl (pv 1))) (za_nil))))) (zss_cons (zs_set (i := 5) sc__law_simple.nd rfl (Or.inl rfl) (ze_op o_mod s_mod (ze_callTy call_intU s_intU (by rfl) m_int (by decide +kernel) (za_cons (ze_var rfl (pv 0)) (za_nil))) (ze_int))) (zss_cons (zs_if (zt_cmp o_le s_le (ze_var rfl (pv 5)) (ze_int) (nomark _)) (zss_one (zs_ret (ze_var rfl (pv 3)))) (zss_nil)) (zss_cons (zs_if (zt_cmp (o_eq hr) s_eq (ze_var rfl (pv 5)) (ze_int) (nomark _)) (zss_one (zs_ret (ze_tup (za_cons (ze_str) (za_cons (ze_ix (ze_lst (za_cons (ze_str) (za_cons (ze_str) (za_cons (ze_str) (za_cons (ze_str) (za_nil)))))) (ze_op o_mod s_mod (ze_op o_div s_div (ze_var rfl (pv 2)) (ze_int)) (ze_int))) (za_cons (ze_var rfl (pv 3)) (za_cons (ze_var rfl (pv 4)) (za_nil)))))))) (zss_nil)) (zss_cons (zs_if (zt_cmp (o_eq hr) s_eq (ze_var rfl (pv 5)) (ze_int) (nomark _)) (zss_one (zs_ret (ze_tup (za_cons (ze_str) (za_cons (ze_ix (ze_lst (za_cons (ze_str) (za_cons (ze_str) (za_cons (ze_str) (za_cons (ze_str) (za_nil)))))) (ze_op o_mod s_mod (ze_op o_div s_div (ze_var rfl (pv 2)) (ze_int)) (ze_int))) (za_cons (ze_var rfl (pv 3)) (za_nil))))))) (zss_nil)) (zss_cons (zs_if (zt_cmp (o_eq hr) s_eq (ze_var rfl (pv 5)) (ze_int) (nomark _)) (zss_one (zs_ret (ze_tup (za_cons (ze_str) (za_cons (ze_ix (ze_lst (za_cons (ze_str) (za_cons (ze_str) (za_cons (ze_str) (za_cons (ze_str) (za_nil)))))) (ze_op o_mod s_mod (ze_op o_div s_div (ze_var rfl (pv 2)) (ze_int)) (ze_int))) (za_cons (ze_var rfl (pv 3)) (za_cons (ze_var rfl (pv 4)) (za_nil)))))))) (zss_nil)) (zss_one (zs_ret (ze_tup (za_cons (ze_str) (za_cons (ze_ix (ze_lst (za_cons (ze_non) (za_cons (ze_int) (za_cons (ze_bl) (za_cons (ze_str) (za_nil)))))) (ze_op o_mod s_mod (ze_op o_div s_div (ze_var rfl (pv 2)) (ze_int)) (ze_int))) (za_nil)))))))))))))⟩
abbrev st_law : Stmt := topS 125
theorem sc_law : FnScope ["_law_script", "_law_numbers_here", "_law_rows", "_law_keys", "_law_names", "_law_values", "_law_k", "_law_kept", "_law_due", "_law_seen", "_law_members", "_law_row", "_law_told", "_law_name", "_law_found", "_law_at", "_law_key", "_law_value"] ["_law_script"] (defScope st_law) := ⟨rfl, rfl, rfl, by decide +kernel, rfl, by decide +kernel, by decide +kernel⟩
def lb_law_1 : SM := zFg [6, 13] (zSeq (zSet 18 13 (zIx (zVar 4) (zOp modD (zOp divD (zCallS intU (zCons (zIx (zVar 1) (zC (.int 2))) (zNil))) (zOp addS (zOp mulD (zC (.int 9)) (zVar 6)) (zC (.int 1)))) (zC (.int 9))))) (zApp 18 (zVar 5) (zTup (zCons (zVar 13) (zCons (zIx (zLst (zCons (zCall d__law_simple (zCons (zOp divD (zIx (zVar 1) (zC (.int 2))) (zOp addS (zOp mulD (zC (.int 7)) (zVar 6)) (zC (.int 9)))) (zCons (zC (.int 3)) (zNil)))) (zCons (zC .non) (zNil)))) (zCallS intU (zCons (zOp eqD (zVar 13) (zC (.str [114, 111, 119, 115]))) (zNil)))) (zNil))))))
def lb_law_2 : SM := zFg [11, 14, 15] (zSeq (zSet 18 14 (zLc (ziU 18 (zVar 3)) (gN 16) (zYes) (zCall (d_evaluate 40) (zCons (zVar 16) (zCons (zVar 11) (zNil)))) [16])) (zIfS 18 (zTst (zOp inD (zCall d__law_ranks (zCons (zVar 14) (zNil))) (zVar 9))) (zSeq (zSet 18 15 (zMt "list" nindexD (zVar 9) (zCons (zCall d__law_ranks (zCons (zVar 14) (zNil))) (zNil)))) (zSto 18 (zVar 10) (zVar 15) (zCatL (zIx (zVar 10) (zVar 15)) (zLst (zCons (zVar 11) (zNil)))))) (zSeq (zApp 18 (zVar 9) (zCall d__law_ranks (zCons (zVar 14) (zNil)))) (zSeq (zApp 18 (zVar 8) (zVar 14)) (zApp 18 (zVar 10) (zLst (zCons (zVar 11) (zNil))))))))
def b_law : SM := zSeq (zSet 18 1 (zCall d__law_numbers (zCons (zVar 0) (zCons (zC (.int 20)) (zNil))))) (zSeq (zSet 18 2 (zCall d__law_rowlist (zCons (zVar 1) (zCons (zC (.int 3)) (zCons (zOp modD (zCallS intU (zCons (zIx (zVar 1) (zC (.int 0))) (zNil))) (zC (.int 15))) (zCons (zC (.int 3)) (zNil))))))) (zSeq (zSet 18 3 (z_tuple (zCons (zLc (ziR1 (zCons (zOp modD (zOp divD (zCallS intU (zCons (zIx (zVar 1) (zC (.int 0))) (zNil))) (zC (.int 15))) (zC (.int 3))) (zNil))) (gN 6) (zYes) (zCall d__law_simple (zCons (zOp divD (zIx (zVar 1) (zC (.int 1))) (zOp addS (zOp mulD (zC (.int 5)) (zVar 6)) (zC (.int 1)))) (zCons (zC (.int 3)) (zNil)))) [6]) (zNil)))) (zSeq (zSet 18 4 (zLst (zCons (zC (.str [114, 111, 119, 115])) (zCons (zC (.str [99, 111, 117, 110, 116])) (zCons (zC (.str [100, 105, 115, 116, 105, 110, 99, 116])) (zCons (zC (.str [115, 117, 109])) (zCons (zC (.str [109, 105, 110])) (zCons (zC (.str [109, 97, 120])) (zCons (zC (.str [97, 118, 101, 114, 97, 103, 101])) (zCons (zC (.str [108, 105, 115, 116])) (zCons (zC (.str [115, 111, 109, 101])) (zNil)))))))))))) (zSeq (zSet 18 5 (zLst (zNil))) (zSeq (zFor 18 (ziR1 (zCons (zOp modD (zOp divD (zCallS intU (zCons (zIx (zVar 1) (zC (.int 0))) (zNil))) (zC (.int 45))) (zC (.int 4))) (zNil))) (gN 6) (lb_law_1)) (zSeq (zSet 18 7 (zCallS reprD (zCons (zTup (zCons (zVar 2) (zCons (zVar 3) (zCons (zVar 5) (zNil))))) (zNil)))) (zSeq (zSet 18 8 (zLst (zNil))) (zSeq (zSet 18 9 (zLst (zNil))) (zSeq (zSet 18 10 (zLst (zNil))) (zSeq (zFor 18 (ziL 18 (zVar 2)) (gN 11) (lb_law_2)) (zSeq (zIfS 18 (zTst (zOp eqD (zCallS lenD (zCons (zVar 3) (zNil))) (zC (.int 0)))) (zSeq (zSet 18 8 (zLst (zCons (zLst (zNil)) (zNil)))) (zSet 18 10 (zLst (zCons (zVar 2) (zNil))))) (zNx)) (zSeq (zSet 18 8 (zLc (ziR1 (zCons (zCallS lenD (zCons (zVar 8) (zNil))) (zNil))) (gN 6) (zYes) (zCatL (zIx (zVar 8) (zVar 6)) (zLc (ziL 18 (zVar 5)) (gN 17) (zYes) (zCall d_aggregate (zCons (zVar 17) (zCons (zIx (zVar 10) (zVar 6)) (zNil)))) [17])) [6])) (zSeq (zSet 18 12 (zCall d_group_rows (zCons (zVar 3) (zCons (z_tuple (zCons (zVar 5) (zNil))) (zCons (zVar 2) (zNil)))))) (zRet (zAndV (zCall d__law_same_list (zCons (zVar 12) (zCons (zVar 8) (zNil)))) (zAndV (zCall d__law_same_list (zCons (zCall d_group_rows (zCons (z_list (zCons (zVar 3) (zNil))) (zCons (zVar 5) (zCons (zVar 2) (zNil))))) (zCons (zVar 8) (zNil)))) (zOp eqD (zCallS reprD (zCons (zTup (zCons (zVar 2) (zCons (zVar 3) (zCons (zVar 5) (zNil))))) (zNil))) (zVar 7))))))))))))))))))
def d_law : List D → Option FR := runP 18 1 b_law
set_option maxHeartbeats 4000000 in
theorem ok_law {f : Addr} {fd : FuncData} (F : Fun K "law" "law" st_law f fd) (m_int : mg "int" = none) (m_len : mg "len" = none) (m_list : mg "list" = none) (m_range : mg "range" = none) (m_repr : mg "repr" = none) (m_tuple : mg "tuple" = none) (c__law_numbers : Cal P w K mg base 1 "_law_numbers" (spP K d__law_numbers)) (c__law_rowlist : Cal P w K mg base 2 "_law_rowlist" (spP K d__law_rowlist)) (c_group_rows : Cal P w K mg base 48 "group_rows" (spP K d_group_rows)) (c__law_same_list : Cal P w K mg base 3 "_law_same_list" (spP K d__law_same_list)) (c__law_simple : Cal P w K mg base 1 "_law_simple" (spP K d__law_simple)) (c_evaluate : Cal P w K mg base 45 "evaluate" (spP K (d_evaluate 40))) (c__law_ranks : Cal P w K mg base 2 "_law_ranks" (spP K d__law_ranks)) (c_aggregate : Cal P w K mg base 47 "aggregate" (spP K d_aggregate)) : FnA P w K mg base callerA f fd ["_law_script"] (spP K d_law) :=
  okA (k := 48) F sc_law ⟨rfl, by decide, by decide⟩ fun cdv outer s0 H E hr =>
    zss_cons (zs_set (i := 1) sc_law.nd rfl (Or.inr rfl) (ze_call (c__law_numbers.mono (by decide)) hr (za_cons (ze_var rfl (pv 0)) (za_cons (ze_int) (za_nil))))) (zss_cons (zs_set (i := 2) sc_law.nd rfl (Or.inl rfl) (ze_call (c__law_rowlist.mono (by decide)) hr (za_cons (ze_var rfl (pv 1)) (za_cons (ze_int) (za_cons (ze_op o_mod s_mod (ze_callTy call_intU s_intU (by rfl) m_int (by decide +kernel) (za_cons (ze_ix (ze_var rfl (pv 1)) (ze_int)) (za_nil))) (ze_int)) (za_cons (ze_int) (za_nil))))))) (zss_cons (zs_set (i := 3) sc_law.nd rfl (Or.inl rfl) (ze_tuple hr (by rfl) m_tuple (za_cons (ze_lc (own := [("_law_k", 6)]) rfl sc_law.nd (zi_range1 (by rfl) m_range (za_cons (ze_op o_mod s_mod (ze_op o_div s_div (ze_callTy call_intU s_intU (by rfl) m_int (by decide +kernel) (za_cons (ze_ix (ze_var rfl (pv 1)) (ze_int)) (za_nil))) (ze_int)) (ze_int)) (za_nil))) (blkOk_by (N := ["_law_script", "_law_numbers_here", "_law_rows", "_law_keys", "_law_names", "_law_values", "_law_k", "_law_kept", "_law_due", "_law_seen", "_law_members", "_law_row", "_law_told", "_law_name", "_law_found", "_law_at", "_law_key", "_law_value"]) (own := [("_law_k", 6)]) (sc := defScope st_law) (by decide +kernel)) (fun _ _ _ _ _ => zgw_name (i := 6) sc_law.nd rfl (Or.inl rfl) (by decide)) (fun _ _ _ _ _ => zts_nil) (fun _ _ _ _ _ => ze_call (c__law_simple.mono (by decide)) hr (za_cons (ze_op o_div s_div (ze_ix (ze_var rfl (pv 1)) (ze_int)) (ze_op o_add s_add (ze_op o_mul s_mul (ze_int) (ze_var rfl (pv 6))) (ze_int))) (za_cons (ze_int) (za_nil))))) (za_nil)))) (zss_cons (zs_set (i := 4) sc_law.nd rfl (Or.inl rfl) (ze_lst (za_cons (ze_str) (za_cons (ze_str) (za_cons (ze_str) (za_cons (ze_str) (za_cons (ze_str) (za_cons (ze_str) (za_cons (ze_str) (za_cons (ze_str) (za_cons (ze_str) (za_nil)))))))))))) (zss_cons (zs_set (i := 5) sc_law.nd rfl (Or.inr rfl) (ze_lst (za_nil))) (zss_cons (zs_for PassesOwn.never rfl (zi_range1 (by rfl) m_range (za_cons (ze_op o_mod s_mod (ze_op o_div s_div (ze_callTy call_intU s_intU (by rfl) m_int (by decide +kernel) (za_cons (ze_ix (ze_var rfl (pv 1)) (ze_int)) (za_nil))) (ze_int)) (ze_int)) (za_nil))) (zg_name (i := 6) sc_law.nd rfl (Or.inl rfl)) (zss_fg (vs := [6, 13]) (zss_cons (zs_set (i := 13) sc_law.nd rfl (Or.inl rfl) (ze_ix (ze_var rfl (pv 4)) (ze_op o_mod s_mod (ze_op o_div s_div (ze_callTy call_intU s_intU (by rfl) m_int (by decide +kernel) (za_cons (ze_ix (ze_var rfl (pv 1)) (ze_int)) (za_nil))) (ze_op o_add s_add (ze_op o_mul s_mul (ze_int) (ze_var rfl (pv 6))) (ze_int))) (ze_int)))) (zss_one (zs_app (ze_var rfl (pv 5)) (ze_tup (za_cons (ze_var rfl (pv 13)) (za_cons (ze_ix (ze_lst (za_cons (ze_call (c__law_simple.mono (by decide)) hr (za_cons (ze_op o_div s_div (ze_ix (ze_var rfl (pv 1)) (ze_int)) (ze_op o_add s_add (ze_op o_mul s_mul (ze_int) (ze_var rfl (pv 6))) (ze_int))) (za_cons (ze_int) (za_nil)))) (za_cons (ze_non) (za_nil)))) (ze_callTy call_intU s_intU (by rfl) m_int (by decide +kernel) (za_cons (ze_cmp (o_eq hr) s_eq (ze_var rfl (pv 13)) (ze_str) (nomark _)) (za_nil)))) (za_nil))))))))) (zss_cons (zs_set (i := 7) sc_law.nd rfl (Or.inl rfl) (ze_callB (call_reprR rfl hr) s_repr (by rfl) m_repr (by decide +kernel) (za_cons (ze_tup (za_cons (ze_var rfl (pv 2)) (za_cons (ze_var rfl (pv 3)) (za_cons (ze_var rfl (pv 5)) (za_nil))))) (za_nil)))) (zss_cons (zs_set (i := 8) sc_law.nd rfl (Or.inr rfl) (ze_lst (za_nil))) (zss_cons (zs_set (i := 9) sc_law.nd rfl (Or.inl rfl) (ze_lst (za_nil))) (zss_cons (zs_set (i := 10) sc_law.nd rfl (Or.inr rfl) (ze_lst (za_nil))) (zss_cons (zs_for PassesOwn.never rfl (zi_list (ze_var rfl (pv 2))) (zg_name (i := 11) sc_law.nd rfl (Or.inr rfl)) (zss_fg (vs := [11, 14, 15]) (zss_cons (zs_setLc (i := 14) rfl rfl (sw_true rfl rfl rfl (by decide +kernel)) (own := [("_law_key", 16)]) rfl sc_law.nd (zi_any (ze_var rfl (pv 3))) (blkOk_by (N := ["_law_script", "_law_numbers_here", "_law_rows", "_law_keys", "_law_names", "_law_values", "_law_k", "_law_kept", "_law_due", "_law_seen", "_law_members", "_law_row", "_law_told", "_law_name", "_law_found", "_law_at", "_law_key", "_law_value"]) (own := [("_law_key", 16)]) (sc := defScope st_law) (by decide +kernel)) (fun _ _ _ _ _ => zgw_name (i := 16) sc_law.nd rfl (Or.inl rfl) (by decide)) (fun _ _ _ _ _ => zts_nil) (fun _ _ _ _ _ => ze_call (c_evaluate.mono (by decide)) hr (za_cons (ze_var rfl (pv 16)) (za_cons (ze_var rfl (pv 11)) (za_nil))))) (zss_one (zs_if (zt_cmp (o_in hr) s_in (ze_call (c__law_ranks.mono (by decide)) hr (za_cons (ze_var rfl (pv 14)) (za_nil))) (ze_var rfl (pv 9)) (by rfl)) (zss_cons (zs_set (i := 15) sc_law.nd rfl (Or.inl rfl) (ze_mt PySem.F.plainAttrs_list PySem.F.slot_list_index PySem.F.type_list_index (mt_nindex hr) s_nindex (ze_var rfl (pv 9)) (za_cons (ze_call (c__law_ranks.mono (by decide)) hr (za_cons (ze_var rfl (pv 14)) (za_nil))) (za_nil)))) (zss_one (zs_sto (ze_catL (ze_ix (ze_var rfl (pv 10)) (ze_var rfl (pv 15))) (ze_lst (za_cons (ze_var rfl (pv 11)) (za_nil)))) (ze_var rfl (pv 10)) (ze_var rfl (pv 15))))) (zss_cons (zs_app (ze_var rfl (pv 9)) (ze_call (c__law_ranks.mono (by decide)) hr (za_cons (ze_var rfl (pv 14)) (za_nil)))) (zss_cons (zs_app (ze_var rfl (pv 8)) (ze_var rfl (pv 14))) (zss_one (zs_app (ze_var rfl (pv 10)) (ze_lst (za_cons (ze_var rfl (pv 11)) (za_nil)))))))))))) (zss_cons (zs_if (zt_cmp (o_eq hr) s_eq (ze_callB call_len s_len (by rfl) m_len PySem.boot_len (za_cons (ze_var rfl (pv 3)) (za_nil))) (ze_int) (nomark _)) (zss_cons (zs_set (i := 8) sc_law.nd rfl (Or.inr rfl) (ze_lst (za_cons (ze_lst (za_nil)) (za_nil)))) (zss_one (zs_set (i := 10) sc_law.nd rfl (Or.inr rfl) (ze_lst (za_cons (ze_var rfl (pv 2)) (za_nil)))))) (zss_nil)) (zss_cons (zs_set (i := 8) sc_law.nd rfl (Or.inr rfl) (ze_lc (own := [("_law_k", 6)]) rfl sc_law.nd (zi_range1 (by rfl) m_range (za_cons (ze_callB call_len s_len (by rfl) m_len PySem.boot_len (za_cons (ze_var rfl (pv 8)) (za_nil))) (za_nil))) (blkOk_by (N := ["_law_script", "_law_numbers_here", "_law_rows", "_law_keys", "_law_names", "_law_values", "_law_k", "_law_kept", "_law_due", "_law_seen", "_law_members", "_law_row", "_law_told", "_law_name", "_law_found", "_law_at", "_law_key", "_law_value"]) (own := [("_law_k", 6)]) (sc := defScope st_law) (by decide +kernel)) (fun _ _ _ _ _ => zgw_name (i := 6) sc_law.nd rfl (Or.inr rfl) (by decide)) (fun _ _ _ _ _ => zts_nil) (fun _ _ _ _ _ => ze_catL (ze_ix (ze_var rfl (pv 8)) (ze_var rfl (pv 6))) (ze_lc (own := [("_law_value", 17)]) rfl sc_law.nd (zi_list (ze_var rfl (pv 5))) (blk_in (N := ["_law_script", "_law_numbers_here", "_law_rows", "_law_keys", "_law_names", "_law_values", "_law_k", "_law_kept", "_law_due", "_law_seen", "_law_members", "_law_row", "_law_told", "_law_name", "_law_found", "_law_at", "_law_key", "_law_value"]) (own := [("_law_value", 17)]) (by decide +kernel)) (fun _ _ _ _ _ => zgw_name (i := 17) sc_law.nd rfl (Or.inl rfl) (by decide)) (fun _ _ _ _ _ => zts_nil) (fun _ _ _ _ _ => ze_call (c_aggregate.mono (by decide)) hr (za_cons (ze_var rfl (pv 17)) (za_cons (ze_ix (ze_var rfl (pv 10)) (ze_var rfl (pv 6))) (za_nil)))))))) (zss_cons (zs_set (i := 12) sc_law.nd rfl (Or.inl rfl) (ze_call (c_group_rows.mono (by decide)) hr (za_cons (ze_var rfl (pv 3)) (za_cons (ze_tuple hr (by rfl) m_tuple (za_cons (ze_var rfl (pv 5)) (za_nil))) (za_cons (ze_var rfl (pv 2)) (za_nil)))))) (zss_one (zs_ret (ze_and (ze_call (c__law_same_list.mono (by decide)) hr (za_cons (ze_var rfl (pv 12)) (za_cons (ze_var rfl (pv 8)) (za_nil)))) (ze_and (ze_call (c__law_same_list.mono (by decide)) hr (za_cons (ze_call (c_group_rows.mono (by decide)) hr (za_cons (ze_list hr (by rfl) m_list (za_cons (ze_var rfl (pv 3)) (za_nil))) (za_cons (ze_var rfl (pv 5)) (za_cons (ze_var rfl (pv 2)) (za_nil))))) (za_cons (ze_var rfl (pv 8)) (za_nil)))) (ze_one (ze_cmp (o_eq hr) s_eq (ze_callB (call_reprR rfl hr) s_repr (by rfl) m_repr (by decide +kernel) (za_cons (ze_tup (za_cons (ze_var rfl (pv 2)) (za_cons (ze_var rfl (pv 3)) (za_cons (ze_var rfl (pv 5)) (za_nil))))) (za_nil))) (ze_var rfl (pv 7)) (nomark _))))))))))))))))))))
end
local macro_rules | `(tactic| walk_at "l") => `(tactic| first | (simp only [wipeG_nil, wipeG_cons, List.set_cons_succ, List.set_cons_zero, List.take_succ_cons, List.take_zero, List.take_nil, List.cons_append, List.nil_append, List.length_cons, List.length_nil, List.set_nil, List.getElem?_cons_zero, List.getElem?_cons_succ, Nat.zero_add, Nat.reduceAdd]; first | done | exact rfl) | exact rfl)
local macro_rules | `(tactic| walk_at "d") => `(tactic| first
  | with_reducible assumption
  | (with_reducible apply dr_div) <;> decide
  | (with_reducible apply dr_mod) <;> decide
  | (with_reducible apply dr_mulr); decide
  | (with_reducible apply dr_mull); decide
  | (with_reducible apply dr_divB) <;> omega
  | (with_reducible apply dr_mulrB) <;> omega
  | (with_reducible apply dr_mullB) <;> omega
  | (with_reducible apply dr_mulC) <;> omega
  | (with_reducible apply dr_mod) <;> omega
  | (with_reducible refine isi_of ?_ ?_); (exact rfl); (first | exact kb_int_int | exact kb_int_bool | exact kb_bool_bool | exact kb_bool_int | exact kb_str_int | exact kb_str_bool | exact kb_str_str | exact kb_int_str | exact kb_bool_str | exact kb_non_int | exact kb_non_bool | exact kb_non_str | exact kb_list_list | exact kb_tuple_tuple | exact kb_list_tuple | exact kb_tuple_list)
  | with_reducible exact dr_abs
  | (with_reducible exact dr_neL _ _)
  | (simp only [Cn.d]; with_reducible assumption)
  | (simp only [Cn.d]; with_reducible exact dr_neL _ _)
  | with_reducible exact in_ints _ _
  | (simp only [Cn.d]; with_reducible exact in_ints _ _)
  | ((with_reducible apply dr_cat); (try simp only [List.length_append, List.length_cons, List.length_nil]); omega)
  | with_reducible exact dr_eqI
  | with_reducible exact dr_eqB
  | with_reducible exact dr_neB
  | with_reducible exact dr_eqS
  | with_reducible exact dr_neI
  | with_reducible exact dr_neS
  | exact rfl)
local macro_rules | `(tactic| walk_at "c") => `(tactic| first | with_reducible assumption | (simp only [Cn.d]; with_reducible assumption))
local macro_rules | `(tactic| walk_at "e") => `(tactic| first
  | with_reducible exact er_C
  | with_reducible exact er_nil
  | (with_reducible apply er_varD); exact rfl
  | (with_reducible apply er_varO); exact rfl
  | (with_reducible apply er_varF); exact rfl
  | (with_reducible apply er_op); walk_at "e"; walk_at "e"; exact rfl; exact rfl; walk_at "d"; exact rfl
  | (with_reducible apply er_chain); walk_at "e"; walk_at "e"; exact rfl; exact rfl; walk_at "d"; (intro _h; walk_at "e"); exact rfl; walk_at "d"
  | (with_reducible apply er_slS); walk_at "e"; walk_at "o"; walk_at "o"; exact rfl; walk_at "z"
  | (with_reducible apply er_slL); walk_at "e"; walk_at "o"; walk_at "o"; exact rfl
  | (with_reducible apply er_list); walk_at "e"; exact rfl; exact rfl
  | (with_reducible apply er_tupL); walk_at "e"; exact rfl
  | (with_reducible apply er_un); walk_at "e"; exact rfl; exact rfl; exact rfl
  | (with_reducible apply er_tst); walk_at "e"
  | (with_reducible apply er_tru); walk_at "e"; exact rfl; exact rfl
  | (with_reducible apply er_andT); walk_at "e"; (intro _h; walk_at "e")
  | (with_reducible apply er_orT); walk_at "e"; (intro _h; walk_at "e")
  | (with_reducible apply er_andTT); walk_at "e"; exact rfl; walk_at "e"
  | (with_reducible apply er_orTF); walk_at "e"; exact rfl; walk_at "e"
  | (with_reducible apply er_notT); walk_at "e"
  | (with_reducible apply er_andV); walk_at "e"; (intro _h; walk_at "e")
  | (with_reducible apply er_orV); walk_at "e"; (intro _h; walk_at "e")
  | (with_reducible apply er_notV); walk_at "e"
  | (with_reducible apply er_andVT); walk_at "e"; exact rfl; walk_at "e"
  | (with_reducible apply er_orVF); walk_at "e"; exact rfl; walk_at "e"
  | (with_reducible apply er_ix); walk_at "e"; walk_at "e"; exact rfl; walk_at "x"
  | (with_reducible apply er_callS); walk_at "e"; exact rfl; walk_at "d"; exact rfl
  | (with_reducible apply er_cons); walk_at "e"; walk_at "e"
  | (with_reducible apply er_callG); walk_at "e"; exact rfl; exact rfl; walk_at "c"; exact rfl
  | (with_reducible apply er_callH); walk_at "e"; exact rfl; exact rfl; walk_at "c"; exact rfl
  | (with_reducible apply er_callV); walk_at "e"; exact rfl; walk_at "c"; exact rfl
  | (with_reducible apply er_callGF); walk_at "e"; exact rfl; exact rfl; walk_at "c"; exact rfl
  | (with_reducible apply er_callHF); walk_at "e"; exact rfl; exact rfl; walk_at "c"; exact rfl
  | (with_reducible apply er_callM); walk_at "e"; exact rfl; exact rfl; exact rfl; exact rfl; exact rfl; walk_at "c"; exact rfl
  | (with_reducible apply er_catL); walk_at "e"; walk_at "e"; exact rfl; exact rfl; walk_at "z"
  | (with_reducible apply er_mt); walk_at "e"; exact rfl; exact rfl; walk_at "e"; exact rfl; exact rfl; walk_at "m"; exact rfl
  | (with_reducible apply er_tup); walk_at "e"; exact rfl; walk_at "z" 
  | (with_reducible apply er_lst); walk_at "e"; exact rfl; walk_at "z")
local macro_rules | `(tactic| walk_at "o") => `(tactic| first | exact er_zoN | ((with_reducible apply er_zoS); walk_at "e"))
local macro_rules | `(tactic| walk_at "x") => `(tactic| first | with_reducible assumption | (simp only [Cn.d]; with_reducible assumption) | exact rfl)
local macro_rules | `(tactic| walk_at "m") => `(tactic| first | with_reducible assumption | (simp only [Cn.d]; with_reducible assumption) | exact rfl)
local macro_rules | `(tactic| walk_at "st") => `(tactic| first
  | ((with_reducible apply set_dat); (walk_at "e"); (exact rfl); walk_at "l")
  | ((with_reducible apply set_own); (walk_at "e"); (exact Nat.le_of_ble_eq_true rfl); (exact rfl); (exact rfl); walk_at "l")
  | ((with_reducible apply asg_run); (walk_at "e"); (exact rfl); walk_at "l")
  | ((with_reducible apply aug_run); (exact rfl); (exact rfl); (walk_at "e"); (exact rfl); (walk_at "d"); (exact rfl); (exact rfl); walk_at "l")
  | ((with_reducible apply sto_run); (walk_at "e"); (walk_at "e"); (walk_at "e"); (exact rfl); (walk_at "x"); walk_at "l")
  | ((with_reducible apply app_run); (walk_at "e"); (exact rfl); (walk_at "e"); (exact rfl); (exact rfl); (walk_at "z"); walk_at "l"))
local macro_rules | `(tactic| walk_at "z") => `(tactic| first | assumption | exact Nat.le_of_ble_eq_true rfl | (simp; omega))
local macro_rules | `(tactic| walk_at "s") => `(tactic| first
  | with_reducible apply sr_nx
  | with_reducible apply sr_assoc
  | with_reducible apply ap_fg
  | ((with_reducible apply fgK_nx); (exact rfl); (walk_at "l"); skip)
  | ((with_reducible apply fgK_ct); (exact rfl); (walk_at "l"); skip)
  | ((with_reducible apply fgK_bk); (exact rfl); (walk_at "l"); skip)
  | with_reducible apply fgK_ret
  | with_reducible apply sr_bk1
  | with_reducible apply sr_ct1
  | with_reducible apply sr_nx1
  | with_reducible apply sr_ct
  | with_reducible apply sr_bk
  | (with_reducible apply sr_retS); (walk_at "e"); skip
  | (with_reducible apply sr_ret); (walk_at "e"); skip
  | (with_reducible apply sr_if); (walk_at "e"); (walk_at "l")
  | (with_reducible apply sr_if1); (walk_at "e"); (walk_at "l")
  | (with_reducible apply seq_nx); (walk_at "st")
  | (with_reducible apply one_nx); (walk_at "st"))
local macro_rules | `(tactic| walk_at "r") => `(tactic| repeat' (first | (intro _) | walk_at "s"))
local macro_rules | `(tactic| walk_at "k") => `(tactic| (intro q; (try simp only [decide_eq_true_eq, decide_eq_false_iff_not, beq_iff_eq, beq_eq_false_iff_ne, ne_eq, Bool.not_eq_true', Bool.not_eq_false', Bool.and_eq_true, Bool.or_eq_true, Bool.and_eq_false_iff, Bool.or_eq_false_iff, Int.not_lt, Int.not_le, List.cons.injEq, and_true, reduceCtorEq, beq_self_eq_true, Bool.not_true, Bool.not_false, Bool.or_false, Bool.false_or, Bool.or_true, Bool.true_or, Bool.and_false, Bool.false_and, Bool.and_true, Bool.true_and, not_true_eq_false, Bool.false_eq_true] at q) <;> (try (exfalso; first | (cases q; done) | omega | contradiction))))
local macro_rules | `(tactic| walk_at "w") => `(tactic| repeat' (first | (walk_at "k") | walk_at "s"))
local macro_rules | `(tactic| walk_at "e") => `(tactic| first | ((with_reducible apply er_ifT); (walk_at "e"); (walk_at "e")) | ((with_reducible apply er_ifF); (walk_at "e"); (walk_at "e")))
local macro_rules | `(tactic| walk_at "c") => `(tactic| first | with_reducible assumption | with_reducible exact leap_ok _)
local macro_rules | `(tactic| walk_at "c") => `(tactic| first | with_reducible assumption | with_reducible exact leap_ok _ | with_reducible exact dbf_ok _ | ((with_reducible refine ml_ok _ _ ?_ ?_) <;> omega) | ((with_reducible refine len_ok _ _ ?_ ?_) <;> omega))
def nonB : D → Bool
  | .non => true
  | _ => false
def isI : D → Bool
  | .int _ => true
  | _ => false
theorem isi_ok (v : D) (h : VW v) : d_is_integer [v] = some (.dat (.bl (isI v))) := by
  cases v with
  | non =>
    unfold d_is_integer b_is_integer
    refine runP_ap (g := [.dat .non]) rfl rfl ?_
    walk_at "w"
    exact rfl
  | bl b =>
    unfold d_is_integer b_is_integer
    refine runP_ap (g := [.dat (.bl b)]) rfl rfl ?_
    walk_at "w"
    exact rfl
  | int i =>
    unfold d_is_integer b_is_integer
    refine runP_ap (g := [.dat (.int i)]) rfl rfl ?_
    walk_at "w"
    exact rfl
  | str t =>
    unfold d_is_integer b_is_integer
    refine runP_ap (g := [.dat (.str t)]) rfl rfl ?_
    walk_at "w"
    exact rfl
  | _ => exact h.elim
def fin (neg : Bool) (v : Nat) : D := if 1000000000000000 < v then .non else .int (if neg = true then -(v : Int) else (v : Int))
def limV (n : Int) : D := if -1000000000000000 ≤ n ∧ n ≤ 1000000000000000 then .int n else .non
theorem lim_vw (n : Int) : VW (limV n) := by
  unfold limV
  split
  · exact show n.natAbs ≤ 10 ^ 15 by omega
  · exact trivial
theorem lim_ok (n : Int) : d_limited [.int n] = some (.dat (limV n)) := by
  unfold limV d_limited b_limited
  refine runP_ap (g := [.dat (.int n)]) rfl rfl ?_
  have t1 : zTst (zChain leD leD (zUn negD (zC c_GREATEST)) (zVar 0) (zC c_GREATEST)) [.dat (.int n)] = some (decide (-1000000000000000 ≤ n) && decide (n ≤ 1000000000000000), [.dat (.int n)]) := by walk_at "e"
  refine sr_if t1 rfl (fun q => ?_) (fun q => ?_)
  · rw [Bool.and_eq_true, decide_eq_true_eq, decide_eq_true_eq] at q
    rw [if_pos q]
    walk_at "s"
    exact rfl
  · rw [if_neg (by
      intro z
      rw [decide_eq_true z.1, decide_eq_true z.2] at q
      cases q)]
    walk_at "s"
    walk_at "s"
    exact rfl
def isT : D → Bool
  | .str _ => true
  | _ => false
theorem isi_str (v : D) (h : VW v) : isiD [v, .raw (.ty "str")] = some (.bl (isT v)) := by
  cases v with
  | non => exact isi_of rfl kb_non_str
  | bl b => exact isi_of rfl kb_bool_str
  | int i => exact isi_of rfl kb_int_str
  | str t => exact isi_of rfl kb_str_str
  | _ => exact h.elim
local macro_rules | `(tactic| walk_at "e") => `(tactic| first | ((with_reducible apply er_ifT); (walk_at "e"); (walk_at "e")) | ((with_reducible apply er_ifF); (walk_at "e"); (walk_at "e")))
def UOk (F : List D → Option FR) : Prop := ∀ v, VW v → ∃ r, VW r ∧ F [v] = some (.dat r)
theorem txt_of {v : D} (c : isT v = true) : ∃ t, v = .str t := by cases v <;> first | (cases c; done) | exact ⟨_, rfl⟩
theorem int_of {v : D} (c : isI v = true) : ∃ i, v = .int i := by cases v <;> first | (cases c; done) | exact ⟨_, rfl⟩
theorem u_length : UOk d_length := fun v h => by
  have hs := isi_str v h
  cases c : isT v with
  | false =>
    rw [c] at hs
    refine ⟨.non, trivial, ?_⟩
    unfold d_length b_length
    refine runP_ap (g := [.dat v]) rfl rfl ?_
    walk_at "s"
    exact rfl
  | true =>
    obtain ⟨t, rfl⟩ := txt_of c
    have hs : isiD [.str t, .raw (.ty "str")] = some (.bl true) := hs
    obtain ⟨h1, h2⟩ := (show t.length ≤ 10000 ∧ ∀ c ∈ t, c < 128 from h)
    have hr : lenD [.str t] = some (.int (t.length : Int)) := dr_lenS (Nat.le_trans h1 (by decide))
    have hv : VW (D.int (t.length : Int)) := show Int.natAbs _ ≤ 10 ^ 15 by omega
    have hsc := hv.scal
    refine ⟨D.int (t.length : Int), hv, ?_⟩
    generalize (t.length : Int) = w at *
    unfold d_length b_length
    refine runP_ap (g := [.dat (.str t)]) rfl rfl ?_
    walk_at "s"
    exact rfl
theorem u_negate : UOk d_negate := fun v h => by
  have hi := isi_ok v h
  cases c : isI v with
  | false =>
    rw [c] at hi
    refine ⟨.non, trivial, ?_⟩
    unfold d_negate b_negate
    refine runP_ap (g := [.dat v]) rfl rfl ?_
    walk_at "s"
    exact rfl
  | true =>
    obtain ⟨i, rfl⟩ := int_of c
    have hi : d_is_integer [.int i] = some (.dat (.bl true)) := hi
    have hb : i.natAbs ≤ 10 ^ 15 := h
    skip
    have hv : VW (D.int (-i)) := show Int.natAbs _ ≤ 10 ^ 15 by omega
    have hsc := hv.scal
    refine ⟨D.int (-i), hv, ?_⟩
    skip
    unfold d_negate b_negate
    refine runP_ap (g := [.dat (.int i)]) rfl rfl ?_
    walk_at "s"
    exact rfl
theorem u_is_null : UOk d_is_null := fun v h => by
  obtain ⟨b, hb⟩ : ∃ b, isD v .non = some (.bl b) := by cases v <;> first | exact h.elim | exact ⟨_, rfl⟩
  refine ⟨.bl b, trivial, ?_⟩
  unfold d_is_null b_is_null
  refine runP_ap (g := [.dat v]) rfl rfl ?_
  walk_at "s"
  exact rfl
theorem is_bl (v : D) (h : VW v) (b : Bool) : ∃ x, isD v (.bl b) = some (.bl x) := by
  cases v <;> first | exact h.elim | exact ⟨_, rfl⟩
theorem u_negated : UOk d_negated := fun v h => by
  obtain ⟨x1, h1⟩ := is_bl v h true
  obtain ⟨x2, h2⟩ := is_bl v h false
  have P : ∃ fr, d_negated [v] = some fr ∧ ∃ r, fr = .dat r ∧ VW r := by
    unfold d_negated b_negated
    refine runP_post (g := [.dat v]) rfl rfl ?_
    walk_at "r"
    all_goals exact end_post rfl ⟨_, rfl, trivial⟩
  obtain ⟨fr, e, r, rfl, hr⟩ := P
  exact ⟨r, hr, e⟩
local macro_rules | `(tactic| walk_at "e") => `(tactic| first | ((with_reducible apply er_ifT); (walk_at "e"); (walk_at "e")) | ((with_reducible apply er_ifF); (walk_at "e"); (walk_at "e")))
theorem kr_non : d_kind_rank [.non] = some (.dat (.int 0)) := by
  unfold d_kind_rank b_kind_rank
  refine runP_ap (g := [.dat .non]) rfl rfl ?_
  walk_at "w"
  exact rfl
theorem kr_bl (b : Bool) : d_kind_rank [.bl b] = some (.dat (.int 1)) := by
  unfold d_kind_rank b_kind_rank
  refine runP_ap (g := [.dat (.bl b)]) rfl rfl ?_
  walk_at "w"
  exact rfl
theorem kr_int (i : Int) : d_kind_rank [.int i] = some (.dat (.int 2)) := by
  unfold d_kind_rank b_kind_rank
  refine runP_ap (g := [.dat (.int i)]) rfl rfl ?_
  walk_at "w"
  exact rfl
theorem kr_str (t : List Nat) : d_kind_rank [.str t] = some (.dat (.int 3)) := by
  unfold d_kind_rank b_kind_rank
  refine runP_ap (g := [.dat (.str t)]) rfl rfl ?_
  walk_at "w"
  exact rfl
local macro_rules | `(tactic| walk_at "c") => `(tactic| first | with_reducible assumption | (simp only [Cn.d]; with_reducible assumption) | with_reducible exact kr_non | with_reducible exact kr_bl _ | with_reducible exact kr_int _ | with_reducible exact kr_str _)
theorem kr_ok (v : D) (h : VW v) : d_kind_rank [v] = some (.dat (.int (kd v : Nat))) := by
  cases v with
  | non => exact kr_non
  | bl b => exact kr_bl b
  | int i => exact kr_int i
  | str t => exact kr_str t
  | _ => exact h.elim
theorem rank_ok (v : D) (h : VW v) : d_rank [v] = some (.dat (rk v)) := by
  cases v with
  | non =>
    unfold d_rank b_rank
    refine runP_ap (g := [.dat .non]) rfl rfl ?_
    walk_at "w"
    exact rfl
  | bl b =>
    unfold d_rank b_rank
    refine runP_ap (g := [.dat (.bl b)]) rfl rfl ?_
    walk_at "w"
    exact rfl
  | int i =>
    unfold d_rank b_rank
    refine runP_ap (g := [.dat (.int i)]) rfl rfl ?_
    walk_at "w"
    exact rfl
  | str t =>
    unfold d_rank b_rank
    refine runP_ap (g := [.dat (.str t)]) rfl rfl ?_
    walk_at "w"
    exact rfl
  | _ => exact h.elim
theorem aint_ok (a b : D) (ha : VW a) (hb : VW b) : d_are_integers [a, b] = some (.dat (.bl (isI a && isI b))) := by
  have h1 := isi_ok a ha
  have h2 := isi_ok b hb
  generalize isI a = x at *
  generalize isI b = y at *
  unfold d_are_integers b_are_integers
  refine runP_ap (g := [.dat a, .dat b]) rfl rfl ?_
  walk_at "s"
  exact rfl
def cmpB (a b : D) : Bool := ((kd a : Int) == (kd b : Int)) && !nonB a
theorem comp_ok (a b : D) (ha : VW a) (hb : VW b) : d_comparable [a, b] = some (.dat (.bl (cmpB a b))) := by
  have h1 := kr_ok a ha
  have h2 := kr_ok b hb
  have h3 : isntD a .non = some (.bl (!nonB a)) := by cases a <;> first | exact ha.elim | rfl
  unfold cmpB
  generalize nonB a = x at *
  generalize kd a = y at *
  generalize kd b = z at *
  unfold d_comparable b_comparable
  refine runP_ap (g := [.dat a, .dat b]) rfl rfl ?_
  walk_at "s"
  exact rfl
theorem same_ok (a b : D) (ha : VW a) (hb : VW b) : d_same [a, b] = some (.dat (.bl (sameV a b))) := by
  have h1 := rank_ok a ha
  have h2 := rank_ok b hb
  have h3 := eq_rkW ha hb
  have s1 := (rk_rokW ha).1
  unfold d_same b_same
  refine runP_ap (g := [.dat a, .dat b]) rfl rfl ?_
  generalize rk a = x at *
  generalize rk b = y at *
  generalize sameV a b = z at *
  walk_at "s"
  exact rfl
theorem before_ok (a b : D) (ha : VW a) (hb : VW b) : d_before [a, b] = some (.dat (.bl (ltV a b))) := by
  have h1 := rank_ok a ha
  have h2 := rank_ok b hb
  have h3 := lt_rkW ha hb
  rw [ltR1W ha hb] at h3
  unfold d_before b_before
  refine runP_ap (g := [.dat a, .dat b]) rfl rfl ?_
  generalize rk a = x at *
  generalize rk b = y at *
  generalize ltV a b = z at *
  walk_at "s"
  exact rfl
/-- the program's six -/
def eqV (a b : D) : D := if cmpB a b = true then .bl (sameV a b) else .non
def leV (a b : D) : D := if cmpB a b = true then .bl (!ltV b a) else .non
def lessV (a b : D) : D := if cmpB a b = true then .bl (ltV a b) else .non
def leastV (a b : D) : D := if cmpB a b = true then (if ltV b a = true then b else a) else .non
theorem equal_ok (a b : D) (ha : VW a) (hb : VW b) : d_equal [a, b] = some (.dat (eqV a b)) := by
  have h1 := comp_ok a b ha hb
  have h2 := same_ok a b ha hb
  unfold eqV d_equal b_equal
  refine runP_ap (g := [.dat a, .dat b]) rfl rfl ?_
  generalize sameV a b = z at *
  cases h : cmpB a b <;> rw [h] at h1
  · rw [if_neg Bool.false_ne_true]
    walk_at "s"
    exact rfl
  · rw [if_pos rfl]
    walk_at "s"
    exact rfl
theorem less_ok (a b : D) (ha : VW a) (hb : VW b) : d_less [a, b] = some (.dat (lessV a b)) := by
  have h1 := comp_ok a b ha hb
  have h2 := before_ok a b ha hb
  unfold lessV d_less b_less
  refine runP_ap (g := [.dat a, .dat b]) rfl rfl ?_
  generalize ltV a b = z at *
  cases h : cmpB a b <;> rw [h] at h1
  · rw [if_neg Bool.false_ne_true]
    walk_at "s"
    exact rfl
  · rw [if_pos rfl]
    walk_at "s"
    exact rfl
theorem most_ok (a b : D) (ha : VW a) (hb : VW b) : d_at_most [a, b] = some (.dat (leV a b)) := by
  have h1 := comp_ok a b ha hb
  have h2 := before_ok b a hb ha
  unfold leV d_at_most b_at_most
  refine runP_ap (g := [.dat a, .dat b]) rfl rfl ?_
  generalize ltV b a = z at *
  cases h : cmpB a b <;> rw [h] at h1
  · rw [if_neg Bool.false_ne_true]
    walk_at "s"
    exact rfl
  · rw [if_pos rfl]
    walk_at "s"
    exact rfl
theorem least_ok (a b : D) (ha : VW a) (hb : VW b) : d_least [a, b] = some (.dat (leastV a b)) := by
  have h1 := comp_ok a b ha hb
  have h2 := before_ok b a hb ha
  have s1 := ha.scal
  have s2 := hb.scal
  unfold leastV d_least b_least
  refine runP_ap (g := [.dat a, .dat b]) rfl rfl ?_
  generalize cmpB a b = c at *
  generalize ltV b a = z at *
  cases c
  · rw [if_neg Bool.false_ne_true]
    walk_at "s"
    · intro _
      walk_at "s"
      exact rfl
    · walk_at "k"
  · rw [if_pos rfl]
    walk_at "s"
    · walk_at "k"
    · intro _
      walk_at "s"
      cases z
      · rw [if_neg Bool.false_ne_true]
        walk_at "s"
        exact rfl
      · rw [if_pos rfl]
        walk_at "s"
        exact rfl
def BOk (F : List D → Option FR) : Prop := ∀ a b, VW a → VW b → ∃ r, VW r ∧ F [a, b] = some (.dat r)
theorem bif_vw {c : Bool} {x y : D} (h : VW x) (k : VW y) : VW (if c = true then x else y) := by cases c <;> assumption
theorem w_equal : BOk d_equal := fun a b ha hb => ⟨eqV a b, bif_vw (x := .bl _) (y := .non) trivial trivial, equal_ok a b ha hb⟩
theorem w_less : BOk d_less := fun a b ha hb => ⟨lessV a b, bif_vw (x := .bl _) (y := .non) trivial trivial, less_ok a b ha hb⟩
theorem w_at_most : BOk d_at_most := fun a b ha hb => ⟨leV a b, bif_vw (x := .bl _) (y := .non) trivial trivial, most_ok a b ha hb⟩
theorem w_same : BOk d_same := fun a b ha hb => ⟨.bl (sameV a b), trivial, same_ok a b ha hb⟩
theorem w_least : BOk d_least := fun a b ha hb => ⟨leastV a b, bif_vw (y := .non) (bif_vw hb ha) trivial, least_ok a b ha hb⟩
theorem w_coalesce : BOk d_coalesce := fun a b ha hb => by
  have hn : isD a .non = some (.bl (nonB a)) := by cases a <;> first | exact ha.elim | rfl
  have s1 := ha.scal
  have s2 := hb.scal
  cases c : nonB a <;> rw [c] at hn
  · refine ⟨a, ha, ?_⟩
    unfold d_coalesce b_coalesce
    refine runP_ap (g := [.dat a, .dat b]) rfl rfl ?_
    walk_at "s"
    exact rfl
  · refine ⟨b, hb, ?_⟩
    unfold d_coalesce b_coalesce
    refine runP_ap (g := [.dat a, .dat b]) rfl rfl ?_
    walk_at "s"
    exact rfl
theorem ints_of {a b : D} (h : (isI a && isI b) = true) : ∃ i j, a = .int i ∧ b = .int j := by
  rw [Bool.and_eq_true] at h
  cases a <;> first | (cases h.1; done) | skip
  cases b <;> first | (cases h.2; done) | skip
  exact ⟨_, _, rfl, rfl⟩
theorem vw_int {i : Int} (h : VW (.int i)) : -(2 ^ 256) < i ∧ i < 2 ^ 256 ∧ i.natAbs < 10 ^ 60 := by
  have h : i.natAbs ≤ 10 ^ 15 := h
  omega
theorem w_added : BOk d_added := fun a b ha hb => by
  have hI := aint_ok a b ha hb
  cases c : (isI a && isI b) <;> rw [c] at hI
  · refine ⟨.non, trivial, ?_⟩
    unfold d_added b_added
    refine runP_ap (g := [.dat a, .dat b]) rfl rfl ?_
    walk_at "s"
    exact rfl
  · obtain ⟨i, j, rfl, rfl⟩ := ints_of c
    have bi := vw_int ha
    have bj := vw_int hb
    have hl := lim_ok (i + j)
    have hs := (lim_vw (i + j)).scal
    clear bi bj
    refine ⟨limV (i + j), lim_vw _, ?_⟩
    generalize limV (i + j) = v at *
    unfold d_added b_added
    refine runP_ap (g := [.dat (.int i), .dat (.int j)]) rfl rfl ?_
    walk_at "s"
    exact rfl
theorem texts_ok (a b : D) (ha : VW a) (hb : VW b) : d_are_texts [a, b] = some (.dat (.bl (isT a && isT b))) := by
  have h1 := isi_str a ha
  have h2 := isi_str b hb
  generalize isT a = x at *
  generalize isT b = y at *
  unfold d_are_texts b_are_texts
  refine runP_ap (g := [.dat a, .dat b]) rfl rfl ?_
  walk_at "s"
  exact rfl
theorem two_txt {a b : D} (c : (isT a && isT b) = true) : ∃ s t, a = .str s ∧ b = .str t := by
  rw [Bool.and_eq_true] at c
  obtain ⟨s, rfl⟩ := txt_of c.1
  obtain ⟨t, rfl⟩ := txt_of c.2
  exact ⟨s, t, rfl, rfl⟩
theorem joined_ok (s t : List Nat) (hs : s.length ≤ 10000) (ht : t.length ≤ 10000) : d_joined [.str s, .str t] = some (.dat (if s.length + t.length ≤ 10000 then .str (s ++ t) else .non)) := by
  have h : d_are_texts [.str s, .str t] = some (.dat (.bl true)) := by
    unfold d_are_texts b_are_texts
    refine runP_ap (g := [.dat (.str s), .dat (.str t)]) rfl rfl ?_
    have h1 : isiD [.str s, .raw (.ty "str")] = some (.bl true) := isi_of rfl kb_str_str
    have h2 : isiD [.str t, .raw (.ty "str")] = some (.bl true) := isi_of rfl kb_str_str
    walk_at "s"
    exact rfl
  have l1 : lenD [.str s] = some (.int (s.length : Int)) := dr_lenS (Nat.le_trans hs (by decide))
  have l2 : lenD [.str t] = some (.int (t.length : Int)) := dr_lenS (Nat.le_trans ht (by decide))
  have hc : addS (.str s) (.str t) = some (.str (s ++ t)) := dr_cat (Nat.le_trans (show s.length + t.length ≤ 20000 by omega) (by decide))
  unfold d_joined b_joined
  refine runP_ap (g := [.dat (.str s), .dat (.str t)]) rfl rfl ?_
  have t1 : zOrT (zNotT (zTru (zCall d_are_texts (zCons (zVar 0) (zCons (zVar 1) (zNil)))))) (zTst (zOp gtD (zOp addS (zCallS lenD (zCons (zVar 0) (zNil))) (zCallS lenD (zCons (zVar 1) (zNil)))) (zC c_MOST))) [.dat (.str s), .dat (.str t)] = some (decide ((10000 : Int) < (s.length : Int) + (t.length : Int)), [.dat (.str s), .dat (.str t)]) := er_orTF (b1 := !true) (er_notT (er_tru (er_callV (er_cons rfl (er_cons rfl er_nil)) rfl h rfl) rfl rfl)) rfl (er_tst (er_op (er_op (er_callS (er_cons rfl er_nil) rfl l1 rfl) (er_callS (er_cons rfl er_nil) rfl l2 rfl) rfl rfl rfl rfl) er_C rfl rfl rfl rfl))
  refine sr_if t1 rfl (fun q => ?_) (fun q => ?_)
  · have q := of_decide_eq_true q
    rw [if_neg (by omega)]
    walk_at "s"
    exact rfl
  · have q := of_decide_eq_false q
    rw [if_pos (by omega)]
    generalize s ++ t = u at *
    walk_at "s"
    walk_at "s"
    exact rfl
theorem w_joined' : BOk d_joined := fun a b ha hb => by
  have h := texts_ok a b ha hb
  cases c : (isT a && isT b) <;> rw [c] at h
  · refine ⟨.non, trivial, ?_⟩
    unfold d_joined b_joined
    refine runP_ap (g := [.dat a, .dat b]) rfl rfl ?_
    refine sr_if (er_orTt (b := !false) (er_notT (er_tru (er_callV (er_cons rfl (er_cons rfl er_nil)) rfl h rfl) rfl rfl)) rfl) rfl (fun _ => ?_) (fun q => by cases q)
    walk_at "s"
    exact rfl
  · obtain ⟨s, t, rfl, rfl⟩ := two_txt c
    obtain ⟨a1, a2⟩ := (show s.length ≤ 10000 ∧ ∀ c ∈ s, c < 128 from ha)
    obtain ⟨b1, b2⟩ := (show t.length ≤ 10000 ∧ ∀ c ∈ t, c < 128 from hb)
    refine ⟨_, ?_, joined_ok s t a1 b1⟩
    by_cases q : s.length + t.length ≤ 10000
    · rw [if_pos q]
      exact ⟨by rw [List.length_append]; exact q, fun c hc => by
        rcases List.mem_append.mp hc with hc | hc
        · exact a2 c hc
        · exact b2 c hc⟩
    · rw [if_neg q]; exact trivial
local macro_rules | `(tactic| walk_at "e") => `(tactic| first | ((with_reducible apply er_ifT); (walk_at "e"); (walk_at "e")) | ((with_reducible apply er_ifF); (walk_at "e"); (walk_at "e")))
theorem joinL_len (s : List Nat) : ∀ (L : List (List Nat)), L ≠ [] → (TL.joinL s L).length = (L.map List.length).sum + s.length * (L.length - 1)
  | [p], _ => by simp [TL.joinL]
  | p :: q :: L, _ => by
    have ih := joinL_len s (q :: L) (by simp)
    have e : TL.joinL s (p :: q :: L) = p ++ (s ++ TL.joinL s (q :: L)) := rfl
    rw [e, List.length_append, List.length_append, ih]
    simp only [List.map_cons, List.sum_cons, List.length_cons, Nat.add_sub_cancel]
    rw [Nat.mul_add]
    omega
theorem joinL_mem {s : List Nat} {c : Nat} : ∀ {L : List (List Nat)}, c ∈ TL.joinL s L → c ∈ s ∨ ∃ p ∈ L, c ∈ p
  | [], h => by cases h
  | [p], h => .inr ⟨p, List.mem_cons_self, by simpa [TL.joinL] using h⟩
  | p :: q :: L, h => by
    have e : TL.joinL s (p :: q :: L) = p ++ (s ++ TL.joinL s (q :: L)) := rfl
    rw [e] at h
    rcases List.mem_append.mp h with h | h
    · exact .inr ⟨p, List.mem_cons_self, h⟩
    · rcases List.mem_append.mp h with h | h
      · exact .inl h
      · rcases joinL_mem h with h | ⟨x, hx, hc⟩
        · exact .inl h
        · exact .inr ⟨x, List.mem_cons_of_mem _ hx, hc⟩
theorem un_run {nm : List Nat} {F : List D → Option FR} {a r : D} (h : look tab_UNARY_DEEDS nm = some F) (e : F [a] = some (.dat r)) (hs : r.scal = true) : d_unary [.str nm, a] = some (.dat r) := by
  have hc : zCall F (zCons (zVar 1) zNil) [.dat (.str nm), .dat a, .un] = some (.dat r, [.dat (.str nm), .dat a, .un]) := er_callV (er_cons rfl er_nil) rfl e hs
  have hr : zRet (zCall F (zCons (zVar 1) zNil)) [.dat (.str nm), .dat a, .un] = some (.ret (.dat r), [.dat (.str nm), .dat a, .un]) := by
    unfold zRet
    simp only [hc, Option.bind_eq_bind, Option.bind_some]
  have hd : zDeed 2 tab_UNARY_DEEDS (zVar 0) (zCons (zVar 1) (zNil)) [.dat (.str nm), .dat a, .un] = some (.ret (.dat r), [.dat (.str nm), .dat a, .un]) := deed_run (g1 := [.dat (.str nm), .dat a, .un]) rfl h rfl hr
  unfold d_unary b_unary
  refine runP_ap (g := [.dat (.str nm), .dat a, .un]) rfl rfl ?_
  show finK (zDeed 2 tab_UNARY_DEEDS (zVar 0) (zCons (zVar 1) (zNil)) [.dat (.str nm), .dat a, .un]) = _
  rw [hd]
  rfl
theorem bin_run {nm : List Nat} {F : List D → Option FR} {a b r : D} (h : look tab_BINARY_DEEDS nm = some F) (e : F [a, b] = some (.dat r)) (hs : r.scal = true) : d_binary [.str nm, a, b] = some (.dat r) := by
  have hc : zCall F (zCons (zVar 1) (zCons (zVar 2) zNil)) [.dat (.str nm), .dat a, .dat b, .un] = some (.dat r, [.dat (.str nm), .dat a, .dat b, .un]) := er_callV (er_cons rfl (er_cons rfl er_nil)) rfl e hs
  have hr : zRet (zCall F (zCons (zVar 1) (zCons (zVar 2) zNil))) [.dat (.str nm), .dat a, .dat b, .un] = some (.ret (.dat r), [.dat (.str nm), .dat a, .dat b, .un]) := by
    unfold zRet
    simp only [hc, Option.bind_eq_bind, Option.bind_some]
  have hd : zDeed 3 tab_BINARY_DEEDS (zVar 0) (zCons (zVar 1) (zCons (zVar 2) (zNil))) [.dat (.str nm), .dat a, .dat b, .un] = some (.ret (.dat r), [.dat (.str nm), .dat a, .dat b, .un]) := deed_run (g1 := [.dat (.str nm), .dat a, .dat b, .un]) rfl h rfl hr
  unfold d_binary b_binary
  refine runP_ap (g := [.dat (.str nm), .dat a, .dat b, .un]) rfl rfl ?_
  show finK (zDeed 3 tab_BINARY_DEEDS (zVar 0) (zCons (zVar 1) (zCons (zVar 2) (zNil))) [.dat (.str nm), .dat a, .dat b, .un]) = _
  rw [hd]
  rfl
def NU : List (List Nat) := [[110, 111, 116], [110, 101, 103, 97, 116, 101], [105, 115, 32, 110, 117, 108, 108], [108, 101, 110, 103, 116, 104]]
theorem unary_ok {nm : List Nat} (h : nm ∈ NU) {a : D} (ha : VW a) : ∃ r, VW r ∧ d_unary [.str nm, a] = some (.dat r) := by
  simp only [NU, List.mem_cons, List.not_mem_nil, or_false] at h
  rcases h with rfl | rfl | rfl | rfl
  · obtain ⟨r, h1, h2⟩ := u_negated a ha
    exact ⟨r, h1, un_run (F := d_negated) rfl h2 h1.scal⟩
  · obtain ⟨r, h1, h2⟩ := u_negate a ha
    exact ⟨r, h1, un_run (F := d_negate) rfl h2 h1.scal⟩
  · obtain ⟨r, h1, h2⟩ := u_is_null a ha
    exact ⟨r, h1, un_run (F := d_is_null) rfl h2 h1.scal⟩
  · obtain ⟨r, h1, h2⟩ := u_length a ha
    exact ⟨r, h1, un_run (F := d_length) rfl h2 h1.scal⟩
def NB : List (List Nat) := [[101, 113, 117, 97, 108], [108, 101, 115, 115], [97, 116, 32, 109, 111, 115, 116], [115, 97, 109, 101], [108, 101, 97, 115, 116], [97, 100, 100], [106, 111, 105, 110], [99, 111, 97, 108, 101, 115, 99, 101]]
theorem binary_ok {nm : List Nat} (h : nm ∈ NB) {a : D} (ha : VW a) {b : D} (hb : VW b) : ∃ r, VW r ∧ d_binary [.str nm, a, b] = some (.dat r) := by
  simp only [NB, List.mem_cons, List.not_mem_nil, or_false] at h
  rcases h with rfl | rfl | rfl | rfl | rfl | rfl | rfl | rfl
  · obtain ⟨r, h1, h2⟩ := w_equal a b ha hb
    exact ⟨r, h1, bin_run (F := d_equal) rfl h2 h1.scal⟩
  · obtain ⟨r, h1, h2⟩ := w_less a b ha hb
    exact ⟨r, h1, bin_run (F := d_less) rfl h2 h1.scal⟩
  · obtain ⟨r, h1, h2⟩ := w_at_most a b ha hb
    exact ⟨r, h1, bin_run (F := d_at_most) rfl h2 h1.scal⟩
  · obtain ⟨r, h1, h2⟩ := w_same a b ha hb
    exact ⟨r, h1, bin_run (F := d_same) rfl h2 h1.scal⟩
  · obtain ⟨r, h1, h2⟩ := w_least a b ha hb
    exact ⟨r, h1, bin_run (F := d_least) rfl h2 h1.scal⟩
  · obtain ⟨r, h1, h2⟩ := w_added a b ha hb
    exact ⟨r, h1, bin_run (F := d_added) rfl h2 h1.scal⟩
  · obtain ⟨r, h1, h2⟩ := w_joined' a b ha hb
    exact ⟨r, h1, bin_run (F := d_joined) rfl h2 h1.scal⟩
  · obtain ⟨r, h1, h2⟩ := w_coalesce a b ha hb
    exact ⟨r, h1, bin_run (F := d_coalesce) rfl h2 h1.scal⟩
def NT : List (List Nat) := []
theorem ternary_ok {nm : List Nat} (h : nm ∈ NT) {a : D} (ha : VW a) {b : D} (hb : VW b) {c : D} (hc : VW c) : ∃ r, VW r ∧ d_ternary [.str nm, a, b, c] = some (.dat r) := by
  simp only [NT, List.not_mem_nil] at h
local macro_rules | `(tactic| walk_at "e") => `(tactic| first | ((with_reducible apply er_ifT); (walk_at "e"); (walk_at "e")) | ((with_reducible apply er_ifF); (walk_at "e"); (walk_at "e")))
abbrev sCON : List Nat := [99, 111, 110, 115, 116, 97, 110, 116]
abbrev sCOL : List Nat := [99, 111, 108, 117, 109, 110]
abbrev sUN : List Nat := [117, 110, 97, 114, 121]
abbrev sBIN : List Nat := [98, 105, 110, 97, 114, 121]
abbrev sTER : List Nat := [116, 101, 114, 110, 97, 114, 121]
abbrev sCHO : List Nat := [99, 104, 111, 105, 99, 101]
/-- an expression of at most this depth; C: what is known of its constants; w: its columns are below -/
inductive Ex (C : D → Prop) (w : Int) : Nat → D → Prop
  | con {k : Nat} {v : D} : C v → Ex C w k (.tup [.str sCON, v])
  | col {k : Nat} {c : Int} : 0 ≤ c → c < w → Ex C w k (.tup [.str sCOL, .int c])
  | un {k : Nat} {nm : List Nat} {a : D} : nm ∈ NU → Ex C w k a → Ex C w (k + 1) (.tup [.str sUN, .str nm, a])
  | bin {k : Nat} {nm : List Nat} {a b : D} : nm ∈ NB → Ex C w k a → Ex C w k b → Ex C w (k + 1) (.tup [.str sBIN, .str nm, a, b])
  | ter {k : Nat} {nm : List Nat} {a b c : D} : nm ∈ NT → Ex C w k a → Ex C w k b → Ex C w k c → Ex C w (k + 1) (.tup [.str sTER, .str nm, a, b, c])
  | cho {k : Nat} {a b c : D} : Ex C w k a → Ex C w k b → Ex C w k c → Ex C w (k + 1) (.tup [.str sCHO, a, b, c])
theorem Ex.up {C : D → Prop} {w : Int} {k : Nat} {d : D} (h : Ex C w k d) : ∀ {j : Nat}, k ≤ j → Ex C w j d := by
  induction h with
  | con h => intro j _; exact .con h
  | col h k => intro j _; exact .col h k
  | un hn _ ih => intro j hj; obtain ⟨j, rfl⟩ : ∃ i, j = i + 1 := ⟨j - 1, by omega⟩; exact .un hn (ih (by omega))
  | bin hn _ _ i1 i2 => intro j hj; obtain ⟨j, rfl⟩ : ∃ i, j = i + 1 := ⟨j - 1, by omega⟩; exact .bin hn (i1 (by omega)) (i2 (by omega))
  | ter hn _ _ _ i1 i2 i3 => intro j hj; obtain ⟨j, rfl⟩ : ∃ i, j = i + 1 := ⟨j - 1, by omega⟩; exact .ter hn (i1 (by omega)) (i2 (by omega)) (i3 (by omega))
  | cho _ _ _ i1 i2 i3 => intro j hj; obtain ⟨j, rfl⟩ : ∃ i, j = i + 1 := ⟨j - 1, by omega⟩; exact .cho (i1 (by omega)) (i2 (by omega)) (i3 (by omega))
def frV : Option FR → D
  | some (.dat v) => v
  | _ => .non
def bTrue : D → Bool
  | .bl b => b
  | _ => false
theorem is_true {v : D} (h : VW v) : isD v (.bl true) = some (.bl (bTrue v)) := by
  cases v with
  | bl b => cases b <;> rfl
  | non => rfl
  | int i => rfl
  | str t => rfl
  | _ => exact h.elim
theorem cutL_from {α : Type} (t : List α) {q : Nat} (h : q ≤ t.length) : cutL t (some (q : Int)) none = t.drop q := by
  have a : HT.sIx t.length 0 (some (q : Int)) = q := by rw [HT.sIx_nat, Nat.min_eq_left h]
  have b : HT.sIx t.length t.length none = t.length := rfl
  unfold cutL
  rw [a, b, List.take_of_length_le (by rw [List.length_drop]; omega)]
theorem col_ix {row : List D} (hr : ∀ v ∈ row, VW v) {c : Int} (h0 : 0 ≤ c) (h1 : c < (row.length : Int)) : ∃ v, ixD (.lst row) c = some v ∧ VW v := by
  obtain ⟨x, e, m⟩ := atI_lt (xs := row) h0 h1
  exact ⟨x, e, hr x m⟩
theorem ev_lc {F : List D → Option FR} {h0 h1 f : D} {L row : List D} (hx : ∀ x ∈ L, ∃ v, VW v ∧ F [x, .lst row] = some (.dat v)) (hl : L.length ≤ 1000) :
    zLc (ziT (zSl (zVar 0) (zoS (zC (.int 2))) (zoN))) (gN 4) (zYes) (zCall F (zCons (zVar 4) (zCons (zVar 1) (zNil)))) [4] [.dat (.tup (h0 :: h1 :: L)), .dat (.lst row), .dat f, .un, .un] = some (.bor 5, [.dat (.tup (h0 :: h1 :: L)), .dat (.lst row), .dat f, .un, .un] ++ [.own (.lst (L.map fun x => frV (F [x, .lst row]))) false false]) := by
  have hc : cutL (h0 :: h1 :: L) (some ((2 : Nat) : Int)) none = L := cutL_from _ (by simp)
  have hm : ziT (zSl (zVar 0) (zoS (zC (.int 2))) (zoN)) [.dat (.tup (h0 :: h1 :: L)), .dat (.lst row), .dat f, .un, .un] = some (L, none, [.dat (.tup (h0 :: h1 :: L)), .dat (.lst row), .dat f, .un, .un]) := by
    have e := er_slT (ma := zVar 0) (ml := zoS (zC (.int 2))) (mh := zoN) (g := [.dat (.tup (h0 :: h1 :: L)), .dat (.lst row), .dat f, .un, .un]) (l := h0 :: h1 :: L) rfl (er_zoS er_C) rfl
    rw [show (some (2 : Int)) = some ((2 : Nat) : Int) from rfl, hc] at e
    exact mi_T e
  have e := er_lc1 (b := fun _ => true) (f := fun x => frV (F [x, .lst row])) (tg := gN 4) (tt := zYes) (el := zCall F (zCons (zVar 4) (zCons (zVar 1) (zNil)))) (vs := [4]) (base := [.dat (.tup (h0 :: h1 :: L)), .dat (.lst row), .dat f, .un, .un]) hm (fun o => rfl) (fun o => rfl) (Nat.le_trans hl (by decide))
    (fun x hxm => lc_dat (h := [.dat (.tup (h0 :: h1 :: L)), .dat (.lst row), .dat f, .un, .dat x]) rfl (fun o => rfl) (fun o => rfl) (fun o => rfl) (fun o => rfl) (fun _ o => by
      obtain ⟨v, hv, e⟩ := hx x hxm
      have e2 : frV (F [x, .lst row]) = v := by rw [e]; rfl
      rw [e2]
      exact er_callV (er_cons rfl (er_cons rfl er_nil)) rfl e hv.scal))
  rw [List.filter_eq_self.mpr (fun _ _ => rfl)] at e
  exact e
local macro_rules | `(tactic| walk_at "n") => `(tactic| first
  | ((with_reducible apply sr_if (b := false)); (exact rfl); (walk_at "l"); (intro q; cases q); (intro _); walk_at "s")
  | ((with_reducible apply sr_if (b := true)); (exact rfl); (walk_at "l"); (intro _); (rotate_left); (intro q; cases q)))
theorem ev_con (F : List D → Option FR) (v : D) (row : List D) (h : VW v) : runP 5 2 (b_evaluate F) [.tup [.str sCON, v], .lst row] = some (.dat v) := by
  have hs := h.scal
  unfold b_evaluate
  refine runP_ap (g := [.dat (.tup [.str sCON, v]), .dat (.lst row), .un, .un, .un]) rfl rfl ?_
  walk_at "s"
  walk_at "n"
  walk_at "s"
  exact rfl
theorem ev_col (F : List D → Option FR) (c : Int) (row : List D) (h0 : 0 ≤ c) (hr : ∀ v ∈ row, VW v) : ∃ v, VW v ∧ runP 5 2 (b_evaluate F) [.tup [.str sCOL, .int c], .lst row] = some (.dat v) ∧ v = (if c < (row.length : Int) then frV ((ixD (.lst row) c).map FR.dat) else .non) := by
  by_cases q : c < (row.length : Int)
  · obtain ⟨v, e, hv⟩ := col_ix hr h0 q
    have hs := hv.scal
    refine ⟨v, hv, ?_, by rw [if_pos q, e]; rfl⟩
    unfold b_evaluate
    refine runP_ap (g := [.dat (.tup [.str sCOL, .int c]), .dat (.lst row), .un, .un, .un]) rfl rfl ?_
    walk_at "s"
    walk_at "n"
    walk_at "n"
    have t : zTst (zOp ltX (zIx (zVar 0) (zC (.int 1))) (zCallS lenD (zCons (zVar 1) (zNil)))) [.dat (.tup [.str sCOL, .int c]), .dat (.lst row), .dat (.str sCOL), .un, .un] = some (true, [.dat (.tup [.str sCOL, .int c]), .dat (.lst row), .dat (.str sCOL), .un, .un]) := by
      rw [← decide_eq_true q]
      walk_at "e"
    refine sr_retS (er_ifT t (er_ix rfl (er_ix rfl er_C rfl rfl) rfl e)) rfl
  · refine ⟨.non, trivial, ?_, by rw [if_neg q]⟩
    unfold b_evaluate
    refine runP_ap (g := [.dat (.tup [.str sCOL, .int c]), .dat (.lst row), .un, .un, .un]) rfl rfl ?_
    walk_at "s"
    walk_at "n"
    walk_at "n"
    have t : zTst (zOp ltX (zIx (zVar 0) (zC (.int 1))) (zCallS lenD (zCons (zVar 1) (zNil)))) [.dat (.tup [.str sCOL, .int c]), .dat (.lst row), .dat (.str sCOL), .un, .un] = some (false, [.dat (.tup [.str sCOL, .int c]), .dat (.lst row), .dat (.str sCOL), .un, .un]) := by
      rw [← decide_eq_false q]
      walk_at "e"
    refine sr_retS (er_ifF t er_C) rfl
theorem ev_cho (F : List D → Option FR) (a b c va vb vc : D) (row : List D) (ha : F [a, .lst row] = some (.dat va)) (hb : F [b, .lst row] = some (.dat vb)) (hc : F [c, .lst row] = some (.dat vc)) (wa : VW va) (wb : VW vb) (wc : VW vc) : runP 5 2 (b_evaluate F) [.tup [.str sCHO, a, b, c], .lst row] = some (.dat (if bTrue va = true then vb else vc)) := by
  have ht := is_true wa
  have sa := wa.scal
  have sb := wb.scal
  have sc := wc.scal
  unfold b_evaluate
  refine runP_ap (g := [.dat (.tup [.str sCHO, a, b, c]), .dat (.lst row), .un, .un, .un]) rfl rfl ?_
  walk_at "s"
  walk_at "n"
  walk_at "n"
  walk_at "n"
  generalize bTrue va = x at *
  have t : zTst (zOp isD (zCall F (zCons (zIx (zVar 0) (zC (.int 1))) (zCons (zVar 1) (zNil)))) (zC (.bl true))) [.dat (.tup [.str sCHO, a, b, c]), .dat (.lst row), .dat (.str sCHO), .un, .un] = some (x, [.dat (.tup [.str sCHO, a, b, c]), .dat (.lst row), .dat (.str sCHO), .un, .un]) := er_tst (er_op (er_callV (er_cons (er_ix rfl er_C rfl rfl) (er_cons rfl er_nil)) rfl ha sa) er_C rfl rfl ht rfl)
  refine sr_assoc (sr_if t rfl (fun q => ?_) (fun q => ?_))
  · rw [q, if_pos rfl]
    exact sr_retS (er_callV (er_cons (er_ix rfl er_C rfl rfl) (er_cons rfl er_nil)) rfl hb sb) rfl
  · rw [q, if_neg Bool.false_ne_true]
    refine sr_nx (sr_retS (er_callV (er_cons (er_ix rfl er_C rfl rfl) (er_cons rfl er_nil)) rfl hc sc) rfl)
theorem ev_un (F : List D → Option FR) (nm : List Nat) (a va r : D) (row : List D) (ha : F [a, .lst row] = some (.dat va)) (wa : VW va) (hr : d_unary [.str nm, va] = some (.dat r)) (wr : VW r) : runP 5 2 (b_evaluate F) [.tup [.str sUN, .str nm, a], .lst row] = some (.dat r) := by
  have lc := ev_lc (F := F) (h0 := .str sUN) (h1 := .str nm) (f := .str sUN) (L := [a]) (row := row) (fun x hx => by
    rw [List.mem_singleton.mp hx]; exact ⟨va, wa, ha⟩) (by simp)
  have e1 : [a].map (fun x => frV (F [x, .lst row])) = [va] := by simp [ha, frV]
  rw [e1] at lc
  have sr := wr.scal
  unfold b_evaluate
  refine runP_ap (g := [.dat (.tup [.str sUN, .str nm, a]), .dat (.lst row), .un, .un, .un]) rfl rfl ?_
  walk_at "s"
  walk_at "n"
  walk_at "n"
  walk_at "n"
  refine seq_nx (set_own lc (Nat.le_of_ble_eq_true rfl) rfl rfl rfl) ?_
  refine sr_if (b := true) rfl rfl (fun _ => ?_) (fun q => by cases q)
  exact sr_retS (er_callV (er_cons (er_ix rfl er_C rfl rfl) (er_cons (er_ix rfl er_C rfl rfl) er_nil)) rfl hr sr) rfl
theorem ev_bin (F : List D → Option FR) (nm : List Nat) (a b va vb r : D) (row : List D) (ha : F [a, .lst row] = some (.dat va)) (wa : VW va) (hb : F [b, .lst row] = some (.dat vb)) (wb : VW vb) (hr : d_binary [.str nm, va, vb] = some (.dat r)) (wr : VW r) : runP 5 2 (b_evaluate F) [.tup [.str sBIN, .str nm, a, b], .lst row] = some (.dat r) := by
  have lc := ev_lc (F := F) (h0 := .str sBIN) (h1 := .str nm) (f := .str sBIN) (L := [a, b]) (row := row) (fun x hx => by
    simp only [List.mem_cons, List.not_mem_nil, or_false] at hx
    rcases hx with rfl | rfl
    · exact ⟨va, wa, ha⟩
    · exact ⟨vb, wb, hb⟩) (by simp)
  have e1 : [a, b].map (fun x => frV (F [x, .lst row])) = [va, vb] := by simp [ha, hb, frV]
  rw [e1] at lc
  have sr := wr.scal
  unfold b_evaluate
  refine runP_ap (g := [.dat (.tup [.str sBIN, .str nm, a, b]), .dat (.lst row), .un, .un, .un]) rfl rfl ?_
  walk_at "s"
  walk_at "n"
  walk_at "n"
  walk_at "n"
  refine seq_nx (set_own lc (Nat.le_of_ble_eq_true rfl) rfl rfl rfl) ?_
  refine sr_if (b := false) rfl rfl (fun q => by cases q) (fun _ => ?_)
  refine sr_nx (sr_if (b := true) rfl rfl (fun _ => ?_) (fun q => by cases q))
  exact sr_retS (er_callV (er_cons (er_ix rfl er_C rfl rfl) (er_cons (er_ix rfl er_C rfl rfl) (er_cons (er_ix rfl er_C rfl rfl) er_nil))) rfl hr sr) rfl
theorem ev_ter (F : List D → Option FR) (nm : List Nat) (a b c va vb vc r : D) (row : List D) (ha : F [a, .lst row] = some (.dat va)) (wa : VW va) (hb : F [b, .lst row] = some (.dat vb)) (wb : VW vb) (hc : F [c, .lst row] = some (.dat vc)) (wc : VW vc) (hr : d_ternary [.str nm, va, vb, vc] = some (.dat r)) (wr : VW r) : runP 5 2 (b_evaluate F) [.tup [.str sTER, .str nm, a, b, c], .lst row] = some (.dat r) := by
  have lc := ev_lc (F := F) (h0 := .str sTER) (h1 := .str nm) (f := .str sTER) (L := [a, b, c]) (row := row) (fun x hx => by
    simp only [List.mem_cons, List.not_mem_nil, or_false] at hx
    rcases hx with rfl | rfl | rfl
    · exact ⟨va, wa, ha⟩
    · exact ⟨vb, wb, hb⟩
    · exact ⟨vc, wc, hc⟩) (by simp)
  have e1 : [a, b, c].map (fun x => frV (F [x, .lst row])) = [va, vb, vc] := by simp [ha, hb, hc, frV]
  rw [e1] at lc
  have sr := wr.scal
  unfold b_evaluate
  refine runP_ap (g := [.dat (.tup [.str sTER, .str nm, a, b, c]), .dat (.lst row), .un, .un, .un]) rfl rfl ?_
  walk_at "s"
  walk_at "n"
  walk_at "n"
  walk_at "n"
  refine seq_nx (set_own lc (Nat.le_of_ble_eq_true rfl) rfl rfl rfl) ?_
  refine sr_if (b := false) rfl rfl (fun q => by cases q) (fun _ => ?_)
  refine sr_nx (sr_if (b := false) rfl rfl (fun q => by cases q) (fun _ => ?_))
  exact sr_nx (sr_ret (er_callV (er_cons (er_ix rfl er_C rfl rfl) (er_cons (er_ix rfl er_C rfl rfl) (er_cons (er_ix rfl er_C rfl rfl) (er_cons (er_ix rfl er_C rfl rfl) er_nil)))) rfl hr sr) rfl)
/-- every expression has a value -/
theorem ev_ok {C : D → Prop} (hC : ∀ v, C v → VW v) {w : Int} {k : Nat} {d : D} (h : Ex C w k d) (row : List D) (hr : ∀ v ∈ row, VW v) : ∃ v, VW v ∧ ∀ q, k + 1 ≤ q → d_evaluate q [d, .lst row] = some (.dat v) := by
  have sh : ∀ q, 1 ≤ q → ∃ p, q = p + 1 := fun q h => ⟨q - 1, by omega⟩
  induction h with
  | con h => exact ⟨_, hC _ h, fun q hq => by obtain ⟨p, rfl⟩ := sh q (by omega); exact ev_con _ _ _ (hC _ h)⟩
  | col h0 h1 =>
    obtain ⟨v, hv, _, e⟩ := ev_col (fun _ => none) _ row h0 hr
    refine ⟨v, hv, fun q hq => ?_⟩
    obtain ⟨p, rfl⟩ := sh q (by omega)
    obtain ⟨v2, _, e2, e3⟩ := ev_col (d_evaluate p) _ row h0 hr
    rw [e, ← e3]
    exact e2
  | un hn _ ih =>
    obtain ⟨va, wa, ea⟩ := ih
    obtain ⟨r, wr, er⟩ := unary_ok hn wa
    exact ⟨r, wr, fun q hq => by obtain ⟨p, rfl⟩ := sh q (by omega); exact ev_un _ _ _ va r row (ea p (by omega)) wa er wr⟩
  | bin hn _ _ i1 i2 =>
    obtain ⟨va, wa, ea⟩ := i1
    obtain ⟨vb, wb, eb⟩ := i2
    obtain ⟨r, wr, er⟩ := binary_ok hn wa wb
    exact ⟨r, wr, fun q hq => by obtain ⟨p, rfl⟩ := sh q (by omega); exact ev_bin _ _ _ _ va vb r row (ea p (by omega)) wa (eb p (by omega)) wb er wr⟩
  | ter hn _ _ _ i1 i2 i3 =>
    obtain ⟨va, wa, ea⟩ := i1
    obtain ⟨vb, wb, eb⟩ := i2
    obtain ⟨vc, wc, ec⟩ := i3
    obtain ⟨r, wr, er⟩ := ternary_ok hn wa wb wc
    exact ⟨r, wr, fun q hq => by obtain ⟨p, rfl⟩ := sh q (by omega); exact ev_ter _ _ _ _ _ va vb vc r row (ea p (by omega)) wa (eb p (by omega)) wb (ec p (by omega)) wc er wr⟩
  | cho _ _ _ i1 i2 i3 =>
    obtain ⟨va, wa, ea⟩ := i1
    obtain ⟨vb, wb, eb⟩ := i2
    obtain ⟨vc, wc, ec⟩ := i3
    exact ⟨_, bif_vw wb wc, fun q hq => by obtain ⟨p, rfl⟩ := sh q (by omega); exact ev_cho _ _ _ _ va vb vc row (ea p (by omega)) (eb p (by omega)) (ec p (by omega)) wa wb wc⟩
local macro_rules | `(tactic| walk_at "e") => `(tactic| first | ((with_reducible apply er_ifT); (walk_at "e"); (walk_at "e")) | ((with_reducible apply er_ifF); (walk_at "e"); (walk_at "e")))
def NumG (ns : List Int) (m : Int) (acc : List Int) : G := [.dat (scriptD ns), .dat (.int m), .own (.lst (acc.map D.int)) false false, .un, .un]
theorem num_app (acc : List Int) (c : Int) : acc.map D.int ++ [D.int c] = (acc ++ [c]).map D.int := by simp
theorem num_turn (ns : List Int) (m : Int) (k : Nat) (acc : List Int) (hn : ns.length ≤ 63) (hk : k ≤ 100) (ha : acc.length ≤ 100) :
    ap (fun o => ∃ c, o = some (.nx, NumG ns m (acc ++ [c]))) (lb__law_numbers_1 [.dat (scriptD ns), .dat (.int m), .own (.lst (acc.map D.int)) false false, .dat (.int (0 + (k : Int))), .un]) = True := by
  have hz : (acc.map D.int).length < sizeLine := by rw [List.length_map]; exact Nat.lt_of_le_of_lt ha (by decide)
  have hl : (ns.map D.int).length = ns.length := List.length_map _
  have hx : 0 < ((ns.map D.int).length : Int) → ∃ c, ixD (scriptD ns) ((0 + (k : Int)) - (0 + (k : Int)) / ((ns.map D.int).length : Int) * ((ns.map D.int).length : Int)) = some (.int c) := fun h => by
    have r := round_in (k := 0 + (k : Int)) (by omega) h
    obtain ⟨x, h1, _⟩ := atI_lt (xs := ns) r.1 (by rw [← hl]; exact r.2)
    exact ⟨x, atI_map (f := D.int) h1⟩
  unfold lb__law_numbers_1 NumG
  simp only [← num_app]
  walk_at "s"
  walk_at "s"
  walk_at "s"
  · intro h
    have h := of_decide_eq_true h
    obtain ⟨c, hx⟩ := hx h
    walk_at "s"
    walk_at "r"
    all_goals exact eq_true ⟨_, rfl⟩
  · walk_at "r"
    all_goals exact eq_true ⟨_, rfl⟩
theorem numbers_ok (ns : List Int) (m : Nat) (hn : ns.length ≤ 63) (hm : m ≤ 100) : ∃ L : List Int, d__law_numbers [scriptD ns, .int m] = some (.new (.lst (L.map D.int))) ∧ L.length = m := by
  obtain ⟨g2, h1, acc, h2, h3⟩ := forL_inv (st := lb__law_numbers_1) (tg := gN 3) (L := rgD 0 m) (fun i g => ∃ acc, acc.length = i ∧ g = NumG ns m acc) 0 (NumG ns m [])
    ⟨[], rfl, rfl⟩ (fun i d g hd ⟨acc, h1, h2⟩ => by
      obtain ⟨hi, rfl⟩ := rgD_at hd
      subst h2
      obtain ⟨c, e⟩ := of_eq_true (num_turn ns m i acc hn (by omega) (by omega))
      exact ⟨_, _, rfl, .inl e, acc ++ [c], by simp; omega, rfl⟩)
  subst h3
  refine ⟨acc, ?_, by rw [h2, rgD_len]; omega⟩
  unfold d__law_numbers b__law_numbers
  refine runP_ap (g := [.dat (scriptD ns), .dat (.int m), .un, .un, .un]) rfl rfl ?_
  walk_at "s"
  refine seq_nx (for_run (mi_R1 (k := (m : Int)) rfl (rgOk_of (by omega) (by omega))) rfl (by rw [Int.toNat_natCast]; exact h1)) ?_
  unfold NumG
  walk_at "s"
  exact rfl
def VS (v : D) : Prop := VW v ∧ v.wt ≤ 200
theorem VS.vw {v : D} (h : VS v) : VW v := h.1
theorem cell_val (r : Int) : ∃ s4 s5 v, ixD (.str [97, 98]) (r / 9 % 2) = some s4 ∧ ixD (.lst [.str [], .str [97, 32, 98], .str [65]]) (r / 9 % 3) = some s5 ∧
    ixD (.lst [.non, .int (r / 9 % 4), .int (r / 9 % 4 - 1), .bl (r / 9 % 2 == 0), s4, s5, .int (r / 9 % 2)]) (r % 7) = some v ∧ VS v := by
  have h4 : ∃ s4, ixD (.str [97, 98]) (r / 9 % 2) = some s4 ∧ VS s4 := by
    rcases (show r / 9 % 2 = 0 ∨ r / 9 % 2 = 1 by omega) with h | h <;> rw [h]
    · exact ⟨_, rfl, ⟨by decide, by decide⟩, by decide⟩
    · exact ⟨_, rfl, ⟨by decide, by decide⟩, by decide⟩
  have h5 : ∃ s5, ixD (.lst [.str [], .str [97, 32, 98], .str [65]]) (r / 9 % 3) = some s5 ∧ VS s5 := by
    rcases (show r / 9 % 3 = 0 ∨ r / 9 % 3 = 1 ∨ r / 9 % 3 = 2 by omega) with h | h | h <;> rw [h]
    · exact ⟨_, rfl, ⟨by decide, by decide⟩, by decide⟩
    · exact ⟨_, rfl, ⟨by decide, by decide⟩, by decide⟩
    · exact ⟨_, rfl, ⟨by decide, by decide⟩, by decide⟩
  obtain ⟨s4, e4, v4⟩ := h4
  obtain ⟨s5, e5, v5⟩ := h5
  have vi : ∀ i : Int, -10 ≤ i ∧ i ≤ 10 → VS (.int i) := fun i h => ⟨show i.natAbs ≤ 10 ^ 15 by omega, show 200 ≤ 200 by decide⟩
  have vb : ∀ b : Bool, VS (.bl b) := fun b => ⟨trivial, by cases b <;> decide⟩
  refine ⟨s4, s5, ?_⟩
  rcases (show r % 7 = 0 ∨ r % 7 = 1 ∨ r % 7 = 2 ∨ r % 7 = 3 ∨ r % 7 = 4 ∨ r % 7 = 5 ∨ r % 7 = 6 by omega) with h | h | h | h | h | h | h <;> rw [h]
  · exact ⟨_, e4, e5, rfl, ⟨trivial, by decide⟩⟩
  · exact ⟨_, e4, e5, rfl, vi _ (by omega)⟩
  · exact ⟨_, e4, e5, rfl, vi _ (by omega)⟩
  · exact ⟨_, e4, e5, rfl, vb _⟩
  · exact ⟨_, e4, e5, rfl, v4⟩
  · exact ⟨_, e4, e5, rfl, v5⟩
  · exact ⟨_, e4, e5, rfl, vi _ (by omega)⟩
theorem cell_turn (n : Int) (w i : Nat) (acc : List D) (hi : i < 20) (ha : acc.length < 20) : ∃ v, VS v ∧ lb__law_cells_1 [.dat (.int n), .dat (.int w), .own (.lst acc) false false, .dat (.int (0 + (i : Int))), .un] = some (.nx, [.dat (.int n), .dat (.int w), .own (.lst (acc ++ [v])) false false, .un, .un]) := by
  obtain ⟨r, hr⟩ : ∃ r : Int, r = n / (7 * (0 + (i : Int)) + 3) + 5 * (0 + (i : Int)) := ⟨_, rfl⟩
  have e1 : zOp addS (zOp divD (zCallS intU (zCons (zVar 0) (zNil))) (zOp addS (zOp mulD (zC (.int 7)) (zVar 3)) (zC (.int 3)))) (zOp mulD (zC (.int 5)) (zVar 3)) [.dat (.int n), .dat (.int w), .own (.lst acc) false false, .dat (.int (0 + (i : Int))), .un] = some (.dat (.int r), [.dat (.int n), .dat (.int w), .own (.lst acc) false false, .dat (.int (0 + (i : Int))), .un]) := by
    rw [hr]
    exact er_op (er_op (er_callS (er_cons rfl er_nil) rfl rfl rfl) (er_op (er_op er_C rfl rfl rfl (dr_mull (by decide)) rfl) er_C rfl rfl rfl rfl) rfl rfl (dr_divB (by omega) (by omega)) rfl) (er_op er_C rfl rfl rfl (dr_mull (by decide)) rfl) rfl rfl rfl rfl
  obtain ⟨s4, s5, v, e4, e5, ev, hv⟩ := cell_val r
  refine ⟨v, hv, ?_⟩
  have sc := hv.1.scal
  generalize (0 + (i : Int)) = ii at *
  have d9 : ∀ (k : Int), 0 < k → zOp modD (zOp divD (zVar 4) (zC (.int 9))) (zC (.int k)) = zOp modD (zOp divD (zVar 4) (zC (.int 9))) (zC (.int k)) := fun _ _ => rfl
  have q : ∀ (k : Int) (g : G), 0 < k → zOp modD (zOp divD (zVar 4) (zC (.int 9))) (zC (.int k)) (.dat (.int n) :: .dat (.int w) :: .own (.lst acc) false false :: .dat (.int ii) :: .dat (.int r) :: g) = some (.dat (.int (r / 9 % k)), (.dat (.int n) :: .dat (.int w) :: .own (.lst acc) false false :: .dat (.int ii) :: .dat (.int r) :: g)) := fun k g hk => er_op (er_op rfl er_C rfl rfl (dr_div (by decide) (by decide)) rfl) er_C rfl rfl (dr_mod hk) rfl
  show ap id (zFg [3, 4] _ _) = _
  refine ap_fg (seq_nx (g1 := [.dat (.int n), .dat (.int w), .own (.lst acc) false false, .dat (.int ii), .dat (.int r)]) (set_dat e1 rfl rfl) ?_)
  have e2 := er_ix (ma := zLst (zCons (zC .non) (zCons (zOp modD (zOp divD (zVar 4) (zC (.int 9))) (zC (.int 4))) (zCons (zOp subD (zOp modD (zOp divD (zVar 4) (zC (.int 9))) (zC (.int 4))) (zC (.int 1))) (zCons (zOp eqD (zOp modD (zOp divD (zVar 4) (zC (.int 9))) (zC (.int 2))) (zC (.int 0))) (zCons (zIx (zC (.str [97, 98])) (zOp modD (zOp divD (zVar 4) (zC (.int 9))) (zC (.int 2)))) (zCons (zIx (zLst (zCons (zC (.str [])) (zCons (zC (.str [97, 32, 98])) (zCons (zC (.str [65])) (zNil))))) (zOp modD (zOp divD (zVar 4) (zC (.int 9))) (zC (.int 3)))) (zCons (zOp modD (zOp divD (zVar 4) (zC (.int 9))) (zC (.int 2))) (zNil))))))))) (mb := zOp modD (zVar 4) (zC (.int 7))) (g := [.dat (.int n), .dat (.int w), .own (.lst acc) false false, .dat (.int ii), .dat (.int r)])
    (er_lst (er_cons er_C (er_cons (q 4 _ (by decide)) (er_cons (er_op (q 4 _ (by decide)) er_C rfl rfl rfl rfl) (er_cons (er_op (q 2 _ (by decide)) er_C rfl rfl rfl rfl) (er_cons (er_ix er_C (q 2 _ (by decide)) rfl e4) (er_cons (er_ix (er_lst (er_cons er_C (er_cons er_C (er_cons er_C er_nil))) rfl (Nat.le_of_ble_eq_true rfl)) (q 3 _ (by decide)) rfl e5) (er_cons (q 2 _ (by decide)) er_nil))))))) rfl (Nat.le_of_ble_eq_true rfl))
    (er_op rfl er_C rfl rfl (dr_mod (by decide)) rfl) rfl ev
  refine one_nx (app_run (j := 2) (ds0 := acc) (ds := acc) (d := v) (p := false) rfl rfl e2 rfl rfl (Nat.lt_trans ha (by decide)) rfl) ?_
  exact fgK_nx (g2 := [.dat (.int n), .dat (.int w), .own (.lst (acc ++ [v])) false false, .un, .un]) rfl rfl rfl
theorem cells_ok (n : Int) (w : Nat) (hw : w ≤ 19) : ∃ R, d__law_cells [.int n, .int w] = some (.new (.lst R)) ∧ R.length = w ∧ ∀ v ∈ R, VS v := by
  obtain ⟨g2, h1, acc, h2, h3, h4⟩ := forL_inv (st := lb__law_cells_1) (tg := gN 3) (L := rgD 0 w) (fun i g => ∃ acc, acc.length = i ∧ g = [.dat (.int n), .dat (.int w), .own (.lst acc) false false, .un, .un] ∧ ∀ v ∈ acc, VS v) 0 [.dat (.int n), .dat (.int w), .own (.lst []) false false, .un, .un]
    ⟨[], rfl, rfl, fun _ h => (List.not_mem_nil h).elim⟩ (fun i d g hd ⟨acc, h1, h2, h3⟩ => by
      obtain ⟨hi, rfl⟩ := rgD_at hd
      subst h2
      obtain ⟨v, hv, e⟩ := cell_turn n w i acc (by omega) (by omega)
      refine ⟨_, _, rfl, .inl e, acc ++ [v], by simp; omega, rfl, fun x hx => ?_⟩
      rcases List.mem_append.mp hx with hx | hx
      · exact h3 x hx
      · rw [List.mem_singleton.mp hx]; exact hv)
  subst h3
  refine ⟨acc, ?_, by rw [h2, rgD_len]; omega, h4⟩
  unfold d__law_cells b__law_cells
  refine runP_ap (g := [.dat (.int n), .dat (.int w), .un, .un, .un]) rfl rfl ?_
  refine seq_nx (g1 := [.dat (.int n), .dat (.int w), .own (.lst []) false false, .un, .un]) (set_own (er_lst er_nil rfl (Nat.le_of_ble_eq_true rfl)) (Nat.le_of_ble_eq_true rfl) rfl rfl rfl) ?_
  refine seq_nx (for_run (mi_R1 (k := (w : Int)) (er_cons rfl er_nil) (rgOk_of (by omega) (by omega))) rfl (by rw [Int.toNat_natCast]; exact h1)) ?_
  exact sr_ret rfl rfl
/-- a row of cells -/
def GR (w : Nat) (R : List D) : Prop := R.length = w ∧ ∀ v ∈ R, VS v
theorem row_turnR (NS : List D) (at_ c : Int) (w i : Nat) (acc : List (List D)) (n : Int) (hw : w ≤ 19) (hn : ixD (.lst NS) (at_ + (0 + (i : Int))) = some (.int n)) (ha : acc.length < 100) (hg : ∀ R ∈ acc, GR w R) :
    ∃ R, GR w R ∧ lb__law_rowlist_1 [.dat (.lst NS), .dat (.int at_), .dat (.int c), .dat (.int w), .rws acc, .dat (.int (0 + (i : Int)))] = some (.nx, [.dat (.lst NS), .dat (.int at_), .dat (.int c), .dat (.int w), .rws (acc ++ [R]), .un]) := by
  have hz : acc.length < sizeLine := Nat.lt_trans ha (by decide)
  have lm : (acc.map D.lst).length = acc.length := List.length_map _
  generalize (0 + (i : Int)) = ii at *
  have nt : zCallS intU (zCons (zIx (zVar 0) (zOp addS (zVar 1) (zVar 5))) (zNil)) [.dat (.lst NS), .dat (.int at_), .dat (.int c), .dat (.int w), .rws acc, .dat (.int ii)] = some (.dat (.int n), [.dat (.lst NS), .dat (.int at_), .dat (.int c), .dat (.int w), .rws acc, .dat (.int ii)]) := er_callS (er_cons (er_ix rfl (er_op rfl rfl rfl rfl rfl rfl) rfl hn) er_nil) rfl rfl rfl
  have ln : zCallS lenD (zCons (zVar 4) (zNil)) [.dat (.lst NS), .dat (.int at_), .dat (.int c), .dat (.int w), .rws acc, .dat (.int ii)] = some (.dat (.int (acc.length : Nat)), [.dat (.lst NS), .dat (.int at_), .dat (.int c), .dat (.int w), .rws acc, .dat (.int ii)]) := er_callS (ds := [.lst (acc.map D.lst)]) (er_cons rfl er_nil) rfl (by rw [← lm]; rfl) rfl
  have tt : zAndT (zTst (zOp gtD (zCallS lenD (zCons (zVar 4) (zNil))) (zC (.int 0)))) (zTst (zOp eqD (zOp modD (zCallS intU (zCons (zIx (zVar 0) (zOp addS (zVar 1) (zVar 5))) (zNil))) (zC (.int 4))) (zC (.int 0)))) [.dat (.lst NS), .dat (.int at_), .dat (.int c), .dat (.int w), .rws acc, .dat (.int ii)] = some (decide ((acc.length : Int) > 0) && (n % 4 == 0), [.dat (.lst NS), .dat (.int at_), .dat (.int c), .dat (.int w), .rws acc, .dat (.int ii)]) :=
    er_andT (er_tst (er_op ln er_C rfl rfl rfl rfl)) (fun _ => er_tst (er_op (er_op nt er_C rfl rfl (dr_mod (by decide)) rfl) er_C rfl rfl rfl rfl))
  cases hb : (decide ((acc.length : Int) > 0) && (n % 4 == 0)) with
  | true =>
    rw [hb] at tt
    have h0 : (acc.length : Int) > 0 := of_decide_eq_true (Bool.and_eq_true_iff.mp hb).1
    obtain ⟨R, x1, x2⟩ := atI_lt (xs := acc) (Int.emod_nonneg (n / 4) (show (acc.length : Int) ≠ 0 by omega)) (Int.emod_lt_of_pos (n / 4) (show (0 : Int) < (acc.length : Int) by omega))
    refine ⟨R, hg R x2, ?_⟩
    show ap id (zFg [5] _ _) = _
    refine ap_fg (sr_if1 (g2 := [.dat (.lst NS), .dat (.int at_), .dat (.int c), .dat (.int w), .rws acc, .dat (.int ii)]) tt rfl (fun _ => ?_) (fun q => by cases q))
    have e2 := er_listR (j := 4) (g := [.dat (.lst NS), .dat (.int at_), .dat (.int c), .dat (.int w), .rws acc, .dat (.int ii)]) (mi := zOp modD (zOp divD (zCallS intU (zCons (zIx (zVar 0) (zOp addS (zVar 1) (zVar 5))) (zNil))) (zC (.int 4))) (zCallS lenD (zCons (zVar 4) (zNil)))) (ls0 := acc) (ls := acc) rfl (er_op (er_op nt er_C rfl rfl (dr_div (by decide) (by decide)) rfl) ln rfl rfl (dr_mod (by omega)) rfl) rfl x1
    refine one_nx (appR_run (j := 4) (t := 6) (ls0 := acc) (ls := acc) (us := R) rfl rfl e2 rfl rfl hz rfl) ?_
    exact fgK_nx rfl rfl rfl
  | false =>
    rw [hb] at tt
    obtain ⟨R, e, l1, l2⟩ := cells_ok (n / 4) w hw
    refine ⟨R, ⟨l1, l2⟩, ?_⟩
    show ap id (zFg [5] _ _) = _
    refine ap_fg (sr_if1 (g2 := [.dat (.lst NS), .dat (.int at_), .dat (.int c), .dat (.int w), .rws acc, .dat (.int ii)]) tt rfl (fun q => by cases q) (fun _ => ?_))
    have e2 := er_callL (f := d__law_cells) (g := [.dat (.lst NS), .dat (.int at_), .dat (.int c), .dat (.int w), .rws acc, .dat (.int ii)]) (mr := zCons (zOp divD (zCallS intU (zCons (zIx (zVar 0) (zOp addS (zVar 1) (zVar 5))) (zNil))) (zC (.int 4))) (zCons (zVar 3) (zNil))) (ds := [.int (n / 4), .int w]) (er_cons (er_op nt er_C rfl rfl (dr_div (by decide) (by decide)) rfl) (er_cons rfl er_nil)) e
    refine one_nx (appR_run (j := 4) (t := 6) (ls0 := acc) (ls := acc) (us := R) rfl rfl e2 rfl rfl hz rfl) ?_
    exact fgK_nx rfl rfl rfl
theorem rowlist_okR (L : List Int) (a c w : Nat) (hL : a + c ≤ L.length) (hc : c ≤ 90) (hw : w ≤ 19) : ∃ RS : List (List D), d__law_rowlist [.lst (L.map D.int), .int a, .int c, .int w] = some (.newR RS) ∧ RS.length = c ∧ ∀ R ∈ RS, GR w R := by
  have ixn : ∀ i : Nat, i < c → ∃ n, ixD (.lst (L.map D.int)) ((a : Int) + (0 + (i : Int))) = some (.int n) := fun i hi => by
    have hl : a + i < L.length := by omega
    have h2 : (L.map D.int)[a + i]? = some (.int L[a + i]) := by rw [List.getElem?_map, List.getElem?_eq_getElem hl]; rfl
    rw [show (a : Int) + (0 + (i : Int)) = ((a + i : Nat) : Int) by omega]
    exact ⟨_, atI_nat h2⟩
  generalize L.map D.int = NS at *
  obtain ⟨g2, h1, acc, h2, h3, h4⟩ := forL_inv (st := lb__law_rowlist_1) (tg := gN 5) (L := rgD 0 c) (fun i g => ∃ acc : List (List D), acc.length = i ∧ g = [.dat (.lst NS), .dat (.int a), .dat (.int c), .dat (.int w), .rws acc, .un] ∧ ∀ R ∈ acc, GR w R) 0 [.dat (.lst NS), .dat (.int a), .dat (.int c), .dat (.int w), .rws [], .un]
    ⟨[], rfl, rfl, fun _ h => (List.not_mem_nil h).elim⟩ (fun i d g hd ⟨acc, h1, h2, h3⟩ => by
      obtain ⟨hi, rfl⟩ := rgD_at hd
      subst h2
      obtain ⟨n, hn⟩ := ixn i hi
      obtain ⟨R, hR, e⟩ := row_turnR NS a c w i acc n hw hn (by omega) h3
      refine ⟨_, _, rfl, .inl e, acc ++ [R], by simp; omega, rfl, fun x hx => ?_⟩
      rcases List.mem_append.mp hx with hx | hx
      · exact h3 x hx
      · rw [List.mem_singleton.mp hx]; exact hR)
  subst h3
  refine ⟨acc, ?_, by rw [h2, rgD_len]; omega, h4⟩
  unfold d__law_rowlist b__law_rowlist
  refine runP_ap (g := [.dat (.lst NS), .dat (.int a), .dat (.int c), .dat (.int w), .un, .un]) rfl rfl ?_
  have s0 : zSet 6 4 (zLst (zNil)) [.dat (.lst NS), .dat (.int a), .dat (.int c), .dat (.int w), .un, .un] = some (.nx, [.dat (.lst NS), .dat (.int a), .dat (.int c), .dat (.int w), .own (.lst []) false false, .un]) := set_own (er_lst er_nil rfl (Nat.le_of_ble_eq_true rfl)) (Nat.le_of_ble_eq_true rfl) rfl rfl rfl
  refine seq_nx (g1 := [.dat (.lst NS), .dat (.int a), .dat (.int c), .dat (.int w), .rws [], .un]) (asR_run s0 rfl rfl) ?_
  refine seq_nx (for_run (mi_R1 (k := (c : Int)) (er_cons rfl er_nil) (rgOk_of (by omega) (by omega))) rfl (by rw [Int.toNat_natCast]; exact h1)) ?_
  exact sr_ret rfl rfl
theorem simple_ok (n : Int) (w : Nat) (h0 : 1 ≤ w) (h1 : w ≤ 50) : ∃ d, Ex VS w 1 d ∧ d__law_simple [.int n, .int w] = some (.dat d) := by
  have four : ∀ x : Int, x % 4 = 0 ∨ x % 4 = 1 ∨ x % 4 = 2 ∨ x % 4 = 3 := fun x => by omega
  have nA : ∀ x : Int, ∃ nm ∈ NB, ixD (.lst [.str [99, 111, 97, 108, 101, 115, 99, 101], .str [97, 100, 100], .str [106, 111, 105, 110], .str [108, 101, 97, 115, 116]]) (x % 4) = some (.str nm) := fun x => by
    rcases four x with h | h | h | h <;> rw [h]
    · exact ⟨[99, 111, 97, 108, 101, 115, 99, 101], by decide, rfl⟩
    · exact ⟨[97, 100, 100], by decide, rfl⟩
    · exact ⟨[106, 111, 105, 110], by decide, rfl⟩
    · exact ⟨[108, 101, 97, 115, 116], by decide, rfl⟩
  have nU : ∀ x : Int, ∃ nm ∈ NU, ixD (.lst [.str [105, 115, 32, 110, 117, 108, 108], .str [110, 111, 116], .str [110, 101, 103, 97, 116, 101], .str [108, 101, 110, 103, 116, 104]]) (x % 4) = some (.str nm) := fun x => by
    rcases four x with h | h | h | h <;> rw [h]
    · exact ⟨[105, 115, 32, 110, 117, 108, 108], by decide, rfl⟩
    · exact ⟨[110, 111, 116], by decide, rfl⟩
    · exact ⟨[110, 101, 103, 97, 116, 101], by decide, rfl⟩
    · exact ⟨[108, 101, 110, 103, 116, 104], by decide, rfl⟩
  have nC : ∀ x : Int, ∃ nm ∈ NB, ixD (.lst [.str [101, 113, 117, 97, 108], .str [108, 101, 115, 115], .str [115, 97, 109, 101], .str [97, 116, 32, 109, 111, 115, 116]]) (x % 4) = some (.str nm) := fun x => by
    rcases four x with h | h | h | h <;> rw [h]
    · exact ⟨[101, 113, 117, 97, 108], by decide, rfl⟩
    · exact ⟨[108, 101, 115, 115], by decide, rfl⟩
    · exact ⟨[115, 97, 109, 101], by decide, rfl⟩
    · exact ⟨[97, 116, 32, 109, 111, 115, 116], by decide, rfl⟩
  have nV : ∀ x : Int, ∃ v, VS v ∧ ixD (.lst [.non, .int 1, .bl true, .str [97]]) (x % 4) = some v := fun x => by
    rcases four x with h | h | h | h <;> rw [h]
    · exact ⟨.non, ⟨trivial, by decide⟩, rfl⟩
    · exact ⟨.int 1, ⟨show (1 : Int).natAbs ≤ 10 ^ 15 by decide, show 200 ≤ 200 by decide⟩, rfl⟩
    · exact ⟨.bl true, ⟨trivial, by decide⟩, rfl⟩
    · exact ⟨.str [97], ⟨⟨by decide, by decide⟩, by decide⟩, rfl⟩
  obtain ⟨r, hr⟩ : ∃ r : Int, r = n / 6 := ⟨_, rfl⟩
  obtain ⟨nm1, m1, e1⟩ := nA (r / 36)
  obtain ⟨nm2, m2, e2⟩ := nU (r / 36)
  obtain ⟨nm3, m3, e3⟩ := nC (r / 36)
  obtain ⟨v, m4, e4⟩ := nV (r / 36)
  have wp : (0 : Int) < w := by omega
  have wn : (w : Int) ≠ 0 := by omega
  have hm : ∀ x : Int, modD (.int x) (.int (w : Int)) = some (.int (x % (w : Int))) := fun x => dr_mod wp
  have hd : ∀ x : Int, divD (.int x) (.int (w : Int)) = some (.int (x / (w : Int))) := fun x => dr_divB wp (by omega)
  have c1 : ∀ k, Ex VS w k (.tup [.str sCOL, .int (r % (w : Int))]) := fun k => .col (Int.emod_nonneg _ wn) (Int.emod_lt_of_pos _ wp)
  have c2 : ∀ k, Ex VS w k (.tup [.str sCOL, .int (r / (w : Int) % (w : Int))]) := fun k => .col (Int.emod_nonneg _ wn) (Int.emod_lt_of_pos _ wp)
  generalize hA : D.tup [.str sCOL, .int (r % (w : Int))] = A at *
  generalize hB : D.tup [.str sCOL, .int (r / (w : Int) % (w : Int))] = B at *
  have P : ∃ fr, d__law_simple [.int n, .int w] = some fr ∧ ∃ d, fr = .dat d ∧ Ex VS w 1 d := by
    unfold d__law_simple b__law_simple
    refine runP_post (g := [.dat (.int n), .dat (.int w), .un, .un, .un, .un]) rfl rfl ?_
    refine seq_nx (g1 := [.dat (.int n), .dat (.int w), .dat (.int r), .un, .un, .un]) (set_dat (er_op (er_callS (er_cons rfl er_nil) rfl rfl rfl) er_C rfl rfl (by rw [hr]; exact dr_div (by decide) (by decide)) rfl) rfl rfl) ?_
    refine seq_nx (g1 := [.dat (.int n), .dat (.int w), .dat (.int r), .dat A, .un, .un]) (set_dat (d := A) (by rw [← hA]; exact er_tup (er_cons er_C (er_cons (er_op rfl rfl rfl rfl (hm _) rfl) er_nil)) rfl (Nat.le_of_ble_eq_true rfl)) rfl rfl) ?_
    refine seq_nx (g1 := [.dat (.int n), .dat (.int w), .dat (.int r), .dat A, .dat B, .un]) (set_dat (d := B) (by rw [← hB]; exact er_tup (er_cons er_C (er_cons (er_op (er_op rfl rfl rfl rfl (hd _) rfl) rfl rfl rfl (hm _) rfl) er_nil)) rfl (Nat.le_of_ble_eq_true rfl)) rfl rfl) ?_
    refine seq_nx (g1 := [.dat (.int n), .dat (.int w), .dat (.int r), .dat A, .dat B, .dat (.int (n % 6))]) (set_dat (er_op (er_callS (er_cons rfl er_nil) rfl rfl rfl) er_C rfl rfl (dr_mod (by decide)) rfl) rfl rfl) ?_
    generalize n % 6 = ch at *
    have ix : ∀ (l : ZAr) (ds : List D) (z : D), l [.dat (.int n), .dat (.int w), .dat (.int r), .dat A, .dat B, .dat (.int ch)] = some (ds.map R.dat, [.dat (.int n), .dat (.int w), .dat (.int r), .dat A, .dat B, .dat (.int ch)]) → ds.length ≤ sizeLine → ixD (.lst ds) (r / 36 % 4) = some z → ∃ k : G, zIx (zLst l) (zOp modD (zOp divD (zVar 2) (zC (.int 36))) (zC (.int 4))) [.dat (.int n), .dat (.int w), .dat (.int r), .dat A, .dat B, .dat (.int ch)] = some (.dat z, [.dat (.int n), .dat (.int w), .dat (.int r), .dat A, .dat B, .dat (.int ch)] ++ k) := fun l ds z h1 h2 h3 =>
      ⟨_, er_ix (er_lst h1 (frzAll_dat _ _) h2) (er_op (er_op rfl er_C rfl rfl (dr_div (by decide) (by decide)) rfl) er_C rfl rfl (dr_mod (by decide)) rfl) rfl h3⟩
    refine sr_if (er_tst (er_op rfl er_C rfl rfl rfl rfl)) rfl (fun _ => ?_) (fun _ => ?_)
    · exact sr_retS rfl (end_post rfl ⟨_, rfl, c1 _⟩)
    refine sr_nx (sr_if (er_tst (er_op rfl er_C rfl rfl rfl rfl)) rfl (fun _ => ?_) (fun _ => ?_))
    · obtain ⟨k, ek⟩ := ix (zCons (zC (.str [99, 111, 97, 108, 101, 115, 99, 101])) (zCons (zC (.str [97, 100, 100])) (zCons (zC (.str [106, 111, 105, 110])) (zCons (zC (.str [108, 101, 97, 115, 116])) (zNil))))) _ _ (er_cons er_C (er_cons er_C (er_cons er_C (er_cons er_C er_nil)))) (Nat.le_of_ble_eq_true rfl) e1
      exact sr_retS (er_tup (er_cons er_C (er_cons ek (er_cons rfl (er_cons rfl er_nil)))) rfl (Nat.le_of_ble_eq_true rfl)) (end_post rfl ⟨_, rfl, .bin m1 (c1 0) (c2 0)⟩)
    refine sr_nx (sr_if (er_tst (er_op rfl er_C rfl rfl rfl rfl)) rfl (fun _ => ?_) (fun _ => ?_))
    · obtain ⟨k, ek⟩ := ix (zCons (zC (.str [105, 115, 32, 110, 117, 108, 108])) (zCons (zC (.str [110, 111, 116])) (zCons (zC (.str [110, 101, 103, 97, 116, 101])) (zCons (zC (.str [108, 101, 110, 103, 116, 104])) (zNil))))) _ _ (er_cons er_C (er_cons er_C (er_cons er_C (er_cons er_C er_nil)))) (Nat.le_of_ble_eq_true rfl) e2
      exact sr_retS (er_tup (er_cons er_C (er_cons ek (er_cons rfl er_nil))) rfl (Nat.le_of_ble_eq_true rfl)) (end_post rfl ⟨_, rfl, .un m2 (c1 0)⟩)
    refine sr_nx (sr_if (er_tst (er_op rfl er_C rfl rfl rfl rfl)) rfl (fun _ => ?_) (fun _ => ?_))
    · obtain ⟨k, ek⟩ := ix (zCons (zC (.str [101, 113, 117, 97, 108])) (zCons (zC (.str [108, 101, 115, 115])) (zCons (zC (.str [115, 97, 109, 101])) (zCons (zC (.str [97, 116, 32, 109, 111, 115, 116])) (zNil))))) _ _ (er_cons er_C (er_cons er_C (er_cons er_C (er_cons er_C er_nil)))) (Nat.le_of_ble_eq_true rfl) e3
      exact sr_retS (er_tup (er_cons er_C (er_cons ek (er_cons rfl (er_cons rfl er_nil)))) rfl (Nat.le_of_ble_eq_true rfl)) (end_post rfl ⟨_, rfl, .bin m3 (c1 0) (c2 0)⟩)
    · obtain ⟨k, ek⟩ := ix (zCons (zC .non) (zCons (zC (.int 1)) (zCons (zC (.bl true)) (zCons (zC (.str [97])) (zNil))))) _ _ (er_cons er_C (er_cons er_C (er_cons er_C (er_cons er_C er_nil)))) (Nat.le_of_ble_eq_true rfl) e4
      exact sr_nx (sr_ret (er_tup (er_cons er_C (er_cons ek er_nil)) rfl (Nat.le_of_ble_eq_true rfl)) (end_post rfl ⟨_, rfl, .con m4⟩))
  obtain ⟨fr, h, d, rfl, hd⟩ := P
  exact ⟨d, hd, h⟩
theorem lrank_ok (v : D) (h : VW v) : d__law_rank [v] = some (.dat (rk v)) := by
  cases v with
  | non =>
    unfold d__law_rank b__law_rank
    refine runP_ap (g := [.dat .non]) rfl rfl ?_
    walk_at "w"
    exact rfl
  | bl b =>
    unfold d__law_rank b__law_rank
    refine runP_ap (g := [.dat (.bl b)]) rfl rfl ?_
    cases b <;> walk_at "w" <;> exact rfl
  | int i =>
    unfold d__law_rank b__law_rank
    refine runP_ap (g := [.dat (.int i)]) rfl rfl ?_
    walk_at "w"
    exact rfl
  | str t =>
    unfold d__law_rank b__law_rank
    refine runP_ap (g := [.dat (.str t)]) rfl rfl ?_
    walk_at "w"
    exact rfl
  | _ => exact h.elim
def wtb : Nat → Nat
  | 0 => 250
  | k + 1 => 100 + 3 * (wtb k + 1)
theorem wtb_le : ∀ k, 250 ≤ wtb k
  | 0 => Nat.le_refl _
  | k + 1 => by have := wtb_le k; show 250 ≤ 100 + 3 * (wtb k + 1); omega
theorem nm_short : ∀ nm ∈ NU ++ NB ++ NT, nm.length ≤ 20 ∧ (nm.all fun c => decide (c < 1114112)) = true := by decide
theorem ex_rok {w : Int} (hw : w ≤ 1000) {k : Nat} {d : D} (h : Ex VS w k d) : d.rok = true ∧ d.dp ≤ k + 1 ∧ d.wt ≤ wtb k := by
  induction h with
  | con h =>
    rename_i k v
    obtain ⟨r1, r2⟩ := h.1.rok
    refine ⟨?_, ?_, ?_⟩
    · show ((D.str sCON).rok && (v.rok && true)) = true
      rw [r1, show (D.str sCON).rok = true by decide]; rfl
    · show max (D.str sCON).dp (max v.dp 0) + 1 ≤ _
      rw [r2]; simp [D.dp]
    · show sCON.length + 1 + (v.wt + 1 + 0) ≤ _
      have := h.2
      have := wtb_le k
      simp only [sCON, List.length_cons, List.length_nil]
      omega
  | col h0 h1 =>
    rename_i k c
    refine ⟨?_, ?_, ?_⟩
    · show ((D.str sCOL).rok && (decide (c.natAbs < 10 ^ 60) && true)) = true
      rw [decide_eq_true (by omega), show (D.str sCOL).rok = true by decide]; rfl
    · show max (D.str sCOL).dp (max (D.int c).dp 0) + 1 ≤ _
      simp [D.dp]
    · show sCOL.length + 1 + (200 + 1 + 0) ≤ _
      have := wtb_le k
      simp only [sCOL, List.length_cons, List.length_nil]
      omega
  | un hn _ ih =>
    rename_i k nm a _
    obtain ⟨n1, n2⟩ := nm_short nm (by simp [hn])
    obtain ⟨r1, r2, r3⟩ := ih
    refine ⟨?_, ?_, ?_⟩
    · show ((D.str sUN).rok && ((nm.all fun c => decide (c < 1114112)) && (a.rok && true))) = true
      rw [r1, n2, show (D.str sUN).rok = true by decide]; rfl
    · show max (D.str sUN).dp (max (D.str nm).dp (max a.dp 0)) + 1 ≤ _
      simp only [D.dp]; omega
    · show sUN.length + 1 + (nm.length + 1 + (a.wt + 1 + 0)) ≤ 100 + 3 * (wtb k + 1)
      simp only [sUN, List.length_cons, List.length_nil]
      omega
  | bin hn _ _ i1 i2 =>
    rename_i k nm a b _ _
    obtain ⟨n1, n2⟩ := nm_short nm (by simp [hn])
    obtain ⟨r1, r2, r3⟩ := i1
    obtain ⟨t1, t2, t3⟩ := i2
    refine ⟨?_, ?_, ?_⟩
    · show ((D.str sBIN).rok && ((nm.all fun c => decide (c < 1114112)) && (a.rok && (b.rok && true)))) = true
      rw [r1, t1, n2, show (D.str sBIN).rok = true by decide]; rfl
    · show max (D.str sBIN).dp (max (D.str nm).dp (max a.dp (max b.dp 0))) + 1 ≤ _
      simp only [D.dp]; omega
    · show sBIN.length + 1 + (nm.length + 1 + (a.wt + 1 + (b.wt + 1 + 0))) ≤ 100 + 3 * (wtb k + 1)
      simp only [sBIN, List.length_cons, List.length_nil]
      omega
  | ter hn _ _ _ i1 i2 i3 =>
    rename_i k nm a b c _ _ _
    obtain ⟨n1, n2⟩ := nm_short nm (by simp [hn])
    obtain ⟨r1, r2, r3⟩ := i1
    obtain ⟨t1, t2, t3⟩ := i2
    obtain ⟨u1, u2, u3⟩ := i3
    refine ⟨?_, ?_, ?_⟩
    · show ((D.str sTER).rok && ((nm.all fun c => decide (c < 1114112)) && (a.rok && (b.rok && (c.rok && true))))) = true
      rw [r1, t1, u1, n2, show (D.str sTER).rok = true by decide]; rfl
    · show max (D.str sTER).dp (max (D.str nm).dp (max a.dp (max b.dp (max c.dp 0)))) + 1 ≤ _
      simp only [D.dp]; omega
    · show sTER.length + 1 + (nm.length + 1 + (a.wt + 1 + (b.wt + 1 + (c.wt + 1 + 0)))) ≤ 100 + 3 * (wtb k + 1)
      simp only [sTER, List.length_cons, List.length_nil]
      omega
  | cho _ _ _ i1 i2 i3 =>
    rename_i k a b c _ _ _
    obtain ⟨r1, r2, r3⟩ := i1
    obtain ⟨t1, t2, t3⟩ := i2
    obtain ⟨u1, u2, u3⟩ := i3
    refine ⟨?_, ?_, ?_⟩
    · show ((D.str sCHO).rok && (a.rok && (b.rok && (c.rok && true)))) = true
      rw [r1, t1, u1, show (D.str sCHO).rok = true by decide]; rfl
    · show max (D.str sCHO).dp (max a.dp (max b.dp (max c.dp 0))) + 1 ≤ _
      simp only [D.dp]; omega
    · show sCHO.length + 1 + (a.wt + 1 + (b.wt + 1 + (c.wt + 1 + 0))) ≤ 100 + 3 * (wtb k + 1)
      simp only [sCHO, List.length_cons, List.length_nil]
      omega
theorem row_rok : ∀ {L : List D}, (∀ v ∈ L, VS v) → D.rokA L = true ∧ D.dpA L = 0 ∧ D.wtA L ≤ 201 * L.length
  | [], _ => ⟨rfl, rfl, Nat.le_refl _⟩
  | v :: L, h => by
    obtain ⟨a, b, c⟩ := row_rok (L := L) fun x hx => h x (List.mem_cons_of_mem _ hx)
    have hv := h v List.mem_cons_self
    obtain ⟨a1, b1⟩ := hv.1.rok
    refine ⟨?_, ?_, ?_⟩
    · show (v.rok && D.rokA L) = true
      rw [a1, a]; rfl
    · show max v.dp (D.dpA L) = 0
      rw [b1, b]; rfl
    · show v.wt + 1 + D.wtA L ≤ 201 * (L.length + 1)
      have := hv.2
      omega
theorem rk_self {v : D} (h : VW v) : D.eqv (rk v) (rk v) = true := by
  cases v with
  | non => rfl
  | bl b => cases b <;> rfl
  | int i =>
    show ((2 : Int) == 2 && (i == i && true)) = true
    simp
  | str t =>
    show ((3 : Int) == 3 && (t == t && true)) = true
    simp
  | _ => exact h.elim
theorem rks_self : ∀ {R : List D}, (∀ v ∈ R, VW v) → D.eqvA (R.map rk) (R.map rk) = true
  | [], _ => rfl
  | v :: R, h => by
    rw [List.map_cons]
    show (D.eqv (rk v) (rk v) && D.eqvA (R.map rk) (R.map rk)) = true
    rw [rk_self (h v List.mem_cons_self), rks_self fun v hv => h v (List.mem_cons_of_mem _ hv)]
    rfl
theorem lranks_ok {R : List D} (h : ∀ v ∈ R, VW v) (hl : R.length ≤ 1000) : d__law_ranks [.lst R] = some (.dat (.tup (R.map rk))) := by
  have e := er_lc1 (b := fun _ => true) (f := rk) (tg := gN 1) (tt := zYes) (el := zCall d__law_rank (zCons (zVar 1) (zNil))) (vs := [1]) (base := [.dat (.lst R), .un]) (mi := ziL 2 (zVar 0)) (g := [.dat (.lst R), .un]) (L := R) (mi_Ld rfl) (fun o => rfl) (fun o => rfl) (Nat.le_trans hl (by decide))
    (fun v hv => lc_dat (h := [.dat (.lst R), .dat v]) rfl (fun o => rfl) (fun o => rfl) (fun o => rfl) (fun o => rfl) (fun _ o => er_call (ds := [v]) (er_cons rfl er_nil) (lrank_ok v (h v hv))))
  rw [List.filter_eq_self.mpr (fun _ _ => rfl)] at e
  unfold d__law_ranks b__law_ranks
  refine runP_ap (g := [.dat (.lst R), .un]) rfl rfl ?_
  exact sr_ret (er_tupL (er_cons e er_nil) rfl) rfl
theorem same_list_ok {XS : List (List D)} (h : ∀ R ∈ XS, (∀ v ∈ R, VW v) ∧ R.length ≤ 1000) (hl : XS.length ≤ 100000) : d__law_same_list [.lst (XS.map D.lst), .lst (XS.map D.lst)] = some (.dat (.bl true)) := by
  have il : ∀ L : List D, isiD [.lst L, .raw (.ty "list")] = some (.bl true) := fun L => isi_of rfl kb_list_list
  have ll : (XS.map D.lst).length = XS.length := List.length_map _
  have ixR : ∀ i : Nat, i < XS.length → ∃ R, (∀ v ∈ R, VW v) ∧ R.length ≤ 1000 ∧ ixD (.lst (XS.map D.lst)) (0 + (i : Int)) = some (.lst R) := fun i hi => by
    have g2 : (XS.map D.lst)[i]? = some (.lst XS[i]) := by rw [List.getElem?_map, List.getElem?_eq_getElem hi]; rfl
    obtain ⟨q1, q2⟩ := h _ (List.getElem_mem hi)
    exact ⟨XS[i], q1, q2, by rw [show (0 + (i : Int)) = (i : Int) by omega]; exact atI_nat g2⟩
  generalize XS.map D.lst = XL at *
  have turn : ∀ i : Nat, i < XS.length → lb__law_same_list_1 [.dat (.lst XL), .dat (.lst XL), .dat (.int (0 + (i : Int)))] = some (.nx, [.dat (.lst XL), .dat (.lst XL), .un]) := fun i hi => by
    obtain ⟨R, q1, q2, q3⟩ := ixR i hi
    have er := lranks_ok q1 q2
    have ne : neqD (.tup (R.map rk)) (.tup (R.map rk)) = some (.bl false) := by
      obtain ⟨r1, r2, _⟩ := rks_rokW q1
      have e := dr_neR (d := .tup (R.map rk)) (e := .tup (R.map rk)) r1 (show D.dpA (R.map rk) + 1 ≤ 60 by omega) r1 (show D.dpA (R.map rk) + 1 ≤ 60 by omega)
      rw [show D.eqv (.tup (R.map rk)) (.tup (R.map rk)) = true from rks_self q1] at e
      exact e
    generalize R.map rk = K at *
    generalize (0 + (i : Int)) = ii at *
    show ap id (zFg [2] _ _) = _
    have t : zOrT (zNotT (zTru (zCallS isiD (zCons (zIx (zVar 0) (zVar 2)) (zCons (zC (.raw (.ty "list"))) (zNil)))))) (zTst (zOp neqD (zCall d__law_ranks (zCons (zIx (zVar 0) (zVar 2)) (zNil))) (zCall d__law_ranks (zCons (zIx (zVar 1) (zVar 2)) (zNil))))) [.dat (.lst XL), .dat (.lst XL), .dat (.int ii)] = some (false, [.dat (.lst XL), .dat (.lst XL), .dat (.int ii)]) :=
      er_orT (b1 := false) (b2 := false) (er_notT (b := true) (er_tru (er_callS (er_cons (er_ix rfl rfl rfl q3) (er_cons er_C er_nil)) rfl (il R) rfl) rfl rfl)) (fun _ => er_tst (er_op (er_call (ds := [.lst R]) (er_cons (er_ix rfl rfl rfl q3) er_nil) er) (er_call (ds := [.lst R]) (er_cons (er_ix rfl rfl rfl q3) er_nil) er) rfl rfl ne rfl))
    refine ap_fg (sr_if1 (g2 := [.dat (.lst XL), .dat (.lst XL), .dat (.int ii)]) t rfl (fun q => by cases q) (fun _ => ?_))
    exact fgK_nx rfl rfl rfl
  have lp : forL (gN 2) lb__law_same_list_1 (rgD 0 XS.length) [.dat (.lst XL), .dat (.lst XL), .un] = some (.nx, [.dat (.lst XL), .dat (.lst XL), .un]) := forL_all fun d hd => by
    obtain ⟨i, hi⟩ := List.getElem?_of_mem hd
    obtain ⟨h2, rfl⟩ := rgD_at hi
    exact ⟨_, rfl, turn i h2⟩
  unfold d__law_same_list b__law_same_list
  refine runP_ap (g := [.dat (.lst XL), .dat (.lst XL), .un]) rfl rfl ?_
  have t0 : zOrT (zNotT (zTru (zCallS isiD (zCons (zVar 0) (zCons (zC (.raw (.ty "list"))) (zNil)))))) (zTst (zOp neqD (zCallS lenD (zCons (zVar 0) (zNil))) (zCallS lenD (zCons (zVar 1) (zNil))))) [.dat (.lst XL), .dat (.lst XL), .un] = some (false, [.dat (.lst XL), .dat (.lst XL), .un]) := by
    have n0 : neqD (.int (XL.length : Nat)) (.int (XL.length : Nat)) = some (.bl false) := by rw [dr_neI]; simp
    exact er_orT (b1 := false) (b2 := false) (er_notT (b := true) (er_tru (er_callS (er_cons rfl (er_cons er_C er_nil)) rfl (il XL) rfl) rfl rfl)) (fun _ => er_tst (er_op (er_callS (er_cons rfl er_nil) rfl rfl rfl) (er_callS (er_cons rfl er_nil) rfl rfl rfl) rfl rfl n0 rfl))
  refine sr_if (g2 := [.dat (.lst XL), .dat (.lst XL), .un]) t0 rfl (fun q => by cases q) (fun _ => ?_)
  refine sr_nx (seq_nx (for_run (mi_R1 (k := ((XS.length : Nat) : Int)) (er_cons (er_callS (z := .int (XS.length : Nat)) (er_cons rfl er_nil) rfl (by rw [← ll]; rfl) rfl) er_nil) (rgOk_of (by omega) (by omega))) rfl (by rw [Int.toNat_natCast]; exact lp)) ?_)
  exact sr_ret er_C rfl
/-- rows of cells, shown -/
theorem rows_rok {w : Nat} (hw : w ≤ 20) : ∀ {LS : List (List D)}, (∀ R ∈ LS, GR w R) → D.rokA (LS.map D.lst) = true ∧ D.dpA (LS.map D.lst) ≤ 1 ∧ D.wtA (LS.map D.lst) ≤ 4100 * LS.length
  | [], _ => ⟨rfl, Nat.zero_le _, Nat.zero_le _⟩
  | R :: LS, h => by
    obtain ⟨a, b, c⟩ := rows_rok hw fun R hR => h R (List.mem_cons_of_mem _ hR)
    obtain ⟨g1, g2⟩ := h R List.mem_cons_self
    obtain ⟨r1, r2, r3⟩ := row_rok g2
    refine ⟨?_, ?_, ?_⟩
    · show (D.rokA R && D.rokA (LS.map D.lst)) = true
      rw [r1, a]; rfl
    · show max (D.dpA R + 1) (D.dpA (LS.map D.lst)) ≤ 1
      omega
    · show D.wtA R + 1 + D.wtA (LS.map D.lst) ≤ 4100 * (LS.length + 1)
      have : 201 * R.length ≤ 201 * 20 := Nat.mul_le_mul_left _ (by omega)
      omega
local macro_rules | `(tactic| walk_at "e") => `(tactic| first | ((with_reducible apply er_ifT); (walk_at "e"); (walk_at "e")) | ((with_reducible apply er_ifF); (walk_at "e"); (walk_at "e")))
def intsOf (P : List D) : List Int := P.filterMap fun v => match v with
  | .int i => some i
  | _ => none
def strsOf (P : List D) : List (List Nat) := P.filterMap fun v => match v with
  | .str t => some t
  | _ => none
def blsOf (P : List D) : List Bool := P.filterMap fun v => match v with
  | .bl b => some b
  | _ => none
theorem filt_int {P : List D} (h : ∀ v ∈ P, VW v) : P.filter (fun v => decide (kd v = 2)) = (intsOf P).map D.int := by
  induction P with
  | nil => rfl
  | cons v P ih =>
    have ih := ih fun x m => h x (List.mem_cons_of_mem _ m)
    have hv := h v List.mem_cons_self
    unfold intsOf at ih ⊢
    rw [List.filter_cons, List.filterMap_cons]
    cases v <;> first | exact hv.elim | exact ih | exact congrArg (List.cons _) ih
theorem filt_str {P : List D} (h : ∀ v ∈ P, VW v) : P.filter (fun v => decide (kd v = 3)) = (strsOf P).map D.str := by
  induction P with
  | nil => rfl
  | cons v P ih =>
    have ih := ih fun x m => h x (List.mem_cons_of_mem _ m)
    have hv := h v List.mem_cons_self
    unfold strsOf at ih ⊢
    rw [List.filter_cons, List.filterMap_cons]
    cases v <;> first | exact hv.elim | exact ih | exact congrArg (List.cons _) ih
theorem filt_bl {P : List D} (h : ∀ v ∈ P, VW v) : P.filter (fun v => decide (kd v = 1)) = (blsOf P).map D.bl := by
  induction P with
  | nil => rfl
  | cons v P ih =>
    have ih := ih fun x m => h x (List.mem_cons_of_mem _ m)
    have hv := h v List.mem_cons_self
    unfold blsOf at ih ⊢
    rw [List.filter_cons, List.filterMap_cons]
    cases v <;> first | exact hv.elim | exact ih | exact congrArg (List.cons _) ih
theorem intsOf_len (P : List D) : (intsOf P).length ≤ P.length := List.length_filterMap_le ..
theorem strsOf_len (P : List D) : (strsOf P).length ≤ P.length := List.length_filterMap_le ..
theorem isint_vw (v : D) (h : VW v) : d_is_integer [v] = some (.dat (.bl (decide (kd v = 2)))) := by
  cases v with
  | non =>
    unfold d_is_integer b_is_integer
    refine runP_ap (g := [.dat .non]) rfl rfl ?_
    walk_at "s"
    exact rfl
  | bl b =>
    unfold d_is_integer b_is_integer
    refine runP_ap (g := [.dat (.bl b)]) rfl rfl ?_
    walk_at "s"
    exact rfl
  | int i =>
    unfold d_is_integer b_is_integer
    refine runP_ap (g := [.dat (.int i)]) rfl rfl ?_
    walk_at "s"
    exact rfl
  | str t =>
    unfold d_is_integer b_is_integer
    refine runP_ap (g := [.dat (.str t)]) rfl rfl ?_
    walk_at "s"
    exact rfl
  | _ => exact h.elim
theorem eq0 {α : Type} (L : List α) : eqD (.int (L.length : Nat)) (.int 0) = some (.bl (L.length == 0)) := by
  show some (D.bl (((L.length : Nat) : Int) == 0)) = _
  congr 2
  rw [Bool.eq_iff_iff, beq_iff_eq, beq_iff_eq]
  omega
def sumV (P : List D) : D := if (intsOf P).length = 0 then .non else limV (intsOf P).sum
theorem summed_ok {P : List D} (h : ∀ v ∈ P, VW v) (hl : P.length ≤ 100) : d_summed [.lst P] = some (.dat (sumV P)) := by
  have e := er_lc1 (b := fun v => decide (kd v = 2)) (f := fun d => d) (tg := gN 2) (tt := zTru (zCall d_is_integer (zCons (zVar 2) (zNil)))) (el := zVar 2) (vs := [2]) (base := [.dat (.lst P), .un, .un]) (mi := ziL 3 (zVar 0)) (g := [.dat (.lst P), .un, .un]) (L := P) (mi_Ld rfl) (fun o => rfl) (fun o => rfl) (Nat.le_trans hl (by decide))
    (fun v hv => lc_dat (h := [.dat (.lst P), .un, .dat v]) rfl (fun o => rfl) (fun o => rfl) (fun o => rfl) (fun o => er_tru (er_callV (er_cons rfl er_nil) rfl (isint_vw v (h v hv)) rfl) rfl rfl) (fun _ o => rfl))
  rw [filt_int h, List.map_id'] at e
  have ls := lim_ok (intsOf P).sum
  have l0 := eq0 ((intsOf P).map D.int)
  have ll : ((intsOf P).map D.int).length = (intsOf P).length := List.length_map _
  have sm : sumL [.lst ((intsOf P).map D.int)] = some (.int (intsOf P).sum) := by simp only [sumL, intsD_map]
  have cs : sumV P = if ((intsOf P).map D.int).length = 0 then .non else limV (intsOf P).sum := by unfold sumV; rw [ll]
  have sc : (limV (intsOf P).sum).scal = true := (lim_vw _).scal
  rw [cs]
  generalize (intsOf P).map D.int = I at *
  generalize (intsOf P).sum = s at *
  generalize limV s = r at *
  unfold d_summed b_summed
  refine runP_ap (g := [.dat (.lst P), .un, .un]) rfl rfl ?_
  refine seq_nx (g1 := [.dat (.lst P), .own (.lst I) false false, .un]) (set_own e (Nat.le_of_ble_eq_true rfl) rfl rfl rfl) ?_
  have t : zTst (zOp eqD (zCallS lenD (zCons (zVar 1) (zNil))) (zC (.int 0))) [.dat (.lst P), .own (.lst I) false false, .un] = some (I.length == 0, [.dat (.lst P), .own (.lst I) false false, .un]) := er_tst (er_op (er_callS (er_cons rfl er_nil) rfl rfl rfl) er_C rfl rfl l0 rfl)
  refine sr_if (g2 := [.dat (.lst P), .own (.lst I) false false, .un]) t rfl (fun q => ?_) (fun q => ?_)
  · rw [if_pos (by simpa using q)]
    exact sr_ret er_C rfl
  · rw [if_neg (by simpa using q)]
    refine sr_nx ?_
    exact sr_ret (er_callV (ds := [.int s]) (er_cons (er_callS (ds := [.lst I]) (er_cons rfl er_nil) rfl sm rfl) er_nil) rfl ls sc) rfl
/-- a rounded quotient -/
def rndV (x y : Int) : Int := if x < 0 then -((2 * iabs x + y) / (2 * y)) else (2 * iabs x + y) / (2 * y)
theorem rnd_val (x y : Int) (hy : 0 < y) (hyb : y < 10 ^ 60) : d_rounded [.int x, .int y] = some (.dat (.int (rndV x y))) := by
  have ey : iabs y = y := by unfold iabs; rw [if_neg (by omega)]
  have hd : divD (.int (2 * iabs x + iabs y)) (.int (2 * iabs y)) = some (.int ((2 * iabs x + iabs y) / (2 * iabs y))) := dr_divB (by omega) (by omega)
  have P : ∃ fr, d_rounded [.int x, .int y] = some fr ∧ fr = .dat (.int (rndV x y)) := by
    unfold d_rounded b_rounded
    refine runP_post (g := [.dat (.int x), .dat (.int y), .un]) rfl rfl ?_
    have er : rndV x y = if x < 0 then -((2 * iabs x + iabs y) / (2 * iabs y)) else (2 * iabs x + iabs y) / (2 * iabs y) := by unfold rndV; rw [ey]
    rw [er]
    generalize (2 * iabs x + iabs y) / (2 * iabs y) = z at *
    walk_at "s"
    walk_at "s"
    · intro q
      walk_at "s"
      refine end_post rfl ?_
      have : x < 0 := by
        by_cases c : x < 0
        · exact c
        · exfalso
          simp_all
          omega
      rw [if_pos this]
    · intro q
      walk_at "s"
      walk_at "s"
      refine end_post rfl ?_
      have : ¬ x < 0 := fun c => by
        simp_all
        omega
      rw [if_neg this]
  obtain ⟨fr, h, rfl⟩ := P
  exact h
def avgV (P : List D) (s : Int) : D := if (intsOf P).length = 0 then .non else limV (rndV (s * (intsOf P).sum) ((intsOf P).length : Nat))
theorem average_ok {P : List D} (s : Int) (hs : s.natAbs ≤ 10000) (h : ∀ v ∈ P, VW v) (hl : P.length ≤ 100) : d_average [.lst P, .int s] = some (.dat (avgV P s)) := by
  have e := er_lc1 (b := fun v => decide (kd v = 2)) (f := fun d => d) (tg := gN 3) (tt := zTru (zCall d_is_integer (zCons (zVar 3) (zNil)))) (el := zVar 3) (vs := [3]) (base := [.dat (.lst P), .dat (.int s), .un, .un]) (mi := ziL 4 (zVar 0)) (g := [.dat (.lst P), .dat (.int s), .un, .un]) (L := P) (mi_Ld rfl) (fun o => rfl) (fun o => rfl) (Nat.le_trans hl (by decide))
    (fun v hv => lc_dat (h := [.dat (.lst P), .dat (.int s), .un, .dat v]) rfl (fun o => rfl) (fun o => rfl) (fun o => rfl) (fun o => er_tru (er_callV (er_cons rfl er_nil) rfl (isint_vw v (h v hv)) rfl) rfl rfl) (fun _ o => rfl))
  rw [filt_int h, List.map_id'] at e
  have l0 := eq0 ((intsOf P).map D.int)
  have ll : ((intsOf P).map D.int).length = (intsOf P).length := List.length_map _
  have sm : sumL [.lst ((intsOf P).map D.int)] = some (.int (intsOf P).sum) := by simp only [sumL, intsD_map]
  have il := intsOf_len P
  have ml : mulD (.int s) (.int (intsOf P).sum) = some (.int (s * (intsOf P).sum)) := dr_mullB (by omega) (by omega)
  have cs : avgV P s = if ((intsOf P).map D.int).length = 0 then .non else limV (rndV (s * (intsOf P).sum) (((intsOf P).map D.int).length : Nat)) := by unfold avgV; rw [ll]
  rw [cs]
  have zI : ((intsOf P).map D.int).length ≤ 100 := by rw [ll]; omega
  generalize (intsOf P).map D.int = I at *
  generalize (intsOf P).sum = u at *
  unfold d_average b_average
  refine runP_ap (g := [.dat (.lst P), .dat (.int s), .un, .un]) rfl rfl ?_
  refine seq_nx (g1 := [.dat (.lst P), .dat (.int s), .own (.lst I) false false, .un]) (set_own e (Nat.le_of_ble_eq_true rfl) rfl rfl rfl) ?_
  have t : zTst (zOp eqD (zCallS lenD (zCons (zVar 2) (zNil))) (zC (.int 0))) [.dat (.lst P), .dat (.int s), .own (.lst I) false false, .un] = some (I.length == 0, [.dat (.lst P), .dat (.int s), .own (.lst I) false false, .un]) := er_tst (er_op (er_callS (er_cons rfl er_nil) rfl rfl rfl) er_C rfl rfl l0 rfl)
  refine sr_if (g2 := [.dat (.lst P), .dat (.int s), .own (.lst I) false false, .un]) t rfl (fun q => ?_) (fun q => ?_)
  · rw [if_pos (by simpa using q)]
    exact sr_ret er_C rfl
  · have q' : ¬ I.length = 0 := by simpa using q
    rw [if_neg q']
    refine sr_nx ?_
    have rv := rnd_val (s * u) (I.length : Nat) (by omega) (by omega)
    generalize rndV (s * u) (I.length : Nat) = r at *
    have lr := lim_ok r
    have sc : (limV r).scal = true := (lim_vw _).scal
    have e1 : zCall d_rounded (zCons (zOp mulD (zVar 1) (zCallS sumL (zCons (zVar 2) (zNil)))) (zCons (zCallS lenD (zCons (zVar 2) (zNil))) (zNil))) [.dat (.lst P), .dat (.int s), .own (.lst I) false false, .un] = some (.dat (.int r), [.dat (.lst P), .dat (.int s), .own (.lst I) false false, .un]) :=
      er_callV (ds := [.int (s * u), .int (I.length : Nat)]) (er_cons (er_op rfl (er_callS (ds := [.lst I]) (er_cons rfl er_nil) rfl sm rfl) rfl rfl ml rfl) (er_cons (er_callS (ds := [.lst I]) (er_cons rfl er_nil) rfl rfl rfl) er_nil)) rfl rv rfl
    exact sr_ret (er_callV (ds := [.int r]) (er_cons e1 er_nil) rfl lr sc) rfl
theorem truths_ok {P : List D} (h : ∀ v ∈ P, VW v) (hl : P.length ≤ 100) : d_truths [.lst P] = some (.new (.lst ((blsOf P).map D.bl))) := by
  have ib : ∀ v : D, VW v → isiD [v, .raw (.ty "bool")] = some (.bl (decide (kd v = 1))) := fun v hv => by
    cases v with
    | non => exact isi_of rfl kb_non_bool
    | bl b => exact isi_of rfl kb_bool_bool
    | int i => exact isi_of rfl kb_int_bool
    | str t => exact isi_of rfl kb_str_bool
    | _ => exact hv.elim
  have e := er_lc1 (b := fun v => decide (kd v = 1)) (f := fun d => d) (tg := gN 1) (tt := zTru (zCallS isiD (zCons (zVar 1) (zCons (zC (.raw (.ty "bool"))) (zNil))))) (el := zVar 1) (vs := [1]) (base := [.dat (.lst P), .un]) (mi := ziL 2 (zVar 0)) (g := [.dat (.lst P), .un]) (L := P) (mi_Ld rfl) (fun o => rfl) (fun o => rfl) (Nat.le_trans hl (by decide))
    (fun v hv => lc_dat (h := [.dat (.lst P), .dat v]) rfl (fun o => rfl) (fun o => rfl) (fun o => rfl) (fun o => er_tru (er_callS (er_cons rfl (er_cons er_C er_nil)) rfl (ib v (h v hv)) rfl) rfl rfl) (fun _ o => rfl))
  rw [filt_bl h, List.map_id'] at e
  unfold d_truths b_truths
  refine runP_ap (g := [.dat (.lst P), .un]) rfl rfl ?_
  exact sr_ret e rfl
theorem strs_small {P : List D} (h : ∀ v ∈ P, VW v) : ∀ t ∈ strsOf P, t.length ≤ 10000 ∧ ∀ c ∈ t, c < 128 := fun t ht => by
  obtain ⟨v, hv, e⟩ := List.mem_filterMap.mp ht
  have w := h v hv
  cases v <;> first | (cases e; exact w) | cases e
def kSEP : List Nat := [44, 32]
def wordsV (P : List D) : List (List Nat) := ZS.isort ltTx (strsOf P)
def sizeW (S : List (List Nat)) : Int := (S.map fun t => ((t.length : Nat) : Int)).sum + 2 * (((S.length : Nat) : Int) - 1)
def lstV (P : List D) : D := if (wordsV P).length = 0 then .non else if sizeW (wordsV P) > 10000 then .non else .str (TL.joinL kSEP (wordsV P))
theorem words_small {P : List D} (h : ∀ v ∈ P, VW v) : ∀ t ∈ wordsV P, t.length ≤ 10000 ∧ ∀ c ∈ t, c < 128 := fun t ht => strs_small h t ((ZS.isort_perm _).mem_iff.mp ht)
theorem txs_map : ∀ S : List (List Nat), txsD (S.map D.str) = some S
  | [] => rfl
  | t :: S => by simp only [List.map_cons, txsD, txs_map S, Option.bind_eq_bind, Option.bind_some]
theorem ints_len (S : List (List Nat)) : sumL [.lst ((S.map D.str).map fun d => match d with | .str t => D.int (t.length : Nat) | _ => .int 0)] = some (.int (S.map fun t => ((t.length : Nat) : Int)).sum) := by
  have : ((S.map D.str).map fun d => match d with | .str t => D.int (t.length : Nat) | _ => .int 0) = (S.map fun t => ((t.length : Nat) : Int)).map D.int := by
    rw [List.map_map, List.map_map]
    rfl
  rw [this]
  simp only [sumL, intsD_map]
theorem sum_nat : ∀ S : List (List Nat), (S.map fun t => ((t.length : Nat) : Int)).sum = (((S.map List.length).sum : Nat) : Int)
  | [] => rfl
  | t :: S => by rw [List.map_cons, List.sum_cons, sum_nat S, List.map_cons, List.sum_cons]; omega
theorem listed_ok {P : List D} (h : ∀ v ∈ P, VW v) (hl : P.length ≤ 60) : d_listed [.lst P] = some (.dat (lstV P)) := by
  have is : ∀ v : D, VW v → isiD [v, .raw (.ty "str")] = some (.bl (decide (kd v = 3))) := fun v hv => by
    cases v with
    | non => exact isi_of rfl kb_non_str
    | bl b => exact isi_of rfl kb_bool_str
    | int i => exact isi_of rfl kb_int_str
    | str t => exact isi_of rfl kb_str_str
    | _ => exact hv.elim
  have e := er_lc1 (b := fun v => decide (kd v = 3)) (f := fun d => d) (tg := gN 2) (tt := zTru (zCallS isiD (zCons (zVar 2) (zCons (zC (.raw (.ty "str"))) (zNil))))) (el := zVar 2) (vs := [2]) (base := [.dat (.lst P), .un, .un, .un]) (mi := ziL 4 (zVar 0)) (g := [.dat (.lst P), .un, .un, .un]) (L := P) (mi_Ld rfl) (fun o => rfl) (fun o => rfl) (Nat.le_trans hl (by decide))
    (fun v hv => lc_dat (h := [.dat (.lst P), .un, .dat v, .un]) rfl (fun o => rfl) (fun o => rfl) (fun o => rfl) (fun o => er_tru (er_callS (er_cons rfl (er_cons er_C er_nil)) rfl (is v (h v hv)) rfl) rfl rfl) (fun _ o => rfl))
  rw [filt_str h, List.map_id'] at e
  have wl : (wordsV P).length = (strsOf P).length := (ZS.isort_perm _).length_eq
  have sl := strsOf_len P
  have so := er_sortS (r := .bor 4) (ts := strsOf P) e rfl (txs_map _) (by omega)
  have hS : (ZS.isort ltTx (strsOf P)).map D.str = (wordsV P).map D.str := rfl
  rw [hS] at so
  have l0 := eq0 ((wordsV P).map D.str)
  have ll : ((wordsV P).map D.str).length = (wordsV P).length := List.length_map _
  have sm := ints_len (wordsV P)
  have jn : sizeW (wordsV P) ≤ 10000 → joinD (.str kSEP) [.lst ((wordsV P).map D.str)] = some (.str (TL.joinL kSEP (wordsV P))) := fun hz => by
    simp only [joinD, txs_map, Option.bind_eq_bind, Option.bind_some]
    rw [if_pos]
    unfold sizeW at hz
    rw [sum_nat] at hz
    show _ + _ * 2 ≤ _
    omega
  have e3 : zLc (ziL 4 (zVar 1)) (gN 3) (zYes) (zCallS lenD (zCons (zVar 3) (zNil))) [3] [.dat (.lst P), .own (.lst ((wordsV P).map D.str)) false false, .un, .un] = some (.bor 4, unlk 1 false ([.dat (.lst P), .own (.lst ((wordsV P).map D.str)) false true, .un, .un] ++ [.own (.lst ((((wordsV P).map D.str).filter fun _ => true).map fun d => match d with | .str t => D.int (t.length : Nat) | _ => .int 0)) false false])) :=
    er_lcO (b := fun _ => true) (f := fun d => match d with | .str t => D.int (t.length : Nat) | _ => .int 0) (base := [.dat (.lst P), .own (.lst ((wordsV P).map D.str)) false true, .un, .un]) (mi_Lb (er_varO rfl) (Nat.le_of_ble_eq_true rfl) rfl) rfl rfl (fun o => rfl) (fun o => rfl) (by rw [ll]; exact Nat.le_trans (show _ ≤ 60 by omega) (by decide))
    (fun d hd => by
      obtain ⟨t, ht, rfl⟩ := List.mem_map.mp hd
      exact lc_dat (h := [.dat (.lst P), .own (.lst ((wordsV P).map D.str)) false true, .un, .dat (.str t)]) rfl (fun o => rfl) (fun o => rfl) (fun o => rfl) (fun o => rfl) (fun _ o => er_callS (ds := [.str t]) (er_cons rfl er_nil) rfl (dr_lenS (Nat.le_trans (words_small h t ht).1 (by decide))) rfl))
  rw [List.filter_eq_self.mpr (fun _ _ => rfl)] at e3
  have cs : lstV P = if ((wordsV P).map D.str).length = 0 then .non else if sizeW (wordsV P) > 10000 then .non else .str (TL.joinL kSEP (wordsV P)) := by unfold lstV; rw [ll]
  rw [cs]
  have sz : sizeW (wordsV P) = (wordsV P |>.map fun t => ((t.length : Nat) : Int)).sum + 2 * ((((wordsV P).map D.str).length : Nat) - 1) := by unfold sizeW; rw [ll]
  rw [sz] at jn ⊢
  generalize (wordsV P |>.map fun t => ((t.length : Nat) : Int)).sum = u at *
  generalize TL.joinL kSEP (wordsV P) = J at *
  generalize ((wordsV P).map D.str).map (fun d => match d with | .str t => D.int (t.length : Nat) | _ => .int 0) = LL at *
  generalize (wordsV P).map D.str = S at *
  unfold d_listed b_listed
  refine runP_ap (g := [.dat (.lst P), .un, .un, .un]) rfl rfl ?_
  refine seq_nx (g1 := [.dat (.lst P), .own (.lst S) false false, .un, .un]) (set_own so (Nat.le_of_ble_eq_true rfl) rfl rfl rfl) ?_
  have t : zTst (zOp eqD (zCallS lenD (zCons (zVar 1) (zNil))) (zC (.int 0))) [.dat (.lst P), .own (.lst S) false false, .un, .un] = some (S.length == 0, [.dat (.lst P), .own (.lst S) false false, .un, .un]) := er_tst (er_op (er_callS (er_cons rfl er_nil) rfl rfl rfl) er_C rfl rfl l0 rfl)
  refine sr_if (g2 := [.dat (.lst P), .own (.lst S) false false, .un, .un]) t rfl (fun q => ?_) (fun q => ?_)
  · rw [if_pos (by simpa using q)]
    exact sr_ret er_C rfl
  · rw [if_neg (by simpa using q)]
    refine sr_nx ?_
    have e4 : zCallS sumL (zCons (zLc (ziL 4 (zVar 1)) (gN 3) (zYes) (zCallS lenD (zCons (zVar 3) (zNil))) [3]) (zNil)) [.dat (.lst P), .own (.lst S) false false, .un, .un] = some (.dat (.int u), [.dat (.lst P), .own (.lst S) false false, .un, .un, .own (.lst LL) false false]) := er_callS (ds := [.lst LL]) (er_cons e3 er_nil) rfl sm rfl
    have t2 : zTst (zOp gtD (zOp addS (zCallS sumL (zCons (zLc (ziL 4 (zVar 1)) (gN 3) (zYes) (zCallS lenD (zCons (zVar 3) (zNil))) [3]) (zNil))) (zOp mulD (zC (.int 2)) (zOp subD (zCallS lenD (zCons (zVar 1) (zNil))) (zC (.int 1))))) (zC c_MOST)) [.dat (.lst P), .own (.lst S) false false, .un, .un] = some (decide (u + 2 * ((S.length : Nat) - 1) > 10000), [.dat (.lst P), .own (.lst S) false false, .un, .un, .own (.lst LL) false false]) :=
      er_tst (er_op (er_op e4 (er_op er_C (er_op (er_callS (er_cons rfl er_nil) rfl rfl rfl) er_C rfl rfl rfl rfl) rfl rfl (dr_mull (by decide)) rfl) rfl rfl rfl rfl) er_C rfl rfl rfl rfl)
    refine sr_if (g2 := [.dat (.lst P), .own (.lst S) false false, .un, .un]) t2 rfl (fun q => ?_) (fun q => ?_)
    · rw [if_pos (of_decide_eq_true q)]
      exact sr_ret er_C rfl
    · have q' := of_decide_eq_false q
      rw [if_neg q']
      refine sr_nx ?_
      exact sr_ret (er_mt er_C rfl rfl (er_cons (er_varO rfl) er_nil) rfl rfl (jn (by omega)) rfl) rfl
local macro_rules | `(tactic| walk_at "e") => `(tactic| first | ((with_reducible apply er_ifT); (walk_at "e"); (walk_at "e")) | ((with_reducible apply er_ifF); (walk_at "e"); (walk_at "e")))
local macro_rules | `(tactic| walk_at "nohit") => `(tactic| (refine sr_if (er_tst (er_op rfl er_C rfl rfl rfl rfl)) rfl (fun h => absurd h (by decide)) (fun _ => ?_); refine sr_nx ?_))
local macro_rules | `(tactic| walk_at "hit") => `(tactic| refine sr_if (er_tst (er_op rfl er_C rfl rfl rfl rfl)) rfl (fun _ => ?_) (fun h => absurd h (by decide)))
local macro_rules | `(tactic| walk_at "nohitT") => `(tactic| (refine sr_if (er_tst (er_op rfl (er_tup (er_cons er_C (er_cons er_C er_nil)) rfl (Nat.le_of_ble_eq_true rfl)) rfl rfl rfl rfl)) rfl (fun h => absurd h (by decide)) (fun _ => ?_); refine sr_nx ?_))
local macro_rules | `(tactic| walk_at "hitT") => `(tactic| refine sr_if (er_tst (er_op rfl (er_tup (er_cons er_C (er_cons er_C er_nil)) rfl (Nat.le_of_ble_eq_true rfl)) rfl rfl rfl rfl)) rfl (fun _ => ?_) (fun h => absurd h (by decide)))
abbrev nRows : List Nat := [114, 111, 119, 115]
abbrev nCount : List Nat := [99, 111, 117, 110, 116]
abbrev nDist : List Nat := [100, 105, 115, 116, 105, 110, 99, 116]
abbrev nSum : List Nat := [115, 117, 109]
abbrev nMin : List Nat := [109, 105, 110]
abbrev nMax : List Nat := [109, 97, 120]
abbrev nAvg : List Nat := [97, 118, 101, 114, 97, 103, 101]
abbrev nSome : List Nat := [115, 111, 109, 101]
abbrev nList : List Nat := [108, 105, 115, 116]
theorem ov_count (P : List D) : d_over_values [.str nCount, .lst P] = some (.dat (.int (P.length : Nat))) := by
  unfold d_over_values b_over_values
  refine runP_ap (g := [.dat (.str nCount), .dat (.lst P), .un, .un, .un]) rfl rfl ?_
  walk_at "hit"
  exact sr_retS (er_callS (ds := [.lst P]) (er_cons rfl er_nil) rfl rfl rfl) rfl
theorem ov_dist {P : List D} (h : ∀ v ∈ P, VW v) (hl : P.length ≤ 60) : d_over_values [.str nDist, .lst P] = some (.dat (.int ((ZN.once (P.map vN)).length : Nat))) := by
  have e := er_lc1 (b := fun _ => true) (f := rk) (tg := gN 4) (tt := zYes) (el := zCall d_rank (zCons (zVar 4) (zNil))) (vs := [4]) (base := [.dat (.str nDist), .dat (.lst P), .un, .un, .un]) (mi := ziL 5 (zVar 1)) (g := [.dat (.str nDist), .dat (.lst P), .un, .un, .un]) (L := P) (mi_Ld rfl) (fun o => rfl) (fun o => rfl) (Nat.le_trans hl (by decide))
    (fun v hv => lc_dat (h := [.dat (.str nDist), .dat (.lst P), .un, .un, .dat v]) rfl (fun o => rfl) (fun o => rfl) (fun o => rfl) (fun o => rfl) (fun _ o => er_call (ds := [v]) (er_cons rfl er_nil) (rank_ok v (h v hv))))
  rw [List.filter_eq_self.mpr (fun _ _ => rfl)] at e
  have k1 := nk_rksP (r := P) fun v m => (h v m).pl
  have k2 := rks_tup P
  have k3 : (P.map rk).length < 64 := by rw [List.length_map]; omega
  have k4 : ∀ k ∈ P.map vN, k.depth ≤ 8 := fun k hk => by
    obtain ⟨v, _, rfl⟩ := List.mem_map.mp hk
    exact vN_depth v
  generalize P.map rk = RK at *
  generalize P.map vN = KN at *
  unfold d_over_values b_over_values
  refine runP_ap (g := [.dat (.str nDist), .dat (.lst P), .un, .un, .un]) rfl rfl ?_
  walk_at "nohit"; walk_at "hit"
  exact sr_retS (er_lenSet (ds := RK) (kk := KN) e rfl k1 k2 k4 k3 rfl) rfl
theorem ov_sum {P : List D} (h : ∀ v ∈ P, VW v) (hl : P.length ≤ 60) : d_over_values [.str nSum, .lst P] = some (.dat (sumV P)) := by
  have e := summed_ok h (by omega)
  unfold d_over_values b_over_values
  refine runP_ap (g := [.dat (.str nSum), .dat (.lst P), .un, .un, .un]) rfl rfl ?_
  walk_at "nohit"; walk_at "nohit"; walk_at "hit"
  exact sr_retS (er_call (ds := [.lst P]) (er_cons rfl er_nil) e) rfl
theorem ov_avg {P : List D} (h : ∀ v ∈ P, VW v) (hl : P.length ≤ 60) : d_over_values [.str nAvg, .lst P] = some (.dat (avgV P 10000)) := by
  have e := average_ok 10000 (by decide) h (by omega)
  unfold d_over_values b_over_values
  refine runP_ap (g := [.dat (.str nAvg), .dat (.lst P), .un, .un, .un]) rfl rfl ?_
  walk_at "nohit"; walk_at "nohit"; walk_at "nohit"; walk_at "hit"
  exact sr_retS (er_call (ds := [.lst P, .int 10000]) (er_cons rfl (er_cons er_C er_nil)) e) rfl
theorem ov_list {P : List D} (h : ∀ v ∈ P, VW v) (hl : P.length ≤ 60) : d_over_values [.str nList, .lst P] = some (.dat (lstV P)) := by
  have e := listed_ok h hl
  unfold d_over_values b_over_values
  refine runP_ap (g := [.dat (.str nList), .dat (.lst P), .un, .un, .un]) rfl rfl ?_
  walk_at "nohit"; walk_at "nohit"; walk_at "nohit"; walk_at "nohit"; walk_at "nohit"; walk_at "hit"
  exact sr_retS (er_call (ds := [.lst P]) (er_cons rfl er_nil) e) rfl
def somV (P : List D) : D := if (blsOf P).length = 0 then .non else .bl ((blsOf P).any id)
theorem ov_some {P : List D} (h : ∀ v ∈ P, VW v) (hl : P.length ≤ 60) : d_over_values [.str nSome, .lst P] = some (.dat (somV P)) := by
  have e := truths_ok h (by omega)
  have bl := blsD_of (blsOf P)
  have ll : ((blsOf P).map D.bl).length = (blsOf P).length := List.length_map _
  have l0 := eq0 ((blsOf P).map D.bl)
  have cs : somV P = if ((blsOf P).map D.bl).length = 0 then .non else .bl ((blsOf P).any id) := by unfold somV; rw [ll]
  rw [cs]
  have al : anyL [.lst ((blsOf P).map D.bl)] = some (.bl ((blsOf P).any id)) := by simp only [anyL, bl, Option.map_some]
  generalize (blsOf P).map D.bl = B at *
  generalize (blsOf P).any id = z at *
  unfold d_over_values b_over_values
  refine runP_ap (g := [.dat (.str nSome), .dat (.lst P), .un, .un, .un]) rfl rfl ?_
  walk_at "nohit"; walk_at "nohit"; walk_at "nohit"; walk_at "nohit"; walk_at "nohit"; walk_at "nohit"; walk_at "hitT"
  refine sr_assoc (seq_nx (g1 := [.dat (.str nSome), .dat (.lst P), .un, .own (.lst B) false false, .un]) (set_own (er_callL (ds := [.lst P]) (g1 := [.dat (.str nSome), .dat (.lst P), .un, .un, .un]) (er_cons rfl er_nil) e) (Nat.le_of_ble_eq_true rfl) rfl rfl rfl) (sr_assoc ?_))
  have t : zTst (zOp eqD (zCallS lenD (zCons (zVar 3) (zNil))) (zC (.int 0))) [.dat (.str nSome), .dat (.lst P), .un, .own (.lst B) false false, .un] = some (B.length == 0, [.dat (.str nSome), .dat (.lst P), .un, .own (.lst B) false false, .un]) := er_tst (er_op (er_callS (er_cons rfl er_nil) rfl rfl rfl) er_C rfl rfl l0 rfl)
  refine sr_if (g2 := [.dat (.str nSome), .dat (.lst P), .un, .own (.lst B) false false, .un]) t rfl (fun q => ?_) (fun q => ?_)
  · rw [if_pos (by simpa using q)]
    exact sr_retS er_C rfl
  · rw [if_neg (by simpa using q)]
    refine sr_nx ?_
    exact sr_retS (er_ifF (er_tst (er_op rfl er_C rfl rfl rfl rfl)) (er_callS (ds := [.lst B]) (er_cons rfl er_nil) rfl al rfl)) rfl
theorem atI_last {α : Type} {xs : List α} {x : α} (h : xs.getLast? = some x) : atI xs (-1) = some x := by
  have hn : xs ≠ [] := fun z => by rw [z] at h; cases h
  have hp := List.length_pos_iff.mpr hn
  unfold atI ixN
  rw [if_neg (by omega), if_pos (by omega), Option.bind_some]
  rw [List.getLast?_eq_getElem?] at h
  rw [show (-1 + (xs.length : Int)).toNat = xs.length - 1 by omega]
  exact h
theorem ov_min {P : List D} (h : ∀ v ∈ P, VW v) (hl : P.length ≤ 60) : d_over_values [.str nMin, .lst P] = some (.dat (minV P)) := by
  have k1 := codes_rk (f := d_rank) (vs := P) (fun v m => rank_ok v (h v m)) fun v m => (h v m).pl
  have k2 := sortP_rk P
  have pl : (sortV P).length = P.length := (sortV_perm P).length_eq
  have l0 := eq0 P
  generalize (P.map fun v => (v, vC v)) = CS at *
  unfold minV
  unfold d_over_values b_over_values
  refine runP_ap (g := [.dat (.str nMin), .dat (.lst P), .un, .un, .un]) rfl rfl ?_
  walk_at "nohit"; walk_at "nohit"; walk_at "nohit"; walk_at "nohit"; walk_at "nohit"; walk_at "nohit"; walk_at "nohitT"
  have t : zTst (zOp eqD (zCallS lenD (zCons (zVar 1) (zNil))) (zC (.int 0))) [.dat (.str nMin), .dat (.lst P), .un, .un, .un] = some (P.length == 0, [.dat (.str nMin), .dat (.lst P), .un, .un, .un]) := er_tst (er_op (er_callS (ds := [.lst P]) (er_cons rfl er_nil) rfl rfl rfl) er_C rfl rfl l0 rfl)
  refine sr_if (g2 := [.dat (.str nMin), .dat (.lst P), .un, .un, .un]) t rfl (fun q => ?_) (fun q => ?_)
  · have q : P.length = 0 := by simpa using q
    have : sortV P = [] := List.length_eq_zero_iff.mp (by omega)
    rw [this]
    exact sr_retS er_C rfl
  · have q : ¬ P.length = 0 := by simpa using q
    refine sr_nx ?_
    have so := er_sortK (f := d_rank) (b := false) (ma := zVar 1) (g := [.dat (.str nMin), .dat (.lst P), .un, .un, .un]) (r := .dat (.lst P)) rfl rfl k1
    rw [k2] at so
    obtain ⟨S, hS⟩ : ∃ S, S = sortV P := ⟨_, rfl⟩
    rw [← hS] at so pl ⊢
    refine seq_nx (g1 := [.dat (.str nMin), .dat (.lst P), .own (.lst S) false false, .un, .un]) (set_own so (Nat.le_of_ble_eq_true rfl) rfl rfl rfl) ?_
    cases S with
    | nil => exact absurd pl.symm q
    | cons x S => exact sr_ret (er_ifT (er_tst (er_op rfl er_C rfl rfl rfl rfl)) (er_ix (k := 0) (d := .lst (x :: S)) (er_varO rfl) er_C rfl (atI_nat (xs := x :: S) (j := 0) rfl))) rfl
theorem ov_max {P : List D} (h : ∀ v ∈ P, VW v) (hl : P.length ≤ 60) : d_over_values [.str nMax, .lst P] = some (.dat (maxV P)) := by
  have k1 := codes_rk (f := d_rank) (vs := P) (fun v m => rank_ok v (h v m)) fun v m => (h v m).pl
  have k2 := sortP_rk P
  have pl : (sortV P).length = P.length := (sortV_perm P).length_eq
  have l0 := eq0 P
  generalize (P.map fun v => (v, vC v)) = CS at *
  unfold maxV
  unfold d_over_values b_over_values
  refine runP_ap (g := [.dat (.str nMax), .dat (.lst P), .un, .un, .un]) rfl rfl ?_
  walk_at "nohit"; walk_at "nohit"; walk_at "nohit"; walk_at "nohit"; walk_at "nohit"; walk_at "nohit"; walk_at "nohitT"
  have t : zTst (zOp eqD (zCallS lenD (zCons (zVar 1) (zNil))) (zC (.int 0))) [.dat (.str nMax), .dat (.lst P), .un, .un, .un] = some (P.length == 0, [.dat (.str nMax), .dat (.lst P), .un, .un, .un]) := er_tst (er_op (er_callS (ds := [.lst P]) (er_cons rfl er_nil) rfl rfl rfl) er_C rfl rfl l0 rfl)
  refine sr_if (g2 := [.dat (.str nMax), .dat (.lst P), .un, .un, .un]) t rfl (fun q => ?_) (fun q => ?_)
  · have q : P.length = 0 := by simpa using q
    have : sortV P = [] := List.length_eq_zero_iff.mp (by omega)
    rw [this]
    exact sr_retS er_C rfl
  · have q : ¬ P.length = 0 := by simpa using q
    refine sr_nx ?_
    have so := er_sortK (f := d_rank) (b := false) (ma := zVar 1) (g := [.dat (.str nMax), .dat (.lst P), .un, .un, .un]) (r := .dat (.lst P)) rfl rfl k1
    rw [k2] at so
    obtain ⟨S, hS⟩ : ∃ S, S = sortV P := ⟨_, rfl⟩
    rw [← hS] at so pl ⊢
    refine seq_nx (g1 := [.dat (.str nMax), .dat (.lst P), .own (.lst S) false false, .un, .un]) (set_own so (Nat.le_of_ble_eq_true rfl) rfl rfl rfl) ?_
    have hs : S ≠ [] := fun z => by rw [z] at pl; exact q pl.symm
    obtain ⟨x, hx⟩ : ∃ x, S.getLast? = some x := ⟨_, List.getLast?_eq_some_getLast hs⟩
    have hd : S.getLastD .non = x := by rw [List.getLastD_eq_getLast?, hx]; rfl
    rw [hd]
    exact sr_ret (er_ifF (er_tst (er_op rfl er_C rfl rfl rfl rfl)) (er_ix (k := -1) (d := .lst S) (er_varO rfl) (er_un er_C rfl rfl rfl) rfl (atI_last hx))) rfl
def presV (L : List D) : List D := L.filter fun v => !(decide (kd v = 0))
theorem pres_vw {L : List D} (h : ∀ v ∈ L, VW v) : ∀ v ∈ presV L, VW v := fun v m => h v (List.mem_filter.mp m).1
theorem pres_len (L : List D) : (presV L).length ≤ L.length := List.length_filter_le ..
theorem isnt_vw {v : D} (h : VW v) : isntD v .non = some (.bl (!(decide (kd v = 0)))) := by
  cases v <;> first | rfl | exact h.elim
theorem present_ok {e : D} {RS : List (List D)} {val : List D → D} (hv : ∀ R ∈ RS, VW (val R)) (he : ∀ R ∈ RS, d_evaluate 40 [e, .lst R] = some (.dat (val R))) (hl : RS.length ≤ 60) :
    d_present_values [e, .lst (RS.map D.lst)] = some (.new (.lst (presV (RS.map val)))) := by
  unfold d_present_values b_present_values
  generalize d_evaluate 40 = F at *
  have ev : ∀ d ∈ RS.map D.lst, F [e, d] = some (.dat (match d with | .lst R => val R | _ => .non)) := fun d hd => by
    obtain ⟨R, hR, rfl⟩ := List.mem_map.mp hd
    exact he R hR
  have e1 := er_lc1 (b := fun _ => true) (f := fun d => match d with | .lst R => val R | _ => .non) (tg := gN 3) (tt := zYes) (el := zCall F (zCons (zVar 0) (zCons (zVar 3) (zNil)))) (vs := [3]) (base := [.dat e, .dat (.lst (RS.map D.lst)), .un, .un, .un]) (mi := ziL 5 (zVar 1)) (g := [.dat e, .dat (.lst (RS.map D.lst)), .un, .un, .un]) (L := RS.map D.lst) (mi_Ld rfl) (fun o => rfl) (fun o => rfl) (by rw [List.length_map]; exact Nat.le_trans hl (by decide))
    (fun d hd => lc_dat (h := [.dat e, .dat (.lst (RS.map D.lst)), .un, .dat d, .un]) rfl (fun o => rfl) (fun o => rfl) (fun o => rfl) (fun o => rfl) (fun _ o => er_call (ds := [e, d]) (er_cons rfl (er_cons rfl er_nil)) (ev d hd)))
  rw [List.filter_eq_self.mpr (fun _ _ => rfl), List.map_map] at e1
  have mm : (List.map ((fun d : D => match d with | .lst R => val R | _ => .non) ∘ D.lst) RS) = RS.map val := rfl
  rw [mm] at e1
  have vw : ∀ v ∈ RS.map val, VW v := fun v m => by
    obtain ⟨R, hR, rfl⟩ := List.mem_map.mp m
    exact hv R hR
  have ll : (RS.map val).length ≤ 60 := by rw [List.length_map]; exact hl
  generalize RS.map val = L at *
  generalize RS.map D.lst = RL at *
  have e2 : zLc (ziL 5 (zVar 2)) (gN 4) (zTst (zOp isntD (zVar 4) (zC .non))) (zVar 4) [4] [.dat e, .dat (.lst RL), .own (.lst L) false false, .un, .un] = some (.bor 5, unlk 2 false ([.dat e, .dat (.lst RL), .own (.lst L) false true, .un, .un] ++ [.own (.lst ((L.filter fun v => !(decide (kd v = 0))).map fun d => d)) false false])) :=
    er_lcO (b := fun v => !(decide (kd v = 0))) (f := fun d => d) (base := [.dat e, .dat (.lst RL), .own (.lst L) false true, .un, .un]) (mi_Lb (er_varO rfl) (Nat.le_of_ble_eq_true rfl) rfl) rfl rfl (fun o => rfl) (fun o => rfl) (Nat.le_trans ll (by decide))
    (fun v hv => lc_dat (h := [.dat e, .dat (.lst RL), .own (.lst L) false true, .un, .dat v]) rfl (fun o => rfl) (fun o => rfl) (fun o => rfl) (fun o => er_tst (er_op rfl er_C rfl rfl (isnt_vw (vw v hv)) rfl)) (fun _ o => rfl))
  rw [List.map_id'] at e2
  refine runP_ap (g := [.dat e, .dat (.lst RL), .un, .un, .un]) rfl rfl ?_
  refine seq_nx (g1 := [.dat e, .dat (.lst RL), .own (.lst L) false false, .un, .un]) (set_own e1 (Nat.le_of_ble_eq_true rfl) rfl rfl rfl) ?_
  exact sr_ret e2 rfl
theorem agg_rows (e : D) (RL : List D) : d_aggregate [.tup [.str nRows, e], .lst RL] = some (.dat (.int (RL.length : Nat))) := by
  unfold d_aggregate b_aggregate
  refine runP_ap (g := [.dat (.tup [.str nRows, e]), .dat (.lst RL), .un, .un]) rfl rfl ?_
  refine seq_nx (g1 := [.dat (.tup [.str nRows, e]), .dat (.lst RL), .dat (.str nRows), .dat e]) (asg_run rfl rfl rfl) ?_
  walk_at "hit"
  exact sr_retS (er_callS (ds := [.lst RL]) (er_cons rfl er_nil) rfl rfl rfl) rfl
theorem agg_other {nm : List Nat} {e r : D} {RL P : List D} (hn : (nm == nRows) = false) (hp : d_present_values [e, .lst RL] = some (.new (.lst P))) (ho : d_over_values [.str nm, .lst P] = some (.dat r)) (hr : r.scal = true) : d_aggregate [.tup [.str nm, e], .lst RL] = some (.dat r) := by
  unfold d_aggregate b_aggregate
  generalize d_present_values = F at *
  generalize d_over_values = G at *
  refine runP_ap (g := [.dat (.tup [.str nm, e]), .dat (.lst RL), .un, .un]) rfl rfl ?_
  refine seq_nx (g1 := [.dat (.tup [.str nm, e]), .dat (.lst RL), .dat (.str nm), .dat e]) (asg_run rfl rfl rfl) ?_
  refine sr_if (g2 := [.dat (.tup [.str nm, e]), .dat (.lst RL), .dat (.str nm), .dat e]) (b := nm == nRows) (er_tst (er_op rfl er_C rfl rfl rfl rfl)) rfl (fun h => by rw [hn] at h; cases h) (fun _ => ?_)
  refine sr_nx ?_
  exact sr_ret (er_callV (ds := [.str nm, .lst P]) (er_cons rfl (er_cons (er_callL (ds := [e, .lst RL]) (g1 := [.dat (.tup [.str nm, e]), .dat (.lst RL), .dat (.str nm), .dat e]) (er_cons rfl (er_cons rfl er_nil)) hp) er_nil)) rfl ho hr) rfl
theorem avg_vw (P : List D) (s : Int) : VW (avgV P s) := by
  unfold avgV
  split
  · trivial
  · exact lim_vw _
theorem lst_vw {P : List D} (h : ∀ v ∈ P, VW v) : VW (lstV P) := by
  unfold lstV
  split
  · trivial
  · split
    · trivial
    · rename_i c1 c2
      have hne : wordsV P ≠ [] := fun q => c1 (by rw [q]; rfl)
      refine ⟨?_, fun c hc => ?_⟩
      · rw [joinL_len _ _ hne]
        unfold sizeW at c2
        rw [sum_nat] at c2
        show _ + 2 * _ ≤ _
        omega
      · rcases joinL_mem hc with q | ⟨p, hp, q⟩
        · exact (by decide : ∀ c ∈ kSEP, c < 128) c q
        · exact (words_small h p hp).2 c q
theorem min_vw {P : List D} (h : ∀ v ∈ P, VW v) : VW (minV P) := by
  have pm := sortV_perm P
  unfold minV
  cases hS : sortV P with
  | nil => trivial
  | cons x S =>
    rw [hS] at pm
    exact h x (pm.mem_iff.mp List.mem_cons_self)
theorem max_vw {P : List D} (h : ∀ v ∈ P, VW v) : VW (maxV P) := by
  have pm := sortV_perm P
  unfold maxV
  rw [List.getLastD_eq_getLast?]
  cases hS : (sortV P).getLast? with
  | none => trivial
  | some x => exact h x (pm.mem_iff.mp (List.mem_of_getLast? hS))
theorem nat_vw {n : Nat} (h : n ≤ 60) : VW (.int (n : Nat)) := by
  show ((n : Nat) : Int).natAbs ≤ 10 ^ 15
  omega
theorem once_le (ks : List NestedKey) : (ZN.once ks).length ≤ ks.length := by
  have : ∀ (n : Nat) (ks : List NestedKey), ks.length = n → (ZN.once ks).length ≤ ks.length := by
    intro n
    induction n with
    | zero =>
      intro ks hl
      obtain rfl := List.length_eq_zero_iff.mp hl
      exact Nat.le_refl _
    | succ n ih =>
      intro ks hl
      obtain ⟨ws, w, rfl⟩ : ∃ ws w, ks = ws ++ [w] := by
        have : ks ≠ [] := fun z => by rw [z] at hl; cases hl
        exact ⟨ks.dropLast, ks.getLast this, (List.dropLast_concat_getLast this).symm⟩
      rw [List.length_append, List.length_singleton] at hl
      have := ih ws (by omega)
      rw [once_snoc, List.length_append, List.length_singleton]
      split <;> omega
  exact this _ ks rfl
theorem sum_vw (P : List D) : VW (sumV P) := by
  unfold sumV
  split
  · trivial
  · exact lim_vw _
theorem som_vw (P : List D) : VW (somV P) := by
  unfold somV
  split <;> trivial
def names9 : List (List Nat) := [nRows, nCount, nDist, nSum, nMin, nMax, nAvg, nList, nSome]
theorem over_any {L : List D} (h : ∀ v ∈ L, VW v) (hl : L.length ≤ 60) : ∀ nm ∈ names9, (nm == nRows) = false → ∃ r, VW r ∧ d_over_values [.str nm, .lst (presV L)] = some (.dat r) := by
  have pv := pres_vw h
  have pl := Nat.le_trans (pres_len L) hl
  intro nm hm h0
  simp only [names9, List.mem_cons, List.not_mem_nil, or_false] at hm
  rcases hm with rfl | rfl | rfl | rfl | rfl | rfl | rfl | rfl | rfl
  · exact absurd h0 (by decide)
  · exact ⟨_, nat_vw pl, ov_count _⟩
  · exact ⟨_, nat_vw (Nat.le_trans (once_le _) (by rw [List.length_map]; exact pl)), ov_dist pv pl⟩
  · exact ⟨_, sum_vw _, ov_sum pv pl⟩
  · exact ⟨_, min_vw pv, ov_min pv pl⟩
  · exact ⟨_, max_vw pv, ov_max pv pl⟩
  · exact ⟨_, avg_vw _ _, ov_avg pv pl⟩
  · exact ⟨_, lst_vw pv, ov_list pv pl⟩
  · exact ⟨_, som_vw _, ov_some pv pl⟩
noncomputable def evB (c : D) (R : List D) : D := frV (d_evaluate 40 [c, .lst R])
def RV (R : List D) : Prop := ∀ v ∈ R, VW v
theorem evB_ok {w : Int} {k : Nat} {c : D} (h : Ex VS w k c) (hk : k ≤ 8) {R : List D} (hR : RV R) : VW (evB c R) ∧ d_evaluate 40 [c, .lst R] = some (.dat (evB c R)) := by
  obtain ⟨v, wv, e⟩ := ev_ok (fun _ h => VS.vw h) h R hR
  have e := e 40 (by omega)
  have f : evB c R = v := by unfold evB; rw [e]; rfl
  rw [f]
  exact ⟨wv, e⟩
/-- an aggregate asked -/
def AV (v : D) : Prop := ∃ nm e, v = .tup [.str nm, e] ∧ nm ∈ names9 ∧ ((nm == nRows) = false → Ex VS 3 1 e)
noncomputable def aggB (v : D) (RL : List D) : D := frV (d_aggregate [v, .lst RL])
theorem agg_ok {v : D} (h : AV v) {RS : List (List D)} (hR : ∀ R ∈ RS, RV R) (hl : RS.length ≤ 60) : VW (aggB v (RS.map D.lst)) ∧ d_aggregate [v, .lst (RS.map D.lst)] = some (.dat (aggB v (RS.map D.lst))) := by
  have fin : ∀ r, VW r → d_aggregate [v, .lst (RS.map D.lst)] = some (.dat r) → VW (aggB v (RS.map D.lst)) ∧ d_aggregate [v, .lst (RS.map D.lst)] = some (.dat (aggB v (RS.map D.lst))) := fun r w e => by
    have f : aggB v (RS.map D.lst) = r := by unfold aggB; rw [e]; rfl
    rw [f]
    exact ⟨w, e⟩
  obtain ⟨nm, e, rfl, hm, he⟩ := h
  cases c : nm == nRows with
  | true =>
    obtain rfl : nm = nRows := beq_iff_eq.mp c
    exact fin _ (nat_vw (n := (RS.map D.lst).length) (by rw [List.length_map]; exact hl)) (agg_rows _ _)
  | false =>
    have he := he c
    have hv : ∀ R ∈ RS, VW (evB e R) := fun R m => (evB_ok he (by decide) (hR R m)).1
    have he2 : ∀ R ∈ RS, d_evaluate 40 [e, .lst R] = some (.dat (evB e R)) := fun R m => (evB_ok he (by decide) (hR R m)).2
    obtain ⟨r, w, o⟩ := over_any (L := RS.map (evB e)) (fun v m => by
      obtain ⟨R, hm, rfl⟩ := List.mem_map.mp m
      exact hv R hm) (by rw [List.length_map]; exact hl) nm hm c
    exact fin r w (agg_other c (present_ok hv he2 hl) o w.scal)
theorem rrank_ok {R : List D} (h : RV R) (hl : R.length ≤ 1000) : d_row_rank [.lst R] = some (.dat (.tup (R.map rk))) := by
  have e := er_lc1 (b := fun _ => true) (f := rk) (tg := gN 1) (tt := zYes) (el := zCall d_rank (zCons (zVar 1) (zNil))) (vs := [1]) (base := [.dat (.lst R), .un]) (mi := ziL 2 (zVar 0)) (g := [.dat (.lst R), .un]) (L := R) (mi_Ld rfl) (fun o => rfl) (fun o => rfl) (Nat.le_trans hl (by decide))
    (fun v hv => lc_dat (h := [.dat (.lst R), .dat v]) rfl (fun o => rfl) (fun o => rfl) (fun o => rfl) (fun o => rfl) (fun _ o => er_call (ds := [v]) (er_cons rfl er_nil) (rank_ok v (h v hv))))
  rw [List.filter_eq_self.mpr (fun _ _ => rfl)] at e
  unfold d_row_rank b_row_rank
  refine runP_ap (g := [.dat (.lst R), .un]) rfl rfl ?_
  exact sr_ret (er_tupL (er_cons e er_nil) rfl) rfl
/-- a list of keys or aggregates, as tuple or list -/
def Seq (d : D) (K : List D) : Prop := d = .tup K ∨ d = .lst K
theorem mi_seq {n i : Nat} {g : G} {d : D} {K : List D} (h : Seq d K) (hi : g[i]? = some (.dat d)) : ziU n (zVar i) g = some (K, none, g) := by
  rcases h with rfl | rfl
  · exact mi_UT (er_varD hi)
  · exact mi_Ud (er_varD hi)
noncomputable def foundV (K : List D) (R : List D) : List D := K.map fun e => evB e R
theorem found_vw {K : List D} (hK : ∀ e ∈ K, Ex VS 3 1 e) {R : List D} (hR : RV R) : RV (foundV K R) := fun v m => by
  obtain ⟨e, me, rfl⟩ := List.mem_map.mp m
  exact (evB_ok (hK e me) (by decide) hR).1
theorem evall_ok {d : D} {K : List D} (h : Seq d K) (hK : ∀ e ∈ K, Ex VS 3 1 e) (hl : K.length ≤ 1000) {R : List D} (hR : RV R) : d_evaluate_all [d, .lst R] = some (.new (.lst (foundV K R))) := by
  have e := er_lc1 (b := fun _ => true) (f := fun e => evB e R) (tg := gN 2) (tt := zYes) (el := zCall (d_evaluate 40) (zCons (zVar 2) (zCons (zVar 1) (zNil)))) (vs := [2]) (base := [.dat d, .dat (.lst R), .un]) (mi := ziU 3 (zVar 0)) (g := [.dat d, .dat (.lst R), .un]) (L := K) (mi_seq h rfl) (fun o => rfl) (fun o => rfl) (Nat.le_trans hl (by decide))
    (fun v hv => lc_dat (h := [.dat d, .dat (.lst R), .dat v]) rfl (fun o => rfl) (fun o => rfl) (fun o => rfl) (fun o => rfl) (fun _ o => er_call (ds := [v, .lst R]) (er_cons rfl (er_cons rfl er_nil)) (evB_ok (hK v hv) (by decide) hR).2))
  rw [List.filter_eq_self.mpr (fun _ _ => rfl)] at e
  unfold d_evaluate_all b_evaluate_all
  refine runP_ap (g := [.dat d, .dat (.lst R), .un]) rfl rfl ?_
  exact sr_ret e rfl
def kN (l : List D) : NestedKey := .tup (l.map vN)
noncomputable def stepG (K : List D) (acc : List ZN.G3) (R : List D) : List ZN.G3 := ZN.pushG (ZN.addG acc (kN (foundV K R)) (foundV K R)) (kN (foundV K R)) (.lst R)
theorem kN_nk {l : List D} (h : RV l) : ZN.nkD (.tup (l.map rk)) = some (kN l) ∧ (kN l).depth ≤ 8 := by
  refine ⟨?_, ?_⟩
  · unfold ZN.nkD
    rw [nk_rksP fun v m => (h v m).pl]
    rfl
  · have : ∀ l : List D, NestedKey.depthAll (l.map vN) ≤ 2 := by
      intro l
      induction l with
      | nil => decide
      | cons v l ih =>
        rw [List.map_cons]
        simp only [NestedKey.depthAll]
        have : (vN v).depth ≤ 2 := by cases v <;> simp [vN, kx, vX, NestedKey.depth, NestedKey.depthAll]
        omega
    show NestedKey.depthAll (l.map vN) + 1 ≤ 8
    have := this l
    omega
theorem grp_run {d : D} {K : List D} (h : Seq d K) (hK : ∀ e ∈ K, Ex VS 3 1 e) (hl : K.length ≤ 1000) : ∀ (RS : List (List D)) (acc : List ZN.G3), (∀ R ∈ RS, RV R) → ZN.grpF d_evaluate_all d_row_rank d (RS.map D.lst) acc = some (RS.foldl (stepG K) acc)
  | [], _, _ => rfl
  | R :: RS, acc, hR => by
    have f := found_vw hK (hR R List.mem_cons_self)
    obtain ⟨k1, k2⟩ := kN_nk f
    rw [List.map_cons, List.foldl_cons]
    unfold ZN.grpF
    rw [evall_ok h hK hl (hR R List.mem_cons_self)]
    simp only [rrank_ok f (by unfold foundV; rw [List.length_map]; exact hl), k1, if_pos k2]
    exact grp_run h hK hl RS _ fun R' m => hR R' (List.mem_cons_of_mem _ m)
theorem grouped_ok {d : D} {K : List D} (h : Seq d K) (hK : ∀ e ∈ K, Ex VS 3 1 e) (hl : K.length ≤ 1000) {RS : List (List D)} (hR : ∀ R ∈ RS, RV R) (hz : RS.length < 1000) : d_grouped [d, .lst (RS.map D.lst)] = some (.dat (.lst ((RS.foldl (stepG K) []).map fun g => .tup [.lst g.2.1, .lst g.2.2]))) := by
  show (if (RS.map D.lst).length < 1000 then (ZN.grpF d_evaluate_all d_row_rank d (RS.map D.lst) []).map (fun acc => FR.dat (.lst (acc.map fun g => .tup [.lst g.2.1, .lst g.2.2]))) else none) = _
  rw [if_pos (by rw [List.length_map]; exact hz), grp_run h hK hl RS [] hR]
  rfl
def GB (K : List D) (n : Nat) (acc : List ZN.G3) : Prop := ∀ g ∈ acc, g.1 = kN g.2.1 ∧ RV g.2.1 ∧ g.2.1.length = K.length ∧ ∃ ms : List (List D), g.2.2 = ms.map D.lst ∧ (∀ R ∈ ms, RV R) ∧ ms.length ≤ n
theorem GB.up {K : List D} {n m : Nat} {acc : List ZN.G3} (h : GB K n acc) (k : n ≤ m) : GB K m acc := fun g hg => by
  obtain ⟨a, b, c, ms, d, e, f⟩ := h g hg
  exact ⟨a, b, c, ms, d, e, Nat.le_trans f k⟩
theorem GB.new {K l : List D} {n : Nat} {acc : List ZN.G3} (h : GB K n acc) (hl : RV l) (hk : l.length = K.length) {ms : List (List D)} (hm : ∀ R ∈ ms, RV R) (hn : ms.length ≤ n) : GB K n (acc ++ [(kN l, l, ms.map D.lst)]) := fun g hg => by
  rcases List.mem_append.mp hg with hg | hg
  · exact h g hg
  · rw [List.mem_singleton.mp hg]
    exact ⟨rfl, hl, hk, ms, rfl, hm, hn⟩
theorem GB.push {K : List D} {n i : Nat} {acc : List ZN.G3} (h : GB K n acc) {g : ZN.G3} (hg : acc[i]? = some g) {R : List D} (hR : RV R) : GB K (n + 1) (acc.set i (g.1, g.2.1, g.2.2 ++ [.lst R])) := fun x hx => by
  rcases List.mem_or_eq_of_mem_set hx with hx | rfl
  · exact (h.up (Nat.le_succ n)) x hx
  · obtain ⟨a, b, c, ms, d, e, f⟩ := h g (List.mem_of_getElem? hg)
    refine ⟨a, b, c, ms ++ [R], ?_, fun Q hQ => ?_, by rw [List.length_append, List.length_singleton]; omega⟩
    · show g.2.2 ++ [.lst R] = _
      rw [d, List.map_append]; rfl
    · rcases List.mem_append.mp hQ with hQ | hQ
      · exact e Q hQ
      · rw [List.mem_singleton.mp hQ]; exact hR
/-- what a row does to the groups -/
theorem step_is (K : List D) (acc : List ZN.G3) (R : List D) : (∃ i g, ZN.idx 0 acc (kN (foundV K R)) = some i ∧ acc[i]? = some g ∧ stepG K acc R = acc.set i (g.1, g.2.1, g.2.2 ++ [.lst R])) ∨
    (ZN.idx 0 acc (kN (foundV K R)) = none ∧ stepG K acc R = acc ++ [(kN (foundV K R), foundV K R, [.lst R])]) := by
  unfold stepG
  cases e : ZN.idx 0 acc (kN (foundV K R)) with
  | some i =>
    obtain ⟨_, g, hg⟩ := ZN.idx_at e
    refine .inl ⟨i, g, rfl, hg, ?_⟩
    have ea : ZN.addG acc (kN (foundV K R)) (foundV K R) = acc := by unfold ZN.addG; rw [e]; rfl
    have hg : acc[i]? = some g := hg
    rw [ea]
    unfold ZN.pushG
    rw [e]
    simp only [hg]
  | none =>
    refine .inr ⟨rfl, ?_⟩
    have ea : ZN.addG acc (kN (foundV K R)) (foundV K R) = acc ++ [(kN (foundV K R), foundV K R, [])] := by unfold ZN.addG; rw [e]; rfl
    have ei := ZN.idx_new (l := foundV K R) (m := []) e
    rw [Nat.zero_add] at ei
    have hg : (acc ++ [(kN (foundV K R), foundV K R, ([] : List D))])[acc.length]? = some (kN (foundV K R), foundV K R, []) := by simp
    rw [ea]
    unfold ZN.pushG
    rw [ei]
    simp only [hg]
    rw [List.set_append_right _ _ (Nat.le_refl _), Nat.sub_self]
    rfl
theorem GB.step {K : List D} (hK : ∀ e ∈ K, Ex VS 3 1 e) {n : Nat} {acc : List ZN.G3} (h : GB K n acc) {R : List D} (hR : RV R) : GB K (n + 1) (stepG K acc R) := by
  rcases step_is K acc R with ⟨i, g, _, hg, e⟩ | ⟨_, e⟩
  · rw [e]; exact h.push hg hR
  · rw [e]
    exact (h.up (Nat.le_succ n)).new (ms := [R]) (found_vw hK hR) (by unfold foundV; rw [List.length_map]) (fun Q hQ => by rw [List.mem_singleton.mp hQ]; exact hR) (Nat.succ_le_succ (Nat.zero_le _))
theorem step_len (K : List D) (acc : List ZN.G3) (R : List D) : (stepG K acc R).length ≤ acc.length + 1 := by
  rcases step_is K acc R with ⟨i, g, _, _, e⟩ | ⟨_, e⟩
  · rw [e, List.length_set]; omega
  · rw [e, List.length_append]; exact Nat.le_refl _
theorem fold_gb {K : List D} (hK : ∀ e ∈ K, Ex VS 3 1 e) : ∀ (RS : List (List D)) (n : Nat) (acc : List ZN.G3), (∀ R ∈ RS, RV R) → GB K n acc → GB K (n + RS.length) (RS.foldl (stepG K) acc) ∧ (RS.foldl (stepG K) acc).length ≤ acc.length + RS.length
  | [], n, acc, _, h => ⟨h, Nat.le_refl _⟩
  | R :: RS, n, acc, hR, h => by
    obtain ⟨a, b⟩ := fold_gb hK RS (n + 1) _ (fun Q m => hR Q (List.mem_cons_of_mem _ m)) (h.step hK (hR R List.mem_cons_self))
    have := step_len K acc R
    rw [List.foldl_cons, List.length_cons]
    exact ⟨a.up (by omega), by omega⟩
theorem rks_dec : ∀ {u l : List D}, RV u → RV l → D.eqvA (u.map rk) (l.map rk) = decide (u.map vN = l.map vN)
  | [], [], _, _ => rfl
  | [], _ :: _, _, _ => by rw [decide_eq_false (by intro h; cases h)]; rfl
  | _ :: _, [], _, _ => by rw [decide_eq_false (by intro h; cases h)]; rfl
  | x :: u, y :: l, hu, hl => by
    have e := rks_dec (u := u) (l := l) (fun v m => hu v (List.mem_cons_of_mem _ m)) fun v m => hl v (List.mem_cons_of_mem _ m)
    have i := vN_iff (hu x List.mem_cons_self).pl (hl y List.mem_cons_self).pl
    show (sameV x y && D.eqvA (u.map rk) (l.map rk)) = _
    rw [e, List.map_cons, List.map_cons]
    cases s : sameV x y with
    | true =>
      have := i.mpr s
      rw [Bool.true_and, decide_eq_decide, this]
      exact ⟨fun h => by rw [h], fun h => (List.cons.inj h).2⟩
    | false =>
      rw [Bool.false_and]
      refine (decide_eq_false fun h => ?_).symm
      have : vN x = vN y := (List.cons.inj h).1
      rw [i.mp this] at s
      cases s
theorem rks_dec2 {u l : List D} (hu : RV u) (hl : RV l) : D.eqv (.tup (u.map rk)) (.tup (l.map rk)) = decide (kN u = kN l) := by
  show D.eqvA _ _ = _
  rw [rks_dec hu hl, decide_eq_decide]
  unfold kN
  exact ⟨fun h => by rw [h], fun h => NestedKey.tup.inj h⟩
def seenD (acc : List ZN.G3) : List D := acc.map fun g => .tup (g.2.1.map rk)
theorem seen_rok {K : List D} {n : Nat} : ∀ {acc : List ZN.G3}, GB K n acc → D.rokA (seenD acc) = true ∧ D.dpA (seenD acc) ≤ 2
  | [], _ => ⟨rfl, Nat.zero_le _⟩
  | g :: acc, h => by
    obtain ⟨a, b⟩ := seen_rok (acc := acc) fun x m => h x (List.mem_cons_of_mem _ m)
    obtain ⟨_, q, _⟩ := h g List.mem_cons_self
    obtain ⟨r1, r2, _⟩ := rks_rokW q
    refine ⟨?_, ?_⟩
    · show (D.rokA (g.2.1.map rk) && D.rokA (seenD acc)) = true
      rw [r1, a]; rfl
    · show max (D.dpA (g.2.1.map rk) + 1) (D.dpA (seenD acc)) ≤ 2
      omega
theorem seen_find {l : List D} (hl : RV l) {K : List D} {n : Nat} : ∀ {acc : List ZN.G3} (j : Nat), GB K n acc → ((seenD acc).findIdx? fun y => D.eqv y (.tup (l.map rk))).map (fun i => i + j) = ZN.idx j acc (kN l)
  | [], _, _ => rfl
  | g :: acc, j, h => by
    obtain ⟨e1, q, _⟩ := h g List.mem_cons_self
    have e := seen_find hl (acc := acc) (j + 1) fun x m => h x (List.mem_cons_of_mem _ m)
    show ((D.tup (g.2.1.map rk) :: seenD acc).findIdx? _).map _ = _
    unfold ZN.idx
    rw [List.findIdx?_cons, rks_dec2 q hl, ← e1, ← e]
    by_cases c : g.1 = kN l
    · rw [decide_eq_true c, if_pos rfl, if_pos c]
      simp
    · rw [decide_eq_false c, if_neg c]
      simp only [Bool.false_eq_true, if_false, Option.map_map]
      congr 1
      funext i
      simp only [Function.comp]
      omega
theorem seen_idx {l : List D} (hl : RV l) {K : List D} {n : Nat} {acc : List ZN.G3} (h : GB K n acc) : ((seenD acc).findIdx? fun y => D.eqv y (.tup (l.map rk))) = ZN.idx 0 acc (kN l) := by
  have e := seen_find hl 0 h
  rw [← e]
  simp
theorem seen_in {l : List D} (hl : RV l) {K : List D} {n : Nat} {acc : List ZN.G3} (h : GB K n acc) : inD (.tup (l.map rk)) (.lst (seenD acc)) = some (.bl (ZN.idx 0 acc (kN l)).isSome) := by
  obtain ⟨a1, b1, _⟩ := rks_rokW hl
  obtain ⟨a2, b2⟩ := seen_rok h
  have s1 : (D.tup (l.map rk)).shp = true := rok_shp a1 (by show D.dpA _ + 1 ≤ 60; omega)
  have s2 : (D.lst (seenD acc)).shp = true := rok_shp a2 (by show D.dpA _ + 1 ≤ 60; omega)
  have p1 : (D.tup (l.map rk)).pl = false := rfl
  have e := seen_idx hl h
  unfold inD inB
  simp only [p1, s1, s2, Bool.false_and, Bool.false_eq_true, if_false, Bool.and_self, if_true, Option.map_some]
  rw [← e, List.findIdx?_isSome]
  rfl
theorem seen_at {l : List D} (hl : RV l) {K : List D} {n i : Nat} {acc : List ZN.G3} (h : GB K n acc) (hi : ZN.idx 0 acc (kN l) = some i) : nindexD (.lst (seenD acc)) [.tup (l.map rk)] = some (.int (i : Nat)) := by
  obtain ⟨a1, b1, _⟩ := rks_rokW hl
  obtain ⟨a2, b2⟩ := seen_rok h
  exact dr_nindex (rok_shp a1 (by show D.dpA _ + 1 ≤ 60; omega)) (rok_shp a2 (by show D.dpA _ + 1 ≤ 60; omega)) ((seen_idx hl h).trans hi)
theorem lc_gen {tg : TD} {tt : ZT} {el : ZM} {vs : List Nat} {t : Nat} {base h : G} {x : D} {b : Bool} {y : D} (hl : h.length = t) (hw : ∀ o : Sl, wipeG (h ++ [o]) vs = base ++ [o]) (hf : ∀ o : Sl, freeAll (h ++ [o]) vs = true) (h1 : ∀ o : Sl, tg x (base ++ [o]) = some (h ++ [o])) (h2 : ∀ o : Sl, tt (h ++ [o]) = some (b, h ++ [o]))
    (h3 : b = true → ∀ o : Sl, ∃ (r : R) (k k' : G), el (h ++ [o]) = some (r, (h ++ [o]) ++ k) ∧ frzR r ((h ++ [o]) ++ k) = some (y, (h ++ [o]) ++ k')) : LcItem tg tt el vs t base x b y :=
  ⟨fun acc => ⟨h, hl, hf _, hw, hf, h1 _, h2 _, fun hb => by
    obtain ⟨r, k, k', e1, e2⟩ := h3 hb (.own (.lst acc) false false)
    refine ⟨r, _, _, e1, e2, ?_, fun o => ?_⟩
    · subst hl; simp
    · subst hl
      rw [List.append_assoc, List.set_append_right _ _ (Nat.le_refl _), Nat.sub_self]
      show (h ++ (o :: k')).take (h.length + 1) = h ++ [o]
      rw [List.take_append, List.take_of_length_le (by omega), Nat.add_sub_cancel_left]
      rfl⟩⟩
noncomputable def outG (VL : List D) (g : ZN.G3) : List D := g.2.1 ++ VL.map fun v => aggB v g.2.2
noncomputable def dueG (K VL : List D) (RS : List (List D)) : List (List D) := if K.length = 0 then [VL.map fun v => aggB v (RS.map D.lst)] else (RS.foldl (stepG K) []).map (outG VL)
theorem due_vw {K VL : List D} (hK : ∀ e ∈ K, Ex VS 3 1 e) (hk : K.length ≤ 100) (hV : ∀ v ∈ VL, AV v) (hv : VL.length ≤ 100) {RS : List (List D)} (hR : ∀ R ∈ RS, RV R) (hz : RS.length ≤ 60) : (∀ R ∈ dueG K VL RS, RV R ∧ R.length ≤ 1000) ∧ (dueG K VL RS).length ≤ 61 := by
  obtain ⟨a, b⟩ := fold_gb hK RS 0 [] hR fun g m => nomatch m
  rw [Nat.zero_add] at a
  rw [List.length_nil, Nat.zero_add] at b
  unfold dueG
  split
  · refine ⟨fun R m => ?_, by simp⟩
    rw [List.mem_singleton.mp m]
    refine ⟨fun x hx => ?_, by rw [List.length_map]; omega⟩
    obtain ⟨v, mv, rfl⟩ := List.mem_map.mp hx
    exact (agg_ok (hV v mv) hR hz).1
  · refine ⟨fun R m => ?_, by rw [List.length_map]; omega⟩
    obtain ⟨g, mg, rfl⟩ := List.mem_map.mp m
    obtain ⟨_, q1, q2, ms, q3, q4, q5⟩ := a g mg
    unfold outG
    refine ⟨fun x hx => ?_, by rw [List.length_append, List.length_map]; omega⟩
    rcases List.mem_append.mp hx with hx | hx
    · exact q1 x hx
    · obtain ⟨v, mv, rfl⟩ := List.mem_map.mp hx
      show VW (aggB v g.2.2)
      rw [q3]
      exact (agg_ok (hV v mv) q4 (by omega)).1
theorem lenSeq {d : D} {K : List D} (h : Seq d K) : lenD [d] = some (.int (K.length : Nat)) := by rcases h with rfl | rfl <;> rfl
theorem group_ok {d e : D} {K VL : List D} (hd : Seq d K) (he : Seq e VL) (hK : ∀ e ∈ K, Ex VS 3 1 e) (hk : K.length ≤ 100) (hV : ∀ v ∈ VL, AV v) (hv : VL.length ≤ 100) {RS : List (List D)} (hR : ∀ R ∈ RS, RV R) (hz : RS.length ≤ 60) : d_group_rows [d, e, .lst (RS.map D.lst)] = some (.new (.lst ((dueG K VL RS).map D.lst))) := by
  have hln := lenSeq hd
  unfold d_group_rows b_group_rows
  refine runP_ap (g := [.dat d, .dat e, .dat (.lst (RS.map D.lst)), .un, .un, .un]) rfl rfl ?_
  have t : zTst (zOp eqD (zCallS lenD (zCons (zVar 0) (zNil))) (zC (.int 0))) [.dat d, .dat e, .dat (.lst (RS.map D.lst)), .un, .un, .un] = some (((K.length : Nat) : Int) == 0, [.dat d, .dat e, .dat (.lst (RS.map D.lst)), .un, .un, .un]) := er_tst (er_op (er_callS (er_cons rfl er_nil) rfl hln rfl) er_C rfl rfl dr_eqI rfl)
  refine sr_if (g2 := [.dat d, .dat e, .dat (.lst (RS.map D.lst)), .un, .un, .un]) t rfl (fun c => ?_) (fun c => ?_)
  · have k0 : K.length = 0 := by have := beq_iff_eq.mp c; omega
    have e1 := er_lc1 (b := fun _ => true) (f := fun v => aggB v (RS.map D.lst)) (tg := gN 5) (tt := zYes) (el := zCall d_aggregate (zCons (zVar 5) (zCons (zVar 2) (zNil)))) (vs := [5]) (base := [.dat d, .dat e, .dat (.lst (RS.map D.lst)), .un, .un, .un]) (mi := ziU 6 (zVar 1)) (g := [.dat d, .dat e, .dat (.lst (RS.map D.lst)), .un, .un, .un]) (L := VL) (mi_seq he rfl) (fun o => rfl) (fun o => rfl) (Nat.le_trans hv (by decide))
      (fun v mv => lc_dat (h := [.dat d, .dat e, .dat (.lst (RS.map D.lst)), .un, .un, .dat v]) rfl (fun o => rfl) (fun o => rfl) (fun o => rfl) (fun o => rfl) (fun _ o => er_callG (er_cons rfl (er_cons rfl er_nil)) rfl rfl (agg_ok (hV v mv) hR hz).2 rfl))
    rw [List.filter_eq_self.mpr (fun _ _ => rfl)] at e1
    unfold dueG
    rw [if_pos k0]
    exact sr_retS (er_lst (g2 := [.dat d, .dat e, .dat (.lst (RS.map D.lst)), .un, .un, .un, .frz (.lst (VL.map fun v => aggB v (RS.map D.lst)))]) (er_cons e1 er_nil) rfl (Nat.le_of_ble_eq_true rfl)) rfl
  · have k0 : K.length ≠ 0 := by intro h; rw [h] at c; cases c
    obtain ⟨a, b⟩ := fold_gb hK RS 0 [] hR fun g m => nomatch m
    rw [Nat.zero_add] at a
    rw [List.length_nil, Nat.zero_add] at b
    have gr := grouped_ok hd hK (by omega) hR (by omega)
    unfold dueG
    rw [if_neg k0]
    generalize RS.foldl (stepG K) [] = acc at *
    have ez := er_lc1 (b := fun _ => true) (f := fun x => match x with | .tup [.lst l, .lst m] => .lst (l ++ VL.map fun v => aggB v m) | _ => .non) (tg := gT 2 (gCons' (gN 3) (gCons' (gN 4) (gNil')))) (tt := zYes) (el := zCatL (zVar 3) (zLc (ziU 6 (zVar 1)) (gN 5) (zYes) (zCall d_aggregate (zCons (zVar 5) (zCons (zVar 4) (zNil)))) [5])) (vs := [3, 4]) (base := [.dat d, .dat e, .dat (.lst (RS.map D.lst)), .un, .un, .un]) (mi := ziU 6 (zCall d_grouped (zCons (zVar 0) (zCons (zVar 2) (zNil))))) (g := [.dat d, .dat e, .dat (.lst (RS.map D.lst)), .un, .un, .un]) (L := acc.map fun g => .tup [.lst g.2.1, .lst g.2.2]) (mi_Ud (er_callG (er_cons rfl (er_cons rfl er_nil)) rfl rfl gr rfl)) (fun o => rfl) (fun o => rfl) (by rw [List.length_map]; exact Nat.le_trans (show acc.length ≤ 60 by omega) (by decide))
      (fun x hx => by
        obtain ⟨g, mg, rfl⟩ := List.mem_map.mp hx
        obtain ⟨_, q1, q2, ms, q3, q4, q5⟩ := a g mg
        rw [q3]
        refine lc_gen (h := [.dat d, .dat e, .dat (.lst (RS.map D.lst)), .dat (.lst g.2.1), .dat (.lst (ms.map D.lst)), .un]) rfl (fun o => rfl) (fun o => rfl) (fun o => rfl) (fun o => rfl) (fun _ o => ?_)
        have e1 := er_lc1 (b := fun _ => true) (f := fun v => aggB v (ms.map D.lst)) (tg := gN 5) (tt := zYes) (el := zCall d_aggregate (zCons (zVar 5) (zCons (zVar 4) (zNil)))) (vs := [5]) (base := [.dat d, .dat e, .dat (.lst (RS.map D.lst)), .dat (.lst g.2.1), .dat (.lst (ms.map D.lst)), .un, o]) (mi := ziU 6 (zVar 1)) (g := [.dat d, .dat e, .dat (.lst (RS.map D.lst)), .dat (.lst g.2.1), .dat (.lst (ms.map D.lst)), .un, o]) (L := VL) (mi_seq he rfl) (fun o => rfl) (fun o => rfl) (Nat.le_trans hv (by decide))
          (fun v mv => lc_dat (h := [.dat d, .dat e, .dat (.lst (RS.map D.lst)), .dat (.lst g.2.1), .dat (.lst (ms.map D.lst)), .dat v, o]) rfl (fun o => rfl) (fun o => rfl) (fun o => rfl) (fun o => rfl) (fun _ o => er_callG (er_cons rfl (er_cons rfl er_nil)) rfl rfl (agg_ok (hV v mv) q4 (by omega)).2 rfl))
        rw [List.filter_eq_self.mpr (fun _ _ => rfl)] at e1
        refine ⟨.bor 8, [.own (.lst (VL.map fun v => aggB v (ms.map D.lst))) false false, .own (.lst (g.2.1 ++ VL.map fun v => aggB v (ms.map D.lst))) false false], [.own (.lst (VL.map fun v => aggB v (ms.map D.lst))) false false, .frz (.lst (g.2.1 ++ VL.map fun v => aggB v (ms.map D.lst)))], ?_, rfl⟩
        exact er_catL (l := g.2.1) (k := VL.map fun v => aggB v (ms.map D.lst)) (er_varD rfl) e1 rfl rfl (Nat.le_trans (show g.2.1.length + (VL.map fun v => aggB v (ms.map D.lst)).length ≤ 1000 by rw [List.length_map]; omega) (by decide)))
    rw [List.filter_eq_self.mpr (fun _ _ => rfl), List.map_map] at ez
    rw [List.map_map]
    exact sr_nx (sr_ret ez rfl)
abbrev GQ (ns : List Int) (x1 x2 x3 x4 x5 x6 x7 x8 x9 x10 x11 x12 x13 x14 x15 x16 x17 : Sl) : G := [.dat (scriptD ns), x1, x2, x3, x4, x5, x6, x7, x8, x9, x10, x11, x12, x13, x14, x15, x16, x17]
theorem seq_is {st rest : SM} {g g1 : G} {o : Option (Fl × G)} (h : st g = some (.nx, g1)) (k : rest g1 = o) : zSeq st rest g = o := by
  unfold zSeq; simp only [h, Option.bind_eq_bind, Option.bind_some]; exact k
theorem sto_runF {ma mb mc : ZM} {g g0 g1 g2 g3 g4 : G} {r : R} {d : D} {ds : List D} {j n : Nat} {k : Int} {q : Nat} {p : Bool} (h1 : mc g = some (r, g0)) (h1' : frzR r g0 = some (d, g1)) (h2 : ma g1 = some (.bor j, g2)) (h3 : mb g2 = some (.dat (.int k), g3)) (h4 : g3[j]? = some (.own (.lst ds) p false)) (h5 : ixN ds.length k = some q) (hg : (g3.set j (.own (.lst (ds.set q d)) p false)).take n = g4) : zSto n ma mb mc g = some (.nx, g4) := by
  unfold zSto; simp only [h1, h1', h2, h3, h4, h5, hg, Z.isI, Option.bind_eq_bind, Option.bind_some]
noncomputable def smp (n : Int) : D := frV (d__law_simple [.int n, .int 3])
theorem smp_ok (n : Int) : Ex VS 3 1 (smp n) ∧ d__law_simple [.int n, .int 3] = some (.dat (smp n)) := by
  obtain ⟨e, xe, h⟩ := simple_ok n 3 (by decide) (by decide)
  have h : d__law_simple [.int n, .int 3] = some (.dat e) := h
  have f : smp n = e := by unfold smp; rw [h]; rfl
  rw [f]
  exact ⟨xe, h⟩
theorem nm_at (x : Int) : ∃ nm ∈ names9, ixD (.lst (names9.map D.str)) (x % 9) = some (.str nm) := by
  obtain ⟨nm, e, m⟩ := atI_lt (xs := names9) (k := x % 9) (by omega) (by show x % 9 < 9; omega)
  exact ⟨nm, m, atI_map (f := D.str) e⟩
theorem val_turn (ns : List Int) (L : List Int) {x2 x3 : Sl} {VL : List D} (hz : VL.length ≤ 100) (i : Nat) (hi : i ≤ 100) (n2 : Int) (h2 : ixD (.lst (L.map D.int)) 2 = some (.int n2)) : ∃ v, AV v ∧ v.rok = true ∧ v.dp ≤ 3 ∧ v.wt ≤ 1200 ∧ lb_law_1 (GQ ns (.frz (.lst (L.map D.int))) x2 x3 (.own (.lst (names9.map D.str)) false false) (.own (.lst VL) false false) (.dat (.int (i : Int))) .un .un .un .un .un .un .un .un .un .un .un) = some (.nx, (GQ ns (.frz (.lst (L.map D.int))) x2 x3 (.own (.lst (names9.map D.str)) false false) (.own (.lst (VL ++ [v])) false false) .un .un .un .un .un .un .un .un .un .un .un .un)) := by
  have nm0 : ∃ nm ∈ names9, ixD (.lst (names9.map D.str)) (n2 / (9 * (i : Int) + 1) % 9) = some (.str nm) := nm_at _
  obtain ⟨nm, hm, e9⟩ := nm0
  have n2t : ∀ g : G, g[1]? = some (.frz (.lst (L.map D.int))) → zIx (zVar 1) (zC (.int 2)) g = some (.dat (.int n2), g) := fun g h => er_ix (er_varF h) er_C rfl h2
  have dv : divD (.int n2) (.int (9 * (i : Int) + 1)) = some (.int (n2 / (9 * (i : Int) + 1))) := dr_divB (by omega) (by omega)
  have dv7 : divD (.int n2) (.int (7 * (i : Int) + 9)) = some (.int (n2 / (7 * (i : Int) + 9))) := dr_divB (by omega) (by omega)
  have z1 : zSet 18 13 (zIx (zVar 4) (zOp modD (zOp divD (zCallS intU (zCons (zIx (zVar 1) (zC (.int 2))) (zNil))) (zOp addS (zOp mulD (zC (.int 9)) (zVar 6)) (zC (.int 1)))) (zC (.int 9)))) (GQ ns (.frz (.lst (L.map D.int))) x2 x3 (.own (.lst (names9.map D.str)) false false) (.own (.lst VL) false false) (.dat (.int (i : Int))) .un .un .un .un .un .un .un .un .un .un .un) = some (.nx, (GQ ns (.frz (.lst (L.map D.int))) x2 x3 (.own (.lst (names9.map D.str)) false false) (.own (.lst VL) false false) (.dat (.int (i : Int))) .un .un .un .un .un .un (.dat (.str nm)) .un .un .un .un)) :=
    set_dat (er_ix (d := .lst (names9.map D.str)) (er_varO rfl) (er_op (f := modD) (er_op (f := divD) (er_callS (er_cons (n2t _ rfl) er_nil) rfl rfl rfl) (er_op (er_op er_C rfl rfl rfl (dr_mull (by decide)) rfl) er_C rfl rfl rfl rfl) rfl rfl dv rfl) er_C rfl rfl (dr_mod (by decide)) rfl) rfl e9) rfl rfl
  obtain ⟨xs, es⟩ := smp_ok (n2 / (7 * (i : Int) + 9))
  generalize smp (n2 / (7 * (i : Int) + 9)) = e at *
  have xb : zIx (zLst (zCons (zCall d__law_simple (zCons (zOp divD (zIx (zVar 1) (zC (.int 2))) (zOp addS (zOp mulD (zC (.int 7)) (zVar 6)) (zC (.int 9)))) (zCons (zC (.int 3)) (zNil)))) (zCons (zC .non) (zNil)))) (zCallS intU (zCons (zOp eqD (zVar 13) (zC (.str [114, 111, 119, 115]))) (zNil))) (GQ ns (.frz (.lst (L.map D.int))) x2 x3 (.own (.lst (names9.map D.str)) false false) (.own (.lst VL) false false) (.dat (.int (i : Int))) .un .un .un .un .un .un (.dat (.str nm)) .un .un .un .un) = some (.dat (if (nm == nRows) = true then .non else e), (GQ ns (.frz (.lst (L.map D.int))) x2 x3 (.own (.lst (names9.map D.str)) false false) (.own (.lst VL) false false) (.dat (.int (i : Int))) .un .un .un .un .un .un (.dat (.str nm)) .un .un .un .un) ++ [.own (.lst [e, .non]) false false]) := by
    have l1 : zLst (zCons (zCall d__law_simple (zCons (zOp divD (zIx (zVar 1) (zC (.int 2))) (zOp addS (zOp mulD (zC (.int 7)) (zVar 6)) (zC (.int 9)))) (zCons (zC (.int 3)) (zNil)))) (zCons (zC .non) (zNil))) (GQ ns (.frz (.lst (L.map D.int))) x2 x3 (.own (.lst (names9.map D.str)) false false) (.own (.lst VL) false false) (.dat (.int (i : Int))) .un .un .un .un .un .un (.dat (.str nm)) .un .un .un .un) = some (.bor 18, (GQ ns (.frz (.lst (L.map D.int))) x2 x3 (.own (.lst (names9.map D.str)) false false) (.own (.lst VL) false false) (.dat (.int (i : Int))) .un .un .un .un .un .un (.dat (.str nm)) .un .un .un .un) ++ [.own (.lst [e, .non]) false false]) :=
      er_lst (g1 := (GQ ns (.frz (.lst (L.map D.int))) x2 x3 (.own (.lst (names9.map D.str)) false false) (.own (.lst VL) false false) (.dat (.int (i : Int))) .un .un .un .un .un .un (.dat (.str nm)) .un .un .un .un)) (g2 := (GQ ns (.frz (.lst (L.map D.int))) x2 x3 (.own (.lst (names9.map D.str)) false false) (.own (.lst VL) false false) (.dat (.int (i : Int))) .un .un .un .un .un .un (.dat (.str nm)) .un .un .un .un)) (er_cons (er_callG (er_cons (er_op (f := divD) (n2t _ rfl) (er_op (er_op er_C rfl rfl rfl (dr_mull (by decide)) rfl) er_C rfl rfl rfl rfl) rfl rfl dv7 rfl) (er_cons er_C er_nil)) rfl rfl es rfl) (er_cons er_C er_nil)) rfl (Nat.le_of_ble_eq_true rfl)
    cases c : nm == nRows with
    | true =>
      have eb : eqD (.str nm) (.str nRows) = some (.bl true) := by rw [dr_eqS, c]
      exact er_ix (k := 1) l1 (er_callS (er_cons (er_op rfl er_C rfl rfl eb rfl) er_nil) rfl rfl rfl) rfl rfl
    | false =>
      have eb : eqD (.str nm) (.str nRows) = some (.bl false) := by rw [dr_eqS, c]
      exact er_ix (k := 0) l1 (er_callS (er_cons (er_op rfl er_C rfl rfl eb rfl) er_nil) rfl rfl rfl) rfl rfl
  obtain ⟨r1, r2, r3⟩ := ex_rok (by decide) xs
  have wb : wtb 1 = 853 := rfl
  have nsh : nm.length ≤ 20 ∧ (nm.all fun c => decide (c < 1114112)) = true := by revert hm; clear e9 z1 xb; revert nm; decide
  have ex3 : (nm == nRows) = false → Ex VS 3 1 e := fun _ => xs
  obtain ⟨w, hw, hw1, hw2, hw3, hw4⟩ : ∃ w, (if (nm == nRows) = true then D.non else e) = w ∧ ((nm == nRows) = false → Ex VS 3 1 w) ∧ w.rok = true ∧ w.dp ≤ 2 ∧ w.wt ≤ 900 := by
    cases c : nm == nRows with
    | true => exact ⟨.non, rfl, (fun h => by cases h), rfl, by decide, by decide⟩
    | false => exact ⟨e, rfl, (fun _ => xs), r1, r2, by omega⟩
  rw [hw] at xb
  refine ⟨.tup [.str nm, w], ⟨nm, w, rfl, hm, hw1⟩, ?_, ?_, ?_, ?_⟩
  · show ((nm.all fun c => decide (c < 1114112)) && (w.rok && true)) = true
    rw [hw2, nsh.2]; rfl
  · show max (D.str nm).dp (max w.dp 0) + 1 ≤ 3
    simp only [D.dp]; omega
  · show nm.length + 1 + (w.wt + 1 + 0) ≤ 1200
    omega
  have tp : zTup (zCons (zVar 13) (zCons (zIx (zLst (zCons (zCall d__law_simple (zCons (zOp divD (zIx (zVar 1) (zC (.int 2))) (zOp addS (zOp mulD (zC (.int 7)) (zVar 6)) (zC (.int 9)))) (zCons (zC (.int 3)) (zNil)))) (zCons (zC .non) (zNil)))) (zCallS intU (zCons (zOp eqD (zVar 13) (zC (.str [114, 111, 119, 115]))) (zNil)))) (zNil))) (GQ ns (.frz (.lst (L.map D.int))) x2 x3 (.own (.lst (names9.map D.str)) false false) (.own (.lst VL) false false) (.dat (.int (i : Int))) .un .un .un .un .un .un (.dat (.str nm)) .un .un .un .un) = some (.dat (.tup [.str nm, w]), (GQ ns (.frz (.lst (L.map D.int))) x2 x3 (.own (.lst (names9.map D.str)) false false) (.own (.lst VL) false false) (.dat (.int (i : Int))) .un .un .un .un .un .un (.dat (.str nm)) .un .un .un .un) ++ [.own (.lst [e, .non]) false false]) := er_tup (er_cons rfl (er_cons xb er_nil)) rfl (Nat.le_of_ble_eq_true rfl)
  generalize D.tup [.str nm, w] = v at *
  have z2 : zApp 18 (zVar 5) (zTup (zCons (zVar 13) (zCons (zIx (zLst (zCons (zCall d__law_simple (zCons (zOp divD (zIx (zVar 1) (zC (.int 2))) (zOp addS (zOp mulD (zC (.int 7)) (zVar 6)) (zC (.int 9)))) (zCons (zC (.int 3)) (zNil)))) (zCons (zC .non) (zNil)))) (zCallS intU (zCons (zOp eqD (zVar 13) (zC (.str [114, 111, 119, 115]))) (zNil)))) (zNil)))) (GQ ns (.frz (.lst (L.map D.int))) x2 x3 (.own (.lst (names9.map D.str)) false false) (.own (.lst VL) false false) (.dat (.int (i : Int))) .un .un .un .un .un .un (.dat (.str nm)) .un .un .un .un) = some (.nx, (GQ ns (.frz (.lst (L.map D.int))) x2 x3 (.own (.lst (names9.map D.str)) false false) (.own (.lst (VL ++ [v])) false false) (.dat (.int (i : Int))) .un .un .un .un .un .un (.dat (.str nm)) .un .un .un .un)) :=
    app_run (j := 5) (d := v) (g2 := (GQ ns (.frz (.lst (L.map D.int))) x2 x3 (.own (.lst (names9.map D.str)) false false) (.own (.lst VL) false false) (.dat (.int (i : Int))) .un .un .un .un .un .un (.dat (.str nm)) .un .un .un .un) ++ [.own (.lst [e, .non]) false false]) (g3 := (GQ ns (.frz (.lst (L.map D.int))) x2 x3 (.own (.lst (names9.map D.str)) false false) (.own (.lst VL) false false) (.dat (.int (i : Int))) .un .un .un .un .un .un (.dat (.str nm)) .un .un .un .un) ++ [.own (.lst [e, .non]) false false]) rfl rfl tp rfl rfl (Nat.lt_of_le_of_lt hz (by decide)) rfl
  unfold lb_law_1
  exact fg_nx (g1 := (GQ ns (.frz (.lst (L.map D.int))) x2 x3 (.own (.lst (names9.map D.str)) false false) (.own (.lst (VL ++ [v])) false false) (.dat (.int (i : Int))) .un .un .un .un .un .un (.dat (.str nm)) .un .un .un .un)) (seq_is z1 z2) rfl rfl
theorem row_turn (ns : List Int) (L : List Int) {RS : List (List D)} {K VL : List D} {kept : List Nat} (hK : ∀ e ∈ K, Ex VS 3 1 e) (hk : K.length ≤ 100) {n : Nat} {acc : List ZN.G3} (hg : GB K n acc) (hl : acc.length ≤ 100) (hn : n ≤ 100) {R : List D} (hR : RV R) :
    lb_law_2 (GQ ns (.frz (.lst (L.map D.int))) (.frz (.lst (RS.map D.lst))) (.dat (.tup K)) (.own (.lst (names9.map D.str)) false false) (.frz (.lst VL)) .un (.dat (.str kept)) (.own (.lst (acc.map fun g => D.lst g.2.1)) false false) (.own (.lst (seenD acc)) false false) (.own (.lst (acc.map fun g => D.lst g.2.2)) false false) (.dat (.lst R)) .un .un .un .un .un .un) = some (.nx, (GQ ns (.frz (.lst (L.map D.int))) (.frz (.lst (RS.map D.lst))) (.dat (.tup K)) (.own (.lst (names9.map D.str)) false false) (.frz (.lst VL)) .un (.dat (.str kept)) (.own (.lst ((stepG K acc R).map fun g => D.lst g.2.1)) false false) (.own (.lst (seenD (stepG K acc R))) false false) (.own (.lst ((stepG K acc R).map fun g => D.lst g.2.2)) false false) .un .un .un .un .un .un .un)) := by
  have fv := found_vw hK hR
  have fl : (foundV K R).length ≤ 1000 := by unfold foundV; rw [List.length_map]; omega
  have e1 := er_lc1 (b := fun _ => true) (f := fun e => evB e R) (tg := gN 16) (tt := zYes) (el := zCall (d_evaluate 40) (zCons (zVar 16) (zCons (zVar 11) (zNil)))) (vs := [16]) (base := (GQ ns (.frz (.lst (L.map D.int))) (.frz (.lst (RS.map D.lst))) (.dat (.tup K)) (.own (.lst (names9.map D.str)) false false) (.frz (.lst VL)) .un (.dat (.str kept)) (.own (.lst (acc.map fun g => D.lst g.2.1)) false false) (.own (.lst (seenD acc)) false false) (.own (.lst (acc.map fun g => D.lst g.2.2)) false false) (.dat (.lst R)) .un .un .un .un .un .un)) (mi := ziU 18 (zVar 3)) (g := (GQ ns (.frz (.lst (L.map D.int))) (.frz (.lst (RS.map D.lst))) (.dat (.tup K)) (.own (.lst (names9.map D.str)) false false) (.frz (.lst VL)) .un (.dat (.str kept)) (.own (.lst (acc.map fun g => D.lst g.2.1)) false false) (.own (.lst (seenD acc)) false false) (.own (.lst (acc.map fun g => D.lst g.2.2)) false false) (.dat (.lst R)) .un .un .un .un .un .un)) (L := K) (mi_UT (er_varD rfl)) (fun o => rfl) (fun o => rfl) (Nat.le_trans hk (by decide))
    (fun e he => lc_dat (h := (GQ ns (.frz (.lst (L.map D.int))) (.frz (.lst (RS.map D.lst))) (.dat (.tup K)) (.own (.lst (names9.map D.str)) false false) (.frz (.lst VL)) .un (.dat (.str kept)) (.own (.lst (acc.map fun g => D.lst g.2.1)) false false) (.own (.lst (seenD acc)) false false) (.own (.lst (acc.map fun g => D.lst g.2.2)) false false) (.dat (.lst R)) .un .un .un .un (.dat e) .un)) rfl (fun o => rfl) (fun o => rfl) (fun o => rfl) (fun o => rfl) (fun _ o => er_callG (er_cons rfl (er_cons rfl er_nil)) rfl rfl (evB_ok (hK e he) (by decide) hR).2 rfl))
  rw [List.filter_eq_self.mpr (fun _ _ => rfl)] at e1
  have z1 : zSet 18 14 (zLc (ziU 18 (zVar 3)) (gN 16) (zYes) (zCall (d_evaluate 40) (zCons (zVar 16) (zCons (zVar 11) (zNil)))) [16]) (GQ ns (.frz (.lst (L.map D.int))) (.frz (.lst (RS.map D.lst))) (.dat (.tup K)) (.own (.lst (names9.map D.str)) false false) (.frz (.lst VL)) .un (.dat (.str kept)) (.own (.lst (acc.map fun g => D.lst g.2.1)) false false) (.own (.lst (seenD acc)) false false) (.own (.lst (acc.map fun g => D.lst g.2.2)) false false) (.dat (.lst R)) .un .un .un .un .un .un) = some (.nx, (GQ ns (.frz (.lst (L.map D.int))) (.frz (.lst (RS.map D.lst))) (.dat (.tup K)) (.own (.lst (names9.map D.str)) false false) (.frz (.lst VL)) .un (.dat (.str kept)) (.own (.lst (acc.map fun g => D.lst g.2.1)) false false) (.own (.lst (seenD acc)) false false) (.own (.lst (acc.map fun g => D.lst g.2.2)) false false) (.dat (.lst R)) .un .un (.own (.lst (foundV K R)) false false) .un .un .un)) := set_own e1 (Nat.le_of_ble_eq_true rfl) rfl rfl rfl
  have lr := lranks_ok fv fl
  have si := seen_in fv hg
  have t : zTst (zOp inD (zCall d__law_ranks (zCons (zVar 14) (zNil))) (zVar 9)) (GQ ns (.frz (.lst (L.map D.int))) (.frz (.lst (RS.map D.lst))) (.dat (.tup K)) (.own (.lst (names9.map D.str)) false false) (.frz (.lst VL)) .un (.dat (.str kept)) (.own (.lst (acc.map fun g => D.lst g.2.1)) false false) (.own (.lst (seenD acc)) false false) (.own (.lst (acc.map fun g => D.lst g.2.2)) false false) (.dat (.lst R)) .un .un (.own (.lst (foundV K R)) false false) .un .un .un) = some ((ZN.idx 0 acc (kN (foundV K R))).isSome, (GQ ns (.frz (.lst (L.map D.int))) (.frz (.lst (RS.map D.lst))) (.dat (.tup K)) (.own (.lst (names9.map D.str)) false false) (.frz (.lst VL)) .un (.dat (.str kept)) (.own (.lst (acc.map fun g => D.lst g.2.1)) false false) (.own (.lst (seenD acc)) false false) (.own (.lst (acc.map fun g => D.lst g.2.2)) false false) (.dat (.lst R)) .un .un (.frz (.lst (foundV K R))) .un .un .un)) := er_tst (er_op (er_callGF (g2 := (GQ ns (.frz (.lst (L.map D.int))) (.frz (.lst (RS.map D.lst))) (.dat (.tup K)) (.own (.lst (names9.map D.str)) false false) (.frz (.lst VL)) .un (.dat (.str kept)) (.own (.lst (acc.map fun g => D.lst g.2.1)) false false) (.own (.lst (seenD acc)) false false) (.own (.lst (acc.map fun g => D.lst g.2.2)) false false) (.dat (.lst R)) .un .un (.frz (.lst (foundV K R))) .un .un .un)) (er_cons (er_varO rfl) er_nil) rfl rfl lr rfl) (er_varO rfl) rfl rfl si rfl)
  unfold lb_law_2
  rcases step_is K acc R with ⟨i, g, hi, hgi, e⟩ | ⟨hi, e⟩
  · rw [hi] at t
    rw [e]
    have sa := seen_at fv hg hi
    have z2 : zSet 18 15 (zMt "list" nindexD (zVar 9) (zCons (zCall d__law_ranks (zCons (zVar 14) (zNil))) (zNil))) (GQ ns (.frz (.lst (L.map D.int))) (.frz (.lst (RS.map D.lst))) (.dat (.tup K)) (.own (.lst (names9.map D.str)) false false) (.frz (.lst VL)) .un (.dat (.str kept)) (.own (.lst (acc.map fun g => D.lst g.2.1)) false false) (.own (.lst (seenD acc)) false false) (.own (.lst (acc.map fun g => D.lst g.2.2)) false false) (.dat (.lst R)) .un .un (.frz (.lst (foundV K R))) .un .un .un) = some (.nx, (GQ ns (.frz (.lst (L.map D.int))) (.frz (.lst (RS.map D.lst))) (.dat (.tup K)) (.own (.lst (names9.map D.str)) false false) (.frz (.lst VL)) .un (.dat (.str kept)) (.own (.lst (acc.map fun g => D.lst g.2.1)) false false) (.own (.lst (seenD acc)) false false) (.own (.lst (acc.map fun g => D.lst g.2.2)) false false) (.dat (.lst R)) .un .un (.frz (.lst (foundV K R))) (.dat (.int (i : Nat))) .un .un)) := set_dat (er_mt (er_varO rfl) rfl rfl (er_cons (er_callG (ds := [.lst (foundV K R)]) (er_cons (er_varF rfl) er_nil) rfl rfl lr rfl) er_nil) rfl rfl sa rfl) rfl rfl
    obtain ⟨_, _, _, ms, q3, _, q5⟩ := hg g (List.mem_of_getElem? hgi)
    have li := (List.getElem?_eq_some_iff.mp hgi).1
    have gm : (acc.map fun g => D.lst g.2.2)[i]? = some (.lst g.2.2) := by rw [List.getElem?_map, hgi]; rfl
    have ix : ixD (.lst (acc.map fun g => D.lst g.2.2)) ((i : Nat) : Int) = some (.lst g.2.2) := atI_nat gm
    have ixn : ixN (acc.map fun g => D.lst g.2.2).length ((i : Nat) : Int) = some i := by
      unfold ixN
      rw [if_pos (by omega), if_pos (by rw [List.length_map]; omega)]
      rfl
    have cl : g.2.2.length + [D.lst R].length ≤ sizeLine := by
      rw [q3, List.length_map]
      exact Nat.le_trans (show ms.length + 1 ≤ 1000 by omega) (by decide)
    have cv := er_catL (ma := zIx (zVar 10) (zVar 15)) (mb := zLst (zCons (zVar 11) (zNil))) (g := (GQ ns (.frz (.lst (L.map D.int))) (.frz (.lst (RS.map D.lst))) (.dat (.tup K)) (.own (.lst (names9.map D.str)) false false) (.frz (.lst VL)) .un (.dat (.str kept)) (.own (.lst (acc.map fun g => D.lst g.2.1)) false false) (.own (.lst (seenD acc)) false false) (.own (.lst (acc.map fun g => D.lst g.2.2)) false false) (.dat (.lst R)) .un .un (.frz (.lst (foundV K R))) (.dat (.int (i : Nat))) .un .un)) (g1 := (GQ ns (.frz (.lst (L.map D.int))) (.frz (.lst (RS.map D.lst))) (.dat (.tup K)) (.own (.lst (names9.map D.str)) false false) (.frz (.lst VL)) .un (.dat (.str kept)) (.own (.lst (acc.map fun g => D.lst g.2.1)) false false) (.own (.lst (seenD acc)) false false) (.own (.lst (acc.map fun g => D.lst g.2.2)) false false) (.dat (.lst R)) .un .un (.frz (.lst (foundV K R))) (.dat (.int (i : Nat))) .un .un)) (g2 := (GQ ns (.frz (.lst (L.map D.int))) (.frz (.lst (RS.map D.lst))) (.dat (.tup K)) (.own (.lst (names9.map D.str)) false false) (.frz (.lst VL)) .un (.dat (.str kept)) (.own (.lst (acc.map fun g => D.lst g.2.1)) false false) (.own (.lst (seenD acc)) false false) (.own (.lst (acc.map fun g => D.lst g.2.2)) false false) (.dat (.lst R)) .un .un (.frz (.lst (foundV K R))) (.dat (.int (i : Nat))) .un .un) ++ [.own (.lst [.lst R]) false false]) (l := g.2.2) (k := [.lst R]) (er_ix (er_varO rfl) rfl rfl ix) (er_lst (g1 := (GQ ns (.frz (.lst (L.map D.int))) (.frz (.lst (RS.map D.lst))) (.dat (.tup K)) (.own (.lst (names9.map D.str)) false false) (.frz (.lst VL)) .un (.dat (.str kept)) (.own (.lst (acc.map fun g => D.lst g.2.1)) false false) (.own (.lst (seenD acc)) false false) (.own (.lst (acc.map fun g => D.lst g.2.2)) false false) (.dat (.lst R)) .un .un (.frz (.lst (foundV K R))) (.dat (.int (i : Nat))) .un .un)) (g2 := (GQ ns (.frz (.lst (L.map D.int))) (.frz (.lst (RS.map D.lst))) (.dat (.tup K)) (.own (.lst (names9.map D.str)) false false) (.frz (.lst VL)) .un (.dat (.str kept)) (.own (.lst (acc.map fun g => D.lst g.2.1)) false false) (.own (.lst (seenD acc)) false false) (.own (.lst (acc.map fun g => D.lst g.2.2)) false false) (.dat (.lst R)) .un .un (.frz (.lst (foundV K R))) (.dat (.int (i : Nat))) .un .un)) (er_cons rfl er_nil) rfl (Nat.le_of_ble_eq_true rfl)) rfl rfl cl
    have z3 : zSto 18 (zVar 10) (zVar 15) (zCatL (zIx (zVar 10) (zVar 15)) (zLst (zCons (zVar 11) (zNil)))) (GQ ns (.frz (.lst (L.map D.int))) (.frz (.lst (RS.map D.lst))) (.dat (.tup K)) (.own (.lst (names9.map D.str)) false false) (.frz (.lst VL)) .un (.dat (.str kept)) (.own (.lst (acc.map fun g => D.lst g.2.1)) false false) (.own (.lst (seenD acc)) false false) (.own (.lst (acc.map fun g => D.lst g.2.2)) false false) (.dat (.lst R)) .un .un (.frz (.lst (foundV K R))) (.dat (.int (i : Nat))) .un .un) = some (.nx, (GQ ns (.frz (.lst (L.map D.int))) (.frz (.lst (RS.map D.lst))) (.dat (.tup K)) (.own (.lst (names9.map D.str)) false false) (.frz (.lst VL)) .un (.dat (.str kept)) (.own (.lst (acc.map fun g => D.lst g.2.1)) false false) (.own (.lst (seenD acc)) false false) (.own (.lst ((acc.map fun g => D.lst g.2.2).set i (.lst (g.2.2 ++ [.lst R])))) false false) (.dat (.lst R)) .un .un (.frz (.lst (foundV K R))) (.dat (.int (i : Nat))) .un .un)) :=
      sto_runF (q := i) (j := 10) (g1 := (GQ ns (.frz (.lst (L.map D.int))) (.frz (.lst (RS.map D.lst))) (.dat (.tup K)) (.own (.lst (names9.map D.str)) false false) (.frz (.lst VL)) .un (.dat (.str kept)) (.own (.lst (acc.map fun g => D.lst g.2.1)) false false) (.own (.lst (seenD acc)) false false) (.own (.lst (acc.map fun g => D.lst g.2.2)) false false) (.dat (.lst R)) .un .un (.frz (.lst (foundV K R))) (.dat (.int (i : Nat))) .un .un) ++ [.own (.lst [.lst R]) false false, .frz (.lst (g.2.2 ++ [.lst R]))]) (g2 := (GQ ns (.frz (.lst (L.map D.int))) (.frz (.lst (RS.map D.lst))) (.dat (.tup K)) (.own (.lst (names9.map D.str)) false false) (.frz (.lst VL)) .un (.dat (.str kept)) (.own (.lst (acc.map fun g => D.lst g.2.1)) false false) (.own (.lst (seenD acc)) false false) (.own (.lst (acc.map fun g => D.lst g.2.2)) false false) (.dat (.lst R)) .un .un (.frz (.lst (foundV K R))) (.dat (.int (i : Nat))) .un .un) ++ [.own (.lst [.lst R]) false false, .frz (.lst (g.2.2 ++ [.lst R]))]) (g3 := (GQ ns (.frz (.lst (L.map D.int))) (.frz (.lst (RS.map D.lst))) (.dat (.tup K)) (.own (.lst (names9.map D.str)) false false) (.frz (.lst VL)) .un (.dat (.str kept)) (.own (.lst (acc.map fun g => D.lst g.2.1)) false false) (.own (.lst (seenD acc)) false false) (.own (.lst (acc.map fun g => D.lst g.2.2)) false false) (.dat (.lst R)) .un .un (.frz (.lst (foundV K R))) (.dat (.int (i : Nat))) .un .un) ++ [.own (.lst [.lst R]) false false, .frz (.lst (g.2.2 ++ [.lst R]))]) cv rfl rfl rfl rfl ixn rfl
    have gi : acc[i] = g := (List.getElem?_eq_some_iff.mp hgi).2
    have e8 : ((acc.set i (g.1, g.2.1, g.2.2 ++ [.lst R])).map fun g => D.lst g.2.1) = acc.map fun g => D.lst g.2.1 := by
      rw [List.map_set]
      refine List.ext_getElem? fun j => ?_
      by_cases h : i = j
      · subst h
        rw [List.getElem?_set_self (by rw [List.length_map]; exact li), List.getElem?_map, hgi]; rfl
      · rw [List.getElem?_set_ne h]
    have e9 : seenD (acc.set i (g.1, g.2.1, g.2.2 ++ [.lst R])) = seenD acc := by
      unfold seenD
      rw [List.map_set]
      refine List.ext_getElem? fun j => ?_
      by_cases h : i = j
      · subst h
        rw [List.getElem?_set_self (by rw [List.length_map]; exact li), List.getElem?_map, hgi]; rfl
      · rw [List.getElem?_set_ne h]
    have e10 : ((acc.set i (g.1, g.2.1, g.2.2 ++ [.lst R])).map fun g => D.lst g.2.2) = ((acc.map fun g => D.lst g.2.2).set i (.lst (g.2.2 ++ [.lst R]))) := by rw [List.map_set]
    rw [e8, e9, e10]
    refine fg_nx (g1 := (GQ ns (.frz (.lst (L.map D.int))) (.frz (.lst (RS.map D.lst))) (.dat (.tup K)) (.own (.lst (names9.map D.str)) false false) (.frz (.lst VL)) .un (.dat (.str kept)) (.own (.lst (acc.map fun g => D.lst g.2.1)) false false) (.own (.lst (seenD acc)) false false) (.own (.lst ((acc.map fun g => D.lst g.2.2).set i (.lst (g.2.2 ++ [.lst R])))) false false) (.dat (.lst R)) .un .un (.frz (.lst (foundV K R))) (.dat (.int (i : Nat))) .un .un)) (seq_is z1 (if_yes t rfl ?_)) rfl rfl
    exact seq_is z2 z3
  · rw [hi] at t
    rw [e]
    have big : (100 : Nat) < sizeLine := by decide
    have z2 : zApp 18 (zVar 9) (zCall d__law_ranks (zCons (zVar 14) (zNil))) (GQ ns (.frz (.lst (L.map D.int))) (.frz (.lst (RS.map D.lst))) (.dat (.tup K)) (.own (.lst (names9.map D.str)) false false) (.frz (.lst VL)) .un (.dat (.str kept)) (.own (.lst (acc.map fun g => D.lst g.2.1)) false false) (.own (.lst (seenD acc)) false false) (.own (.lst (acc.map fun g => D.lst g.2.2)) false false) (.dat (.lst R)) .un .un (.frz (.lst (foundV K R))) .un .un .un) = some (.nx, (GQ ns (.frz (.lst (L.map D.int))) (.frz (.lst (RS.map D.lst))) (.dat (.tup K)) (.own (.lst (names9.map D.str)) false false) (.frz (.lst VL)) .un (.dat (.str kept)) (.own (.lst (acc.map fun g => D.lst g.2.1)) false false) (.own (.lst (seenD acc ++ [.tup ((foundV K R).map rk)])) false false) (.own (.lst (acc.map fun g => D.lst g.2.2)) false false) (.dat (.lst R)) .un .un (.frz (.lst (foundV K R))) .un .un .un)) :=
      app_run (j := 9) (d := .tup ((foundV K R).map rk)) (g2 := (GQ ns (.frz (.lst (L.map D.int))) (.frz (.lst (RS.map D.lst))) (.dat (.tup K)) (.own (.lst (names9.map D.str)) false false) (.frz (.lst VL)) .un (.dat (.str kept)) (.own (.lst (acc.map fun g => D.lst g.2.1)) false false) (.own (.lst (seenD acc)) false false) (.own (.lst (acc.map fun g => D.lst g.2.2)) false false) (.dat (.lst R)) .un .un (.frz (.lst (foundV K R))) .un .un .un)) (g3 := (GQ ns (.frz (.lst (L.map D.int))) (.frz (.lst (RS.map D.lst))) (.dat (.tup K)) (.own (.lst (names9.map D.str)) false false) (.frz (.lst VL)) .un (.dat (.str kept)) (.own (.lst (acc.map fun g => D.lst g.2.1)) false false) (.own (.lst (seenD acc)) false false) (.own (.lst (acc.map fun g => D.lst g.2.2)) false false) (.dat (.lst R)) .un .un (.frz (.lst (foundV K R))) .un .un .un)) rfl rfl (er_callG (ds := [.lst (foundV K R)]) (er_cons (er_varF rfl) er_nil) rfl rfl lr rfl) rfl rfl (by unfold seenD; rw [List.length_map]; omega) rfl
    have z3 : zApp 18 (zVar 8) (zVar 14) (GQ ns (.frz (.lst (L.map D.int))) (.frz (.lst (RS.map D.lst))) (.dat (.tup K)) (.own (.lst (names9.map D.str)) false false) (.frz (.lst VL)) .un (.dat (.str kept)) (.own (.lst (acc.map fun g => D.lst g.2.1)) false false) (.own (.lst (seenD acc ++ [.tup ((foundV K R).map rk)])) false false) (.own (.lst (acc.map fun g => D.lst g.2.2)) false false) (.dat (.lst R)) .un .un (.frz (.lst (foundV K R))) .un .un .un) = some (.nx, (GQ ns (.frz (.lst (L.map D.int))) (.frz (.lst (RS.map D.lst))) (.dat (.tup K)) (.own (.lst (names9.map D.str)) false false) (.frz (.lst VL)) .un (.dat (.str kept)) (.own (.lst ((acc.map fun g => D.lst g.2.1) ++ [.lst (foundV K R)])) false false) (.own (.lst (seenD acc ++ [.tup ((foundV K R).map rk)])) false false) (.own (.lst (acc.map fun g => D.lst g.2.2)) false false) (.dat (.lst R)) .un .un (.frz (.lst (foundV K R))) .un .un .un)) :=
      app_run (j := 8) (d := .lst (foundV K R)) (g2 := (GQ ns (.frz (.lst (L.map D.int))) (.frz (.lst (RS.map D.lst))) (.dat (.tup K)) (.own (.lst (names9.map D.str)) false false) (.frz (.lst VL)) .un (.dat (.str kept)) (.own (.lst (acc.map fun g => D.lst g.2.1)) false false) (.own (.lst (seenD acc ++ [.tup ((foundV K R).map rk)])) false false) (.own (.lst (acc.map fun g => D.lst g.2.2)) false false) (.dat (.lst R)) .un .un (.frz (.lst (foundV K R))) .un .un .un)) (g3 := (GQ ns (.frz (.lst (L.map D.int))) (.frz (.lst (RS.map D.lst))) (.dat (.tup K)) (.own (.lst (names9.map D.str)) false false) (.frz (.lst VL)) .un (.dat (.str kept)) (.own (.lst (acc.map fun g => D.lst g.2.1)) false false) (.own (.lst (seenD acc ++ [.tup ((foundV K R).map rk)])) false false) (.own (.lst (acc.map fun g => D.lst g.2.2)) false false) (.dat (.lst R)) .un .un (.frz (.lst (foundV K R))) .un .un .un)) rfl rfl (er_varF rfl) rfl rfl (by rw [List.length_map]; omega) rfl
    have z4 : zApp 18 (zVar 10) (zLst (zCons (zVar 11) (zNil))) (GQ ns (.frz (.lst (L.map D.int))) (.frz (.lst (RS.map D.lst))) (.dat (.tup K)) (.own (.lst (names9.map D.str)) false false) (.frz (.lst VL)) .un (.dat (.str kept)) (.own (.lst ((acc.map fun g => D.lst g.2.1) ++ [.lst (foundV K R)])) false false) (.own (.lst (seenD acc ++ [.tup ((foundV K R).map rk)])) false false) (.own (.lst (acc.map fun g => D.lst g.2.2)) false false) (.dat (.lst R)) .un .un (.frz (.lst (foundV K R))) .un .un .un) = some (.nx, (GQ ns (.frz (.lst (L.map D.int))) (.frz (.lst (RS.map D.lst))) (.dat (.tup K)) (.own (.lst (names9.map D.str)) false false) (.frz (.lst VL)) .un (.dat (.str kept)) (.own (.lst ((acc.map fun g => D.lst g.2.1) ++ [.lst (foundV K R)])) false false) (.own (.lst (seenD acc ++ [.tup ((foundV K R).map rk)])) false false) (.own (.lst ((acc.map fun g => D.lst g.2.2) ++ [.lst [.lst R]])) false false) (.dat (.lst R)) .un .un (.frz (.lst (foundV K R))) .un .un .un)) :=
      app_run (j := 10) (d := .lst [.lst R]) (g2 := (GQ ns (.frz (.lst (L.map D.int))) (.frz (.lst (RS.map D.lst))) (.dat (.tup K)) (.own (.lst (names9.map D.str)) false false) (.frz (.lst VL)) .un (.dat (.str kept)) (.own (.lst ((acc.map fun g => D.lst g.2.1) ++ [.lst (foundV K R)])) false false) (.own (.lst (seenD acc ++ [.tup ((foundV K R).map rk)])) false false) (.own (.lst (acc.map fun g => D.lst g.2.2)) false false) (.dat (.lst R)) .un .un (.frz (.lst (foundV K R))) .un .un .un) ++ [.own (.lst [.lst R]) false false]) (g3 := (GQ ns (.frz (.lst (L.map D.int))) (.frz (.lst (RS.map D.lst))) (.dat (.tup K)) (.own (.lst (names9.map D.str)) false false) (.frz (.lst VL)) .un (.dat (.str kept)) (.own (.lst ((acc.map fun g => D.lst g.2.1) ++ [.lst (foundV K R)])) false false) (.own (.lst (seenD acc ++ [.tup ((foundV K R).map rk)])) false false) (.own (.lst (acc.map fun g => D.lst g.2.2)) false false) (.dat (.lst R)) .un .un (.frz (.lst (foundV K R))) .un .un .un) ++ [.frz (.lst [.lst R])]) rfl rfl (er_lst (g1 := (GQ ns (.frz (.lst (L.map D.int))) (.frz (.lst (RS.map D.lst))) (.dat (.tup K)) (.own (.lst (names9.map D.str)) false false) (.frz (.lst VL)) .un (.dat (.str kept)) (.own (.lst ((acc.map fun g => D.lst g.2.1) ++ [.lst (foundV K R)])) false false) (.own (.lst (seenD acc ++ [.tup ((foundV K R).map rk)])) false false) (.own (.lst (acc.map fun g => D.lst g.2.2)) false false) (.dat (.lst R)) .un .un (.frz (.lst (foundV K R))) .un .un .un)) (g2 := (GQ ns (.frz (.lst (L.map D.int))) (.frz (.lst (RS.map D.lst))) (.dat (.tup K)) (.own (.lst (names9.map D.str)) false false) (.frz (.lst VL)) .un (.dat (.str kept)) (.own (.lst ((acc.map fun g => D.lst g.2.1) ++ [.lst (foundV K R)])) false false) (.own (.lst (seenD acc ++ [.tup ((foundV K R).map rk)])) false false) (.own (.lst (acc.map fun g => D.lst g.2.2)) false false) (.dat (.lst R)) .un .un (.frz (.lst (foundV K R))) .un .un .un)) (er_cons rfl er_nil) rfl (Nat.le_of_ble_eq_true rfl)) rfl rfl (by rw [List.length_map]; omega) rfl
    have e9 : seenD (acc ++ [(kN (foundV K R), foundV K R, [.lst R])]) = (seenD acc ++ [.tup ((foundV K R).map rk)]) := by unfold seenD; rw [List.map_append]; rfl
    rw [e9, List.map_append, List.map_append]
    refine fg_nx (g1 := (GQ ns (.frz (.lst (L.map D.int))) (.frz (.lst (RS.map D.lst))) (.dat (.tup K)) (.own (.lst (names9.map D.str)) false false) (.frz (.lst VL)) .un (.dat (.str kept)) (.own (.lst ((acc.map fun g => D.lst g.2.1) ++ [.lst (foundV K R)])) false false) (.own (.lst (seenD acc ++ [.tup ((foundV K R).map rk)])) false false) (.own (.lst ((acc.map fun g => D.lst g.2.2) ++ [.lst [.lst R]])) false false) (.dat (.lst R)) .un .un (.frz (.lst (foundV K R))) .un .un .un)) (seq_is z1 (if_no t rfl ?_)) rfl rfl
    exact seq_is z2 (seq_is z3 z4)
theorem rows_loop (ns : List Int) (L : List Int) {RS : List (List D)} {K VL : List D} {kept : List Nat} (hK : ∀ e ∈ K, Ex VS 3 1 e) (hk : K.length ≤ 100) : ∀ (RS2 : List (List D)) (n : Nat) (acc : List ZN.G3), (∀ R ∈ RS2, RV R) → GB K n acc → acc.length + RS2.length ≤ 100 → n + RS2.length ≤ 100 → forL (gN 11) lb_law_2 (RS2.map D.lst) (GQ ns (.frz (.lst (L.map D.int))) (.frz (.lst (RS.map D.lst))) (.dat (.tup K)) (.own (.lst (names9.map D.str)) false false) (.frz (.lst VL)) .un (.dat (.str kept)) (.own (.lst (acc.map fun g => D.lst g.2.1)) false false) (.own (.lst (seenD acc)) false false) (.own (.lst (acc.map fun g => D.lst g.2.2)) false false) .un .un .un .un .un .un .un) = some (.nx, (GQ ns (.frz (.lst (L.map D.int))) (.frz (.lst (RS.map D.lst))) (.dat (.tup K)) (.own (.lst (names9.map D.str)) false false) (.frz (.lst VL)) .un (.dat (.str kept)) (.own (.lst ((RS2.foldl (stepG K) acc).map fun g => D.lst g.2.1)) false false) (.own (.lst (seenD (RS2.foldl (stepG K) acc))) false false) (.own (.lst ((RS2.foldl (stepG K) acc).map fun g => D.lst g.2.2)) false false) .un .un .un .un .un .un .un))
  | [], _, _, _, _, _, _ => rfl
  | R :: RS2, n, acc, hR, hg, h1, h2 => by
    rw [List.length_cons] at h1 h2
    have sl := step_len K acc R
    rw [List.map_cons, List.foldl_cons]
    exact forL_nx rfl (row_turn ns L hK hk hg (by omega) (by omega) (hR R List.mem_cons_self)) (rows_loop ns L hK hk RS2 (n + 1) _ (fun Q q => hR Q (List.mem_cons_of_mem _ q)) (hg.step hK (hR R List.mem_cons_self)) (by omega) (by omega))
theorem exs_rok : ∀ {K : List D}, (∀ e ∈ K, Ex VS 3 1 e) → D.rokA K = true ∧ D.dpA K ≤ 2 ∧ D.wtA K ≤ 900 * K.length
  | [], _ => ⟨rfl, Nat.zero_le _, Nat.zero_le _⟩
  | e :: K, h => by
    obtain ⟨a, b, c⟩ := exs_rok (K := K) fun x q => h x (List.mem_cons_of_mem _ q)
    obtain ⟨r1, r2, r3⟩ := ex_rok (by decide) (h e List.mem_cons_self)
    have wb : wtb 1 = 853 := rfl
    refine ⟨?_, ?_, ?_⟩
    · show (e.rok && D.rokA K) = true
      rw [r1, a]; rfl
    · show max e.dp (D.dpA K) ≤ 2
      omega
    · show e.wt + 1 + D.wtA K ≤ 900 * (K.length + 1)
      omega
def VQ2 (v : D) : Prop := AV v ∧ v.rok = true ∧ v.dp ≤ 3 ∧ v.wt ≤ 1200
theorem vqs_rok : ∀ {K : List D}, (∀ e ∈ K, VQ2 e) → D.rokA K = true ∧ D.dpA K ≤ 3 ∧ D.wtA K ≤ 1201 * K.length
  | [], _ => ⟨rfl, Nat.zero_le _, Nat.zero_le _⟩
  | e :: K, h => by
    obtain ⟨a, b, c⟩ := vqs_rok (K := K) fun x q => h x (List.mem_cons_of_mem _ q)
    obtain ⟨_, r1, r2, r3⟩ := h e List.mem_cons_self
    refine ⟨?_, ?_, ?_⟩
    · show (e.rok && D.rokA K) = true
      rw [r1, a]; rfl
    · show max e.dp (D.dpA K) ≤ 3
      omega
    · show e.wt + 1 + D.wtA K ≤ 1201 * (K.length + 1)
      omega
noncomputable def accF (K : List D) (RS : List (List D)) : List ZN.G3 := if K.length = 0 then [(kN [], [], RS.map D.lst)] else RS.foldl (stepG K) []
theorem due_is (K VL : List D) (RS : List (List D)) : dueG K VL RS = (accF K RS).map (outG VL) := by
  unfold dueG accF
  split
  · rfl
  · rfl
theorem accF_ok {K : List D} (hK : ∀ e ∈ K, Ex VS 3 1 e) (hk : K.length ≤ 100) {RS : List (List D)} (hR : ∀ R ∈ RS, RV R) (hz : RS.length ≤ 60) : (accF K RS).length ≤ 61 ∧ ∀ g ∈ accF K RS, g.2.1.length ≤ 100 ∧ ∃ ms : List (List D), g.2.2 = ms.map D.lst ∧ (∀ R ∈ ms, RV R) ∧ ms.length ≤ 60 := by
  unfold accF
  split
  · refine ⟨by simp, fun g q => ?_⟩
    rw [List.mem_singleton.mp q]
    exact ⟨Nat.zero_le _, RS, rfl, hR, hz⟩
  · obtain ⟨a, b⟩ := fold_gb hK RS 0 [] hR fun g m => nomatch m
    rw [Nat.zero_add] at a
    rw [List.length_nil, Nat.zero_add] at b
    refine ⟨by omega, fun g q => ?_⟩
    obtain ⟨_, _, q2, ms, q3, q4, q5⟩ := a g q
    exact ⟨by omega, ms, q3, q4, by omega⟩
theorem due_set (ns : List Int) (L : List Int) {RS : List (List D)} {K VL SE : List D} {kept : List Nat} (hK : ∀ e ∈ K, Ex VS 3 1 e) (hk : K.length ≤ 100) (hV : ∀ v ∈ VL, AV v) (hv : VL.length ≤ 100) (hR : ∀ R ∈ RS, RV R) (hz : RS.length ≤ 60) : zSet 18 8 (zLc (ziR1 (zCons (zCallS lenD (zCons (zVar 8) (zNil))) (zNil))) (gN 6) (zYes) (zCatL (zIx (zVar 8) (zVar 6)) (zLc (ziL 18 (zVar 5)) (gN 17) (zYes) (zCall d_aggregate (zCons (zVar 17) (zCons (zIx (zVar 10) (zVar 6)) (zNil)))) [17])) [6]) (GQ ns (.frz (.lst (L.map D.int))) (.frz (.lst (RS.map D.lst))) (.dat (.tup K)) (.own (.lst (names9.map D.str)) false false) (.frz (.lst VL)) .un (.dat (.str kept)) (.own (.lst ((accF K RS).map fun g => D.lst g.2.1)) false false) (.own (.lst SE) false false) (.own (.lst ((accF K RS).map fun g => D.lst g.2.2)) false false) .un .un .un .un .un .un .un) = some (.nx, (GQ ns (.frz (.lst (L.map D.int))) (.frz (.lst (RS.map D.lst))) (.dat (.tup K)) (.own (.lst (names9.map D.str)) false false) (.frz (.lst VL)) .un (.dat (.str kept)) (.own (.lst ((dueG K VL RS).map D.lst)) false false) (.own (.lst SE) false false) (.own (.lst ((accF K RS).map fun g => D.lst g.2.2)) false false) .un .un .un .un .un .un .un)) := by
  obtain ⟨la, ga⟩ := accF_ok hK hk hR hz
  have du := due_is K VL RS
  generalize accF K RS = AF at *
  have e := er_lc1 (b := fun _ => true) (f := fun d => match d with
    | .int k => (match AF[k.toNat]? with
      | some g => D.lst (outG VL g)
      | none => .non)
    | _ => .non) (tg := gN 6) (tt := zYes) (el := zCatL (zIx (zVar 8) (zVar 6)) (zLc (ziL 18 (zVar 5)) (gN 17) (zYes) (zCall d_aggregate (zCons (zVar 17) (zCons (zIx (zVar 10) (zVar 6)) (zNil)))) [17])) (vs := [6]) (base := (GQ ns (.frz (.lst (L.map D.int))) (.frz (.lst (RS.map D.lst))) (.dat (.tup K)) (.own (.lst (names9.map D.str)) false false) (.frz (.lst VL)) .un (.dat (.str kept)) (.own (.lst (AF.map fun g => D.lst g.2.1)) false false) (.own (.lst SE) false false) (.own (.lst (AF.map fun g => D.lst g.2.2)) false false) .un .un .un .un .un .un .un)) (mi := ziR1 (zCons (zCallS lenD (zCons (zVar 8) (zNil))) (zNil))) (g := (GQ ns (.frz (.lst (L.map D.int))) (.frz (.lst (RS.map D.lst))) (.dat (.tup K)) (.own (.lst (names9.map D.str)) false false) (.frz (.lst VL)) .un (.dat (.str kept)) (.own (.lst (AF.map fun g => D.lst g.2.1)) false false) (.own (.lst SE) false false) (.own (.lst (AF.map fun g => D.lst g.2.2)) false false) .un .un .un .un .un .un .un)) (L := rgD 0 ((AF.length : Nat) : Int).toNat)
    (mi_R1 (k := ((AF.length : Nat) : Int)) (er_cons (er_callS (er_cons (er_varO rfl) er_nil) rfl (by show some (D.int ((AF.map fun g => D.lst g.2.1).length : Nat)) = _; rw [List.length_map]) rfl) er_nil) (rgOk_of (by omega) (by omega))) (fun o => rfl) (fun o => rfl) (by rw [rgD_len, Int.toNat_natCast]; exact Nat.le_trans la (by decide))
    (fun x hx => by
      obtain ⟨i, hi⟩ := List.getElem?_of_mem hx
      obtain ⟨hi2, rfl⟩ := rgD_at hi
      rw [Int.toNat_natCast] at hi2
      have hgi : AF[i]? = some AF[i] := List.getElem?_eq_getElem hi2
      obtain ⟨q2, ms, q3, q4, q5⟩ := ga _ (List.mem_of_getElem? hgi)
      rw [show (0 + (i : Int)) = (i : Int) by omega]
      show LcItem _ _ _ _ _ _ _ _ (match AF[((i : Int)).toNat]? with
        | some g => D.lst (outG VL g)
        | none => .non)
      rw [Int.toNat_natCast, hgi]
      generalize AF[i] = g at *
      have ix8 : ixD (.lst (AF.map fun g => D.lst g.2.1)) (i : Int) = some (.lst g.2.1) := atI_nat (by rw [List.getElem?_map, hgi]; rfl)
      have ix10 : ixD (.lst (AF.map fun g => D.lst g.2.2)) (i : Int) = some (.lst g.2.2) := atI_nat (by rw [List.getElem?_map, hgi]; rfl)
      have ag : ∀ v ∈ VL, d_aggregate [v, .lst g.2.2] = some (.dat (aggB v g.2.2)) := fun v mv => by rw [q3]; exact (agg_ok (hV v mv) q4 q5).2
      refine lc_gen (h := (GQ ns (.frz (.lst (L.map D.int))) (.frz (.lst (RS.map D.lst))) (.dat (.tup K)) (.own (.lst (names9.map D.str)) false false) (.frz (.lst VL)) (.dat (.int (i : Int))) (.dat (.str kept)) (.own (.lst (AF.map fun g => D.lst g.2.1)) false false) (.own (.lst SE) false false) (.own (.lst (AF.map fun g => D.lst g.2.2)) false false) .un .un .un .un .un .un .un)) rfl (fun o => rfl) (fun o => rfl) (fun o => rfl) (fun o => rfl) (fun _ o => ?_)
      have e1 := er_lc1 (b := fun _ => true) (f := fun v => aggB v g.2.2) (tg := gN 17) (tt := zYes) (el := zCall d_aggregate (zCons (zVar 17) (zCons (zIx (zVar 10) (zVar 6)) (zNil)))) (vs := [17]) (base := (GQ ns (.frz (.lst (L.map D.int))) (.frz (.lst (RS.map D.lst))) (.dat (.tup K)) (.own (.lst (names9.map D.str)) false false) (.frz (.lst VL)) (.dat (.int (i : Int))) (.dat (.str kept)) (.own (.lst (AF.map fun g => D.lst g.2.1)) false false) (.own (.lst SE) false false) (.own (.lst (AF.map fun g => D.lst g.2.2)) false false) .un .un .un .un .un .un .un) ++ [o]) (mi := ziL 18 (zVar 5)) (g := (GQ ns (.frz (.lst (L.map D.int))) (.frz (.lst (RS.map D.lst))) (.dat (.tup K)) (.own (.lst (names9.map D.str)) false false) (.frz (.lst VL)) (.dat (.int (i : Int))) (.dat (.str kept)) (.own (.lst (AF.map fun g => D.lst g.2.1)) false false) (.own (.lst SE) false false) (.own (.lst (AF.map fun g => D.lst g.2.2)) false false) .un .un .un .un .un .un .un) ++ [o]) (L := VL) (mi_Ld (er_varF rfl)) (fun o => rfl) (fun o => rfl) (Nat.le_trans hv (by decide))
        (fun v mv => lc_dat (h := (GQ ns (.frz (.lst (L.map D.int))) (.frz (.lst (RS.map D.lst))) (.dat (.tup K)) (.own (.lst (names9.map D.str)) false false) (.frz (.lst VL)) (.dat (.int (i : Int))) (.dat (.str kept)) (.own (.lst (AF.map fun g => D.lst g.2.1)) false false) (.own (.lst SE) false false) (.own (.lst (AF.map fun g => D.lst g.2.2)) false false) .un .un .un .un .un .un (.dat v)) ++ [o]) rfl (fun o => rfl) (fun o => rfl) (fun o => rfl) (fun o => rfl) (fun _ o => er_callG (er_cons rfl (er_cons (er_ix (er_varO rfl) rfl rfl ix10) er_nil)) rfl rfl (ag v mv) rfl))
      rw [List.filter_eq_self.mpr (fun _ _ => rfl)] at e1
      refine ⟨.bor 20, [.own (.lst (VL.map fun v => aggB v g.2.2)) false false, .own (.lst (g.2.1 ++ VL.map fun v => aggB v g.2.2)) false false], [.own (.lst (VL.map fun v => aggB v g.2.2)) false false, .frz (.lst (g.2.1 ++ VL.map fun v => aggB v g.2.2))], ?_, rfl⟩
      exact er_catL (l := g.2.1) (k := VL.map fun v => aggB v g.2.2) (er_ix (er_varO rfl) rfl rfl ix8) e1 rfl rfl (Nat.le_trans (show g.2.1.length + (VL.map fun v => aggB v g.2.2).length ≤ 1000 by rw [List.length_map]; omega) (by decide)))
  have em : ((rgD 0 ((AF.length : Nat) : Int).toNat).filter fun _ => true).map (fun d => match d with
    | .int k => (match AF[k.toNat]? with
      | some g => D.lst (outG VL g)
      | none => .non)
    | _ => .non) = (dueG K VL RS).map D.lst := by
    rw [List.filter_eq_self.mpr (fun _ _ => rfl), Int.toNat_natCast, du, List.map_map]
    refine List.ext_getElem? fun j => ?_
    rw [List.getElem?_map, List.getElem?_map]
    by_cases h : j < AF.length
    · have r1 : (rgD 0 AF.length)[j]? = some (.int (0 + (j : Int))) := by unfold rgD; rw [List.getElem?_map, List.getElem?_range h]; rfl
      rw [r1, List.getElem?_eq_getElem h]
      show some (match AF[(0 + (j : Int)).toNat]? with
        | some g => D.lst (outG VL g)
        | none => .non) = _
      rw [show (0 + (j : Int)).toNat = j by omega, List.getElem?_eq_getElem h]
      rfl
    · rw [List.getElem?_eq_none (by rw [rgD_len]; omega), List.getElem?_eq_none (by omega)]
      rfl
  rw [em] at e
  exact set_own e (Nat.le_of_ble_eq_true rfl) rfl rfl rfl
theorem law_true (ns : List Int) (hn : ns.length ≤ 63) : d_law [scriptD ns] = some (.dat (.bl true)) := by
  obtain ⟨L, hL, hl⟩ := numbers_ok ns 20 hn (by decide)
  have hL : d__law_numbers [scriptD ns, .int 20] = some (.new (.lst (L.map D.int))) := hL
  have hl : L.length = 20 := hl
  have ixn : ∀ j : Nat, j < 20 → ∃ n : Int, ixD (.lst (L.map D.int)) (j : Int) = some (.int n) := fun j hj => by
    obtain ⟨x, e, _⟩ := atI_lt (xs := L) (show (0 : Int) ≤ (j : Int) by omega) (by omega)
    exact ⟨x, atI_map (f := D.int) e⟩
  obtain ⟨n0, x0⟩ := ixn 0 (by decide)
  obtain ⟨n1, x1⟩ := ixn 1 (by decide)
  obtain ⟨n2, x2⟩ := ixn 2 (by decide)
  have x0 : ixD (.lst (L.map D.int)) 0 = some (.int n0) := x0
  have x1 : ixD (.lst (L.map D.int)) 1 = some (.int n1) := x1
  have x2 : ixD (.lst (L.map D.int)) 2 = some (.int n2) := x2
  obtain ⟨c, hc⟩ : ∃ c : Nat, (c : Int) = n0 % 15 := ⟨(n0 % 15).toNat, by omega⟩
  obtain ⟨RS, eR, lR, gR⟩ := rowlist_okR L 3 c 3 (by omega) (by omega) (by omega)
  have eR : d__law_rowlist [.lst (L.map D.int), .int 3, .int (n0 % 15), .int 3] = some (.newR RS) := by rw [← hc]; exact eR
  have hR : ∀ R ∈ RS, RV R := fun R q v hv => ((gR R q).2 v hv).vw
  have hz : RS.length ≤ 14 := by omega
  have n0t : ∀ g : G, g[1]? = some (.frz (.lst (L.map D.int))) → zCallS intU (zCons (zIx (zVar 1) (zC (.int 0))) (zNil)) g = some (.dat (.int n0), g) := fun g h => er_callS (er_cons (er_ix (er_varF h) er_C rfl x0) er_nil) rfl rfl rfl
  have n1t : ∀ g : G, g[1]? = some (.frz (.lst (L.map D.int))) → zIx (zVar 1) (zC (.int 1)) g = some (.dat (.int n1), g) := fun g h => er_ix (er_varF h) er_C rfl x1
  have z1 : zSet 18 1 (zCall d__law_numbers (zCons (zVar 0) (zCons (zC (.int 20)) (zNil)))) (GQ ns .un .un .un .un .un .un .un .un .un .un .un .un .un .un .un .un .un) = some (.nx, (GQ ns (.own (.lst (L.map D.int)) false false) .un .un .un .un .un .un .un .un .un .un .un .un .un .un .un .un)) := set_own (er_callL (g1 := (GQ ns .un .un .un .un .un .un .un .un .un .un .un .un .un .un .un .un .un)) (ds := [scriptD ns, .int 20]) (er_cons rfl (er_cons er_C er_nil)) hL) (Nat.le_of_ble_eq_true rfl) rfl rfl rfl
  have cr := er_callR (f := d__law_rowlist) (mr := zCons (zVar 1) (zCons (zC (.int 3)) (zCons (zOp modD (zCallS intU (zCons (zIx (zVar 1) (zC (.int 0))) (zNil))) (zC (.int 15))) (zCons (zC (.int 3)) (zNil))))) (g := (GQ ns (.own (.lst (L.map D.int)) false false) .un .un .un .un .un .un .un .un .un .un .un .un .un .un .un .un)) (g1 := (GQ ns (.own (.lst (L.map D.int)) false false) .un .un .un .un .un .un .un .un .un .un .un .un .un .un .un .un)) (g2 := (GQ ns (.frz (.lst (L.map D.int))) .un .un .un .un .un .un .un .un .un .un .un .un .un .un .un .un)) (ds := [.lst (L.map D.int), .int 3, .int (n0 % 15), .int 3])
    (er_cons (er_varO rfl) (er_cons er_C (er_cons (er_op (er_callS (er_cons (er_ix (d := .lst (L.map D.int)) (k := 0) (er_varO rfl) er_C rfl x0) er_nil) rfl rfl rfl) er_C rfl rfl (dr_mod (by decide)) rfl) (er_cons er_C er_nil)))) rfl rfl eR
  have z2 : zSet 18 2 (zCall d__law_rowlist (zCons (zVar 1) (zCons (zC (.int 3)) (zCons (zOp modD (zCallS intU (zCons (zIx (zVar 1) (zC (.int 0))) (zNil))) (zC (.int 15))) (zCons (zC (.int 3)) (zNil)))))) (GQ ns (.own (.lst (L.map D.int)) false false) .un .un .un .un .un .un .un .un .un .un .un .un .un .un .un .un) = some (.nx, (GQ ns (.frz (.lst (L.map D.int))) (.rws RS) .un .un .un .un .un .un .un .un .un .un .un .un .un .un .un)) := set_rws cr (Nat.le_of_ble_eq_true rfl) rfl rfl rfl
  obtain ⟨m, hm, hm2⟩ : ∃ m : Nat, n0 / 15 % 3 = (m : Int) ∧ m ≤ 2 := by
    obtain ⟨m, hm⟩ := Int.eq_ofNat_of_zero_le (a := n0 / 15 % 3) (by omega)
    exact ⟨m, hm, by omega⟩
  obtain ⟨K, lK, hK, z3⟩ : ∃ K : List D, K.length = m ∧ (∀ e ∈ K, Ex VS 3 1 e) ∧ zSet 18 3 (z_tuple (zCons (zLc (ziR1 (zCons (zOp modD (zOp divD (zCallS intU (zCons (zIx (zVar 1) (zC (.int 0))) (zNil))) (zC (.int 15))) (zC (.int 3))) (zNil))) (gN 6) (zYes) (zCall d__law_simple (zCons (zOp divD (zIx (zVar 1) (zC (.int 1))) (zOp addS (zOp mulD (zC (.int 5)) (zVar 6)) (zC (.int 1)))) (zCons (zC (.int 3)) (zNil)))) [6]) (zNil))) (GQ ns (.frz (.lst (L.map D.int))) (.rws RS) .un .un .un .un .un .un .un .un .un .un .un .un .un .un .un) = some (.nx, (GQ ns (.frz (.lst (L.map D.int))) (.rws RS) (.dat (.tup K)) .un .un .un .un .un .un .un .un .un .un .un .un .un .un)) := by
    have hr3 : (zCons (zOp modD (zOp divD (zCallS intU (zCons (zIx (zVar 1) (zC (.int 0))) (zNil))) (zC (.int 15))) (zC (.int 3))) (zNil)) (GQ ns (.frz (.lst (L.map D.int))) (.rws RS) .un .un .un .un .un .un .un .un .un .un .un .un .un .un .un) = some ([.dat (.int (m : Int))], (GQ ns (.frz (.lst (L.map D.int))) (.rws RS) .un .un .un .un .un .un .un .un .un .un .un .un .un .un .un)) := by
      rw [← hm]
      exact er_cons (er_op (er_op (f := divD) (n0t _ rfl) er_C rfl rfl (dr_div (by decide) (by decide)) rfl) er_C rfl rfl (dr_mod (by decide)) rfl) er_nil
    have e := er_lc1 (b := fun _ => true) (f := fun d => match d with
      | .int k => smp (n1 / (5 * k + 1))
      | _ => .non) (tg := gN 6) (tt := zYes) (el := zCall d__law_simple (zCons (zOp divD (zIx (zVar 1) (zC (.int 1))) (zOp addS (zOp mulD (zC (.int 5)) (zVar 6)) (zC (.int 1)))) (zCons (zC (.int 3)) (zNil)))) (vs := [6]) (base := (GQ ns (.frz (.lst (L.map D.int))) (.rws RS) .un .un .un .un .un .un .un .un .un .un .un .un .un .un .un)) (mi := ziR1 (zCons (zOp modD (zOp divD (zCallS intU (zCons (zIx (zVar 1) (zC (.int 0))) (zNil))) (zC (.int 15))) (zC (.int 3))) (zNil))) (g := (GQ ns (.frz (.lst (L.map D.int))) (.rws RS) .un .un .un .un .un .un .un .un .un .un .un .un .un .un .un)) (L := rgD 0 (m : Int).toNat) (mi_R1 (k := (m : Int)) hr3 (rgOk_of (by omega) (by omega))) (fun o => rfl) (fun o => rfl) (by rw [rgD_len]; exact Nat.le_trans (show (m : Int).toNat ≤ 2 by omega) (by decide))
      (fun x hx => by
        obtain ⟨i, hi⟩ := List.getElem?_of_mem hx
        obtain ⟨hi, rfl⟩ := rgD_at hi
        have dv : divD (.int n1) (.int (5 * (0 + (i : Int)) + 1)) = some (.int (n1 / (5 * (0 + (i : Int)) + 1))) := dr_divB (by omega) (by omega)
        exact lc_dat (h := (GQ ns (.frz (.lst (L.map D.int))) (.rws RS) .un .un .un (.dat (.int (0 + (i : Int)))) .un .un .un .un .un .un .un .un .un .un .un)) rfl (fun o => rfl) (fun o => rfl) (fun o => rfl) (fun o => rfl) (fun _ o => er_callG (er_cons (er_op (f := divD) (n1t _ rfl) (er_op (er_op er_C rfl rfl rfl (dr_mull (by decide)) rfl) er_C rfl rfl rfl rfl) rfl rfl dv rfl) (er_cons er_C er_nil)) rfl rfl (smp_ok _).2 rfl))
    rw [List.filter_eq_self.mpr (fun _ _ => rfl), Int.toNat_natCast] at e
    refine ⟨_, ?_, fun x hx => ?_, set_dat (er_tupL (er_cons e er_nil) rfl) rfl rfl⟩
    · rw [List.length_map, rgD_len]
    · obtain ⟨d, hd, rfl⟩ := List.mem_map.mp hx
      obtain ⟨i, hi⟩ := List.getElem?_of_mem hd
      obtain ⟨_, rfl⟩ := rgD_at hi
      exact (smp_ok _).1
  have z4 : zSet 18 4 (zLst (zCons (zC (.str [114, 111, 119, 115])) (zCons (zC (.str [99, 111, 117, 110, 116])) (zCons (zC (.str [100, 105, 115, 116, 105, 110, 99, 116])) (zCons (zC (.str [115, 117, 109])) (zCons (zC (.str [109, 105, 110])) (zCons (zC (.str [109, 97, 120])) (zCons (zC (.str [97, 118, 101, 114, 97, 103, 101])) (zCons (zC (.str [108, 105, 115, 116])) (zCons (zC (.str [115, 111, 109, 101])) (zNil))))))))))) (GQ ns (.frz (.lst (L.map D.int))) (.rws RS) (.dat (.tup K)) .un .un .un .un .un .un .un .un .un .un .un .un .un .un) = some (.nx, (GQ ns (.frz (.lst (L.map D.int))) (.rws RS) (.dat (.tup K)) (.own (.lst (names9.map D.str)) false false) .un .un .un .un .un .un .un .un .un .un .un .un .un)) := set_own (er_lst (g1 := (GQ ns (.frz (.lst (L.map D.int))) (.rws RS) (.dat (.tup K)) .un .un .un .un .un .un .un .un .un .un .un .un .un .un)) (g2 := (GQ ns (.frz (.lst (L.map D.int))) (.rws RS) (.dat (.tup K)) .un .un .un .un .un .un .un .un .un .un .un .un .un .un)) (er_cons er_C (er_cons er_C (er_cons er_C (er_cons er_C (er_cons er_C (er_cons er_C (er_cons er_C (er_cons er_C (er_cons er_C er_nil))))))))) rfl (Nat.le_of_ble_eq_true rfl)) (Nat.le_of_ble_eq_true rfl) rfl rfl rfl
  have z5 : zSet 18 5 (zLst (zNil)) (GQ ns (.frz (.lst (L.map D.int))) (.rws RS) (.dat (.tup K)) (.own (.lst (names9.map D.str)) false false) .un .un .un .un .un .un .un .un .un .un .un .un .un) = some (.nx, (GQ ns (.frz (.lst (L.map D.int))) (.rws RS) (.dat (.tup K)) (.own (.lst (names9.map D.str)) false false) (.own (.lst []) false false) .un .un .un .un .un .un .un .un .un .un .un .un)) := set_own (er_lst er_nil rfl (Nat.zero_le _)) (Nat.le_of_ble_eq_true rfl) rfl rfl rfl
  obtain ⟨m2, hm3, hm4⟩ : ∃ m : Nat, n0 / 45 % 4 = (m : Int) ∧ m ≤ 3 := by
    obtain ⟨m, hm⟩ := Int.eq_ofNat_of_zero_le (a := n0 / 45 % 4) (by omega)
    exact ⟨m, hm, by omega⟩
  have hr6 : (zCons (zOp modD (zOp divD (zCallS intU (zCons (zIx (zVar 1) (zC (.int 0))) (zNil))) (zC (.int 45))) (zC (.int 4))) (zNil)) (GQ ns (.frz (.lst (L.map D.int))) (.rws RS) (.dat (.tup K)) (.own (.lst (names9.map D.str)) false false) (.own (.lst []) false false) .un .un .un .un .un .un .un .un .un .un .un .un) = some ([.dat (.int (m2 : Int))], (GQ ns (.frz (.lst (L.map D.int))) (.rws RS) (.dat (.tup K)) (.own (.lst (names9.map D.str)) false false) (.own (.lst []) false false) .un .un .un .un .un .un .un .un .un .un .un .un)) := by
    rw [← hm3]
    exact er_cons (er_op (er_op (f := divD) (n0t _ rfl) er_C rfl rfl (dr_div (by decide) (by decide)) rfl) er_C rfl rfl (dr_mod (by decide)) rfl) er_nil
  obtain ⟨gl, f6, VL, rfl, lV, hV⟩ := forL_inv (tg := gN 6) (st := lb_law_1) (L := rgD 0 m2) (fun i g => ∃ VL : List D, g = (GQ ns (.frz (.lst (L.map D.int))) (.rws RS) (.dat (.tup K)) (.own (.lst (names9.map D.str)) false false) (.own (.lst VL) false false) .un .un .un .un .un .un .un .un .un .un .un .un) ∧ VL.length = i ∧ ∀ v ∈ VL, VQ2 v) 0 (GQ ns (.frz (.lst (L.map D.int))) (.rws RS) (.dat (.tup K)) (.own (.lst (names9.map D.str)) false false) (.own (.lst []) false false) .un .un .un .un .un .un .un .un .un .un .un .un) ⟨[], rfl, rfl, fun v q => nomatch q⟩ (fun i d g hd hg => by
    obtain ⟨VL, rfl, lV, hV⟩ := hg
    obtain ⟨hi, rfl⟩ := rgD_at hd
    rw [Nat.zero_add] at lV
    obtain ⟨v, a1, a2, a3, a4, t⟩ := val_turn ns L (x2 := .rws RS) (x3 := .dat (.tup K)) (VL := VL) (by omega) i (by omega) n2 x2
    refine ⟨(GQ ns (.frz (.lst (L.map D.int))) (.rws RS) (.dat (.tup K)) (.own (.lst (names9.map D.str)) false false) (.own (.lst VL) false false) (.dat (.int (0 + (i : Int)))) .un .un .un .un .un .un .un .un .un .un .un), _, rfl, .inl ?_, VL ++ [v], rfl, by rw [List.length_append, List.length_singleton, lV, Nat.zero_add], fun x hx => ?_⟩
    · rw [Int.zero_add]; exact t
    · rcases List.mem_append.mp hx with hx | hx
      · exact hV x hx
      · rw [List.mem_singleton.mp hx]; exact ⟨a1, a2, a3, a4⟩)
  rw [rgD_len, Nat.zero_add] at lV
  have z6 : zFor 18 (ziR1 (zCons (zOp modD (zOp divD (zCallS intU (zCons (zIx (zVar 1) (zC (.int 0))) (zNil))) (zC (.int 45))) (zC (.int 4))) (zNil))) (gN 6) (lb_law_1) (GQ ns (.frz (.lst (L.map D.int))) (.rws RS) (.dat (.tup K)) (.own (.lst (names9.map D.str)) false false) (.own (.lst []) false false) .un .un .un .un .un .un .un .un .un .un .un .un) = some (.nx, (GQ ns (.frz (.lst (L.map D.int))) (.rws RS) (.dat (.tup K)) (.own (.lst (names9.map D.str)) false false) (.own (.lst VL) false false) .un .un .un .un .un .un .un .un .un .un .un .un)) := for_none (mi_R1 hr6 (rgOk_of (by omega) (by omega))) rfl (by rw [Int.toNat_natCast]; exact f6)
  have hrep : ∃ kept, reprD [.tup [.lst (RS.map D.lst), .tup K, .lst VL]] = some (.str kept) := by
    obtain ⟨a1, a2, a3⟩ := rows_rok (by decide) gR
    obtain ⟨b1, b2, b3⟩ := exs_rok hK
    obtain ⟨c1, c2, c3⟩ := vqs_rok hV
    refine ⟨_, dr_repr (rok_repr rfl ?_ ?_ ?_)⟩
    · show (D.rokA (RS.map D.lst) && (D.rokA K && (D.rokA VL && true))) = true
      rw [a1, b1, c1]; rfl
    · show max (D.dpA (RS.map D.lst) + 1) (max (D.dpA K + 1) (max (D.dpA VL + 1) 0)) + 1 ≤ 60
      omega
    · show D.wtA (RS.map D.lst) + 1 + (D.wtA K + 1 + (D.wtA VL + 1 + 0)) ≤ 100000
      omega
  obtain ⟨kept, hrep⟩ := hrep
  have hVA : ∀ v ∈ VL, AV v := fun v q => (hV v q).1
  have z7 : zSet 18 7 (zCallS reprD (zCons (zTup (zCons (zVar 2) (zCons (zVar 3) (zCons (zVar 5) (zNil))))) (zNil))) (GQ ns (.frz (.lst (L.map D.int))) (.rws RS) (.dat (.tup K)) (.own (.lst (names9.map D.str)) false false) (.own (.lst VL) false false) .un .un .un .un .un .un .un .un .un .un .un .un) = some (.nx, (GQ ns (.frz (.lst (L.map D.int))) (.frz (.lst (RS.map D.lst))) (.dat (.tup K)) (.own (.lst (names9.map D.str)) false false) (.frz (.lst VL)) .un (.dat (.str kept)) .un .un .un .un .un .un .un .un .un .un)) := set_dat (er_callS (ds := [.tup [.lst (RS.map D.lst), .tup K, .lst VL]]) (er_cons (er_tup (g1 := (GQ ns (.frz (.lst (L.map D.int))) (.rws RS) (.dat (.tup K)) (.own (.lst (names9.map D.str)) false false) (.own (.lst VL) false false) .un .un .un .un .un .un .un .un .un .un .un .un)) (g2 := (GQ ns (.frz (.lst (L.map D.int))) (.frz (.lst (RS.map D.lst))) (.dat (.tup K)) (.own (.lst (names9.map D.str)) false false) (.frz (.lst VL)) .un .un .un .un .un .un .un .un .un .un .un .un)) (er_cons rfl (er_cons rfl (er_cons (er_varO rfl) er_nil))) rfl (Nat.le_of_ble_eq_true rfl)) er_nil) rfl hrep rfl) rfl rfl
  have z8 : zSet 18 8 (zLst (zNil)) (GQ ns (.frz (.lst (L.map D.int))) (.frz (.lst (RS.map D.lst))) (.dat (.tup K)) (.own (.lst (names9.map D.str)) false false) (.frz (.lst VL)) .un (.dat (.str kept)) .un .un .un .un .un .un .un .un .un .un) = some (.nx, (GQ ns (.frz (.lst (L.map D.int))) (.frz (.lst (RS.map D.lst))) (.dat (.tup K)) (.own (.lst (names9.map D.str)) false false) (.frz (.lst VL)) .un (.dat (.str kept)) (.own (.lst []) false false) .un .un .un .un .un .un .un .un .un)) := set_own (er_lst er_nil rfl (Nat.zero_le _)) (Nat.le_of_ble_eq_true rfl) rfl rfl rfl
  have z9 : zSet 18 9 (zLst (zNil)) (GQ ns (.frz (.lst (L.map D.int))) (.frz (.lst (RS.map D.lst))) (.dat (.tup K)) (.own (.lst (names9.map D.str)) false false) (.frz (.lst VL)) .un (.dat (.str kept)) (.own (.lst []) false false) .un .un .un .un .un .un .un .un .un) = some (.nx, (GQ ns (.frz (.lst (L.map D.int))) (.frz (.lst (RS.map D.lst))) (.dat (.tup K)) (.own (.lst (names9.map D.str)) false false) (.frz (.lst VL)) .un (.dat (.str kept)) (.own (.lst []) false false) (.own (.lst []) false false) .un .un .un .un .un .un .un .un)) := set_own (er_lst er_nil rfl (Nat.zero_le _)) (Nat.le_of_ble_eq_true rfl) rfl rfl rfl
  have z10 : zSet 18 10 (zLst (zNil)) (GQ ns (.frz (.lst (L.map D.int))) (.frz (.lst (RS.map D.lst))) (.dat (.tup K)) (.own (.lst (names9.map D.str)) false false) (.frz (.lst VL)) .un (.dat (.str kept)) (.own (.lst []) false false) (.own (.lst []) false false) .un .un .un .un .un .un .un .un) = some (.nx, (GQ ns (.frz (.lst (L.map D.int))) (.frz (.lst (RS.map D.lst))) (.dat (.tup K)) (.own (.lst (names9.map D.str)) false false) (.frz (.lst VL)) .un (.dat (.str kept)) (.own (.lst []) false false) (.own (.lst []) false false) (.own (.lst []) false false) .un .un .un .un .un .un .un)) := set_own (er_lst er_nil rfl (Nat.zero_le _)) (Nat.le_of_ble_eq_true rfl) rfl rfl rfl
  have f11 := rows_loop ns L (RS := RS) (K := K) (VL := VL) (kept := kept) hK (by omega) RS 0 [] hR (fun g q => nomatch q) (by rw [List.length_nil]; omega) (by omega)
  have ae : K.length ≠ 0 → accF K RS = RS.foldl (stepG K) [] := fun h => by unfold accF; rw [if_neg h]
  have ae0 : K.length = 0 → accF K RS = [(kN [], [], RS.map D.lst)] := fun h => by unfold accF; rw [if_pos h]
  generalize RS.foldl (stepG K) [] = acc at *
  have z11 : zFor 18 (ziL 18 (zVar 2)) (gN 11) (lb_law_2) (GQ ns (.frz (.lst (L.map D.int))) (.frz (.lst (RS.map D.lst))) (.dat (.tup K)) (.own (.lst (names9.map D.str)) false false) (.frz (.lst VL)) .un (.dat (.str kept)) (.own (.lst []) false false) (.own (.lst []) false false) (.own (.lst []) false false) .un .un .un .un .un .un .un) = some (.nx, (GQ ns (.frz (.lst (L.map D.int))) (.frz (.lst (RS.map D.lst))) (.dat (.tup K)) (.own (.lst (names9.map D.str)) false false) (.frz (.lst VL)) .un (.dat (.str kept)) (.own (.lst (acc.map fun g => D.lst g.2.1)) false false) (.own (.lst (seenD acc)) false false) (.own (.lst (acc.map fun g => D.lst g.2.2)) false false) .un .un .un .un .un .un .un)) := for_run (mi_Ld (er_varF rfl)) rfl f11
  have z12 : zIfS 18 (zTst (zOp eqD (zCallS lenD (zCons (zVar 3) (zNil))) (zC (.int 0)))) (zSeq (zSet 18 8 (zLst (zCons (zLst (zNil)) (zNil)))) (zSet 18 10 (zLst (zCons (zVar 2) (zNil))))) (zNx) (GQ ns (.frz (.lst (L.map D.int))) (.frz (.lst (RS.map D.lst))) (.dat (.tup K)) (.own (.lst (names9.map D.str)) false false) (.frz (.lst VL)) .un (.dat (.str kept)) (.own (.lst (acc.map fun g => D.lst g.2.1)) false false) (.own (.lst (seenD acc)) false false) (.own (.lst (acc.map fun g => D.lst g.2.2)) false false) .un .un .un .un .un .un .un) = some (.nx, (GQ ns (.frz (.lst (L.map D.int))) (.frz (.lst (RS.map D.lst))) (.dat (.tup K)) (.own (.lst (names9.map D.str)) false false) (.frz (.lst VL)) .un (.dat (.str kept)) (.own (.lst ((accF K RS).map fun g => D.lst g.2.1)) false false) (.own (.lst (seenD acc)) false false) (.own (.lst ((accF K RS).map fun g => D.lst g.2.2)) false false) .un .un .un .un .un .un .un)) := by
    have t : zTst (zOp eqD (zCallS lenD (zCons (zVar 3) (zNil))) (zC (.int 0))) (GQ ns (.frz (.lst (L.map D.int))) (.frz (.lst (RS.map D.lst))) (.dat (.tup K)) (.own (.lst (names9.map D.str)) false false) (.frz (.lst VL)) .un (.dat (.str kept)) (.own (.lst (acc.map fun g => D.lst g.2.1)) false false) (.own (.lst (seenD acc)) false false) (.own (.lst (acc.map fun g => D.lst g.2.2)) false false) .un .un .un .un .un .un .un) = some (((K.length : Nat) : Int) == 0, (GQ ns (.frz (.lst (L.map D.int))) (.frz (.lst (RS.map D.lst))) (.dat (.tup K)) (.own (.lst (names9.map D.str)) false false) (.frz (.lst VL)) .un (.dat (.str kept)) (.own (.lst (acc.map fun g => D.lst g.2.1)) false false) (.own (.lst (seenD acc)) false false) (.own (.lst (acc.map fun g => D.lst g.2.2)) false false) .un .un .un .un .un .un .un)) := er_tst (er_op (er_callS (er_cons rfl er_nil) rfl (show lenD [.tup K] = some (.int (K.length : Nat)) from rfl) rfl) er_C rfl rfl dr_eqI rfl)
    by_cases h : K.length = 0
    · rw [ae0 h]
      rw [h] at t
      have y1 : zSet 18 8 (zLst (zCons (zLst (zNil)) (zNil))) (GQ ns (.frz (.lst (L.map D.int))) (.frz (.lst (RS.map D.lst))) (.dat (.tup K)) (.own (.lst (names9.map D.str)) false false) (.frz (.lst VL)) .un (.dat (.str kept)) (.own (.lst (acc.map fun g => D.lst g.2.1)) false false) (.own (.lst (seenD acc)) false false) (.own (.lst (acc.map fun g => D.lst g.2.2)) false false) .un .un .un .un .un .un .un) = some (.nx, (GQ ns (.frz (.lst (L.map D.int))) (.frz (.lst (RS.map D.lst))) (.dat (.tup K)) (.own (.lst (names9.map D.str)) false false) (.frz (.lst VL)) .un (.dat (.str kept)) (.own (.lst [.lst []]) false false) (.own (.lst (seenD acc)) false false) (.own (.lst (acc.map fun g => D.lst g.2.2)) false false) .un .un .un .un .un .un .un)) := set_own (er_lst (g1 := (GQ ns (.frz (.lst (L.map D.int))) (.frz (.lst (RS.map D.lst))) (.dat (.tup K)) (.own (.lst (names9.map D.str)) false false) (.frz (.lst VL)) .un (.dat (.str kept)) (.own (.lst (acc.map fun g => D.lst g.2.1)) false false) (.own (.lst (seenD acc)) false false) (.own (.lst (acc.map fun g => D.lst g.2.2)) false false) .un .un .un .un .un .un .un) ++ [.own (.lst []) false false]) (g2 := (GQ ns (.frz (.lst (L.map D.int))) (.frz (.lst (RS.map D.lst))) (.dat (.tup K)) (.own (.lst (names9.map D.str)) false false) (.frz (.lst VL)) .un (.dat (.str kept)) (.own (.lst (acc.map fun g => D.lst g.2.1)) false false) (.own (.lst (seenD acc)) false false) (.own (.lst (acc.map fun g => D.lst g.2.2)) false false) .un .un .un .un .un .un .un) ++ [.frz (.lst [])]) (er_cons (er_lst (g1 := (GQ ns (.frz (.lst (L.map D.int))) (.frz (.lst (RS.map D.lst))) (.dat (.tup K)) (.own (.lst (names9.map D.str)) false false) (.frz (.lst VL)) .un (.dat (.str kept)) (.own (.lst (acc.map fun g => D.lst g.2.1)) false false) (.own (.lst (seenD acc)) false false) (.own (.lst (acc.map fun g => D.lst g.2.2)) false false) .un .un .un .un .un .un .un)) (g2 := (GQ ns (.frz (.lst (L.map D.int))) (.frz (.lst (RS.map D.lst))) (.dat (.tup K)) (.own (.lst (names9.map D.str)) false false) (.frz (.lst VL)) .un (.dat (.str kept)) (.own (.lst (acc.map fun g => D.lst g.2.1)) false false) (.own (.lst (seenD acc)) false false) (.own (.lst (acc.map fun g => D.lst g.2.2)) false false) .un .un .un .un .un .un .un)) er_nil rfl (Nat.zero_le _)) er_nil) rfl (Nat.le_of_ble_eq_true rfl)) (Nat.le_of_ble_eq_true rfl) rfl rfl rfl
      have y2 : zSet 18 10 (zLst (zCons (zVar 2) (zNil))) (GQ ns (.frz (.lst (L.map D.int))) (.frz (.lst (RS.map D.lst))) (.dat (.tup K)) (.own (.lst (names9.map D.str)) false false) (.frz (.lst VL)) .un (.dat (.str kept)) (.own (.lst [.lst []]) false false) (.own (.lst (seenD acc)) false false) (.own (.lst (acc.map fun g => D.lst g.2.2)) false false) .un .un .un .un .un .un .un) = some (.nx, (GQ ns (.frz (.lst (L.map D.int))) (.frz (.lst (RS.map D.lst))) (.dat (.tup K)) (.own (.lst (names9.map D.str)) false false) (.frz (.lst VL)) .un (.dat (.str kept)) (.own (.lst [.lst []]) false false) (.own (.lst (seenD acc)) false false) (.own (.lst [.lst (RS.map D.lst)]) false false) .un .un .un .un .un .un .un)) := set_own (er_lst (g1 := (GQ ns (.frz (.lst (L.map D.int))) (.frz (.lst (RS.map D.lst))) (.dat (.tup K)) (.own (.lst (names9.map D.str)) false false) (.frz (.lst VL)) .un (.dat (.str kept)) (.own (.lst [.lst []]) false false) (.own (.lst (seenD acc)) false false) (.own (.lst (acc.map fun g => D.lst g.2.2)) false false) .un .un .un .un .un .un .un)) (g2 := (GQ ns (.frz (.lst (L.map D.int))) (.frz (.lst (RS.map D.lst))) (.dat (.tup K)) (.own (.lst (names9.map D.str)) false false) (.frz (.lst VL)) .un (.dat (.str kept)) (.own (.lst [.lst []]) false false) (.own (.lst (seenD acc)) false false) (.own (.lst (acc.map fun g => D.lst g.2.2)) false false) .un .un .un .un .un .un .un)) (er_cons (er_varF rfl) er_nil) rfl (Nat.le_of_ble_eq_true rfl)) (Nat.le_of_ble_eq_true rfl) rfl rfl rfl
      exact if_yes t rfl (seq_is y1 y2)
    · rw [ae h]
      rw [show (((K.length : Nat) : Int) == 0) = false by rw [beq_eq_false_iff_ne]; omega] at t
      exact if_no t rfl rfl
  have z13 := due_set ns L (RS := RS) (K := K) (VL := VL) (SE := seenD acc) (kept := kept) hK (by omega) hVA (by omega) hR (by omega)
  have gA := group_ok (d := .tup K) (e := .tup VL) (.inl rfl) (.inl rfl) hK (by omega) hVA (by omega) hR (by omega)
  have gB := group_ok (d := .lst K) (e := .lst VL) (.inr rfl) (.inr rfl) hK (by omega) hVA (by omega) hR (by omega)
  obtain ⟨dv, dl⟩ := due_vw hK (by omega) hVA (by omega) hR (by omega)
  have hs := same_list_ok (XS := dueG K VL RS) (fun R q => dv R q) (by omega)
  have z14 : zSet 18 12 (zCall d_group_rows (zCons (zVar 3) (zCons (z_tuple (zCons (zVar 5) (zNil))) (zCons (zVar 2) (zNil))))) (GQ ns (.frz (.lst (L.map D.int))) (.frz (.lst (RS.map D.lst))) (.dat (.tup K)) (.own (.lst (names9.map D.str)) false false) (.frz (.lst VL)) .un (.dat (.str kept)) (.own (.lst ((dueG K VL RS).map D.lst)) false false) (.own (.lst (seenD acc)) false false) (.own (.lst ((accF K RS).map fun g => D.lst g.2.2)) false false) .un .un .un .un .un .un .un) = some (.nx, (GQ ns (.frz (.lst (L.map D.int))) (.frz (.lst (RS.map D.lst))) (.dat (.tup K)) (.own (.lst (names9.map D.str)) false false) (.frz (.lst VL)) .un (.dat (.str kept)) (.own (.lst ((dueG K VL RS).map D.lst)) false false) (.own (.lst (seenD acc)) false false) (.own (.lst ((accF K RS).map fun g => D.lst g.2.2)) false false) .un (.own (.lst ((dueG K VL RS).map D.lst)) false false) .un .un .un .un .un)) := set_own (er_callL (g1 := (GQ ns (.frz (.lst (L.map D.int))) (.frz (.lst (RS.map D.lst))) (.dat (.tup K)) (.own (.lst (names9.map D.str)) false false) (.frz (.lst VL)) .un (.dat (.str kept)) (.own (.lst ((dueG K VL RS).map D.lst)) false false) (.own (.lst (seenD acc)) false false) (.own (.lst ((accF K RS).map fun g => D.lst g.2.2)) false false) .un .un .un .un .un .un .un)) (ds := [.tup K, .tup VL, .lst (RS.map D.lst)]) (er_cons rfl (er_cons (er_tupL (er_cons (er_varF rfl) er_nil) rfl) (er_cons (er_varF rfl) er_nil))) gA) (Nat.le_of_ble_eq_true rfl) rfl rfl rfl
  obtain ⟨y, hy⟩ : ∃ y, zCall d_group_rows (zCons (z_list (zCons (zVar 3) (zNil))) (zCons (zVar 5) (zCons (zVar 2) (zNil)))) (GQ ns (.frz (.lst (L.map D.int))) (.frz (.lst (RS.map D.lst))) (.dat (.tup K)) (.own (.lst (names9.map D.str)) false false) (.frz (.lst VL)) .un (.dat (.str kept)) (.own (.lst ((dueG K VL RS).map D.lst)) false false) (.own (.lst (seenD acc)) false false) (.own (.lst ((accF K RS).map fun g => D.lst g.2.2)) false false) .un (.own (.lst ((dueG K VL RS).map D.lst)) false false) .un .un .un .un .un) = some (.bor 19, (GQ ns (.frz (.lst (L.map D.int))) (.frz (.lst (RS.map D.lst))) (.dat (.tup K)) (.own (.lst (names9.map D.str)) false false) (.frz (.lst VL)) .un (.dat (.str kept)) (.own (.lst ((dueG K VL RS).map D.lst)) false false) (.own (.lst (seenD acc)) false false) (.own (.lst ((accF K RS).map fun g => D.lst g.2.2)) false false) .un (.own (.lst ((dueG K VL RS).map D.lst)) false false) .un .un .un .un .un) ++ [y, .own (.lst ((dueG K VL RS).map D.lst)) false false]) := by
    have zl : z_list (zCons (zVar 3) (zNil)) (GQ ns (.frz (.lst (L.map D.int))) (.frz (.lst (RS.map D.lst))) (.dat (.tup K)) (.own (.lst (names9.map D.str)) false false) (.frz (.lst VL)) .un (.dat (.str kept)) (.own (.lst ((dueG K VL RS).map D.lst)) false false) (.own (.lst (seenD acc)) false false) (.own (.lst ((accF K RS).map fun g => D.lst g.2.2)) false false) .un (.own (.lst ((dueG K VL RS).map D.lst)) false false) .un .un .un .un .un) = some (.bor 18, (GQ ns (.frz (.lst (L.map D.int))) (.frz (.lst (RS.map D.lst))) (.dat (.tup K)) (.own (.lst (names9.map D.str)) false false) (.frz (.lst VL)) .un (.dat (.str kept)) (.own (.lst ((dueG K VL RS).map D.lst)) false false) (.own (.lst (seenD acc)) false false) (.own (.lst ((accF K RS).map fun g => D.lst g.2.2)) false false) .un (.own (.lst ((dueG K VL RS).map D.lst)) false false) .un .un .un .un .un) ++ [.own (.lst K) false false]) := er_list (d := .tup K) (er_cons (er_varD rfl) er_nil) rfl rfl
    have mr := er_cons (mr := zCons (zVar 5) (zCons (zVar 2) zNil)) zl (er_cons (er_varF (d := .lst VL) rfl) (er_cons (er_varF (d := .lst (RS.map D.lst)) rfl) er_nil))
    cases hsc : (Cn.lst ((dueG K VL RS).map D.lst)).scal with
    | true => exact ⟨.own (.lst K) false false, er_callNs mr rfl gB hsc⟩
    | false =>
      have h := er_callHF (g2 := (GQ ns (.frz (.lst (L.map D.int))) (.frz (.lst (RS.map D.lst))) (.dat (.tup K)) (.own (.lst (names9.map D.str)) false false) (.frz (.lst VL)) .un (.dat (.str kept)) (.own (.lst ((dueG K VL RS).map D.lst)) false false) (.own (.lst (seenD acc)) false false) (.own (.lst ((accF K RS).map fun g => D.lst g.2.2)) false false) .un (.own (.lst ((dueG K VL RS).map D.lst)) false false) .un .un .un .un .un) ++ [.frz (.lst K)]) mr rfl rfl gB hsc
      exact ⟨.frz (.lst K), h⟩
  have c1 : zCall d__law_same_list (zCons (zVar 12) (zCons (zVar 8) (zNil))) (GQ ns (.frz (.lst (L.map D.int))) (.frz (.lst (RS.map D.lst))) (.dat (.tup K)) (.own (.lst (names9.map D.str)) false false) (.frz (.lst VL)) .un (.dat (.str kept)) (.own (.lst ((dueG K VL RS).map D.lst)) false false) (.own (.lst (seenD acc)) false false) (.own (.lst ((accF K RS).map fun g => D.lst g.2.2)) false false) .un (.own (.lst ((dueG K VL RS).map D.lst)) false false) .un .un .un .un .un) = some (.dat (.bl true), (GQ ns (.frz (.lst (L.map D.int))) (.frz (.lst (RS.map D.lst))) (.dat (.tup K)) (.own (.lst (names9.map D.str)) false false) (.frz (.lst VL)) .un (.dat (.str kept)) (.own (.lst ((dueG K VL RS).map D.lst)) false false) (.own (.lst (seenD acc)) false false) (.own (.lst ((accF K RS).map fun g => D.lst g.2.2)) false false) .un (.own (.lst ((dueG K VL RS).map D.lst)) false false) .un .un .un .un .un)) := er_callV (er_cons (er_varO rfl) (er_cons (er_varO rfl) er_nil)) rfl hs rfl
  have c2 : zCall d__law_same_list (zCons (zCall d_group_rows (zCons (z_list (zCons (zVar 3) (zNil))) (zCons (zVar 5) (zCons (zVar 2) (zNil))))) (zCons (zVar 8) (zNil))) (GQ ns (.frz (.lst (L.map D.int))) (.frz (.lst (RS.map D.lst))) (.dat (.tup K)) (.own (.lst (names9.map D.str)) false false) (.frz (.lst VL)) .un (.dat (.str kept)) (.own (.lst ((dueG K VL RS).map D.lst)) false false) (.own (.lst (seenD acc)) false false) (.own (.lst ((accF K RS).map fun g => D.lst g.2.2)) false false) .un (.own (.lst ((dueG K VL RS).map D.lst)) false false) .un .un .un .un .un) = some (.dat (.bl true), (GQ ns (.frz (.lst (L.map D.int))) (.frz (.lst (RS.map D.lst))) (.dat (.tup K)) (.own (.lst (names9.map D.str)) false false) (.frz (.lst VL)) .un (.dat (.str kept)) (.own (.lst ((dueG K VL RS).map D.lst)) false false) (.own (.lst (seenD acc)) false false) (.own (.lst ((accF K RS).map fun g => D.lst g.2.2)) false false) .un (.own (.lst ((dueG K VL RS).map D.lst)) false false) .un .un .un .un .un) ++ [y, .own (.lst ((dueG K VL RS).map D.lst)) false false]) := er_callV (er_cons hy (er_cons (er_varO rfl) er_nil)) rfl hs rfl
  have ek : eqD (.str kept) (.str kept) = some (.bl true) := by rw [dr_eqS, beq_self_eq_true]
  have c3 : zOp eqD (zCallS reprD (zCons (zTup (zCons (zVar 2) (zCons (zVar 3) (zCons (zVar 5) (zNil))))) (zNil))) (zVar 7) ((GQ ns (.frz (.lst (L.map D.int))) (.frz (.lst (RS.map D.lst))) (.dat (.tup K)) (.own (.lst (names9.map D.str)) false false) (.frz (.lst VL)) .un (.dat (.str kept)) (.own (.lst ((dueG K VL RS).map D.lst)) false false) (.own (.lst (seenD acc)) false false) (.own (.lst ((accF K RS).map fun g => D.lst g.2.2)) false false) .un (.own (.lst ((dueG K VL RS).map D.lst)) false false) .un .un .un .un .un) ++ [y, .own (.lst ((dueG K VL RS).map D.lst)) false false]) = some (.dat (.bl true), (GQ ns (.frz (.lst (L.map D.int))) (.frz (.lst (RS.map D.lst))) (.dat (.tup K)) (.own (.lst (names9.map D.str)) false false) (.frz (.lst VL)) .un (.dat (.str kept)) (.own (.lst ((dueG K VL RS).map D.lst)) false false) (.own (.lst (seenD acc)) false false) (.own (.lst ((accF K RS).map fun g => D.lst g.2.2)) false false) .un (.own (.lst ((dueG K VL RS).map D.lst)) false false) .un .un .un .un .un) ++ [y, .own (.lst ((dueG K VL RS).map D.lst)) false false]) :=
    er_op (er_callS (ds := [.tup [.lst (RS.map D.lst), .tup K, .lst VL]]) (er_cons (er_tup (er_cons (er_varF rfl) (er_cons rfl (er_cons (er_varF rfl) er_nil))) rfl (Nat.le_of_ble_eq_true rfl)) er_nil) rfl hrep rfl) rfl rfl rfl ek rfl
  unfold d_law b_law
  refine runP_ap (g := (GQ ns .un .un .un .un .un .un .un .un .un .un .un .un .un .un .un .un .un)) rfl rfl ?_
  refine seq_nx z1 (seq_nx z2 (seq_nx z3 (seq_nx z4 (seq_nx z5 (seq_nx z6 (seq_nx z7 (seq_nx z8 (seq_nx z9 (seq_nx z10 (seq_nx z11 (seq_nx z12 (seq_nx z13 (seq_nx z14 ?_)))))))))))))
  exact sr_ret (er_andVT c1 rfl (er_andVT c2 rfl c3)) rfl
end Qk38
set_option Elab.async false
set_option linter.all false
set_option maxRecDepth 100000
set_option maxHeartbeats 4000000
namespace Qk38
open PySem PySem.Spec PyProof.Rows L2 Z
theorem all_mk {P : Program} {w : World} {K : PySem.W.Frag} {h : Heap} {mg : Str → Option Value} {fa : Addr} (X : K.In h) (G : h.Ns mainGlobals mg) (hfa : mg "law" = some (.ref fa))
    {od0 an0 : Option Addr} {sl0 : Array (Option Value)} {oc0 kV0 dc0 pm0 cd0 ct0 : Value} {f0 : Addr}
    (a0 : PySem.W.nsIn K mainGlobals "_law_numbers" = some (some (.ref f0))) (l0 : K.lookup f0 = some ⟨oc0, od0, .func (PySem.W.fnOf "_law_numbers" "_law_numbers" (defArgs st__law_numbers) (defBody st__law_numbers) (defScope st__law_numbers) .none kV0 dc0 pm0 an0 cd0 ct0), sl0⟩) (e0 : PySem.W.codeIn K cd0 "_law_numbers" = true) (k0 : PySem.W.keepIn K (.ref f0) = true)
    {od1 an1 : Option Addr} {sl1 : Array (Option Value)} {oc1 kV1 dc1 pm1 cd1 ct1 : Value} {f1 : Addr}
    (a1 : PySem.W.nsIn K mainGlobals "_law_cells" = some (some (.ref f1))) (l1 : K.lookup f1 = some ⟨oc1, od1, .func (PySem.W.fnOf "_law_cells" "_law_cells" (defArgs st__law_cells) (defBody st__law_cells) (defScope st__law_cells) .none kV1 dc1 pm1 an1 cd1 ct1), sl1⟩) (e1 : PySem.W.codeIn K cd1 "_law_cells" = true) (k1 : PySem.W.keepIn K (.ref f1) = true)
    {od2 an2 : Option Addr} {sl2 : Array (Option Value)} {oc2 kV2 dc2 pm2 cd2 ct2 : Value} {f2 : Addr}
    (a2 : PySem.W.nsIn K mainGlobals "_law_rowlist" = some (some (.ref f2))) (l2 : K.lookup f2 = some ⟨oc2, od2, .func (PySem.W.fnOf "_law_rowlist" "_law_rowlist" (defArgs st__law_rowlist) (defBody st__law_rowlist) (defScope st__law_rowlist) .none kV2 dc2 pm2 an2 cd2 ct2), sl2⟩) (e2 : PySem.W.codeIn K cd2 "_law_rowlist" = true) (k2 : PySem.W.keepIn K (.ref f2) = true)
    {od3 an3 : Option Addr} {sl3 : Array (Option Value)} {oc3 kV3 dc3 pm3 cd3 ct3 : Value} {f3 : Addr}
    (a3 : PySem.W.nsIn K mainGlobals "ternary" = some (some (.ref f3))) (l3 : K.lookup f3 = some ⟨oc3, od3, .func (PySem.W.fnOf "ternary" "ternary" (defArgs st_ternary) (defBody st_ternary) (defScope st_ternary) .none kV3 dc3 pm3 an3 cd3 ct3), sl3⟩) (e3 : PySem.W.codeIn K cd3 "ternary" = true) (k3 : PySem.W.keepIn K (.ref f3) = true)
    {od4 an4 : Option Addr} {sl4 : Array (Option Value)} {oc4 kV4 dc4 pm4 cd4 ct4 : Value} {f4 : Addr}
    (a4 : PySem.W.nsIn K mainGlobals "negated" = some (some (.ref f4))) (l4 : K.lookup f4 = some ⟨oc4, od4, .func (PySem.W.fnOf "negated" "negated" (defArgs st_negated) (defBody st_negated) (defScope st_negated) .none kV4 dc4 pm4 an4 cd4 ct4), sl4⟩) (e4 : PySem.W.codeIn K cd4 "negated" = true) (k4 : PySem.W.keepIn K (.ref f4) = true)
    {od5 an5 : Option Addr} {sl5 : Array (Option Value)} {oc5 kV5 dc5 pm5 cd5 ct5 : Value} {f5 : Addr}
    (a5 : PySem.W.nsIn K mainGlobals "is_integer" = some (some (.ref f5))) (l5 : K.lookup f5 = some ⟨oc5, od5, .func (PySem.W.fnOf "is_integer" "is_integer" (defArgs st_is_integer) (defBody st_is_integer) (defScope st_is_integer) .none kV5 dc5 pm5 an5 cd5 ct5), sl5⟩) (e5 : PySem.W.codeIn K cd5 "is_integer" = true) (k5 : PySem.W.keepIn K (.ref f5) = true)
    {od6 an6 : Option Addr} {sl6 : Array (Option Value)} {oc6 kV6 dc6 pm6 cd6 ct6 : Value} {f6 : Addr}
    (a6 : PySem.W.nsIn K mainGlobals "negate" = some (some (.ref f6))) (l6 : K.lookup f6 = some ⟨oc6, od6, .func (PySem.W.fnOf "negate" "negate" (defArgs st_negate) (defBody st_negate) (defScope st_negate) .none kV6 dc6 pm6 an6 cd6 ct6), sl6⟩) (e6 : PySem.W.codeIn K cd6 "negate" = true) (k6 : PySem.W.keepIn K (.ref f6) = true)
    {od7 an7 : Option Addr} {sl7 : Array (Option Value)} {oc7 kV7 dc7 pm7 cd7 ct7 : Value} {f7 : Addr}
    (a7 : PySem.W.nsIn K mainGlobals "is_null" = some (some (.ref f7))) (l7 : K.lookup f7 = some ⟨oc7, od7, .func (PySem.W.fnOf "is_null" "is_null" (defArgs st_is_null) (defBody st_is_null) (defScope st_is_null) .none kV7 dc7 pm7 an7 cd7 ct7), sl7⟩) (e7 : PySem.W.codeIn K cd7 "is_null" = true) (k7 : PySem.W.keepIn K (.ref f7) = true)
    {od8 an8 : Option Addr} {sl8 : Array (Option Value)} {oc8 kV8 dc8 pm8 cd8 ct8 : Value} {f8 : Addr}
    (a8 : PySem.W.nsIn K mainGlobals "length" = some (some (.ref f8))) (l8 : K.lookup f8 = some ⟨oc8, od8, .func (PySem.W.fnOf "length" "length" (defArgs st_length) (defBody st_length) (defScope st_length) .none kV8 dc8 pm8 an8 cd8 ct8), sl8⟩) (e8 : PySem.W.codeIn K cd8 "length" = true) (k8 : PySem.W.keepIn K (.ref f8) = true)
    {od9 an9 : Option Addr} {sl9 : Array (Option Value)} {oc9 kV9 dc9 pm9 cd9 ct9 : Value} {f9 : Addr}
    (a9 : PySem.W.nsIn K mainGlobals "unary" = some (some (.ref f9))) (l9 : K.lookup f9 = some ⟨oc9, od9, .func (PySem.W.fnOf "unary" "unary" (defArgs st_unary) (defBody st_unary) (defScope st_unary) .none kV9 dc9 pm9 an9 cd9 ct9), sl9⟩) (e9 : PySem.W.codeIn K cd9 "unary" = true) (k9 : PySem.W.keepIn K (.ref f9) = true)
    {od10 an10 : Option Addr} {sl10 : Array (Option Value)} {oc10 kV10 dc10 pm10 cd10 ct10 : Value} {f10 : Addr}
    (a10 : PySem.W.nsIn K mainGlobals "kind_rank" = some (some (.ref f10))) (l10 : K.lookup f10 = some ⟨oc10, od10, .func (PySem.W.fnOf "kind_rank" "kind_rank" (defArgs st_kind_rank) (defBody st_kind_rank) (defScope st_kind_rank) .none kV10 dc10 pm10 an10 cd10 ct10), sl10⟩) (e10 : PySem.W.codeIn K cd10 "kind_rank" = true) (k10 : PySem.W.keepIn K (.ref f10) = true)
    {od11 an11 : Option Addr} {sl11 : Array (Option Value)} {oc11 kV11 dc11 pm11 cd11 ct11 : Value} {f11 : Addr}
    (a11 : PySem.W.nsIn K mainGlobals "comparable" = some (some (.ref f11))) (l11 : K.lookup f11 = some ⟨oc11, od11, .func (PySem.W.fnOf "comparable" "comparable" (defArgs st_comparable) (defBody st_comparable) (defScope st_comparable) .none kV11 dc11 pm11 an11 cd11 ct11), sl11⟩) (e11 : PySem.W.codeIn K cd11 "comparable" = true) (k11 : PySem.W.keepIn K (.ref f11) = true)
    {od12 an12 : Option Addr} {sl12 : Array (Option Value)} {oc12 kV12 dc12 pm12 cd12 ct12 : Value} {f12 : Addr}
    (a12 : PySem.W.nsIn K mainGlobals "rank" = some (some (.ref f12))) (l12 : K.lookup f12 = some ⟨oc12, od12, .func (PySem.W.fnOf "rank" "rank" (defArgs st_rank) (defBody st_rank) (defScope st_rank) .none kV12 dc12 pm12 an12 cd12 ct12), sl12⟩) (e12 : PySem.W.codeIn K cd12 "rank" = true) (k12 : PySem.W.keepIn K (.ref f12) = true)
    {od13 an13 : Option Addr} {sl13 : Array (Option Value)} {oc13 kV13 dc13 pm13 cd13 ct13 : Value} {f13 : Addr}
    (a13 : PySem.W.nsIn K mainGlobals "same" = some (some (.ref f13))) (l13 : K.lookup f13 = some ⟨oc13, od13, .func (PySem.W.fnOf "same" "same" (defArgs st_same) (defBody st_same) (defScope st_same) .none kV13 dc13 pm13 an13 cd13 ct13), sl13⟩) (e13 : PySem.W.codeIn K cd13 "same" = true) (k13 : PySem.W.keepIn K (.ref f13) = true)
    {od14 an14 : Option Addr} {sl14 : Array (Option Value)} {oc14 kV14 dc14 pm14 cd14 ct14 : Value} {f14 : Addr}
    (a14 : PySem.W.nsIn K mainGlobals "equal" = some (some (.ref f14))) (l14 : K.lookup f14 = some ⟨oc14, od14, .func (PySem.W.fnOf "equal" "equal" (defArgs st_equal) (defBody st_equal) (defScope st_equal) .none kV14 dc14 pm14 an14 cd14 ct14), sl14⟩) (e14 : PySem.W.codeIn K cd14 "equal" = true) (k14 : PySem.W.keepIn K (.ref f14) = true)
    {od15 an15 : Option Addr} {sl15 : Array (Option Value)} {oc15 kV15 dc15 pm15 cd15 ct15 : Value} {f15 : Addr}
    (a15 : PySem.W.nsIn K mainGlobals "before" = some (some (.ref f15))) (l15 : K.lookup f15 = some ⟨oc15, od15, .func (PySem.W.fnOf "before" "before" (defArgs st_before) (defBody st_before) (defScope st_before) .none kV15 dc15 pm15 an15 cd15 ct15), sl15⟩) (e15 : PySem.W.codeIn K cd15 "before" = true) (k15 : PySem.W.keepIn K (.ref f15) = true)
    {od16 an16 : Option Addr} {sl16 : Array (Option Value)} {oc16 kV16 dc16 pm16 cd16 ct16 : Value} {f16 : Addr}
    (a16 : PySem.W.nsIn K mainGlobals "less" = some (some (.ref f16))) (l16 : K.lookup f16 = some ⟨oc16, od16, .func (PySem.W.fnOf "less" "less" (defArgs st_less) (defBody st_less) (defScope st_less) .none kV16 dc16 pm16 an16 cd16 ct16), sl16⟩) (e16 : PySem.W.codeIn K cd16 "less" = true) (k16 : PySem.W.keepIn K (.ref f16) = true)
    {od17 an17 : Option Addr} {sl17 : Array (Option Value)} {oc17 kV17 dc17 pm17 cd17 ct17 : Value} {f17 : Addr}
    (a17 : PySem.W.nsIn K mainGlobals "at_most" = some (some (.ref f17))) (l17 : K.lookup f17 = some ⟨oc17, od17, .func (PySem.W.fnOf "at_most" "at_most" (defArgs st_at_most) (defBody st_at_most) (defScope st_at_most) .none kV17 dc17 pm17 an17 cd17 ct17), sl17⟩) (e17 : PySem.W.codeIn K cd17 "at_most" = true) (k17 : PySem.W.keepIn K (.ref f17) = true)
    {od18 an18 : Option Addr} {sl18 : Array (Option Value)} {oc18 kV18 dc18 pm18 cd18 ct18 : Value} {f18 : Addr}
    (a18 : PySem.W.nsIn K mainGlobals "least" = some (some (.ref f18))) (l18 : K.lookup f18 = some ⟨oc18, od18, .func (PySem.W.fnOf "least" "least" (defArgs st_least) (defBody st_least) (defScope st_least) .none kV18 dc18 pm18 an18 cd18 ct18), sl18⟩) (e18 : PySem.W.codeIn K cd18 "least" = true) (k18 : PySem.W.keepIn K (.ref f18) = true)
    {od19 an19 : Option Addr} {sl19 : Array (Option Value)} {oc19 kV19 dc19 pm19 cd19 ct19 : Value} {f19 : Addr}
    (a19 : PySem.W.nsIn K mainGlobals "are_integers" = some (some (.ref f19))) (l19 : K.lookup f19 = some ⟨oc19, od19, .func (PySem.W.fnOf "are_integers" "are_integers" (defArgs st_are_integers) (defBody st_are_integers) (defScope st_are_integers) .none kV19 dc19 pm19 an19 cd19 ct19), sl19⟩) (e19 : PySem.W.codeIn K cd19 "are_integers" = true) (k19 : PySem.W.keepIn K (.ref f19) = true)
    {od20 an20 : Option Addr} {sl20 : Array (Option Value)} {oc20 kV20 dc20 pm20 cd20 ct20 : Value} {f20 : Addr}
    (a20 : PySem.W.nsIn K mainGlobals "limited" = some (some (.ref f20))) (l20 : K.lookup f20 = some ⟨oc20, od20, .func (PySem.W.fnOf "limited" "limited" (defArgs st_limited) (defBody st_limited) (defScope st_limited) .none kV20 dc20 pm20 an20 cd20 ct20), sl20⟩) (e20 : PySem.W.codeIn K cd20 "limited" = true) (k20 : PySem.W.keepIn K (.ref f20) = true)
    {od21 an21 : Option Addr} {sl21 : Array (Option Value)} {oc21 kV21 dc21 pm21 cd21 ct21 : Value} {f21 : Addr}
    (a21 : PySem.W.nsIn K mainGlobals "added" = some (some (.ref f21))) (l21 : K.lookup f21 = some ⟨oc21, od21, .func (PySem.W.fnOf "added" "added" (defArgs st_added) (defBody st_added) (defScope st_added) .none kV21 dc21 pm21 an21 cd21 ct21), sl21⟩) (e21 : PySem.W.codeIn K cd21 "added" = true) (k21 : PySem.W.keepIn K (.ref f21) = true)
    {od22 an22 : Option Addr} {sl22 : Array (Option Value)} {oc22 kV22 dc22 pm22 cd22 ct22 : Value} {f22 : Addr}
    (a22 : PySem.W.nsIn K mainGlobals "are_texts" = some (some (.ref f22))) (l22 : K.lookup f22 = some ⟨oc22, od22, .func (PySem.W.fnOf "are_texts" "are_texts" (defArgs st_are_texts) (defBody st_are_texts) (defScope st_are_texts) .none kV22 dc22 pm22 an22 cd22 ct22), sl22⟩) (e22 : PySem.W.codeIn K cd22 "are_texts" = true) (k22 : PySem.W.keepIn K (.ref f22) = true)
    {od23 an23 : Option Addr} {sl23 : Array (Option Value)} {oc23 kV23 dc23 pm23 cd23 ct23 : Value} {f23 : Addr}
    (a23 : PySem.W.nsIn K mainGlobals "joined" = some (some (.ref f23))) (l23 : K.lookup f23 = some ⟨oc23, od23, .func (PySem.W.fnOf "joined" "joined" (defArgs st_joined) (defBody st_joined) (defScope st_joined) .none kV23 dc23 pm23 an23 cd23 ct23), sl23⟩) (e23 : PySem.W.codeIn K cd23 "joined" = true) (k23 : PySem.W.keepIn K (.ref f23) = true)
    {od24 an24 : Option Addr} {sl24 : Array (Option Value)} {oc24 kV24 dc24 pm24 cd24 ct24 : Value} {f24 : Addr}
    (a24 : PySem.W.nsIn K mainGlobals "coalesce" = some (some (.ref f24))) (l24 : K.lookup f24 = some ⟨oc24, od24, .func (PySem.W.fnOf "coalesce" "coalesce" (defArgs st_coalesce) (defBody st_coalesce) (defScope st_coalesce) .none kV24 dc24 pm24 an24 cd24 ct24), sl24⟩) (e24 : PySem.W.codeIn K cd24 "coalesce" = true) (k24 : PySem.W.keepIn K (.ref f24) = true)
    {od25 an25 : Option Addr} {sl25 : Array (Option Value)} {oc25 kV25 dc25 pm25 cd25 ct25 : Value} {f25 : Addr}
    (a25 : PySem.W.nsIn K mainGlobals "binary" = some (some (.ref f25))) (l25 : K.lookup f25 = some ⟨oc25, od25, .func (PySem.W.fnOf "binary" "binary" (defArgs st_binary) (defBody st_binary) (defScope st_binary) .none kV25 dc25 pm25 an25 cd25 ct25), sl25⟩) (e25 : PySem.W.codeIn K cd25 "binary" = true) (k25 : PySem.W.keepIn K (.ref f25) = true)
    {od26 an26 : Option Addr} {sl26 : Array (Option Value)} {oc26 kV26 dc26 pm26 cd26 ct26 : Value} {f26 : Addr}
    (a26 : PySem.W.nsIn K mainGlobals "evaluate" = some (some (.ref f26))) (l26 : K.lookup f26 = some ⟨oc26, od26, .func (PySem.W.fnOf "evaluate" "evaluate" (defArgs st_evaluate) (defBody st_evaluate) (defScope st_evaluate) .none kV26 dc26 pm26 an26 cd26 ct26), sl26⟩) (e26 : PySem.W.codeIn K cd26 "evaluate" = true) (k26 : PySem.W.keepIn K (.ref f26) = true)
    {od27 an27 : Option Addr} {sl27 : Array (Option Value)} {oc27 kV27 dc27 pm27 cd27 ct27 : Value} {f27 : Addr}
    (a27 : PySem.W.nsIn K mainGlobals "evaluate_all" = some (some (.ref f27))) (l27 : K.lookup f27 = some ⟨oc27, od27, .func (PySem.W.fnOf "evaluate_all" "evaluate_all" (defArgs st_evaluate_all) (defBody st_evaluate_all) (defScope st_evaluate_all) .none kV27 dc27 pm27 an27 cd27 ct27), sl27⟩) (e27 : PySem.W.codeIn K cd27 "evaluate_all" = true) (k27 : PySem.W.keepIn K (.ref f27) = true)
    {od28 an28 : Option Addr} {sl28 : Array (Option Value)} {oc28 kV28 dc28 pm28 cd28 ct28 : Value} {f28 : Addr}
    (a28 : PySem.W.nsIn K mainGlobals "row_rank" = some (some (.ref f28))) (l28 : K.lookup f28 = some ⟨oc28, od28, .func (PySem.W.fnOf "row_rank" "row_rank" (defArgs st_row_rank) (defBody st_row_rank) (defScope st_row_rank) .none kV28 dc28 pm28 an28 cd28 ct28), sl28⟩) (e28 : PySem.W.codeIn K cd28 "row_rank" = true) (k28 : PySem.W.keepIn K (.ref f28) = true)
    {od29 an29 : Option Addr} {sl29 : Array (Option Value)} {oc29 kV29 dc29 pm29 cd29 ct29 : Value} {f29 : Addr}
    (a29 : PySem.W.nsIn K mainGlobals "grouped" = some (some (.ref f29))) (l29 : K.lookup f29 = some ⟨oc29, od29, .func (PySem.W.fnOf "grouped" "grouped" (defArgs st_grouped) (defBody st_grouped) (defScope st_grouped) .none kV29 dc29 pm29 an29 cd29 ct29), sl29⟩) (e29 : PySem.W.codeIn K cd29 "grouped" = true) (k29 : PySem.W.keepIn K (.ref f29) = true)
    {od30 an30 : Option Addr} {sl30 : Array (Option Value)} {oc30 kV30 dc30 pm30 cd30 ct30 : Value} {f30 : Addr}
    (a30 : PySem.W.nsIn K mainGlobals "summed" = some (some (.ref f30))) (l30 : K.lookup f30 = some ⟨oc30, od30, .func (PySem.W.fnOf "summed" "summed" (defArgs st_summed) (defBody st_summed) (defScope st_summed) .none kV30 dc30 pm30 an30 cd30 ct30), sl30⟩) (e30 : PySem.W.codeIn K cd30 "summed" = true) (k30 : PySem.W.keepIn K (.ref f30) = true)
    {od31 an31 : Option Addr} {sl31 : Array (Option Value)} {oc31 kV31 dc31 pm31 cd31 ct31 : Value} {f31 : Addr}
    (a31 : PySem.W.nsIn K mainGlobals "rounded" = some (some (.ref f31))) (l31 : K.lookup f31 = some ⟨oc31, od31, .func (PySem.W.fnOf "rounded" "rounded" (defArgs st_rounded) (defBody st_rounded) (defScope st_rounded) .none kV31 dc31 pm31 an31 cd31 ct31), sl31⟩) (e31 : PySem.W.codeIn K cd31 "rounded" = true) (k31 : PySem.W.keepIn K (.ref f31) = true)
    {od32 an32 : Option Addr} {sl32 : Array (Option Value)} {oc32 kV32 dc32 pm32 cd32 ct32 : Value} {f32 : Addr}
    (a32 : PySem.W.nsIn K mainGlobals "average" = some (some (.ref f32))) (l32 : K.lookup f32 = some ⟨oc32, od32, .func (PySem.W.fnOf "average" "average" (defArgs st_average) (defBody st_average) (defScope st_average) .none kV32 dc32 pm32 an32 cd32 ct32), sl32⟩) (e32 : PySem.W.codeIn K cd32 "average" = true) (k32 : PySem.W.keepIn K (.ref f32) = true)
    {od33 an33 : Option Addr} {sl33 : Array (Option Value)} {oc33 kV33 dc33 pm33 cd33 ct33 : Value} {f33 : Addr}
    (a33 : PySem.W.nsIn K mainGlobals "listed" = some (some (.ref f33))) (l33 : K.lookup f33 = some ⟨oc33, od33, .func (PySem.W.fnOf "listed" "listed" (defArgs st_listed) (defBody st_listed) (defScope st_listed) .none kV33 dc33 pm33 an33 cd33 ct33), sl33⟩) (e33 : PySem.W.codeIn K cd33 "listed" = true) (k33 : PySem.W.keepIn K (.ref f33) = true)
    {od34 an34 : Option Addr} {sl34 : Array (Option Value)} {oc34 kV34 dc34 pm34 cd34 ct34 : Value} {f34 : Addr}
    (a34 : PySem.W.nsIn K mainGlobals "truths" = some (some (.ref f34))) (l34 : K.lookup f34 = some ⟨oc34, od34, .func (PySem.W.fnOf "truths" "truths" (defArgs st_truths) (defBody st_truths) (defScope st_truths) .none kV34 dc34 pm34 an34 cd34 ct34), sl34⟩) (e34 : PySem.W.codeIn K cd34 "truths" = true) (k34 : PySem.W.keepIn K (.ref f34) = true)
    {od35 an35 : Option Addr} {sl35 : Array (Option Value)} {oc35 kV35 dc35 pm35 cd35 ct35 : Value} {f35 : Addr}
    (a35 : PySem.W.nsIn K mainGlobals "over_values" = some (some (.ref f35))) (l35 : K.lookup f35 = some ⟨oc35, od35, .func (PySem.W.fnOf "over_values" "over_values" (defArgs st_over_values) (defBody st_over_values) (defScope st_over_values) .none kV35 dc35 pm35 an35 cd35 ct35), sl35⟩) (e35 : PySem.W.codeIn K cd35 "over_values" = true) (k35 : PySem.W.keepIn K (.ref f35) = true)
    {od36 an36 : Option Addr} {sl36 : Array (Option Value)} {oc36 kV36 dc36 pm36 cd36 ct36 : Value} {f36 : Addr}
    (a36 : PySem.W.nsIn K mainGlobals "present_values" = some (some (.ref f36))) (l36 : K.lookup f36 = some ⟨oc36, od36, .func (PySem.W.fnOf "present_values" "present_values" (defArgs st_present_values) (defBody st_present_values) (defScope st_present_values) .none kV36 dc36 pm36 an36 cd36 ct36), sl36⟩) (e36 : PySem.W.codeIn K cd36 "present_values" = true) (k36 : PySem.W.keepIn K (.ref f36) = true)
    {od37 an37 : Option Addr} {sl37 : Array (Option Value)} {oc37 kV37 dc37 pm37 cd37 ct37 : Value} {f37 : Addr}
    (a37 : PySem.W.nsIn K mainGlobals "aggregate" = some (some (.ref f37))) (l37 : K.lookup f37 = some ⟨oc37, od37, .func (PySem.W.fnOf "aggregate" "aggregate" (defArgs st_aggregate) (defBody st_aggregate) (defScope st_aggregate) .none kV37 dc37 pm37 an37 cd37 ct37), sl37⟩) (e37 : PySem.W.codeIn K cd37 "aggregate" = true) (k37 : PySem.W.keepIn K (.ref f37) = true)
    {od38 an38 : Option Addr} {sl38 : Array (Option Value)} {oc38 kV38 dc38 pm38 cd38 ct38 : Value} {f38 : Addr}
    (a38 : PySem.W.nsIn K mainGlobals "group_rows" = some (some (.ref f38))) (l38 : K.lookup f38 = some ⟨oc38, od38, .func (PySem.W.fnOf "group_rows" "group_rows" (defArgs st_group_rows) (defBody st_group_rows) (defScope st_group_rows) .none kV38 dc38 pm38 an38 cd38 ct38), sl38⟩) (e38 : PySem.W.codeIn K cd38 "group_rows" = true) (k38 : PySem.W.keepIn K (.ref f38) = true)
    {od39 an39 : Option Addr} {sl39 : Array (Option Value)} {oc39 kV39 dc39 pm39 cd39 ct39 : Value} {f39 : Addr}
    (a39 : PySem.W.nsIn K mainGlobals "_law_rank" = some (some (.ref f39))) (l39 : K.lookup f39 = some ⟨oc39, od39, .func (PySem.W.fnOf "_law_rank" "_law_rank" (defArgs st__law_rank) (defBody st__law_rank) (defScope st__law_rank) .none kV39 dc39 pm39 an39 cd39 ct39), sl39⟩) (e39 : PySem.W.codeIn K cd39 "_law_rank" = true) (k39 : PySem.W.keepIn K (.ref f39) = true)
    {od40 an40 : Option Addr} {sl40 : Array (Option Value)} {oc40 kV40 dc40 pm40 cd40 ct40 : Value} {f40 : Addr}
    (a40 : PySem.W.nsIn K mainGlobals "_law_ranks" = some (some (.ref f40))) (l40 : K.lookup f40 = some ⟨oc40, od40, .func (PySem.W.fnOf "_law_ranks" "_law_ranks" (defArgs st__law_ranks) (defBody st__law_ranks) (defScope st__law_ranks) .none kV40 dc40 pm40 an40 cd40 ct40), sl40⟩) (e40 : PySem.W.codeIn K cd40 "_law_ranks" = true) (k40 : PySem.W.keepIn K (.ref f40) = true)
    {od41 an41 : Option Addr} {sl41 : Array (Option Value)} {oc41 kV41 dc41 pm41 cd41 ct41 : Value} {f41 : Addr}
    (a41 : PySem.W.nsIn K mainGlobals "_law_same_list" = some (some (.ref f41))) (l41 : K.lookup f41 = some ⟨oc41, od41, .func (PySem.W.fnOf "_law_same_list" "_law_same_list" (defArgs st__law_same_list) (defBody st__law_same_list) (defScope st__law_same_list) .none kV41 dc41 pm41 an41 cd41 ct41), sl41⟩) (e41 : PySem.W.codeIn K cd41 "_law_same_list" = true) (k41 : PySem.W.keepIn K (.ref f41) = true)
    {od42 an42 : Option Addr} {sl42 : Array (Option Value)} {oc42 kV42 dc42 pm42 cd42 ct42 : Value} {f42 : Addr}
    (a42 : PySem.W.nsIn K mainGlobals "_law_simple" = some (some (.ref f42))) (l42 : K.lookup f42 = some ⟨oc42, od42, .func (PySem.W.fnOf "_law_simple" "_law_simple" (defArgs st__law_simple) (defBody st__law_simple) (defScope st__law_simple) .none kV42 dc42 pm42 an42 cd42 ct42), sl42⟩) (e42 : PySem.W.codeIn K cd42 "_law_simple" = true) (k42 : PySem.W.keepIn K (.ref f42) = true)
    {od43 an43 : Option Addr} {sl43 : Array (Option Value)} {oc43 kV43 dc43 pm43 cd43 ct43 : Value} {f43 : Addr}
    (a43 : PySem.W.nsIn K mainGlobals "law" = some (some (.ref f43))) (l43 : K.lookup f43 = some ⟨oc43, od43, .func (PySem.W.fnOf "law" "law" (defArgs st_law) (defBody st_law) (defScope st_law) .none kV43 dc43 pm43 an43 cd43 ct43), sl43⟩) (e43 : PySem.W.codeIn K cd43 "law" = true) (k43 : PySem.W.keepIn K (.ref f43) = true)
    (z_abs : PySem.W.nsIn K mainGlobals "abs" = some none)
    (z_all : PySem.W.nsIn K mainGlobals "all" = some none)
    (z_any : PySem.W.nsIn K mainGlobals "any" = some none)
    (z_bool : PySem.W.nsIn K mainGlobals "bool" = some none)
    (z_int : PySem.W.nsIn K mainGlobals "int" = some none)
    (z_isinstance : PySem.W.nsIn K mainGlobals "isinstance" = some none)
    (z_len : PySem.W.nsIn K mainGlobals "len" = some none)
    (z_list : PySem.W.nsIn K mainGlobals "list" = some none)
    (z_range : PySem.W.nsIn K mainGlobals "range" = some none)
    (z_repr : PySem.W.nsIn K mainGlobals "repr" = some none)
    (z_set : PySem.W.nsIn K mainGlobals "set" = some none)
    (z_sorted : PySem.W.nsIn K mainGlobals "sorted" = some none)
    (z_str : PySem.W.nsIn K mainGlobals "str" = some none)
    (z_sum : PySem.W.nsIn K mainGlobals "sum" = some none)
    (z_tuple : PySem.W.nsIn K mainGlobals "tuple" = some none)
    {cuGREATEST : Value} (cvGREATEST : PySem.W.nsIn K mainGlobals "GREATEST" = some (some cuGREATEST)) (cdGREATEST : absP cuGREATEST = some c_GREATEST)
    {cuONE : Value} (cvONE : PySem.W.nsIn K mainGlobals "ONE" = some (some cuONE)) (cdONE : absP cuONE = some c_ONE)
    {cuMOST : Value} (cvMOST : PySem.W.nsIn K mainGlobals "MOST" = some (some cuMOST)) (cdMOST : absP cuMOST = some c_MOST)
    {taTERNARY_DEEDS : Addr} {teTERNARY_DEEDS : Array DictEntry} {tpTERNARY_DEEDS : Nat} {tsTERNARY_DEEDS : Array (Option Value)} (tvTERNARY_DEEDS : PySem.W.nsIn K mainGlobals "TERNARY_DEEDS" = some (some (.ref taTERNARY_DEEDS))) (tlTERNARY_DEEDS : K.lookup taTERNARY_DEEDS = some ⟨.type "dict", none, .dict teTERNARY_DEEDS tpTERNARY_DEEDS, tsTERNARY_DEEDS⟩) (thTERNARY_DEEDS : (teTERNARY_DEEDS.toList.all fun e => isExactStrKey e.key) = true)
    {taUNARY_DEEDS : Addr} {teUNARY_DEEDS : Array DictEntry} {tpUNARY_DEEDS : Nat} {tsUNARY_DEEDS : Array (Option Value)} (tvUNARY_DEEDS : PySem.W.nsIn K mainGlobals "UNARY_DEEDS" = some (some (.ref taUNARY_DEEDS))) (tlUNARY_DEEDS : K.lookup taUNARY_DEEDS = some ⟨.type "dict", none, .dict teUNARY_DEEDS tpUNARY_DEEDS, tsUNARY_DEEDS⟩) (thUNARY_DEEDS : (teUNARY_DEEDS.toList.all fun e => isExactStrKey e.key) = true)
    (txUNARY_DEEDS_0 : inE teUNARY_DEEDS ⟨([110, 111, 116] : List Nat).toArray⟩ = some (.ref f4))
    (txUNARY_DEEDS_1 : inE teUNARY_DEEDS ⟨([110, 101, 103, 97, 116, 101] : List Nat).toArray⟩ = some (.ref f6))
    (txUNARY_DEEDS_2 : inE teUNARY_DEEDS ⟨([105, 115, 32, 110, 117, 108, 108] : List Nat).toArray⟩ = some (.ref f7))
    (txUNARY_DEEDS_3 : inE teUNARY_DEEDS ⟨([108, 101, 110, 103, 116, 104] : List Nat).toArray⟩ = some (.ref f8))
    {taBINARY_DEEDS : Addr} {teBINARY_DEEDS : Array DictEntry} {tpBINARY_DEEDS : Nat} {tsBINARY_DEEDS : Array (Option Value)} (tvBINARY_DEEDS : PySem.W.nsIn K mainGlobals "BINARY_DEEDS" = some (some (.ref taBINARY_DEEDS))) (tlBINARY_DEEDS : K.lookup taBINARY_DEEDS = some ⟨.type "dict", none, .dict teBINARY_DEEDS tpBINARY_DEEDS, tsBINARY_DEEDS⟩) (thBINARY_DEEDS : (teBINARY_DEEDS.toList.all fun e => isExactStrKey e.key) = true)
    (txBINARY_DEEDS_0 : inE teBINARY_DEEDS ⟨([101, 113, 117, 97, 108] : List Nat).toArray⟩ = some (.ref f14))
    (txBINARY_DEEDS_1 : inE teBINARY_DEEDS ⟨([108, 101, 115, 115] : List Nat).toArray⟩ = some (.ref f16))
    (txBINARY_DEEDS_2 : inE teBINARY_DEEDS ⟨([97, 116, 32, 109, 111, 115, 116] : List Nat).toArray⟩ = some (.ref f17))
    (txBINARY_DEEDS_3 : inE teBINARY_DEEDS ⟨([115, 97, 109, 101] : List Nat).toArray⟩ = some (.ref f13))
    (txBINARY_DEEDS_4 : inE teBINARY_DEEDS ⟨([108, 101, 97, 115, 116] : List Nat).toArray⟩ = some (.ref f18))
    (txBINARY_DEEDS_5 : inE teBINARY_DEEDS ⟨([97, 100, 100] : List Nat).toArray⟩ = some (.ref f21))
    (txBINARY_DEEDS_6 : inE teBINARY_DEEDS ⟨([106, 111, 105, 110] : List Nat).toArray⟩ = some (.ref f23))
    (txBINARY_DEEDS_7 : inE teBINARY_DEEDS ⟨([99, 111, 97, 108, 101, 115, 99, 101] : List Nat).toArray⟩ = some (.ref f24)) :
    ∃ fd : FuncData, (∀ (s : Shared) (v : Value), BindsTo s fd ⟨[v], []⟩ [("_law_script", v)]) ∧ ∀ base : Heap, K.In base → base.Ns mainGlobals mg → base.NoDigits → FnA P w K mg base callerA fa fd ["_law_script"] (spP K d_law) := by
  have D__law_numbers : DefAt K mg "_law_numbers" st__law_numbers := ⟨f0, _, PySem.W.mg_of X G a0, fun_mk (st := st__law_numbers) l0 e0 k0⟩
  have D__law_cells : DefAt K mg "_law_cells" st__law_cells := ⟨f1, _, PySem.W.mg_of X G a1, fun_mk (st := st__law_cells) l1 e1 k1⟩
  have D__law_rowlist : DefAt K mg "_law_rowlist" st__law_rowlist := ⟨f2, _, PySem.W.mg_of X G a2, fun_mk (st := st__law_rowlist) l2 e2 k2⟩
  have D_ternary : DefAt K mg "ternary" st_ternary := ⟨f3, _, PySem.W.mg_of X G a3, fun_mk (st := st_ternary) l3 e3 k3⟩
  have D_negated : DefAt K mg "negated" st_negated := ⟨f4, _, PySem.W.mg_of X G a4, fun_mk (st := st_negated) l4 e4 k4⟩
  have D_is_integer : DefAt K mg "is_integer" st_is_integer := ⟨f5, _, PySem.W.mg_of X G a5, fun_mk (st := st_is_integer) l5 e5 k5⟩
  have D_negate : DefAt K mg "negate" st_negate := ⟨f6, _, PySem.W.mg_of X G a6, fun_mk (st := st_negate) l6 e6 k6⟩
  have D_is_null : DefAt K mg "is_null" st_is_null := ⟨f7, _, PySem.W.mg_of X G a7, fun_mk (st := st_is_null) l7 e7 k7⟩
  have D_length : DefAt K mg "length" st_length := ⟨f8, _, PySem.W.mg_of X G a8, fun_mk (st := st_length) l8 e8 k8⟩
  have D_unary : DefAt K mg "unary" st_unary := ⟨f9, _, PySem.W.mg_of X G a9, fun_mk (st := st_unary) l9 e9 k9⟩
  have D_kind_rank : DefAt K mg "kind_rank" st_kind_rank := ⟨f10, _, PySem.W.mg_of X G a10, fun_mk (st := st_kind_rank) l10 e10 k10⟩
  have D_comparable : DefAt K mg "comparable" st_comparable := ⟨f11, _, PySem.W.mg_of X G a11, fun_mk (st := st_comparable) l11 e11 k11⟩
  have D_rank : DefAt K mg "rank" st_rank := ⟨f12, _, PySem.W.mg_of X G a12, fun_mk (st := st_rank) l12 e12 k12⟩
  have D_same : DefAt K mg "same" st_same := ⟨f13, _, PySem.W.mg_of X G a13, fun_mk (st := st_same) l13 e13 k13⟩
  have D_equal : DefAt K mg "equal" st_equal := ⟨f14, _, PySem.W.mg_of X G a14, fun_mk (st := st_equal) l14 e14 k14⟩
  have D_before : DefAt K mg "before" st_before := ⟨f15, _, PySem.W.mg_of X G a15, fun_mk (st := st_before) l15 e15 k15⟩
  have D_less : DefAt K mg "less" st_less := ⟨f16, _, PySem.W.mg_of X G a16, fun_mk (st := st_less) l16 e16 k16⟩
  have D_at_most : DefAt K mg "at_most" st_at_most := ⟨f17, _, PySem.W.mg_of X G a17, fun_mk (st := st_at_most) l17 e17 k17⟩
  have D_least : DefAt K mg "least" st_least := ⟨f18, _, PySem.W.mg_of X G a18, fun_mk (st := st_least) l18 e18 k18⟩
  have D_are_integers : DefAt K mg "are_integers" st_are_integers := ⟨f19, _, PySem.W.mg_of X G a19, fun_mk (st := st_are_integers) l19 e19 k19⟩
  have D_limited : DefAt K mg "limited" st_limited := ⟨f20, _, PySem.W.mg_of X G a20, fun_mk (st := st_limited) l20 e20 k20⟩
  have D_added : DefAt K mg "added" st_added := ⟨f21, _, PySem.W.mg_of X G a21, fun_mk (st := st_added) l21 e21 k21⟩
  have D_are_texts : DefAt K mg "are_texts" st_are_texts := ⟨f22, _, PySem.W.mg_of X G a22, fun_mk (st := st_are_texts) l22 e22 k22⟩
  have D_joined : DefAt K mg "joined" st_joined := ⟨f23, _, PySem.W.mg_of X G a23, fun_mk (st := st_joined) l23 e23 k23⟩
  have D_coalesce : DefAt K mg "coalesce" st_coalesce := ⟨f24, _, PySem.W.mg_of X G a24, fun_mk (st := st_coalesce) l24 e24 k24⟩
  have D_binary : DefAt K mg "binary" st_binary := ⟨f25, _, PySem.W.mg_of X G a25, fun_mk (st := st_binary) l25 e25 k25⟩
  have D_evaluate : DefAt K mg "evaluate" st_evaluate := ⟨f26, _, PySem.W.mg_of X G a26, fun_mk (st := st_evaluate) l26 e26 k26⟩
  have D_evaluate_all : DefAt K mg "evaluate_all" st_evaluate_all := ⟨f27, _, PySem.W.mg_of X G a27, fun_mk (st := st_evaluate_all) l27 e27 k27⟩
  have D_row_rank : DefAt K mg "row_rank" st_row_rank := ⟨f28, _, PySem.W.mg_of X G a28, fun_mk (st := st_row_rank) l28 e28 k28⟩
  have D_grouped : DefAt K mg "grouped" st_grouped := ⟨f29, _, PySem.W.mg_of X G a29, fun_mk (st := st_grouped) l29 e29 k29⟩
  have D_summed : DefAt K mg "summed" st_summed := ⟨f30, _, PySem.W.mg_of X G a30, fun_mk (st := st_summed) l30 e30 k30⟩
  have D_rounded : DefAt K mg "rounded" st_rounded := ⟨f31, _, PySem.W.mg_of X G a31, fun_mk (st := st_rounded) l31 e31 k31⟩
  have D_average : DefAt K mg "average" st_average := ⟨f32, _, PySem.W.mg_of X G a32, fun_mk (st := st_average) l32 e32 k32⟩
  have D_listed : DefAt K mg "listed" st_listed := ⟨f33, _, PySem.W.mg_of X G a33, fun_mk (st := st_listed) l33 e33 k33⟩
  have D_truths : DefAt K mg "truths" st_truths := ⟨f34, _, PySem.W.mg_of X G a34, fun_mk (st := st_truths) l34 e34 k34⟩
  have D_over_values : DefAt K mg "over_values" st_over_values := ⟨f35, _, PySem.W.mg_of X G a35, fun_mk (st := st_over_values) l35 e35 k35⟩
  have D_present_values : DefAt K mg "present_values" st_present_values := ⟨f36, _, PySem.W.mg_of X G a36, fun_mk (st := st_present_values) l36 e36 k36⟩
  have D_aggregate : DefAt K mg "aggregate" st_aggregate := ⟨f37, _, PySem.W.mg_of X G a37, fun_mk (st := st_aggregate) l37 e37 k37⟩
  have D_group_rows : DefAt K mg "group_rows" st_group_rows := ⟨f38, _, PySem.W.mg_of X G a38, fun_mk (st := st_group_rows) l38 e38 k38⟩
  have D__law_rank : DefAt K mg "_law_rank" st__law_rank := ⟨f39, _, PySem.W.mg_of X G a39, fun_mk (st := st__law_rank) l39 e39 k39⟩
  have D__law_ranks : DefAt K mg "_law_ranks" st__law_ranks := ⟨f40, _, PySem.W.mg_of X G a40, fun_mk (st := st__law_ranks) l40 e40 k40⟩
  have D__law_same_list : DefAt K mg "_law_same_list" st__law_same_list := ⟨f41, _, PySem.W.mg_of X G a41, fun_mk (st := st__law_same_list) l41 e41 k41⟩
  have D__law_simple : DefAt K mg "_law_simple" st__law_simple := ⟨f42, _, PySem.W.mg_of X G a42, fun_mk (st := st__law_simple) l42 e42 k42⟩
  have D_law : DefAt K mg "law" st_law := ⟨f43, _, PySem.W.mg_of X G a43, fun_mk (st := st_law) l43 e43 k43⟩
  have m_abs : mg "abs" = none := PySem.W.mg_none_of X G z_abs
  have m_all : mg "all" = none := PySem.W.mg_none_of X G z_all
  have m_any : mg "any" = none := PySem.W.mg_none_of X G z_any
  have m_bool : mg "bool" = none := PySem.W.mg_none_of X G z_bool
  have m_int : mg "int" = none := PySem.W.mg_none_of X G z_int
  have m_isinstance : mg "isinstance" = none := PySem.W.mg_none_of X G z_isinstance
  have m_len : mg "len" = none := PySem.W.mg_none_of X G z_len
  have m_list : mg "list" = none := PySem.W.mg_none_of X G z_list
  have m_range : mg "range" = none := PySem.W.mg_none_of X G z_range
  have m_repr : mg "repr" = none := PySem.W.mg_none_of X G z_repr
  have m_set : mg "set" = none := PySem.W.mg_none_of X G z_set
  have m_sorted : mg "sorted" = none := PySem.W.mg_none_of X G z_sorted
  have m_str : mg "str" = none := PySem.W.mg_none_of X G z_str
  have m_sum : mg "sum" = none := PySem.W.mg_none_of X G z_sum
  have m_tuple : mg "tuple" = none := PySem.W.mg_none_of X G z_tuple
  have hc_GREATEST := (constP X G cvGREATEST cdGREATEST : ConstD K mg "GREATEST" c_GREATEST)
  have hc_ONE := (constP X G cvONE cdONE : ConstD K mg "ONE" c_ONE)
  have hc_MOST := (constP X G cvMOST cdMOST : ConstD K mg "MOST" c_MOST)
  refine ⟨PySem.W.fnOf "law" "law" (defArgs st_law) (defBody st_law) (defScope st_law) .none kV43 dc43 pm43 an43 cd43 ct43, fun s v => .of_eq rfl, fun base _ _ hnd => ?_⟩
  have c__law_numbers := ok__law_numbers (P := P) (w := w) (base := base) D__law_numbers m_int m_len m_range
  have c__law_cells := ok__law_cells (P := P) (w := w) (base := base) D__law_cells m_int m_range
  have c__law_rowlist := ok__law_rowlist (P := P) (w := w) (base := base) D__law_rowlist m_int m_len m_list m_range c__law_cells
  have t_TERNARY_DEEDS : TabOk P w K mg base 0 "TERNARY_DEEDS" tab_TERNARY_DEEDS := ⟨taTERNARY_DEEDS, teTERNARY_DEEDS, tpTERNARY_DEEDS, tsTERNARY_DEEDS, PySem.W.mg_of X G tvTERNARY_DEEDS, tlTERNARY_DEEDS, tab_all thTERNARY_DEEDS, tab_nil⟩
  have c_ternary := ok_ternary (P := P) (w := w) (base := base) D_ternary t_TERNARY_DEEDS
  have c_negated := ok_negated (P := P) (w := w) (base := base) D_negated
  have c_is_integer := ok_is_integer (P := P) (w := w) (base := base) D_is_integer m_bool m_int m_isinstance
  have c_negate := ok_negate (P := P) (w := w) (base := base) D_negate c_is_integer
  have c_is_null := ok_is_null (P := P) (w := w) (base := base) D_is_null
  have c_length := ok_length (P := P) (w := w) (base := base) D_length m_isinstance m_len m_str
  have t_UNARY_DEEDS : TabOk P w K mg base 2 "UNARY_DEEDS" tab_UNARY_DEEDS := ⟨taUNARY_DEEDS, teUNARY_DEEDS, tpUNARY_DEEDS, tsUNARY_DEEDS, PySem.W.mg_of X G tvUNARY_DEEDS, tlUNARY_DEEDS, tab_all thUNARY_DEEDS, tab_cons c_negated (by decide) (PySem.W.mg_of X G a4) txUNARY_DEEDS_0 (tab_cons c_negate (by decide) (PySem.W.mg_of X G a6) txUNARY_DEEDS_1 (tab_cons c_is_null (by decide) (PySem.W.mg_of X G a7) txUNARY_DEEDS_2 (tab_cons c_length (by decide) (PySem.W.mg_of X G a8) txUNARY_DEEDS_3 (tab_nil))))⟩
  have c_unary := ok_unary (P := P) (w := w) (base := base) D_unary t_UNARY_DEEDS
  have c_kind_rank := ok_kind_rank (P := P) (w := w) (base := base) D_kind_rank m_bool m_int m_isinstance
  have c_comparable := ok_comparable (P := P) (w := w) (base := base) D_comparable c_kind_rank
  have c_rank := ok_rank (P := P) (w := w) (base := base) D_rank m_bool m_int m_isinstance
  have c_same := ok_same (P := P) (w := w) (base := base) D_same c_rank
  have c_equal := ok_equal (P := P) (w := w) (base := base) D_equal c_comparable c_same
  have c_before := ok_before (P := P) (w := w) (base := base) D_before c_rank
  have c_less := ok_less (P := P) (w := w) (base := base) D_less c_comparable c_before
  have c_at_most := ok_at_most (P := P) (w := w) (base := base) D_at_most c_comparable c_before
  have c_least := ok_least (P := P) (w := w) (base := base) D_least c_comparable c_before
  have c_are_integers := ok_are_integers (P := P) (w := w) (base := base) D_are_integers c_is_integer
  have c_limited := ok_limited (P := P) (w := w) (base := base) D_limited hc_GREATEST
  have c_added := ok_added (P := P) (w := w) (base := base) D_added c_are_integers c_limited
  have c_are_texts := ok_are_texts (P := P) (w := w) (base := base) D_are_texts m_isinstance m_str
  have c_joined := ok_joined (P := P) (w := w) (base := base) D_joined m_len hc_MOST c_are_texts
  have c_coalesce := ok_coalesce (P := P) (w := w) (base := base) D_coalesce
  have t_BINARY_DEEDS : TabOk P w K mg base 3 "BINARY_DEEDS" tab_BINARY_DEEDS := ⟨taBINARY_DEEDS, teBINARY_DEEDS, tpBINARY_DEEDS, tsBINARY_DEEDS, PySem.W.mg_of X G tvBINARY_DEEDS, tlBINARY_DEEDS, tab_all thBINARY_DEEDS, tab_cons c_equal (by decide) (PySem.W.mg_of X G a14) txBINARY_DEEDS_0 (tab_cons c_less (by decide) (PySem.W.mg_of X G a16) txBINARY_DEEDS_1 (tab_cons c_at_most (by decide) (PySem.W.mg_of X G a17) txBINARY_DEEDS_2 (tab_cons c_same (by decide) (PySem.W.mg_of X G a13) txBINARY_DEEDS_3 (tab_cons c_least (by decide) (PySem.W.mg_of X G a18) txBINARY_DEEDS_4 (tab_cons c_added (by decide) (PySem.W.mg_of X G a21) txBINARY_DEEDS_5 (tab_cons c_joined (by decide) (PySem.W.mg_of X G a23) txBINARY_DEEDS_6 (tab_cons c_coalesce (by decide) (PySem.W.mg_of X G a24) txBINARY_DEEDS_7 (tab_nil))))))))⟩
  have c_binary := ok_binary (P := P) (w := w) (base := base) D_binary t_BINARY_DEEDS
  have c_evaluate := ok_evaluate (P := P) (w := w) (base := base) D_evaluate m_len c_ternary c_unary c_binary 40
  have c_evaluate_all := ok_evaluate_all (P := P) (w := w) (base := base) D_evaluate_all c_evaluate
  have c_row_rank := ok_row_rank (P := P) (w := w) (base := base) D_row_rank m_tuple c_rank
  have c_grouped := ok_grouped (P := P) (w := w) (base := base) D_grouped m_len c_evaluate_all c_row_rank
  have c_summed := ok_summed (P := P) (w := w) (base := base) D_summed m_len m_sum c_limited c_is_integer
  have c_rounded := ok_rounded (P := P) (w := w) (base := base) D_rounded m_abs
  have c_average := ok_average (P := P) (w := w) (base := base) D_average m_len m_sum c_limited c_rounded c_is_integer
  have c_listed := ok_listed (P := P) (w := w) (base := base) D_listed m_isinstance m_len m_sorted m_str m_sum hc_MOST
  have c_truths := ok_truths (P := P) (w := w) (base := base) D_truths m_bool m_isinstance
  have c_over_values := ok_over_values (P := P) (w := w) (base := base) D_over_values m_all m_any m_len m_set m_sorted hc_ONE c_summed c_average c_listed c_truths c_rank
  have c_present_values := ok_present_values (P := P) (w := w) (base := base) D_present_values c_evaluate
  have c_aggregate := ok_aggregate (P := P) (w := w) (base := base) D_aggregate m_len c_over_values c_present_values
  have c_group_rows := ok_group_rows (P := P) (w := w) (base := base) D_group_rows m_len c_grouped c_aggregate
  have c__law_rank := ok__law_rank (P := P) (w := w) (base := base) D__law_rank m_isinstance m_str
  have c__law_ranks := ok__law_ranks (P := P) (w := w) (base := base) D__law_ranks m_tuple c__law_rank
  have c__law_same_list := ok__law_same_list (P := P) (w := w) (base := base) D__law_same_list m_isinstance m_len m_list m_range c__law_ranks
  have c__law_simple := ok__law_simple (P := P) (w := w) (base := base) D__law_simple m_int
  cases hfa.symm.trans (PySem.W.mg_of X G a43)
  exact ok_law (P := P) (w := w) (base := base) (fun_mk (st := st_law) l43 e43 k43) m_int m_len m_list m_range m_repr m_tuple c__law_numbers c__law_rowlist c_group_rows c__law_same_list c__law_simple c_evaluate c__law_ranks c_aggregate
end Qk38
open PySem PySem.W PyProof.Rows
set_option maxHeartbeats 0 in
theorem PySem.Challenge.cw_stylobate_k38_groups_of_rows_holds : PySem.Challenge.rw_stylobate_k38_groups_of_rows.Holds := by
  w_on
  refine headZ ?_
  k_fill
  refine Z.walk_ofA (l := PySem.Challenge.rw_stylobate_k38_groups_of_rows) (n := 63) (x := "_law_script") (f := Qk38.d_law) rfl (by decide) rfl (fun w h Y => PySem.W.kIn_of Y) ?F (fun ns hl => Qk38.law_true ns hl)
  case F =>
    intro w mg fa h KX G hmg
    refine' Qk38.all_mk KX G hmg ?a0 ?l0 ?e0 ?k0 ?a1 ?l1 ?e1 ?k1 ?a2 ?l2 ?e2 ?k2 ?a3 ?l3 ?e3 ?k3 ?a4 ?l4 ?e4 ?k4 ?a5 ?l5 ?e5 ?k5 ?a6 ?l6 ?e6 ?k6 ?a7 ?l7 ?e7 ?k7 ?a8 ?l8 ?e8 ?k8 ?a9 ?l9 ?e9 ?k9 ?a10 ?l10 ?e10 ?k10 ?a11 ?l11 ?e11 ?k11 ?a12 ?l12 ?e12 ?k12 ?a13 ?l13 ?e13 ?k13 ?a14 ?l14 ?e14 ?k14 ?a15 ?l15 ?e15 ?k15 ?a16 ?l16 ?e16 ?k16 ?a17 ?l17 ?e17 ?k17 ?a18 ?l18 ?e18 ?k18 ?a19 ?l19 ?e19 ?k19 ?a20 ?l20 ?e20 ?k20 ?a21 ?l21 ?e21 ?k21 ?a22 ?l22 ?e22 ?k22 ?a23 ?l23 ?e23 ?k23 ?a24 ?l24 ?e24 ?k24 ?a25 ?l25 ?e25 ?k25 ?a26 ?l26 ?e26 ?k26 ?a27 ?l27 ?e27 ?k27 ?a28 ?l28 ?e28 ?k28 ?a29 ?l29 ?e29 ?k29 ?a30 ?l30 ?e30 ?k30 ?a31 ?l31 ?e31 ?k31 ?a32 ?l32 ?e32 ?k32 ?a33 ?l33 ?e33 ?k33 ?a34 ?l34 ?e34 ?k34 ?a35 ?l35 ?e35 ?k35 ?a36 ?l36 ?e36 ?k36 ?a37 ?l37 ?e37 ?k37 ?a38 ?l38 ?e38 ?k38 ?a39 ?l39 ?e39 ?k39 ?a40 ?l40 ?e40 ?k40 ?a41 ?l41 ?e41 ?k41 ?a42 ?l42 ?e42 ?k42 ?a43 ?l43 ?e43 ?k43 ?z_abs ?z_all ?z_any ?z_bool ?z_int ?z_isinstance ?z_len ?z_list ?z_range ?z_repr ?z_set ?z_sorted ?z_str ?z_sum ?z_tuple ?cvGREATEST ?cdGREATEST ?cvONE ?cdONE ?cvMOST ?cdMOST ?tvTERNARY_DEEDS ?tlTERNARY_DEEDS ?thTERNARY_DEEDS ?tvUNARY_DEEDS ?tlUNARY_DEEDS ?thUNARY_DEEDS ?txUNARY_DEEDS_0 ?txUNARY_DEEDS_1 ?txUNARY_DEEDS_2 ?txUNARY_DEEDS_3 ?tvBINARY_DEEDS ?tlBINARY_DEEDS ?thBINARY_DEEDS ?txBINARY_DEEDS_0 ?txBINARY_DEEDS_1 ?txBINARY_DEEDS_2 ?txBINARY_DEEDS_3 ?txBINARY_DEEDS_4 ?txBINARY_DEEDS_5 ?txBINARY_DEEDS_6 ?txBINARY_DEEDS_7
    (case a0 => k_is); (case l0 => k_is); (case e0 => k_is); (case k0 => k_is); (case a1 => k_is); (case l1 => k_is); (case e1 => k_is); (case k1 => k_is); (case a2 => k_is); (case l2 => k_is); (case e2 => k_is); (case k2 => k_is); (case a3 => k_is); (case l3 => k_is); (case e3 => k_is); (case k3 => k_is); (case a4 => k_is); (case l4 => k_is); (case e4 => k_is); (case k4 => k_is); (case a5 => k_is); (case l5 => k_is); (case e5 => k_is); (case k5 => k_is); (case a6 => k_is); (case l6 => k_is); (case e6 => k_is); (case k6 => k_is); (case a7 => k_is); (case l7 => k_is); (case e7 => k_is); (case k7 => k_is); (case a8 => k_is); (case l8 => k_is); (case e8 => k_is); (case k8 => k_is); (case a9 => k_is); (case l9 => k_is); (case e9 => k_is); (case k9 => k_is); (case a10 => k_is); (case l10 => k_is); (case e10 => k_is); (case k10 => k_is); (case a11 => k_is); (case l11 => k_is); (case e11 => k_is); (case k11 => k_is); (case a12 => k_is); (case l12 => k_is); (case e12 => k_is); (case k12 => k_is); (case a13 => k_is); (case l13 => k_is); (case e13 => k_is); (case k13 => k_is); (case a14 => k_is); (case l14 => k_is); (case e14 => k_is); (case k14 => k_is); (case a15 => k_is); (case l15 => k_is); (case e15 => k_is); (case k15 => k_is); (case a16 => k_is); (case l16 => k_is); (case e16 => k_is); (case k16 => k_is); (case a17 => k_is); (case l17 => k_is); (case e17 => k_is); (case k17 => k_is); (case a18 => k_is); (case l18 => k_is); (case e18 => k_is); (case k18 => k_is); (case a19 => k_is); (case l19 => k_is); (case e19 => k_is); (case k19 => k_is); (case a20 => k_is); (case l20 => k_is); (case e20 => k_is); (case k20 => k_is); (case a21 => k_is); (case l21 => k_is); (case e21 => k_is); (case k21 => k_is); (case a22 => k_is); (case l22 => k_is); (case e22 => k_is); (case k22 => k_is); (case a23 => k_is); (case l23 => k_is); (case e23 => k_is); (case k23 => k_is); (case a24 => k_is); (case l24 => k_is); (case e24 => k_is); (case k24 => k_is); (case a25 => k_is); (case l25 => k_is); (case e25 => k_is); (case k25 => k_is); (case a26 => k_is); (case l26 => k_is); (case e26 => k_is); (case k26 => k_is); (case a27 => k_is); (case l27 => k_is); (case e27 => k_is); (case k27 => k_is); (case a28 => k_is); (case l28 => k_is); (case e28 => k_is); (case k28 => k_is); (case a29 => k_is); (case l29 => k_is); (case e29 => k_is); (case k29 => k_is); (case a30 => k_is); (case l30 => k_is); (case e30 => k_is); (case k30 => k_is); (case a31 => k_is); (case l31 => k_is); (case e31 => k_is); (case k31 => k_is); (case a32 => k_is); (case l32 => k_is); (case e32 => k_is); (case k32 => k_is); (case a33 => k_is); (case l33 => k_is); (case e33 => k_is); (case k33 => k_is); (case a34 => k_is); (case l34 => k_is); (case e34 => k_is); (case k34 => k_is); (case a35 => k_is); (case l35 => k_is); (case e35 => k_is); (case k35 => k_is); (case a36 => k_is); (case l36 => k_is); (case e36 => k_is); (case k36 => k_is); (case a37 => k_is); (case l37 => k_is); (case e37 => k_is); (case k37 => k_is); (case a38 => k_is); (case l38 => k_is); (case e38 => k_is); (case k38 => k_is); (case a39 => k_is); (case l39 => k_is); (case e39 => k_is); (case k39 => k_is); (case a40 => k_is); (case l40 => k_is); (case e40 => k_is); (case k40 => k_is); (case a41 => k_is); (case l41 => k_is); (case e41 => k_is); (case k41 => k_is); (case a42 => k_is); (case l42 => k_is); (case e42 => k_is); (case k42 => k_is); (case a43 => k_is); (case l43 => k_is); (case e43 => k_is); (case k43 => k_is); (case z_abs => k_is); (case z_all => k_is); (case z_any => k_is); (case z_bool => k_is); (case z_int => k_is); (case z_isinstance => k_is); (case z_len => k_is); (case z_list => k_is); (case z_range => k_is); (case z_repr => k_is); (case z_set => k_is); (case z_sorted => k_is); (case z_str => k_is); (case z_sum => k_is); (case z_tuple => k_is); (case cvGREATEST => k_is); (case cdGREATEST => exact rfl); (case cvONE => k_is); (case cdONE => exact rfl); (case cvMOST => k_is); (case cdMOST => exact rfl); (case tvTERNARY_DEEDS => k_is); (case tlTERNARY_DEEDS => k_is); (case thTERNARY_DEEDS => exact rfl); (case tvUNARY_DEEDS => k_is); (case tlUNARY_DEEDS => k_is); (case thUNARY_DEEDS => exact rfl); (case txUNARY_DEEDS_0 => exact rfl); (case txUNARY_DEEDS_1 => exact rfl); (case txUNARY_DEEDS_2 => exact rfl); (case txUNARY_DEEDS_3 => exact rfl); (case tvBINARY_DEEDS => k_is); (case tlBINARY_DEEDS => k_is); (case thBINARY_DEEDS => exact rfl); (case txBINARY_DEEDS_0 => exact rfl); (case txBINARY_DEEDS_1 => exact rfl); (case txBINARY_DEEDS_2 => exact rfl); (case txBINARY_DEEDS_3 => exact rfl); (case txBINARY_DEEDS_4 => exact rfl); (case txBINARY_DEEDS_5 => exact rfl); (case txBINARY_DEEDS_6 => exact rfl); (case txBINARY_DEEDS_7 => exact rfl)
#print axioms PySem.Challenge.cw_stylobate_k38_groups_of_rows_holds
