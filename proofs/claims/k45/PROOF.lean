import PyProof.Rows.All
import Wide.All
import OpenK.AllK
import Wide.FinOn
import HandS.ForMost
import HandS.Style
import HandS.IsInst
import HandS.Wide
import HandS.Deep
import PyProof.Rows.EqBoolInt
import HandS.WideBits
import HandS.TupAny
import HandS.Comp
import HandS.Iter
import HandS.Replace
import PyProof.ReprRoads
import PyProof.ReprLen
import PyProof.StrBlock2
import HandS.TupLe
import HandS.FStr
import HandS.Small
import KE.KxField
import KE.IntTextLaws
import HandS.StrMore
import HandS.RaiseMore
import HandS.Codes
import PyProof.Rows.StrFirst
import HandS.Dict
import KE.KTab
import PyProof.Rows.StrDigitsNeg
import HandS.SetFor
import HandS.Strs
import HandS.IterVal
import KE.KSortKey
import HandS.SortOrd
import HandS.SortKw
import KE.KeyNested
import HandS.TupSets
import HandS.SetKeys
import HandS.More
import HandS.Flt
import HandS.Conv
import KE.DatumOrd
import HandS.Property
import PyProof.Rows.Digits
import HandS.OwnEq
import PySem.Challenge.RW_stylobate_k45_encoded_columns
set_option Elab.async false
set_option linter.all false
def PySem.W.Fast.tw4459731750008910114 : Nat := 0
def PySem.W.Fast.tw3539149473033715409 : Nat := 0
def PySem.W.Fast.tw4175117027773920373 : Nat := 0
def PySem.W.Fast.tw518613360609179648 : Nat := 0
def PySem.W.Fast.tw9863431595572887184 : Nat := 0
def PySem.W.Fast.tw7518128334273818494 : Nat := 0
def PySem.W.Fast.tw3891922536711510133 : Nat := 0
def PySem.W.Fast.tw15227798203219789664 : Nat := 0
set_option maxRecDepth 100000 in
set_option maxHeartbeats 0 in
open_top headZ for PySem.Challenge.rw_stylobate_k45_encoded_columns
set_option Elab.async false
set_option linter.all false
set_option maxRecDepth 100000
set_option maxHeartbeats 4000000
namespace Z
open PySem PySem.Spec PyProof.Rows L2
inductive D where
  | non | bl (b : Bool) | int (i : Int) | str (s : List Nat) | tup (l : List D) | lst (l : List D) | raw (v : V) | dic (ks : List (List Nat)) (vs : List D) | obj (c : Str) (fs : List Str) (ds : List D)
  deriving Inhabited
/-- a text as a dict's key -/
def kS (s : List Nat) : Key := .inr ⟨s.toArray⟩
mutual
inductive Dz (K : PySem.W.Frag) (H : Hp) : V → D → Prop
  | non : Dz K H .non .non
  | bl (b : Bool) : Dz K H (.bl b) (.bl b)
  | int (i : Int) : Dz K H (.int i) (.int i)
  | str (s : List Nat) : Dz K H (.str ⟨s.toArray⟩) (.str s)
  | tup {a : Addr} {xs : List V} {ds : List D} : SqT K H a xs → DzA K H xs ds → Dz K H (.ref a) (.tup ds)
  | lst {a : Addr} {xs : List V} {ds : List D} : SqL K H a xs → DzA K H xs ds → Dz K H (.ref a) (.lst ds)
  | raw (v : V) : Dz K H v (.raw v)
  | dic {a : Addr} {ks : List (List Nat)} {xs : List V} {ds : List D} : H a = some (.dK ((ks.map kS).zip xs)) → ks.length = xs.length → DzA K H xs ds → Dz K H (.ref a) (.dic ks ds)
  | obj {a C dx : Addr} {c : Str} {fs : List Str} {xs : List V} {ds : List D} : PySem.W.nsIn K mainGlobals c = some (some (.ref C)) → H a = some (.ins C dx (fs.zip xs)) → fs.length = xs.length → DzA K H xs ds → Dz K H (.ref a) (.obj c fs ds)
inductive DzA (K : PySem.W.Frag) (H : Hp) : List V → List D → Prop
  | nil : DzA K H [] []
  | cons {v : V} {vs : List V} {d : D} {ds : List D} : Dz K H v d → DzA K H vs ds → DzA K H (v :: vs) (d :: ds)
end
theorem sameT {K : PySem.W.Frag} {H H' : Hp} {a : Addr} {xs : List V} (e : Same H H') (h : SqT K H a xs) : SqT K H' a xs := by
  rcases h with (h | ⟨o, h⟩) | h
  · exact .inl (.inl (e _ _ h))
  · exact .inl (.inr ⟨o, e _ _ h⟩)
  · exact .inr h
section
variable {K : PySem.W.Frag} {H H' : Hp}
mutual
theorem Dz.mono (e : Same H H') : ∀ {v : V} {d : D}, Dz K H v d → Dz K H' v d
  | _, _, .non => .non
  | _, _, .bl b => .bl b
  | _, _, .int i => .int i
  | _, _, .str s => .str s
  | _, _, .tup s a => .tup (sameT e s) (DzA.mono e a)
  | _, _, .lst s a => .lst (e.seq s) (DzA.mono e a)
  | _, _, .raw v => .raw v
  | _, _, .dic s n a => .dic (e _ _ s) n (DzA.mono e a)
  | _, _, .obj k s n a => .obj k (e _ _ s) n (DzA.mono e a)
theorem DzA.mono (e : Same H H') : ∀ {vs : List V} {ds : List D}, DzA K H vs ds → DzA K H' vs ds
  | _, _, .nil => .nil
  | _, _, .cons h t => .cons (Dz.mono e h) (DzA.mono e t)
end
theorem DzA.length : ∀ {vs : List V} {ds : List D}, DzA K H vs ds → vs.length = ds.length
  | _, _, .nil => rfl
  | _, _, .cons _ t => by rw [List.length_cons, List.length_cons, DzA.length t]
theorem DzA.get : ∀ {vs : List V} {ds : List D} {i : Nat} {d : D}, DzA K H vs ds → ds[i]? = some d → ∃ v, vs[i]? = some v ∧ Dz K H v d
  | _, _, _, _, .nil, e => by simp at e
  | _, _, 0, _, .cons h _, e => by simp at e; subst e; exact ⟨_, rfl, h⟩
  | _, _, i + 1, d, .cons _ t, e => by
    obtain ⟨v, h1, h2⟩ := DzA.get (i := i) t (by simpa using e)
    exact ⟨v, by simpa using h1, h2⟩
theorem DzA.getV : ∀ {vs : List V} {ds : List D} {i : Nat} {v : V}, DzA K H vs ds → vs[i]? = some v → ∃ d, ds[i]? = some d ∧ Dz K H v d
  | _, _, _, _, .nil, e => by simp at e
  | _, _, 0, _, .cons h _, e => by simp at e; subst e; exact ⟨_, rfl, h⟩
  | _, _, i + 1, d, .cons _ t, e => by
    obtain ⟨v, h1, h2⟩ := DzA.getV (i := i) t (by simpa using e)
    exact ⟨v, by simpa using h1, h2⟩
theorem DzA.append : ∀ {vs ws : List V} {ds es : List D}, DzA K H vs ds → DzA K H ws es → DzA K H (vs ++ ws) (ds ++ es)
  | _, _, _, _, .nil, s => s
  | _, _, _, _, .cons h t, s => .cons h (DzA.append t s)
theorem DzA.take : ∀ {vs : List V} {ds : List D} (n : Nat), DzA K H vs ds → DzA K H (vs.take n) (ds.take n)
  | _, _, 0, _ => .nil
  | _, _, _ + 1, .nil => .nil
  | _, _, n + 1, .cons h t => .cons h (DzA.take n t)
theorem DzA.drop : ∀ {vs : List V} {ds : List D} (n : Nat), DzA K H vs ds → DzA K H (vs.drop n) (ds.drop n)
  | _, _, 0, r => r
  | _, _, _ + 1, .nil => .nil
  | _, _, n + 1, .cons _ t => DzA.drop n t
theorem DzA.set {v : V} {d : D} (r : Dz K H v d) : ∀ {vs : List V} {ds : List D} (i : Nat), DzA K H vs ds → DzA K H (vs.set i v) (ds.set i d)
  | _, _, _, .nil => .nil
  | _, _, 0, .cons _ t => .cons r t
  | _, _, i + 1, .cons q t => .cons q (DzA.set r i t)
end
/-- no reference within: true in any heap -/
def D.scal : D → Bool
  | .non => true | .bl _ => true | .int _ => true | .str _ => true | .raw _ => true
  | _ => false
theorem Dz.any {K : PySem.W.Frag} {H H' : Hp} {v : V} {d : D} (s : d.scal = true) (h : Dz K H v d) : Dz K H' v d := by
  cases h with
  | non => exact .non
  | bl b => exact .bl b
  | int i => exact .int i
  | str z => exact .str z
  | raw v => exact .raw v
  | dic _ _ _ => exact absurd s (by simp [D.scal])
  | obj _ _ _ _ => exact absurd s (by simp [D.scal])
  | tup _ _ => exact absurd s (by simp [D.scal])
  | lst _ _ => exact absurd s (by simp [D.scal])
theorem DzA.any {K : PySem.W.Frag} {H H' : Hp} : ∀ {vs : List V} {ds : List D}, ds.all D.scal = true → DzA K H vs ds → DzA K H' vs ds
  | _, _, _, .nil => .nil
  | _, _, s, .cons h t => by
    rw [List.all_cons, Bool.and_eq_true] at s
    exact .cons (h.any s.1) (DzA.any s.2 t)
/-- what a container of the def's own holds -/
inductive Cn where
  | lst (l : List D)
  deriving Inhabited
def CnOk (K : PySem.W.Frag) (Hs : Hp) : Cn → HO → Prop
  | .lst ds, .lst vs => DzA K Hs vs ds
  | _, _ => False
def Cn.d : Cn → D
  | .lst l => .lst l
def Cn.scal : Cn → Bool
  | .lst l => l.all D.scal
theorem CnOk.mono {K : PySem.W.Frag} {H H' : Hp} (e : Same H H') {c : Cn} {o : HO} (h : CnOk K H c o) : CnOk K H' c o := by
  cases c with
  | lst l =>
    cases o with
    | lst vs => exact DzA.mono e (show DzA K H vs l from h)
    | _ => exact (show False from h).elim
theorem CnOk.any {K : PySem.W.Frag} {H H' : Hp} {c : Cn} {o : HO} (s : c.scal = true) (h : CnOk K H c o) : CnOk K H' c o := by
  cases c with
  | lst l =>
    cases o with
    | lst vs => exact DzA.any s (show DzA K H vs l from h)
    | _ => exact (show False from h).elim
theorem CnOk.dz {K : PySem.W.Frag} {H : Hp} {c : Cn} {o : HO} {a : Addr} (h : CnOk K H c o) (e : H a = some o) : Dz K H (.ref a) c.d := by
  cases c with
  | lst l =>
    cases o with
    | lst vs => exact .lst (SqL.of e) (show DzA K H vs l from h)
    | _ => exact (show False from h).elim
/-- a slot: nothing known; data; a container of the def's own (pin: a parameter's; lock: walked now); a container that is data from now on -/
inductive Sl where
  | un | dat (d : D) | own (c : Cn) (pin lock : Bool) | frz (d : D) | rws (l : List (List D))
  deriving Inhabited
/-- an expression's value: data, or the container at a slot -/
inductive R where
  | dat (d : D) | bor (j : Nat)
  deriving Inhabited
/-- of a def: its names' number, the heap and the known heap at the entry, its parameters that it may change -/
structure Ct where
  K : PySem.W.Frag
  n : Nat
  H0 : Hp
  Hs0 : Hp
  pins : List (Nat × Addr)
  locks : List (Nat × Addr × Cn)
  plt : ∀ q ∈ pins, q.1 < n
  llt : ∀ q ∈ locks, q.1 < n
def kidsOf : Option HO → List Addr
  | some (.lst vs) => vs.filterMap fun v => match v with
    | .ref b => some b
    | _ => none
  | _ => []
theorem kidsOf_refs (ks : List Addr) : kidsOf (some (.lst (ks.map V.ref))) = ks := by
  show (ks.map V.ref).filterMap _ = ks
  induction ks with
  | nil => rfl
  | cons k ks ih => rw [List.map_cons, List.filterMap_cons]; simp only; rw [ih]
def KdOk (K : PySem.W.Frag) (Hs H : Hp) : List Addr → List (List D) → Prop
  | [], [] => True
  | b :: bs, l :: ls => (∃ us, H b = some (.lst us) ∧ DzA K Hs us l) ∧ KdOk K Hs H bs ls
  | _, _ => False
theorem KdOk.live {K : PySem.W.Frag} {Hs H : Hp} : ∀ {ks : List Addr} {ls : List (List D)}, KdOk K Hs H ks ls → ∀ x ∈ ks, ∃ o, H x = some o
  | [], [], _, _, m => (List.not_mem_nil m).elim
  | b :: bs, l :: ls, h, x, m => by
    rcases List.mem_cons.mp m with rfl | m
    · obtain ⟨us, e, _⟩ := h.1
      exact ⟨_, e⟩
    · exact KdOk.live h.2 x m
  | [], _ :: _, h, _, _ => h.elim
  | _ :: _, [], h, _, _ => h.elim
theorem KdOk.move {K : PySem.W.Frag} {Hs Hs' H H' : Hp} (s : Same Hs Hs') : ∀ {ks : List Addr} {ls : List (List D)}, KdOk K Hs H ks ls → (∀ x ∈ ks, ∀ o, H x = some o → H' x = some o) → KdOk K Hs' H' ks ls
  | [], [], _, _ => trivial
  | b :: bs, l :: ls, h, m => by
    obtain ⟨us, e, z⟩ := h.1
    exact ⟨⟨us, m b List.mem_cons_self _ e, z.mono s⟩, KdOk.move s h.2 fun x hx => m x (List.mem_cons_of_mem _ hx)⟩
  | [], _ :: _, h, _ => h.elim
  | _ :: _, [], h, _ => h.elim
theorem KdOk.len {K : PySem.W.Frag} {Hs H : Hp} : ∀ {ks : List Addr} {ls : List (List D)}, KdOk K Hs H ks ls → ks.length = ls.length
  | [], [], _ => rfl
  | _ :: _, _ :: _, h => by rw [List.length_cons, List.length_cons, KdOk.len h.2]
  | [], _ :: _, h => h.elim
  | _ :: _, [], h => h.elim
/-- as data -/
theorem KdOk.dz {K : PySem.W.Frag} {Hs H : Hp} (s : Same Hs H) : ∀ {ks : List Addr} {ls : List (List D)}, KdOk K Hs H ks ls → DzA K H (ks.map V.ref) (ls.map D.lst)
  | [], [], _ => .nil
  | b :: bs, l :: ls, h => by
    obtain ⟨us, e, z⟩ := h.1
    exact .cons (.lst (SqL.of e) (z.mono s)) (KdOk.dz s h.2)
  | [], _ :: _, h => h.elim
  | _ :: _, [], h => h.elim
structure Kd (K : PySem.W.Frag) (Hs H0 H : Hp) (a : Addr) (ks : List Addr) (ls : List (List D)) : Prop where
  hd : H a = some (.lst (ks.map V.ref))
  nd : (a :: ks).Nodup
  fr : ∀ x ∈ a :: ks, Hs x = none ∧ H0 x = none
  kd : KdOk K Hs H ks ls
theorem Kd.live {K : PySem.W.Frag} {Hs H0 H : Hp} {a : Addr} {ks : List Addr} {ls : List (List D)} (k : Kd K Hs H0 H a ks ls) : ∀ x ∈ a :: ks, ∃ o, H x = some o := fun x m => by
  rcases List.mem_cons.mp m with rfl | m
  · exact ⟨_, k.hd⟩
  · exact k.kd.live x m
def RwOk (C : Ct) (Hs : Hp) (A : List Addr) (g : List Sl) (σ : L2.St) (H : Hp) : Prop := ∀ (i : Nat) (ls : List (List D)), g[i]? = some (.rws ls) → ∃ a ks, A[i]? = some a ∧ (i < C.n → σ[i]? = some (some (.ref a))) ∧ Kd C.K Hs C.H0 H a ks ls ∧
  (∀ (j : Nat) (c : Cn) (p l : Bool) (b : Addr), g[j]? = some (.own c p l) → A[j]? = some b → b ∉ a :: ks) ∧
  (∀ (j : Nat) (ms : List (List D)) (b x : Addr), g[j]? = some (.rws ms) → A[j]? = some b → x ∈ b :: kidsOf (H b) → x ∈ a :: ks → j = i)
theorem RwOk.step {C C' : Ct} {Hs Hs' : Hp} {A A' : List Addr} {g g' : List Sl} {σ σ' : L2.St} {H H' : Hp} (w : RwOk C Hs A g σ H) (hK : C'.K = C.K) (hn : C'.n = C.n) (s : Same Hs Hs')
    (hx : ∀ x o, H x = some o → Hs x = none → C.H0 x = none → (∀ (j : Nat) (c : Cn) (p l : Bool), g[j]? = some (.own c p l) → A[j]? ≠ some x) → H' x = some o ∧ Hs' x = none ∧ C'.H0 x = none)
    (hg : ∀ (i : Nat) (ls : List (List D)), g'[i]? = some (.rws ls) → g[i]? = some (.rws ls) ∧ A'[i]? = A[i]? ∧ (i < C.n → σ'[i]? = σ[i]?))
    (ho : ∀ (j : Nat) (c : Cn) (p l : Bool) (b : Addr), g'[j]? = some (.own c p l) → A'[j]? = some b → (∃ (k : Nat) (c : Cn) (p l : Bool), g[k]? = some (.own c p l) ∧ A[k]? = some b) ∨ H b = none) : RwOk C' Hs' A' g' σ' H' := by
  have good : ∀ (i : Nat) (ls : List (List D)), g[i]? = some (.rws ls) → ∀ a ks, Kd C.K Hs C.H0 H a ks ls → (∀ (j : Nat) (c : Cn) (p l : Bool) (b : Addr), g[j]? = some (.own c p l) → A[j]? = some b → b ∉ a :: ks) → ∀ x ∈ a :: ks, ∀ o, H x = some o → H' x = some o ∧ Hs' x = none ∧ C'.H0 x = none := fun i ls e a ks k no x m o ex =>
    hx x o ex (k.fr x m).1 (k.fr x m).2 fun j c p l hj z => no j c p l x hj z m
  intro i ls e
  obtain ⟨e1, eA, eσ⟩ := hg i ls e
  obtain ⟨a, ks, q1, q2, q3, q4, q5⟩ := w i ls e1
  have gd := good i ls e1 a ks q3 q4
  refine ⟨a, ks, eA.trans q1, fun h => by rw [eσ (hn ▸ h)]; exact q2 (hn ▸ h), ⟨(gd a List.mem_cons_self _ q3.hd).1, q3.nd, fun x m => ?_, ?_⟩, fun j c p l b ej ab m => ?_, fun j ms b x ej ab m1 m2 => ?_⟩
  · obtain ⟨o, ho⟩ := q3.live x m
    exact (gd x m o ho).2
  · rw [hK]
    exact q3.kd.move s fun x m o h => (gd x (List.mem_cons_of_mem _ m) o h).1
  · rcases ho j c p l b ej ab with ⟨k, c', p', l', z1, z2⟩ | z
    · exact q4 k c' p' l' b z1 z2 m
    · obtain ⟨o, h⟩ := q3.live b m
      rw [z] at h; cases h
  · obtain ⟨f1, fA, _⟩ := hg j ms ej
    obtain ⟨b', ks', r1, _, r3, r4, _⟩ := w j ms f1
    rw [fA] at ab
    rw [ab] at r1
    have eb : b = b' := Option.some.inj r1
    subst eb
    rw [(good j ms f1 b ks' r3 r4 b List.mem_cons_self _ r3.hd).1, ← r3.hd] at m1
    exact q5 j ms b x f1 ab m1 m2
structure Ok (C : Ct) (Hs : Hp) (A : List Addr) (g : List Sl) (σ : L2.St) (H : Hp) : Prop where
  ln : σ.length = C.n
  lg : C.n ≤ g.length
  la : A.length = g.length
  base : Same C.Hs0 Hs
  same : Same Hs H
  dat : ∀ (i : Nat) (d : D), g[i]? = some (.dat d) → ∃ v, σ[i]? = some (some v) ∧ Dz C.K Hs v d
  frz : ∀ (i : Nat) (d : D), g[i]? = some (.frz d) → ∃ a, A[i]? = some a ∧ (i < C.n → σ[i]? = some (some (.ref a))) ∧ Dz C.K Hs (.ref a) d
  own : ∀ (i : Nat) (c : Cn) (p l : Bool), g[i]? = some (.own c p l) → ∃ a o, A[i]? = some a ∧ (i < C.n → σ[i]? = some (some (.ref a))) ∧ Hs a = none ∧ H a = some o ∧ CnOk C.K Hs c o ∧ (p = false → C.H0 a = none)
  inj : ∀ (i j : Nat) (c : Cn) (p l : Bool) (c' : Cn) (p' l' : Bool) (a : Addr), g[i]? = some (.own c p l) → g[j]? = some (.own c' p' l') → A[i]? = some a → A[j]? = some a → i = j
  grow : ∀ b o, Hs b = some o → C.Hs0 b = some o ∨ C.H0 b = none
  keep : ∀ b o, C.H0 b = some o → (∀ q ∈ C.pins, q.2 ≠ b) → H b = some o
  pinned : ∀ q ∈ C.pins, ∃ c l, g[q.1]? = some (.own c true l) ∧ A[q.1]? = some q.2
  pin1 : ∀ (i : Nat) (c : Cn) (l : Bool) (a : Addr), g[i]? = some (.own c true l) → A[i]? = some a → (i, a) ∈ C.pins
  locked : ∀ q ∈ C.locks, ∃ p, g[q.1]? = some (.own q.2.2 p true) ∧ A[q.1]? = some q.2.1
  rws : RwOk C Hs A g σ H
def RelR (K : PySem.W.Frag) (Hs : Hp) (A : List Addr) (v : V) : R → Prop
  | .dat d => Dz K Hs v d
  | .bor j => ∃ a, A[j]? = some a ∧ v = .ref a
def Pre (A A' : List Addr) : Prop := ∀ (j : Nat) (a : Addr), A[j]? = some a → A'[j]? = some a
theorem Pre.refl (A : List Addr) : Pre A A := fun _ _ h => h
theorem Pre.trans {A B C : List Addr} (a : Pre A B) (b : Pre B C) : Pre A C := fun j x h => b j x (a j x h)
theorem Pre.app (A B : List Addr) : Pre A (A ++ B) := fun j a h => by
  have hj := (List.getElem?_eq_some_iff.mp h).1
  rw [List.getElem?_append_left hj]
  exact h
theorem RelR.mono {K : PySem.W.Frag} {Hs Hs' : Hp} {A A' : List Addr} {v : V} {r : R} (s : Same Hs Hs') (p : Pre A A') (h : RelR K Hs A v r) : RelR K Hs' A' v r := by
  cases r with
  | dat d => exact Dz.mono s (show Dz K Hs v d from h)
  | bor j =>
    obtain ⟨a, h1, h2⟩ := (show ∃ a, A[j]? = some a ∧ v = .ref a from h)
    exact ⟨a, p j a h1, h2⟩
/-- what a value is as data -/
def rd (g : List Sl) : R → Option D
  | .dat d => some d
  | .bor j => match g[j]? with
    | some (.own c _ _) => some c.d
    | some (.frz d) => some d
    | _ => none
/-- .. of a list of own lists too (what is known of the present heap only) -/
def rdX (g : List Sl) : R → Option D
  | .dat d => some d
  | .bor j => match g[j]? with
    | some (.own c _ _) => some c.d
    | some (.frz d) => some d
    | some (.rws ls) => some (.lst (ls.map D.lst))
    | _ => none
section
variable {C : Ct} {Hs : Hp} {A : List Addr} {g : List Sl} {σ : L2.St} {H : Hp}
theorem Ok.rd (ok : Ok C Hs A g σ H) {v : V} {r : R} {d : D} (h : RelR C.K Hs A v r) (e : Z.rd g r = some d) : Dz C.K H v d := by
  cases r with
  | dat d' =>
    have e' : d' = d := Option.some.inj e
    subst e'
    exact Dz.mono ok.same (show Dz C.K Hs v d' from h)
  | bor j =>
    obtain ⟨a, h1, rfl⟩ := (show ∃ a, A[j]? = some a ∧ v = .ref a from h)
    have e : (match g[j]? with
      | some (.own c _ _) => some c.d
      | some (.frz d) => some d
      | _ => none) = some d := e
    split at e
    · rename_i c p l hg
      obtain ⟨a', o, ha, _, _, ho, hc, _⟩ := ok.own j c p l hg
      rw [h1] at ha
      have e1 : a = a' := Option.some.inj ha
      subst e1
      have e2 : c.d = d := Option.some.inj e
      subst e2
      exact (hc.mono ok.same).dz ho
    · rename_i d' hg
      obtain ⟨a', ha, _, hd⟩ := ok.frz j d' hg
      rw [h1] at ha
      have e1 : a = a' := Option.some.inj ha
      subst e1
      have e2 : d' = d := Option.some.inj e
      subst e2
      exact hd.mono ok.same
    · cases e
theorem Ok.rdX (ok : Ok C Hs A g σ H) {v : V} {r : R} {d : D} (h : RelR C.K Hs A v r) (e : Z.rdX g r = some d) : Dz C.K H v d := by
  cases r with
  | dat d' => exact ok.rd h e
  | bor j =>
    have e0 : (match g[j]? with
      | some (.own c _ _) => some c.d
      | some (.frz d) => some d
      | some (.rws ls) => some (.lst (ls.map D.lst))
      | _ => none) = some d := e
    split at e0
    · rename_i c p l hg
      exact ok.rd h (by show (match g[j]? with | some (.own c _ _) => some c.d | some (.frz d) => some d | _ => none) = some d; rw [hg]; exact e0)
    · rename_i d' hg
      exact ok.rd h (by show (match g[j]? with | some (.own c _ _) => some c.d | some (.frz d) => some d | _ => none) = some d; rw [hg]; exact e0)
    · rename_i ls hg
      obtain ⟨a, h1, rfl⟩ := (show ∃ a, A[j]? = some a ∧ v = .ref a from h)
      obtain ⟨a', ks, ha, _, hk, _⟩ := ok.rws j ls hg
      rw [h1] at ha
      have e1 : a = a' := Option.some.inj ha
      subst e1
      have e2 : D.lst (ls.map D.lst) = d := Option.some.inj e0
      subst e2
      exact .lst (SqL.of hk.hd) (hk.kd.dz ok.same)
    · cases e0
theorem Ok.fresh0 (ok : Ok C Hs A g σ H) {a : Addr} (h : H a = none) : Hs a = none ∧ C.H0 a = none := by
  constructor
  · cases q : Hs a with
    | none => rfl
    | some o => rw [ok.same a o q] at h; cases h
  · cases q : C.H0 a with
    | none => rfl
    | some o =>
      have : H a = some o := by
        refine ok.keep a o q fun p hp e => ?_
        obtain ⟨c, l, h1, h2⟩ := ok.pinned p hp
        obtain ⟨a', o', ha, _, _, ho, _⟩ := ok.own _ _ _ _ h1
        rw [h2] at ha
        have e1 : p.2 = a' := Option.some.inj ha
        rw [← e1, e] at ho
        rw [ho] at h; cases h
      rw [this] at h; cases h
/-- a new container, held aside -/
theorem Ok.tmp (ok : Ok C Hs A g σ H) {a : Addr} {o : HO} {c : Cn} (h : H a = none) (hc : CnOk C.K Hs c o) : Ok C Hs (A ++ [a]) (g ++ [.own c false false]) σ (upd H a o) := by
  obtain ⟨f1, f2⟩ := ok.fresh0 h
  have old : ∀ (i : Nat) (s : Sl), (g ++ [Sl.own c false false])[i]? = some s → g[i]? = some s ∨ (i = g.length ∧ s = .own c false false) := fun i s e => by
    by_cases hi : i < g.length
    · rw [List.getElem?_append_left hi] at e; exact .inl e
    · rw [List.getElem?_append_right (by omega)] at e
      have : i - g.length = 0 := by
        have := (List.getElem?_eq_some_iff.mp e).1
        simp at this; omega
      rw [this] at e
      exact .inr ⟨by omega, (Option.some.inj e).symm⟩
  have neA : ∀ (i : Nat) (c' : Cn) (p l : Bool) (a' : Addr), g[i]? = some (.own c' p l) → A[i]? = some a' → a' ≠ a := fun i c' p l a' e ha z => by
    obtain ⟨a2, o2, ha2, _, _, ho, _⟩ := ok.own i c' p l e
    rw [ha] at ha2
    have := Option.some.inj ha2
    rw [← this, z, h] at ho; cases ho
  have pre := Pre.app A [a]
  have last : (A ++ [a])[g.length]? = some a := by rw [← ok.la]; simp
  have alt : ∀ (i : Nat), i < g.length → (A ++ [a])[i]? = A[i]? := fun i hi => List.getElem?_append_left (by rw [ok.la]; exact hi)
  refine ⟨ok.ln, by rw [List.length_append]; have := ok.lg; omega, by simp [ok.la], ok.base, fun b o' e => ?_, fun i d e => ?_, fun i d e => ?_, fun i c' p l e => ?_, fun i j c1 p1 l1 c2 p2 l2 a' e1 e2 h1 h2 => ?_, ok.grow, fun b o' e k => ?_, fun q hq => ?_, fun i c' l a' e ha => ?_, fun q hq => ?_, ?_⟩
  · rw [upd_ne (fun z => by rw [z, f1] at e; cases e)]
    exact ok.same b o' e
  · rcases old i _ e with e | ⟨_, e⟩
    · exact ok.dat i d e
    · cases e
  · rcases old i _ e with e | ⟨_, e⟩
    · obtain ⟨a', q1, q2, q3⟩ := ok.frz i d e
      exact ⟨a', pre _ _ q1, q2, q3⟩
    · cases e
  · rcases old i _ e with e | ⟨ei, e⟩
    · obtain ⟨a', o', q1, q2, q3, q4, q5, q6⟩ := ok.own i c' p l e
      exact ⟨a', o', pre _ _ q1, q2, q3, by rw [upd_ne (neA _ _ _ _ _ e q1)]; exact q4, q5, q6⟩
    · cases e
      subst ei
      exact ⟨a, o, last, fun hi => absurd hi (by have := ok.lg; omega), f1, upd_same, hc, fun _ => f2⟩
  · rcases old i _ e1 with e1 | ⟨ei, e1⟩ <;> rcases old j _ e2 with e2 | ⟨ej, e2⟩
    · have hi := (List.getElem?_eq_some_iff.mp e1).1
      have hj := (List.getElem?_eq_some_iff.mp e2).1
      rw [alt i hi] at h1
      rw [alt j hj] at h2
      exact ok.inj i j _ _ _ _ _ _ a' e1 e2 h1 h2
    · have hi := (List.getElem?_eq_some_iff.mp e1).1
      rw [alt i hi] at h1
      subst ej
      rw [last] at h2
      exact absurd (Option.some.inj h2).symm (neA _ _ _ _ _ e1 h1)
    · have hj := (List.getElem?_eq_some_iff.mp e2).1
      rw [alt j hj] at h2
      subst ei
      rw [last] at h1
      exact absurd (Option.some.inj h1).symm (neA _ _ _ _ _ e2 h2)
    · omega
  · rw [upd_ne (fun z => by rw [z, f2] at e; cases e)]
    exact ok.keep b o' e k
  · obtain ⟨c', l, h1, h2⟩ := ok.pinned q hq
    have hi := (List.getElem?_eq_some_iff.mp h1).1
    exact ⟨c', l, by rw [List.getElem?_append_left hi]; exact h1, pre _ _ h2⟩
  · rcases old i _ e with e | ⟨ei, e⟩
    · have hi := (List.getElem?_eq_some_iff.mp e).1
      rw [alt i hi] at ha
      exact ok.pin1 i c' l a' e ha
    · cases e
  · obtain ⟨p, h1, h2⟩ := ok.locked q hq
    have hi := (List.getElem?_eq_some_iff.mp h1).1
    exact ⟨p, by rw [List.getElem?_append_left hi]; exact h1, pre _ _ h2⟩
  · refine RwOk.step ok.rws rfl rfl (Same.refl _) (fun x u ex n1 n2 _ => ⟨by rw [upd_ne (fun z => by rw [z, h] at ex; cases ex)]; exact ex, n1, n2⟩) (fun i ls e => ?_) (fun i c' p l b e hb => ?_)
    · rcases old i _ e with e | ⟨_, e⟩
      · exact ⟨e, alt i (List.getElem?_eq_some_iff.mp e).1, fun _ => rfl⟩
      · cases e
    · rcases old i _ e with e | ⟨ei, e⟩
      · rw [alt i (List.getElem?_eq_some_iff.mp e).1] at hb
        exact .inl ⟨i, c', p, l, e, hb⟩
      · subst ei
        rw [last] at hb
        cases hb
        exact .inr h
/-- a new object that is data from now on -/
theorem Ok.lay (ok : Ok C Hs A g σ H) {a : Addr} {o : HO} (h : H a = none) : Ok C (upd Hs a o) A g σ (upd H a o) ∧ Same Hs (upd Hs a o) := by
  obtain ⟨f1, f2⟩ := ok.fresh0 h
  have sm : Same Hs (upd Hs a o) := fun b o' e => by
    rw [upd_ne (fun z => by rw [z, f1] at e; cases e)]
    exact e
  refine ⟨⟨ok.ln, ok.lg, ok.la, ok.base.trans sm, fun b o' e => ?_, fun i d e => ?_, fun i d e => ?_, fun i c' p l e => ?_, ok.inj, fun b o' e => ?_, fun b o' e k => ?_, ok.pinned, ok.pin1, ok.locked, ?_⟩, sm⟩
  · by_cases z : b = a
    · subst z
      rw [upd_same] at e ⊢
      exact e
    · rw [upd_ne z] at e ⊢
      exact ok.same b o' e
  · obtain ⟨v, q1, q2⟩ := ok.dat i d e
    exact ⟨v, q1, q2.mono sm⟩
  · obtain ⟨v, q1, q2, q3⟩ := ok.frz i d e
    exact ⟨v, q1, q2, q3.mono sm⟩
  · obtain ⟨a', o', q1, q2, q3, q4, q5, q6⟩ := ok.own i c' p l e
    have ne : a' ≠ a := fun z => by rw [z, h] at q4; cases q4
    exact ⟨a', o', q1, q2, by rw [upd_ne ne]; exact q3, by rw [upd_ne ne]; exact q4, q5.mono sm, q6⟩
  · by_cases z : b = a
    · subst z; exact .inr f2
    · rw [upd_ne z] at e; exact ok.grow b o' e
  · rw [upd_ne (fun z => by rw [z, f2] at e; cases e)]
    exact ok.keep b o' e k
  · refine RwOk.step ok.rws rfl rfl sm (fun x u ex n1 n2 _ => ?_) (fun i ls e => ⟨e, rfl, fun _ => rfl⟩) (fun i c' p l b e hb => .inl ⟨i, c', p, l, e, hb⟩)
    have ne : x ≠ a := fun z => by rw [z, h] at ex; cases ex
    exact ⟨by rw [upd_ne ne]; exact ex, by rw [upd_ne ne]; exact n1, n2⟩
/-- the heap grew by things that nobody knows -/
theorem Ok.more (ok : Ok C Hs A g σ H) {H' : Hp} (s : Same H H') : Ok C Hs A g σ H' :=
  ⟨ok.ln, ok.lg, ok.la, ok.base, ok.same.trans s, ok.dat, ok.frz, fun i c p l e => by
    obtain ⟨a, o, q1, q2, q3, q4, q5, q6⟩ := ok.own i c p l e
    exact ⟨a, o, q1, q2, q3, s _ _ q4, q5, q6⟩, ok.inj, ok.grow, fun b o e k => s _ _ (ok.keep b o e k), ok.pinned, ok.pin1, ok.locked,
    RwOk.step ok.rws rfl rfl (Same.refl _) (fun x u ex n1 n2 _ => ⟨s _ _ ex, n1, n2⟩) (fun i ls e => ⟨e, rfl, fun _ => rfl⟩) (fun i c' p l b e hb => .inl ⟨i, c', p, l, e, hb⟩)⟩
/-- .. and by known things -/
theorem Ok.moreS (ok : Ok C Hs A g σ H) {Hs' H' : Hp} (s : Same H H') (s1 : Same Hs Hs') (s2 : Same Hs' H') (gr : ∀ b o, Hs' b = some o → Hs b = some o ∨ H b = none) : Ok C Hs' A g σ H' := by
  refine ⟨ok.ln, ok.lg, ok.la, ok.base.trans s1, s2, fun i d e => ?_, fun i d e => ?_, fun i c p l e => ?_, ok.inj, fun b o e => ?_, fun b o e k => s _ _ (ok.keep b o e k), ok.pinned, ok.pin1, ok.locked, ?_⟩
  · obtain ⟨v, q1, q2⟩ := ok.dat i d e
    exact ⟨v, q1, q2.mono s1⟩
  · obtain ⟨v, q1, q2, q3⟩ := ok.frz i d e
    exact ⟨v, q1, q2, q3.mono s1⟩
  · obtain ⟨a, o, q1, q2, q3, q4, q5, q6⟩ := ok.own i c p l e
    refine ⟨a, o, q1, q2, ?_, s _ _ q4, q5.mono s1, q6⟩
    cases z : Hs' a with
    | none => rfl
    | some o' =>
      rcases gr a o' z with w | w
      · rw [q3] at w; cases w
      · rw [q4] at w; cases w
  · rcases gr b o e with w | w
    · exact ok.grow b o w
    · exact .inr (ok.fresh0 w).2
  · refine RwOk.step ok.rws rfl rfl s1 (fun x u ex n1 n2 _ => ⟨s _ _ ex, ?_, n2⟩) (fun i ls e => ⟨e, rfl, fun _ => rfl⟩) (fun i c' p l b e hb => .inl ⟨i, c', p, l, e, hb⟩)
    cases z : Hs' x with
    | none => rfl
    | some o' =>
      rcases gr x o' z with w | w
      · rw [n1] at w; cases w
      · rw [ex] at w; cases w
end
/-- the container at slot j becomes data -/
def frzAt (j : Nat) (g : List Sl) : Option (D × List Sl) := match g[j]? with
  | some (.own c false false) => some (c.d, g.set j (.frz c.d))
  | some (.frz d) => some (d, g)
  | some (.rws ls) => some (.lst (ls.map D.lst), g.set j (.frz (.lst (ls.map D.lst))))
  | _ => none
def frzR (r : R) (g : List Sl) : Option (D × List Sl) := match r with
  | .dat d => some (d, g)
  | .bor j => frzAt j g
section
variable {C : Ct} {Hs : Hp} {A : List Addr} {g g' : List Sl} {σ : L2.St} {H : Hp} {j : Nat} {d : D} {v : V} {r : R}
/-- slots are changed one by one: a helper -/
theorem set_some {α : Type} {g : List α} {i j : Nat} {s t : α} (e : (g.set j t)[i]? = some s) : (i = j ∧ s = t ∧ j < g.length) ∨ (i ≠ j ∧ g[i]? = some s) := by
  by_cases h : i = j
  · subst h
    by_cases hl : i < g.length
    · rw [List.getElem?_set_self hl] at e
      exact .inl ⟨rfl, (Option.some.inj e).symm, hl⟩
    · have := (List.getElem?_eq_some_iff.mp e).1
      rw [List.length_set] at this
      exact absurd this hl
  · rw [List.getElem?_set_ne (Ne.symm h)] at e
    exact .inr ⟨h, e⟩
theorem Ok.frzAt (ok : Ok C Hs A g σ H) (e : frzAt j g = some (d, g')) : ∃ Hs' a, Same Hs Hs' ∧ Ok C Hs' A g' σ H ∧ A[j]? = some a ∧ Dz C.K Hs' (.ref a) d := by
  unfold Z.frzAt at e
  split at e
  · rename_i c hg
    cases e
    obtain ⟨a, o, q1, q2, q3, q4, q5, q6⟩ := ok.own j c _ _ hg
    have sm : Same Hs (upd Hs a o) := fun b o' e => by
      rw [upd_ne (fun z => by rw [z, q3] at e; cases e)]
      exact e
    have dz : Dz C.K (upd Hs a o) (.ref a) c.d := (q5.mono sm).dz upd_same
    refine ⟨upd Hs a o, a, sm, ⟨ok.ln, by rw [List.length_set]; exact ok.lg, by rw [List.length_set]; exact ok.la, ok.base.trans sm, fun b o' e => ?_, fun i d e => ?_, fun i d e => ?_, fun i c' p l e => ?_, fun i k c1 p1 l1 c2 p2 l2 a' e1 e2 h1 h2 => ?_, fun b o' e => ?_, ok.keep, fun q hq => ?_, fun i c' l a' e ha => ?_, fun q hq => ?_, ?_⟩, q1, dz⟩
    · by_cases z : b = a
      · subst z
        rw [upd_same] at e; cases e; exact q4
      · rw [upd_ne z] at e
        exact ok.same b o' e
    · rcases set_some e with ⟨_, e, _⟩ | ⟨_, e⟩
      · cases e
      · obtain ⟨v, w1, w2⟩ := ok.dat i d e
        exact ⟨v, w1, w2.mono sm⟩
    · rcases set_some e with ⟨ei, e, _⟩ | ⟨_, e⟩
      · cases e
        subst ei
        exact ⟨a, q1, q2, dz⟩
      · obtain ⟨v, w1, w2, w3⟩ := ok.frz i d e
        exact ⟨v, w1, w2, w3.mono sm⟩
    · rcases set_some e with ⟨_, e, _⟩ | ⟨ne, e⟩
      · cases e
      · obtain ⟨a', o', w1, w2, w3, w4, w5, w6⟩ := ok.own i c' p l e
        have na : a' ≠ a := fun z => by
          subst z
          exact ne (ok.inj i j _ _ _ _ _ _ a' e hg w1 q1)
        exact ⟨a', o', w1, w2, by rw [upd_ne na]; exact w3, w4, w5.mono sm, w6⟩
    · rcases set_some e1 with ⟨_, e1, _⟩ | ⟨_, e1⟩
      · cases e1
      · rcases set_some e2 with ⟨_, e2, _⟩ | ⟨_, e2⟩
        · cases e2
        · exact ok.inj i k _ _ _ _ _ _ a' e1 e2 h1 h2
    · by_cases z : b = a
      · subst z; exact .inr (q6 rfl)
      · rw [upd_ne z] at e; exact ok.grow b o' e
    · obtain ⟨c', l, h1, h2⟩ := ok.pinned q hq
      refine ⟨c', l, ?_, h2⟩
      rw [List.getElem?_set_ne]
      · exact h1
      · intro z
        subst z
        rw [hg] at h1; cases h1
    · rcases set_some e with ⟨_, e, _⟩ | ⟨_, e⟩
      · cases e
      · exact ok.pin1 i c' l a' e ha
    · obtain ⟨p, h1, h2⟩ := ok.locked q hq
      refine ⟨p, ?_, h2⟩
      rw [List.getElem?_set_ne]
      · exact h1
      · intro z
        subst z
        rw [hg] at h1; cases h1
    · refine RwOk.step ok.rws rfl rfl sm (fun x u ex n1 n2 no => ⟨ex, ?_, n2⟩) (fun i ls e => ?_) (fun i c' p l b e hb => ?_)
      · rw [upd_ne (fun z => no j c _ _ hg (by rw [z]; exact q1))]; exact n1
      · rcases set_some e with ⟨_, e, _⟩ | ⟨_, e⟩
        · cases e
        · exact ⟨e, rfl, fun _ => rfl⟩
      · rcases set_some e with ⟨_, e, _⟩ | ⟨_, e⟩
        · cases e
        · exact .inl ⟨i, c', p, l, e, hb⟩
  · rename_i d' hg
    cases e
    obtain ⟨a, q1, q2, q3⟩ := ok.frz j d hg
    exact ⟨Hs, a, Same.refl _, ok, q1, q3⟩
  · rename_i ls hg
    cases e
    obtain ⟨a, ks, q1, q2, q3, q4, q5⟩ := ok.rws j ls hg
    have dec : ∀ x, Decidable (x ∈ a :: ks) := fun x => inferInstance
    have hin : ∀ x, x ∈ a :: ks → (fun b => if b ∈ a :: ks then H b else Hs b : Hp) x = H x := fun x m => if_pos m
    have hout : ∀ x, x ∉ a :: ks → (fun b => if b ∈ a :: ks then H b else Hs b : Hp) x = Hs x := fun x m => if_neg m
    generalize (fun b => if b ∈ a :: ks then H b else Hs b : Hp) = Hn at hin hout
    have sm : Same Hs Hn := fun b o' e => by
      by_cases m : b ∈ a :: ks
      · rw [(q3.fr b m).1] at e; cases e
      · rw [hout b m]; exact e
    have sn : Same Hn H := fun b o' e => by
      by_cases m : b ∈ a :: ks
      · rw [hin b m] at e; exact e
      · rw [hout b m] at e; exact ok.same b o' e
    have dz : Dz C.K Hn (.ref a) (.lst (ls.map D.lst)) := by
      refine .lst (SqL.of ((hin a List.mem_cons_self).trans q3.hd)) ?_
      have k2 : KdOk C.K Hn Hn ks ls := q3.kd.move sm fun x m o h => (hin x (List.mem_cons_of_mem _ m)).trans h
      exact k2.dz (Same.refl _)
    refine ⟨Hn, a, sm, ⟨ok.ln, by rw [List.length_set]; exact ok.lg, by rw [List.length_set]; exact ok.la, ok.base.trans sm, sn, fun i d e => ?_, fun i d e => ?_, fun i c' p l e => ?_, fun i k c1 p1 l1 c2 p2 l2 a' e1 e2 h1 h2 => ?_, fun b o' e => ?_, ok.keep, fun q hq => ?_, fun i c' l a' e ha => ?_, fun q hq => ?_, fun i ms e => ?_⟩, q1, dz⟩
    · rcases set_some e with ⟨_, e, _⟩ | ⟨_, e⟩
      · cases e
      · obtain ⟨v, w1, w2⟩ := ok.dat i d e
        exact ⟨v, w1, w2.mono sm⟩
    · rcases set_some e with ⟨ei, e, _⟩ | ⟨_, e⟩
      · cases e
        subst ei
        exact ⟨a, q1, q2, dz⟩
      · obtain ⟨v, w1, w2, w3⟩ := ok.frz i d e
        exact ⟨v, w1, w2, w3.mono sm⟩
    · rcases set_some e with ⟨_, e, _⟩ | ⟨ne, e⟩
      · cases e
      · obtain ⟨a', o', w1, w2, w3, w4, w5, w6⟩ := ok.own i c' p l e
        exact ⟨a', o', w1, w2, by rw [hout a' (q4 i c' p l a' e w1)]; exact w3, w4, w5.mono sm, w6⟩
    · rcases set_some e1 with ⟨_, e1, _⟩ | ⟨_, e1⟩
      · cases e1
      · rcases set_some e2 with ⟨_, e2, _⟩ | ⟨_, e2⟩
        · cases e2
        · exact ok.inj i k _ _ _ _ _ _ a' e1 e2 h1 h2
    · by_cases m : b ∈ a :: ks
      · exact .inr (q3.fr b m).2
      · rw [hout b m] at e; exact ok.grow b o' e
    · obtain ⟨c', l, h1, h2⟩ := ok.pinned q hq
      refine ⟨c', l, ?_, h2⟩
      rw [List.getElem?_set_ne]
      · exact h1
      · intro z
        subst z
        rw [hg] at h1; cases h1
    · rcases set_some e with ⟨_, e, _⟩ | ⟨_, e⟩
      · cases e
      · exact ok.pin1 i c' l a' e ha
    · obtain ⟨p, h1, h2⟩ := ok.locked q hq
      refine ⟨p, ?_, h2⟩
      rw [List.getElem?_set_ne]
      · exact h1
      · intro z
        subst z
        rw [hg] at h1; cases h1
    · rcases set_some e with ⟨_, e, _⟩ | ⟨ne, e⟩
      · cases e
      · obtain ⟨b, bs, r1, r2, r3, r4, r5⟩ := ok.rws i ms e
        refine ⟨b, bs, r1, r2, ⟨r3.hd, r3.nd, fun x m => ⟨?_, (r3.fr x m).2⟩, r3.kd.move sm fun _ _ _ h => h⟩, fun k c p l y ek => ?_, fun k ns y x ek => ?_⟩
        · rw [hout x (fun z => ne (q5 i ms b x e r1 (by rw [r3.hd, kidsOf_refs]; exact m) z))]
          exact (r3.fr x m).1
        · rcases set_some ek with ⟨_, ek, _⟩ | ⟨_, ek⟩
          · cases ek
          · exact r4 k c p l y ek
        · rcases set_some ek with ⟨_, ek, _⟩ | ⟨_, ek⟩
          · cases ek
          · exact r5 k ns y x ek
  · cases e
theorem Ok.frzR (ok : Ok C Hs A g σ H) (h : RelR C.K Hs A v r) (e : frzR r g = some (d, g')) : ∃ Hs', Same Hs Hs' ∧ Ok C Hs' A g' σ H ∧ Dz C.K Hs' v d := by
  cases r with
  | dat d' =>
    have e' : some (d', g) = some (d, g') := e
    cases e'
    exact ⟨Hs, Same.refl _, ok, h⟩
  | bor j =>
    obtain ⟨a, h1, rfl⟩ := (show ∃ a, A[j]? = some a ∧ v = .ref a from h)
    obtain ⟨Hs', a', s, ok', h2, dz⟩ := ok.frzAt e
    rw [h1] at h2
    have e1 : a = a' := Option.some.inj h2
    subst e1
    exact ⟨Hs', s, ok', dz⟩
/-- the slot j may be overwritten -/
def freeAt (j : Nat) (g : List Sl) : Bool := match g[j]? with
  | some (.own _ true _) => false
  | some (.own _ _ true) => false
  | some _ => true
  | none => false
def setDat (i : Nat) (d : D) (g : List Sl) : Option (List Sl) := if freeAt i g = true then some (g.set i (.dat d)) else none
theorem freeAt_lt (e : freeAt j g = true) : j < g.length := by
  unfold freeAt at e
  by_cases h : j < g.length
  · exact h
  · rw [List.getElem?_eq_none_iff.mpr (by omega)] at e
    cases e
theorem freeAt_pin (e : freeAt j g = true) {c : Cn} {l : Bool} (h : g[j]? = some (.own c true l)) : False := by
  unfold freeAt at e
  rw [h] at e
  cases e
theorem freeAt_lock (e : freeAt j g = true) {c : Cn} {p : Bool} (h : g[j]? = some (.own c p true)) : False := by
  unfold freeAt at e
  rw [h] at e
  cases p <;> cases e
/-- a slot forgotten, or filled with data; σ may change there -/
theorem Ok.put (ok : Ok C Hs A g σ H) {s : Sl} {σ' : L2.St} (hf : freeAt j g = true) (hl : σ'.length = σ.length) (hσ : ∀ (i : Nat), i ≠ j → σ'[i]? = σ[i]?) (hs : s = .un ∨ ∃ d v, s = .dat d ∧ σ'[j]? = some (some v) ∧ Dz C.K Hs v d) : Ok C Hs A (g.set j s) σ' H := by
  have no : ∀ {i : Nat} {c : Cn} {p l : Bool}, (g.set j s)[i]? = some (.own c p l) → i ≠ j ∧ g[i]? = some (.own c p l) := fun {i c p l} e => by
    rcases set_some e with ⟨_, e, _⟩ | ⟨ne, e⟩
    · rcases hs with z | ⟨_, _, z, _⟩ <;> rw [z] at e <;> cases e
    · exact ⟨ne, e⟩
  refine ⟨hl.trans ok.ln, by rw [List.length_set]; exact ok.lg, by rw [List.length_set]; exact ok.la, ok.base, ok.same, fun i d e => ?_, fun i d e => ?_, fun i c' p l e => ?_, fun i k c1 p1 l1 c2 p2 l2 a' e1 e2 h1 h2 => ok.inj i k _ _ _ _ _ _ a' (no e1).2 (no e2).2 h1 h2, ok.grow, ok.keep, fun q hq => ?_, fun i c' l a' e ha => ok.pin1 i c' l a' (no e).2 ha, fun q hq => ?_, ?_⟩
  · rcases set_some e with ⟨ei, e3, _⟩ | ⟨ne, e3⟩
    · subst ei
      rcases hs with z | ⟨d', v, z, w1, w2⟩
      · rw [z] at e3; cases e3
      · rw [z] at e3; cases e3; exact ⟨v, w1, w2⟩
    · rw [hσ i ne]; exact ok.dat i d e3
  · rcases set_some e with ⟨ei, e3, _⟩ | ⟨ne, e3⟩
    · rcases hs with z | ⟨d', v, z, w1, w2⟩ <;> rw [z] at e3 <;> cases e3
    · rw [hσ i ne]; exact ok.frz i d e3
  · obtain ⟨ne, e⟩ := no e
    rw [hσ i ne]; exact ok.own i c' p l e
  · obtain ⟨c', l, h1, h2⟩ := ok.pinned q hq
    refine ⟨c', l, ?_, h2⟩
    rw [List.getElem?_set_ne]
    · exact h1
    · intro z
      subst z
      exact freeAt_pin hf h1
  · obtain ⟨p, h1, h2⟩ := ok.locked q hq
    refine ⟨p, ?_, h2⟩
    rw [List.getElem?_set_ne]
    · exact h1
    · intro z
      subst z
      exact freeAt_lock hf h1
  · refine RwOk.step ok.rws rfl rfl (Same.refl _) (fun x u ex n1 n2 _ => ⟨ex, n1, n2⟩) (fun i ls e => ?_) (fun i c' p l b e hb => .inl ⟨i, c', p, l, (no e).2, hb⟩)
    rcases set_some e with ⟨_, e, _⟩ | ⟨ne, e⟩
    · rcases hs with z | ⟨_, _, z, _⟩ <;> rw [z] at e <;> cases e
    · exact ⟨e, rfl, fun _ => hσ i ne⟩
theorem Ok.set (ok : Ok C Hs A g σ H) (e : setDat j d g = some g') (hj : j < C.n) (h : Dz C.K Hs v d) : Ok C Hs A g' (σ.set j (some v)) H := by
  unfold setDat at e
  split at e
  · rename_i hf
    cases e
    refine ok.put hf (by rw [List.length_set]) (fun i ne => List.getElem?_set_ne (Ne.symm ne)) (.inr ⟨d, v, rfl, ?_, h⟩)
    exact List.getElem?_set_self (by rw [ok.ln]; exact hj)
  · cases e
/-- a container held aside becomes the slot's own -/
theorem Ok.move (ok : Ok C Hs A g σ H) {t : Nat} {c : Cn} {a : Addr} (hf : freeAt j g = true) (hj : j < C.n) (ht : C.n ≤ t) (e : g[t]? = some (.own c false false)) (ha : A[t]? = some a) :
    Ok C Hs (A.set j a) ((g.set j (.own c false false)).set t .un) (σ.set j (some (.ref a))) H := by
  have htl := (List.getElem?_eq_some_iff.mp e).1
  have hjl := freeAt_lt hf
  have jt : j ≠ t := by omega
  have oc : ∀ {i : Nat} {s : Sl}, ((g.set j (.own c false false)).set t .un)[i]? = some s → (i = t ∧ s = .un) ∨ (i = j ∧ s = .own c false false) ∨ (i ≠ t ∧ i ≠ j ∧ g[i]? = some s) := fun {i s} e => by
    rcases set_some e with ⟨ei, e, _⟩ | ⟨ne, e⟩
    · exact .inl ⟨ei, e⟩
    · rcases set_some e with ⟨ei, e, _⟩ | ⟨ne2, e⟩
      · exact .inr (.inl ⟨ei, e⟩)
      · exact .inr (.inr ⟨ne, ne2, e⟩)
  have A1 : (A.set j a)[j]? = some a := List.getElem?_set_self (by rw [ok.la]; exact hjl)
  have A2 : ∀ (i : Nat), i ≠ j → (A.set j a)[i]? = A[i]? := fun i ne => List.getElem?_set_ne (Ne.symm ne)
  have S2 : ∀ (i : Nat), i ≠ j → (σ.set j (some (V.ref a)))[i]? = σ[i]? := fun i ne => List.getElem?_set_ne (Ne.symm ne)
  obtain ⟨a0, o, q1, q2, q3, q4, q5, q6⟩ := ok.own t c _ _ e
  rw [ha] at q1
  have ea : a = a0 := Option.some.inj q1
  subst ea
  have neo : ∀ {i : Nat} {c' : Cn} {p l : Bool} {a' : Addr}, i ≠ t → g[i]? = some (.own c' p l) → A[i]? = some a' → a' ≠ a := fun {i c' p l a'} ne e' h z => by
    subst z
    exact ne (ok.inj i t _ _ _ _ _ _ a' e' e h ha)
  refine ⟨by rw [List.length_set]; exact ok.ln, by rw [List.length_set, List.length_set]; exact ok.lg, by rw [List.length_set, List.length_set, List.length_set]; exact ok.la, ok.base, ok.same, fun i d e => ?_, fun i d e => ?_, fun i c' p l e => ?_, fun i k c1 p1 l1 c2 p2 l2 a' e1' e2' h1 h2 => ?_, ok.grow, ok.keep, fun q hq => ?_, fun i c' l a' e ha => ?_, fun q hq => ?_, ?_⟩
  · rcases oc e with ⟨_, e⟩ | ⟨_, e⟩ | ⟨_, ne, e⟩
    · cases e
    · cases e
    · rw [S2 i ne]; exact ok.dat i d e
  · rcases oc e with ⟨_, e⟩ | ⟨_, e⟩ | ⟨_, ne, e⟩
    · cases e
    · cases e
    · rw [S2 i ne, A2 i ne]; exact ok.frz i d e
  · rcases oc e with ⟨_, e⟩ | ⟨ei, e⟩ | ⟨_, ne, e⟩
    · cases e
    · cases e
      subst ei
      exact ⟨a, o, A1, fun _ => List.getElem?_set_self (by rw [ok.ln]; exact hj), q3, q4, q5, fun _ => q6 rfl⟩
    · rw [S2 i ne, A2 i ne]; exact ok.own i c' p l e
  · rcases oc e1' with ⟨_, e1⟩ | ⟨ei, e1⟩ | ⟨nt, ne, e1⟩
    · cases e1
    · rcases oc e2' with ⟨_, e2⟩ | ⟨ek, e2⟩ | ⟨nt2, ne2, e2⟩
      · cases e2
      · omega
      · subst ei
        rw [A1] at h1
        rw [A2 k ne2] at h2
        exact absurd (Option.some.inj h1).symm (neo nt2 e2 h2)
    · rcases oc e2' with ⟨_, e2⟩ | ⟨ek, e2⟩ | ⟨nt2, ne2, e2⟩
      · cases e2
      · subst ek
        rw [A1] at h2
        rw [A2 i ne] at h1
        exact absurd (Option.some.inj h2).symm (neo nt e1 h1)
      · rw [A2 i ne] at h1
        rw [A2 k ne2] at h2
        exact ok.inj i k _ _ _ _ _ _ a' e1 e2 h1 h2
  · obtain ⟨c', l, h1, h2⟩ := ok.pinned q hq
    have n1 : q.1 ≠ j := fun z => by rw [z] at h1; exact freeAt_pin hf h1
    have n2 : q.1 ≠ t := fun z => by rw [z, e] at h1; cases h1
    refine ⟨c', l, ?_, by rw [A2 _ n1]; exact h2⟩
    rw [List.getElem?_set_ne (Ne.symm n2), List.getElem?_set_ne (Ne.symm n1)]
    exact h1
  · rcases oc e with ⟨_, e⟩ | ⟨ei, e⟩ | ⟨_, ne, e⟩
    · cases e
    · cases e
    · rw [A2 i ne] at ha
      exact ok.pin1 i c' l a' e ha
  · obtain ⟨p, h1, h2⟩ := ok.locked q hq
    have n1 : q.1 ≠ j := fun z => by rw [z] at h1; exact freeAt_lock hf h1
    have n2 : q.1 ≠ t := fun z => by rw [z, e] at h1; cases h1
    refine ⟨p, ?_, by rw [A2 _ n1]; exact h2⟩
    rw [List.getElem?_set_ne (Ne.symm n2), List.getElem?_set_ne (Ne.symm n1)]
    exact h1
  · refine RwOk.step ok.rws rfl rfl (Same.refl _) (fun x u ex n1 n2 _ => ⟨ex, n1, n2⟩) (fun i ls e => ?_) (fun i c' p l b e2 hb => ?_)
    · rcases oc e with ⟨_, e⟩ | ⟨_, e⟩ | ⟨_, ne, e⟩
      · cases e
      · cases e
      · exact ⟨e, A2 i ne, fun _ => S2 i ne⟩
    · rcases oc e2 with ⟨_, e2⟩ | ⟨ei, e2⟩ | ⟨_, ne, e2⟩
      · cases e2
      · subst ei
        rw [A1] at hb
        exact .inl ⟨t, _, _, _, e, ha.trans hb⟩
      · rw [A2 i ne] at hb
        exact .inl ⟨i, c', p, l, e2, hb⟩
/-- what was held aside is dropped -/
theorem Ok.cut (ok : Ok C Hs A g σ H) : Ok C Hs (A.take C.n) (g.take C.n) σ H := by
  have tk : ∀ {α : Type} {l : List α} {i : Nat} {s : α}, (l.take C.n)[i]? = some s → i < C.n ∧ l[i]? = some s := fun {α l i s} e => by
    by_cases h : i < C.n
    · rw [List.getElem?_take_of_lt h] at e; exact ⟨h, e⟩
    · have := (List.getElem?_eq_some_iff.mp e).1
      rw [List.length_take] at this; omega
  have kt : ∀ {α : Type} {l : List α} {i : Nat} {s : α}, i < C.n → l[i]? = some s → (l.take C.n)[i]? = some s := fun {α l i s} h e => by
    rw [List.getElem?_take_of_lt h]; exact e
  refine ⟨ok.ln, by rw [List.length_take]; have := ok.lg; omega, by rw [List.length_take, List.length_take, ok.la], ok.base, ok.same, fun i d e => ok.dat i d (tk e).2, fun i d e => ?_, fun i c' p l e => ?_, fun i k c1 p1 l1 c2 p2 l2 a' e1 e2 h1 h2 => ok.inj i k _ _ _ _ _ _ a' (tk e1).2 (tk e2).2 (tk h1).2 (tk h2).2, ok.grow, ok.keep, fun q hq => ?_, fun i c' l a' e ha => ok.pin1 i c' l a' (tk e).2 (tk ha).2, fun q hq => ?_, ?_⟩
  · obtain ⟨a, q1, q2⟩ := ok.frz i d (tk e).2
    exact ⟨a, kt (tk e).1 q1, q2⟩
  · obtain ⟨a, o, q1, q2⟩ := ok.own i c' p l (tk e).2
    exact ⟨a, o, kt (tk e).1 q1, q2⟩
  · obtain ⟨c', l, h1, h2⟩ := ok.pinned q hq
    exact ⟨c', l, kt (C.plt q hq) h1, kt (C.plt q hq) h2⟩
  · obtain ⟨p, h1, h2⟩ := ok.locked q hq
    exact ⟨p, kt (C.llt q hq) h1, kt (C.llt q hq) h2⟩
  · exact RwOk.step ok.rws rfl rfl (Same.refl _) (fun x u ex n1 n2 _ => ⟨ex, n1, n2⟩) (fun i ls e => ⟨(tk e).2, List.getElem?_take_of_lt (tk e).1, fun _ => rfl⟩) (fun i c' p l b e hb => .inl ⟨i, c', p, l, (tk e).2, (tk hb).2⟩)
/-- the container at j is written -/
theorem Ok.wr (ok : Ok C Hs A g σ H) {c c' : Cn} {p : Bool} {a : Addr} {o : HO} (e : g[j]? = some (.own c p false)) (ha : A[j]? = some a) (hc : CnOk C.K Hs c' o) : Ok C Hs A (g.set j (.own c' p false)) σ (upd H a o) := by
  obtain ⟨a0, o0, q1, q2, q3, q4, q5, q6⟩ := ok.own j c _ _ e
  rw [ha] at q1
  have ea : a = a0 := Option.some.inj q1
  subst ea
  have hj := (List.getElem?_eq_some_iff.mp e).1
  have oc : ∀ {i : Nat} {s : Sl}, (g.set j (.own c' p false))[i]? = some s → (i = j ∧ s = .own c' p false) ∨ (i ≠ j ∧ g[i]? = some s) := fun {i s} e => by
    rcases set_some e with ⟨ei, e, _⟩ | ⟨ne, e⟩
    · exact .inl ⟨ei, e⟩
    · exact .inr ⟨ne, e⟩
  have ow : ∀ {i : Nat} {c1 : Cn} {p1 l1 : Bool}, (g.set j (.own c' p false))[i]? = some (.own c1 p1 l1) → ∃ c2, g[i]? = some (.own c2 p1 l1) := fun {i c1 p1 l1} e' => by
    rcases oc e' with ⟨ei, e'⟩ | ⟨_, e'⟩
    · cases e'; subst ei; exact ⟨c, e⟩
    · exact ⟨c1, e'⟩
  refine ⟨ok.ln, by rw [List.length_set]; exact ok.lg, by rw [List.length_set]; exact ok.la, ok.base, fun b o' e => ?_, fun i d e => ?_, fun i d e => ?_, fun i c1 p1 l1 e1 => ?_, fun i k c1 p1 l1 c2 p2 l2 a' e1 e2 h1 h2 => ?_, ok.grow, fun b o' e2 k => ?_, fun q hq => ?_, fun i c1 l1 a' e1 ha' => ?_, fun q hq => ?_, ?_⟩
  · rw [upd_ne (fun z => by rw [z, q3] at e; cases e)]
    exact ok.same b o' e
  · rcases oc e with ⟨_, e⟩ | ⟨_, e⟩
    · cases e
    · exact ok.dat i d e
  · rcases oc e with ⟨_, e⟩ | ⟨_, e⟩
    · cases e
    · exact ok.frz i d e
  · rcases oc e1 with ⟨ei, e1⟩ | ⟨ne, e1⟩
    · cases e1
      subst ei
      exact ⟨a, o, ha, q2, q3, upd_same, hc, q6⟩
    · obtain ⟨a', o', w1, w2, w3, w4, w5, w6⟩ := ok.own i c1 p1 l1 e1
      have na : a' ≠ a := fun z => by
        subst z
        exact ne (ok.inj i j _ _ _ _ _ _ a' e1 e w1 ha)
      exact ⟨a', o', w1, w2, w3, by rw [upd_ne na]; exact w4, w5, w6⟩
  · obtain ⟨x, hx⟩ := ow e1
    obtain ⟨y, hy⟩ := ow e2
    exact ok.inj i k _ _ _ _ _ _ a' hx hy h1 h2
  · have nb : b ≠ a := fun z => by
      subst z
      cases p with
      | true => exact k _ (ok.pin1 j c false b e ha) rfl
      | false => rw [q6 rfl] at e2; cases e2
    rw [upd_ne nb]
    exact ok.keep b o' e2 k
  · obtain ⟨c1, l, h1, h2⟩ := ok.pinned q hq
    by_cases z : q.1 = j
    · rw [z, e] at h1
      cases h1
      exact ⟨c', false, by rw [z]; exact List.getElem?_set_self hj, h2⟩
    · exact ⟨c1, l, by rw [List.getElem?_set_ne (Ne.symm z)]; exact h1, h2⟩
  · rcases oc e1 with ⟨ei, e1⟩ | ⟨ne, e1⟩
    · cases e1
      subst ei
      exact ok.pin1 i c false a' e ha'
    · exact ok.pin1 i c1 l1 a' e1 ha'
  · obtain ⟨p', h1, h2⟩ := ok.locked q hq
    have n1 : q.1 ≠ j := fun z => by rw [z, e] at h1; cases h1
    exact ⟨p', by rw [List.getElem?_set_ne (Ne.symm n1)]; exact h1, h2⟩
  · refine RwOk.step ok.rws rfl rfl (Same.refl _) (fun x u ex n1 n2 no => ⟨by rw [upd_ne (fun z => no j c _ _ e (by rw [z]; exact ha))]; exact ex, n1, n2⟩) (fun i ls e => ?_) (fun i c1 p1 l1 b e1 hb => ?_)
    · rcases oc e with ⟨_, e⟩ | ⟨_, e⟩
      · cases e
      · exact ⟨e, rfl, fun _ => rfl⟩
    · obtain ⟨x, hx⟩ := ow e1
      exact .inl ⟨i, _, _, _, hx, hb⟩
/-- locked and unlocked: C' has other locks -/
theorem Ok.lk {C' : Ct} (ok : Ok C Hs A g σ H) {c : Cn} {p l l' : Bool} (e : g[j]? = some (.own c p l)) (hK : C'.K = C.K) (hn : C'.n = C.n) (h0 : C'.H0 = C.H0) (hs0 : C'.Hs0 = C.Hs0) (hp : C'.pins = C.pins)
    (hl : ∀ q ∈ C'.locks, (q.1 = j ∧ q.2.2 = c ∧ l' = true ∧ A[j]? = some q.2.1) ∨ (q.1 ≠ j ∧ q ∈ C.locks)) : Ok C' Hs A (g.set j (.own c p l')) σ H := by
  have hj := (List.getElem?_eq_some_iff.mp e).1
  have oc : ∀ {i : Nat} {s : Sl}, (g.set j (.own c p l'))[i]? = some s → (i = j ∧ s = .own c p l') ∨ (i ≠ j ∧ g[i]? = some s) := fun {i s} e => by
    rcases set_some e with ⟨ei, e, _⟩ | ⟨ne, e⟩
    · exact .inl ⟨ei, e⟩
    · exact .inr ⟨ne, e⟩
  have ow : ∀ {i : Nat} {c1 : Cn} {p1 l1 : Bool}, (g.set j (.own c p l'))[i]? = some (.own c1 p1 l1) → ∃ l2, g[i]? = some (.own c1 p1 l2) := fun {i c1 p1 l1} e' => by
    rcases oc e' with ⟨ei, e'⟩ | ⟨_, e'⟩
    · cases e'; subst ei; exact ⟨l, e⟩
    · exact ⟨l1, e'⟩
  refine ⟨by rw [hn]; exact ok.ln, by rw [List.length_set, hn]; exact ok.lg, by rw [List.length_set]; exact ok.la, by rw [hs0]; exact ok.base, ok.same, fun i d e => ?_, fun i d e => ?_, fun i c1 p1 l1 e1 => ?_, fun i k c1 p1 l1 c2 p2 l2 a' e1 e2 h1 h2 => ?_, by rw [hs0, h0]; exact ok.grow, by rw [h0, hp]; exact ok.keep, fun q hq => ?_, fun i c1 l1 a' e1 ha => ?_, fun q hq => ?_, ?_⟩
  · rcases oc e with ⟨_, e⟩ | ⟨_, e⟩
    · cases e
    · rw [hK]; exact ok.dat i d e
  · rcases oc e with ⟨_, e⟩ | ⟨_, e⟩
    · cases e
    · rw [hK, hn]; exact ok.frz i d e
  · obtain ⟨l2, h⟩ := ow e1
    rw [hK, hn, h0]
    exact ok.own i c1 p1 l2 h
  · obtain ⟨x, hx⟩ := ow e1
    obtain ⟨y, hy⟩ := ow e2
    exact ok.inj i k _ _ _ _ _ _ a' hx hy h1 h2
  · obtain ⟨c1, l1, h1, h2⟩ := ok.pinned q (by rw [← hp]; exact hq)
    by_cases z : q.1 = j
    · rw [z, e] at h1
      cases h1
      exact ⟨c, l', by rw [z]; exact List.getElem?_set_self hj, h2⟩
    · exact ⟨c1, l1, by rw [List.getElem?_set_ne (Ne.symm z)]; exact h1, h2⟩
  · obtain ⟨l2, h⟩ := ow e1
    rw [hp]
    exact ok.pin1 i c1 l2 a' h ha
  · rcases hl q hq with ⟨e1, e2, e3, e4⟩ | ⟨ne, hq⟩
    · exact ⟨p, by rw [e1, List.getElem?_set_self hj, e2, e3], by rw [e1]; exact e4⟩
    · obtain ⟨p', h1, h2⟩ := ok.locked q hq
      exact ⟨p', by rw [List.getElem?_set_ne (Ne.symm ne)]; exact h1, h2⟩
  · refine RwOk.step ok.rws hK hn (Same.refl _) (fun x u ex n1 n2 _ => ⟨ex, n1, by rw [h0]; exact n2⟩) (fun i ls e => ?_) (fun i c1 p1 l1 b e1 hb => ?_)
    · rcases oc e with ⟨_, e⟩ | ⟨_, e⟩
      · cases e
      · exact ⟨e, rfl, fun _ => rfl⟩
    · obtain ⟨l2, h⟩ := ow e1
      exact .inl ⟨i, _, _, _, h, hb⟩
theorem Kd.low {K : PySem.W.Frag} {Hs H0 H1 H : Hp} {a : Addr} {ks : List Addr} {ls : List (List D)} (k : Kd K Hs H1 H a ks ls) (h : ∀ x ∈ a :: ks, H0 x = none) : Kd K Hs H0 H a ks ls :=
  ⟨k.hd, k.nd, fun x m => ⟨(k.fr x m).1, h x m⟩, k.kd⟩
theorem Ok.deadO (ok : Ok C Hs A g σ H) {c : Cn} {p l : Bool} {b : Addr} (e1 : g[j]? = some (.own c p l)) (e2 : A[j]? = some b) (h : H b = none) : False := by
  obtain ⟨a', o, ha, _, _, ho, _⟩ := ok.own j c p l e1
  rw [e2] at ha
  cases ha
  rw [h] at ho; cases ho
theorem Ok.deadR (ok : Ok C Hs A g σ H) {ms : List (List D)} {b x : Addr} (e1 : g[j]? = some (.rws ms)) (e2 : A[j]? = some b) (m : x ∈ b :: kidsOf (H b)) (h : H x = none) : False := by
  obtain ⟨a', ks, ha, _, k, _⟩ := ok.rws j ms e1
  rw [e2] at ha
  cases ha
  rw [k.hd, kidsOf_refs] at m
  obtain ⟨o, ho⟩ := k.live x m
  rw [h] at ho; cases ho
/-- a list of lists of its own, held aside -/
theorem Ok.addR (ok : Ok C Hs A g σ H) {a : Addr} {ks : List Addr} {ls : List (List D)} (k0 : Kd C.K Hs C.H0 H a ks ls)
    (hno : ∀ (j : Nat) (c : Cn) (p l : Bool) (b : Addr), g[j]? = some (.own c p l) → A[j]? = some b → b ∉ a :: ks)
    (hnr : ∀ (j : Nat) (ms : List (List D)) (b x : Addr), g[j]? = some (.rws ms) → A[j]? = some b → x ∈ b :: kidsOf (H b) → x ∈ a :: ks → False) : Ok C Hs (A ++ [a]) (g ++ [.rws ls]) σ H := by
  have old : ∀ (i : Nat) (s : Sl), (g ++ [Sl.rws ls])[i]? = some s → (i < g.length ∧ g[i]? = some s) ∨ (i = g.length ∧ s = .rws ls) := fun i s e => by
    by_cases hi : i < g.length
    · rw [List.getElem?_append_left hi] at e; exact .inl ⟨hi, e⟩
    · rw [List.getElem?_append_right (by omega)] at e
      have : i - g.length = 0 := by
        have := (List.getElem?_eq_some_iff.mp e).1
        simp at this; omega
      rw [this] at e
      exact .inr ⟨by omega, (Option.some.inj e).symm⟩
  have pre := Pre.app A [a]
  have last : (A ++ [a])[g.length]? = some a := by rw [← ok.la]; simp
  have alt : ∀ {i : Nat}, i < g.length → (A ++ [a])[i]? = A[i]? := fun {i} hi => List.getElem?_append_left (by rw [ok.la]; exact hi)
  refine ⟨ok.ln, by rw [List.length_append]; have := ok.lg; omega, by simp [ok.la], ok.base, ok.same, fun i d e => ?_, fun i d e => ?_, fun i c' p l e => ?_, fun i j c1 p1 l1 c2 p2 l2 a' e1 e2 h1 h2 => ?_, ok.grow, ok.keep, fun q hq => ?_, fun i c' l a' e ha => ?_, fun q hq => ?_, fun i ms e => ?_⟩
  · rcases old i _ e with ⟨_, e⟩ | ⟨_, e⟩
    · exact ok.dat i d e
    · cases e
  · rcases old i _ e with ⟨_, e⟩ | ⟨_, e⟩
    · obtain ⟨a', q1, q2, q3⟩ := ok.frz i d e
      exact ⟨a', pre _ _ q1, q2, q3⟩
    · cases e
  · rcases old i _ e with ⟨_, e⟩ | ⟨_, e⟩
    · obtain ⟨a', o', q1, q2⟩ := ok.own i c' p l e
      exact ⟨a', o', pre _ _ q1, q2⟩
    · cases e
  · rcases old i _ e1 with ⟨hi, e1⟩ | ⟨_, e1⟩
    · rcases old j _ e2 with ⟨hj, e2⟩ | ⟨_, e2⟩
      · rw [alt hi] at h1
        rw [alt hj] at h2
        exact ok.inj i j _ _ _ _ _ _ a' e1 e2 h1 h2
      · cases e2
    · cases e1
  · obtain ⟨c', l, h1, h2⟩ := ok.pinned q hq
    have hi := (List.getElem?_eq_some_iff.mp h1).1
    exact ⟨c', l, by rw [List.getElem?_append_left hi]; exact h1, pre _ _ h2⟩
  · rcases old i _ e with ⟨hi, e⟩ | ⟨_, e⟩
    · rw [alt hi] at ha
      exact ok.pin1 i c' l a' e ha
    · cases e
  · obtain ⟨p, h1, h2⟩ := ok.locked q hq
    have hi := (List.getElem?_eq_some_iff.mp h1).1
    exact ⟨p, by rw [List.getElem?_append_left hi]; exact h1, pre _ _ h2⟩
  · rcases old i _ e with ⟨hi, e⟩ | ⟨ei, e⟩
    · obtain ⟨b, bs, r1, r2, r3, r4, r5⟩ := ok.rws i ms e
      refine ⟨b, bs, pre _ _ r1, r2, r3, fun k c p l y ek ay m => ?_, fun k ns y x ek ay m1 m2 => ?_⟩
      · rcases old k _ ek with ⟨hk, ek⟩ | ⟨_, ek⟩
        · rw [alt hk] at ay
          exact r4 k c p l y ek ay m
        · cases ek
      · rcases old k _ ek with ⟨hk, ek⟩ | ⟨ek', ek⟩
        · rw [alt hk] at ay
          exact r5 k ns y x ek ay m1 m2
        · subst ek'
          rw [last] at ay
          cases ay
          rw [k0.hd, kidsOf_refs] at m1
          exact (hnr i ms b x e r1 (by rw [r3.hd, kidsOf_refs]; exact m2) m1).elim
    · cases e
      subst ei
      refine ⟨a, ks, last, fun hi => absurd hi (by have := ok.lg; omega), k0, fun k c p l y ek ay m => ?_, fun k ns y x ek ay m1 m2 => ?_⟩
      · rcases old k _ ek with ⟨hk, ek⟩ | ⟨_, ek⟩
        · rw [alt hk] at ay
          exact hno k c p l y ek ay m
        · cases ek
      · rcases old k _ ek with ⟨hk, ek⟩ | ⟨ek', _⟩
        · rw [alt hk] at ay
          exact (hnr k ns y x ek ay m1 m2).elim
        · exact ek'
/-- .. becomes the slot's own -/
theorem Ok.moveR (ok : Ok C Hs A g σ H) {t : Nat} {ls : List (List D)} {a : Addr} (hf : freeAt j g = true) (hj : j < C.n) (ht : C.n ≤ t) (e0 : g[t]? = some (.rws ls)) (ha0 : A[t]? = some a) :
    Ok C Hs (A.set j a) ((g.set j (.rws ls)).set t .un) (σ.set j (some (.ref a))) H := by
  have htl := (List.getElem?_eq_some_iff.mp e0).1
  have hjl := freeAt_lt hf
  have jt : j ≠ t := by omega
  have oc : ∀ {i : Nat} {s : Sl}, ((g.set j (.rws ls)).set t .un)[i]? = some s → (i = t ∧ s = .un) ∨ (i = j ∧ s = .rws ls) ∨ (i ≠ t ∧ i ≠ j ∧ g[i]? = some s) := fun {i s} e => by
    rcases set_some e with ⟨ei, e, _⟩ | ⟨ne, e⟩
    · exact .inl ⟨ei, e⟩
    · rcases set_some e with ⟨ei, e, _⟩ | ⟨ne2, e⟩
      · exact .inr (.inl ⟨ei, e⟩)
      · exact .inr (.inr ⟨ne, ne2, e⟩)
  have A1 : (A.set j a)[j]? = some a := List.getElem?_set_self (by rw [ok.la]; exact hjl)
  have A2 : ∀ (i : Nat), i ≠ j → (A.set j a)[i]? = A[i]? := fun i ne => List.getElem?_set_ne (Ne.symm ne)
  have S2 : ∀ (i : Nat), i ≠ j → (σ.set j (some (V.ref a)))[i]? = σ[i]? := fun i ne => List.getElem?_set_ne (Ne.symm ne)
  obtain ⟨a0, ks, q1, q2, q3, q4, q5⟩ := ok.rws t ls e0
  rw [ha0] at q1
  have ea : a = a0 := Option.some.inj q1
  subst ea
  refine ⟨by rw [List.length_set]; exact ok.ln, by rw [List.length_set, List.length_set]; exact ok.lg, by rw [List.length_set, List.length_set, List.length_set]; exact ok.la, ok.base, ok.same, fun i d e => ?_, fun i d e => ?_, fun i c' p l e => ?_, fun i k c1 p1 l1 c2 p2 l2 a' e1' e2' h1 h2 => ?_, ok.grow, ok.keep, fun q hq => ?_, fun i c' l a' e ha => ?_, fun q hq => ?_, fun i ms e => ?_⟩
  · rcases oc e with ⟨_, e⟩ | ⟨_, e⟩ | ⟨_, ne, e⟩
    · cases e
    · cases e
    · rw [S2 i ne]; exact ok.dat i d e
  · rcases oc e with ⟨_, e⟩ | ⟨_, e⟩ | ⟨_, ne, e⟩
    · cases e
    · cases e
    · rw [S2 i ne, A2 i ne]; exact ok.frz i d e
  · rcases oc e with ⟨_, e⟩ | ⟨ei, e⟩ | ⟨_, ne, e⟩
    · cases e
    · cases e
    · rw [S2 i ne, A2 i ne]; exact ok.own i c' p l e
  · rcases oc e1' with ⟨_, e1⟩ | ⟨ei, e1⟩ | ⟨nt, ne, e1⟩
    · cases e1
    · cases e1
    · rcases oc e2' with ⟨_, e2⟩ | ⟨ek, e2⟩ | ⟨nt2, ne2, e2⟩
      · cases e2
      · cases e2
      · rw [A2 i ne] at h1
        rw [A2 k ne2] at h2
        exact ok.inj i k _ _ _ _ _ _ a' e1 e2 h1 h2
  · obtain ⟨c', l, h1, h2⟩ := ok.pinned q hq
    have n1 : q.1 ≠ j := fun z => by rw [z] at h1; exact freeAt_pin hf h1
    have n2 : q.1 ≠ t := fun z => by rw [z, e0] at h1; cases h1
    refine ⟨c', l, ?_, by rw [A2 _ n1]; exact h2⟩
    rw [List.getElem?_set_ne (Ne.symm n2), List.getElem?_set_ne (Ne.symm n1)]
    exact h1
  · rcases oc e with ⟨_, e⟩ | ⟨ei, e⟩ | ⟨_, ne, e⟩
    · cases e
    · cases e
    · rw [A2 i ne] at ha
      exact ok.pin1 i c' l a' e ha
  · obtain ⟨p, h1, h2⟩ := ok.locked q hq
    have n1 : q.1 ≠ j := fun z => by rw [z] at h1; exact freeAt_lock hf h1
    have n2 : q.1 ≠ t := fun z => by rw [z, e0] at h1; cases h1
    refine ⟨p, ?_, by rw [A2 _ n1]; exact h2⟩
    rw [List.getElem?_set_ne (Ne.symm n2), List.getElem?_set_ne (Ne.symm n1)]
    exact h1
  · rcases oc e with ⟨_, e⟩ | ⟨ei, e⟩ | ⟨nt, ne, e⟩
    · cases e
    · cases e
      subst ei
      refine ⟨a, ks, A1, fun _ => List.getElem?_set_self (by rw [ok.ln]; exact hj), q3, fun k c p l b ek ab => ?_, fun k ns b x ek ab m1 m2 => ?_⟩
      · rcases oc ek with ⟨_, ek⟩ | ⟨_, ek⟩ | ⟨_, nk, ek⟩
        · cases ek
        · cases ek
        · rw [A2 k nk] at ab
          exact q4 k c p l b ek ab
      · rcases oc ek with ⟨_, ek⟩ | ⟨ek', _⟩ | ⟨nt2, nk, ek⟩
        · cases ek
        · exact ek'
        · rw [A2 k nk] at ab
          exact absurd (q5 k ns b x ek ab m1 m2) nt2
    · obtain ⟨b, bs, r1, r2, r3, r4, r5⟩ := ok.rws i ms e
      refine ⟨b, bs, by rw [A2 i ne]; exact r1, by rw [S2 i ne]; exact r2, r3, fun k c p l y ek ay => ?_, fun k ns y x ek ay m1 m2 => ?_⟩
      · rcases oc ek with ⟨_, ek⟩ | ⟨_, ek⟩ | ⟨_, nk, ek⟩
        · cases ek
        · cases ek
        · rw [A2 k nk] at ay
          exact r4 k c p l y ek ay
      · rcases oc ek with ⟨_, ek⟩ | ⟨ek', ek⟩ | ⟨_, nk, ek⟩
        · cases ek
        · subst ek'
          rw [A1] at ay
          cases ay
          exact absurd (r5 t ls a x e0 ha0 m1 m2).symm nt
        · rw [A2 k nk] at ay
          exact r5 k ns y x ek ay m1 m2
end
end Z
set_option Elab.async false
set_option linter.all false
set_option maxRecDepth 100000
set_option maxHeartbeats 4000000
namespace Z
open PySem PySem.Spec PyProof.Rows L2
abbrev G := List Sl
abbrev ZM := G → Option (R × G)
abbrev ZT := G → Option (Bool × G)
abbrev ZAr := G → Option (List R × G)
def RelRs (K : PySem.W.Frag) (Hs : Hp) (A : List Addr) : List V → List R → Prop
  | [], [] => True
  | v :: vs, r :: rs => RelR K Hs A v r ∧ RelRs K Hs A vs rs
  | _, _ => False
theorem RelRs.mono {K : PySem.W.Frag} {Hs Hs' : Hp} {A A' : List Addr} (s : Same Hs Hs') (p : Pre A A') : ∀ {vs : List V} {rs : List R}, RelRs K Hs A vs rs → RelRs K Hs' A' vs rs
  | [], [], _ => trivial
  | _ :: _, _ :: _, h => ⟨h.1.mono s p, RelRs.mono s p h.2⟩
  | [], _ :: _, h => h.elim
  | _ :: _, [], h => h.elim
/-- readings by data: n the number of the def's names -/
def tZ (K : PySem.W.Frag) (n : Nat) (m : ZM) : TE := fun σ H Q => ∃ (C : Ct) (Hs : Hp) (A : List Addr) (g : G) (r : R) (g' : G), C.K = K ∧ C.n = n ∧ Ok C Hs A g σ H ∧ m g = some (r, g') ∧
  ∀ (Hs' : Hp) (A' : List Addr) (v : V) (H' : Hp), Same Hs Hs' → Pre A A' → Ok C Hs' A' g' σ H' → RelR C.K Hs' A' v r → Q v H'
def tZT (K : PySem.W.Frag) (n : Nat) (m : ZT) : TT := fun σ H Q => ∃ (C : Ct) (Hs : Hp) (A : List Addr) (g : G) (b : Bool) (g' : G), C.K = K ∧ C.n = n ∧ Ok C Hs A g σ H ∧ m g = some (b, g') ∧
  ∀ (Hs' : Hp) (A' : List Addr) (H' : Hp), Same Hs Hs' → Pre A A' → Ok C Hs' A' g' σ H' → Q b H'
def tZA (K : PySem.W.Frag) (n : Nat) (m : ZAr) : TA := fun σ H Q => ∃ (C : Ct) (Hs : Hp) (A : List Addr) (g : G) (rs : List R) (g' : G), C.K = K ∧ C.n = n ∧ Ok C Hs A g σ H ∧ m g = some (rs, g') ∧
  ∀ (Hs' : Hp) (A' : List Addr) (vs : List V) (H' : Hp), Same Hs Hs' → Pre A A' → Ok C Hs' A' g' σ H' → RelRs C.K Hs' A' vs rs → Q vs H'
theorem PE.of {X : Cx} {e : Expr} {t t' : TE} (h : PE X e t) (w : ∀ σ H Q, t' σ H Q → t σ H Q) : PE X e t' := ⟨fun pins s σ H Q I q => h.run pins s σ H Q I (w σ H Q q)⟩
theorem PT.of {X : Cx} {e : Expr} {t t' : TT} (h : PT X e t) (w : ∀ σ H Q, t' σ H Q → t σ H Q) : PT X e t' := ⟨fun pins s σ H Q I q => h.run pins s σ H Q I (w σ H Q q)⟩
theorem PW.of {X : Cx} {e : Expr} {t t' : TT} (h : PW X e t) (w : ∀ σ H Q, t' σ H Q → t σ H Q) : PW X e t' := ⟨fun wh pins s σ H Q I q => h.run wh pins s σ H Q I (w σ H Q q)⟩
theorem PA.of {X : Cx} {es : List Expr} {t t' : TA} (h : PA X es t) (w : ∀ σ H Q, t' σ H Q → t σ H Q) : PA X es t' := ⟨fun pos pins s σ H Q I q => h.run pos pins s σ H Q I (w σ H Q q)⟩
theorem PS.of {X : Cx} {st : Stmt} {t t' : TS} (h : PS X st t) (w : ∀ D σ H, t' D σ H → t D σ H) : PS X st t' := ⟨fun pins s σ H D I q => h.run pins s σ H D I (w D σ H q)⟩
theorem PSs.of {X : Cx} {st : List Stmt} {t t' : TS} (h : PSs X st t) (w : ∀ D σ H, t' D σ H → t D σ H) : PSs X st t' := ⟨fun pins s σ H D I q => h.run pins s σ H D I (w D σ H q)⟩
abbrev ZE (X : Cx) (e : Expr) (m : ZM) : Prop := PE X e (tZ X.K X.N.length m)
abbrev ZTe (X : Cx) (e : Expr) (m : ZT) : Prop := PT X e (tZT X.K X.N.length m)
abbrev ZW (X : Cx) (e : Expr) (m : ZT) : Prop := PW X e (tZT X.K X.N.length m)
abbrev ZAs (X : Cx) (es : List Expr) (m : ZAr) : Prop := PA X es (tZA X.K X.N.length m)
def D.v : D → V
  | .non => .non | .bl b => .bl b | .int i => .int i | .str s => .str ⟨s.toArray⟩ | .raw v => v
  | _ => .non
theorem D.vz {K : PySem.W.Frag} {H : Hp} {z : D} (h : z.scal = true) : Dz K H z.v z := by
  cases z with
  | non => exact .non
  | bl b => exact .bl b
  | int i => exact .int i
  | str s => exact .str s
  | raw v => exact .raw v
  | dic _ _ => exact absurd h (by simp [D.scal])
  | obj _ _ _ => exact absurd h (by simp [D.scal])
  | tup _ => exact absurd h (by simp [D.scal])
  | lst _ => exact absurd h (by simp [D.scal])
theorem Dz.v {K : PySem.W.Frag} {H : Hp} {v : V} {z : D} (s : z.scal = true) (h : Dz K H v z) : v = z.v := by
  cases h with
  | non => rfl
  | bl b => rfl
  | int i => rfl
  | str z => rfl
  | raw v => rfl
  | dic _ _ _ => exact absurd s (by simp [D.scal])
  | obj _ _ _ _ => exact absurd s (by simp [D.scal])
  | tup _ _ => exact absurd s (by simp [D.scal])
  | lst _ _ => exact absurd s (by simp [D.scal])
def zVar (i : Nat) : ZM := fun g => match g[i]? with
  | some (.dat d) => some (.dat d, g)
  | some (.frz d) => some (.dat d, g)
  | some (.own _ _ _) => some (.bor i, g)
  | some (.rws _) => some (.bor i, g)
  | _ => none
def zC (d : D) : ZM := fun g => some (.dat d, g)
section
variable {X : Cx} {pos : Pos}
theorem ze_var {i : Nat} {x : Str} (hN : X.N[i]? = some x) (h : PE X (.Name x pos) (tVar i)) : ZE X (.Name x pos) (zVar i) := by
  refine PE.of h fun σ H Q ⟨C, Hs, A, g, r, g', hK, hn, ok, e, q⟩ => ?_
  have hi : i < C.n := by rw [hn]; exact (List.getElem?_eq_some_iff.mp hN).1
  unfold zVar at e
  split at e
  · rename_i d hg
    cases e
    obtain ⟨v, h1, h2⟩ := ok.dat i d hg
    exact ⟨v, h1, q Hs A v H (Same.refl _) (Pre.refl _) ok h2⟩
  · rename_i d hg
    cases e
    obtain ⟨a, h1, h2, h3⟩ := ok.frz i d hg
    exact ⟨_, h2 hi, q Hs A _ H (Same.refl _) (Pre.refl _) ok h3⟩
  · rename_i c p l hg
    cases e
    obtain ⟨a, o, h1, h2, _⟩ := ok.own i c p l hg
    exact ⟨_, h2 hi, q Hs A _ H (Same.refl _) (Pre.refl _) ok ⟨a, h1, rfl⟩⟩
  · rename_i ls hg
    cases e
    obtain ⟨a, ks, h1, h2, _⟩ := ok.rws i ls hg
    exact ⟨_, h2 hi, q Hs A _ H (Same.refl _) (Pre.refl _) ok ⟨a, h1, rfl⟩⟩
  · cases e
theorem ze_const {e : Expr} {v : V} {d : D} (h : PE X e (tC v)) (hd : ∀ H, Dz X.K H v d) : ZE X e (zC d) := by
  refine PE.of h fun σ H Q ⟨C, Hs, A, g, r, g', hK, hn, ok, e, q⟩ => ?_
  cases e
  exact q Hs A v H (Same.refl _) (Pre.refl _) ok (by rw [hK]; exact hd Hs)
theorem ze_int {i j} : ZE X (.Constant (.int i) j pos) (zC (.int i)) := ze_const pe_int fun _ => .int i
theorem ze_bl {b j} : ZE X (.Constant (.bool b) j pos) (zC (.bl b)) := ze_const pe_bl fun _ => .bl b
theorem ze_non {j} : ZE X (.Constant .none j pos) (zC .non) := ze_const pe_non fun _ => .non
theorem ze_str {x j} {s : List Nat} (hs : x = (⟨s.toArray⟩ : Str) := by decide +kernel) : ZE X (.Constant (.str x) j pos) (zC (.str s)) := by
  subst hs
  exact ze_const pe_str fun _ => .str s
/-- a name of the module -/
theorem ze_glob {x : Str} {u : Value} {v : V} {d : D} (hg : Gl X x) (hm : X.mg x = some u) (r : RelV v u) (hd : ∀ H, Dz X.K H v d) (hdb : (x == ("__debug__" : Str)) = false := by decide) : ZE X (.Name x pos) (zC d) := ze_const (pe_glob hg hm r hdb) hd
theorem ze_bltn {x : Str} {u : Value} {v : V} (hg : Gl X x) (hm : X.mg x = none) (hv : bootBuiltins x = some u) (r : RelV v u) (hn : x ≠ "__name__" := by decide) (hdb : (x == ("__debug__" : Str)) = false := by decide) : ZE X (.Name x pos) (zC (.raw v)) :=
  ze_const (pe_bltn hg hm hv r hn hdb) fun _ => .raw v
/-- r does on values what f does on data -/
def OpS (K : PySem.W.Frag) (r : R2) (f : D → D → Option D) : Prop := ∀ (H : Hp) (x y : V) (d e z : D) (Q : VK), Dz K H x d → Dz K H y e → f d e = some z → Q z.v H → r x y H Q
def zOp (f : D → D → Option D) (ma mb : ZM) : ZM := fun g => do
  let (r1, g1) ← ma g
  let (r2, g2) ← mb g1
  let d ← rd g2 r1
  let e ← rd g2 r2
  let z ← f d e
  if z.scal = true then some (.dat z, g2) else none
theorem zOp_some {f : D → D → Option D} {ma mb : ZM} {g g' : G} {r : R} (e : zOp f ma mb g = some (r, g')) :
    ∃ r1 g1 r2 d1 d2 z, ma g = some (r1, g1) ∧ mb g1 = some (r2, g') ∧ rd g' r1 = some d1 ∧ rd g' r2 = some d2 ∧ f d1 d2 = some z ∧ z.scal = true ∧ r = .dat z := by
  unfold zOp at e
  simp only [Option.bind_eq_bind, Option.bind_eq_some_iff] at e
  obtain ⟨⟨r1, g1⟩, h1, ⟨r2, g2⟩, h2, d1, h3, d2, h4, z, h5, e⟩ := e
  split at e
  · rename_i hs
    cases e
    exact ⟨r1, g1, r2, d1, d2, z, h1, h2, h3, h4, h5, hs, rfl⟩
  · cases e
variable {a b c : Expr} {ma mb mc : ZM}
/-- two in a row, then what is done with both -/
theorem tZ2 {σ : L2.St} {H : Hp} {K : PySem.W.Frag} {n : Nat} {R2' : V → V → Hp → Prop} {C : Ct} {Hs : Hp} {A : List Addr} {g g1 g2 : G} {r1 r2 : R} (hK : C.K = K) (hn : C.n = n) (ok : Ok C Hs A g σ H) (e1 : ma g = some (r1, g1)) (e2 : mb g1 = some (r2, g2))
    (q : ∀ Hs2 A2 v1 v2 H2, Same Hs Hs2 → Pre A A2 → Ok C Hs2 A2 g2 σ H2 → RelR C.K Hs2 A2 v1 r1 → RelR C.K Hs2 A2 v2 r2 → R2' v1 v2 H2) : tZ K n ma σ H fun x H1 => tZ K n mb σ H1 fun y H2 => R2' x y H2 :=
  ⟨C, Hs, A, g, r1, g1, hK, hn, ok, e1, fun Hs1 A1 v1 H1 s1 p1 ok1 rel1 => ⟨C, Hs1, A1, g1, r2, g2, hK, hn, ok1, e2, fun Hs2 A2 v2 H2 s2 p2 ok2 rel2 => q Hs2 A2 v1 v2 H2 (s1.trans s2) (p1.trans p2) ok2 (rel1.mono s2 p2) rel2⟩⟩
theorem zop_of {r : R2} {f : D → D → Option D} {e : Expr} (h : PE X e (tOp r (tZ X.K X.N.length ma) (tZ X.K X.N.length mb))) (hf : OpS X.K r f) : ZE X e (zOp f ma mb) := by
  refine PE.of h fun σ H Q ⟨C, Hs, A, g, r, g', hK, hn, ok, e, q⟩ => ?_
  obtain ⟨r1, g1, r2, d1, d2, z, h1, h2, h3, h4, h5, h6, rfl⟩ := zOp_some e
  refine tZ2 hK hn ok h1 h2 fun Hs2 A2 v1 v2 H2 s p ok2 w1 w2 => ?_
  have x1 := ok2.rd w1 h3
  have x2 := ok2.rd w2 h4
  rw [hK] at x1 x2
  exact hf H2 v1 v2 d1 d2 z Q x1 x2 h5 (q Hs2 A2 z.v H2 s p ok2 (D.vz h6))
theorem ze_op {op : Operator} {r : R2} {f : D → D → Option D} (ho : OpR X (binaryOp op) r) (hf : OpS X.K r f) (ha : ZE X a ma) (hb : ZE X b mb) : ZE X (.BinOp a op b pos) (zOp f ma mb) := zop_of (pe_op ho ha hb) hf
theorem ze_cmp {op : CmpOp} {r : R2} {f : D → D → Option D} (ho : OpR X (compareOp op) r) (hf : OpS X.K r f) (ha : ZE X a ma) (hb : ZE X b mb) (hm : behindInMarks op b = false) : ZE X (.Compare a [op] [b] pos) (zOp f ma mb) := zop_of (pe_cmpR ho ha hb hm) hf
def isB : R → Option Bool
  | .dat (.bl b) => some b
  | _ => none
theorem isB_some {r : R} {b : Bool} (h : isB r = some b) : r = .dat (.bl b) := by
  unfold isB at h
  split at h
  · cases h; rfl
  · cases h
/-- a value that is a bool, as a test -/
def zTst (m : ZM) : ZT := fun g => do
  let (r, g1) ← m g
  let b ← isB r
  some (b, g1)
theorem zTst_some {m : ZM} {g g' : G} {b : Bool} (e : zTst m g = some (b, g')) : m g = some (.dat (.bl b), g') := by
  unfold zTst at e
  simp only [Option.bind_eq_bind, Option.bind_eq_some_iff] at e
  obtain ⟨⟨r, g1⟩, h1, b', h2, e⟩ := e
  cases e
  have h3 : r = .dat (.bl b) := isB_some h2
  rw [h3] at h1
  exact h1
theorem tst_of {m : ZM} {σ : L2.St} {H : Hp} {K : PySem.W.Frag} {n : Nat} {Q : Bool → Hp → Prop} (h : tZT K n (zTst m) σ H Q) : tZ K n m σ H fun x H1 => ∃ k, x = .bl k ∧ Q k H1 := by
  obtain ⟨C, Hs, A, g, b, g', hK, hn, ok, e, q⟩ := h
  refine ⟨C, Hs, A, g, _, _, hK, hn, ok, zTst_some e, fun Hs1 A1 v1 H1 s1 p1 ok1 rel1 => ?_⟩
  have e1 : v1 = .bl b := (show Dz C.K Hs1 v1 (.bl b) from rel1).v rfl
  exact ⟨b, e1, q Hs1 A1 H1 s1 p1 ok1⟩
theorem zt_cmp {op : CmpOp} {r : R2} {f : D → D → Option D} (ho : OpR X (compareOp op) r) (hf : OpS X.K r f) (ha : ZE X a ma) (hb : ZE X b mb) (hm : behindInMarks op b = false) : ZTe X (.Compare a [op] [b] pos) (zTst (zOp f ma mb)) := by
  refine PT.of (pt_cmpR (r := fun x y H Q => r x y H Q) ho ha hb hm) fun σ H Q h => ?_
  have h2 := tst_of h
  obtain ⟨C, Hs, A, g, r, g', hK, hn, ok, e, q⟩ := h2
  obtain ⟨r1, g1, r2, d1, d2, z, h1, h2, h3, h4, h5, h6, rfl⟩ := zOp_some e
  refine tZ2 (R2' := fun x y H2 => _) hK hn ok h1 h2 fun Hs2 A2 v1 v2 H2 s p ok2 w1 w2 => ?_
  have x1 := ok2.rd w1 h3
  have x2 := ok2.rd w2 h4
  rw [hK] at x1 x2
  exact hf H2 v1 v2 d1 d2 z _ x1 x2 h5 (q Hs2 A2 z.v H2 s p ok2 (D.vz h6))
def tru : D → Option Bool
  | .non => some false
  | .bl b => some b
  | .int i => some (i != 0)
  | .str s => if s.length ≤ sizeLine then some ((s.length : Int) != 0) else none
  | .lst l => some (!l.isEmpty)
  | .tup l => some (!l.isEmpty)
  | .raw _ => none
  | .dic _ _ => none
  | .obj _ _ _ => none
theorem DzA.empty {K : PySem.W.Frag} {H : Hp} {vs : List V} {ds : List D} (h : DzA K H vs ds) : vs.isEmpty = ds.isEmpty := by cases h <;> rfl
theorem tru_of {K : PySem.W.Frag} {H : Hp} {v : V} {d : D} {b : Bool} (h : Dz K H v d) (e : tru d = some b) : TruV K v H b := by
  cases h with
  | non => cases e; rfl
  | bl c => cases e; rfl
  | int i => cases e; rfl
  | str s =>
    have e : (if s.length ≤ sizeLine then some ((s.length : Int) != 0) else none) = some b := e
    split at e
    · rename_i hs
      cases e
      exact ⟨by simpa [Str.length] using hs, by simp [Str.length]⟩
    · cases e
  | lst hs ha => cases e; exact .inl ⟨_, hs, by rw [ha.empty]⟩
  | tup hs ha => cases e; exact .inr (.inl ⟨_, hs, by rw [ha.empty]⟩)
  | raw v => cases e
  | dic _ _ _ => cases e
  | obj _ _ _ _ => cases e
def zTru (m : ZM) : ZT := fun g => do
  let (r, g1) ← m g
  let d ← rd g1 r
  let b ← tru d
  some (b, g1)
theorem zt_truth {e : Expr} {m : ZM} (h : ZE X e m) (he : ∀ whole, isTrue e X.env whole = (do let v ← whole; standAt e.pos; holding [v] (truthy v)) := by intro _; rfl) : ZTe X e (zTru m) := by
  refine PT.of (pt_truth h he) fun σ H Q ⟨C, Hs, A, g, b, g', hK, hn, ok, e, q⟩ => ?_
  unfold zTru at e
  simp only [Option.bind_eq_bind, Option.bind_eq_some_iff] at e
  obtain ⟨⟨r, g1⟩, h1, d, h2, b', h3, e⟩ := e
  cases e
  refine ⟨C, Hs, A, g, _, _, hK, hn, ok, h1, fun Hs1 A1 v1 H1 s1 p1 ok1 rel1 => ?_⟩
  have x := ok1.rd rel1 h2
  rw [hK] at x
  exact ⟨b, tru_of x h3, q Hs1 A1 H1 s1 p1 ok1⟩
def zAndT (s t : ZT) : ZT := fun g => do
  let (b, g1) ← s g
  if b = true then t g1 else some (false, g1)
def zOrT (s t : ZT) : ZT := fun g => do
  let (b, g1) ← s g
  if b = true then some (true, g1) else t g1
def zNotT (s : ZT) : ZT := fun g => do
  let (b, g1) ← s g
  some (!b, g1)
variable {sA sB : ZT} {rest : List Expr}
theorem zw_and1 (ha : ZTe X a sA) : ZW X (.BoolOp .And [a] pos) sA := pw_and1 ha
theorem zw_or1 (ha : ZTe X a sA) : ZW X (.BoolOp .Or [a] pos) sA := pw_or1 ha
theorem zw_and (ha : ZTe X a sA) (hb : ZW X (.BoolOp .And (b :: rest) pos) sB) : ZW X (.BoolOp .And (a :: b :: rest) pos) (zAndT sA sB) := by
  refine PW.of (pw_and ha hb) fun σ H Q ⟨C, Hs, A, g, b, g', hK, hn, ok, e, q⟩ => ?_
  unfold zAndT at e
  simp only [Option.bind_eq_bind, Option.bind_eq_some_iff] at e
  obtain ⟨⟨b1, g1⟩, h1, e⟩ := e
  refine ⟨C, Hs, A, g, b1, g1, hK, hn, ok, h1, fun Hs1 A1 H1 s1 p1 ok1 => ?_⟩
  cases b1 with
  | true => exact ⟨C, Hs1, A1, g1, b, g', hK, hn, ok1, e, fun Hs2 A2 H2 s2 p2 ok2 => q Hs2 A2 H2 (s1.trans s2) (p1.trans p2) ok2⟩
  | false =>
    cases e
    exact q Hs1 A1 H1 s1 p1 ok1
theorem zw_or (ha : ZTe X a sA) (hb : ZW X (.BoolOp .Or (b :: rest) pos) sB) : ZW X (.BoolOp .Or (a :: b :: rest) pos) (zOrT sA sB) := by
  refine PW.of (pw_or ha hb) fun σ H Q ⟨C, Hs, A, g, b, g', hK, hn, ok, e, q⟩ => ?_
  unfold zOrT at e
  simp only [Option.bind_eq_bind, Option.bind_eq_some_iff] at e
  obtain ⟨⟨b1, g1⟩, h1, e⟩ := e
  refine ⟨C, Hs, A, g, b1, g1, hK, hn, ok, h1, fun Hs1 A1 H1 s1 p1 ok1 => ?_⟩
  cases b1 with
  | false => exact ⟨C, Hs1, A1, g1, b, g', hK, hn, ok1, e, fun Hs2 A2 H2 s2 p2 ok2 => q Hs2 A2 H2 (s1.trans s2) (p1.trans p2) ok2⟩
  | true =>
    cases e
    exact q Hs1 A1 H1 s1 p1 ok1
theorem zt_w {e : Expr} (h : ZW X e sA) : ZTe X e sA := h.pt
theorem zt_not (ha : ZTe X a sA) : ZTe X (.UnaryOp .Not a pos) (zNotT sA) := by
  refine PT.of (pt_not ha) fun σ H Q ⟨C, Hs, A, g, b, g', hK, hn, ok, e, q⟩ => ?_
  unfold zNotT at e
  simp only [Option.bind_eq_bind, Option.bind_eq_some_iff] at e
  obtain ⟨⟨b1, g1⟩, h1, e⟩ := e
  cases e
  exact ⟨C, Hs, A, g, b1, _, hK, hn, ok, h1, fun Hs1 A1 H1 s1 p1 ok1 => q Hs1 A1 H1 s1 p1 ok1⟩
/-- .. as values -/
def zAndV (ma mb : ZM) : ZM := fun g => do
  let (r, g1) ← ma g
  let b ← isB r
  if b = true then mb g1 else some (.dat (.bl false), g1)
def zOrV (ma mb : ZM) : ZM := fun g => do
  let (r, g1) ← ma g
  let b ← isB r
  if b = true then some (.dat (.bl true), g1) else mb g1
def zNotV (ma : ZM) : ZM := fun g => do
  let (r, g1) ← ma g
  let b ← isB r
  some (.dat (.bl (!b)), g1)
theorem ze_one {op} (h : ZE X a ma) : ZE X (.BoolOp op [a] pos) ma := pe_one h
theorem ze_and (ha : ZE X a ma) (hb : ZE X (.BoolOp .And (b :: rest) pos) mb) : ZE X (.BoolOp .And (a :: b :: rest) pos) (zAndV ma mb) := by
  refine PE.of (pe_and ha hb) fun σ H Q ⟨C, Hs, A, g, r, g', hK, hn, ok, e, q⟩ => ?_
  unfold zAndV at e
  simp only [Option.bind_eq_bind, Option.bind_eq_some_iff] at e
  obtain ⟨⟨r1, g1⟩, h1, b1, h2, e⟩ := e
  have := isB_some h2
  subst this
  refine ⟨C, Hs, A, g, _, g1, hK, hn, ok, h1, fun Hs1 A1 v1 H1 s1 p1 ok1 rel1 => ⟨b1, (show Dz C.K Hs1 v1 (.bl b1) from rel1).v rfl, ?_⟩⟩
  cases b1 with
  | true => exact ⟨C, Hs1, A1, g1, r, g', hK, hn, ok1, e, fun Hs2 A2 v2 H2 s2 p2 ok2 => q Hs2 A2 v2 H2 (s1.trans s2) (p1.trans p2) ok2⟩
  | false =>
    cases e
    exact q Hs1 A1 _ H1 s1 p1 ok1 (.bl false)
theorem ze_or (ha : ZE X a ma) (hb : ZE X (.BoolOp .Or (b :: rest) pos) mb) : ZE X (.BoolOp .Or (a :: b :: rest) pos) (zOrV ma mb) := by
  refine PE.of (pe_or ha hb) fun σ H Q ⟨C, Hs, A, g, r, g', hK, hn, ok, e, q⟩ => ?_
  unfold zOrV at e
  simp only [Option.bind_eq_bind, Option.bind_eq_some_iff] at e
  obtain ⟨⟨r1, g1⟩, h1, b1, h2, e⟩ := e
  have := isB_some h2
  subst this
  refine ⟨C, Hs, A, g, _, g1, hK, hn, ok, h1, fun Hs1 A1 v1 H1 s1 p1 ok1 rel1 => ⟨b1, (show Dz C.K Hs1 v1 (.bl b1) from rel1).v rfl, ?_⟩⟩
  cases b1 with
  | false => exact ⟨C, Hs1, A1, g1, r, g', hK, hn, ok1, e, fun Hs2 A2 v2 H2 s2 p2 ok2 => q Hs2 A2 v2 H2 (s1.trans s2) (p1.trans p2) ok2⟩
  | true =>
    cases e
    exact q Hs1 A1 _ H1 s1 p1 ok1 (.bl true)
theorem ze_not (ha : ZE X a ma) : ZE X (.UnaryOp .Not a pos) (zNotV ma) := by
  refine PE.of (pe_not ha) fun σ H Q ⟨C, Hs, A, g, r, g', hK, hn, ok, e, q⟩ => ?_
  unfold zNotV at e
  simp only [Option.bind_eq_bind, Option.bind_eq_some_iff] at e
  obtain ⟨⟨r1, g1⟩, h1, b1, h2, e⟩ := e
  have := isB_some h2
  subst this
  cases e
  exact ⟨C, Hs, A, g, _, _, hK, hn, ok, h1, fun Hs1 A1 v1 H1 s1 p1 ok1 rel1 => ⟨b1, (show Dz C.K Hs1 v1 (.bl b1) from rel1).v rfl, q Hs1 A1 _ H1 s1 p1 ok1 (.bl (!b1))⟩⟩
/-- a if t else b -/
def zIf (t : ZT) (ma mb : ZM) : ZM := fun g => do
  let (b, g1) ← t g
  if b = true then ma g1 else mb g1
theorem ze_if (hc : ZTe X c sA) (ha : ZE X a ma) (hb : ZE X b mb) : ZE X (.IfExp c a b pos) (zIf sA ma mb) := by
  refine PE.of (pe_ifExp hc ha hb) fun σ H Q ⟨C, Hs, A, g, r, g', hK, hn, ok, e, q⟩ => ?_
  unfold zIf at e
  simp only [Option.bind_eq_bind, Option.bind_eq_some_iff] at e
  obtain ⟨⟨b1, g1⟩, h1, e⟩ := e
  refine ⟨C, Hs, A, g, b1, g1, hK, hn, ok, h1, fun Hs1 A1 H1 s1 p1 ok1 => ?_⟩
  cases b1 with
  | true => exact ⟨C, Hs1, A1, g1, r, g', hK, hn, ok1, e, fun Hs2 A2 v2 H2 s2 p2 ok2 => q Hs2 A2 v2 H2 (s1.trans s2) (p1.trans p2) ok2⟩
  | false => exact ⟨C, Hs1, A1, g1, r, g', hK, hn, ok1, e, fun Hs2 A2 v2 H2 s2 p2 ok2 => q Hs2 A2 v2 H2 (s1.trans s2) (p1.trans p2) ok2⟩
/-- a one-place operation -/
def zUn (f : D → Option D) (ma : ZM) : ZM := fun g => do
  let (r1, g1) ← ma g
  let d ← rd g1 r1
  let z ← f d
  if z.scal = true then some (.dat z, g1) else none
def UnS (K : PySem.W.Frag) (r : V → Hp → VK → Prop) (f : D → Option D) : Prop := ∀ (H : Hp) (x : V) (d z : D) (Q : VK), Dz K H x d → f d = some z → Q z.v H → r x H Q
theorem ze_un {op : UnaryOp} {r : V → Hp → VK → Prop} {f : D → Option D} (ho : UnR X (unaryOp op) r) (hf : UnS X.K r f) (ha : ZE X a ma) : ZE X (.UnaryOp op a pos) (zUn f ma) := by
  refine PE.of (pe_un ho ha) fun σ H Q ⟨C, Hs, A, g, r, g', hK, hn, ok, e, q⟩ => ?_
  unfold zUn at e
  simp only [Option.bind_eq_bind, Option.bind_eq_some_iff] at e
  obtain ⟨⟨r1, g1⟩, h1, d, h2, z, h3, e⟩ := e
  split at e
  · rename_i hs
    cases e
    refine ⟨C, Hs, A, g, r1, _, hK, hn, ok, h1, fun Hs1 A1 v1 H1 s1 p1 ok1 rel1 => ?_⟩
    have x := ok1.rd rel1 h2
    rw [hK] at x
    exact hf H1 v1 d z Q x h3 (q Hs1 A1 z.v H1 s1 p1 ok1 (D.vz hs))
  · cases e
/-- a op1 b op2 c -/
def zChain (f f' : D → D → Option D) (ma mb mc : ZM) : ZM := fun g => do
  let (r1, g1) ← ma g
  let (r2, g2) ← mb g1
  let d ← rd g2 r1
  let e ← rd g2 r2
  let z ← f d e
  match z with
  | .bl true => do
    let (r3, g3) ← mc g2
    let e2 ← rd g3 r2
    let h ← rd g3 r3
    let z2 ← f' e2 h
    if z2.scal = true then some (.dat z2, g3) else none
  | .bl false => some (.dat (.bl false), g2)
  | _ => none
def zNil : ZAr := fun g => some ([], g)
def zCons (ma : ZM) (mr : ZAr) : ZAr := fun g => do
  let (r, g1) ← ma g
  let (rs, g2) ← mr g1
  some (r :: rs, g2)
theorem za_nil : ZAs X [] zNil := by
  refine PA.of pa_nil fun σ H Q ⟨C, Hs, A, g, rs, g', hK, hn, ok, e, q⟩ => ?_
  cases e
  exact q Hs A [] H (Same.refl _) (Pre.refl _) ok trivial
variable {es : List Expr} {mr : ZAr}
theorem za_cons (ha : ZE X a ma) (hr : ZAs X es mr) (hs : starEach (a :: es) X.env = (false, eval a X.env) :: starEach es X.env := by rfl) : ZAs X (a :: es) (zCons ma mr) := by
  refine PA.of (pa_cons ha hr hs) fun σ H Q ⟨C, Hs, A, g, rs, g', hK, hn, ok, e, q⟩ => ?_
  unfold zCons at e
  simp only [Option.bind_eq_bind, Option.bind_eq_some_iff] at e
  obtain ⟨⟨r1, g1⟩, h1, ⟨rs2, g2⟩, h2, e⟩ := e
  cases e
  exact ⟨C, Hs, A, g, r1, g1, hK, hn, ok, h1, fun Hs1 A1 v1 H1 s1 p1 ok1 rel1 => ⟨C, Hs1, A1, g1, rs2, _, hK, hn, ok1, h2, fun Hs2 A2 vs H2 s2 p2 ok2 rel2 =>
    q Hs2 A2 (v1 :: vs) H2 (s1.trans s2) (p1.trans p2) ok2 ⟨rel1.mono s2 p2, rel2⟩⟩⟩
/-- all are read as data -/
def rdAll (g : G) : List R → Option (List D)
  | [] => some []
  | r :: rs => do
    let d ← rdX g r
    let ds ← rdAll g rs
    some (d :: ds)
theorem rdAll_ok {C : Ct} {Hs : Hp} {A : List Addr} {g : G} {σ : L2.St} {H : Hp} (ok : Ok C Hs A g σ H) : ∀ {vs : List V} {rs : List R} {ds : List D}, RelRs C.K Hs A vs rs → rdAll g rs = some ds → DzA C.K H vs ds
  | [], [], ds, _, e => by cases e; exact .nil
  | v :: vs, r :: rs, ds, h, e => by
    unfold rdAll at e
    simp only [Option.bind_eq_bind, Option.bind_eq_some_iff] at e
    obtain ⟨d, h1, ds', h2, e⟩ := e
    cases e
    exact .cons (ok.rdX h.1 h1) (rdAll_ok ok h.2 h2)
  | [], _ :: _, _, h, _ => h.elim
  | _ :: _, [], _, h, _ => h.elim
/-- all become data -/
def frzAll : List R → G → Option (List D × G)
  | [], g => some ([], g)
  | r :: rs, g => do
    let (d, g1) ← frzR r g
    let (ds, g2) ← frzAll rs g1
    some (d :: ds, g2)
theorem frzAll_ok {C : Ct} {A : List Addr} {σ : L2.St} {H : Hp} : ∀ {g g' : G} {Hs : Hp} {vs : List V} {rs : List R} {ds : List D}, Ok C Hs A g σ H → RelRs C.K Hs A vs rs → frzAll rs g = some (ds, g') → ∃ Hs', Same Hs Hs' ∧ Ok C Hs' A g' σ H ∧ DzA C.K Hs' vs ds
  | g, g', Hs, [], [], ds, ok, _, e => by cases e; exact ⟨Hs, Same.refl _, ok, .nil⟩
  | g, g', Hs, v :: vs, r :: rs, ds, ok, h, e => by
    unfold frzAll at e
    simp only [Option.bind_eq_bind, Option.bind_eq_some_iff] at e
    obtain ⟨⟨d, g1⟩, h1, ⟨ds', g2⟩, h2, e⟩ := e
    cases e
    obtain ⟨Hs1, s1, ok1, z1⟩ := ok.frzR h.1 h1
    obtain ⟨Hs2, s2, ok2, z2⟩ := frzAll_ok ok1 (h.2.mono s1 (Pre.refl _)) h2
    exact ⟨Hs2, s1.trans s2, ok2, .cons (z1.mono s2) z2⟩
  | _, _, _, [], _ :: _, _, _, h, _ => h.elim
  | _, _, _, _ :: _, [], _, _, h, _ => h.elim
def zTup (ma : ZAr) : ZM := fun g => do
  let (rs, g1) ← ma g
  let (ds, g2) ← frzAll rs g1
  if ds.length ≤ sizeLine then some (.dat (.tup ds), g2) else none
def zLst (ma : ZAr) : ZM := fun g => do
  let (rs, g1) ← ma g
  let (ds, g2) ← frzAll rs g1
  if ds.length ≤ sizeLine then some (.bor g2.length, g2 ++ [.own (.lst ds) false false]) else none
theorem ze_tup {x1} {mr : ZAr} (h : ZAs X es mr) : ZE X (.Tuple es x1 pos) (zTup mr) := by
  refine PE.of (pe_tup h) fun σ H Q ⟨C, Hs, A, g, r, g', hK, hn, ok, e, q⟩ => ?_
  unfold zTup at e
  simp only [Option.bind_eq_bind, Option.bind_eq_some_iff] at e
  obtain ⟨⟨rs, g1⟩, h1, ⟨ds, g2⟩, h2, e⟩ := e
  split at e
  · rename_i hz
    cases e
    refine ⟨C, Hs, A, g, rs, g1, hK, hn, ok, h1, fun Hs1 A1 vs H1 s1 p1 ok1 rel1 => ?_⟩
    obtain ⟨Hs2, s2, ok2, z2⟩ := frzAll_ok ok1 rel1 h2
    refine ⟨by rw [z2.length]; exact hz, fun p hp => ?_⟩
    obtain ⟨ok3, s3⟩ := ok2.lay (o := .tup vs) hp
    exact q _ A1 (.ref p) _ ((s1.trans s2).trans s3) p1 ok3 (.tup (SqT.of upd_same) (z2.mono s3))
  · cases e
theorem Ok.tmpR {C : Ct} {Hs : Hp} {A : List Addr} {g : G} {σ : L2.St} {H : Hp} (ok : Ok C Hs A g σ H) (p : Addr) : RelR C.K Hs (A ++ [p]) (.ref p) (.bor g.length) := ⟨p, by rw [← ok.la]; simp, rfl⟩
theorem ze_lst {mr : ZAr} (h : ZAs X es mr) : ZE X (.List es pos) (zLst mr) := by
  refine PE.of (pe_lst h) fun σ H Q ⟨C, Hs, A, g, r, g', hK, hn, ok, e, q⟩ => ?_
  unfold zLst at e
  simp only [Option.bind_eq_bind, Option.bind_eq_some_iff] at e
  obtain ⟨⟨rs, g1⟩, h1, ⟨ds, g2⟩, h2, e⟩ := e
  split at e
  · rename_i hz
    cases e
    refine ⟨C, Hs, A, g, rs, g1, hK, hn, ok, h1, fun Hs1 A1 vs H1 s1 p1 ok1 rel1 => ?_⟩
    obtain ⟨Hs2, s2, ok2, z2⟩ := frzAll_ok ok1 rel1 h2
    refine ⟨by rw [z2.length]; exact hz, fun p hp => ?_⟩
    exact q _ (A1 ++ [p]) (.ref p) _ (s1.trans s2) (p1.trans (Pre.app _ _)) (ok2.tmp (o := .lst vs) (c := .lst ds) hp z2) (ok2.tmpR p)
  · cases e
def CallS (K : PySem.W.Frag) (r : List V → Hp → VK → Prop) (f : List D → Option D) : Prop := ∀ (H : Hp) (vs : List V) (ds : List D) (z : D) (Q : VK), DzA K H vs ds → f ds = some z → Q z.v H → r vs H Q
def zCallS (f : List D → Option D) (ma : ZAr) : ZM := fun g => do
  let (rs, g1) ← ma g
  let ds ← rdAll g1 rs
  let z ← f ds
  if z.scal = true then some (.dat z, g1) else none
theorem zcallS_of {r : List V → Hp → VK → Prop} {f : List D → Option D} {mr : ZAr} {e : Expr} (h : PE X e (tCB r (tZA X.K X.N.length mr))) (hf : CallS X.K r f) : ZE X e (zCallS f mr) := by
  refine PE.of h fun σ H Q ⟨C, Hs, A, g, r, g', hK, hn, ok, e, q⟩ => ?_
  unfold zCallS at e
  simp only [Option.bind_eq_bind, Option.bind_eq_some_iff] at e
  obtain ⟨⟨rs, g1⟩, h1, ds, h2, z, h3, e⟩ := e
  split at e
  · rename_i hs
    cases e
    refine ⟨C, Hs, A, g, rs, _, hK, hn, ok, h1, fun Hs1 A1 vs H1 s1 p1 ok1 rel1 => ?_⟩
    have x := rdAll_ok ok1 rel1 h2
    rw [hK] at x
    exact hf H1 vs ds z Q x h3 (q Hs1 A1 z.v H1 s1 p1 ok1 (D.vz hs))
  · cases e
theorem ze_callB {x : Str} {p : Pos} {id : String} {r : List V → Hp → VK → Prop} {f : List D → Option D} {mr : ZAr} (hc : CallR X (.builtin id) r) (hf : CallS X.K r f) (hg : Gl X x) (hm : X.mg x = none) (hv : bootBuiltins x = some (.builtin id)) (ha : ZAs X (a :: es) mr)
    (hn : x ≠ "__name__" := by decide) (hdb : (x == ("__debug__" : Str)) = false := by decide) (he : starEach (a :: es) X.env = (false, eval a X.env) :: starEach es X.env := by rfl) (hpl : (backTo pos (starEach es X.env)).any (·.1) = false := by rfl) :
    ZE X (.Call (.Name x p) (a :: es) [] pos) (zCallS f mr) := zcallS_of (pe_callB hc hg hm hv ha hn hdb he hpl) hf
theorem ze_callTy {x : Str} {p : Pos} {T : String} {r : List V → Hp → VK → Prop} {f : List D → Option D} {mr : ZAr} (hc : CallR X (.type T) r) (hf : CallS X.K r f) (hg : Gl X x) (hm : X.mg x = none) (hv : bootBuiltins x = some (.type T)) (ha : ZAs X (a :: es) mr)
    (hn : x ≠ "__name__" := by decide) (hdb : (x == ("__debug__" : Str)) = false := by decide) (he : starEach (a :: es) X.env = (false, eval a X.env) :: starEach es X.env := by rfl) (hpl : (backTo pos (starEach es X.env)).any (·.1) = false := by rfl) :
    ZE X (.Call (.Name x p) (a :: es) [] pos) (zCallS f mr) := zcallS_of (pe_callTy hc hg hm hv ha hn hdb he hpl) hf
/-- methods of texts with a plain answer -/
def MtS (K : PySem.W.Frag) (r : V → List V → Hp → VK → Prop) (f : D → List D → Option D) : Prop := ∀ (H : Hp) (x : V) (vs : List V) (d : D) (ds : List D) (z : D) (Q : VK), Dz K H x d → DzA K H vs ds → f d ds = some z → Q z.v H → r x vs H Q
def tyD (T : String) : D → Bool
  | .str _ => T == "str"
  | .int _ => T == "int"
  | .lst _ => T == "list"
  | _ => false
theorem tyD_of {K : PySem.W.Frag} {H : Hp} {T : String} {x : V} {d : D} (h : Dz K H x d) (e : tyD T d = true) : tyV K T x H := by
  cases h with
  | str s => exact (beq_iff_eq.mp e : T = "str")
  | int i => exact (beq_iff_eq.mp e : T = "int")
  | lst hs ha => exact .inl ⟨beq_iff_eq.mp e, _, hs⟩
  | non => exact absurd e (by simp [tyD])
  | bl _ => exact absurd e (by simp [tyD])
  | tup _ _ => exact absurd e (by simp [tyD])
  | raw _ => exact absurd e (by simp [tyD])
  | dic _ _ _ => exact absurd e (by simp [tyD])
  | obj _ _ _ _ => exact absurd e (by simp [tyD])
def zMt (T : String) (f : D → List D → Option D) (mo : ZM) (ma : ZAr) : ZM := fun g => do
  let (r, g1) ← mo g
  let d ← rd g1 r
  if tyD T d = true then do
    let (rs, g2) ← ma g1
    let d2 ← rd g2 r
    let ds ← rdAll g2 rs
    let z ← f d2 ds
    if z.scal = true then some (.dat z, g2) else none
  else none
theorem zmt_of {T : String} {r : V → List V → Hp → VK → Prop} {f : D → List D → Option D} {mo : ZM} {mr : ZAr} (hf : MtS X.K r f) {σ : L2.St} {H : Hp} {Q : VK} (h : tZ X.K X.N.length (zMt T f mo mr) σ H Q) :
    tBM X.K T r (tZ X.K X.N.length mo) (tZA X.K X.N.length mr) σ H Q := by
  obtain ⟨C, Hs, A, g, r, g', hK, hn, ok, e, q⟩ := h
  unfold zMt at e
  simp only [Option.bind_eq_bind, Option.bind_eq_some_iff] at e
  obtain ⟨⟨r1, g1⟩, h1, d, h2, e⟩ := e
  split at e
  · rename_i ht
    simp only [Option.bind_eq_some_iff] at e
    obtain ⟨⟨rs, g2⟩, h3, d2, h4, ds, h5, z, h6, e⟩ := e
    split at e
    · rename_i hs
      cases e
      refine ⟨C, Hs, A, g, r1, g1, hK, hn, ok, h1, fun Hs1 A1 v1 H1 s1 p1 ok1 rel1 => ?_⟩
      have x := ok1.rd rel1 h2
      rw [hK] at x
      refine ⟨tyD_of x ht, C, Hs1, A1, g1, rs, _, hK, hn, ok1, h3, fun Hs2 A2 vs H2 s2 p2 ok2 rel2 => ?_⟩
      have y := ok2.rd (rel1.mono s2 p2) h4
      have w := rdAll_ok ok2 rel2 h5
      rw [hK] at y w
      exact hf H2 v1 vs d2 ds z Q y w h6 (q Hs2 A2 z.v H2 (s1.trans s2) (p1.trans p2) ok2 (D.vz hs))
    · cases e
  · cases e
theorem ze_mt {o : Expr} {name : Str} {apos : Pos} {T id : String} {r : V → List V → Hp → VK → Prop} {f : D → List D → Option D} {mo : ZM} {mr : ZAr} (pa : PlainAttrs T) (slot : Slot T name id) (hty : typeOf (.builtin id) = pure (.type "method_descriptor")) (hm : MtR X id r) (hf : MtS X.K r f)
    (ho : ZE X o mo) (ha : ZAs X (a :: es) mr)
    (hbase : attributeBase o name X.env (eval o X.env) = eval o X.env := by rfl)
    (hfew : ((backTo pos (starEach (a :: es) X.env)).all (fun x => !x.1) && (backToKw pos (keywordEach [] X.env)).all (fun x => x.1.isSome)
      && decide ((a :: es).length + ([] : List Keyword).length + (if ([] : List Keyword).isEmpty then 0 else 1) < 30)) = true := by rfl)
    (hline : (apos.endLine == pos.line) = true := by rfl) (hs : starEach (a :: es) X.env = (false, eval a X.env) :: starEach es X.env := by rfl) (hplain : (backTo pos (starEach es X.env)).any (·.1) = false := by rfl) :
    ZE X (.Call (.Attribute o name apos) (a :: es) [] pos) (zMt T f mo mr) :=
  PE.of (pe_bm pa slot hty hm ho ha hbase hfew hline hs hplain) fun σ H Q h => zmt_of hf h
end
end Z
set_option Elab.async false
set_option linter.all false
set_option maxRecDepth 100000
set_option maxHeartbeats 4000000
namespace Z
open PySem PySem.Spec PyProof.Rows L2
theorem relB {K : PySem.W.Frag} {Hs : Hp} {A : List Addr} {a : Addr} {j : Nat} (h : A[j]? = some a) : RelR K Hs A (.ref a) (.bor j) := ⟨a, h, rfl⟩
inductive Fl where
  | nx | ret (r : R) | bk | ct
  deriving Inhabited
abbrev SM := G → Option (Fl × G)
def FlP (C : Ct) (Hs : Hp) (g' : G) (D : Ends) : Fl → Prop
  | .nx => ∀ (Hs' : Hp) (A' : List Addr) (σ' : L2.St) (H' : Hp), Same Hs Hs' → Ok C Hs' A' g' σ' H' → D.nx σ' H'
  | .bk => ∀ (Hs' : Hp) (A' : List Addr) (σ' : L2.St) (H' : Hp), Same Hs Hs' → Ok C Hs' A' g' σ' H' → D.bk σ' H'
  | .ct => ∀ (Hs' : Hp) (A' : List Addr) (σ' : L2.St) (H' : Hp), Same Hs Hs' → Ok C Hs' A' g' σ' H' → D.ct σ' H'
  | .ret r => ∀ (Hs' : Hp) (A' : List Addr) (σ' : L2.St) (H' : Hp) (v : V), Same Hs Hs' → Ok C Hs' A' g' σ' H' → RelR C.K Hs' A' v r → D.rt v H'
theorem FlP.mono {C : Ct} {Hs Hs1 : Hp} {g' : G} {D : Ends} {fl : Fl} (s : Same Hs Hs1) (h : FlP C Hs g' D fl) : FlP C Hs1 g' D fl := by
  cases fl with
  | nx => exact fun Hs' A' σ' H' s1 ok => h Hs' A' σ' H' (s.trans s1) ok
  | bk => exact fun Hs' A' σ' H' s1 ok => h Hs' A' σ' H' (s.trans s1) ok
  | ct => exact fun Hs' A' σ' H' s1 ok => h Hs' A' σ' H' (s.trans s1) ok
  | ret r => exact fun Hs' A' σ' H' v s1 ok => h Hs' A' σ' H' v (s.trans s1) ok
def tZS (K : PySem.W.Frag) (n : Nat) (s : SM) : TS := fun D σ H => ∃ (C : Ct) (Hs : Hp) (A : List Addr) (g : G) (fl : Fl) (g' : G), C.K = K ∧ C.n = n ∧ Ok C Hs A g σ H ∧ s g = some (fl, g') ∧ FlP C Hs g' D fl
abbrev ZS (X : Cx) (st : Stmt) (s : SM) : Prop := PS X st (tZS X.K X.N.length s)
abbrev ZSs (X : Cx) (st : List Stmt) (s : SM) : Prop := PSs X st (tZS X.K X.N.length s)
def zNx : SM := fun g => some (.nx, g)
def zBk : SM := fun g => some (.bk, g)
def zCt : SM := fun g => some (.ct, g)
def zSeq (s t : SM) : SM := fun g => do
  let (fl, g1) ← s g
  match fl with
  | .nx => t g1
  | fl => some (fl, g1)
def zRet (m : ZM) : SM := fun g => do
  let (r, g1) ← m g
  some (.ret r, g1)
def zIfS (n : Nat) (t : ZT) (s1 s2 : SM) : SM := fun g => do
  let (b, g1) ← t g
  if b = true then s1 (g1.take n) else s2 (g1.take n)
/-- a value goes to the slot i -/
def setR (n i : Nat) (r : R) (g : G) : Option G := match r with
  | .dat d => setDat i d g
  | .bor j => if n ≤ j then
      match g[j]? with
      | some (.own c false false) => if freeAt i g = true then some ((g.set i (.own c false false)).set j .un) else none
      | some (.frz d) => setDat i d g
      | some (.rws ls) => if freeAt i g = true then some ((g.set i (.rws ls)).set j .un) else none
      | _ => none
    else do
      let (d, g1) ← frzAt j g
      setDat i d g1
def zSet (n i : Nat) (m : ZM) : SM := fun g => do
  let (r, g1) ← m g
  let g2 ← setR n i r g1
  some (.nx, g2.take n)
section
variable {X : Cx} {pos : Pos} {st : Stmt} {rest : List Stmt} {s t : SM} {m : ZM}
theorem zss_nil : ZSs X [] zNx := by
  refine PSs.of pss_nil fun D σ H ⟨C, Hs, A, g, fl, g', hK, hn, ok, e, q⟩ => ?_
  cases e
  exact q Hs A σ H (Same.refl _) ok
theorem seq_of {D : Ends} {σ : L2.St} {H : Hp} {K : PySem.W.Frag} {n : Nat} (h : tZS K n (zSeq s t) D σ H) : tSeq (tZS K n s) (tZS K n t) D σ H := by
  obtain ⟨C, Hs, A, g, fl, g', hK, hn, ok, e, q⟩ := h
  unfold zSeq at e
  simp only [Option.bind_eq_bind, Option.bind_eq_some_iff] at e
  obtain ⟨⟨fl1, g1⟩, h1, e⟩ := e
  refine ⟨C, Hs, A, g, fl1, g1, hK, hn, ok, h1, ?_⟩
  cases fl1 with
  | nx => exact fun Hs' A' σ' H' s1 ok1 => ⟨C, Hs', A', g1, fl, g', hK, hn, ok1, e, q.mono s1⟩
  | bk => cases e; exact q
  | ct => cases e; exact q
  | ret r => cases e; exact q
theorem zss_cons (h1 : ZS X st s) (h2 : ZSs X rest t) : ZSs X (st :: rest) (zSeq s t) := PSs.of (pss_cons h1 h2) fun D σ H h => seq_of h
theorem zss_one (h1 : ZS X st s) : ZSs X [st] s := pss_one h1
theorem zs_ret {e : Expr} (he : ZE X e m) : ZS X (.Return (some e) pos) (zRet m) := by
  refine PS.of (ps_ret he) fun D σ H ⟨C, Hs, A, g, fl, g', hK, hn, ok, e, q⟩ => ?_
  unfold zRet at e
  simp only [Option.bind_eq_bind, Option.bind_eq_some_iff] at e
  obtain ⟨⟨r1, g1⟩, h1, e⟩ := e
  cases e
  exact ⟨C, Hs, A, g, r1, _, hK, hn, ok, h1, fun Hs1 A1 v1 H1 s1 p1 ok1 rel1 => q Hs1 A1 σ H1 v1 s1 ok1 rel1⟩
theorem zs_if {c : Expr} {a b : List Stmt} {tc : ZT} (hc : ZTe X c tc) (ha : ZSs X a s) (hb : ZSs X b t) : ZS X (.If c a b pos) (zIfS X.N.length tc s t) := by
  refine PS.of (ps_if hc ha hb) fun D σ H ⟨C, Hs, A, g, fl, g', hK, hn, ok, e, q⟩ => ?_
  unfold zIfS at e
  simp only [Option.bind_eq_bind, Option.bind_eq_some_iff] at e
  obtain ⟨⟨b1, g1⟩, h1, e⟩ := e
  refine ⟨C, Hs, A, g, b1, g1, hK, hn, ok, h1, fun Hs1 A1 H1 s1 p1 ok1 => ?_⟩
  have ok2 := ok1.cut
  rw [hn] at ok2
  cases b1 with
  | true => exact ⟨C, Hs1, _, _, fl, g', hK, hn, ok2, e, q.mono s1⟩
  | false => exact ⟨C, Hs1, _, _, fl, g', hK, hn, ok2, e, q.mono s1⟩
theorem Ok.setR {C : Ct} {Hs : Hp} {A : List Addr} {g g' : G} {σ : L2.St} {H : Hp} {i : Nat} {v : V} {r : R} (ok : Ok C Hs A g σ H) (hi : i < C.n) (h : RelR C.K Hs A v r) (e : setR C.n i r g = some g') :
    ∃ Hs' A', Same Hs Hs' ∧ Ok C Hs' A' g' (σ.set i (some v)) H := by
  unfold Z.setR at e
  cases r with
  | dat d => exact ⟨Hs, A, Same.refl _, ok.set e hi h⟩
  | bor j =>
    obtain ⟨a, ha, rfl⟩ := (show ∃ a, A[j]? = some a ∧ v = .ref a from h)
    simp only at e
    split at e
    · rename_i hj
      split at e
      · rename_i c hg
        split at e
        · rename_i hf
          cases e
          exact ⟨Hs, _, Same.refl _, ok.move hf hi hj hg ha⟩
        · cases e
      · rename_i d hg
        obtain ⟨a', h1, _, h3⟩ := ok.frz j d hg
        rw [ha] at h1
        have e1 : a = a' := Option.some.inj h1
        subst e1
        exact ⟨Hs, A, Same.refl _, ok.set e hi h3⟩
      · rename_i ls hg
        split at e
        · rename_i hf
          cases e
          exact ⟨Hs, _, Same.refl _, ok.moveR hf hi hj hg ha⟩
        · cases e
      · cases e
    · simp only [Option.bind_eq_bind, Option.bind_eq_some_iff] at e
      obtain ⟨⟨d, g1⟩, h1, e⟩ := e
      obtain ⟨Hs', a', s, ok', h2, dz⟩ := ok.frzAt h1
      rw [ha] at h2
      have e1 : a = a' := Option.some.inj h2
      subst e1
      exact ⟨Hs', A, s, ok'.set e hi dz⟩
theorem set_of {i : Nat} {D : Ends} {σ : L2.St} {H : Hp} {K : PySem.W.Frag} {n : Nat} (hi : i < n) (h : tZS K n (zSet n i m) D σ H) : tAsg (tZ K n m) (gName i) D σ H := by
  obtain ⟨C, Hs, A, g, fl, g', hK, hn, ok, e, q⟩ := h
  unfold zSet at e
  simp only [Option.bind_eq_bind, Option.bind_eq_some_iff] at e
  obtain ⟨⟨r1, g1⟩, h1, g2, h2, e⟩ := e
  cases e
  refine ⟨C, Hs, A, g, r1, g1, hK, hn, ok, h1, fun Hs1 A1 v1 H1 s1 p1 ok1 rel1 => ?_⟩
  rw [← hn] at h2
  obtain ⟨Hs2, A2, s2, ok2⟩ := ok1.setR (by rw [hn]; exact hi) rel1 h2
  have ok3 := ok2.cut
  rw [hn] at ok3
  exact q Hs2 _ _ H1 (s1.trans s2) ok3
/-- name = value -/
theorem zs_set {i : Nat} {x : Str} {e : Expr} {pos' : Pos} (hN : X.N.Nodup) (hi : X.N[i]? = some x) (hx : Loc X.env.scope x) (he : ZE X e m) (hs : swapsWith e (some (.Name x pos')) pos.line X.env = pure false := by rfl) (hf : X.fn x = true ∨ X.env.scope.names.lookup x = some .local := by first | exact .inl rfl | exact .inr rfl | assumption) :
    ZS X (.Assign [.Name x pos'] e pos) (zSet X.N.length i m) :=
  PS.of (ps_set hN hi hx he hs hf) fun D σ H h => set_of (List.getElem?_eq_some_iff.mp hi).1 h
def zAug (n i : Nat) (f : D → D → Option D) (m : ZM) : SM := fun g => do
  let (r0, _) ← zVar i g
  let d ← rd g r0
  if d.scal = true then do
    let (r, g1) ← m g
    let e ← rd g1 r
    let z ← f d e
    if z.scal = true then do
      let g2 ← setDat i z g1
      some (.nx, g2.take n)
    else none
  else none
abbrev TD := D → G → Option G
def tZG (K : PySem.W.Frag) (n : Nat) (tg : TD) : TG := fun v σ H Q => ∃ (C : Ct) (Hs : Hp) (A : List Addr) (g : G) (d : D) (g' : G), C.K = K ∧ C.n = n ∧ Ok C Hs A g σ H ∧ Dz K Hs v d ∧ tg d g = some g' ∧
  ∀ (σ' : L2.St), Ok C Hs A g' σ' H → Q σ' H
abbrev ZG (X : Cx) (e : Expr) (tg : TD) : Prop := PG X e (tZG X.K X.N.length tg)
abbrev TDs := List D → G → Option G
def tZGs (K : PySem.W.Frag) (n : Nat) (tg : TDs) : TGs := fun vs σ H Q => ∃ (C : Ct) (Hs : Hp) (A : List Addr) (g : G) (ds : List D) (g' : G), C.K = K ∧ C.n = n ∧ Ok C Hs A g σ H ∧ DzA K Hs vs ds ∧ tg ds g = some g' ∧
  ∀ (σ' : L2.St), Ok C Hs A g' σ' H → Q σ' H
abbrev ZGs (X : Cx) (es : List Expr) (tg : TDs) : Prop := PGs X es (tZGs X.K X.N.length tg)
theorem PG.of {e : Expr} {t t' : TG} (h : PG X e t) (w : ∀ v σ H Q, t' v σ H Q → t v σ H Q) : PG X e t' := ⟨fun pins s σ H v u Q I r q => h.run pins s σ H v u Q I r (w v σ H Q q)⟩
theorem PGs.of {es : List Expr} {t t' : TGs} (h : PGs X es t) (w : ∀ v σ H Q, t' v σ H Q → t v σ H Q) : PGs X es t' := ⟨fun pins s σ H v u Q I r q => h.run pins s σ H v u Q I r (w v σ H Q q)⟩
def gN (i : Nat) : TD := fun d g => setDat i d g
theorem zg_name {i : Nat} {x : Str} (hN : X.N.Nodup) (hi : X.N[i]? = some x) (hx : Loc X.env.scope x) (hf : X.fn x = true ∨ X.env.scope.names.lookup x = some .local := by first | exact .inl rfl | exact .inr rfl | assumption) : ZG X (.Name x pos) (gN i) := by
  refine PG.of (pg_name hN hi hx hf) fun v σ H Q ⟨C, Hs, A, g, d, g', hK, hn, ok, hd, e, q⟩ => ?_
  rw [← hK] at hd
  exact q _ (ok.set e (by rw [hn]; exact (List.getElem?_eq_some_iff.mp hi).1) hd)
def gNil' : TDs := fun ds g => match ds with
  | [] => some g
  | _ => none
def gCons' (t : TD) (u : TDs) : TDs := fun ds g => match ds with
  | d :: ds => do
    let g1 ← t d g
    u ds g1
  | [] => none
theorem zgs_nil : ZGs X [] gNil' := by
  refine PGs.of pgs_nil fun vs σ H Q ⟨C, Hs, A, g, ds, g', hK, hn, ok, hd, e, q⟩ => ?_
  cases ds with
  | nil =>
    cases hd
    cases e
    exact ⟨rfl, q σ ok⟩
  | cons _ _ => cases e
theorem zgs_cons {e : Expr} {es : List Expr} {t : TD} {u : TDs} (h1 : ZG X e t) (h2 : ZGs X es u)
    (hs : (assignEach (e :: es) X.env).map (·.2) = assign e X.env :: (assignEach es X.env).map (·.2) := by rfl) : ZGs X (e :: es) (gCons' t u) := by
  refine PGs.of (pgs_cons h1 h2 hs) fun vs σ H Q ⟨C, Hs, A, g, ds, g', hK, hn, ok, hd, e, q⟩ => ?_
  cases hd with
  | nil => cases e
  | cons h1 h2 =>
    simp only [gCons', Option.bind_eq_bind, Option.bind_eq_some_iff] at e
    obtain ⟨g1, e1, e2⟩ := e
    exact ⟨_, _, rfl, C, Hs, A, g, _, g1, hK, hn, ok, h1, e1, fun σ1 ok1 => ⟨C, Hs, A, g1, _, g', hK, hn, ok1, h2, e2, q⟩⟩
def gT (k : Nat) (u : TDs) : TD := fun d g => match d with
  | .tup ds => if ds.length = k then u ds g else none
  | _ => none
theorem zg_tup {es : List Expr} {j : Nat} {t : TDs} {k : Nat} (hc : X.calm = true) (h : ZGs X es t)
    (hn : (assignEach es X.env).length = k := by rfl) (hst : (assignEach es X.env).findIdx? (·.1) = none := by rfl) : ZG X (.Tuple es j pos) (gT k t) := by
  refine PG.of (pg_tup hc h hn hst) fun v σ H Q ⟨C, Hs, A, g, d, g', hK, hn, ok, hd, e, q⟩ => ?_
  cases hd with
  | tup hs ha =>
    simp only [gT] at e
    split at e
    · rename_i hl
      exact ⟨_, _, rfl, sameT ok.same hs, by rw [ha.length]; exact hl, C, Hs, A, g, _, g', hK, hn, ok, ha, e, q⟩
    · cases e
  | _ => cases e
/-- target = value -/
def zAsg (n : Nat) (m : ZM) (tg : TD) : SM := fun g => do
  let (r, g1) ← m g
  let (d, g2) ← frzR r g1
  let g3 ← tg d g2
  some (.nx, g3.take n)
theorem zs_asg {tg e : Expr} {g : TD} (he : ZE X e m) (hg : ZG X tg g) (hs : swapsWithSole [tg] e pos.line X.env = pure false := by rfl) (hw : swappedStores [tg] e X.env = pure none := by rfl)
    (h1 : (assignEach [tg] X.env).map (·.2) = [assign tg X.env] := by rfl) : ZS X (.Assign [tg] e pos) (zAsg X.N.length m g) := by
  refine PS.of (ps_asg he hg hs hw h1) fun D σ H ⟨C, Hs, A, g, fl, g', hK, hn, ok, e, q⟩ => ?_
  unfold zAsg at e
  simp only [Option.bind_eq_bind, Option.bind_eq_some_iff] at e
  obtain ⟨⟨r1, g1⟩, h1, ⟨d, g2⟩, h2, g3, h3, e⟩ := e
  cases e
  refine ⟨C, Hs, A, g, r1, g1, hK, hn, ok, h1, fun Hs1 A1 v1 H1 s1 p1 ok1 rel1 => ?_⟩
  obtain ⟨Hs2, s2, ok2, dz⟩ := ok1.frzR rel1 h2
  refine ⟨C, Hs2, A1, g2, d, g3, hK, hn, ok2, by rw [← hK]; exact dz, h3, fun σ' ok3 => ?_⟩
  have ok4 := ok3.cut
  rw [hn] at ok4
  exact q Hs2 _ _ H1 (s1.trans s2) ok4
def zApp (n : Nat) (mo me : ZM) : SM := fun g => do
  let (ro, g1) ← mo g
  match ro with
  | .bor j => match g1[j]? with
    | some (.own (.lst _) _ _) => do
      let (re, g2) ← me g1
      let (d, g3) ← frzR re g2
      match g3[j]? with
      | some (.own (.lst ds) p false) => if ds.length < sizeLine then some (.nx, (g3.set j (.own (.lst (ds ++ [d])) p false)).take n) else none
      | _ => none
    | _ => none
  | _ => none
theorem CnOk.lst_inv {K : PySem.W.Frag} {H : Hp} {ds : List D} {o : HO} (h : CnOk K H (.lst ds) o) : ∃ vs, o = .lst vs ∧ DzA K H vs ds := by
  cases o with
  | lst vs => exact ⟨vs, rfl, h⟩
  | _ => exact (show False from h).elim
/-- what stands at a borrowed list -/
theorem Ok.bor {C : Ct} {Hs : Hp} {A : List Addr} {g : G} {σ : L2.St} {H : Hp} {v : V} {j : Nat} {ds : List D} {p l : Bool} (ok : Ok C Hs A g σ H) (h : RelR C.K Hs A v (.bor j)) (e : g[j]? = some (.own (.lst ds) p l)) :
    ∃ a vs, v = .ref a ∧ A[j]? = some a ∧ H a = some (.lst vs) ∧ DzA C.K Hs vs ds := by
  obtain ⟨a, ha, rfl⟩ := (show ∃ a, A[j]? = some a ∧ v = .ref a from h)
  obtain ⟨a', o, w1, _, _, w4, w5, _⟩ := ok.own j _ _ _ e
  rw [ha] at w1
  have e1 : a = a' := Option.some.inj w1
  subst e1
  obtain ⟨vs, rfl, z⟩ := w5.lst_inv
  exact ⟨a, vs, rfl, ha, w4, z⟩
theorem zs_app {o e : Expr} {apos cpos : Pos} {mo me : ZM} (ho : ZE X o mo) (he : ZE X e me)
    (hbase : attributeBase o "append" X.env (eval o X.env) = eval o X.env := by rfl)
    (hfew : ((backTo cpos (starEach [e] X.env)).all (fun x => !x.1) && (backToKw cpos (keywordEach [] X.env)).all (fun x => x.1.isSome)
      && decide ([e].length + ([] : List Keyword).length + (if ([] : List Keyword).isEmpty then 0 else 1) < 30)) = true := by rfl)
    (hline : (apos.endLine == cpos.line) = true := by rfl) (hs : starEach [e] X.env = (false, eval e X.env) :: starEach [] X.env := by rfl) (hplain : (backTo cpos (starEach [] X.env)).any (·.1) = false := by rfl)
    (hsw : swapsWith (.Call (.Attribute o "append" apos) [e] [] cpos) none pos.line X.env = pure false := by rfl) :
    ZS X (.Expr (.Call (.Attribute o "append" apos) [e] [] cpos) pos) (zApp X.N.length mo me) := by
  refine PS.of (ps_expr (pe_bm PySem.F.plainAttrs_list PySem.F.slot_list_append PySem.F.type_list_append mt_append ho (pa_cons he pa_nil hs) hbase hfew hline hs hplain) hsw) fun D σ H ⟨C, Hs, A, g, fl, g', hK, hn, ok, e, q⟩ => ?_
  unfold zApp at e
  simp only [Option.bind_eq_bind, Option.bind_eq_some_iff] at e
  obtain ⟨⟨ro, g1⟩, h1, e⟩ := e
  cases ro with
  | dat d => cases e
  | bor j =>
    simp only at e
    split at e
    · rename_i ds0 p0 l0 hg0
      simp only [Option.bind_eq_some_iff] at e
      obtain ⟨⟨re, g2⟩, h2, ⟨d, g3⟩, h3, e⟩ := e
      split at e
      · rename_i ds p hg
        split at e
        · rename_i hz
          cases e
          refine ⟨C, Hs, A, g, _, g1, hK, hn, ok, h1, fun Hs1 A1 v1 H1 s1 p1 ok1 rel1 => ?_⟩
          obtain ⟨a, ys, ev, _, hH, _⟩ := ok1.bor rel1 hg0
          subst ev
          refine ⟨.inl ⟨rfl, ys, SqL.of hH⟩, C, Hs1, A1, g1, re, g2, hK, hn, ok1, h2, fun Hs2 A2 v2 H2 s2 p2 ok2 rel2 => ?_⟩
          obtain ⟨Hs3, s3, ok3, dz⟩ := ok2.frzR rel2 h3
          obtain ⟨a', vs, ea, hA, hH3, hz3⟩ := ok3.bor (rel1.mono (s2.trans s3) p2) hg
          cases ea
          refine ⟨a, vs, v2, rfl, rfl, hH3, by rw [hz3.length]; exact hz, ?_⟩
          have ok4 := (ok3.wr (o := .lst (vs ++ [v2])) (c' := .lst (ds ++ [d])) hg hA (show DzA C.K Hs3 (vs ++ [v2]) (ds ++ [d]) from hz3.append (.cons dz .nil))).cut
          rw [hn] at ok4
          exact q Hs3 _ σ _ ((s1.trans s2).trans s3) ok4
        · cases e
      · cases e
    · cases e
def isI : R → Option Int
  | .dat (.int i) => some i
  | _ => none
theorem isI_some {r : R} {b : Int} (h : isI r = some b) : r = .dat (.int b) := by
  unfold isI at h
  split at h
  · cases h; rfl
  · cases h
/-- xs[i] = e -/
def zSto (n : Nat) (mo mi me : ZM) : SM := fun g => do
  let (re, g1) ← me g
  let (d, g2) ← frzR re g1
  let (ro, g3) ← mo g2
  match ro with
  | .bor j => do
    let (ri, g4) ← mi g3
    let k ← isI ri
    match g4[j]? with
    | some (.own (.lst ds) p false) => match ixN ds.length k with
      | some m => some (.nx, (g4.set j (.own (.lst (ds.set m d)) p false)).take n)
      | none => none
    | _ => none
  | _ => none
theorem zs_sto {o i e : Expr} {tpos : Pos} {mo mi me : ZM} (he : ZE X e me) (ho : ZE X o mo) (hi : ZE X i mi)
    (ha : ∀ v, assign (.Subscript o i tpos) X.env v = (do
      let ov ← holding [v] (eval o X.env)
      let iv ← holding [v, ov] (eval i X.env)
      standAt tpos
      holding [v, ov, iv] (setItem ov iv v)
      release [v, ov, iv] []) := by intro _; rfl)
    (hs : swapsWithSole [.Subscript o i tpos] e pos.line X.env = pure false := by rfl) (hw : swappedStores [.Subscript o i tpos] e X.env = pure none := by rfl)
    (h1 : (assignEach [.Subscript o i tpos] X.env).map (·.2) = [assign (.Subscript o i tpos) X.env] := by rfl) : ZS X (.Assign [.Subscript o i tpos] e pos) (zSto X.N.length mo mi me) := by
  refine PS.of (ps_asg he (pg_sub ho hi set_list ha) hs hw h1) fun W σ H ⟨C, Hs, A, g, fl, g', hK, hn, ok, e, q⟩ => ?_
  unfold zSto at e
  simp only [Option.bind_eq_bind, Option.bind_eq_some_iff] at e
  obtain ⟨⟨re, g1⟩, h1, ⟨d, g2⟩, h2, ⟨ro, g3⟩, h3, e⟩ := e
  cases ro with
  | dat d => cases e
  | bor j =>
    simp only [Option.bind_eq_some_iff] at e
    obtain ⟨⟨ri, g4⟩, h4, k, hk, e⟩ := e
    have ei : ri = .dat (.int k) := isI_some hk
    subst ei
    split at e
    · rename_i ds p hg
      split at e
      · rename_i m hm
        cases e
        refine ⟨C, Hs, A, g, re, g1, hK, hn, ok, h1, fun Hs1 A1 v1 H1 s1 p1 ok1 rel1 => ?_⟩
        obtain ⟨Hs2, s2, ok2, dz⟩ := ok1.frzR rel1 h2
        refine ⟨C, Hs2, A1, g2, _, g3, hK, hn, ok2, h3, fun Hs3 A3 v3 H3 s3 p3 ok3 rel3 => ?_⟩
        refine ⟨C, Hs3, A3, g3, _, _, hK, hn, ok3, h4, fun Hs4 A4 v4 H4 s4 p4 ok4 rel4 => ?_⟩
        have ek : v4 = .int k := (show Dz C.K Hs4 v4 (.int k) from rel4).v rfl
        subst ek
        obtain ⟨a, vs, ev, hA, hH, hz⟩ := ok4.bor (rel3.mono s4 p4) hg
        subst ev
        refine ⟨a, vs, k, m, rfl, rfl, hH, by rw [hz.length]; exact hm, ?_⟩
        have ok5 := (ok4.wr (o := .lst (vs.set m v1)) (c' := .lst (ds.set m d)) hg hA (show DzA C.K Hs4 (vs.set m v1) (ds.set m d) from DzA.set ((dz.mono s3).mono s4) m hz)).cut
        rw [hn] at ok5
        exact q Hs4 _ σ _ (((s1.trans s2).trans s3).trans s4) ok5
      · cases e
    · cases e
end
end Z
set_option Elab.async false
set_option linter.all false
set_option maxRecDepth 100000
set_option maxHeartbeats 4000000
namespace Z
open PySem PySem.Spec PyProof.Rows L2
/-- the source of a walk still stands -/
def Src (K : PySem.W.Frag) (Hs0 : Hp) : Option (Addr × Cn) → Hp → Hp → Prop
  | none, Hs, H => Same Hs0 Hs ∧ Same Hs H
  | some (a, c), Hs, H => ∃ o, H a = some o ∧ CnOk K Hs c o
structure JW (K : PySem.W.Frag) (J : It) (L : List D) (St : Hp → Hp → Prop) : Prop where
  stop : ∀ Hs H (i : Nat), St Hs H → L.length ≤ i → J.stop i H
  go : ∀ Hs H (i : Nat), St Hs H → i < L.length → J.go i H
  yld : ∀ (C : Ct) (Hs : Hp) (A : List Addr) (g : G) (σ : L2.St) (H : Hp) (i : Nat) (x : V) (H' : Hp), C.K = K → Ok C Hs A g σ H → St Hs H → i < L.length → J.yld i H x H' →
    ∃ d Hs', L[i]? = some d ∧ Same Hs Hs' ∧ Ok C Hs' A g σ H' ∧ Dz K Hs' x d
def LkOk (n : Nat) (A : List Addr) (g : G) : Option Nat → Option (Addr × Cn) → Prop
  | none, none => True
  | some j, some (a, c) => A[j]? = some a ∧ (∃ p l, g[j]? = some (.own c p l)) ∧ j < n
  | _, _ => False
abbrev MI := G → Option (List D × Option Nat × G)
def tZI (K : PySem.W.Frag) (n : Nat) (mi : MI) : TI := fun σ H Rr => ∃ (C : Ct) (Hs : Hp) (A : List Addr) (g : G) (L : List D) (lk : Option Nat) (g' : G), C.K = K ∧ C.n = n ∧ Ok C Hs A g σ H ∧ mi g = some (L, lk, g') ∧
  ∀ (Hs' : Hp) (A' : List Addr) (H' : Hp) (J : It) (lk' : Option (Addr × Cn)), Same Hs Hs' → Pre A A' → Ok C Hs' A' g' σ H' → LkOk n A' g' lk lk' → JW K J L (Src K Hs' lk') → Rr J H'
abbrev ZI (X : Cx) (tg iter : Expr) (mi : MI) : Prop := PI X tg iter (tZI X.K X.N.length mi)
theorem PI.of {X : Cx} {tg iter : Expr} {t t' : TI} (h : PI X tg iter t) (w : ∀ σ H Rr, t' σ H Rr → t σ H Rr) : PI X tg iter t' := ⟨fun pins s σ H Rr I q => h.run pins s σ H Rr I (w σ H Rr q)⟩
def ziB (n j : Nat) (g1 : G) : Option (List D × Option Nat × G) := if j < n then
    (match g1[j]? with
    | some (.own (.lst L) _ _) => some (L, some j, g1)
    | some (.frz (.lst L)) => some (L, none, g1)
    | some (.rws ls) => some (ls.map D.lst, none, g1.set j (.frz (.lst (ls.map D.lst))))
    | _ => none)
  else (match frzAt j g1 with
    | some (.lst L, g2) => some (L, none, g2)
    | _ => none)
def ziL (n : Nat) (m : ZM) : MI := fun g => do
  let (r, g1) ← m g
  match r with
  | .dat (.lst L) => some (L, none, g1)
  | .bor j => ziB n j g1
  | _ => none
theorem jw_list {K : PySem.W.Frag} {Hs0 : Hp} {a : Addr} {vs : List V} {L : List D} (h : SqL K Hs0 a vs) (hz : DzA K Hs0 vs L) : JW K (Itl K a) L (Src K Hs0 none) where
  stop := fun Hs H i st hi => ⟨vs, (st.1.trans st.2).seq h, by rw [hz.length]; exact hi⟩
  go := fun Hs H i st hi => by
    have hv : i < vs.length := by rw [hz.length]; exact hi
    exact ⟨vs, vs[i], (st.1.trans st.2).seq h, List.getElem?_eq_getElem hv⟩
  yld := fun C Hs A g σ H i x H' hK ok st hi y => by
    obtain ⟨rfl, y⟩ := y
    obtain ⟨d, h1, h2⟩ := (hz.mono st.1).getV (y vs ((st.1.trans st.2).seq h))
    exact ⟨d, Hs, h1, Same.refl _, ok, h2⟩
theorem jw_own {K : PySem.W.Frag} {Hs0 : Hp} {a : Addr} {L : List D} : JW K (Itl K a) L (Src K Hs0 (some (a, .lst L))) where
  stop := fun Hs H i st hi => by
    obtain ⟨o, h1, h2⟩ := st
    obtain ⟨vs, rfl, hz⟩ := h2.lst_inv
    exact ⟨vs, SqL.of h1, by rw [hz.length]; exact hi⟩
  go := fun Hs H i st hi => by
    obtain ⟨o, h1, h2⟩ := st
    obtain ⟨vs, rfl, hz⟩ := h2.lst_inv
    have hv : i < vs.length := by rw [hz.length]; exact hi
    exact ⟨vs, vs[i], SqL.of h1, List.getElem?_eq_getElem hv⟩
  yld := fun C Hs A g σ H i x H' hK ok st hi y => by
    obtain ⟨o, h1, h2⟩ := st
    obtain ⟨vs, rfl, hz⟩ := h2.lst_inv
    obtain ⟨rfl, y⟩ := y
    obtain ⟨d, w1, w2⟩ := hz.getV (y vs (SqL.of h1))
    exact ⟨d, Hs, w1, Same.refl _, ok, w2⟩
section
variable {X : Cx} {pos : Pos} {tg : Expr} {m : ZM}
theorem zi_list {l : Expr} (hl : ZE X l m) : ZI X tg l (ziL X.N.length m) := by
  refine PI.of (pi_list hl) fun σ H Rr ⟨C, Hs, A, g, L, lk, g', hK, hn, ok, e, q⟩ => ?_
  unfold ziL at e
  simp only [Option.bind_eq_bind, Option.bind_eq_some_iff] at e
  obtain ⟨⟨r, g1⟩, h1, e⟩ := e
  refine ⟨C, Hs, A, g, r, g1, hK, hn, ok, h1, fun Hs1 A1 v1 H1 s1 p1 ok1 rel1 => ?_⟩
  cases r with
  | dat d =>
    cases d with
    | lst L' =>
      cases e
      have hd : Dz C.K Hs1 v1 (.lst L) := rel1
      rw [hK] at hd
      cases hd with
      | lst hs ha => exact ⟨_, rfl, ⟨_, ok1.same.seq hs⟩, q Hs1 A1 H1 _ none s1 p1 ok1 trivial (jw_list hs ha)⟩
    | _ => cases e
  | bor j =>
    obtain ⟨a, ha, rfl⟩ := (show ∃ a, A1[j]? = some a ∧ v1 = .ref a from rel1)
    simp only [ziB] at e
    split at e
    · rename_i hj
      split at e
      · rename_i L' p l hg
        cases e
        obtain ⟨a', vs, ev, hA, hH, hz⟩ := ok1.bor rel1 hg
        cases ev
        refine ⟨a, rfl, ⟨vs, SqL.of hH⟩, q Hs1 A1 H1 _ (some (a, .lst L)) s1 p1 ok1 ⟨ha, ⟨p, l, hg⟩, hj⟩ jw_own⟩
      · rename_i L' hg
        cases e
        obtain ⟨a', w1, _, hd⟩ := ok1.frz j _ hg
        rw [ha] at w1
        cases w1
        rw [hK] at hd
        cases hd with
        | lst hs hz => exact ⟨a, rfl, ⟨_, ok1.same.seq hs⟩, q Hs1 A1 H1 _ none s1 p1 ok1 trivial (jw_list hs hz)⟩
      · rename_i ls hg
        cases e
        obtain ⟨Hs2, a', s2, ok2, w1, hd⟩ := ok1.frzAt (d := .lst (ls.map D.lst)) (g' := g1.set j (.frz (.lst (ls.map D.lst)))) (by unfold Z.frzAt; rw [hg])
        rw [ha] at w1
        cases w1
        rw [hK] at hd
        cases hd with
        | lst hs hz => exact ⟨a, rfl, ⟨_, ok2.same.seq hs⟩, q Hs2 A1 H1 _ none (s1.trans s2) p1 ok2 trivial (jw_list hs hz)⟩
      · cases e
    · split at e
      · rename_i L' g2 h2
        cases e
        obtain ⟨Hs2, a', s2, ok2, w1, hd⟩ := ok1.frzAt h2
        rw [ha] at w1
        cases w1
        rw [hK] at hd
        cases hd with
        | lst hs hz => exact ⟨a, rfl, ⟨_, ok2.same.seq hs⟩, q Hs2 A1 H1 _ none (s1.trans s2) p1 ok2 trivial (jw_list hs hz)⟩
      · cases e
def ziT (m : ZM) : MI := fun g => do
  let (r, g1) ← m g
  match r with
  | .dat (.tup L) => some (L, none, g1)
  | _ => none
theorem zi_tup {l : Expr} (hl : ZE X l m) : ZI X tg l (ziT m) := by
  refine PI.of (pi_tup hl) fun σ H Rr ⟨C, Hs, A, g, L, lk, g', hK, hn, ok, e, q⟩ => ?_
  unfold ziT at e
  simp only [Option.bind_eq_bind, Option.bind_eq_some_iff] at e
  obtain ⟨⟨r, g1⟩, h1, e⟩ := e
  refine ⟨C, Hs, A, g, r, g1, hK, hn, ok, h1, fun Hs1 A1 v1 H1 s1 p1 ok1 rel1 => ?_⟩
  cases r with
  | bor j => cases e
  | dat d =>
    cases d with
    | tup L' =>
      cases e
      have hd : Dz C.K Hs1 v1 (.tup L) := rel1
      rw [hK] at hd
      cases hd with
      | tup hs ha =>
        rename_i a vs
        refine ⟨a, rfl, ⟨vs, sameT ok1.same hs⟩, q Hs1 A1 H1 _ none s1 p1 ok1 trivial ⟨fun Hs H i st hi => ⟨vs, sameT (st.1.trans st.2) hs, by rw [ha.length]; exact hi⟩, fun Hs H i st hi => ?_, fun C Hs A g σ H i x H' hK ok st hi y => ?_⟩⟩
        · have hv : i < vs.length := by rw [ha.length]; exact hi
          exact ⟨vs, vs[i], sameT (st.1.trans st.2) hs, List.getElem?_eq_getElem hv⟩
        · obtain ⟨rfl, y⟩ := y
          obtain ⟨d, h1, h2⟩ := (ha.mono st.1).getV (y vs (sameT (st.1.trans st.2) hs))
          exact ⟨d, Hs, h1, Same.refl _, ok, h2⟩
    | _ => cases e
/-- lo, lo + 1, .. -/
def rgD (lo : Int) (n : Nat) : List D := (List.range n).map fun (i : Nat) => D.int (lo + (i : Int))
theorem rgD_len (lo : Int) (n : Nat) : (rgD lo n).length = n := by simp [rgD]
theorem rgD_get {lo : Int} {n i : Nat} (h : i < n) : (rgD lo n)[i]? = some (.int (lo + (i : Int))) := by simp [rgD, h]
theorem jw_range {K : PySem.W.Frag} {lo : Int} {n : Nat} {St : Hp → Hp → Prop} : JW K (Itr lo n) (rgD lo n) St where
  stop := fun Hs H i _ hi => by rw [rgD_len] at hi; exact hi
  go := fun Hs H i _ hi => by rw [rgD_len] at hi; exact hi
  yld := fun C Hs A g σ H i x H' hK ok st hi y => by
    rw [rgD_len] at hi
    obtain ⟨rfl, rfl⟩ := y
    exact ⟨_, Hs, rgD_get hi, Same.refl _, ok, .int _⟩
def rgOk (i : Int) : Bool := decide (-(2 ^ 62) ≤ i) && decide (i < 2 ^ 62)
def ziR1 (ma : ZAr) : MI := fun g => do
  let (rs, g1) ← ma g
  match rs with
  | [.dat (.int j)] => if rgOk j = true then some (rgD 0 j.toNat, none, g1) else none
  | _ => none
theorem rgOk_ok {i : Int} (h : rgOk i = true) : -(2 ^ 62) ≤ i ∧ i < 2 ^ 62 := by
  unfold rgOk at h
  rw [Bool.and_eq_true] at h
  exact ⟨of_decide_eq_true h.1, of_decide_eq_true h.2⟩
theorem relRs1 {K : PySem.W.Frag} {Hs : Hp} {A : List Addr} {vs : List V} {r : R} (h : RelRs K Hs A vs [r]) : ∃ v, vs = [v] ∧ RelR K Hs A v r := by
  cases vs with
  | nil => exact h.elim
  | cons v vs =>
    cases vs with
    | nil => exact ⟨v, rfl, h.1⟩
    | cons _ _ => exact h.2.elim
variable {a b : Expr} {ma : ZAr} {p : Pos}
theorem zi_range1 (hg : Gl X "range") (hm : X.mg "range" = none) (ha : ZAs X [a] ma) (hs : starEach [a] X.env = [(false, eval a X.env)] := by rfl) : ZI X tg (.Call (.Name "range" p) [a] [] pos) (ziR1 ma) := by
  refine PI.of (pi_range1 hg hm ha hs) fun σ H Rr ⟨C, Hs, A, g, L, lk, g', hK, hn, ok, e, q⟩ => ?_
  unfold ziR1 at e
  simp only [Option.bind_eq_bind, Option.bind_eq_some_iff] at e
  obtain ⟨⟨rs, g1⟩, h1, e⟩ := e
  refine ⟨C, Hs, A, g, rs, g1, hK, hn, ok, h1, fun Hs1 A1 vs H1 s1 p1 ok1 rel1 => ?_⟩
  simp only at e
  split at e
  · rename_i j
    split at e
    · rename_i hj
      cases e
      obtain ⟨v, rfl, w⟩ := relRs1 rel1
      have ev : v = .int j := (show Dz C.K Hs1 v (.int j) from w).v rfl
      subst ev
      exact ⟨j, rfl, (rgOk_ok hj).1, (rgOk_ok hj).2, q Hs1 A1 H1 _ none s1 p1 ok1 trivial jw_range⟩
    · cases e
  · cases e
def forL (tg : TD) (body : SM) : List D → SM
  | [], g => some (.nx, g)
  | x :: xs, g => do
    let g1 ← tg x g
    let (fl, g2) ← body g1
    match fl with
    | .nx => forL tg body xs g2
    | .ct => forL tg body xs g2
    | .bk => some (.nx, g2)
    | .ret r => some (.ret r, g2)
def unlk (j : Nat) (l : Bool) (g : G) : G := match g[j]? with
  | some (.own c p _) => g.set j (.own c p l)
  | _ => g
def zFor (n : Nat) (mi : MI) (tg : TD) (body : SM) : SM := fun g => do
  let (L, lk, g1) ← mi g
  match lk with
  | none => forL tg body L (g1.take n)
  | some j => match (g1.take n)[j]? with
    | some (.own c p l) => do
      let (fl, g3) ← forL tg body L ((g1.take n).set j (.own c p true))
      some (fl, unlk j l g3)
    | _ => none
def Ct.lock (C : Ct) (q : Nat × Addr × Cn) (h : q.1 < C.n) : Ct := { C with
  locks := q :: C.locks
  llt := fun r hr => by
    rcases List.mem_cons.mp hr with rfl | hr
    · exact h
    · exact C.llt r hr }
/-- the walk itself -/
theorem for_of {tgd : TD} {body : SM} {W : Ends} {C : Ct} {Hs1 : Hp} {A1 : List Addr} {g2 g3 : G} {σ : L2.St} {H1 : Hp} {L : List D} {J : It} {lk' : Option (Addr × Cn)} {fl : Fl} {K : PySem.W.Frag} {n : Nat} (hK : C.K = K) (hn : C.n = n)
    (ok : Ok C Hs1 A1 g2 σ H1) (jw : JW K J L (Src K Hs1 lk')) (hl : ∀ a c, lk' = some (a, c) → ∃ j, (j, a, c) ∈ C.locks) (e : forL tgd body L g2 = some (fl, g3)) (q : FlP C Hs1 g3 W fl) :
    ∃ Wi : Nat → Nat → L2.St → Hp → Prop, (∃ m, Wi 0 m σ H1) ∧ ∀ i m σ H, Wi i m σ H →
      (J.stop i H ∧ W.nx σ H) ∨ (J.go i H ∧ ∃ N : L2.St → Hp → Prop, (∀ σ' H', N σ' H' → ∃ m', m' < m ∧ Wi (i + 1) m' σ' H') ∧ ∀ x H', J.yld i H x H' → tZG K n tgd x σ H' fun σ2 H2 => tZS K n body { W with nx := N, ct := N, bk := W.nx } σ2 H2) := by
  have src : ∀ {Hs A g σ H}, Same Hs1 Hs → Ok C Hs A g σ H → Src K Hs1 lk' Hs H := fun {Hs A g σ H} s ok => by
    cases lk' with
    | none => exact ⟨s, ok.same⟩
    | some ac =>
      obtain ⟨a, c⟩ := ac
      obtain ⟨j, hj⟩ := hl a c rfl
      obtain ⟨p, h1, h2⟩ := ok.locked _ hj
      obtain ⟨a', o, w1, _, _, w4, w5, _⟩ := ok.own j c p true h1
      have : some a = some a' := h2.symm.trans w1
      cases this
      exact ⟨o, w4, by rw [← hK]; exact w5⟩
  refine ⟨fun i m σ H => m = L.length - i ∧ i ≤ L.length ∧ ∃ Hs A g, Same Hs1 Hs ∧ Ok C Hs A g σ H ∧ forL tgd body (L.drop i) g = some (fl, g3), ⟨L.length, by simp, Nat.zero_le _, Hs1, A1, g2, Same.refl _, ok, by simpa using e⟩, ?_⟩
  rintro i m σ H ⟨rfl, hi, Hs, A, g, s, ok, e⟩
  by_cases hlt : i < L.length
  · refine .inr ⟨jw.go Hs H i (src s ok) hlt, ?_⟩
    rw [List.drop_eq_getElem_cons hlt] at e
    simp only [forL, Option.bind_eq_bind, Option.bind_eq_some_iff] at e
    obtain ⟨ga, e1, ⟨flb, gb⟩, e2, e3⟩ := e
    have fin : ∀ (N : L2.St → Hp → Prop), (∀ Hs', Same Hs Hs' → FlP C Hs' gb { W with nx := N, ct := N, bk := W.nx } flb) → ∀ x H', J.yld i H x H' → tZG K n tgd x σ H' fun σ2 H2 => tZS K n body { W with nx := N, ct := N, bk := W.nx } σ2 H2 := fun N hf x H' y => by
      obtain ⟨d, Hs', hd, s', ok', dz⟩ := jw.yld C Hs A g σ H i x H' hK ok (src s ok) hlt y
      rw [List.getElem?_eq_getElem hlt] at hd
      cases hd
      exact ⟨C, Hs', A, g, _, ga, hK, hn, ok', dz, e1, fun σ2 ok2 => ⟨C, Hs', A, ga, flb, gb, hK, hn, ok2, e2, hf Hs' s'⟩⟩
    cases flb with
    | nx =>
      refine ⟨fun σ' H' => ∃ Hs' A', Same Hs1 Hs' ∧ Ok C Hs' A' gb σ' H', fun σ' H' ⟨Hs', A', s', ok'⟩ => ⟨L.length - (i + 1), by omega, rfl, hlt, Hs', A', gb, s', ok', e3⟩, fin _ fun Hs' s' => ?_⟩
      exact fun Hs2 A2 σ2 H2 s2 ok2 => ⟨Hs2, A2, (s.trans s').trans s2, ok2⟩
    | ct =>
      refine ⟨fun σ' H' => ∃ Hs' A', Same Hs1 Hs' ∧ Ok C Hs' A' gb σ' H', fun σ' H' ⟨Hs', A', s', ok'⟩ => ⟨L.length - (i + 1), by omega, rfl, hlt, Hs', A', gb, s', ok', e3⟩, fin _ fun Hs' s' => ?_⟩
      exact fun Hs2 A2 σ2 H2 s2 ok2 => ⟨Hs2, A2, (s.trans s').trans s2, ok2⟩
    | bk =>
      refine ⟨fun _ _ => False, fun _ _ z => z.elim, fin _ fun Hs' s' => ?_⟩
      cases e3
      exact fun Hs2 A2 σ2 H2 s2 ok2 => q Hs2 A2 σ2 H2 ((s.trans s').trans s2) ok2
    | ret r =>
      refine ⟨fun _ _ => False, fun _ _ z => z.elim, fin _ fun Hs' s' => ?_⟩
      cases e3
      exact fun Hs2 A2 σ2 H2 v s2 ok2 => q Hs2 A2 σ2 H2 v ((s.trans s').trans s2) ok2
  · have ei : i = L.length := by omega
    subst ei
    rw [List.drop_length] at e
    cases e
    exact .inl ⟨jw.stop Hs H _ (src s ok) (Nat.le_refl _), q Hs A σ H s ok⟩
theorem FlP.of {C C' : Ct} {Hs : Hp} {g g' : G} {W : Ends} {fl : Fl} (hK : C'.K = C.K) (h : ∀ Hs' A' σ' H', Ok C' Hs' A' g' σ' H' → Ok C Hs' A' g σ' H') (q : FlP C Hs g W fl) : FlP C' Hs g' W fl := by
  cases fl with
  | nx => exact fun Hs' A' σ' H' s ok => q Hs' A' σ' H' s (h _ _ _ _ ok)
  | bk => exact fun Hs' A' σ' H' s ok => q Hs' A' σ' H' s (h _ _ _ _ ok)
  | ct => exact fun Hs' A' σ' H' s ok => q Hs' A' σ' H' s (h _ _ _ _ ok)
  | ret r => exact fun Hs' A' σ' H' v s ok rel => q Hs' A' σ' H' v s (h _ _ _ _ ok) (by rw [← hK]; exact rel)
theorem zs_for {iter : Expr} {body : List Stmt} {mi : MI} {g : TD} {s : SM} (hp : PassesOwn (model X.prog X.w) X.A X.env X.xe) (hc : X.calm = true) (hi : ZI X tg iter mi) (hg : ZG X tg g) (hb : ZSs X body s)
    (hs : ∀ x, foldedSetIterable iter X.env x = pure x := by intro _; rfl) : ZS X (.For tg iter body [] pos) (zFor X.N.length mi g s) := by
  refine PS.of (ps_for hp hc hi hg hb hs) fun W σ H ⟨C, Hs, A, g, fl, g', hK, hn, ok, e, q⟩ => ?_
  unfold zFor at e
  simp only [Option.bind_eq_bind, Option.bind_eq_some_iff] at e
  obtain ⟨⟨L, lk, g1⟩, h1, e⟩ := e
  refine ⟨C, Hs, A, g, L, lk, g1, hK, hn, ok, h1, fun Hs1 A1 H1 J lk' s1 _p1 ok1 hl jw => ?_⟩
  have okc := ok1.cut
  rw [hn] at okc
  cases lk with
  | none =>
    cases lk' with
    | some _ => exact hl.elim
    | none =>
      exact for_of hK hn okc jw (fun _ _ z => by cases z) e (q.mono s1)
  | some j =>
    cases lk' with
    | none => exact hl.elim
    | some ac =>
      obtain ⟨a, c⟩ := ac
      obtain ⟨ha, ⟨p0, l0, hgj⟩, hj⟩ := hl
      simp only at e
      split at e
      · rename_i c' p l hg2
        rw [List.getElem?_take_of_lt hj, hgj] at hg2
        cases hg2
        simp only [Option.bind_eq_some_iff] at e
        obtain ⟨⟨fl1, g3⟩, e1, e2⟩ := e
        cases e2
        have hgc : (g1.take X.N.length)[j]? = some (.own c p0 l0) := by rw [List.getElem?_take_of_lt hj]; exact hgj
        have hac : (A1.take X.N.length)[j]? = some a := by rw [List.getElem?_take_of_lt hj]; exact ha
        have hjn : j < C.n := by rw [hn]; exact hj
        have okl : Ok (C.lock (j, a, c) hjn) Hs1 (A1.take X.N.length) ((g1.take X.N.length).set j (.own c p0 true)) σ H1 := by
          refine okc.lk hgc rfl rfl rfl rfl rfl fun r hr => ?_
          rcases List.mem_cons.mp hr with rfl | hr
          · exact .inl ⟨rfl, rfl, rfl, hac⟩
          · by_cases z : r.1 = j
            · obtain ⟨p', w1, w2⟩ := okc.locked r hr
              rw [z, hgc] at w1
              cases w1
              rw [z] at w2
              exact .inl ⟨z, rfl, rfl, w2⟩
            · exact .inr ⟨z, hr⟩
        refine for_of (C := C.lock (j, a, c) hjn) hK hn okl jw (fun a' c' z => ⟨j, by cases z; exact List.mem_cons_self⟩) e1 ?_
        refine (q.mono s1).of (C := C) rfl fun Hs' A' σ' H' ok' => ?_
        obtain ⟨p', w1, w2⟩ := ok'.locked (j, a, c) List.mem_cons_self
        unfold unlk
        rw [show g3[j]? = some (.own c p' true) from w1]
        refine ok'.lk (C' := C) w1 rfl rfl rfl rfl rfl fun r hr => ?_
        by_cases z : r.1 = j
        · obtain ⟨p2, y1, y2⟩ := okc.locked r hr
          rw [z, hgc] at y1
          have e3 : some (Sl.own c p0 l0) = some (.own r.2.2 p2 true) := y1
          cases e3
          obtain ⟨p3, x1, x2⟩ := ok'.locked r (List.mem_cons_of_mem _ hr)
          rw [z] at x2
          exact .inl ⟨z, rfl, rfl, x2⟩
        · exact .inr ⟨z, List.mem_cons_of_mem _ hr⟩
      · cases e
end
end Z
set_option Elab.async false
set_option linter.all false
set_option maxRecDepth 100000
set_option maxHeartbeats 4000000
namespace Z
open PySem PySem.Spec PyProof.Rows L2
/-- what a def hands back: data, or a new container -/
inductive FR where
  | dat (d : D) | new (c : Cn) | newR (ls : List (List D))
  deriving Inhabited
def RelF (K : PySem.W.Frag) (Hs' H H' : Hp) (v : V) : FR → Prop
  | .dat d => Dz K Hs' v d
  | .new c => ∃ a o, v = .ref a ∧ H a = none ∧ Hs' a = none ∧ H' a = some o ∧ CnOk K Hs' c o
  | .newR ls => ∃ a ks, v = .ref a ∧ Kd K Hs' H H' a ks ls
/-- the promise of a def that changes nothing -/
def spP (K : PySem.W.Frag) (f : List D → Option FR) : Sp := fun vs H Q _ => ∃ (Hs : Hp) (ds : List D) (fr : FR), Same Hs H ∧ DzA K Hs vs ds ∧ f ds = some fr ∧
  ∀ (v : V) (Hs' H' : Hp), Same Hs Hs' → Same H H' → Same Hs' H' → (∀ b o, Hs' b = some o → Hs b = some o ∨ H b = none) → RelF K Hs' H H' v fr → Q v H'
/-- .. of one that changes its k-th argument, a container -/
def spM (K : PySem.W.Frag) (k : Nat) (f : Cn → List D → Option (FR × Cn)) : Sp := fun vs H Q _ => ∃ (Hs : Hp) (ds : List D) (c c' : Cn) (a : Addr) (o : HO) (fr : FR), Same Hs H ∧ vs[k]? = some (.ref a) ∧ DzA K Hs (vs.eraseIdx k) ds ∧ Hs a = none ∧ H a = some o ∧ CnOk K Hs c o ∧ f c ds = some (fr, c') ∧
  ∀ (v : V) (Hs' H' : Hp) (o' : HO), Same Hs Hs' → (∀ b u, b ≠ a → H b = some u → H' b = some u) → Same Hs' H' → (∀ b o, Hs' b = some o → Hs b = some o ∨ H b = none) → Hs' a = none → H' a = some o' → CnOk K Hs' c' o' → RelF K Hs' H H' v fr → Q v H'
def fin (g : G) : R → Option FR
  | .dat d => some (.dat d)
  | .bor j => match g[j]? with
    | some (.own c false false) => some (.new c)
    | some (.frz d) => some (.dat d)
    | some (.rws ls) => some (.newR ls)
    | _ => none
def start0 (n : Nat) (ds : List D) : G := ds.map Sl.dat ++ List.replicate (n - ds.length) .un
def runP (n np : Nat) (s : SM) : List D → Option FR := fun ds => if ds.length = np then
    (match s (start0 n ds) with
    | some (.ret r, g) => fin g r
    | some (.nx, _) => some (.dat .non)
    | _ => none)
  else none
theorem start_len {N : List Str} {vs : List V} (h : vs.length ≤ N.length) : (L2.start N vs).length = N.length := by
  unfold L2.start
  rw [List.length_append, List.length_map, List.length_replicate]
  omega
theorem ok_start {K : PySem.W.Frag} {N : List Str} {Hs H : Hp} {vs : List V} {ds : List D} (h : ds.length ≤ N.length) (s : Same Hs H) (hz : DzA K Hs vs ds) :
    Ok { K := K, n := N.length, H0 := H, Hs0 := Hs, pins := [], locks := [], plt := fun _ h => (List.not_mem_nil h).elim, llt := fun _ h => (List.not_mem_nil h).elim } Hs (List.replicate N.length 0) (start0 N.length ds) (L2.start N vs) H := by
  have hvl := hz.length
  have old : ∀ (i : Nat) (t : Sl), (start0 N.length ds)[i]? = some t → (∃ d, ds[i]? = some d ∧ t = .dat d) ∨ t = .un := fun i t e => by
    unfold start0 at e
    by_cases hi : i < ds.length
    · rw [List.getElem?_append_left (by simpa using hi), List.getElem?_map] at e
      rw [List.getElem?_eq_getElem hi] at e
      exact .inl ⟨ds[i], List.getElem?_eq_getElem hi, (Option.some.inj e).symm⟩
    · rw [List.getElem?_append_right (by simpa using hi), List.getElem?_replicate] at e
      split at e
      · exact .inr (Option.some.inj e).symm
      · cases e
  refine ⟨start_len (by omega), by unfold start0; simp; omega, by unfold start0; simp; omega, Same.refl _, s, fun i d e => ?_, fun i d e => ?_, fun i c p l e => ?_, fun i j c p l c' p' l' a e _ _ _ => ?_, fun b o e => .inl e, fun b o e _ => e, fun _ h => (List.not_mem_nil h).elim, fun i c l a e _ => ?_, fun _ h => (List.not_mem_nil h).elim, fun i ls e => ?_⟩
  · rcases old i _ e with ⟨d', h1, h2⟩ | z
    · cases h2
      obtain ⟨v, w1, w2⟩ := hz.get h1
      refine ⟨v, ?_, w2⟩
      have hi := (List.getElem?_eq_some_iff.mp w1).1
      unfold L2.start
      rw [List.getElem?_append_left (by simpa using hi), List.getElem?_map, w1]
      rfl
    · cases z
  · rcases old i _ e with ⟨d', h1, h2⟩ | z
    · cases h2
    · cases z
  · rcases old i _ e with ⟨d', h1, h2⟩ | z
    · cases h2
    · cases z
  · rcases old i _ e with ⟨d', h1, h2⟩ | z
    · cases h2
    · cases z
  · rcases old i _ e with ⟨d', h1, h2⟩ | z
    · cases h2
    · cases z
  · rcases old i _ e with ⟨d', h1, h2⟩ | z
    · cases h2
    · cases z
theorem fin_ok {C : Ct} {Hs H' : Hp} {A : List Addr} {g : G} {σ : L2.St} {v : V} {r : R} {fr : FR} (ok : Ok C Hs A g σ H') (h : RelR C.K Hs A v r) (e : fin g r = some fr) : RelF C.K Hs C.H0 H' v fr := by
  cases r with
  | dat d => cases e; exact h
  | bor j =>
    obtain ⟨a, ha, rfl⟩ := (show ∃ a, A[j]? = some a ∧ v = .ref a from h)
    simp only [fin] at e
    split at e
    · rename_i c hg
      cases e
      obtain ⟨a', o, w1, _, w3, w4, w5, w6⟩ := ok.own j _ _ _ hg
      rw [ha] at w1
      cases w1
      exact ⟨a, o, rfl, w6 rfl, w3, w4, w5⟩
    · rename_i d hg
      cases e
      obtain ⟨a', w1, _, w3⟩ := ok.frz j _ hg
      rw [ha] at w1
      cases w1
      exact w3
    · rename_i ls hg
      cases e
      obtain ⟨a', ks, w1, _, w3, _⟩ := ok.rws j _ hg
      rw [ha] at w1
      cases w1
      exact ⟨a, ks, rfl, w3⟩
    · cases e
section
variable {P : Program} {w : World} {K : PySem.W.Frag} {mg : Str → Option Value} {base : Heap}
/-- THE RULE for a def that changes nothing -/
theorem okP {x qual : Str} {st : Stmt} {f : Addr} {fd : FuncData} {N ps : List Str} {k : Nat} {s : SM} (F : Fun K x qual st f fd) (S : FnScope N ps (defScope st))
    (hbody : ∀ (cdv : Value) (A : Around) (outer : List Env) (s0 : Shared) (H : Hp) (E : XK), Room k (A.deeper (envOfC qual (defScope st) s0.heap.objs.size f cdv)) →
      ZSs (cxOf CX0 P w K mg base N qual (defScope st) f cdv A outer s0 H E).nox (defBody st) s) : FnOk P w K mg base CX0 (k + 1) f fd ps (spP K (runP N.length ps.length s)) := by
  have arity : ∀ vs H Q E, spP K (runP N.length ps.length s) vs H Q E → vs.length = ps.length := fun vs H Q E ⟨Hs, ds, fr, _, hz, e, _⟩ => by
    unfold runP at e
    split at e
    · rename_i h
      rw [hz.length]
      exact h
    · cases e
  refine F.ok S arity (fun cdv A outer s0 H vs Q E hr h => ⟨_, hbody cdv A outer s0 H E hr, ?_⟩)
  have hal := arity vs H Q E h
  obtain ⟨Hs, ds, fr, sm, hz, e, q⟩ := h
  have hpl : ps.length ≤ N.length := by
    have := congrArg List.length S.pre
    rw [List.length_take] at this
    omega
  have hdl : ds.length ≤ N.length := by rw [← hz.length]; omega
  unfold runP at e
  rw [if_pos (by rw [← hz.length]; exact hal)] at e
  split at e
  · rename_i r g' hs
    refine ⟨_, Hs, _, start0 N.length ds, .ret r, g', rfl, rfl, ok_start hdl sm hz, hs, ?_⟩
    exact fun Hs' A' σ' H' v s1 ok1 rel1 => q v Hs' H' s1 (fun b o e => ok1.keep b o e (fun _ h => (List.not_mem_nil h).elim)) ok1.same ok1.grow (fin_ok ok1 rel1 e)
  · rename_i g' hs
    cases e
    refine ⟨_, Hs, _, start0 N.length ds, .nx, g', rfl, rfl, ok_start hdl sm hz, hs, ?_⟩
    exact fun Hs' A' σ' H' s1 ok1 => q .non Hs' H' s1 (fun b o e => ok1.keep b o e (fun _ h => (List.not_mem_nil h).elim)) ok1.same ok1.grow .non
  · cases e
/-- the def that the module's name x holds keeps a promise, by at most level k -/
def Cal (P : Program) (w : World) (K : PySem.W.Frag) (mg : Str → Option Value) (base : Heap) (k : Nat) (x : Str) (sp : Sp) : Prop :=
  ∃ (f : Addr) (fd : FuncData) (ps : List Str), mg x = some (.ref f) ∧ PySem.W.keepIn K (.ref f) = true ∧ Binds K fd ps [] ∧ FnOk P w K mg base CX0 k f fd ps sp
theorem Cal.mono {j k : Nat} {x : Str} {sp : Sp} (c : Cal P w K mg base j x sp) (h : j ≤ k) : Cal P w K mg base k x sp :=
  let ⟨f, fd, ps, h1, h2, h3, h4⟩ := c
  ⟨f, fd, ps, h1, h2, h3, h4.mono h⟩
end
theorem Ok.adopt {C : Ct} {Hs : Hp} {A : List Addr} {g : G} {σ : L2.St} {H H' : Hp} (ok : Ok C Hs A g σ H) {a : Addr} {o : HO} {c : Cn} (h : H a = none) (s : Same H H') (e : H' a = some o) (hc : CnOk C.K Hs c o) : Ok C Hs (A ++ [a]) (g ++ [.own c false false]) σ H' :=
  (ok.tmp h hc).more fun b u q => by
    by_cases z : b = a
    · subst z
      rw [upd_same] at q
      cases q
      exact e
    · rw [upd_ne z] at q
      exact s b u q
/-- .. where the known things grew too -/
theorem Ok.adoptS {C : Ct} {Hs Hs' : Hp} {A : List Addr} {g : G} {σ : L2.St} {H H' : Hp} (ok : Ok C Hs A g σ H) (s : Same H H') (s1 : Same Hs Hs') (s2 : Same Hs' H') (gr : ∀ b o, Hs' b = some o → Hs b = some o ∨ H b = none) {a : Addr} {o : HO} {c : Cn} (h : H a = none) (ha : Hs' a = none) (e : H' a = some o) (hc : CnOk C.K Hs' c o) :
    Ok C Hs' (A ++ [a]) (g ++ [.own c false false]) σ H' := by
  -- first without a
  have ok1 : Ok C Hs' A g σ (fun b => if b = a then none else H' b) := by
    refine ok.moreS (fun b u q => ?_) s1 (fun b u q => ?_) gr
    · have z : b ≠ a := fun z => by rw [z, h] at q; cases q
      show (if b = a then none else H' b) = some u
      rw [if_neg z]
      exact s b u q
    · have z : b ≠ a := fun z => by rw [z, ha] at q; cases q
      show (if b = a then none else H' b) = some u
      rw [if_neg z]
      exact s2 b u q
  refine (ok1.adopt (H' := H') (a := a) (o := o) (by show (if a = a then none else H' a) = none; rw [if_pos rfl]) (fun b u q => ?_) e hc)
  have q' : (if b = a then none else H' b) = some u := q
  split at q'
  · cases q'
  · exact q'
def zCall (f : List D → Option FR) (ma : ZAr) : ZM := fun g => do
  let (rs, g1) ← ma g
  let ds ← rdAll g1 rs
  let fr ← f ds
  match fr with
  | .dat d => if d.scal = true then some (.dat d, g1) else do
    let (ds2, g2) ← frzAll rs g1
    let fr2 ← f ds2
    match fr2 with
    | .dat d2 => some (.dat d2, g2)
    | _ => none
  | .new c => if c.scal = true then some (.bor g1.length, g1 ++ [.own c false false]) else do
    let (ds2, g2) ← frzAll rs g1
    let fr2 ← f ds2
    match fr2 with
    | .new c2 => some (.bor g2.length, g2 ++ [.own c2 false false])
    | _ => none
  | .newR _ => do
    let (ds2, g2) ← frzAll rs g1
    let fr2 ← f ds2
    match fr2 with
    | .newR ls => some (.bor g2.length, g2 ++ [.rws ls])
    | _ => none
section
variable {X : Cx} {f : List D → Option FR} {ma : ZAr}
theorem call_of {σ : L2.St} {H : Hp} {Q : VK} {E : XK} (h : tZ X.K X.N.length (zCall f ma) σ H Q) : tCall (spP X.K f) [] E (tZA X.K X.N.length ma) σ H Q := by
  obtain ⟨C, Hs, A, g, r, g', hK, hn, ok, e, q⟩ := h
  unfold zCall at e
  simp only [Option.bind_eq_bind, Option.bind_eq_some_iff] at e
  obtain ⟨⟨rs, g1⟩, h1, ds, h2, fr, h3, e⟩ := e
  refine ⟨C, Hs, A, g, rs, g1, hK, hn, ok, h1, fun Hs1 A1 vs H1 s1 p1 ok1 rel1 => ?_⟩
  show spP X.K f (vs ++ []) H1 Q E
  rw [List.append_nil]
  have plain : DzA X.K H1 vs ds := by
    have x := rdAll_ok ok1 rel1 h2
    rw [hK] at x
    exact x
  cases fr with
  | dat d =>
    simp only at e
    split at e
    · rename_i hs
      cases e
      refine ⟨H1, ds, .dat d, Same.refl _, plain, h3, fun v Hs' H' _ sH _ _ rf => ?_⟩
      exact q Hs1 A1 v H' s1 p1 (ok1.more sH) (show Dz C.K Hs1 v d from by rw [hK]; exact (show Dz X.K Hs' v d from rf).any hs)
    · simp only [Option.bind_eq_some_iff] at e
      obtain ⟨⟨ds2, g2⟩, h4, fr2, h5, e⟩ := e
      obtain ⟨Hs2, s2, ok2, z2⟩ := frzAll_ok ok1 rel1 h4
      cases fr2 with
      | new _ => cases e
      | newR _ => cases e
      | dat d2 =>
        cases e
        refine ⟨Hs2, ds2, .dat d2, ok2.same, by rw [← hK]; exact z2, h5, fun v Hs' H' sS sH sP gr rf => ?_⟩
        exact q Hs' A1 v H' ((s1.trans s2).trans sS) p1 (ok2.moreS sH sS sP gr) (show Dz C.K Hs' v d2 from by rw [hK]; exact rf)
  | new c =>
    simp only at e
    split at e
    · rename_i hs
      cases e
      refine ⟨H1, ds, .new c, Same.refl _, plain, h3, fun v Hs' H' _ sH _ _ rf => ?_⟩
      obtain ⟨a, o, rfl, w1, w2, w3, w4⟩ := rf
      have w5 : CnOk C.K Hs1 c o := by rw [hK]; exact w4.any hs
      exact q Hs1 (A1 ++ [a]) _ H' s1 (p1.trans (Pre.app _ _)) (ok1.adopt w1 sH w3 w5) (ok1.tmpR a)
    · simp only [Option.bind_eq_some_iff] at e
      obtain ⟨⟨ds2, g2⟩, h4, fr2, h5, e⟩ := e
      obtain ⟨Hs2, s2, ok2, z2⟩ := frzAll_ok ok1 rel1 h4
      cases fr2 with
      | dat _ => cases e
      | newR _ => cases e
      | new c2 =>
        cases e
        refine ⟨Hs2, ds2, .new c2, ok2.same, by rw [← hK]; exact z2, h5, fun v Hs' H' sS sH sP gr rf => ?_⟩
        obtain ⟨a, o, rfl, w1, w2, w3, w4⟩ := rf
        exact q Hs' (A1 ++ [a]) _ H' ((s1.trans s2).trans sS) (p1.trans (Pre.app _ _)) (ok2.adoptS sH sS sP gr w1 w2 w3 (by rw [hK]; exact w4)) (ok2.tmpR a)
  | newR _ =>
    simp only [Option.bind_eq_some_iff] at e
    obtain ⟨⟨ds2, g2⟩, h4, fr2, h5, e⟩ := e
    obtain ⟨Hs2, s2, ok2, z2⟩ := frzAll_ok ok1 rel1 h4
    cases fr2 with
    | dat _ => cases e
    | new _ => cases e
    | newR ls =>
      cases e
      refine ⟨Hs2, ds2, .newR ls, ok2.same, by rw [← hK]; exact z2, h5, fun v Hs' H' sS sH sP gr rf => ?_⟩
      obtain ⟨a, ks, rfl, w⟩ := rf
      rw [← hK] at w
      exact q Hs' (A1 ++ [a]) _ H' ((s1.trans s2).trans sS) (p1.trans (Pre.app _ _)) ((ok2.moreS sH sS sP gr).addR (w.low fun x m => (ok2.fresh0 (w.fr x m).2).2) (fun j c p l b e1 e2 m => ok2.deadO e1 e2 (w.fr b m).2) (fun j ms b x e1 e2 m1 m2 => ok2.deadR e1 e2 (by
        obtain ⟨a2, ks2, r1, _, r3, _⟩ := ok2.rws j ms e1
        rw [e2] at r1
        cases r1
        rw [sH _ _ r3.hd, ← r3.hd] at m1
        exact m1) (w.fr x m2).2)) (ok2.tmpR a)
theorem ze_call {k : Nat} {x : Str} {p pos : Pos} {e : Expr} {es : List Expr} (c : Cal X.prog X.w X.K X.mg X.base k x (spP X.K f)) (hr : Room k X.A) (ha : ZAs X (e :: es) ma) (hg : Gl X x := by rfl)
    (hdb : (x == ("__debug__" : Str)) = false := by decide) (he : starEach (e :: es) X.env = (false, eval e X.env) :: starEach es X.env := by rfl) (hpl : (backTo pos (starEach es X.env)).any (·.1) = false := by rfl) :
    ZE X (.Call (.Name x p) (e :: es) [] pos) (zCall f ma) := by
  obtain ⟨fa, fd, ps, h1, h2, h3, h4⟩ := c
  exact PE.of (pe_call (E := E0) h4 hr hg h1 h2 h3 .nil pass0 ha hdb he hpl) fun σ H Q h => call_of h
end
end Z
set_option Elab.async false
set_option linter.all false
set_option maxRecDepth 100000
set_option maxHeartbeats 4000000
namespace Z
open PySem PySem.Spec PyProof.Rows L2
theorem OpR.or {X : Cx} {f : Value → Value → Sem Value} {r r' : R2} (h : OpR X f r) (h' : OpR X f r') : OpR X f (fun x y H Q => r x y H Q ∨ r' x y H Q) := by
  intro pins s σ H x y v u Q I rx ry q
  rcases q with q | q
  · exact h pins s σ H x y v u Q I rx ry q
  · exact h' pins s σ H x y v u Q I rx ry q
theorem OpR.of {X : Cx} {f : Value → Value → Sem Value} {r r' : R2} (h : OpR X f r) (w : ∀ x y H Q, r' x y H Q → r x y H Q) : OpR X f r' := fun pins s σ H x y v u Q I rx ry q => h pins s σ H x y v u Q I rx ry (w _ _ _ _ q)
def subD : D → D → Option D
  | .int i, .int j => some (.int (i - j))
  | _, _ => none
theorem s_int {K : PySem.W.Frag} {g : Int → Int → D} {f : D → D → Option D} (hg : ∀ i j, (g i j).scal = true) (hf : ∀ d e z, f d e = some z → ∃ i j, d = .int i ∧ e = .int j ∧ z = g i j) : OpS K (rI0 fun i j => (g i j).v) f := by
  intro H x y d e z Q hx hy e1 q
  obtain ⟨i, j, rfl, rfl, rfl⟩ := hf d e z e1
  cases hx
  cases hy
  exact ⟨i, j, rfl, rfl, q⟩
theorem s_intC {K : PySem.W.Frag} {C : Int → Int → Prop} {g : Int → Int → D} {f : D → D → Option D} (hf : ∀ d e z, f d e = some z → ∃ i j, d = .int i ∧ e = .int j ∧ C i j ∧ z = g i j) : OpS K (rI C fun i j => (g i j).v) f := by
  intro H x y d e z Q hx hy e1 q
  obtain ⟨i, j, rfl, rfl, hc, rfl⟩ := hf d e z e1
  cases hx
  cases hy
  exact ⟨i, j, rfl, rfl, hc, q⟩
theorem s_sub {K : PySem.W.Frag} : OpS K (rI0 fun i j => .int (i - j)) subD := s_int (g := fun i j => .int (i - j)) (fun _ _ => rfl) fun d e z h => by
  unfold subD at h
  split at h
  · cases h; exact ⟨_, _, rfl, rfl, rfl⟩
  · cases h
/-- the product of two ints that the model reckons -/
def mulOk (i j : Int) : Bool := decide (i.natAbs < 2 ^ 64) || decide (j.natAbs < 2 ^ 64) || decide (i.natAbs.log2 + j.natAbs.log2 < 1000000)
theorem mulOk_ok {i j : Int} (h : mulOk i j = true) : IntMulOk i j := by
  unfold mulOk at h
  rw [Bool.or_eq_true, Bool.or_eq_true] at h
  rcases h with (h | h) | h
  · exact (show CMul i j from .inl (by have := of_decide_eq_true h; omega)).ok
  · exact (show CMul i j from .inr (by have := of_decide_eq_true h; omega)).ok
  · have h2 : i.natAbs.log2 + j.natAbs.log2 < 1000000 := of_decide_eq_true h
    exact CMulW.ok h2
def mulD : D → D → Option D
  | .int i, .int j => if mulOk i j = true then some (.int (i * j)) else none
  | _, _ => none
theorem o_mul {X : Cx} : OpR X (binaryOp .Mult) (rI (fun i j => mulOk i j = true) fun i j => .int (i * j)) := opI fun _ _ _ _ _ _ _ hc q => mul_int q (mulOk_ok hc)
theorem s_mul {K : PySem.W.Frag} : OpS K (rI (fun i j => mulOk i j = true) fun i j => .int (i * j)) mulD := s_intC (g := fun i j => .int (i * j)) fun d e z h => by
  unfold mulD at h
  split at h
  · split at h
    · cases h; exact ⟨_, _, rfl, rfl, by assumption, rfl⟩
    · cases h
  · cases h
def divOk (j : Int) : Bool := decide (j ≠ 0) && decide (j.natAbs.log2 < 9000)
def fdivV (i j : Int) : Int := if 0 < j then i / j else i.fdiv j
def fmodV (i j : Int) : Int := if 0 < j then i % j else i.fmod j
theorem fdivV_eq (i j : Int) : fdivV i j = i.fdiv j := by
  unfold fdivV
  split
  · rw [Int.fdiv_eq_ediv_of_nonneg i (by omega)]
  · rfl
theorem fmodV_eq (i j : Int) : fmodV i j = i.fmod j := by
  unfold fmodV
  split
  · rw [Int.fmod_eq_emod_of_nonneg i (by omega)]
  · rfl
def divD : D → D → Option D
  | .int i, .int j => if divOk j = true then some (.int (fdivV i j)) else none
  | _, _ => none
theorem o_div {X : Cx} : OpR X (binaryOp .FloorDiv) (rI (fun _ j => divOk j = true) fun i j => .int (fdivV i j)) := opI fun i j _ _ _ _ _ hc q => by
  have h : divOk j = true := hc
  unfold divOk at h
  rw [Bool.and_eq_true] at h
  exact floordiv_int (of_decide_eq_true h.1) (by rw [← fdivV_eq]; exact q) (.inl (PyProof.noPylong_of_log2 (of_decide_eq_true h.2)))
theorem s_div {K : PySem.W.Frag} : OpS K (rI (fun _ j => divOk j = true) fun i j => .int (fdivV i j)) divD := s_intC (g := fun i j => .int (fdivV i j)) fun d e z h => by
  unfold divD at h
  split at h
  · split at h
    · cases h; exact ⟨_, _, rfl, rfl, by assumption, rfl⟩
    · cases h
  · cases h
def modD : D → D → Option D
  | .int i, .int j => if j ≠ 0 then some (.int (fmodV i j)) else none
  | _, _ => none
theorem o_mod {X : Cx} : OpR X (binaryOp .Mod) (rI (fun _ j => j ≠ 0) fun i j => .int (fmodV i j)) := opI fun i j _ _ _ _ _ hc q => mod_int' hc (by rw [← fmodV_eq]; exact q)
theorem s_mod {K : PySem.W.Frag} : OpS K (rI (fun _ j => j ≠ 0) fun i j => .int (fmodV i j)) modD := s_intC (g := fun i j => .int (fmodV i j)) fun d e z h => by
  unfold modD at h
  split at h
  · split at h
    · cases h; exact ⟨_, _, rfl, rfl, by assumption, rfl⟩
    · cases h
  · cases h
def shlOk (i j : Int) : Bool := decide (0 ≤ j) && decide ((Builtin.Int.intBits i : Int) + j ≤ 2 ^ 27)
def shlD : D → D → Option D
  | .int i, .int j => if shlOk i j = true then some (.int (i * 2 ^ j.toNat)) else none
  | _, _ => none
theorem o_shl {X : Cx} : OpR X (binaryOp .LShift) (rI (fun i j => shlOk i j = true) fun i j => .int (i * 2 ^ j.toNat)) := opI fun i j _ _ _ _ _ hc q => by
  have h : shlOk i j = true := hc
  unfold shlOk at h
  rw [Bool.and_eq_true] at h
  exact lshift_int (of_decide_eq_true h.1) (of_decide_eq_true h.2) q
theorem s_shl {K : PySem.W.Frag} : OpS K (rI (fun i j => shlOk i j = true) fun i j => .int (i * 2 ^ j.toNat)) shlD := s_intC (g := fun i j => .int (i * 2 ^ j.toNat)) fun d e z h => by
  unfold shlD at h
  split at h
  · split at h
    · cases h; exact ⟨_, _, rfl, rfl, by assumption, rfl⟩
    · cases h
  · cases h
def shrD : D → D → Option D
  | .int i, .int j => if 0 ≤ j then some (.int (i / 2 ^ j.toNat)) else none
  | _, _ => none
theorem s_shr {K : PySem.W.Frag} : OpS K (rI (fun _ j => 0 ≤ j) fun i j => .int (i / 2 ^ j.toNat)) shrD := s_intC (g := fun i j => .int (i / 2 ^ j.toNat)) fun d e z h => by
  unfold shrD at h
  split at h
  · split at h
    · cases h; exact ⟨_, _, rfl, rfl, by assumption, rfl⟩
    · cases h
  · cases h
def andD : D → D → Option D
  | .int i, .int j => some (.int (Builtin.bitAnd i j))
  | _, _ => none
theorem s_and {K : PySem.W.Frag} : OpS K (rI0 fun i j => .int (Builtin.bitAnd i j)) andD := s_int (g := fun i j => .int (Builtin.bitAnd i j)) (fun _ _ => rfl) fun d e z h => by
  unfold andD at h
  split at h
  · cases h; exact ⟨_, _, rfl, rfl, rfl⟩
  · cases h
def negD : D → Option D
  | .int i => some (.int (-i))
  | _ => none
theorem s_neg {K : PySem.W.Frag} : UnS K (rU fun i => .int (-i)) negD := by
  intro H x d z Q hx e q
  cases hx with
  | int i => cases e; exact ⟨i, rfl, q⟩
  | _ => cases e
def ltD : D → D → Option D
  | .int i, .int j => some (.bl (decide (i < j)))
  | .str a, .str b => some (.bl (decide (a < b)))
  | _, _ => none
def rLtU : R2 := fun x y H Q => (∃ i j, x = .int i ∧ y = .int j ∧ Q (.bl (decide (i < j))) H) ∨ (∃ i j, x = .str i ∧ y = .str j ∧ Q (.bl (decide (i.cps.toList < j.cps.toList))) H)
theorem o_lt {X : Cx} : OpR X (compareOp .Lt) rLtU := OpR.or op_lt op_lt_str
theorem s_lt {K : PySem.W.Frag} : OpS K rLtU ltD := by
  intro H x y d e z Q hx hy e1 q
  unfold ltD at e1
  split at e1
  · cases e1; cases hx; cases hy; exact .inl ⟨_, _, rfl, rfl, q⟩
  · cases e1; cases hx; cases hy; exact .inr ⟨_, _, rfl, rfl, q⟩
  · cases e1
def gtD : D → D → Option D
  | .int i, .int j => some (.bl (decide (j < i)))
  | .str a, .str b => some (.bl (decide (b < a)))
  | _, _ => none
def rGtU : R2 := fun x y H Q => (∃ i j, x = .int i ∧ y = .int j ∧ Q (.bl (decide (j < i))) H) ∨ (∃ i j, x = .str i ∧ y = .str j ∧ Q (.bl (decide (j.cps.toList < i.cps.toList))) H)
theorem o_gt {X : Cx} : OpR X (compareOp .Gt) rGtU := OpR.or op_gt op_gt_str
theorem s_gt {K : PySem.W.Frag} : OpS K rGtU gtD := by
  intro H x y d e z Q hx hy e1 q
  unfold gtD at e1
  split at e1
  · cases e1; cases hx; cases hy; exact .inl ⟨_, _, rfl, rfl, q⟩
  · cases e1; cases hx; cases hy; exact .inr ⟨_, _, rfl, rfl, q⟩
  · cases e1
def geD : D → D → Option D
  | .int i, .int j => some (.bl (decide (j ≤ i)))
  | .str a, .str b => some (.bl (!decide (a < b)))
  | _, _ => none
def rGeU : R2 := fun x y H Q => (∃ i j, x = .int i ∧ y = .int j ∧ Q (.bl (decide (j ≤ i))) H) ∨ (∃ i j, x = .str i ∧ y = .str j ∧ Q (.bl (!decide (i.cps.toList < j.cps.toList))) H)
theorem o_ge {X : Cx} : OpR X (compareOp .GtE) rGeU := OpR.or op_ge op_ge_str
theorem s_ge {K : PySem.W.Frag} : OpS K rGeU geD := by
  intro H x y d e z Q hx hy e1 q
  unfold geD at e1
  split at e1
  · cases e1; cases hx; cases hy; exact .inl ⟨_, _, rfl, rfl, q⟩
  · cases e1; cases hx; cases hy; exact .inr ⟨_, _, rfl, rfl, q⟩
  · cases e1
mutual
def D.eqv : D → D → Bool
  | .non, .non => true
  | .bl a, .bl b => a == b
  | .bl a, .int j => (if a then 1 else 0) == j
  | .int i, .bl b => i == (if b then 1 else 0)
  | .int i, .int j => i == j
  | .str a, .str b => a == b
  | .tup a, .tup b => D.eqvA a b
  | .lst a, .lst b => D.eqvA a b
  | _, _ => false
def D.eqvA : List D → List D → Bool
  | [], [] => true
  | x :: xs, y :: ys => D.eqv x y && D.eqvA xs ys
  | _, _ => false
end
mutual
def D.py : D → PyData
  | .non => .none | .bl b => .bool b | .int i => .int i | .str s => .str ⟨s.toArray⟩
  | .tup l => .tuple (D.pyA l) | .lst l => .list (D.pyA l) | .raw _ => .dict [] | .dic _ _ => .dict [] | .obj _ _ _ => .dict []
def D.pyA : List D → List PyData
  | [] => []
  | x :: xs => x.py :: D.pyA xs
end
theorem str_beq (a b : List Nat) : ((⟨a.toArray⟩ : Str) == ⟨b.toArray⟩) = (a == b) := by
  rw [Bool.eq_iff_iff]
  simp
mutual
theorem D.py_eqv : ∀ d e : D, PyData.eqv d.py e.py = D.eqv d e
  | .non, e => by cases e <;> simp [D.py, D.eqv, PyData.eqv]
  | .bl b, e => by cases e <;> simp [D.py, D.eqv, PyData.eqv]
  | .int i, e => by cases e <;> simp [D.py, D.eqv, PyData.eqv]
  | .str s, e => by
    cases e with
    | str t => simp only [D.py, D.eqv, PyData.eqv, str_beq]
    | _ => simp [D.py, D.eqv, PyData.eqv]
  | .tup l, e => by
    cases e with
    | tup m => simp only [D.py, D.eqv, PyData.eqv]; exact D.py_eqvA l m
    | _ => simp [D.py, D.eqv, PyData.eqv]
  | .lst l, e => by
    cases e with
    | lst m => simp only [D.py, D.eqv, PyData.eqv]; exact D.py_eqvA l m
    | _ => simp [D.py, D.eqv, PyData.eqv]
  | .raw v, e => by cases e <;> simp [D.py, D.eqv, PyData.eqv]
  | .dic _ _, e => by cases e <;> simp [D.py, D.eqv, PyData.eqv]
  | .obj _ _ _, e => by cases e <;> simp [D.py, D.eqv, PyData.eqv]
theorem D.py_eqvA : ∀ l m : List D, PyData.eqvAll (D.pyA l) (D.pyA m) = D.eqvA l m
  | [], [] => rfl
  | [], _ :: _ => rfl
  | _ :: _, [] => rfl
  | x :: xs, y :: ys => by simp only [D.pyA, PyData.eqvAll, D.eqvA, D.py_eqv x y, D.py_eqvA xs ys]
end
/-- what == can look through -/
def D.shp (d : D) : Bool := SeqAt.shaped d.py
mutual
theorem Dz.dp {K : PySem.W.Frag} {H : Hp} : ∀ {v : V} {d : D}, Dz K H v d → d.py.canLay0 = true → Dp K H v d.py
  | _, _, .non, _ => .non
  | _, _, .bl b, _ => .bl b
  | _, _, .int i, _ => .int i
  | _, _, .str s, _ => .str _
  | _, _, .tup hs ha, h => .tup hs (DzA.dp ha (by simpa [D.py, PyData.canLay0] using h))
  | _, _, .lst hs ha, h => .lst hs (DzA.dp ha (by simpa [D.py, PyData.canLay0] using h))
  | _, _, .raw v, h => by simp [D.py, PyData.canLay0] at h
  | _, _, .dic _ _ _, h => by simp [D.py, PyData.canLay0] at h
  | _, _, .obj _ _ _ _, h => by simp [D.py, PyData.canLay0] at h
theorem DzA.dp {K : PySem.W.Frag} {H : Hp} : ∀ {vs : List V} {ds : List D}, DzA K H vs ds → PyData.canLayAll0 (D.pyA ds) = true → DpAll K H vs (D.pyA ds)
  | _, _, .nil, _ => .nil
  | _, _, .cons h t, q => by
    simp only [D.pyA, PyData.canLayAll0, Bool.and_eq_true] at q
    exact .cons (Dz.dp h q.1) (DzA.dp t q.2)
end
/-- plain and no object -/
def D.pl : D → Bool
  | .non => true | .bl _ => true | .int _ => true | .str _ => true
  | _ => false
def eqOk (d e : D) : Bool := (d.pl && e.pl) || (d.shp && e.shp)
def eqD (d e : D) : Option D := if eqOk d e = true then some (.bl (D.eqv d e)) else none
def rEqU (K : PySem.W.Frag) : R2 := fun x y H Q => rEq x y H Q ∨ ((∃ b j, x = .bl b ∧ y = .int j ∧ Q (.bl ((if b then 1 else 0) == j)) H) ∨ ((∃ i b, x = .int i ∧ y = .bl b ∧ Q (.bl (i == (if b then 1 else 0))) H) ∨ rEqD K x y H Q))
theorem o_eq {X : Cx} {k : Nat} (hr : Room k X.A) : OpR X (compareOp .Eq) (rEqU X.K) := by
  refine OpR.or op_eq (OpR.or ?_ (OpR.or ?_ (op_eqD hr.units)))
  · intro pins s σ H x y v u Q I rx ry h
    obtain ⟨b, j, rfl, rfl, q⟩ := h
    cases rx
    obtain ⟨t, rfl⟩ := ry
    exact PySem.EqBoolInt.eq_bool_int (fin_bl I q rfl)
  · intro pins s σ H x y v u Q I rx ry h
    obtain ⟨i, b, rfl, rfl, q⟩ := h
    obtain ⟨t, rfl⟩ := rx
    cases ry
    exact PySem.EqBoolInt.eq_int_bool (fin_bl I q rfl)
theorem s_eq {K : PySem.W.Frag} : OpS K (rEqU K) eqD := by
  intro H x y d e z Q hx hy e1 q
  unfold eqD at e1
  split at e1
  · rename_i ho
    cases e1
    unfold eqOk at ho
    rw [Bool.or_eq_true, Bool.and_eq_true, Bool.and_eq_true] at ho
    rcases ho with ⟨p1, p2⟩ | ⟨p1, p2⟩
    · cases hx <;> cases hy <;> simp [D.pl] at p1 p2
      · exact .inl ⟨rfl, q⟩
      · exact .inl ⟨rfl, q⟩
      · exact .inl ⟨rfl, q⟩
      · exact .inl ⟨rfl, q⟩
      · exact .inl ⟨rfl, q⟩
      · exact .inl ⟨rfl, by rw [dec_bl]; exact q⟩
      · exact .inr (.inl ⟨_, _, rfl, rfl, q⟩)
      · exact .inl ⟨rfl, q⟩
      · exact .inl ⟨rfl, q⟩
      · exact .inr (.inr (.inl ⟨_, _, rfl, rfl, q⟩))
      · exact .inl ⟨rfl, by rw [dec_int]; exact q⟩
      · exact .inl ⟨rfl, q⟩
      · exact .inl ⟨rfl, q⟩
      · exact .inl ⟨rfl, q⟩
      · exact .inl ⟨rfl, q⟩
      · exact .inl ⟨rfl, by rw [dec_str, str_beq]; exact q⟩
    · refine .inr (.inr (.inr ⟨d.py, e.py, hx.dp (SeqAt.canLay_of_shaped p1), hy.dp (SeqAt.canLay_of_shaped p2), p1, p2, ?_⟩))
      rw [D.py_eqv]
      exact q
  · cases e1
def rNeU (K : PySem.W.Frag) : R2 := fun x y H Q => rNe x y H Q ∨ rNeD K x y H Q
theorem o_ne {X : Cx} {k : Nat} (hr : Room k X.A) : OpR X (compareOp .NotEq) (rNeU X.K) := OpR.or op_ne (op_neD hr.units)
/-- != asks for plain values of kinds that are told apart, or for shaped data -/
def D.kin : D → D → Bool
  | .bl _, .int _ => false
  | .int _, .bl _ => false
  | _, _ => true
def neOk (d e : D) : Bool := (d.pl && e.pl && D.kin d e) || (d.shp && e.shp)
def neqD (d e : D) : Option D := if neOk d e = true then some (.bl (!D.eqv d e)) else none
theorem s_ne {K : PySem.W.Frag} : OpS K (rNeU K) neqD := by
  intro H x y d e z Q hx hy e1 q
  unfold neqD at e1
  split at e1
  · rename_i ho
    cases e1
    unfold neOk at ho
    rw [Bool.or_eq_true, Bool.and_eq_true, Bool.and_eq_true, Bool.and_eq_true] at ho
    rcases ho with ⟨⟨p1, p2⟩, p3⟩ | ⟨p1, p2⟩
    · cases hx <;> cases hy <;> simp [D.pl, D.kin] at p1 p2 p3
      · exact .inl ⟨rfl, q⟩
      · exact .inl ⟨rfl, q⟩
      · exact .inl ⟨rfl, q⟩
      · exact .inl ⟨rfl, q⟩
      · exact .inl ⟨rfl, q⟩
      · exact .inl ⟨rfl, by rw [dec_bl]; exact q⟩
      · exact .inl ⟨rfl, q⟩
      · exact .inl ⟨rfl, q⟩
      · exact .inl ⟨rfl, by rw [dec_int]; exact q⟩
      · exact .inl ⟨rfl, q⟩
      · exact .inl ⟨rfl, q⟩
      · exact .inl ⟨rfl, q⟩
      · exact .inl ⟨rfl, q⟩
      · exact .inl ⟨rfl, by rw [dec_str, str_beq]; exact q⟩
    · refine .inr ⟨d.py, e.py, hx.dp (SeqAt.canLay_of_shaped p1), hy.dp (SeqAt.canLay_of_shaped p2), p1, p2, ?_⟩
      rw [D.py_eqv]
      exact q
  · cases e1
def isD : D → D → Option D
  | d, .non => (match d with
    | .non => some (.bl true)
    | .raw _ => none
    | _ => some (.bl false))
  | d, .bl b => (match d with
    | .bl c => some (.bl (decide (c = b)))
    | .raw _ => none
    | _ => some (.bl false))
  | _, _ => none
def isntD (d e : D) : Option D := match isD d e with
  | some (.bl b) => some (.bl (!b))
  | _ => none
def rIsU (neg : Bool) : R2 := fun x y H Q => (y = .non ∧ Q (.bl (if neg then !decide (x = .non) else decide (x = .non))) H) ∨ ∃ b, y = .bl b ∧ Q (.bl (if neg then !decide (x = .bl b) else decide (x = .bl b))) H
theorem RelV.ne_bl {x : V} {v : Value} {b : Bool} (r : RelV x v) (h : x ≠ .bl b) : v ≠ Value.bool b := by
  intro z
  subst z
  cases x with
  | bl c => cases r; exact h rfl
  | non => cases r
  | int _ => obtain ⟨t, e⟩ := r; cases e
  | str _ => obtain ⟨t, e⟩ := r; cases e
  | byt _ => obtain ⟨t, e⟩ := r; cases e
  | flt _ => obtain ⟨t, e⟩ := r; cases e
  | ref _ => cases r
  | ty _ => cases r
theorem plainB {x : V} {v : Value} {b : Bool} (r : RelV x v) : plainIs v (.bool b) = true := by
  cases x with
  | bl c => cases r; rfl
  | non => cases r; rfl
  | int _ => obtain ⟨t, e⟩ := r; subst e; rfl
  | str _ => obtain ⟨t, e⟩ := r; subst e; rfl
  | byt _ => obtain ⟨t, e⟩ := r; subst e; rfl
  | flt _ => obtain ⟨t, e⟩ := r; subst e; rfl
  | ref _ => cases r; rfl
  | ty _ => cases r; rfl
theorem o_is {X : Cx} : OpR X (compareOp .Is) (rIsU false) := by
  intro pins s σ H x y v u Q I rx ry h
  rcases h with h | ⟨b, rfl, q⟩
  · exact op_isN pins s σ H x y v u Q I rx ry h
  · cases ry
    have q' : Q (.bl (decide (x = .bl b))) H := q
    by_cases e : x = .bl b
    · subst e
      cases rx
      exact wpAny_is_self rfl ⟨.bl true, H, I, rfl, by simpa using q'⟩
    · exact wpAny_is_other (plainB rx) (RelV.ne_bl rx e) ⟨.bl false, H, I, rfl, by simpa [e] using q'⟩
theorem o_isnt {X : Cx} : OpR X (compareOp .IsNot) (rIsU true) := by
  intro pins s σ H x y v u Q I rx ry h
  rcases h with h | ⟨b, rfl, q⟩
  · exact op_notN pins s σ H x y v u Q I rx ry h
  · cases ry
    have q' : Q (.bl (!decide (x = .bl b))) H := q
    by_cases e : x = .bl b
    · subst e
      cases rx
      exact wpAny_isNot_self rfl ⟨.bl false, H, I, rfl, by simpa using q'⟩
    · exact wpAny_isNot_other (plainB rx) (RelV.ne_bl rx e) ⟨.bl true, H, I, rfl, by simpa [e] using q'⟩
theorem isD_ok {K : PySem.W.Frag} {H : Hp} {x : V} {d e : D} {b : Bool} (hx : Dz K H x d) (h : isD d e = some (.bl b)) : (e = .non ∧ b = decide (x = .non)) ∨ ∃ c, e = .bl c ∧ b = decide (x = .bl c) := by
  cases e with
  | non =>
    refine .inl ⟨rfl, ?_⟩
    cases hx <;> simp [isD] at h ⊢ <;> exact h
  | bl c =>
    refine .inr ⟨c, rfl, ?_⟩
    cases hx <;> simp [isD] at h ⊢ <;> first | exact h | exact h.symm
  | _ => cases d <;> simp [isD] at h
theorem isD_bl {d e z : D} (h : isD d e = some z) : ∃ b, z = .bl b := by
  unfold isD at h
  split at h
  · split at h <;> cases h <;> exact ⟨_, rfl⟩
  · split at h <;> cases h <;> exact ⟨_, rfl⟩
  · cases h
theorem s_is {K : PySem.W.Frag} : OpS K (rIsU false) isD := by
  intro H x y d e z Q hx hy e1 q
  obtain ⟨b, rfl⟩ := isD_bl e1
  rcases isD_ok hx e1 with ⟨rfl, rfl⟩ | ⟨c, rfl, rfl⟩
  · cases hy; exact .inl ⟨rfl, q⟩
  · cases hy; exact .inr ⟨c, rfl, q⟩
theorem s_isnt {K : PySem.W.Frag} : OpS K (rIsU true) isntD := by
  intro H x y d e z Q hx hy e1 q
  unfold isntD at e1
  split at e1
  · rename_i b e2
    cases e1
    rcases isD_ok hx e2 with ⟨rfl, rfl⟩ | ⟨c, rfl, rfl⟩
    · cases hy; exact .inl ⟨rfl, q⟩
    · cases hy; exact .inr ⟨c, rfl, q⟩
  · cases e1
end Z
set_option Elab.async false
set_option linter.all false
set_option maxRecDepth 100000
set_option maxHeartbeats 4000000
namespace Z
open PySem PySem.Spec PyProof.Rows L2
/-- a list or tuple by what is read of it -/
theorem Ok.rdL {C : Ct} {Hs : Hp} {A : List Addr} {g : G} {σ : L2.St} {H : Hp} (ok : Ok C Hs A g σ H) {v : V} {r : R} {ds : List D} (h : RelR C.K Hs A v r) (e : Z.rd g r = some (.lst ds)) : ∃ a vs, v = .ref a ∧ SqL C.K H a vs ∧ DzA C.K Hs vs ds := by
  cases r with
  | dat d =>
    cases e
    have hd : Dz C.K Hs v (.lst ds) := h
    cases hd with
    | lst hs ha => exact ⟨_, _, rfl, ok.same.seq hs, ha⟩
  | bor j =>
    obtain ⟨a, h1, rfl⟩ := (show ∃ a, A[j]? = some a ∧ v = .ref a from h)
    have e : (match g[j]? with
      | some (.own c _ _) => some c.d
      | some (.frz d) => some d
      | _ => none) = some (.lst ds) := e
    split at e
    · rename_i c p l hg
      cases c with
      | lst L =>
        cases e
        obtain ⟨a', vs, ev, w1, w2, w3⟩ := ok.bor (relB h1) hg
        cases ev
        exact ⟨a, vs, rfl, SqL.of w2, w3⟩
    · rename_i d hg
      cases e
      obtain ⟨a', w1, _, hd⟩ := ok.frz j _ hg
      rw [h1] at w1
      cases w1
      cases hd with
      | lst hs ha => exact ⟨_, _, rfl, ok.same.seq hs, ha⟩
    · cases e
theorem Ok.rdT {C : Ct} {Hs : Hp} {A : List Addr} {g : G} {σ : L2.St} {H : Hp} (ok : Ok C Hs A g σ H) {v : V} {r : R} {ds : List D} (h : RelR C.K Hs A v r) (e : Z.rd g r = some (.tup ds)) : ∃ a vs, v = .ref a ∧ SqT C.K Hs a vs ∧ DzA C.K Hs vs ds := by
  cases r with
  | dat d =>
    cases e
    have hd : Dz C.K Hs v (.tup ds) := h
    cases hd with
    | tup hs ha => exact ⟨_, _, rfl, hs, ha⟩
  | bor j =>
    obtain ⟨a, h1, rfl⟩ := (show ∃ a, A[j]? = some a ∧ v = .ref a from h)
    have e : (match g[j]? with
      | some (.own c _ _) => some c.d
      | some (.frz d) => some d
      | _ => none) = some (.tup ds) := e
    split at e
    · rename_i c p l hg
      cases c with
      | lst L => cases e
    · rename_i d hg
      cases e
      obtain ⟨a', w1, _, hd⟩ := ok.frz j _ hg
      rw [h1] at w1
      cases w1
      cases hd with
      | tup hs ha => exact ⟨_, _, rfl, hs, ha⟩
    · cases e
def rCatL (K : PySem.W.Frag) : R2 := fun x y H Q => ∃ l b xs zs, x = .ref l ∧ y = .ref b ∧ SqL K H l xs ∧ SqL K H b zs ∧ xs.length + zs.length ≤ sizeLine ∧ ∀ p, H p = none → Q (.ref p) (upd H p (.lst (xs ++ zs)))
theorem add_plain {prog : Program} {w : World} {A : Around} {E : Value → Shared → Prop} {s : Shared} {l b : Addr} {xs ys : Array Value} {Q : Value → Shared → Prop} (hl : PlainL s.heap l xs) (hb : PlainL s.heap b ys)
    (h : Q (.ref s.heap.objs.size) { s with heap := s.heap.push { cls := .type "list", data := .seq (xs ++ ys) } }) (hz : xs.size + ys.size ≤ sizeLine) : wpAny (model prog w) A (binaryOp .Add (.ref l) (.ref b)) Q E s := by
  obtain ⟨⟨cls, dd, data, sl⟩, ho, hc, n, hd⟩ := id hl.isList
  obtain ⟨⟨cls2, dd2, data2, sl2⟩, ho2, hc2, n2, hd2⟩ := id hb.isList
  simp only at hc hd hc2 hd2
  subst hc hd hc2 hd2
  exact concat_meets ⟨_, ho, rfl⟩ ⟨_, ho2, rfl⟩ noFill_list_add seq_list_add PySem.F.slot_list_add PySem.F.entry_list_add (PySem.F.args_list_add_2 _ _) (list_addW l b xs ys n n2 dd dd2 sl sl2 hz) ⟨ho, ho2, h⟩
theorem op_catL {X : Cx} : OpR X (binaryOp .Add) (rCatL X.K) := by
  intro pins s σ H x y v u Q I rx ry h
  obtain ⟨l, b, xs, zs, rfl, rfl, hH, hB, hz, q⟩ := h
  cases rx
  cases ry
  obtain ⟨its, r, pl, z⟩ := I.list hH
  obtain ⟨its2, r2, pl2, z2⟩ := I.list hB
  have h1 := r.length
  have h2 := r2.length
  refine add_plain pl pl2 ?_ (by rw [List.size_toArray, List.size_toArray]; omega)
  have ea : its.toArray ++ its2.toArray = (its ++ its2).toArray := by simp
  rw [ea]
  refine ⟨.ref s.heap.objs.size, _, I.laid (t' := s.toks) (o := .lst (xs ++ zs)) (fun b o e => Heap.get?_push_of_some _ e) (Nat.le_refl _) ?_, rfl, q _ (I.hok.fresh (Nat.le_refl _))⟩
  exact ⟨by rw [List.length_append]; exact hz, _, 0, r.append r2, Heap.get?_push_size _ rfl⟩
def catOk (n m : Nat) : Bool := decide (n + m ≤ sizeLine)
def addS : D → D → Option D
  | .int i, .int j => some (.int (i + j))
  | .int i, .bl b => some (.int (i + b2i b))
  | .str a, .str b => if catOk a.length b.length = true then some (.str (a ++ b)) else none
  | _, _ => none
def rAddS : R2 := fun x y H Q => rI0 (fun i j => .int (i + j)) x y H Q ∨ (∃ i k, x = .int i ∧ y = .bl k ∧ Q (.int (i + b2i k)) H) ∨ (∃ i j, x = .str i ∧ y = .str j ∧ i.length + j.length ≤ sizeLine ∧ Q (.str (i ++ j)) H)
theorem o_add {X : Cx} : OpR X (binaryOp .Add) rAddS := OpR.or op_add (OpR.or op_add_ib op_add_str)
theorem str_app (a b : List Nat) : (⟨a.toArray⟩ : Str) ++ ⟨b.toArray⟩ = ⟨(a ++ b).toArray⟩ := by
  show Str.append _ _ = _
  simp [Str.append]
theorem s_add {K : PySem.W.Frag} : OpS K rAddS addS := by
  intro H x y d e z Q hx hy e1 q
  unfold addS at e1
  split at e1
  · cases e1; cases hx; cases hy; exact .inl ⟨_, _, rfl, rfl, q⟩
  · cases e1; cases hx; cases hy; exact .inr (.inl ⟨_, _, rfl, rfl, q⟩)
  · split at e1
    · rename_i h
      cases e1; cases hx; cases hy
      exact .inr (.inr ⟨_, _, rfl, rfl, by have := of_decide_eq_true h; simpa [Str.length] using this, by rw [str_app]; exact q⟩)
    · cases e1
  · cases e1
/-- o[i] -/
def ixD (d : D) (k : Int) : Option D := match d with
  | .lst l => atI l k
  | .tup l => atI l k
  | .str s => if s.length ≤ sizeLine then (atI s k).map fun c => .str [c] else none
  | _ => none
def zIx (ma mb : ZM) : ZM := fun g => do
  let (r1, g1) ← ma g
  let (r2, g2) ← mb g1
  let d ← rd g2 r1
  let k ← isI r2
  let z ← ixD d k
  some (.dat z, g2)
theorem atI_dz {K : PySem.W.Frag} {H : Hp} {vs : List V} {ds : List D} {k : Int} {z : D} (h : DzA K H vs ds) (e : atI ds k = some z) : ∃ v, atI vs k = some v ∧ Dz K H v z := by
  unfold atI at e ⊢
  rw [h.length]
  cases q : ixN ds.length k with
  | none => rw [q] at e; cases e
  | some j =>
    rw [q] at e
    obtain ⟨v, h1, h2⟩ := h.get (show ds[j]? = some z from e)
    exact ⟨v, h1, h2⟩
section
variable {X : Cx} {pos : Pos} {a b : Expr} {ma mb : ZM}
theorem ze_ix (ha : ZE X a ma) (hb : ZE X b mb) (hs : PlainIx b := by exact fun _ _ => rfl) : ZE X (.Subscript a b pos) (zIx ma mb) := by
  refine PE.of (pe_ix ix_seq ha hb hs) fun σ H Q ⟨C, Hs, A, g, r, g', hK, hn, ok, e, q⟩ => ?_
  unfold zIx at e
  simp only [Option.bind_eq_bind, Option.bind_eq_some_iff] at e
  obtain ⟨⟨r1, g1⟩, h1, ⟨r2, g2⟩, h2, d, h3, k, h4, z, h5, e⟩ := e
  cases e
  have er : r2 = .dat (.int k) := isI_some h4
  subst er
  refine tZ2 hK hn ok h1 h2 fun Hs2 A2 v1 v2 H2 s p ok2 w1 w2 => ?_
  have e2 : v2 = .int k := (show Dz C.K Hs2 v2 (.int k) from w2).v rfl
  subst e2
  cases d with
  | lst l =>
    obtain ⟨a', vs, rfl, y1, y2⟩ := ok2.rdL w1 h3
    obtain ⟨v, x1, x2⟩ := atI_dz y2 h5
    exact .inl ⟨a', vs, k, v, rfl, rfl, by rw [← hK]; exact y1, x1, q Hs2 A2 v H2 s p ok2 x2⟩
  | tup l =>
    obtain ⟨a', vs, rfl, y1, y2⟩ := ok2.rdT w1 h3
    obtain ⟨v, x1, x2⟩ := atI_dz y2 h5
    exact .inr (.inl ⟨a', vs, k, v, rfl, rfl, by rw [← hK]; exact sameT ok2.same y1, x1, q Hs2 A2 v H2 s p ok2 x2⟩)
  | str t =>
    have hd := ok2.rd w1 h3
    cases hd
    simp only [ixD] at h5
    split at h5
    · rename_i hl
      cases ec : atI t k with
      | none => rw [ec] at h5; cases h5
      | some c =>
        rw [ec] at h5
        cases h5
        exact .inr (.inr ⟨_, k, c, rfl, rfl, by simpa [Str.length] using hl, by simpa using ec, q Hs2 A2 _ H2 s p ok2 (.str [c])⟩)
    · cases h5
  | _ => cases h5
theorem len_codes (t : List Nat) : (⟨t.toArray⟩ : Str).length = t.length := by simp [Str.length]
def lenD : List D → Option D
  | [.lst l] => some (.int l.length)
  | [.tup l] => some (.int l.length)
  | [.str s] => if s.length ≤ sizeLine then some (.int s.length) else none
  | _ => none
def rLen (K : PySem.W.Frag) : List V → Hp → VK → Prop := fun xs H Q => ∃ x n, xs = [x] ∧ LenV K x H n ∧ Q (.int n) H
theorem s_len {K : PySem.W.Frag} : CallS K (rLen K) lenD := by
  intro H vs ds z Q hz e q
  unfold lenD at e
  split at e
  · cases e
    cases hz with
    | cons h t =>
      cases t
      cases h with
      | lst hs ha => exact ⟨_, _, rfl, .inl ⟨_, hs, rfl⟩, by rw [ha.length]; exact q⟩
  · cases e
    cases hz with
    | cons h t =>
      cases t
      cases h with
      | tup hs ha => exact ⟨_, _, rfl, .inr ⟨_, hs, rfl⟩, by rw [ha.length]; exact q⟩
  · split at e
    · rename_i hl
      cases e
      cases hz with
      | cons h t =>
        cases t
        cases h with
        | str s => exact ⟨_, _, rfl, ⟨by simpa [Str.length] using hl, rfl⟩, by rw [len_codes]; exact q⟩
    · cases e
  · cases e
def absD : List D → Option D
  | [.int i] => some (.int (if i < 0 then -i else i))
  | _ => none
def minD : List D → Option D
  | [.int i, .int j] => some (.int (if j < i then j else i))
  | _ => none
theorem s_min {K : PySem.W.Frag} : CallS K (fun xs H Q => ∃ i j, xs = [.int i, .int j] ∧ Q (.int (if j < i then j else i)) H) minD := by
  intro H vs ds z Q hz e q
  unfold minD at e
  split at e
  · cases e
    cases hz with
    | cons h t =>
      cases t with
      | cons h2 t =>
        cases t
        cases h
        cases h2
        exact ⟨_, _, rfl, q⟩
  · cases e
/-- the texts of a list -/
def txsD : List D → Option (List (List Nat))
  | [] => some []
  | .str s :: r => do
    let t ← txsD r
    some (s :: t)
  | _ :: _ => none
theorem strs_map : ∀ {ds : List D} {ts : List (List Nat)}, txsD ds = some ts → ds = ts.map D.str
  | [], ts, e => by cases e; rfl
  | d :: r, ts, e => by
    cases d with
    | str s =>
      simp only [txsD, Option.bind_eq_bind, Option.bind_eq_some_iff] at e
      obtain ⟨t, h1, e⟩ := e
      cases e
      rw [strs_map h1]
      rfl
    | _ => cases e
theorem dzA_strs {K : PySem.W.Frag} {H : Hp} : ∀ {vs : List V} {ts : List (List Nat)}, DzA K H vs (ts.map D.str) → vs = (ts.map fun t => (⟨t.toArray⟩ : Str)).map V.str
  | [], [], _ => rfl
  | _ :: _, [], h => by cases h
  | [], _ :: _, h => by cases h
  | v :: vs, t :: ts, h => by
    cases h with
    | cons h1 h2 =>
      cases h1
      rw [dzA_strs h2]
      rfl
def joinD : D → List D → Option D
  | .str sep, [.lst l] => do
    let ts ← txsD l
    if (ts.map List.length).sum + ts.length * sep.length ≤ 16777216 then some (.str (TL.joinL sep ts)) else none
  | .str sep, [.tup l] => do
    let ts ← txsD l
    if (ts.map List.length).sum + ts.length * sep.length ≤ 16777216 then some (.str (TL.joinL sep ts)) else none
  | _, _ => none
def rJoin (K : PySem.W.Frag) : V → List V → Hp → VK → Prop := fun x xs H Q => ∃ a p, ∃ ys : List Str, x = .str a ∧ xs = [.ref p] ∧ (SqL K H p (ys.map V.str) ∨ SqT K H p (ys.map V.str)) ∧
    (ys.map (·.length)).sum + ys.length * a.length ≤ 16777216 ∧ Q (.str (Txt.join a ys)) H
theorem join_codes (sep : List Nat) (ts : List (List Nat)) : Txt.join ⟨sep.toArray⟩ (ts.map fun t => (⟨t.toArray⟩ : Str)) = ⟨(TL.joinL sep ts).toArray⟩ := by
  refine TL.ext_tl ?_
  rw [TL.join_eq, TL.tl_join]
  show TL.joinL (TL.tl ⟨sep.toArray⟩) ((ts.map fun t => (⟨t.toArray⟩ : Str)).map TL.tl) = TL.joinL sep ts
  rw [List.map_map, TL.tl_mk]
  congr 1
  exact List.map_id' ts
theorem s_join {K : PySem.W.Frag} : MtS K (rJoin K) joinD := by
  intro H x vs d ds z Q hx hz e q
  unfold joinD at e
  have key : ∀ (sep : List Nat) (ts : List (List Nat)), (ts.map List.length).sum + ts.length * sep.length ≤ 16777216 → ((ts.map fun t => (⟨t.toArray⟩ : Str)).map (·.length)).sum + (ts.map fun t => (⟨t.toArray⟩ : Str)).length * (⟨sep.toArray⟩ : Str).length ≤ 16777216 := fun sep ts h => by
    rw [List.map_map, List.length_map]
    have e1 : ((fun x : Str => x.length) ∘ fun t : List Nat => (⟨t.toArray⟩ : Str)) = List.length := by funext t; simp [Str.length]
    rw [e1]
    simpa [Str.length] using h
  split at e
  · simp only [Option.bind_eq_bind, Option.bind_eq_some_iff] at e
    obtain ⟨ts, h1, e⟩ := e
    split at e
    · rename_i hl
      cases e
      cases hx
      cases hz with
      | cons h t =>
        cases t
        cases h with
        | lst hs ha =>
          rw [strs_map h1] at ha
          have ev := dzA_strs ha
          subst ev
          exact ⟨_, _, _, rfl, rfl, .inl hs, key _ _ hl, by rw [join_codes]; exact q⟩
    · cases e
  · simp only [Option.bind_eq_bind, Option.bind_eq_some_iff] at e
    obtain ⟨ts, h1, e⟩ := e
    split at e
    · rename_i hl
      cases e
      cases hx
      cases hz with
      | cons h t =>
        cases t
        cases h with
        | tup hs ha =>
          rw [strs_map h1] at ha
          have ev := dzA_strs ha
          subst ev
          exact ⟨_, _, _, rfl, rfl, .inr hs, key _ _ hl, by rw [join_codes]; exact q⟩
    · cases e
  · cases e
end
end Z
set_option Elab.async false
set_option linter.all false
set_option maxRecDepth 100000
set_option maxHeartbeats 4000000
namespace Z
open PySem PySem.Spec PyProof.Rows L2
/-- a def of the top stands at its name -/
def DefAt (K : PySem.W.Frag) (mg : Str → Option Value) (x : Str) (st : Stmt) : Prop := ∃ (a : Addr) (fd : FuncData), mg x = some (.ref a) ∧ Fun K x x st a fd
/-- a constant of the top -/
def ConstAt (K : PySem.W.Frag) (mg : Str → Option Value) (x : Str) (v : V) (d : D) : Prop := (∃ u, mg x = some u ∧ RelV v u) ∧ ∀ H, Dz K H v d
theorem ze_gc {X : Cx} {pos : Pos} {x : Str} {v : V} {d : D} (h : ConstAt X.K X.mg x v d) (hg : Gl X x := by rfl) (hdb : (x == ("__debug__" : Str)) = false := by decide) : ZE X (.Name x pos) (zC d) := by
  obtain ⟨⟨u, h1, h2⟩, h3⟩ := h
  exact ze_glob hg h1 h2 h3 hdb
/-- int(x): of an int, a bool, a text -/
def intU : List D → Option D
  | [.int i] => some (.int i)
  | [.bl b] => some (.int (if b then 1 else 0))
  | [.str s] => match PySem.intText? ⟨s.toArray⟩ with
    | some n => if s.length ≤ 640 then some (.int n) else none
    | none => none
  | _ => none
def rIntU : List V → Hp → VK → Prop := fun xs H Q => ((∃ i, xs = [.int i] ∧ Q (.int i) H) ∨ ∃ k, xs = [.bl k] ∧ Q (.int (if k then 1 else 0)) H) ∨ (∃ a n, xs = [.str a] ∧ PySem.intText? a = some n ∧ a.length ≤ 640 ∧ Q (.int n) H)
theorem call_intU {X : Cx} : CallR X (.type "int") rIntU := CallR.or call_int1 call_int_str
theorem s_intU {K : PySem.W.Frag} : CallS K rIntU intU := by
  intro H vs ds z Q hz e q
  unfold intU at e
  split at e
  · cases e
    cases hz with
    | cons h t =>
      cases t
      cases h
      exact .inl (.inl ⟨_, rfl, q⟩)
  · cases e
    cases hz with
    | cons h t =>
      cases t
      cases h
      exact .inl (.inr ⟨_, rfl, q⟩)
  · split at e
    · rename_i n hn
      split at e
      · rename_i hl
        cases e
        cases hz with
        | cons h t =>
          cases t
          cases h
          exact .inr ⟨_, n, rfl, hn, by rw [len_codes]; exact hl, q⟩
      · cases e
    · cases e
  · cases e
/-- the script as data -/
def scriptD (ns : List Int) : D := .lst (ns.map .int)
theorem dzA_ints {K : PySem.W.Frag} {H : Hp} : ∀ ns : List Int, DzA K H (ns.map V.int) (ns.map D.int)
  | [] => .nil
  | n :: r => .cons (.int n) (dzA_ints r)
/-- the law's promise from its function -/
theorem law_sp {K : PySem.W.Frag} {H : Hp} {a : Addr} {ns : List Int} {f : List D → Option FR} (h : SqL K H a (ns.map V.int)) (e : f [scriptD ns] = some (.dat (.bl true))) : spP K f [.ref a] H (fun v _ => v = .bl true) fun _ _ _ => False := by
  refine ⟨H, [scriptD ns], .dat (.bl true), Same.refl _, .cons (.lst h (dzA_ints ns)) .nil, e, fun v Hs' H' _ _ _ _ rf => ?_⟩
  exact (show Dz K Hs' v (.bl true) from rf).v rfl
end Z
set_option Elab.async false
set_option linter.all false
set_option maxRecDepth 100000
set_option maxHeartbeats 4000000
namespace Z
open PySem PySem.Spec PyProof.Rows L2
section
variable {g g1 g2 g3 : G} {r r1 r2 : R} {d e z : D} {ma mb mc m : ZM} {mr : ZAr} {rs : List R} {ds : List D} {b b1 b2 : Bool} {t s : ZT} {n i j : Nat}
theorem er_op {f : D → D → Option D} (h1 : ma g = some (r1, g1)) (h2 : mb g1 = some (r2, g2)) (h3 : rd g2 r1 = some d) (h4 : rd g2 r2 = some e) (h5 : f d e = some z) (h6 : z.scal = true) : zOp f ma mb g = some (.dat z, g2) := by
  unfold zOp; simp only [h1, h2, h3, h4, h5, h6, Option.bind_eq_bind, Option.bind_some, if_true]
theorem er_un {f : D → Option D} (h1 : ma g = some (r1, g1)) (h3 : rd g1 r1 = some d) (h5 : f d = some z) (h6 : z.scal = true) : zUn f ma g = some (.dat z, g1) := by
  unfold zUn; simp only [h1, h3, h5, h6, Option.bind_eq_bind, Option.bind_some, if_true]
theorem er_chain {f f' : D → D → Option D} {r3 : R} {h : D} (h1 : ma g = some (r1, g1)) (h2 : mb g1 = some (r2, g)) (h3 : rd g r1 = some d) (h4 : rd g r2 = some e) (h5 : f d e = some (.bl b1)) (h6 : b1 = true → mc g = some (r3, g)) (h7 : rd g r3 = some h) (h8 : f' e h = some (.bl b2)) :
    zChain f f' ma mb mc g = some (.dat (.bl (b1 && b2)), g) := by
  unfold zChain; simp only [h1, h2, h3, h4, h5, Option.bind_eq_bind, Option.bind_some]
  cases b1 with
  | true => simp only [h6 rfl, h4, h7, h8, Option.bind_some, D.scal, if_true, Bool.true_and]
  | false => rfl
theorem er_tst (h1 : m g = some (.dat (.bl b), g1)) : zTst m g = some (b, g1) := by
  unfold zTst; simp only [h1, isB, Option.bind_eq_bind, Option.bind_some]
theorem er_tru (h1 : m g = some (r, g1)) (h2 : rd g1 r = some d) (h3 : tru d = some b) : zTru m g = some (b, g1) := by
  unfold zTru; simp only [h1, h2, h3, Option.bind_eq_bind, Option.bind_some]
theorem er_andT (h1 : s g = some (b1, g)) (h2 : b1 = true → t g = some (b2, g)) : zAndT s t g = some (b1 && b2, g) := by
  unfold zAndT; simp only [h1, Option.bind_eq_bind, Option.bind_some]
  cases b1 with
  | true => simp only [h2 rfl, if_true, Bool.true_and]
  | false => rfl
theorem er_orT (h1 : s g = some (b1, g)) (h2 : b1 = false → t g = some (b2, g)) : zOrT s t g = some (b1 || b2, g) := by
  unfold zOrT; simp only [h1, Option.bind_eq_bind, Option.bind_some]
  cases b1 with
  | true => rfl
  | false =>
    rw [if_neg Bool.false_ne_true, h2 rfl]
    rfl
theorem er_notT (h1 : s g = some (b, g1)) : zNotT s g = some (!b, g1) := by
  unfold zNotT; simp only [h1, Option.bind_eq_bind, Option.bind_some]
theorem er_andV (h1 : ma g = some (.dat (.bl b1), g)) (h2 : b1 = true → mb g = some (.dat (.bl b2), g)) : zAndV ma mb g = some (.dat (.bl (b1 && b2)), g) := by
  unfold zAndV; simp only [h1, isB, Option.bind_eq_bind, Option.bind_some]
  cases b1 with
  | true => simp only [h2 rfl, if_true, Bool.true_and]
  | false => rfl
theorem er_orV (h1 : ma g = some (.dat (.bl b1), g)) (h2 : b1 = false → mb g = some (.dat (.bl b2), g)) : zOrV ma mb g = some (.dat (.bl (b1 || b2)), g) := by
  unfold zOrV; simp only [h1, isB, Option.bind_eq_bind, Option.bind_some]
  cases b1 with
  | true => rfl
  | false =>
    rw [if_neg Bool.false_ne_true, h2 rfl]
    rfl
theorem er_notV (h1 : ma g = some (.dat (.bl b), g1)) : zNotV ma g = some (.dat (.bl (!b)), g1) := by
  unfold zNotV; simp only [h1, isB, Option.bind_eq_bind, Option.bind_some]
theorem er_ifT (h1 : t g = some (true, g1)) (h2 : ma g1 = some (r, g2)) : zIf t ma mb g = some (r, g2) := by
  unfold zIf; simp only [h1, h2, Option.bind_eq_bind, Option.bind_some, if_true]
theorem er_ifF (h1 : t g = some (false, g1)) (h2 : mb g1 = some (r, g2)) : zIf t ma mb g = some (r, g2) := by
  unfold zIf; simp only [h1, Option.bind_eq_bind, Option.bind_some]
  rw [if_neg Bool.false_ne_true]
  exact h2
theorem er_cons (h1 : ma g = some (r, g1)) (h2 : mr g1 = some (rs, g2)) : zCons ma mr g = some (r :: rs, g2) := by
  unfold zCons; simp only [h1, h2, Option.bind_eq_bind, Option.bind_some]
theorem er_callS {f : List D → Option D} (h1 : mr g = some (rs, g1)) (h2 : rdAll g1 rs = some ds) (h3 : f ds = some z) (h4 : z.scal = true) : zCallS f mr g = some (.dat z, g1) := by
  unfold zCallS; simp only [h1, h2, h3, h4, Option.bind_eq_bind, Option.bind_some, if_true]
theorem er_callV {f : List D → Option FR} (h1 : mr g = some (rs, g1)) (h2 : rdAll g1 rs = some ds) (h3 : f ds = some (.dat d)) (h4 : d.scal = true) : zCall f mr g = some (.dat d, g1) := by
  unfold zCall; simp only [h1, h2, h3, h4, Option.bind_eq_bind, Option.bind_some, if_true]
theorem er_callN {f : List D → Option FR} {c : Cn} (h1 : mr g = some (rs, g1)) (h2 : rdAll g1 rs = some ds) (h3 : f ds = some (.new c)) (h4 : c.scal = true) : zCall f mr g = some (.bor g1.length, g1 ++ [.own c false false]) := by
  unfold zCall; simp only [h1, h2, h3, h4, Option.bind_eq_bind, Option.bind_some, if_true]
theorem frzAll_dat : ∀ (ds : List D) (g : G), frzAll (ds.map R.dat) g = some (ds, g)
  | [], _ => rfl
  | d :: ds, g => by
    simp only [List.map_cons, frzAll, frzR, frzAll_dat ds g, Option.bind_eq_bind, Option.bind_some]
/-- all arguments data: no matter what comes back -/
theorem rdAll_dat : ∀ (ds : List D) (g : G), rdAll g (ds.map R.dat) = some ds
  | [], _ => rfl
  | d :: ds, g => by
    simp only [List.map_cons, rdAll, rdX, rd, rdAll_dat ds g, Option.bind_eq_bind, Option.bind_some]
theorem er_call {f : List D → Option FR} (h1 : mr g = some (ds.map R.dat, g1)) (h3 : f ds = some (.dat d)) : zCall f mr g = some (.dat d, g1) := by
  unfold zCall; simp only [h1, rdAll_dat, frzAll_dat, h3, Option.bind_eq_bind, Option.bind_some]
  split
  · rfl
  · rfl
theorem er_callL {f : List D → Option FR} {c : Cn} (h1 : mr g = some (ds.map R.dat, g1)) (h3 : f ds = some (.new c)) : zCall f mr g = some (.bor g1.length, g1 ++ [.own c false false]) := by
  unfold zCall; simp only [h1, rdAll_dat, frzAll_dat, h3, Option.bind_eq_bind, Option.bind_some]
  split
  · rfl
  · rfl
/-- a call whose arguments are data, or whose answer is plain -/
theorem er_callG {f : List D → Option FR} (h1 : mr g = some (rs, g1)) (h2 : rdAll g1 rs = some ds) (h2' : frzAll rs g1 = some (ds, g2)) (h3 : f ds = some (.dat d)) (h4 : g2 = g1) : zCall f mr g = some (.dat d, g1) := by
  subst h4
  unfold zCall; simp only [h1, h2, h2', h3, Option.bind_eq_bind, Option.bind_some]
  split
  · rfl
  · rfl
theorem er_callH {f : List D → Option FR} {c : Cn} (h1 : mr g = some (rs, g1)) (h2 : rdAll g1 rs = some ds) (h2' : frzAll rs g1 = some (ds, g2)) (h3 : f ds = some (.new c)) (h4 : g2 = g1) : zCall f mr g = some (.bor g1.length, g1 ++ [.own c false false]) := by
  subst h4
  unfold zCall; simp only [h1, h2, h2', h3, Option.bind_eq_bind, Option.bind_some]
  split
  · rfl
  · rfl
theorem er_ix {k : Int} (h1 : ma g = some (r1, g1)) (h2 : mb g1 = some (.dat (.int k), g2)) (h3 : rd g2 r1 = some d) (h4 : ixD d k = some z) : zIx ma mb g = some (.dat z, g2) := by
  unfold zIx; simp only [h1, h2, h3, h4, isI, Option.bind_eq_bind, Option.bind_some]
theorem er_mt {T : String} {f : D → List D → Option D} (h1 : ma g = some (r, g1)) (h2 : rd g1 r = some d) (h3 : tyD T d = true) (h4 : mr g1 = some (rs, g2)) (h5 : rd g2 r = some e) (h6 : rdAll g2 rs = some ds) (h7 : f e ds = some z) (h8 : z.scal = true) : zMt T f ma mr g = some (.dat z, g2) := by
  unfold zMt; simp only [h1, h2, h3, h4, h5, h6, h7, h8, Option.bind_eq_bind, Option.bind_some, if_true]
theorem er_tup (h1 : mr g = some (rs, g1)) (h2 : frzAll rs g1 = some (ds, g2)) (h3 : ds.length ≤ sizeLine) : zTup mr g = some (.dat (.tup ds), g2) := by
  unfold zTup; simp only [h1, h2, h3, Option.bind_eq_bind, Option.bind_some, if_true]
theorem er_lst (h1 : mr g = some (rs, g1)) (h2 : frzAll rs g1 = some (ds, g2)) (h3 : ds.length ≤ sizeLine) : zLst mr g = some (.bor g2.length, g2 ++ [.own (.lst ds) false false]) := by
  unfold zLst; simp only [h1, h2, h3, Option.bind_eq_bind, Option.bind_some, if_true]
def ap {β : Type} (kk : Option (Fl × G) → β) (o : Option (Fl × G)) : β := kk o
variable {β : Type} {kk : Option (Fl × G) → β} {OUT : β} {st st1 st2 rest : SM} {c : Cn}
theorem sr_nx (k : ap kk (rest g) = OUT) : ap kk (zSeq zNx rest g) = OUT := k
theorem sr_assoc {s1 s2 s3 : SM} (k : ap kk (zSeq s1 (zSeq s2 s3) g) = OUT) : ap kk (zSeq (zSeq s1 s2) s3 g) = OUT := by
  have e : zSeq (zSeq s1 s2) s3 g = zSeq s1 (zSeq s2 s3) g := by
    unfold zSeq
    simp only [Option.bind_eq_bind]
    cases s1 g with
    | none => rfl
    | some o =>
      obtain ⟨fl, g1⟩ := o
      cases fl <;> rfl
  rw [e]; exact k
theorem set_dat (h1 : m g = some (.dat d, g1)) (hf : freeAt i g1 = true) (hg : (g1.set i (.dat d)).take n = g2) : zSet n i m g = some (.nx, g2) := by
  unfold zSet; simp only [h1, setR, setDat, hf, hg, Option.bind_eq_bind, Option.bind_some, if_true]
theorem set_own (h1 : m g = some (.bor j, g1)) (hj : n ≤ j) (ho : g1[j]? = some (.own c false false)) (hf : freeAt i g1 = true) (hg : ((g1.set i (.own c false false)).set j .un).take n = g2) : zSet n i m g = some (.nx, g2) := by
  unfold zSet; simp only [h1, setR, if_pos hj, ho, hf, hg, Option.bind_eq_bind, Option.bind_some, if_true]
theorem app_run (h1 : ma g = some (.bor j, g1)) {ds0 : List D} {p0 l0 p : Bool} (h0 : g1[j]? = some (.own (.lst ds0) p0 l0)) (h2 : mb g1 = some (r, g2)) (h3 : frzR r g2 = some (d, g3)) (h4 : g3[j]? = some (.own (.lst ds) p false)) (hz : ds.length < sizeLine) {g4 : G} (hg : (g3.set j (.own (.lst (ds ++ [d])) p false)).take n = g4) :
    zApp n ma mb g = some (.nx, g4) := by
  unfold zApp; simp only [h1, h0, h2, h3, h4, if_pos hz, hg, Option.bind_eq_bind, Option.bind_some]
theorem seq_nx (h : st g = some (.nx, g1)) (k : ap kk (rest g1) = OUT) : ap kk (zSeq st rest g) = OUT := by
  unfold zSeq; simp only [h, Option.bind_eq_bind, Option.bind_some]; exact k
theorem one_nx (h : st g = some (.nx, g1)) (k : ap kk (some (.nx, g1)) = OUT) : ap kk (st g) = OUT := by rw [h]; exact k
theorem sr_if (h1 : t g = some (b, g1)) (hg : g1.take n = g2) (k1 : b = true → ap kk (zSeq st1 rest g2) = OUT) (k2 : b = false → ap kk (zSeq st2 rest g2) = OUT) : ap kk (zSeq (zIfS n t st1 st2) rest g) = OUT := by
  have e : zSeq (zIfS n t st1 st2) rest g = if b = true then zSeq st1 rest g2 else zSeq st2 rest g2 := by
    unfold zSeq zIfS
    simp only [h1, hg, Option.bind_eq_bind, Option.bind_some]
    cases b with
    | true => rfl
    | false => rfl
  rw [e]
  cases b with
  | true => exact k1 rfl
  | false => exact k2 rfl
theorem sr_if1 (h1 : t g = some (b, g1)) (hg : g1.take n = g2) (k1 : b = true → ap kk (st1 g2) = OUT) (k2 : b = false → ap kk (st2 g2) = OUT) : ap kk (zIfS n t st1 st2 g) = OUT := by
  have e : zIfS n t st1 st2 g = if b = true then st1 g2 else st2 g2 := by
    unfold zIfS
    simp only [h1, hg, Option.bind_eq_bind, Option.bind_some]
  rw [e]
  cases b with
  | true => exact k1 rfl
  | false => exact k2 rfl
theorem sr_ret (h : m g = some (r, g1)) (k : ap kk (some (.ret r, g1)) = OUT) : ap kk (zRet m g) = OUT := by
  unfold zRet; simp only [h, Option.bind_eq_bind, Option.bind_some]; exact k
theorem sr_retS (h : m g = some (r, g1)) (k : ap kk (some (.ret r, g1)) = OUT) : ap kk (zSeq (zRet m) rest g) = OUT := by
  unfold zSeq zRet; simp only [h, Option.bind_eq_bind, Option.bind_some]; exact k
theorem of_ap {o OUT : Option (Fl × G)} (k : ap id o = OUT) : o = OUT := k
/-- what runP does with the end -/
def finK : Option (Fl × G) → Option FR
  | some (.ret r, g) => fin g r
  | some (.nx, _) => some (.dat .non)
  | _ => none
theorem runP_ap {np : Nat} {s : SM} {OUT : Option FR} (hl : ds.length = np) (hg : start0 n ds = g) (k : ap finK (s g) = OUT) : runP n np s ds = OUT := by
  unfold runP
  rw [if_pos hl, hg]
  exact k
/-- .. where only something is said of what comes back -/
theorem runP_post {np : Nat} {s : SM} {post : FR → Prop} (hl : ds.length = np) (hg : start0 n ds = g) (k : ap (fun o => ∃ fr, finK o = some fr ∧ post fr) (s g) = True) : ∃ fr, runP n np s ds = some fr ∧ post fr := by
  have h : ∃ fr, finK (s g) = some fr ∧ post fr := by
    have h1 : (∃ fr, finK (s g) = some fr ∧ post fr) = True := k
    rw [h1]
    trivial
  obtain ⟨fr, h1, h2⟩ := h
  exact ⟨fr, runP_ap hl hg h1, h2⟩
theorem end_post {post : FR → Prop} {o : Option (Fl × G)} {fr : FR} (h : finK o = some fr) (h2 : post fr) : ap (fun o => ∃ fr, finK o = some fr ∧ post fr) o = True := eq_true ⟨fr, h, h2⟩
/-- loops -/
theorem for_none {mi : MI} {tg : TD} {L : List D} (h1 : mi g = some (L, none, g1)) (hg : g1.take n = g2) {o : Option (Fl × G)} (h2 : forL tg st L g2 = o) : zFor n mi tg st g = o := by
  unfold zFor; simp only [h1, hg, h2, Option.bind_eq_bind, Option.bind_some]
theorem for_lock {mi : MI} {tg : TD} {L : List D} {p l : Bool} {fl : Fl} (h1 : mi g = some (L, some j, g1)) (hg : g1.take n = g2) (h2 : g2[j]? = some (.own c p l)) (hg3 : g2.set j (.own c p true) = g3) {g4 g5 : G} (h3 : forL tg st L g3 = some (fl, g4)) (hu : unlk j l g4 = g5) : zFor n mi tg st g = some (fl, g5) := by
  unfold zFor; simp only [h1, hg, h2, hg3, h3, hu, Option.bind_eq_bind, Option.bind_some]
theorem mi_R1 {k : Int} (h1 : mr g = some ([.dat (.int k)], g1)) (h2 : rgOk k = true) : ziR1 mr g = some (rgD 0 k.toNat, none, g1) := by
  unfold ziR1; simp only [h1, h2, Option.bind_eq_bind, Option.bind_some, if_true]
theorem mi_Ld {L : List D} (h1 : m g = some (.dat (.lst L), g1)) : ziL n m g = some (L, none, g1) := by
  unfold ziL; simp only [h1, Option.bind_eq_bind, Option.bind_some]
theorem mi_Lb {L : List D} {p l : Bool} (h1 : m g = some (.bor j, g1)) (hj : j < n) (h2 : g1[j]? = some (.own (.lst L) p l)) : ziL n m g = some (L, some j, g1) := by
  unfold ziL; simp only [h1, ziB, if_pos hj, h2, Option.bind_eq_bind, Option.bind_some]
/-- a loop by an invariant that only says something of the slots -/
theorem forL_inv {tg : TD} : ∀ {L : List D} (I : Nat → G → Prop) (k : Nat) (g : G), I k g → (∀ i d g, L[i]? = some d → I (k + i) g → ∃ g1 g2, tg d g = some g1 ∧ (st g1 = some (.nx, g2) ∨ st g1 = some (.ct, g2)) ∧ I (k + i + 1) g2) → ∃ g2, forL tg st L g = some (.nx, g2) ∧ I (k + L.length) g2
  | [], I, k, g, h0, _ => ⟨g, rfl, h0⟩
  | d :: L, I, k, g, h0, h => by
    obtain ⟨g1, g2, h1, h2, h3⟩ := h 0 d g rfl h0
    obtain ⟨g3, e3, i3⟩ := forL_inv (L := L) I (k + 1) g2 h3 fun i d' g' hd hi => by
      have := h (i + 1) d' g' (by simpa using hd) (by rw [show k + (i + 1) = k + 1 + i by omega]; exact hi)
      rw [show k + (i + 1) = k + 1 + i by omega] at this
      exact this
    refine ⟨g3, ?_, by rw [show k + (d :: L).length = k + 1 + L.length by simp; omega]; exact i3⟩
    simp only [forL, Option.bind_eq_bind]
    rw [h1]
    simp only [Option.bind_some]
    rcases h2 with h2 | h2
    · rw [h2]; exact e3
    · rw [h2]; exact e3
/-- the size of a number -/
def iabs (i : Int) : Int := if i < 0 then -i else i
theorem dr_div {i j : Int} (h : 0 < j) (h2 : j.natAbs.log2 < 9000) : divD (.int i) (.int j) = some (.int (i / j)) := by
  have h0 : j ≠ 0 := by omega
  simp [divD, divOk, fdivV, h, h0, h2]
theorem dr_divB {i j : Int} (h : 0 < j) (h2 : j < 2 ^ 256) : divD (.int i) (.int j) = some (.int (i / j)) := by
  refine dr_div h (Nat.lt_of_lt_of_le (PySem.Flt.log2_lt_of (k := 256) (by decide) (by omega)) (by decide))
theorem dr_mod {i j : Int} (h : 0 < j) : modD (.int i) (.int j) = some (.int (i % j)) := by
  have h0 : j ≠ 0 := by omega
  simp [modD, fmodV, h, h0]
theorem dr_mulr {i j : Int} (h : decide (j.natAbs < 2 ^ 64) = true) : mulD (.int i) (.int j) = some (.int (i * j)) := by
  simp only [mulD, mulOk, h, Bool.or_true, Bool.true_or, if_true]
theorem dr_mull {i j : Int} (h : decide (i.natAbs < 2 ^ 64) = true) : mulD (.int i) (.int j) = some (.int (i * j)) := by
  simp only [mulD, mulOk, h, Bool.or_true, Bool.true_or, if_true]
theorem dr_mulrB {i j : Int} (h : -(2 ^ 64) < j) (h2 : j < 2 ^ 64) : mulD (.int i) (.int j) = some (.int (i * j)) := dr_mulr (decide_eq_true (by omega))
theorem dr_mullB {i j : Int} (h : -(2 ^ 64) < i) (h2 : i < 2 ^ 64) : mulD (.int i) (.int j) = some (.int (i * j)) := dr_mull (decide_eq_true (by omega))
theorem dr_mulC {i j : Int} (h : -(2 ^ 256) < i) (h2 : i < 2 ^ 256) (h3 : -(2 ^ 256) < j) (h4 : j < 2 ^ 256) : mulD (.int i) (.int j) = some (.int (i * j)) := by
  have a : i.natAbs.log2 < 256 := PySem.Flt.log2_lt_of (by decide) (by omega)
  have b : j.natAbs.log2 < 256 := PySem.Flt.log2_lt_of (by decide) (by omega)
  have c : i.natAbs.log2 + j.natAbs.log2 < 1000000 := by omega
  simp only [mulD, mulOk, decide_eq_true c, Bool.or_true, if_true]
theorem dr_neB {a b : Bool} : neqD (.bl a) (.bl b) = some (.bl (!(a == b))) := rfl
theorem dr_eqB {a b : Bool} : eqD (.bl a) (.bl b) = some (.bl (a == b)) := rfl
theorem dr_abs {i : Int} : absD [.int i] = some (.int (iabs i)) := rfl
theorem dr_eqI {i j : Int} : eqD (.int i) (.int j) = some (.bl (i == j)) := rfl
theorem dr_eqS {a b : List Nat} : eqD (.str a) (.str b) = some (.bl (a == b)) := rfl
theorem dr_neI {i j : Int} : neqD (.int i) (.int j) = some (.bl (!(i == j))) := rfl
theorem dr_neS {a b : List Nat} : neqD (.str a) (.str b) = some (.bl (!(a == b))) := rfl
theorem dr_cat {a b : List Nat} (h : a.length + b.length ≤ sizeLine) : addS (.str a) (.str b) = some (.str (a ++ b)) := by
  simp only [addS, catOk, decide_eq_true h, if_true]
theorem dr_ixS {a : List Nat} {k : Int} {c : Nat} (h : a.length ≤ sizeLine) (h2 : atI a k = some c) : ixD (.str a) k = some (.str [c]) := by
  unfold ixD
  simp only [if_pos h, h2, Option.map_some]
end
theorem rgD_at {lo : Int} {n i : Nat} {d : D} (h : (rgD lo n)[i]? = some d) : i < n ∧ d = .int (lo + (i : Int)) := by
  have hi := (List.getElem?_eq_some_iff.mp h).1
  rw [rgD_len] at hi
  rw [rgD_get hi] at h
  exact ⟨hi, (Option.some.inj h).symm⟩
theorem atI_lt {α : Type} {xs : List α} {k : Int} (h0 : 0 ≤ k) (h1 : k < xs.length) : ∃ x, atI xs k = some x ∧ x ∈ xs := by
  have hk : k.toNat < xs.length := by omega
  refine ⟨xs[k.toNat], ?_, List.getElem_mem hk⟩
  have := atI_nat (xs := xs) (j := k.toNat) (List.getElem?_eq_getElem hk)
  rw [Int.toNat_of_nonneg h0] at this
  exact this
theorem atI_map {α β : Type} {f : α → β} {xs : List α} {k : Int} {x : α} (h : atI xs k = some x) : atI (xs.map f) k = some (f x) := by
  unfold atI at h ⊢
  rw [List.length_map]
  cases e : ixN xs.length k with
  | none => rw [e] at h; cases h
  | some j =>
    rw [e] at h
    show (xs.map f)[j]? = _
    rw [List.getElem?_map, show xs[j]? = some x from h]
    rfl
theorem rgOk_of {k : Int} (h : -(2 ^ 62) ≤ k) (h2 : k < 2 ^ 62) : rgOk k = true := by
  unfold rgOk
  rw [decide_eq_true h, decide_eq_true h2]
  rfl
end Z
set_option Elab.async false
set_option linter.all false
set_option maxRecDepth 100000
set_option maxHeartbeats 4000000
namespace Z
open PySem PySem.Spec PyProof.Rows L2
def tyNm : D → Option String
  | .non => some "NoneType" | .bl _ => some "bool" | .int _ => some "int" | .str _ => some "str" | .lst _ => some "list" | .tup _ => some "tuple" | .raw _ => none | .dic _ _ => none | .obj _ _ _ => none
theorem tyNm_ok {K : PySem.W.Frag} {H : Hp} {v : V} {d : D} {t : String} (h : Dz K H v d) (e : tyNm d = some t) : TyX K H v (.type t) := by
  cases h with
  | non => cases e; exact .base .non
  | bl b => cases e; exact .base (.bl b)
  | int i => cases e; exact .base (.int i)
  | str s => cases e; exact .base (.str _)
  | lst hs ha =>
    cases e
    rcases hs with (hs | ⟨o, hs⟩) | ⟨o, its, n, h1, h2, _⟩
    · exact .base (.lst hs)
    · exact .base (.frz hs)
    · exact .kList h1 h2
  | tup hs ha =>
    cases e
    rcases hs with (hs | ⟨o, hs⟩) | ⟨o, its, n, h1, h2, _⟩
    · exact .base (.tup hs)
    · exact .fTuple hs
    · exact .kTuple h1 h2
  | raw v => cases e
  | dic _ _ _ => cases e
  | obj _ _ _ _ => cases e
def isiD : List D → Option D
  | [d, .raw (.ty n)] => do
    let t ← tyNm d
    let b ← kitB t n
    some (.bl b)
  | _ => none
theorem call_isiU {X : Cx} : CallR X (.builtin "isinstance") (rIsi X.K) := call_isi
theorem s_isi {K : PySem.W.Frag} : CallS K (rIsi K) isiD := by
  intro H vs ds z Q hz e q
  unfold isiD at e
  split at e
  · rename_i d n
    simp only [Option.bind_eq_bind, Option.bind_eq_some_iff] at e
    obtain ⟨t, h1, b, h2, e⟩ := e
    cases e
    cases hz with
    | cons h r =>
      cases r with
      | cons h3 r =>
        cases r
        cases h3
        exact ⟨_, .ty n, .type t, .type n, b, rfl, .ty n, tyNm_ok h h1, kit_ty h2, q⟩
  · cases e
theorem isi_of {d : D} {t n : String} {b : Bool} (h : tyNm d = some t) (h2 : kitB t n = some b) : isiD [d, .raw (.ty n)] = some (.bl b) := by
  simp only [isiD, h, h2, Option.bind_eq_bind, Option.bind_some]
theorem kb_int_int : kitB "int" "int" = some true := by decide +kernel
theorem kb_int_bool : kitB "int" "bool" = some false := by decide +kernel
theorem kb_bool_bool : kitB "bool" "bool" = some true := by decide +kernel
theorem kb_bool_int : kitB "bool" "int" = some true := by decide +kernel
theorem kb_str_int : kitB "str" "int" = some false := by decide +kernel
theorem kb_str_bool : kitB "str" "bool" = some false := by decide +kernel
theorem kb_str_str : kitB "str" "str" = some true := by decide +kernel
theorem kb_int_str : kitB "int" "str" = some false := by decide +kernel
theorem kb_bool_str : kitB "bool" "str" = some false := by decide +kernel
theorem kb_non_int : kitB "NoneType" "int" = some false := by decide +kernel
theorem kb_non_bool : kitB "NoneType" "bool" = some false := by decide +kernel
theorem kb_non_str : kitB "NoneType" "str" = some false := by decide +kernel
theorem kb_list_list : kitB "list" "list" = some true := by decide +kernel
theorem kb_tuple_tuple : kitB "tuple" "tuple" = some true := by decide +kernel
theorem kb_list_tuple : kitB "list" "tuple" = some false := by decide +kernel
theorem kb_tuple_list : kitB "tuple" "list" = some false := by decide +kernel
end Z
set_option Elab.async false
set_option linter.all false
set_option maxRecDepth 100000
set_option maxHeartbeats 4000000
namespace Z
open PySem PySem.Spec PyProof.Rows L2
def absP : Value → Option D
  | .none => some .non
  | .bool b => some (.bl b)
  | .int i _ => some (.int i)
  | .str x _ => some (.str x.cps.toList)
  | _ => none
def absPs : List Value → Option (List D)
  | [] => some []
  | u :: us => do
    let d ← absP u
    let ds ← absPs us
    some (d :: ds)
theorem absP_ok {u : Value} {d : D} (h : absP u = some d) : ∃ v, RelV v u ∧ ∀ (K : PySem.W.Frag) (H : Hp), Dz K H v d := by
  cases u with
  | none => cases h; exact ⟨.non, rfl, fun _ _ => .non⟩
  | bool b => cases h; exact ⟨.bl b, rfl, fun _ _ => .bl b⟩
  | int i t => cases h; exact ⟨.int i, ⟨t, rfl⟩, fun _ _ => .int i⟩
  | str x t =>
    cases h
    refine ⟨.str x, ⟨t, rfl⟩, fun K H => ?_⟩
    have : x = ⟨x.cps.toList.toArray⟩ := by cases x; simp
    conv => arg 3; rw [this]
    exact .str _
  | _ => cases h
theorem absPs_ok : ∀ {us : List Value} {ds : List D}, absPs us = some ds → ∃ vs, Vals vs us ∧ ∀ (K : PySem.W.Frag) (H : Hp), DzA K H vs ds
  | [], ds, h => by cases h; exact ⟨[], .nil, fun _ _ => .nil⟩
  | u :: us, ds, h => by
    unfold absPs at h
    simp only [Option.bind_eq_bind, Option.bind_eq_some_iff] at h
    obtain ⟨d, h1, ds', h2, h⟩ := h
    cases h
    obtain ⟨v, r, z⟩ := absP_ok h1
    obtain ⟨vs, rs, zs⟩ := absPs_ok h2
    exact ⟨v :: vs, .cons r rs, fun K H => .cons (z K H) (zs K H)⟩
section
variable {K : PySem.W.Frag} {h : Heap} {mg : Str → Option Value} {x : Str}
def ConstD (K : PySem.W.Frag) (mg : Str → Option Value) (x : Str) (d : D) : Prop := ∃ v, ConstAt K mg x v d
theorem constP {u : Value} {d : D} (X : K.In h) (G : h.Ns mainGlobals mg) (e : PySem.W.nsIn K mainGlobals x = some (some u)) (hd : absP u = some d) : ConstD K mg x d := by
  obtain ⟨v, r, z⟩ := absP_ok hd
  exact ⟨v, ⟨_, PySem.W.mg_of X G e, r⟩, z K⟩
theorem constT {a : Addr} {dd : Option Addr} {its : Array Value} {n : Nat} {sl : Array (Option Value)} {ds : List D} (X : K.In h) (G : h.Ns mainGlobals mg) (e : PySem.W.nsIn K mainGlobals x = some (some (.ref a))) (l : K.lookup a = some ⟨.type "tuple", dd, .seq its n, sl⟩) (hd : absPs its.toList = some ds) (hz : Nat.ble its.size 1000 = true) : ConstD K mg x (.tup ds) := by
  obtain ⟨vs, r, z⟩ := absPs_ok hd
  refine ⟨.ref a, ⟨_, PySem.W.mg_of X G e, rfl⟩, fun H => .tup (.inr ⟨_, its, n, l, rfl, rfl, Nat.le_trans (Nat.le_of_ble_eq_true hz) (by decide), r⟩) (z K H)⟩
theorem ze_cd {X : Cx} {pos : Pos} {x : Str} {d : D} (h : ConstD X.K X.mg x d) (hg : Gl X x := by rfl) (hdb : (x == ("__debug__" : Str)) = false := by decide) : ZE X (.Name x pos) (zC d) := by
  obtain ⟨v, h⟩ := h
  exact ze_gc h hg hdb
end
def inL (x : D) (l : List D) : Bool := l.any fun y => D.eqv y x
def inB (x y : D) : Option Bool := match y with
  | .lst l => if (x.pl && l.all D.pl) = true then some (inL x l) else if (x.shp && (D.lst l).shp) = true then some (inL x l) else none
  | .tup l => if (x.pl && l.all D.pl) = true then some (inL x l) else if (x.shp && (D.tup l).shp) = true then some (inL x l) else none
  | .str t => match x with
    | .str [c] => some (decide (c ∈ t))
    | _ => none
  | _ => none
def inD (x y : D) : Option D := (inB x y).map D.bl
def rInT (K : PySem.W.Frag) (neg : Bool) : R2 := fun x y H Q => ∃ d ds, Dp K H x d ∧ Dp K H y (.tuple ds) ∧ SeqAt.shaped d = true ∧ SeqAt.shaped (.tuple ds) = true ∧ Q (.bl (if neg then !(ds.any fun z => PyData.eqv z d) else ds.any fun z => PyData.eqv z d)) H
theorem op_inT {X : Cx} (hu : X.A.units + 65 < cLine) : OpR X (compareOp .In) (rInT X.K false) := by
  intro pins s σ H x y v u Q I rx ry h
  obtain ⟨d, ds, hd, he, sd, se, q⟩ := h
  obtain ⟨as, r1⟩ := Dp.reads I d x v hd rx
  obtain ⟨bs, r2⟩ := Dp.reads I (.tuple ds) y u he ry
  exact SeqAt.in_tuple_reads r2 r1 (SeqAt.canLay_of_shaped se) (SeqAt.canLay_of_shaped sd) (room_in_shaped sd hu) ⟨.bl _, H, I, rfl, q⟩
def rInU (K : PySem.W.Frag) : R2 := fun x y H Q => rIn K false x y H Q ∨ rInD K x y H Q ∨ rInT K false x y H Q ∨ (∃ (c : Nat) (z : Str), x = .str ⟨#[c]⟩ ∧ y = .str z ∧ Q (.bl (decide (c ∈ z.cps.toList))) H)
theorem o_in {X : Cx} {k : Nat} (hr : Room k X.A) : OpR X (compareOp .In) (rInU X.K) := OpR.or op_in_seq (OpR.or (op_inD (by have := hr.un; omega)) (OpR.or (op_inT (by have := hr.un; omega)) op_in_sign))
theorem eqV_eqv {K : PySem.W.Frag} {H : Hp} {v w : V} {d e : D} (h : Dz K H v d) (h' : Dz K H w e) (p : d.pl = true) (q : e.pl = true) : eqV v w = D.eqv d e := by
  cases h <;> cases h' <;> simp [D.pl] at p q <;> simp [eqV, D.eqv, str_beq]
theorem flat_pl {K : PySem.W.Frag} {H : Hp} {v : V} {d : D} (h : Dz K H v d) (p : d.pl = true) : flatV v = true := by
  cases h <;> simp [D.pl] at p <;> rfl
theorem flats_pl {K : PySem.W.Frag} {H : Hp} : ∀ {vs : List V} {ds : List D}, DzA K H vs ds → ds.all D.pl = true → vs.all flatV = true
  | _, _, .nil, _ => rfl
  | _, _, .cons h t, p => by
    rw [List.all_cons, Bool.and_eq_true] at p
    rw [List.all_cons, flat_pl h p.1, flats_pl t p.2]
    rfl
theorem inV_inL {K : PySem.W.Frag} {H : Hp} {v : V} {d : D} (h : Dz K H v d) (p : d.pl = true) : ∀ {vs : List V} {ds : List D}, DzA K H vs ds → ds.all D.pl = true → inV v vs = inL d ds
  | _, _, .nil, _ => rfl
  | _, _, .cons h2 t, q => by
    rw [List.all_cons, Bool.and_eq_true] at q
    unfold inV inL
    rw [List.any_cons, List.any_cons, eqV_eqv h2 h q.1 p]
    have := inV_inL h p t q.2
    unfold inV inL at this
    rw [this]
theorem pyA_map : ∀ l : List D, D.pyA l = l.map D.py
  | [] => rfl
  | d :: l => by rw [D.pyA, List.map_cons, pyA_map l]
theorem shp_lay {d : D} (h : d.shp = true) : d.py.canLay0 = true := SeqAt.canLay_of_shaped h
theorem s_in {K : PySem.W.Frag} : OpS K (rInU K) inD := by
  intro H x y d e z Q hx hy e1 q
  unfold inD at e1
  rw [Option.map_eq_some_iff] at e1
  obtain ⟨b, e1, rfl⟩ := e1
  have deep : ∀ {l : List D}, d.shp = true → (D.lst l).shp = true → Dz K H y (.lst l) → b = inL d l → rInD K x y H Q := fun {l} p1 p2 hy eb => by
    have hl : Dp K H y (PyData.list (D.pyA l)) := Dz.dp hy (shp_lay p2)
    refine ⟨d.py, D.pyA l, Dz.dp hx (shp_lay p1), hl, p1, p2, ?_⟩
    rw [pyA_map, List.any_map]
    have : ((fun z => PyData.eqv z d.py) ∘ D.py) = fun y => D.eqv y d := by funext y; exact D.py_eqv y d
    rw [this]
    rw [eb] at q
    exact q
  have deepT : ∀ {l : List D}, d.shp = true → (D.tup l).shp = true → Dz K H y (.tup l) → b = inL d l → rInT K false x y H Q := fun {l} p1 p2 hy eb => by
    have hl : Dp K H y (PyData.tuple (D.pyA l)) := Dz.dp hy (shp_lay p2)
    refine ⟨d.py, D.pyA l, Dz.dp hx (shp_lay p1), hl, p1, p2, ?_⟩
    rw [if_neg Bool.false_ne_true, pyA_map, List.any_map]
    have : ((fun z => PyData.eqv z d.py) ∘ D.py) = fun y => D.eqv y d := by funext y; exact D.py_eqv y d
    rw [this]
    rw [eb] at q
    exact q
  cases e with
  | lst l =>
    simp only [inB] at e1
    split at e1
    · rename_i hp
      cases e1
      rw [Bool.and_eq_true] at hp
      cases hy with
      | lst hs ha => exact .inl ⟨_, _, rfl, .inl hs, flat_pl hx hp.1, flats_pl ha hp.2, by rw [if_neg Bool.false_ne_true, inV_inL hx hp.1 ha hp.2]; exact q⟩
    · split at e1
      · rename_i hp
        cases e1
        rw [Bool.and_eq_true] at hp
        exact .inr (.inl (deep hp.1 hp.2 hy rfl))
      · cases e1
  | tup l =>
    simp only [inB] at e1
    split at e1
    · rename_i hp
      cases e1
      rw [Bool.and_eq_true] at hp
      cases hy with
      | tup hs ha => exact .inl ⟨_, _, rfl, .inr hs, flat_pl hx hp.1, flats_pl ha hp.2, by rw [if_neg Bool.false_ne_true, inV_inL hx hp.1 ha hp.2]; exact q⟩
    · split at e1
      · rename_i hp
        cases e1
        rw [Bool.and_eq_true] at hp
        exact .inr (.inr (.inl (deepT hp.1 hp.2 hy rfl)))
      · cases e1
  | str t =>
    simp only [inB] at e1
    split at e1
    · rename_i c
      cases e1
      cases hx
      cases hy
      exact .inr (.inr (.inr ⟨c, _, rfl, rfl, q⟩))
    · cases e1
  | _ => cases e1
/-- the items of a list or a tuple -/
def seqD : D → Option (List D)
  | .lst l => some l
  | .tup l => some l
  | _ => none
def z_list (ma : ZAr) : ZM := fun g => do
  let (rs, g1) ← ma g
  match rs with
  | [r] => do
    let d ← rd g1 r
    let l ← seqD d
    some (.bor g1.length, g1 ++ [.own (.lst l) false false])
  | _ => none
def z_tuple (ma : ZAr) : ZM := fun g => do
  let (rs, g1) ← ma g
  match rs with
  | [r] => do
    let d ← rd g1 r
    match d with
    | .lst l => some (.dat (.tup l), g1)
    | .tup l => match r with
      | .dat _ => some (.dat (.tup l), g1)
      | _ => none
    | _ => none
  | _ => none
section
variable {X : Cx} {pos : Pos} {a b : Expr} {ma mb : ZM} {mr : ZAr} {es : List Expr}
theorem ze_list {x : Str} {p : Pos} {k : Nat} (hr : Room k X.A) (hg : Gl X x) (hm : X.mg x = none) (ha : ZAs X (a :: es) mr) (hv : bootBuiltins x = some (.type "list") := by decide +kernel)
    (hn : x ≠ "__name__" := by decide) (hdb : (x == ("__debug__" : Str)) = false := by decide) (he : starEach (a :: es) X.env = (false, eval a X.env) :: starEach es X.env := by rfl) (hpl : (backTo pos (starEach es X.env)).any (·.1) = false := by rfl) :
    ZE X (.Call (.Name x p) (a :: es) [] pos) (z_list mr) := by
  refine PE.of (pe_callTy call_list_of hg hm hv ha hn hdb he hpl) fun σ H Q ⟨C, Hs, A, g, r, g', hK, hn, ok, e, q⟩ => ?_
  unfold z_list at e
  simp only [Option.bind_eq_bind, Option.bind_eq_some_iff] at e
  obtain ⟨⟨rs, g1⟩, h1, e⟩ := e
  refine ⟨C, Hs, A, g, rs, g1, hK, hn, ok, h1, fun Hs1 A1 vs H1 s1 p1 ok1 rel1 => ?_⟩
  simp only at e
  split at e
  · rename_i r1
    simp only [Option.bind_eq_some_iff] at e
    obtain ⟨d, h2, l, h3, e⟩ := e
    cases e
    obtain ⟨v, rfl, w⟩ := relRs1 rel1
    cases d with
    | lst l' =>
      cases h3
      obtain ⟨a, xs, rfl, y1, y2⟩ := ok1.rdL w h2
      exact ⟨a, xs, rfl, .inl (by rw [← hK]; exact y1), fun p hp => q Hs1 (A1 ++ [p]) _ _ s1 (p1.trans (Pre.app _ _)) (ok1.tmp (o := .lst xs) (c := .lst l) hp y2) (ok1.tmpR p)⟩
    | tup l' =>
      cases h3
      obtain ⟨a, xs, rfl, y1, y2⟩ := ok1.rdT w h2
      exact ⟨a, xs, rfl, .inr (by rw [← hK]; exact sameT ok1.same y1), fun p hp => q Hs1 (A1 ++ [p]) _ _ s1 (p1.trans (Pre.app _ _)) (ok1.tmp (o := .lst xs) (c := .lst l) hp y2) (ok1.tmpR p)⟩
    | _ => cases h3
  · cases e
theorem ze_tuple {x : Str} {p : Pos} {k : Nat} (hr : Room k X.A) (hg : Gl X x) (hm : X.mg x = none) (ha : ZAs X (a :: es) mr) (hv : bootBuiltins x = some (.type "tuple") := by decide +kernel)
    (hn : x ≠ "__name__" := by decide) (hdb : (x == ("__debug__" : Str)) = false := by decide) (he : starEach (a :: es) X.env = (false, eval a X.env) :: starEach es X.env := by rfl) (hpl : (backTo pos (starEach es X.env)).any (·.1) = false := by rfl) :
    ZE X (.Call (.Name x p) (a :: es) [] pos) (z_tuple mr) := by
  refine PE.of (pe_callTy call_tuple_of hg hm hv ha hn hdb he hpl) fun σ H Q ⟨C, Hs, A, g, r, g', hK, hn, ok, e, q⟩ => ?_
  unfold z_tuple at e
  simp only [Option.bind_eq_bind, Option.bind_eq_some_iff] at e
  obtain ⟨⟨rs, g1⟩, h1, e⟩ := e
  refine ⟨C, Hs, A, g, rs, g1, hK, hn, ok, h1, fun Hs1 A1 vs H1 s1 p1 ok1 rel1 => ?_⟩
  simp only at e
  split at e
  · rename_i r1
    simp only [Option.bind_eq_some_iff] at e
    obtain ⟨d, h2, e⟩ := e
    obtain ⟨v, rfl, w⟩ := relRs1 rel1
    split at e
    · cases e
      obtain ⟨a, xs, rfl, y1, y2⟩ := ok1.rdL w h2
      refine ⟨a, xs, rfl, .inl ⟨by rw [← hK]; exact y1, fun p hp => ?_⟩⟩
      obtain ⟨ok3, s3⟩ := ok1.lay (o := .tup xs) hp
      exact q _ A1 (.ref p) _ (s1.trans s3) p1 ok3 (.tup (SqT.of upd_same) (y2.mono s3))
    · split at e
      · cases e
        cases h2
        have w' : Dz C.K Hs1 v (.tup _) := w
        cases w' with
        | tup hs hz =>
          exact ⟨_, _, rfl, .inr ⟨by rw [← hK]; exact sameT ok1.same hs, q Hs1 A1 _ H1 s1 p1 ok1 (.tup hs hz)⟩⟩
      · cases e
    · cases e
  · cases e
abbrev ZO := G → Option (Option Int × G)
theorem PO.of {X : Cx} {e : Option Expr} {t t' : TO} (h : PO X e t) (w : ∀ σ H Q, t' σ H Q → t σ H Q) : PO X e t' := ⟨fun pins s σ H Q I q => h.run pins s σ H Q I (w σ H Q q)⟩
def zoN : ZO := fun g => some (none, g)
def zoS (m : ZM) : ZO := fun g => do
  let (r, g1) ← m g
  let k ← isI r
  some (some k, g1)
/-- the part of a list -/
def cutL {α : Type} (xs : List α) (lo hi : Option Int) : List α := (xs.drop (HT.sIx xs.length 0 lo)).take (HT.sIx xs.length xs.length hi - HT.sIx xs.length 0 lo)
def zSl (ma : ZM) (ml mh : ZO) : ZM := fun g => do
  let (r, g1) ← ma g
  let (lo, g2) ← ml g1
  let (hi, g3) ← mh g2
  let d ← rd g3 r
  match d with
  | .lst l => some (.bor g3.length, g3 ++ [.own (.lst (cutL l lo hi)) false false])
  | .str t => if t.length ≤ sizeLine then some (.dat (.str (cutL t lo hi)), g3) else none
  | .tup l => match r with
    | .dat _ => some (.dat (.tup (cutL l lo hi)), g3)
    | _ => none
  | _ => none
end
end Z
set_option Elab.async false
set_option linter.all false
set_option maxRecDepth 100000
set_option maxHeartbeats 4000000
namespace Z
open PySem PySem.Spec PyProof.Rows L2
section
variable {g g1 g2 g3 : G} {r r1 r2 : R} {d e z : D} {ma mb mc m : ZM} {mr : ZAr} {rs : List R} {ds : List D} {b b1 b2 : Bool} {n i j : Nat}
theorem asg_run {tg : TD} (h1 : m g = some (.dat d, g1)) (h2 : tg d g1 = some g2) (hg : g2.take n = g3) : zAsg n m tg g = some (.nx, g3) := by
  unfold zAsg; simp only [h1, frzR, h2, hg, Option.bind_eq_bind, Option.bind_some]
theorem aug_run {f : D → D → Option D} (h0 : zVar i g = some (.dat d, g)) (hs : d.scal = true) (h1 : m g = some (r, g1)) (h2 : rd g1 r = some e) (h3 : f d e = some z) (hz : z.scal = true) (hf : freeAt i g1 = true) (hg : (g1.set i (.dat z)).take n = g2) : zAug n i f m g = some (.nx, g2) := by
  have h00 : rd g (.dat d) = some d := rfl
  have h4 : setDat i z g1 = some (g1.set i (.dat z)) := by unfold setDat; rw [if_pos hf]
  unfold zAug
  simp only [h0, h00, hs, h1, h2, h3, hz, h4, hg, Option.bind_eq_bind, Option.bind_some, if_true]
theorem sto_run {k : Int} {q : Nat} {p : Bool} (h1 : mc g = some (.dat d, g1)) (h2 : ma g1 = some (.bor j, g2)) (h3 : mb g2 = some (.dat (.int k), g3)) (h4 : g3[j]? = some (.own (.lst ds) p false)) (h5 : ixN ds.length k = some q) {g4 : G} (hg : (g3.set j (.own (.lst (ds.set q d)) p false)).take n = g4) : zSto n ma mb mc g = some (.nx, g4) := by
  unfold zSto; simp only [h1, h2, h3, h4, h5, hg, frzR, isI, Option.bind_eq_bind, Option.bind_some]
theorem er_list {l : List D} (h1 : mr g = some ([r], g1)) (h2 : rd g1 r = some d) (h3 : seqD d = some l) : z_list mr g = some (.bor g1.length, g1 ++ [.own (.lst l) false false]) := by
  unfold z_list; simp only [h1, h2, h3, Option.bind_eq_bind, Option.bind_some]
theorem er_tupL {l : List D} (h1 : mr g = some ([r], g1)) (h2 : rd g1 r = some (.lst l)) : z_tuple mr g = some (.dat (.tup l), g1) := by
  unfold z_tuple; simp only [h1, h2, Option.bind_eq_bind, Option.bind_some]
theorem er_zoN : zoN g = some (none, g) := rfl
theorem er_zoS {k : Int} (h : m g = some (.dat (.int k), g1)) : zoS m g = some (some k, g1) := by
  unfold zoS; simp only [h, isI, Option.bind_eq_bind, Option.bind_some]
theorem er_slS {ml mh : ZO} {lo hi : Option Int} {t : List Nat} (h1 : ma g = some (r, g1)) (h2 : ml g1 = some (lo, g2)) (h3 : mh g2 = some (hi, g3)) (h4 : rd g3 r = some (.str t)) (hz : t.length ≤ sizeLine) : zSl ma ml mh g = some (.dat (.str (cutL t lo hi)), g3) := by
  unfold zSl; simp only [h1, h2, h3, h4, if_pos hz, Option.bind_eq_bind, Option.bind_some]
theorem er_slL {ml mh : ZO} {lo hi : Option Int} {l : List D} (h1 : ma g = some (r, g1)) (h2 : ml g1 = some (lo, g2)) (h3 : mh g2 = some (hi, g3)) (h4 : rd g3 r = some (.lst l)) : zSl ma ml mh g = some (.bor g3.length, g3 ++ [.own (.lst (cutL l lo hi)) false false]) := by
  unfold zSl; simp only [h1, h2, h3, h4, Option.bind_eq_bind, Option.bind_some]
theorem er_C : zC d g = some (.dat d, g) := rfl
theorem er_nil : zNil g = some ([], g) := rfl
theorem er_varD (h : g[i]? = some (.dat d)) : zVar i g = some (.dat d, g) := by unfold zVar; rw [h]
theorem er_varO {c : Cn} {p l : Bool} (h : g[i]? = some (.own c p l)) : zVar i g = some (.bor i, g) := by unfold zVar; rw [h]
theorem er_varF (h : g[i]? = some (.frz d)) : zVar i g = some (.dat d, g) := by unfold zVar; rw [h]
theorem mi_T {L : List D} (h1 : m g = some (.dat (.tup L), g1)) : ziT m g = some (L, none, g1) := by
  unfold ziT; simp only [h1, Option.bind_eq_bind, Option.bind_some]
end
end Z
set_option Elab.async false
set_option linter.all false
set_option maxRecDepth 100000
set_option maxHeartbeats 4000000
namespace Z
open PySem PySem.Spec PyProof.Rows L2
def startM (n k : Nat) (c : Cn) (ds : List D) : G := (start0 (n - 1) ds).insertIdx k (.own c true false)
def finM (k : Nat) : Option (Fl × G) → Option (FR × Cn)
  | some (.ret r, g) => match g[k]? with
    | some (.own c' true _) => (fin g r).map fun fr => (fr, c')
    | _ => none
  | some (.nx, g) => match g[k]? with
    | some (.own c' true _) => some (.dat .non, c')
    | _ => none
  | _ => none
def runM (n np k : Nat) (s : SM) : Cn → List D → Option (FR × Cn) := fun c ds => if ds.length + 1 = np ∧ k ≤ ds.length then finM k (s (startM n k c ds)) else none
theorem start0_old {n : Nat} {ds : List D} {i : Nat} {t : Sl} (e : (start0 n ds)[i]? = some t) : (∃ d, ds[i]? = some d ∧ t = .dat d) ∨ t = .un := by
  unfold start0 at e
  by_cases hi : i < ds.length
  · rw [List.getElem?_append_left (by simpa using hi), List.getElem?_map] at e
    rw [List.getElem?_eq_getElem hi] at e
    exact .inl ⟨ds[i], List.getElem?_eq_getElem hi, (Option.some.inj e).symm⟩
  · rw [List.getElem?_append_right (by simpa using hi), List.getElem?_replicate] at e
    split at e
    · exact .inr (Option.some.inj e).symm
    · cases e
theorem start0_len {n : Nat} {ds : List D} (h : ds.length ≤ n) : (start0 n ds).length = n := by
  unfold start0
  rw [List.length_append, List.length_map, List.length_replicate]
  omega
theorem startM_old {n k : Nat} {c : Cn} {ds : List D} {i : Nat} {t : Sl} (hk : k ≤ ds.length) (hn : ds.length + 1 ≤ n) (e : (startM n k c ds)[i]? = some t) :
    (i = k ∧ t = .own c true false) ∨ (i ≠ k ∧ ((∃ d, ds[if i < k then i else i - 1]? = some d ∧ t = .dat d) ∨ t = .un)) := by
  unfold startM at e
  have hl := start0_len (n := n - 1) (ds := ds) (by omega)
  rw [List.getElem?_insertIdx] at e
  split at e
  · rename_i h
    refine .inr ⟨by omega, ?_⟩
    rw [if_pos h]
    exact start0_old e
  · rename_i h
    split at e
    · rename_i h2
      rw [if_pos (by omega)] at e
      exact .inl ⟨h2, (Option.some.inj e).symm⟩
    · rename_i h2
      refine .inr ⟨h2, ?_⟩
      rw [if_neg h]
      exact start0_old e
theorem ok_startM {K : PySem.W.Frag} {N : List Str} {Hs H : Hp} {vs : List V} {ds : List D} {k : Nat} {c : Cn} {a : Addr} {o : HO} (h : vs.length ≤ N.length) (hvd : vs.length = ds.length + 1) (hk : k ≤ ds.length) (s : Same Hs H) (hv : vs[k]? = some (.ref a)) (hz : DzA K Hs (vs.eraseIdx k) ds) (ha : Hs a = none) (hH : H a = some o) (hc : CnOk K Hs c o) :
    Ok { K := K, n := N.length, H0 := H, Hs0 := Hs, pins := [(k, a)], locks := [], plt := fun q h => by rw [List.mem_singleton.mp h]; show k < N.length; omega, llt := fun _ h => (List.not_mem_nil h).elim } Hs (List.replicate N.length a) (startM N.length k c ds) (L2.start N vs) H := by
  have hl : (startM N.length k c ds).length = N.length := by
    unfold startM
    have := start0_len (n := N.length - 1) (ds := ds) (by omega)
    rw [List.length_insertIdx, if_pos (by omega), this]
    omega
  have old := fun {i : Nat} {t : Sl} => startM_old (c := c) (i := i) (t := t) hk (show ds.length + 1 ≤ N.length by omega)
  have self : (startM N.length k c ds)[k]? = some (.own c true false) := by
    unfold startM
    have := start0_len (n := N.length - 1) (ds := ds) (by omega)
    rw [List.getElem?_insertIdx, if_neg (by omega), if_pos rfl, if_pos (by omega)]
  have A1 : ∀ {i : Nat}, i < N.length → (List.replicate N.length a)[i]? = some a := fun {i} hi => by rw [List.getElem?_replicate, if_pos hi]
  have st : ∀ {i : Nat} {v : V}, vs[i]? = some v → (L2.start N vs)[i]? = some (some v) := fun {i v} w => by
    have hi := (List.getElem?_eq_some_iff.mp w).1
    unfold L2.start
    rw [List.getElem?_append_left (by simpa using hi), List.getElem?_map, w]
    rfl
  refine ⟨start_len h, by rw [hl]; exact Nat.le_refl _, by rw [hl, List.length_replicate], Same.refl _, s, fun i d e => ?_, fun i d e => ?_, fun i c' p l e => ?_, fun i j c1 p1 l1 c2 p2 l2 a' e1 e2 _ _ => ?_, fun b o e => .inl e, fun b o e _ => e, fun q hq => ?_, fun i c' l a' e ha' => ?_, fun _ h => (List.not_mem_nil h).elim, fun i ls e => ?_⟩
  · rcases old e with ⟨_, z⟩ | ⟨ne, ⟨d', h1, h2⟩ | z⟩
    · cases z
    · cases h2
      obtain ⟨v, w1, w2⟩ := hz.get h1
      refine ⟨v, st ?_, w2⟩
      rw [List.getElem?_eraseIdx] at w1
      by_cases q : i < k
      · simp only [if_pos q] at w1
        exact w1
      · simp only [if_neg q] at w1
        rw [if_neg (by omega), show i - 1 + 1 = i by omega] at w1
        exact w1
    · cases z
  · rcases old e with ⟨_, z⟩ | ⟨_, ⟨d', _, z⟩ | z⟩ <;> cases z
  · rcases old e with ⟨ei, z⟩ | ⟨_, ⟨d', _, z⟩ | z⟩
    · cases z
      subst ei
      exact ⟨a, o, A1 (by omega), fun _ => st hv, ha, hH, hc, fun z => by cases z⟩
    · cases z
    · cases z
  · rcases old e1 with ⟨ei, _⟩ | ⟨_, ⟨d', _, z⟩ | z⟩
    · rcases old e2 with ⟨ej, _⟩ | ⟨_, ⟨d', _, z⟩ | z⟩
      · omega
      · cases z
      · cases z
    · cases z
    · cases z
  · have eq : q = (k, a) := List.mem_singleton.mp hq
    subst eq
    exact ⟨c, false, self, A1 (by show k < N.length; omega)⟩
  · rcases old e with ⟨ei, z⟩ | ⟨_, ⟨d', _, z⟩ | z⟩
    · cases z
      subst ei
      rw [A1 (by omega)] at ha'
      cases ha'
      exact List.mem_singleton.mpr rfl
    · cases z
    · cases z
  · rcases old e with ⟨_, z⟩ | ⟨_, ⟨d', _, z⟩ | z⟩ <;> cases z
section
variable {P : Program} {w : World} {K : PySem.W.Frag} {mg : Str → Option Value} {base : Heap}
/-- THE RULE for a def that changes its kk-th argument -/
theorem okM {x qual : Str} {st : Stmt} {f : Addr} {fd : FuncData} {N ps : List Str} {k kk : Nat} {s : SM} (F : Fun K x qual st f fd) (S : FnScope N ps (defScope st))
    (hbody : ∀ (cdv : Value) (A : Around) (outer : List Env) (s0 : Shared) (H : Hp) (E : XK), Room k (A.deeper (envOfC qual (defScope st) s0.heap.objs.size f cdv)) →
      ZSs (cxOf CX0 P w K mg base N qual (defScope st) f cdv A outer s0 H E).nox (defBody st) s) : FnOk P w K mg base CX0 (k + 1) f fd ps (spM K kk (runM N.length ps.length kk s)) := by
  have arity : ∀ vs H Q E, spM K kk (runM N.length ps.length kk s) vs H Q E → vs.length = ps.length := fun vs H Q E ⟨Hs, ds, c, c', a, o, fr, _, hv, hz, _, _, _, e, _⟩ => by
    unfold runM at e
    split at e
    · rename_i h
      have h2 := hz.length
      have hi := (List.getElem?_eq_some_iff.mp hv).1
      rw [List.length_eraseIdx, if_pos hi] at h2
      omega
    · cases e
  refine F.ok S arity (fun cdv A outer s0 H vs Q E hr h => ⟨_, hbody cdv A outer s0 H E hr, ?_⟩)
  have hal := arity vs H Q E h
  obtain ⟨Hs, ds, c, c', a, o, fr, sm, hv, hz, ha, hH, hc, e, q⟩ := h
  have hpl : ps.length ≤ N.length := by
    have := congrArg List.length S.pre
    rw [List.length_take] at this
    omega
  unfold runM at e
  split at e
  · rename_i hlk
    have ok := ok_startM (N := N) (by omega) (by omega) hlk.2 sm hv hz ha hH hc
    have done : ∀ {Hs' A' g' σ' H'}, Ok { K := K, n := N.length, H0 := H, Hs0 := Hs, pins := [(kk, a)], locks := [], plt := fun q h => by rw [List.mem_singleton.mp h]; show kk < N.length; omega, llt := fun _ h => (List.not_mem_nil h).elim } Hs' A' g' σ' H' → ∀ {c1 : Cn} {l1 : Bool}, g'[kk]? = some (.own c1 true l1) →
        (∀ b u, b ≠ a → H b = some u → H' b = some u) ∧ Same Hs' H' ∧ (∀ b o, Hs' b = some o → Hs b = some o ∨ H b = none) ∧ Hs' a = none ∧ ∃ o', H' a = some o' ∧ CnOk K Hs' c1 o' := fun {Hs' A' g' σ' H'} ok1 {c1 l1} hg => by
      refine ⟨fun b u ne e => ok1.keep b u e (fun q hq => by rw [List.mem_singleton.mp hq]; exact Ne.symm ne), ok1.same, ok1.grow, ?_⟩
      obtain ⟨c2, l2, w1, w2⟩ := ok1.pinned (kk, a) (List.mem_singleton.mpr rfl)
      obtain ⟨a', o', x1, _, x3, x4, x5, _⟩ := ok1.own _ _ _ _ hg
      have w2 : A'[kk]? = some a := w2
      rw [w2] at x1
      cases x1
      exact ⟨x3, o', x4, x5⟩
    revert e
    generalize hs : s (startM N.length kk c ds) = out
    intro e
    unfold finM at e
    split at e
    · rename_i r g'
      split at e
      · rename_i c1 l1 hg
        rw [Option.map_eq_some_iff] at e
        obtain ⟨fr1, hf, e⟩ := e
        cases e
        refine ⟨_, Hs, _, startM N.length kk c ds, .ret r, g', rfl, rfl, ok, hs, ?_⟩
        intro Hs' A' σ' H' v s1 ok1 rel1
        obtain ⟨z1, z2, z3, z4, o', z5, z6⟩ := done ok1 hg
        exact q v Hs' H' o' s1 z1 z2 z3 z4 z5 z6 (fin_ok ok1 rel1 hf)
      · cases e
    · rename_i g'
      split at e
      · rename_i c1 l1 hg
        cases e
        refine ⟨_, Hs, _, startM N.length kk c ds, .nx, g', rfl, rfl, ok, hs, ?_⟩
        intro Hs' A' σ' H' s1 ok1
        obtain ⟨z1, z2, z3, z4, o', z5, z6⟩ := done ok1 hg
        exact q .non Hs' H' o' s1 z1 z2 z3 z4 z5 z6 .non
      · cases e
    · cases e
  · cases e
end
def FR.scal : FR → Bool
  | .dat d => d.scal
  | .new c => c.scal
  | .newR _ => false
def noB (j : Nat) : R → Bool
  | .bor i => i != j
  | .dat _ => true
/-- what comes back, put by -/
def putFR (fr : FR) (g : G) : R × G := match fr with
  | .dat d => (.dat d, g)
  | .new c => (.bor g.length, g ++ [.own c false false])
  | .newR ls => (.bor g.length, g ++ [.rws ls])
def zCallM (kk : Nat) (f : Cn → List D → Option (FR × Cn)) (ma : ZAr) : ZM := fun g => do
  let (rs, g1) ← ma g
  match rs[kk]? with
  | some (.bor j) => match g1[j]? with
    | some (.own c p false) =>
      if (rs.eraseIdx kk).all (noB j) = true then do
        let ds ← rdAll g1 (rs.eraseIdx kk)
        let (fr, c') ← f c ds
        if (c'.scal && fr.scal) = true then some (putFR fr (g1.set j (.own c' p false))) else do
          let (ds2, g2) ← frzAll (rs.eraseIdx kk) g1
          match g2[j]? with
          | some (.own c2 p2 false) => do
            let (fr2, c2') ← f c2 ds2
            some (putFR fr2 (g2.set j (.own c2' p2 false)))
          | _ => none
      else none
    | _ => none
  | _ => none
/-- the heap without a -/
def Hp.no (H : Hp) (a : Addr) : Hp := fun b => if b = a then none else H b
theorem Hp.no_ne {H : Hp} {a b : Addr} (h : b ≠ a) : Hp.no H a b = H b := by unfold Hp.no; rw [if_neg h]
theorem Hp.no_self {H : Hp} {a : Addr} : Hp.no H a a = none := by unfold Hp.no; rw [if_pos rfl]
theorem rdAll_no {C : Ct} {Hs : Hp} {A : List Addr} {g : G} {σ : L2.St} {H : Hp} {j : Nat} {c : Cn} {p l : Bool} {a : Addr} (ok : Ok C Hs A g σ H) (hg : g[j]? = some (.own c p l)) (ha : A[j]? = some a) : ∀ {vs : List V} {rs : List R} {ds : List D}, RelRs C.K Hs A vs rs → rs.all (noB j) = true → rdAll g rs = some ds → DzA C.K (Hp.no H a) vs ds
  | [], [], ds, _, _, e => by cases e; exact .nil
  | v :: vs, r :: rs, ds, h, nb, e => by
    unfold rdAll at e
    simp only [Option.bind_eq_bind, Option.bind_eq_some_iff] at e
    obtain ⟨d, h1, ds', h2, e⟩ := e
    cases e
    rw [List.all_cons, Bool.and_eq_true] at nb
    obtain ⟨a0, o0, q1, q2, q3, q4, q5, q6⟩ := ok.own j c _ _ hg
    rw [ha] at q1
    cases q1
    have sm : Same Hs (Hp.no H a) := fun b o e => by
      rw [Hp.no_ne (fun z => by rw [z, q3] at e; cases e)]
      exact ok.same b o e
    refine .cons ?_ (rdAll_no ok hg ha h.2 nb.2 h2)
    cases r with
    | dat d' =>
      cases h1
      exact Dz.mono sm (show Dz C.K Hs v d from h.1)
    | bor i =>
      obtain ⟨a1, h3, rfl⟩ := (show ∃ a, A[i]? = some a ∧ v = .ref a from h.1)
      have h1 : (match g[i]? with
        | some (.own c _ _) => some c.d
        | some (.frz d) => some d
        | some (.rws ls) => some (.lst (ls.map D.lst))
        | _ => none) = some d := h1
      split at h1
      · rename_i c1 p1 l1 hg1
        cases h1
        obtain ⟨a2, o2, w1, _, w3, w4, w5, _⟩ := ok.own i c1 p1 l1 hg1
        rw [h3] at w1
        cases w1
        have ne : a1 ≠ a := fun z => by
          subst z
          have := ok.inj i j _ _ _ _ _ _ a1 hg1 hg h3 ha
          have nb1 : (i != j) = true := nb.1
          rw [this] at nb1
          simp at nb1
        exact (w5.mono sm).dz (by rw [Hp.no_ne ne]; exact w4)
      · rename_i d1 hg1
        cases h1
        obtain ⟨a2, w1, _, w3⟩ := ok.frz i _ hg1
        rw [h3] at w1
        cases w1
        exact w3.mono sm
      · rename_i ls hg1
        cases h1
        obtain ⟨a2, ks, w1, _, w3, w4, _⟩ := ok.rws i _ hg1
        rw [h3] at w1
        cases w1
        have nm := w4 j c p l a hg ha
        have nx : ∀ x ∈ a1 :: ks, x ≠ a := fun x m z => nm (z ▸ m)
        exact .lst (SqL.of (by rw [Hp.no_ne (nx a1 List.mem_cons_self)]; exact w3.hd)) (KdOk.dz sm (w3.kd.move (Same.refl _) fun x m o h => by rw [Hp.no_ne (nx x (List.mem_cons_of_mem _ m))]; exact h))
      · cases h1
  | [], _ :: _, _, h, _, _ => h.elim
  | _ :: _, [], _, h, _, _ => h.elim
theorem RelRs.get {K : PySem.W.Frag} {Hs : Hp} {A : List Addr} : ∀ {vs : List V} {rs : List R} {i : Nat} {r : R}, RelRs K Hs A vs rs → rs[i]? = some r → ∃ v, vs[i]? = some v ∧ RelR K Hs A v r
  | [], [], _, _, _, e => by simp at e
  | v :: vs, r :: rs, 0, _, h, e => by simp at e; subst e; exact ⟨v, rfl, h.1⟩
  | v :: vs, r :: rs, i + 1, _, h, e => by
    obtain ⟨x, h1, h2⟩ := RelRs.get (i := i) h.2 (by simpa using e)
    exact ⟨x, by simpa using h1, h2⟩
  | [], _ :: _, _, _, h, _ => h.elim
  | _ :: _, [], _, _, h, _ => h.elim
theorem RelRs.erase {K : PySem.W.Frag} {Hs : Hp} {A : List Addr} : ∀ {vs : List V} {rs : List R} (i : Nat), RelRs K Hs A vs rs → RelRs K Hs A (vs.eraseIdx i) (rs.eraseIdx i)
  | [], [], _, _ => trivial
  | v :: vs, r :: rs, 0, h => h.2
  | v :: vs, r :: rs, i + 1, h => ⟨h.1, RelRs.erase i h.2⟩
  | [], _ :: _, _, h => h.elim
  | _ :: _, [], _, h => h.elim
/-- the container at j was changed by a call, things were laid -/
theorem Ok.wrS {C : Ct} {Hs Hs' : Hp} {A : List Addr} {g : G} {σ : L2.St} {H H' : Hp} {j : Nat} {c c' : Cn} {p : Bool} {a : Addr} {o' : HO} (ok : Ok C Hs A g σ H) (hg : g[j]? = some (.own c p false)) (ha : A[j]? = some a)
    (s1 : Same Hs Hs') (kp : ∀ b u, b ≠ a → H b = some u → H' b = some u) (s2 : ∀ b u, b ≠ a → Hs' b = some u → H' b = some u) (gr : ∀ b o, Hs' b = some o → Hs b = some o ∨ H b = none) (hn : Hs' a = none) (e : H' a = some o') (hc : CnOk C.K Hs' c' o') : Ok C Hs' A (g.set j (.own c' p false)) σ H' := by
  obtain ⟨a0, o, q1, q2, q3, q4, q5, q6⟩ := ok.own j c _ _ hg
  rw [ha] at q1
  cases q1
  have ok1 : Ok C Hs' A g σ (upd H' a o) := by
    refine ok.moreS (fun b u q => ?_) s1 (fun b u q => ?_) gr
    · by_cases z : b = a
      · subst z; rw [upd_same, ← q, q4]
      · rw [upd_ne z]; exact kp b u z q
    · have z : b ≠ a := fun z => by rw [z, hn] at q; cases q
      rw [upd_ne z]
      exact s2 b u z q
  have ok2 := ok1.wr (o := o') hg ha hc
  have : upd (upd H' a o) a o' = H' := by
    funext b
    by_cases z : b = a
    · subst z; rw [upd_same, e]
    · rw [upd_ne z, upd_ne z]
  rw [this] at ok2
  exact ok2
theorem putFR_ok {C : Ct} {Hs Hs' : Hp} {A : List Addr} {g : G} {σ : L2.St} {H H' : Hp} {j : Nat} {c c' : Cn} {p : Bool} {a : Addr} {o' : HO} {fr : FR} {v : V} {r : R} {g' : G} (ok : Ok C Hs A g σ H) (hg : g[j]? = some (.own c p false)) (ha : A[j]? = some a)
    (s1 : Same Hs Hs') (kp : ∀ b u, b ≠ a → H b = some u → H' b = some u) (s2 : Same Hs' H') (gr : ∀ b o, Hs' b = some o → Hs b = some o ∨ H b = none) (hn : Hs' a = none) (e : H' a = some o') (hc : CnOk C.K Hs' c' o') (hf : RelF C.K Hs' H H' v fr) (hp : putFR fr (g.set j (.own c' p false)) = (r, g')) :
    ∃ A', Pre A A' ∧ Ok C Hs' A' g' σ H' ∧ RelR C.K Hs' A' v r := by
  cases fr with
  | dat d =>
    cases hp
    exact ⟨A, Pre.refl _, ok.wrS hg ha s1 kp (fun b u _ q => s2 b u q) gr hn e hc, hf⟩
  | new c2 =>
    cases hp
    obtain ⟨a2, o2, rfl, w1, w2, w3, w4⟩ := hf
    obtain ⟨a0, o, q1, q2, q3, q4, q5, q6⟩ := ok.own j c _ _ hg
    rw [ha] at q1
    cases q1
    have ne : a2 ≠ a := fun z => by rw [z, q4] at w1; cases w1
    have ok1 : Ok C Hs' A (g.set j (.own c' p false)) σ (Hp.no H' a2) := ok.wrS hg ha s1 (fun b u nb q => by rw [Hp.no_ne (fun z => by rw [z, w1] at q; cases q)]; exact kp b u nb q) (fun b u _ q => by rw [Hp.no_ne (fun z => by rw [z, w2] at q; cases q)]; exact s2 b u q) gr hn (by rw [Hp.no_ne (Ne.symm ne)]; exact e) hc
    refine ⟨A ++ [a2], Pre.app _ _, ok1.adopt (H' := H') (a := a2) Hp.no_self (fun b u q => ?_) w3 w4, ok1.tmpR a2⟩
    by_cases z : b = a2
    · rw [z, Hp.no_self] at q; cases q
    · rw [Hp.no_ne z] at q; exact q
  | newR ls =>
    cases hp
    obtain ⟨a2, ks, rfl, w⟩ := hf
    have ok1 : Ok C Hs' A (g.set j (.own c' p false)) σ H' := ok.wrS hg ha s1 kp (fun b u _ q => s2 b u q) gr hn e hc
    refine ⟨A ++ [a2], Pre.app _ _, ok1.addR (w.low fun x m => (ok.fresh0 (w.fr x m).2).2) (fun k c2 p2 l2 b e1 e2 m => ?_) (fun k ms b x e1 e2 m1 m2 => ?_), ok1.tmpR a2⟩
    · rcases set_some e1 with ⟨ek, _, _⟩ | ⟨_, e1⟩
      · subst ek
        exact ok.deadO hg e2 (w.fr b m).2
      · exact ok.deadO e1 e2 (w.fr b m).2
    · rcases set_some e1 with ⟨_, e1, _⟩ | ⟨_, e1⟩
      · cases e1
      · refine ok.deadR e1 e2 ?_ (w.fr x m2).2
        obtain ⟨a3, ks3, r1, _, r3, r4, _⟩ := ok.rws k ms e1
        rw [e2] at r1
        cases r1
        have ne : b ≠ a := fun z => r4 j c p false a hg ha (by rw [z]; exact List.mem_cons_self)
        rw [kp _ _ ne r3.hd, ← r3.hd] at m1
        exact m1
section
variable {X : Cx} {kk : Nat} {f : Cn → List D → Option (FR × Cn)} {ma : ZAr}
theorem callM_of {σ : L2.St} {H : Hp} {Q : VK} {E : XK} (h : tZ X.K X.N.length (zCallM kk f ma) σ H Q) : tCall (spM X.K kk f) [] E (tZA X.K X.N.length ma) σ H Q := by
  obtain ⟨C, Hs, A, g, r, g', hK, hn, ok, e, q⟩ := h
  unfold zCallM at e
  simp only [Option.bind_eq_bind, Option.bind_eq_some_iff] at e
  obtain ⟨⟨rs, g1⟩, h1, e⟩ := e
  refine ⟨C, Hs, A, g, rs, g1, hK, hn, ok, h1, fun Hs1 A1 vs H1 s1 p1 ok1 rel1 => ?_⟩
  show spM X.K kk f (vs ++ []) H1 Q E
  rw [List.append_nil]
  dsimp only at e
  split at e
  · rename_i j hj
    split at e
    · rename_i c p hg
      split at e
      · rename_i hnb
        simp only [Option.bind_eq_some_iff] at e
        obtain ⟨ds, h2, ⟨fr, c'⟩, h3, e⟩ := e
        obtain ⟨v, hv, rv⟩ := rel1.get hj
        obtain ⟨a, hA, rfl⟩ := (show ∃ a, A1[j]? = some a ∧ v = .ref a from rv)
        obtain ⟨a0, o, q1, q2, q3, q4, q5, q6⟩ := ok1.own j c _ _ hg
        rw [hA] at q1
        cases q1
        have sm : Same Hs1 (Hp.no H1 a) := fun b o e => by
          rw [Hp.no_ne (fun z => by rw [z, q3] at e; cases e)]
          exact ok1.same b o e
        dsimp only at e
        split at e
        · rename_i hsc
          rw [Bool.and_eq_true] at hsc
          have hz := rdAll_no ok1 hg hA (rel1.erase kk) hnb h2
          refine ⟨Hp.no H1 a, ds, c, c', a, o, fr, fun b u q => ?_, hv, by rw [← hK]; exact hz, Hp.no_self, q4, by rw [← hK]; exact q5.mono sm, h3, fun v Hs' H' o' sS kp sP gr hn' he hc hf => ?_⟩
          · by_cases z : b = a
            · rw [z, Hp.no_self] at q; cases q
            · rw [Hp.no_ne z] at q; exact q
          · have hc1 : CnOk C.K Hs1 c' o' := by rw [hK]; exact hc.any hsc.1
            have hf1 : RelF C.K Hs1 H1 H' v fr := by
              cases fr with
              | dat d => exact (show Dz C.K Hs' v d by rw [hK]; exact hf).any hsc.2
              | new c2 =>
                obtain ⟨a2, o2, w0, w1, w2, w3, w4⟩ := hf
                refine ⟨a2, o2, w0, w1, ?_, w3, by rw [hK]; exact w4.any hsc.2⟩
                cases z : Hs1 a2 with
                | none => rfl
                | some u => have := ok1.same a2 u z; rw [w1] at this; cases this
              | newR _ => exact absurd hsc.2 (by simp [FR.scal])
            have s11 : ∀ b u, Hs1 b = some u → H' b = some u := fun b u q => kp b u (fun z => by rw [z, q3] at q; cases q) (ok1.same b u q)
            cases hp : putFR fr (g1.set j (.own c' p false)) with
            | mk r2 g2 =>
            rw [hp] at e
            cases e
            obtain ⟨A2, pre, ok2, rel2⟩ := putFR_ok ok1 hg hA (Same.refl _) kp s11 (fun b o e => .inl e) q3 he hc1 hf1 hp
            exact q Hs1 A2 v H' s1 (p1.trans pre) ok2 rel2
        · simp only [Option.bind_eq_some_iff] at e
          obtain ⟨⟨ds2, g2⟩, h4, e⟩ := e
          obtain ⟨Hs2, s2, ok2, z2⟩ := frzAll_ok ok1 (rel1.erase kk) h4
          dsimp only at e
          split at e
          · rename_i c2 p2 hg2
            simp only [Option.bind_eq_some_iff] at e
            obtain ⟨⟨fr2, c2'⟩, h5, e⟩ := e
            obtain ⟨a0, o2, y1, y2, y3, y4, y5, y6⟩ := ok2.own j c2 _ _ hg2
            rw [hA] at y1
            cases y1
            refine ⟨Hs2, ds2, c2, c2', a, o2, fr2, ok2.same, hv, by rw [← hK]; exact z2, y3, y4, by rw [← hK]; exact y5, h5, fun v Hs' H' o' sS kp sP gr hn' he hc hf => ?_⟩
            dsimp only at e
            cases hp : putFR fr2 (g2.set j (.own c2' p2 false)) with
            | mk r3 g3 =>
            rw [hp] at e
            cases e
            obtain ⟨A3, pre, ok3, rel3⟩ := putFR_ok ok2 hg2 hA sS kp sP gr hn' he (by rw [hK]; exact hc) (by rw [hK]; exact hf) hp
            exact q Hs' A3 v H' ((s1.trans s2).trans sS) (p1.trans pre) ok3 rel3
          · cases e
      · cases e
    · cases e
  · cases e
theorem ze_callM {k : Nat} {x : Str} {p pos : Pos} {e : Expr} {es : List Expr} (c : Cal X.prog X.w X.K X.mg X.base k x (spM X.K kk f)) (hr : Room k X.A) (ha : ZAs X (e :: es) ma) (hg : Gl X x := by rfl)
    (hdb : (x == ("__debug__" : Str)) = false := by decide) (he : starEach (e :: es) X.env = (false, eval e X.env) :: starEach es X.env := by rfl) (hpl : (backTo pos (starEach es X.env)).any (·.1) = false := by rfl) :
    ZE X (.Call (.Name x p) (e :: es) [] pos) (zCallM kk f ma) := by
  obtain ⟨fa, fd, ps, h1, h2, h3, h4⟩ := c
  exact PE.of (pe_call (E := E0) h4 hr hg h1 h2 h3 .nil pass0 ha hdb he hpl) fun σ H Q h => callM_of h
end
end Z
set_option Elab.async false
set_option linter.all false
set_option maxRecDepth 100000
set_option maxHeartbeats 4000000
namespace Z
open PySem PySem.Spec PyProof.Rows L2
theorem wipe_get (σ : L2.St) : ∀ (vs : List Nat) (i : Nat), (wipe σ vs)[i]? = if i ∈ vs ∧ i < σ.length then some none else σ[i]?
  | [], i => by simp [wipe]
  | v :: vs, i => by
    unfold wipe
    by_cases h : i = v
    · subst h
      by_cases hl : i < σ.length
      · rw [List.getElem?_set_self (by rw [wipe_length]; exact hl), if_pos ⟨List.mem_cons_self, hl⟩]
      · rw [List.getElem?_eq_none (by rw [List.length_set, wipe_length]; omega), if_neg (by omega), List.getElem?_eq_none (by omega)]
    · rw [List.getElem?_set_ne (Ne.symm h), wipe_get σ vs i]
      have : (i ∈ v :: vs) ↔ i ∈ vs := by simp [h]
      simp only [this]
theorem wipe_set {σ : L2.St} {vs : List Nat} {i : Nat} {x : Option V} (h : i ∈ vs) : wipe (σ.set i x) vs = wipe σ vs := by
  refine List.ext_getElem? fun j => ?_
  rw [wipe_get, wipe_get, List.length_set]
  by_cases hj : j ∈ vs ∧ j < σ.length
  · rw [if_pos hj, if_pos hj]
  · rw [if_neg hj, if_neg hj]
    by_cases e : i = j
    · subst e
      have : ¬ i < σ.length := fun z => hj ⟨h, z⟩
      rw [List.getElem?_eq_none (by rw [List.length_set]; omega), List.getElem?_eq_none (by omega)]
    · rw [List.getElem?_set_ne e]
theorem wipe_out {σ : L2.St} {vs : List Nat} {i : Nat} (h : i ∉ vs) : (wipe σ vs)[i]? = σ[i]? := by rw [wipe_get, if_neg (fun z => h z.1)]
def wipeG (g : G) : List Nat → G
  | [] => g
  | v :: vs => (wipeG g vs).set v .un
theorem wipeG_len (g : G) : ∀ vs : List Nat, (wipeG g vs).length = g.length
  | [] => rfl
  | v :: vs => by unfold wipeG; rw [List.length_set, wipeG_len g vs]
theorem wipeG_some {g : G} : ∀ {vs : List Nat} {i : Nat} {s : Sl}, (wipeG g vs)[i]? = some s → s = .un ∨ (i ∉ vs ∧ g[i]? = some s)
  | [], i, s, h => .inr ⟨by simp, h⟩
  | v :: vs, i, s, h => by
    unfold wipeG at h
    rcases set_some h with ⟨_, e, _⟩ | ⟨ne, h⟩
    · exact .inl e
    · rcases wipeG_some h with e | ⟨e1, e2⟩
      · exact .inl e
      · exact .inr ⟨by simp [ne, e1], e2⟩
theorem wipeG_out {g : G} : ∀ {vs : List Nat} {i : Nat}, i ∉ vs → (wipeG g vs)[i]? = g[i]?
  | [], i, _ => rfl
  | v :: vs, i, h => by
    unfold wipeG
    simp only [List.mem_cons, not_or] at h
    rw [List.getElem?_set_ne (Ne.symm h.1), wipeG_out h.2]
def freeAll (g : G) (vs : List Nat) : Bool := vs.all fun v => freeAt v g
theorem freeAll_at {g : G} {vs : List Nat} (h : freeAll g vs = true) {v : Nat} (hv : v ∈ vs) : freeAt v g = true := List.all_eq_true.mp h v hv
/-- slots forgotten; σ may change there -/
theorem Ok.puts {C : Ct} {Hs : Hp} {A : List Addr} {g : G} {σ σ' : L2.St} {H : Hp} {vs : List Nat} (ok : Ok C Hs A g σ H) (hf : freeAll g vs = true) (hl : σ'.length = σ.length) (hσ : ∀ i, i ∉ vs → σ'[i]? = σ[i]?) : Ok C Hs A (wipeG g vs) σ' H := by
  have no : ∀ {i : Nat} {c : Cn} {p l : Bool}, (wipeG g vs)[i]? = some (.own c p l) → i ∉ vs ∧ g[i]? = some (.own c p l) := fun {i c p l} e => by
    rcases wipeG_some e with z | z
    · cases z
    · exact z
  refine ⟨hl.trans ok.ln, by rw [wipeG_len]; exact ok.lg, by rw [wipeG_len]; exact ok.la, ok.base, ok.same, fun i d e => ?_, fun i d e => ?_, fun i c p l e => ?_, fun i k c1 p1 l1 c2 p2 l2 a' e1 e2 h1 h2 => ok.inj i k _ _ _ _ _ _ a' (no e1).2 (no e2).2 h1 h2, ok.grow, ok.keep, fun q hq => ?_, fun i c' l a' e ha => ok.pin1 i c' l a' (no e).2 ha, fun q hq => ?_, ?_⟩
  · rcases wipeG_some e with z | ⟨z1, z2⟩
    · cases z
    · rw [hσ i z1]; exact ok.dat i d z2
  · rcases wipeG_some e with z | ⟨z1, z2⟩
    · cases z
    · rw [hσ i z1]; exact ok.frz i d z2
  · obtain ⟨z1, z2⟩ := no e
    rw [hσ i z1]; exact ok.own i c p l z2
  · obtain ⟨c', l, h1, h2⟩ := ok.pinned q hq
    refine ⟨c', l, ?_, h2⟩
    rw [wipeG_out (fun z => freeAt_pin (freeAll_at hf z) h1)]
    exact h1
  · obtain ⟨p, h1, h2⟩ := ok.locked q hq
    refine ⟨p, ?_, h2⟩
    rw [wipeG_out (fun z => freeAt_lock (freeAll_at hf z) h1)]
    exact h1
  · refine RwOk.step ok.rws rfl rfl (Same.refl _) (fun x u ex n1 n2 _ => ⟨ex, n1, n2⟩) (fun i ls e => ?_) (fun i c' p l b e hb => .inl ⟨i, c', p, l, (no e).2, hb⟩)
    rcases wipeG_some e with z | ⟨z1, z2⟩
    · cases z
    · exact ⟨z2, rfl, fun _ => hσ i z1⟩
/-- what was held aside beyond m is dropped -/
theorem Ok.cutM {C : Ct} {Hs : Hp} {A : List Addr} {g : G} {σ : L2.St} {H : Hp} {m : Nat} (ok : Ok C Hs A g σ H) (hm : C.n ≤ m) : Ok C Hs (A.take m) (g.take m) σ H := by
  have tk : ∀ {α : Type} {l : List α} {i : Nat} {s : α}, (l.take m)[i]? = some s → i < m ∧ l[i]? = some s := fun {α l i s} e => by
    by_cases h : i < m
    · rw [List.getElem?_take_of_lt h] at e; exact ⟨h, e⟩
    · have := (List.getElem?_eq_some_iff.mp e).1
      rw [List.length_take] at this; omega
  have kt : ∀ {α : Type} {l : List α} {i : Nat} {s : α}, i < m → l[i]? = some s → (l.take m)[i]? = some s := fun {α l i s} h e => by
    rw [List.getElem?_take_of_lt h]; exact e
  refine ⟨ok.ln, by rw [List.length_take]; have := ok.lg; omega, by rw [List.length_take, List.length_take, ok.la], ok.base, ok.same, fun i d e => ok.dat i d (tk e).2, fun i d e => ?_, fun i c' p l e => ?_, fun i k c1 p1 l1 c2 p2 l2 a' e1 e2 h1 h2 => ok.inj i k _ _ _ _ _ _ a' (tk e1).2 (tk e2).2 (tk h1).2 (tk h2).2, ok.grow, ok.keep, fun q hq => ?_, fun i c' l a' e ha => ok.pin1 i c' l a' (tk e).2 (tk ha).2, fun q hq => ?_, RwOk.step ok.rws rfl rfl (Same.refl _) (fun x u ex n1 n2 _ => ⟨ex, n1, n2⟩) (fun i ls e => ⟨(tk e).2, List.getElem?_take_of_lt (tk e).1, fun _ => rfl⟩) (fun i c' p l b e hb => .inl ⟨i, c', p, l, (tk e).2, (tk hb).2⟩)⟩
  · obtain ⟨a, q1, q2⟩ := ok.frz i d (tk e).2
    exact ⟨a, kt (tk e).1 q1, q2⟩
  · obtain ⟨a, o, q1, q2⟩ := ok.own i c' p l (tk e).2
    exact ⟨a, o, kt (tk e).1 q1, q2⟩
  · obtain ⟨c', l, h1, h2⟩ := ok.pinned q hq
    have := C.plt q hq
    exact ⟨c', l, kt (by omega) h1, kt (by omega) h2⟩
  · obtain ⟨p, h1, h2⟩ := ok.locked q hq
    have := C.llt q hq
    exact ⟨p, kt (by omega) h1, kt (by omega) h2⟩
def tZGw (K : PySem.W.Frag) (n : Nat) (vs : List Nat) (tg : TD) : TG := fun v σ H Q => ∃ (C : Ct) (Hs : Hp) (A : List Addr) (g : G) (d : D) (g' : G), C.K = K ∧ C.n = n ∧ Ok C Hs A g σ H ∧ Dz K Hs v d ∧ tg d g = some g' ∧
  ∀ (σ' : L2.St), wipe σ' vs = wipe σ vs → Ok C Hs A g' σ' H → Q σ' H
abbrev ZGw (X : Cx) (vs : List Nat) (e : Expr) (tg : TD) : Prop := PG X e (tZGw X.K X.N.length vs tg)
def tZGws (K : PySem.W.Frag) (n : Nat) (vs : List Nat) (tg : TDs) : TGs := fun us σ H Q => ∃ (C : Ct) (Hs : Hp) (A : List Addr) (g : G) (ds : List D) (g' : G), C.K = K ∧ C.n = n ∧ Ok C Hs A g σ H ∧ DzA K Hs us ds ∧ tg ds g = some g' ∧
  ∀ (σ' : L2.St), wipe σ' vs = wipe σ vs → Ok C Hs A g' σ' H → Q σ' H
abbrev ZGws (X : Cx) (vs : List Nat) (es : List Expr) (tg : TDs) : Prop := PGs X es (tZGws X.K X.N.length vs tg)
section
variable {X : Cx} {pos : Pos} {vs : List Nat}
theorem zgw_name {i : Nat} {x : Str} (hN : X.N.Nodup) (hi : X.N[i]? = some x) (hx : Loc X.env.scope x) (hv : i ∈ vs) (hf : X.fn x = true ∨ X.env.scope.names.lookup x = some .local := by first | exact .inl rfl | exact .inr rfl | assumption) : ZGw X vs (.Name x pos) (gN i) := by
  refine PG.of (pg_name hN hi hx hf) fun v σ H Q ⟨C, Hs, A, g, d, g', hK, hn, ok, hd, e, q⟩ => ?_
  rw [← hK] at hd
  exact q _ (wipe_set hv) (ok.set e (by rw [hn]; exact (List.getElem?_eq_some_iff.mp hi).1) hd)
theorem zgws_nil : ZGws X vs [] gNil' := by
  refine PGs.of pgs_nil fun us σ H Q ⟨C, Hs, A, g, ds, g', hK, hn, ok, hd, e, q⟩ => ?_
  cases ds with
  | nil =>
    cases hd
    cases e
    exact ⟨rfl, q σ rfl ok⟩
  | cons _ _ => cases e
theorem zgws_cons {e : Expr} {es : List Expr} {t : TD} {u : TDs} (h1 : ZGw X vs e t) (h2 : ZGws X vs es u)
    (hs : (assignEach (e :: es) X.env).map (·.2) = assign e X.env :: (assignEach es X.env).map (·.2) := by rfl) : ZGws X vs (e :: es) (gCons' t u) := by
  refine PGs.of (pgs_cons h1 h2 hs) fun us σ H Q ⟨C, Hs, A, g, ds, g', hK, hn, ok, hd, e, q⟩ => ?_
  cases hd with
  | nil => cases e
  | cons h1 h2 =>
    simp only [gCons', Option.bind_eq_bind, Option.bind_eq_some_iff] at e
    obtain ⟨g1, e1, e2⟩ := e
    exact ⟨_, _, rfl, C, Hs, A, g, _, g1, hK, hn, ok, h1, e1, fun σ1 w1 ok1 => ⟨C, Hs, A, g1, _, g', hK, hn, ok1, h2, e2, fun σ2 w2 ok2 => q σ2 (w2.trans w1) ok2⟩⟩
theorem zgw_tup {es : List Expr} {j : Nat} {t : TDs} {k : Nat} (hc : X.calm = true) (h : ZGws X vs es t)
    (hn : (assignEach es X.env).length = k := by rfl) (hst : (assignEach es X.env).findIdx? (·.1) = none := by rfl) : ZGw X vs (.Tuple es j pos) (gT k t) := by
  refine PG.of (pg_tup hc h hn hst) fun v σ H Q ⟨C, Hs, A, g, d, g', hK, hn, ok, hd, e, q⟩ => ?_
  cases hd with
  | tup hs ha =>
    simp only [gT] at e
    split at e
    · rename_i hl
      exact ⟨_, _, rfl, sameT ok.same hs, by rw [ha.length]; exact hl, C, Hs, A, g, _, g', hK, hn, ok, ha, e, q⟩
    · cases e
  | _ => cases e
def zYes : ZT := fun g => some (true, g)
abbrev ZTs (X : Cx) (es : List Expr) (m : ZT) : Prop := PTs X es (tZT X.K X.N.length m)
theorem zts_nil : ZTs X [] zYes := ⟨fun pins s σ H Q I ⟨C, Hs, A, g, b, g', hK, hn, ok, e, q⟩ => pts_nil.run pins s σ H Q I (by
  cases e
  exact q Hs A H (Same.refl _) (Pre.refl _) ok)⟩
theorem zts_one {c : Expr} {t : ZT} (h : ZTe X c t) : ZTs X [c] t := ⟨fun pins s σ H Q I q => (pts_one h).run pins s σ H Q I q⟩
end
def lcL (tg : TD) (tt : ZT) (el : ZM) (vs : List Nat) (t : Nat) : List D → G → Option G
  | [], g => if freeAll g vs = true then some g else none
  | x :: xs, g => if freeAll g vs = true then do
      let g1 ← tg x (wipeG g vs)
      let (b, g2) ← tt g1
      if b = true then do
        let (r, g3) ← el g2
        let (d, g4) ← frzR r g3
        match g4[t]? with
        | some (.own (.lst acc) false false) => if acc.length < sizeLine then lcL tg tt el vs t xs ((g4.set t (.own (.lst (acc ++ [d])) false false)).take (t + 1)) else none
        | _ => none
      else lcL tg tt el vs t xs (g2.take (t + 1))
    else none
def zLc (mi : MI) (tg : TD) (tt : ZT) (el : ZM) (vs : List Nat) : ZM := fun g => do
  let (L, lk, g1) ← mi g
  match lk with
  | none => do
    let g3 ← lcL tg tt el vs g1.length L (g1 ++ [Sl.own (.lst []) false false])
    some (.bor g1.length, wipeG g3 vs)
  | some j => match g1[j]? with
    | some (.own c p l) => do
      let g3 ← lcL tg tt el vs g1.length L ((g1 ++ [Sl.own (.lst []) false false]).set j (.own c p true))
      some (.bor g1.length, unlk j l (wipeG g3 vs))
    | _ => none
theorem lc_of {tgd : TD} {tt : ZT} {el : ZM} {vs : List Nat} {C : Ct} {Hs1 : Hp} {A1 : List Addr} {g1 g3 : G} {σ : L2.St} {H1 : Hp} {L : List D} {J : It} {lk' : Option (Addr × Cn)} {K : PySem.W.Frag} {n t : Nat} {D0 : Addr} {Qd : Hp → Prop} (hK : C.K = K) (hn : C.n = n) (ht : C.n ≤ t)
    (ok : Ok C Hs1 A1 g1 σ H1) (hA : A1[t]? = some D0) (hAl : A1.length = t + 1) (jw : JW K J L (Src K Hs1 lk')) (hl : ∀ a c, lk' = some (a, c) → ∃ j, (j, a, c) ∈ C.locks) (e : lcL tgd tt el vs t L g1 = some g3)
    (q : ∀ Hs A H, Same Hs1 Hs → Ok C Hs A (wipeG g3 vs) σ H → Pre A1 A → Qd H) :
    ∃ W : Nat → Nat → Hp → Prop, (∃ m, W 0 m H1) ∧ ∀ i m H, W i m H → (J.stop i H ∧ Qd H) ∨ (J.go i H ∧ ∃ Nx : Hp → Prop, (∀ H', Nx H' → ∃ m', m' < m ∧ W (i + 1) m' H') ∧ ∀ x H', J.yld i H x H' → tZGw K n vs tgd x (wipe σ vs) H' fun σ2 H2 => wipe σ2 vs = wipe σ vs ∧ tZT K n tt σ2 H2 fun b H3 =>
      if b = true then tZ K n el σ2 H3 fun y H4 => ∃ acc, H4 D0 = some (.lst acc) ∧ acc.length < sizeLine ∧ Nx (upd H4 D0 (.lst (acc ++ [y]))) else Nx H3) := by
  have src : ∀ {Hs A g σ H}, Same Hs1 Hs → Ok C Hs A g σ H → Src K Hs1 lk' Hs H := fun {Hs A g σ H} s ok => by
    cases lk' with
    | none => exact ⟨s, ok.same⟩
    | some ac =>
      obtain ⟨a, c⟩ := ac
      obtain ⟨j, hj⟩ := hl a c rfl
      obtain ⟨p, h1, h2⟩ := ok.locked _ hj
      obtain ⟨a', o, w1, _, _, w4, w5, _⟩ := ok.own j c p true h1
      have : some a = some a' := h2.symm.trans w1
      cases this
      exact ⟨o, w4, by rw [← hK]; exact w5⟩
  have ptk : ∀ {A : List Addr}, Pre A1 A → Pre A1 (A.take (t + 1)) := fun {A} h j a e => by
    have := (List.getElem?_eq_some_iff.mp e).1
    rw [List.getElem?_take_of_lt (by omega)]
    exact h j a e
  refine ⟨fun i m H => m = L.length - i ∧ i ≤ L.length ∧ ∃ Hs A g σ', wipe σ' vs = wipe σ vs ∧ σ'.length = σ.length ∧ Same Hs1 Hs ∧ Ok C Hs A g σ' H ∧ Pre A1 A ∧ lcL tgd tt el vs t (L.drop i) g = some g3, ⟨L.length, by simp, Nat.zero_le _, Hs1, A1, g1, σ, rfl, rfl, Same.refl _, ok, Pre.refl _, by simpa using e⟩, ?_⟩
  rintro i m H ⟨rfl, hi, Hs, A, g, σ', hw, hlen, s, ok, hP, e⟩
  by_cases hlt : i < L.length
  · refine .inr ⟨jw.go Hs H i (src s ok) hlt, ?_⟩
    rw [List.drop_eq_getElem_cons hlt] at e
    simp only [lcL] at e
    split at e
    · rename_i hfr
      simp only [Option.bind_eq_bind, Option.bind_eq_some_iff] at e
      obtain ⟨ga, e1, ⟨b, gb⟩, e2, e3⟩ := e
      have okw : Ok C Hs A (wipeG g vs) (wipe σ vs) H := ok.puts hfr (by rw [wipe_length, hlen]) (fun i hi => by rw [← hw]; exact wipe_out hi)
      refine ⟨fun H' => ∃ Hs' A' g' σ2, wipe σ2 vs = wipe σ vs ∧ σ2.length = σ.length ∧ Same Hs1 Hs' ∧ Ok C Hs' A' g' σ2 H' ∧ Pre A1 A' ∧ lcL tgd tt el vs t (L.drop (i + 1)) g' = some g3, fun H' ⟨Hs', A', g', σ2, w1, w2, w3, w4, w5, w6⟩ => ⟨L.length - (i + 1), by omega, rfl, hlt, Hs', A', g', σ2, w1, w2, w3, w4, w5, w6⟩, fun x H' y => ?_⟩
      obtain ⟨d, Hs', hd, s', ok', dz⟩ := jw.yld C Hs A _ _ H i x H' hK okw (src s ok) hlt y
      rw [List.getElem?_eq_getElem hlt] at hd
      cases hd
      refine ⟨C, Hs', A, _, _, ga, hK, hn, ok', dz, e1, fun σ2 hw2 ok2 => ?_⟩
      have hw3 : wipe σ2 vs = wipe σ vs := by
        rw [hw2]
        refine List.ext_getElem? fun j => ?_
        rw [wipe_get, wipe_get, wipe_length]
        by_cases hj : j ∈ vs ∧ j < σ.length
        · simp only [if_pos hj]
        · simp only [if_neg hj]
      have hl2 : σ2.length = σ.length := by have := ok2.ln; have := ok.ln; omega
      refine ⟨hw3, C, Hs', A, ga, b, gb, hK, hn, ok2, e2, fun Hs3 A3 H3 s3 p3 ok3 => ?_⟩
      cases b with
      | false =>
        show if false = true then _ else _
        rw [if_neg Bool.false_ne_true]
        have e3 : lcL tgd tt el vs t (L.drop (i + 1)) (gb.take (t + 1)) = some g3 := e3
        exact ⟨Hs3, A3.take (t + 1), _, σ2, hw3, hl2, (s.trans s').trans s3, ok3.cutM (by omega), ptk (hP.trans p3), e3⟩
      | true =>
        show if true = true then _ else _
        rw [if_pos rfl]
        simp only [if_true, Option.bind_eq_some_iff] at e3
        obtain ⟨⟨r, gc⟩, e4, ⟨dd, gd⟩, e5, e6⟩ := e3
        refine ⟨C, Hs3, A3, gb, r, gc, hK, hn, ok3, e4, fun Hs4 A4 v4 H4 s4 p4 ok4 rel4 => ?_⟩
        obtain ⟨Hs5, s5, ok5, dz5⟩ := ok4.frzR rel4 e5
        dsimp only at e6
        split at e6
        · rename_i acc hgt
          split at e6
          · rename_i hsz
            have hA4 : A4[t]? = some D0 := p4 _ _ (p3 _ _ (hP _ _ hA))
            obtain ⟨a', vs', ev, w1, w2, w3⟩ := ok5.bor (relB hA4) hgt
            cases ev
            refine ⟨vs', w2, by rw [w3.length]; exact hsz, Hs5, A4.take (t + 1), _, σ2, hw3, hl2, (((s.trans s').trans s3).trans s4).trans s5, (ok5.wr (o := .lst (vs' ++ [v4])) (c' := .lst (acc ++ [dd])) hgt hA4 (show DzA C.K Hs5 (vs' ++ [v4]) (acc ++ [dd]) from w3.append (.cons dz5 .nil))).cutM (by omega), ptk ((hP.trans p3).trans p4), e6⟩
          · cases e6
        · cases e6
    · cases e
  · have ei : i = L.length := by omega
    subst ei
    rw [List.drop_length] at e
    simp only [lcL] at e
    split at e
    · rename_i hfr
      cases e
      refine .inl ⟨jw.stop Hs H _ (src s ok) (Nat.le_refl _), q Hs A H s (ok.puts hfr hlen.symm fun i hi => ?_) hP⟩
      have h1 := wipe_out (σ := σ') hi
      have h2 := wipe_out (σ := σ) hi
      rw [← h1, hw, h2]
    · cases e
section
variable {X : Cx} {pos : Pos}
theorem zlc_of {mi : MI} {tgd : TD} {tt : ZT} {el : ZM} {vs : List Nat} {σ : L2.St} {H : Hp} {Q : VK} (h : tZ X.K X.N.length (zLc mi tgd tt el vs) σ H Q) :
    tLc (tZI X.K X.N.length mi) (tZGw X.K X.N.length vs tgd) (tZT X.K X.N.length tt) (tZ X.K X.N.length el) vs σ H Q := by
  obtain ⟨C, Hs, A, g, r, g', hK, hn, ok, e, q⟩ := h
  unfold zLc at e
  simp only [Option.bind_eq_bind, Option.bind_eq_some_iff] at e
  obtain ⟨⟨L, lk, g1⟩, h1, e⟩ := e
  refine ⟨C, Hs, A, g, L, lk, g1, hK, hn, ok, h1, fun Hs1 A1 H1 J lk' s1 PRE ok1 hl jw D0 hD => ?_⟩
  have ok2 := ok1.tmp (a := D0) (o := .lst []) (c := .lst []) hD (show DzA C.K Hs1 [] [] from .nil)
  have hA2 : (A1 ++ [D0])[g1.length]? = some D0 := by rw [← ok1.la]; simp
  have hAl : (A1 ++ [D0]).length = g1.length + 1 := by rw [List.length_append, ok1.la]; rfl
  cases lk with
  | none =>
    cases lk' with
    | some _ => exact hl.elim
    | none =>
      simp only [Option.bind_eq_some_iff] at e
      obtain ⟨g3, e1, e2⟩ := e
      cases e2
      exact lc_of hK hn ok1.lg ok2 hA2 hAl jw (fun _ _ z => by cases z) e1 fun Hs2 A2 H2 s2 ok3 pre => q Hs2 A2 (.ref D0) H2 (s1.trans s2) (fun j a h => pre j a (Pre.app _ _ j a (PRE j a h))) ok3 ⟨D0, pre _ _ hA2, rfl⟩
  | some j =>
    cases lk' with
    | none => exact hl.elim
    | some ac =>
      obtain ⟨a, c⟩ := ac
      obtain ⟨ha, ⟨p0, l0, hgj⟩, hj⟩ := hl
      simp only at e
      split at e
      · rename_i c' p l hg2
        rw [hgj] at hg2
        cases hg2
        simp only [Option.bind_eq_some_iff] at e
        obtain ⟨g3, e1, e2⟩ := e
        cases e2
        have hjl := (List.getElem?_eq_some_iff.mp hgj).1
        have hgc : (g1 ++ [Sl.own (.lst []) false false])[j]? = some (.own c p0 l0) := by rw [List.getElem?_append_left hjl]; exact hgj
        have hac : (A1 ++ [D0])[j]? = some a := Pre.app _ _ _ _ ha
        have hjn : j < C.n := by rw [hn]; exact hj
        have okl : Ok (C.lock (j, a, c) hjn) Hs1 (A1 ++ [D0]) ((g1 ++ [Sl.own (.lst []) false false]).set j (.own c p0 true)) σ (upd H1 D0 (.lst [])) := by
          refine ok2.lk hgc rfl rfl rfl rfl rfl fun r hr => ?_
          rcases List.mem_cons.mp hr with rfl | hr
          · exact .inl ⟨rfl, rfl, rfl, hac⟩
          · by_cases z : r.1 = j
            · obtain ⟨p', w1, w2⟩ := ok2.locked r hr
              rw [z, hgc] at w1
              cases w1
              rw [z] at w2
              exact .inl ⟨z, rfl, rfl, w2⟩
            · exact .inr ⟨z, hr⟩
        refine lc_of (C := C.lock (j, a, c) hjn) hK hn ok1.lg okl hA2 hAl jw (fun a' c' z => ⟨j, by cases z; exact List.mem_cons_self⟩) e1 fun Hs2 A2 H2 s2 ok' pre => ?_
        have okU : Ok C Hs2 A2 (unlk j l0 (wipeG g3 vs)) σ H2 := by
          obtain ⟨p', w1, w2⟩ := ok'.locked (j, a, c) List.mem_cons_self
          unfold unlk
          rw [show (wipeG g3 vs)[j]? = some (.own c p' true) from w1]
          refine ok'.lk (C' := C) w1 rfl rfl rfl rfl rfl fun r hr => ?_
          by_cases z : r.1 = j
          · obtain ⟨p2, y1, y2⟩ := ok2.locked r hr
            rw [z, hgc] at y1
            have e3 : some (Sl.own c p0 l0) = some (.own r.2.2 p2 true) := y1
            cases e3
            obtain ⟨p3, x1, x2⟩ := ok'.locked r (List.mem_cons_of_mem _ hr)
            rw [z] at x2
            exact .inl ⟨z, rfl, rfl, x2⟩
          · exact .inr ⟨z, List.mem_cons_of_mem _ hr⟩
        exact q Hs2 A2 (.ref D0) H2 (s1.trans s2) (fun j a h => pre j a (Pre.app _ _ j a (PRE j a h))) okU ⟨D0, pre _ _ hA2, rfl⟩
      · cases e
theorem ze_lc {elt tg iter : Expr} {ifs : List Expr} {scope : Scope} {own : List (Str × Nat)} {mi : MI} {g : TD} {tt : ZT} {el : ZM} (hc : X.calm = true) (hN : X.N.Nodup) (hi : ZI X tg iter mi) (ok : BlkOk X.N X.env.scope scope own)
    (hg : ∀ (s : Shared) (H : Hp) (C : Addr) (cl : List (Str × Addr)) (fp : List Addr), ZGw (X.blk s H scope (compEnvC scope cl C X.env) fp) (own.map (·.2)) tg g) (ht : ∀ (s : Shared) (H : Hp) (C : Addr) (cl : List (Str × Addr)) (fp : List Addr), ZTs (X.blk s H scope (compEnvC scope cl C X.env) fp) ifs tt)
    (he : ∀ (s : Shared) (H : Hp) (C : Addr) (cl : List (Str × Addr)) (fp : List Addr), ZE (X.blk s H scope (compEnvC scope cl C X.env) fp) elt el) (hs : ∀ x, foldedSetIterable iter X.env x = pure x := by intro _; rfl) :
    ZE X (.ListComp elt [⟨tg, iter, ifs, 0⟩] scope pos) (zLc mi g tt el (own.map (·.2))) :=
  PE.of (pe_lc hc hN hi ok hg ht he hs) fun σ H Q h => zlc_of h
theorem zs_setLc {i : Nat} {y : Str} {py spos : Pos} {elt tg iter : Expr} {ifs : List Expr} {scope : Scope} {own : List (Str × Nat)} {mi : MI} {g : TD} {tt : ZT} {el : ZM} (hy : X.N[i]? = some y) (hyl : X.env.scope.names.lookup y = some .local)
    (hsw : swapsWith (.ListComp elt [⟨tg, iter, ifs, 0⟩] scope pos) (some (.Name y py)) spos.line X.env = pure true) (hc : X.calm = true) (hN : X.N.Nodup) (hi : ZI X tg iter mi) (ok : BlkOk X.N X.env.scope scope own)
    (hg : ∀ (s : Shared) (H : Hp) (C : Addr) (cl : List (Str × Addr)) (fp : List Addr), ZGw (X.blk s H scope (compEnvC scope cl C X.env) fp) (own.map (·.2)) tg g) (ht : ∀ (s : Shared) (H : Hp) (C : Addr) (cl : List (Str × Addr)) (fp : List Addr), ZTs (X.blk s H scope (compEnvC scope cl C X.env) fp) ifs tt)
    (he : ∀ (s : Shared) (H : Hp) (C : Addr) (cl : List (Str × Addr)) (fp : List Addr), ZE (X.blk s H scope (compEnvC scope cl C X.env) fp) elt el) (hs : ∀ x, foldedSetIterable iter X.env x = pure x := by intro _; rfl) :
    ZS X (.Assign [.Name y py] (.ListComp elt [⟨tg, iter, ifs, 0⟩] scope pos) spos) (zSet X.N.length i (zLc mi g tt el (own.map (·.2)))) := by
  refine PS.of (ps_setLc (te := tZ X.K X.N.length el) (tt := tZT X.K X.N.length tt) (g := tZGw X.K X.N.length (own.map (·.2)) g) hc hN hy hyl hsw hi ok hg ht he hs) fun D σ H h => ?_
  obtain ⟨C, Hs, A, g, fl, g', hK, hn, ok, e, q⟩ := h
  have hin := (List.getElem?_eq_some_iff.mp hy).1
  have h2 := set_of (i := i) (D := D) hin ⟨C, Hs, A, g, fl, g', hK, hn, ok, e, q⟩
  exact zlc_of h2
end
end Z
set_option Elab.async false
set_option linter.all false
set_option maxRecDepth 100000
set_option maxHeartbeats 4000000
namespace Z
open PySem PySem.Spec PyProof.Rows L2
section
variable {X : Cx} {pos : Pos} {tg : Expr} {m : ZM} {ma : ZAr} {a b c : Expr} {p : Pos}
/-- the signs of a text -/
def signsD (t : List Nat) : List D := t.map fun c => D.str [c]
def ziS (m : ZM) : MI := fun g => do
  let (r, g1) ← m g
  let d ← rd g1 r
  match d with
  | .str t => some (signsD t, none, g1)
  | _ => none
theorem jw_str {K : PySem.W.Frag} {t : List Nat} {St : Hp → Hp → Prop} : JW K (Its ⟨t.toArray⟩) (signsD t) St where
  stop := fun Hs H i _ hi => by
    have : t.length ≤ i := by simpa [signsD] using hi
    show (⟨t.toArray⟩ : Str).cps.size ≤ i
    simpa using this
  go := fun Hs H i _ hi => by
    have : i < t.length := by simpa [signsD] using hi
    show i < (⟨t.toArray⟩ : Str).cps.size
    simpa using this
  yld := fun C Hs A g σ H i x H' hK ok st hi y => by
    obtain ⟨rfl, c, hc, rfl⟩ := y
    refine ⟨.str [c], Hs, ?_, Same.refl _, ok, .str [c]⟩
    have : t[i]? = some c := by simpa using hc
    simp [signsD, this]
theorem zi_str {l : Expr} (hl : ZE X l m) : ZI X tg l (ziS m) := by
  refine PI.of (pi_str hl) fun σ H Rr ⟨C, Hs, A, g, L, lk, g', hK, hn, ok, e, q⟩ => ?_
  unfold ziS at e
  simp only [Option.bind_eq_bind, Option.bind_eq_some_iff] at e
  obtain ⟨⟨r, g1⟩, h1, d, h2, e⟩ := e
  refine ⟨C, Hs, A, g, r, g1, hK, hn, ok, h1, fun Hs1 A1 v1 H1 s1 p1 ok1 rel1 => ?_⟩
  cases d with
  | str t =>
    cases e
    have hd := ok1.rd rel1 h2
    cases hd
    exact ⟨_, rfl, q Hs1 A1 H1 _ none s1 p1 ok1 trivial jw_str⟩
  | _ => cases e
/-- reversed(list) -/
theorem jw_rev {K : PySem.W.Frag} {Hs0 : Hp} {a : Addr} {vs : List V} {L : List D} (h : SqL K Hs0 a vs) (hz : DzA K Hs0 vs L) : JW K (Itv K a vs.length) L.reverse (Src K Hs0 none) where
  stop := fun Hs H i st hi => by
    rw [List.length_reverse, ← hz.length] at hi
    exact hi
  go := fun Hs H i st hi => by
    rw [List.length_reverse, ← hz.length] at hi
    exact ⟨hi, vs, vs[vs.length - 1 - i], (st.1.trans st.2).seq h, List.getElem?_eq_getElem (by omega)⟩
  yld := fun C Hs A g σ H i x H' hK ok st hi y => by
    rw [List.length_reverse] at hi
    obtain ⟨rfl, y⟩ := y
    obtain ⟨d, h1, h2⟩ := (hz.mono st.1).getV (y vs ((st.1.trans st.2).seq h))
    refine ⟨d, Hs, ?_, Same.refl _, ok, h2⟩
    rw [List.getElem?_reverse hi, ← hz.length]
    exact h1
theorem jw_revO {K : PySem.W.Frag} {Hs0 : Hp} {a : Addr} {n : Nat} {L : List D} (hl : n = L.length) : JW K (Itv K a n) L.reverse (Src K Hs0 (some (a, .lst L))) where
  stop := fun Hs H i st hi => by
    rw [List.length_reverse, ← hl] at hi
    exact hi
  go := fun Hs H i st hi => by
    rw [List.length_reverse, ← hl] at hi
    obtain ⟨o, h1, h2⟩ := st
    obtain ⟨vs, rfl, hz⟩ := h2.lst_inv
    have := hz.length
    exact ⟨hi, vs, vs[n - 1 - i], SqL.of h1, List.getElem?_eq_getElem (by omega)⟩
  yld := fun C Hs A g σ H i x H' hK ok st hi y => by
    rw [List.length_reverse] at hi
    obtain ⟨o, h1, h2⟩ := st
    obtain ⟨vs, rfl, hz⟩ := h2.lst_inv
    obtain ⟨rfl, y⟩ := y
    obtain ⟨d, w1, w2⟩ := hz.getV (y vs (SqL.of h1))
    refine ⟨d, Hs, ?_, Same.refl _, ok, w2⟩
    rw [List.getElem?_reverse hi, ← hl]
    exact w1
def zi_reversedD (n : Nat) (ma : ZAr) : MI := fun g => do
  let (rs, g1) ← ma g
  match rs with
  | [.dat (.lst L)] => some (L.reverse, none, g1)
  | [.bor j] => (ziB n j g1).map fun x => (x.1.reverse, x.2)
  | _ => none
theorem zi_reversed (hg : Gl X "reversed") (hm : X.mg "reversed" = none) (ha : ZAs X [a] ma) (hs : starEach [a] X.env = [(false, eval a X.env)] := by rfl) : ZI X tg (.Call (.Name "reversed" p) [a] [] pos) (zi_reversedD X.N.length ma) := by
  refine PI.of (pi_reversed hg hm ha hs) fun σ H Rr ⟨C, Hs, A, g, L, lk, g', hK, hn, ok, e, q⟩ => ?_
  unfold zi_reversedD at e
  simp only [Option.bind_eq_bind, Option.bind_eq_some_iff] at e
  obtain ⟨⟨rs, g1⟩, h1, e⟩ := e
  refine ⟨C, Hs, A, g, rs, g1, hK, hn, ok, h1, fun Hs1 A1 vs H1 s1 p1 ok1 rel1 => ?_⟩
  simp only at e
  split at e
  · rename_i L
    cases e
    obtain ⟨v1, rfl, rel2⟩ := relRs1 rel1
    have hd : Dz C.K Hs1 v1 (.lst L) := rel2
    rw [hK] at hd
    cases hd with
    | lst hs ha => exact ⟨_, _, rfl, ok1.same.seq hs, q Hs1 A1 H1 _ none s1 p1 ok1 trivial (jw_rev hs ha)⟩
  · rename_i j
    rw [Option.map_eq_some_iff] at e
    obtain ⟨⟨L0, lk0, g0⟩, e, e0⟩ := e
    cases e0
    obtain ⟨v1, rfl, rel2⟩ := relRs1 rel1
    obtain ⟨a, ha, rfl⟩ := (show ∃ a, A1[j]? = some a ∧ v1 = .ref a from rel2)
    simp only [ziB] at e
    split at e
    · rename_i hj
      split at e
      · rename_i L' p l hg
        cases e
        obtain ⟨a', vs, ev, hA, hH, hz⟩ := ok1.bor rel2 hg
        cases ev
        exact ⟨a, vs, rfl, SqL.of hH, q Hs1 A1 H1 _ (some (a, .lst _)) s1 p1 ok1 ⟨ha, ⟨p, l, hg⟩, hj⟩ (jw_revO hz.length)⟩
      · rename_i L' hg
        cases e
        obtain ⟨a', w1, _, hd⟩ := ok1.frz j _ hg
        rw [ha] at w1
        cases w1
        rw [hK] at hd
        cases hd with
        | lst hs hz => exact ⟨a, _, rfl, ok1.same.seq hs, q Hs1 A1 H1 _ none s1 p1 ok1 trivial (jw_rev hs hz)⟩
      · rename_i ls hg
        cases e
        obtain ⟨Hs2, a', s2, ok2, w1, hd⟩ := ok1.frzAt (d := .lst (ls.map D.lst)) (g' := g1.set j (.frz (.lst (ls.map D.lst)))) (by unfold Z.frzAt; rw [hg])
        rw [ha] at w1
        cases w1
        rw [hK] at hd
        cases hd with
        | lst hs hz => exact ⟨a, _, rfl, ok2.same.seq hs, q Hs2 A1 H1 _ none (s1.trans s2) p1 ok2 trivial (jw_rev hs hz)⟩
      · cases e
    · split at e
      · rename_i L' g2 h2
        cases e
        obtain ⟨Hs2, a', s2, ok2, w1, hd⟩ := ok1.frzAt h2
        rw [ha] at w1
        cases w1
        rw [hK] at hd
        cases hd with
        | lst hs hz => exact ⟨a, _, rfl, ok2.same.seq hs, q Hs2 A1 H1 _ none (s1.trans s2) p1 ok2 trivial (jw_rev hs hz)⟩
      · cases e
  · cases e
variable {ma' mb : ZM}
def zCatL (ma mb : ZM) : ZM := fun g => do
  let (r1, g1) ← ma g
  let (r2, g2) ← mb g1
  let d ← rd g2 r1
  let e ← rd g2 r2
  match d, e with
  | .lst l, .lst k => if l.length + k.length ≤ sizeLine then some (.bor g2.length, g2 ++ [.own (.lst (l ++ k)) false false]) else none
  | _, _ => none
theorem ze_catL (ha : ZE X a ma') (hb : ZE X b mb) : ZE X (.BinOp a .Add b pos) (zCatL ma' mb) := by
  refine PE.of (pe_op op_catL ha hb) fun σ H Q ⟨C, Hs, A, g, r, g', hK, hn, ok, e, q⟩ => ?_
  unfold zCatL at e
  simp only [Option.bind_eq_bind, Option.bind_eq_some_iff] at e
  obtain ⟨⟨r1, g1⟩, h1, ⟨r2, g2⟩, h2, d, h3, d2, h4, e⟩ := e
  dsimp only at e h3 h4
  split at e
  · split at e
    · rename_i hz
      cases e
      refine tZ2 hK hn ok h1 h2 fun Hs2 A2 v1 v2 H2 s p ok2 w1 w2 => ?_
      obtain ⟨x, xs, rfl, y1, y2⟩ := ok2.rdL w1 h3
      obtain ⟨x', xs', rfl, z1, z2⟩ := ok2.rdL w2 h4
      rw [hK] at y1 z1
      exact ⟨x, x', xs, xs', rfl, rfl, y1, z1, by rw [y2.length, z2.length]; exact hz, fun p' hp => q Hs2 (A2 ++ [p']) _ _ s (p.trans (Pre.app _ _)) (ok2.tmp (o := .lst (xs ++ xs')) (c := .lst _) hp (show DzA C.K Hs2 (xs ++ xs') _ from y2.append z2)) (ok2.tmpR p')⟩
    · cases e
  · cases e
def bitlenD : D → Option D
  | .int i => some (.int (Builtin.Int.intBits i : Nat))
  | _ => none
theorem ze_bits {o : Expr} {apos : Pos} {mo : ZM} (ho : ZE X o mo) (hbase : attributeBase o "bit_length" X.env (eval o X.env) = eval o X.env := by rfl) (hline : (apos.endLine == pos.line) = true := by rfl) : ZE X (.Call (.Attribute o "bit_length" apos) [] [] pos) (zUn bitlenD mo) := by
  refine PE.of (pe_bits ho hbase hline) fun σ H Q ⟨C, Hs, A, g, r, g', hK, hn, ok, e, q⟩ => ?_
  unfold zUn at e
  simp only [Option.bind_eq_bind, Option.bind_eq_some_iff] at e
  obtain ⟨⟨r1, g1⟩, h1, d, h2, z, h3, e⟩ := e
  split at e
  · rename_i hs
    cases e
    refine ⟨C, Hs, A, g, r1, _, hK, hn, ok, h1, fun Hs1 A1 v1 H1 s1 p1 ok1 rel1 => ?_⟩
    have x := ok1.rd rel1 h2
    cases d with
    | int i =>
      cases h3
      cases x
      exact ⟨i, rfl, q Hs1 A1 _ H1 s1 p1 ok1 (.int _)⟩
    | _ => cases h3
  · cases e
end
section
variable {g g1 g2 g3 : G} {r r1 r2 : R} {d e z : D} {ma mb mc m : ZM} {mr : ZAr} {rs : List R} {ds : List D} {b b1 b2 : Bool} {n i j : Nat}
theorem mi_rev {L : List D} (h1 : mr g = some ([.dat (.lst L)], g1)) : zi_reversedD n mr g = some (L.reverse, none, g1) := by
  unfold zi_reversedD; simp only [h1, Option.bind_eq_bind, Option.bind_some]
theorem er_catL {l k : List D} (h1 : ma g = some (r1, g1)) (h2 : mb g1 = some (r2, g2)) (h3 : rd g2 r1 = some (.lst l)) (h4 : rd g2 r2 = some (.lst k)) (hz : l.length + k.length ≤ sizeLine) : zCatL ma mb g = some (.bor g2.length, g2 ++ [.own (.lst (l ++ k)) false false]) := by
  unfold zCatL; simp only [h1, h2, h3, h4, if_pos hz, Option.bind_eq_bind, Option.bind_some]
/-- a call that changes its kk-th argument, the others data -/
theorem er_callM {kk : Nat} {f : Cn → List D → Option (FR × Cn)} {c c' : Cn} {p : Bool} (h1 : mr g = some (rs, g1)) (h2 : rs[kk]? = some (.bor j)) (h3 : g1[j]? = some (.own c p false)) (h4 : (rs.eraseIdx kk).all (noB j) = true) (h5 : rdAll g1 (rs.eraseIdx kk) = some ds) (h6 : frzAll (rs.eraseIdx kk) g1 = some (ds, g2)) (h8 : f c ds = some (.dat d, c')) (h7 : g2 = g1) :
    zCallM kk f mr g = some (.dat d, g1.set j (.own c' p false)) := by
  subst h7
  unfold zCallM
  simp only [h1, h2, h3, h4, h5, h6, h8, Option.bind_eq_bind, Option.bind_some, if_true]
  split
  · rfl
  · rfl
theorem runM_ap {np k : Nat} {s : SM} {c : Cn} {OUT : Option (FR × Cn)} (hl : ds.length + 1 = np) (hk : k ≤ ds.length) (hg : startM n k c ds = g) (kx : ap (finM k) (s g) = OUT) : runM n np k s c ds = OUT := by
  unfold runM
  rw [if_pos ⟨hl, hk⟩, hg]
  exact kx
end
end Z
set_option Elab.async false
set_option linter.all false
set_option maxRecDepth 100000
set_option maxHeartbeats 4000000
namespace Z
open PySem PySem.Spec PyProof.Rows L2
/-- plain, and a text that can stand in a shaped thing -/
def D.okp : D → Bool
  | .str s => PyData.strOk ⟨s.toArray⟩
  | d => d.pl
theorem pl_lay {d : D} (h : d.okp = true) : d.py.canLay0 = true ∧ d.py.depth = 0 := by
  cases d with
  | str s => exact ⟨h, rfl⟩
  | non => exact ⟨rfl, rfl⟩
  | bl b => exact ⟨rfl, rfl⟩
  | int i => exact ⟨rfl, rfl⟩
  | _ => exact absurd h (by simp [D.okp, D.pl])
theorem pls_lay : ∀ {l : List D}, l.all D.okp = true → PyData.canLayAll0 (D.pyA l) = true ∧ PyData.depthAll (D.pyA l) = 0
  | [], _ => ⟨rfl, rfl⟩
  | d :: l, h => by
    rw [List.all_cons, Bool.and_eq_true] at h
    obtain ⟨a1, a2⟩ := pl_lay h.1
    obtain ⟨b1, b2⟩ := pls_lay h.2
    simp [D.pyA, PyData.canLayAll0, PyData.depthAll, a1, a2, b1, b2]
theorem shp_flat {l : List D} (h : l.all D.okp = true) : (D.lst l).shp = true := by
  obtain ⟨b1, b2⟩ := pls_lay h
  show ((D.lst l).py.canLay0 && decide ((D.lst l).py.depth ≤ 64)) = true
  have e1 : (D.lst l).py.canLay0 = true := by show PyData.canLay0 (.list (D.pyA l)) = true; simpa [PyData.canLay0] using b1
  have e2 : (D.lst l).py.depth ≤ 64 := by show PyData.depth (.list (D.pyA l)) ≤ 64; simp [PyData.depth, b2]
  rw [e1, decide_eq_true e2]
  rfl
theorem pl_ints (a : List Int) : (a.map D.int).all D.okp = true := by simp [D.okp, D.pl]
theorem eqvA_ints : ∀ a b : List Int, D.eqvA (a.map D.int) (b.map D.int) = (a == b)
  | [], [] => rfl
  | [], _ :: _ => rfl
  | _ :: _, [] => rfl
  | x :: a, y :: b => by
    show (D.eqv (.int x) (.int y) && D.eqvA (a.map D.int) (b.map D.int)) = _
    rw [eqvA_ints a b]
    rfl
theorem dr_neL (a b : List Int) : neqD (.lst (a.map D.int)) (.lst (b.map D.int)) = some (.bl (!(a == b))) := by
  have : neOk (.lst (a.map D.int)) (.lst (b.map D.int)) = true := by simp [neOk, shp_flat (pl_ints a), shp_flat (pl_ints b)]
  unfold neqD
  rw [if_pos this]
  show some (D.bl (!D.eqvA _ _)) = _
  rw [eqvA_ints]
theorem dr_shl {i : Int} {w B : Nat} (h : i.natAbs < 2 ^ B) (hw : B + w ≤ 2 ^ 27) : shlD (.int i) (.int w) = some (.int (i * 2 ^ w)) := by
  have hb := PySem.intBits_le_iff.mpr h
  have : shlOk i w = true := by
    unfold shlOk
    rw [decide_eq_true (show (0 : Int) ≤ (w : Int) by omega), decide_eq_true (by omega)]
    rfl
  simp only [shlD, this, if_true]
  rfl
theorem dr_shr {i : Int} {w : Nat} : shrD (.int i) (.int w) = some (.int (i / 2 ^ w)) := by
  simp only [shrD, if_pos (show (0 : Int) ≤ (w : Int) by omega)]
  rfl
/-- one turn of a comprehension that takes its item -/
theorem lcL_go {tg : TD} {tt : ZT} {el : ZM} {vs : List Nat} {t : Nat} {x : D} {xs : List D} {g g1 g2 g3 g4 g5 : G} {r : R} {d : D} {acc : List D} {o : Option G} (h0 : freeAll g vs = true) (h1 : tg x (wipeG g vs) = some g1) (h2 : tt g1 = some (true, g2)) (h3 : el g2 = some (r, g3)) (h4 : frzR r g3 = some (d, g4)) (h5 : g4[t]? = some (.own (.lst acc) false false)) (hz : acc.length < sizeLine)
    (hg : (g4.set t (.own (.lst (acc ++ [d])) false false)).take (t + 1) = g5) (k : lcL tg tt el vs t xs g5 = o) : lcL tg tt el vs t (x :: xs) g = o := by
  simp only [lcL, h0, h1, h2, h3, h4, h5, hz, hg, if_true, Option.bind_eq_bind, Option.bind_some]
  exact k
theorem lcL_no {tg : TD} {tt : ZT} {el : ZM} {vs : List Nat} {t : Nat} {x : D} {xs : List D} {g g1 g2 g5 : G} {o : Option G} (h0 : freeAll g vs = true) (h1 : tg x (wipeG g vs) = some g1) (h2 : tt g1 = some (false, g2)) (hg : g2.take (t + 1) = g5) (k : lcL tg tt el vs t xs g5 = o) : lcL tg tt el vs t (x :: xs) g = o := by
  simp only [lcL, h0, h1, h2, hg, if_true, Option.bind_eq_bind, Option.bind_some]
  exact k
theorem lcL_end {tg : TD} {tt : ZT} {el : ZM} {vs : List Nat} {t : Nat} {g : G} (h0 : freeAll g vs = true) : lcL tg tt el vs t [] g = some g := by
  simp only [lcL, h0, if_true]
/-- by an invariant -/
theorem lcL_inv {tg : TD} {tt : ZT} {el : ZM} {vs : List Nat} {t : Nat} : ∀ {L : List D} (I : Nat → G → Prop) (k : Nat) (g : G), I k g → (∀ i g, I i g → freeAll g vs = true) →
    (∀ i x g, L[i]? = some x → I (k + i) g → ∃ g5, I (k + i + 1) g5 ∧ ∀ (xs : List D) (o : Option G), lcL tg tt el vs t xs g5 = o → lcL tg tt el vs t (x :: xs) g = o) → ∃ g2, lcL tg tt el vs t L g = some g2 ∧ I (k + L.length) g2
  | [], I, k, g, h0, hf, _ => ⟨g, lcL_end (hf k g h0), h0⟩
  | x :: L, I, k, g, h0, hf, h => by
    obtain ⟨g5, h1, h2⟩ := h 0 x g rfl h0
    obtain ⟨g2, e, i2⟩ := lcL_inv (L := L) I (k + 1) g5 h1 hf fun i x' g' hx hi => by
      have := h (i + 1) x' g' (by simpa using hx) (by rw [show k + (i + 1) = k + 1 + i by omega]; exact hi)
      rw [show k + (i + 1) = k + 1 + i by omega] at this
      exact this
    exact ⟨g2, h2 L _ e, by rw [show k + (x :: L).length = k + 1 + L.length by simp; omega]; exact i2⟩
theorem er_lc {mi : MI} {tg : TD} {tt : ZT} {el : ZM} {vs : List Nat} {g g1 g3 g4 : G} {L : List D} (h1 : mi g = some (L, none, g1)) (h2 : lcL tg tt el vs g1.length L (g1 ++ [Sl.own (.lst []) false false]) = some g3) (hg : wipeG g3 vs = g4) : zLc mi tg tt el vs g = some (.bor g1.length, g4) := by
  unfold zLc
  simp only [h1, h2, hg, Option.bind_eq_bind, Option.bind_some]
theorem er_orTF {s t : ZT} {g g1 g2 : G} {b1 b2 : Bool} (h1 : s g = some (b1, g1)) (hb : b1 = false) (h2 : t g1 = some (b2, g2)) : zOrT s t g = some (b2, g2) := by
  subst hb
  unfold zOrT; simp only [h1, Option.bind_eq_bind, Option.bind_some]
  rw [if_neg Bool.false_ne_true]
  exact h2
theorem er_andTT {s t : ZT} {g g1 g2 : G} {b1 b2 : Bool} (h1 : s g = some (b1, g1)) (hb : b1 = true) (h2 : t g1 = some (b2, g2)) : zAndT s t g = some (b2, g2) := by
  subst hb
  unfold zAndT; simp only [h1, Option.bind_eq_bind, Option.bind_some, if_true]
  exact h2
theorem sr_bk {β : Type} {kk : Option (Fl × G) → β} {OUT : β} {rest : SM} {g : G} (k : ap kk (some (.bk, g)) = OUT) : ap kk (zSeq zBk rest g) = OUT := k
end Z
set_option Elab.async false
set_option linter.all false
set_option maxRecDepth 100000
set_option maxHeartbeats 4000000
namespace Z
open PySem PySem.Spec PyProof.Rows L2
def intsD : List D → Option (List Int)
  | [] => some []
  | .int i :: r => do
    let t ← intsD r
    some (i :: t)
  | _ :: _ => none
theorem ints_map : ∀ {ds : List D} {ts : List Int}, intsD ds = some ts → ds = ts.map D.int
  | [], ts, e => by cases e; rfl
  | d :: r, ts, e => by
    cases d with
    | int s =>
      simp only [intsD, Option.bind_eq_bind, Option.bind_eq_some_iff] at e
      obtain ⟨t, h1, e⟩ := e
      cases e
      rw [ints_map h1]
      rfl
    | _ => cases e
theorem intsD_map : ∀ ns : List Int, intsD (ns.map D.int) = some ns
  | [] => rfl
  | n :: r => by
    rw [List.map_cons, intsD, intsD_map r]
    rfl
theorem dzA_ints' {K : PySem.W.Frag} {H : Hp} : ∀ {vs : List V} {ts : List Int}, DzA K H vs (ts.map D.int) → vs = ts.map V.int
  | [], [], _ => rfl
  | _ :: _, [], h => by cases h
  | [], _ :: _, h => by cases h
  | v :: vs, t :: ts, h => by
    cases h with
    | cons h1 h2 =>
      cases h1
      rw [dzA_ints' h2]
      rfl
def minI : List Int → Int
  | [] => 0
  | [a] => a
  | a :: b :: r => if a ≤ minI (b :: r) then a else minI (b :: r)
def maxI : List Int → Int
  | [] => 0
  | [a] => a
  | a :: b :: r => if maxI (b :: r) ≤ a then a else maxI (b :: r)
theorem minI_spec : ∀ {ns : List Int}, ns ≠ [] → minI ns ∈ ns ∧ ∀ y ∈ ns, minI ns ≤ y
  | [], h => absurd rfl h
  | [a], _ => ⟨List.mem_singleton.mpr rfl, fun y hy => by rw [List.mem_singleton.mp hy]; exact Int.le_refl _⟩
  | a :: b :: r, _ => by
    obtain ⟨h1, h2⟩ := minI_spec (ns := b :: r) (by simp)
    unfold minI
    split
    · rename_i h
      refine ⟨List.mem_cons_self, fun y hy => ?_⟩
      rcases List.mem_cons.mp hy with rfl | hy
      · exact Int.le_refl _
      · have := h2 y hy; omega
    · rename_i h
      refine ⟨List.mem_cons_of_mem _ h1, fun y hy => ?_⟩
      rcases List.mem_cons.mp hy with rfl | hy
      · omega
      · exact h2 y hy
theorem maxI_spec : ∀ {ns : List Int}, ns ≠ [] → maxI ns ∈ ns ∧ ∀ y ∈ ns, y ≤ maxI ns
  | [], h => absurd rfl h
  | [a], _ => ⟨List.mem_singleton.mpr rfl, fun y hy => by rw [List.mem_singleton.mp hy]; exact Int.le_refl _⟩
  | a :: b :: r, _ => by
    obtain ⟨h1, h2⟩ := maxI_spec (ns := b :: r) (by simp)
    unfold maxI
    split
    · rename_i h
      refine ⟨List.mem_cons_self, fun y hy => ?_⟩
      rcases List.mem_cons.mp hy with rfl | hy
      · exact Int.le_refl _
      · have := h2 y hy; omega
    · rename_i h
      refine ⟨List.mem_cons_of_mem _ h1, fun y hy => ?_⟩
      rcases List.mem_cons.mp hy with rfl | hy
      · omega
      · exact h2 y hy
end Z
set_option Elab.async false
set_option linter.all false
set_option maxRecDepth 100000
set_option maxHeartbeats 4000000
namespace Z
open PySem PySem.Spec PyProof.Rows L2
def zFg (vs : List Nat) (s : SM) : SM := fun g => do
  let (fl, g1) ← s g
  match fl with
  | .ret r => some (.ret r, g1)
  | fl => if freeAll g1 vs = true then some (fl, wipeG g1 vs) else none
def zFgB (vs : List Nat) (s : SM) : SM := fun g => if freeAll g vs = true then s (wipeG g vs) else none
section
variable {X : Cx} {st : Stmt} {sts : List Stmt} {s : SM} {vs : List Nat}
theorem fg_of {D : Ends} {σ : L2.St} {H : Hp} {K : PySem.W.Frag} {n : Nat} (h : tZS K n (zFg vs s) D σ H) : tZS K n s D σ H := by
  obtain ⟨C, Hs, A, g, fl, g', hK, hn, ok, e, q⟩ := h
  unfold zFg at e
  simp only [Option.bind_eq_bind, Option.bind_eq_some_iff] at e
  obtain ⟨⟨fl1, g1⟩, h1, e⟩ := e
  refine ⟨C, Hs, A, g, fl1, g1, hK, hn, ok, h1, ?_⟩
  cases fl1 with
  | ret r => cases e; exact q
  | nx =>
    simp only at e
    split at e
    · rename_i hf; cases e; exact fun Hs' A' σ' H' s1 ok1 => q Hs' A' σ' H' s1 (ok1.puts hf rfl (fun _ _ => rfl))
    · cases e
  | bk =>
    simp only at e
    split at e
    · rename_i hf; cases e; exact fun Hs' A' σ' H' s1 ok1 => q Hs' A' σ' H' s1 (ok1.puts hf rfl (fun _ _ => rfl))
    · cases e
  | ct =>
    simp only at e
    split at e
    · rename_i hf; cases e; exact fun Hs' A' σ' H' s1 ok1 => q Hs' A' σ' H' s1 (ok1.puts hf rfl (fun _ _ => rfl))
    · cases e
theorem fgB_of {D : Ends} {σ : L2.St} {H : Hp} {K : PySem.W.Frag} {n : Nat} (h : tZS K n (zFgB vs s) D σ H) : tZS K n s D σ H := by
  obtain ⟨C, Hs, A, g, fl, g', hK, hn, ok, e, q⟩ := h
  unfold zFgB at e
  split at e
  · rename_i hf
    exact ⟨C, Hs, A, wipeG g vs, fl, g', hK, hn, ok.puts hf rfl (fun _ _ => rfl), e, q⟩
  · cases e
theorem zss_fg (h : ZSs X sts s) : ZSs X sts (zFg vs s) := PSs.of h fun D σ H h => fg_of h
theorem zs_fgB (h : ZS X st s) : ZS X st (zFgB vs s) := PS.of h fun D σ H h => fgB_of h
end
section
variable {g g1 g2 : G} {st s rest : SM} {r : R} {vs : List Nat}
/-- what follows a forgetting, told as one's end -/
def fgK {β : Type} (vs : List Nat) (kk : Option (Fl × G) → β) : Option (Fl × G) → β := fun o => kk (o.bind fun q => match q.1 with
  | .ret r => some (.ret r, q.2)
  | fl => if freeAll q.2 vs = true then some (fl, wipeG q.2 vs) else none)
theorem ap_fg {β : Type} {kk : Option (Fl × G) → β} {OUT : β} (k : ap (fgK vs kk) (s g) = OUT) : ap kk (zFg vs s g) = OUT := by
  have e : zFg vs s g = (s g).bind fun q => match q.1 with
    | .ret r => some (.ret r, q.2)
    | fl => if freeAll q.2 vs = true then some (fl, wipeG q.2 vs) else none := by
    unfold zFg
    cases s g with
    | none => rfl
    | some q => rfl
  rw [e]; exact k
theorem fgK_nx {β : Type} {kk : Option (Fl × G) → β} {OUT : β} (hf : freeAll g vs = true) (hg : wipeG g vs = g2) (k : kk (some (.nx, g2)) = OUT) : ap (fgK vs kk) (some (.nx, g)) = OUT := by
  show kk (if freeAll g vs = true then some (.nx, wipeG g vs) else none) = OUT
  rw [if_pos hf, hg]; exact k
theorem fgK_ct {β : Type} {kk : Option (Fl × G) → β} {OUT : β} (hf : freeAll g vs = true) (hg : wipeG g vs = g2) (k : kk (some (.ct, g2)) = OUT) : ap (fgK vs kk) (some (.ct, g)) = OUT := by
  show kk (if freeAll g vs = true then some (.ct, wipeG g vs) else none) = OUT
  rw [if_pos hf, hg]; exact k
theorem fgK_bk {β : Type} {kk : Option (Fl × G) → β} {OUT : β} (hf : freeAll g vs = true) (hg : wipeG g vs = g2) (k : kk (some (.bk, g2)) = OUT) : ap (fgK vs kk) (some (.bk, g)) = OUT := by
  show kk (if freeAll g vs = true then some (.bk, wipeG g vs) else none) = OUT
  rw [if_pos hf, hg]; exact k
theorem fgK_ret {β : Type} {kk : Option (Fl × G) → β} {OUT : β} (k : kk (some (.ret r, g)) = OUT) : ap (fgK vs kk) (some (.ret r, g)) = OUT := k
theorem sr_ct {β : Type} {kk : Option (Fl × G) → β} {OUT : β} {rest : SM} {g : G} (k : ap kk (some (.ct, g)) = OUT) : ap kk (zSeq zCt rest g) = OUT := k
theorem sr_bk1 {β : Type} {kk : Option (Fl × G) → β} {OUT : β} {g : G} (k : ap kk (some (.bk, g)) = OUT) : ap kk (zBk g) = OUT := k
theorem sr_ct1 {β : Type} {kk : Option (Fl × G) → β} {OUT : β} {g : G} (k : ap kk (some (.ct, g)) = OUT) : ap kk (zCt g) = OUT := k
theorem sr_nx1 {β : Type} {kk : Option (Fl × G) → β} {OUT : β} {g : G} (k : ap kk (some (.nx, g)) = OUT) : ap kk (zNx g) = OUT := k
theorem seq_ret (h : st g = some (.ret r, g1)) {β : Type} {kk : Option (Fl × G) → β} {OUT : β} (k : ap kk (some (.ret r, g1)) = OUT) : ap kk (zSeq st rest g) = OUT := by
  unfold zSeq; simp only [h, Option.bind_eq_bind, Option.bind_some]; exact k
/-- a loop that may break or return -/
def TurnB (I : G → Prop) (B : G → Prop) (Rt : R → G → Prop) : Option (Fl × G) → Prop
  | some (.nx, g) => I g
  | some (.ct, g) => I g
  | some (.bk, g) => B g
  | some (.ret r, g) => Rt r g
  | none => False
theorem forL_invB {tg : TD} : ∀ {L : List D} (I : Nat → G → Prop) (B : G → Prop) (Rt : R → G → Prop) (k : Nat) (g : G), I k g → (∀ i d g, L[i]? = some d → I (k + i) g → ∃ g1, tg d g = some g1 ∧ TurnB (I (k + i + 1)) B Rt (st g1)) →
    (∃ g2, forL tg st L g = some (.nx, g2) ∧ (I (k + L.length) g2 ∨ B g2)) ∨ ∃ r g2, forL tg st L g = some (.ret r, g2) ∧ Rt r g2
  | [], I, B, Rt, k, g, h0, _ => .inl ⟨g, rfl, .inl h0⟩
  | d :: L, I, B, Rt, k, g, h0, h => by
    obtain ⟨g1, h1, h2⟩ := h 0 d g rfl h0
    have next : ∀ g2, I (k + 1) g2 → (∃ g3, forL tg st L g2 = some (.nx, g3) ∧ (I (k + 1 + L.length) g3 ∨ B g3)) ∨ ∃ r g3, forL tg st L g2 = some (.ret r, g3) ∧ Rt r g3 := fun g2 h3 => forL_invB (L := L) I B Rt (k + 1) g2 h3 fun i d' g' hd hi => by
      have := h (i + 1) d' g' (by simpa using hd) (by rw [show k + (i + 1) = k + 1 + i by omega]; exact hi)
      rw [show k + (i + 1) = k + 1 + i by omega] at this
      exact this
    rw [show k + (d :: L).length = k + 1 + L.length by simp; omega]
    simp only [forL, Option.bind_eq_bind, h1, Option.bind_some]
    match e : st g1, h2 with
    | some (.nx, g2), h2 => exact next g2 h2
    | some (.ct, g2), h2 => exact next g2 h2
    | some (.bk, g2), h2 => exact .inl ⟨g2, rfl, .inr h2⟩
    | some (.ret r, g2), h2 => exact .inr ⟨r, g2, rfl, h2⟩
    | none, h2 => exact h2.elim
theorem wipeG_nil (g : G) : wipeG g [] = g := rfl
theorem wipeG_cons (g : G) (v : Nat) (vs : List Nat) : wipeG g (v :: vs) = (wipeG g vs).set v .un := rfl
theorem er_andVT {ma mb : ZM} {g3 : G} {b1 b2 : Bool} (h1 : ma g = some (.dat (.bl b1), g1)) (hb : b1 = true) (h2 : mb g1 = some (.dat (.bl b2), g3)) : zAndV ma mb g = some (.dat (.bl b2), g3) := by
  subst hb
  unfold zAndV; simp only [h1, isB, h2, if_true, Option.bind_eq_bind, Option.bind_some]
theorem er_andVF {ma mb : ZM} {b1 : Bool} (h1 : ma g = some (.dat (.bl b1), g1)) (hb : b1 = false) : zAndV ma mb g = some (.dat (.bl false), g1) := by
  subst hb
  unfold zAndV; simp only [h1, isB, Option.bind_eq_bind, Option.bind_some]
  rfl
theorem er_orVF {ma mb : ZM} {g3 : G} {b1 b2 : Bool} (h1 : ma g = some (.dat (.bl b1), g1)) (hb : b1 = false) (h2 : mb g1 = some (.dat (.bl b2), g3)) : zOrV ma mb g = some (.dat (.bl b2), g3) := by
  subst hb
  unfold zOrV; simp only [h1, isB, Option.bind_eq_bind, Option.bind_some]
  rw [if_neg Bool.false_ne_true]
  exact h2
/-- a call that hands out data with references within: what was handed in becomes data -/
theorem er_callGF {f : List D → Option FR} {mr : ZAr} {rs : List R} {ds : List D} {d : D} (h1 : mr g = some (rs, g1)) (h2 : rdAll g1 rs = some ds) (h2' : frzAll rs g1 = some (ds, g2)) (h3 : f ds = some (.dat d)) (hs : d.scal = false) : zCall f mr g = some (.dat d, g2) := by
  unfold zCall; simp only [h1, h2, h2', h3, hs, Option.bind_eq_bind, Option.bind_some]
  rfl
theorem er_callHF {f : List D → Option FR} {mr : ZAr} {rs : List R} {ds : List D} {c : Cn} (h1 : mr g = some (rs, g1)) (h2 : rdAll g1 rs = some ds) (h2' : frzAll rs g1 = some (ds, g2)) (h3 : f ds = some (.new c)) (hs : c.scal = false) : zCall f mr g = some (.bor g2.length, g2 ++ [.own c false false]) := by
  unfold zCall; simp only [h1, h2, h2', h3, hs, Option.bind_eq_bind, Option.bind_some]
  rfl
/-- a walk over a list held aside -/
theorem mi_Lt {m : ZM} {n j : Nat} {L : List D} (h1 : m g = some (.bor j, g1)) (hj : n ≤ j) (h2 : frzAt j g1 = some (.lst L, g2)) : ziL n m g = some (L, none, g2) := by
  unfold ziL; simp only [h1, ziB, if_neg (show ¬ j < n by omega), h2, Option.bind_eq_bind, Option.bind_some]
theorem er_orTt {s t : ZT} {b : Bool} (h1 : s g = some (b, g1)) (hb : b = true) : zOrT s t g = some (true, g1) := by
  subst hb
  unfold zOrT; simp only [h1, Option.bind_eq_bind, Option.bind_some, if_true]
theorem forL_nx {tg : TD} {x : D} {xs : List D} {g3 : G} {o : Option (Fl × G)} (h1 : tg x g = some g1) (h2 : st g1 = some (.nx, g3)) (h3 : forL tg st xs g3 = o) : forL tg st (x :: xs) g = o := by
  simp only [forL, h1, h2, Option.bind_eq_bind, Option.bind_some]; exact h3
/-- what an item does: b whether it is taken, f what it becomes; base the slots without the new list -/
structure LcItem (tg : TD) (tt : ZT) (el : ZM) (vs : List Nat) (t : Nat) (base : G) (x : D) (b : Bool) (y : D) : Prop where
  run : ∀ acc : List D, ∃ h : G, h.length = t ∧ freeAll (h ++ [.own (.lst acc) false false]) vs = true ∧ (∀ o : Sl, wipeG (h ++ [o]) vs = base ++ [o]) ∧ (∀ o : Sl, freeAll (h ++ [o]) vs = true) ∧ tg x (base ++ [.own (.lst acc) false false]) = some (h ++ [.own (.lst acc) false false]) ∧
    tt (h ++ [.own (.lst acc) false false]) = some (b, h ++ [.own (.lst acc) false false]) ∧
    (b = true → ∃ r g3 g4, el (h ++ [.own (.lst acc) false false]) = some (r, g3) ∧ frzR r g3 = some (y, g4) ∧ g4[t]? = some (.own (.lst acc) false false) ∧ ∀ o : Sl, (g4.set t o).take (t + 1) = h ++ [o])
theorem lcL_fm {tg : TD} {tt : ZT} {el : ZM} {vs : List Nat} {t : Nat} {base : G} {b : D → Bool} {f : D → D} : ∀ {L : List D} (acc : List D) (h : G), h.length = t → (∀ o : Sl, wipeG (h ++ [o]) vs = base ++ [o]) → (∀ o : Sl, freeAll (h ++ [o]) vs = true) → acc.length + L.length ≤ sizeLine → (∀ x ∈ L, LcItem tg tt el vs t base x (b x) (f x)) →
    ∃ g3, lcL tg tt el vs t L (h ++ [.own (.lst acc) false false]) = some g3 ∧ wipeG g3 vs = base ++ [.own (.lst (acc ++ (L.filter b).map f)) false false]
  | [], acc, h, hl, hw, hf, _, _ => ⟨_, lcL_end (hf _), by rw [hw]; simp⟩
  | x :: L, acc, h, hl, hw, hf, hz, hx => by
    obtain ⟨h', q1, q2, q3, q4, q5, q6, q7⟩ := (hx x List.mem_cons_self).run acc
    have hx' : ∀ x ∈ L, LcItem tg tt el vs t base x (b x) (f x) := fun x h => hx x (List.mem_cons_of_mem _ h)
    simp only [List.length_cons] at hz
    cases hb : b x with
    | true =>
      obtain ⟨r, g3, g4, w1, w2, w3, w4⟩ := q7 hb
      obtain ⟨g5, x1, x2⟩ := lcL_fm (L := L) (acc ++ [f x]) h' q1 q3 q4 (by simp; omega) hx'
      refine ⟨g5, lcL_go (hf _) (by rw [hw]; exact q5) (by rw [q6, hb]) w1 w2 w3 (by omega) (w4 _) x1, ?_⟩
      rw [x2, List.filter_cons, hb, if_pos rfl]
      simp
    | false =>
      obtain ⟨g5, x1, x2⟩ := lcL_fm (L := L) acc h' q1 q3 q4 (by omega) hx'
      refine ⟨g5, lcL_no (hf _) (by rw [hw]; exact q5) (by rw [q6, hb]) (by rw [List.take_of_length_le (by simp [q1])]) x1, ?_⟩
      rw [x2, List.filter_cons, hb, if_neg Bool.false_ne_true]
/-- an item whose value is data -/
theorem lc_dat {tg : TD} {tt : ZT} {el : ZM} {vs : List Nat} {t : Nat} {base h : G} {x : D} {b : Bool} {y : D} (hl : h.length = t) (hw : ∀ o : Sl, wipeG (h ++ [o]) vs = base ++ [o]) (hf : ∀ o : Sl, freeAll (h ++ [o]) vs = true) (h1 : ∀ o : Sl, tg x (base ++ [o]) = some (h ++ [o])) (h2 : ∀ o : Sl, tt (h ++ [o]) = some (b, h ++ [o]))
    (h3 : b = true → ∀ o : Sl, el (h ++ [o]) = some (.dat y, h ++ [o])) : LcItem tg tt el vs t base x b y :=
  ⟨fun acc => ⟨h, hl, hf _, hw, hf, h1 _, h2 _, fun hb => ⟨_, _, _, h3 hb _, rfl, by rw [← hl]; simp, fun o => by rw [← hl, List.set_append_right _ _ (Nat.le_refl _)]; simp [List.take_of_length_le]⟩⟩⟩
theorem er_lc1 {mi : MI} {tg : TD} {tt : ZT} {el : ZM} {vs : List Nat} {g : G} {L : List D} {base h : G} {b : D → Bool} {f : D → D} (h1 : mi g = some (L, none, h)) (hw : ∀ o : Sl, wipeG (h ++ [o]) vs = base ++ [o]) (hf : ∀ o : Sl, freeAll (h ++ [o]) vs = true) (hz : L.length ≤ sizeLine) (hx : ∀ x ∈ L, LcItem tg tt el vs h.length base x (b x) (f x)) :
    zLc mi tg tt el vs g = some (.bor h.length, base ++ [.own (.lst ((L.filter b).map f)) false false]) := by
  obtain ⟨g3, x1, x2⟩ := lcL_fm (L := L) [] h rfl hw hf (by simpa using hz) hx
  rw [List.nil_append] at x2
  exact er_lc h1 x1 x2
theorem er_lcO {mi : MI} {tg : TD} {tt : ZT} {el : ZM} {vs : List Nat} {g g1 : G} {L : List D} {base h : G} {b : D → Bool} {f : D → D} {j : Nat} {c : Cn} {p l : Bool} (h1 : mi g = some (L, some j, g1)) (hj : g1[j]? = some (.own c p l)) (hh : g1.set j (.own c p true) = h) (hw : ∀ o : Sl, wipeG (h ++ [o]) vs = base ++ [o]) (hf : ∀ o : Sl, freeAll (h ++ [o]) vs = true) (hz : L.length ≤ sizeLine) (hx : ∀ x ∈ L, LcItem tg tt el vs h.length base x (b x) (f x)) :
    zLc mi tg tt el vs g = some (.bor h.length, unlk j l (base ++ [.own (.lst ((L.filter b).map f)) false false])) := by
  have hjl := (List.getElem?_eq_some_iff.mp hj).1
  obtain ⟨g3, x1, x2⟩ := lcL_fm (L := L) [] h rfl hw hf (by simpa using hz) hx
  rw [List.nil_append] at x2
  unfold zLc
  have e : (g1 ++ [Sl.own (.lst []) false false]).set j (.own c p true) = h ++ [Sl.own (.lst []) false false] := by
    rw [List.set_append, if_pos hjl, hh]
  have el : g1.length = h.length := by rw [← hh, List.length_set]
  simp only [h1, hj, Option.bind_eq_bind, Option.bind_some]
  rw [e, el, x1]
  simp only [Option.bind_some, x2]
end
def fI (f : Int → Int) : D → D
  | .int z => .int (f z)
  | d => d
theorem inL_ints (n : Int) : ∀ R : List Int, inL (.int n) (R.map D.int) = decide (n ∈ R)
  | [] => rfl
  | z :: R => by
    have := inL_ints n R
    unfold inL at this ⊢
    rw [List.map_cons, List.any_cons, this]
    show ((z == n) || _) = _
    by_cases h : z = n
    · subst h; simp
    · have : ¬ n = z := fun e => h e.symm
      simp [h, this]
theorem in_ints (n : Int) (R : List Int) : inD (.int n) (.lst (R.map D.int)) = some (.bl (decide (n ∈ R))) := by
  unfold inD
  show Option.map D.bl (if _ then _ else _) = _
  rw [if_pos (by simp [D.pl]), inL_ints]
  rfl
end Z
set_option Elab.async false
set_option linter.all false
set_option maxRecDepth 100000
set_option maxHeartbeats 4000000
namespace Z
open PySem PySem.Spec PyProof.Rows L2
structure FnA (P : Program) (w : World) (K : PySem.W.Frag) (mg : Str → Option Value) (base : Heap) (A : Around) (f : Addr) (fd : FuncData) (ps : List Str) (sp : Sp) : Prop where
  run : ∀ (out : List Env) (s : Shared) (H : Hp) (ar : Args) (us : List Value) (vs : List V) (Q : VK) (E : XK), Env0 P w K mg base A out s H → BindsTo s fd ar (ps.zip us) → Vals vs us → sp vs H Q E →
    codeAny (model P w) A (.call (.ref f) ar) (CR CX0 out P w H s Q E) s
section
variable {P : Program} {w : World} {K : PySem.W.Frag} {mg : Str → Option Value} {base : Heap}
/-- the reading of a body by runP, wherever it is called -/
theorem runP_reads {N ps : List Str} {s : SM} {vs : List V} {H : Hp} {Q : VK} {E : XK} (hp : ps.length ≤ N.length) (hs : spP K (runP N.length ps.length s) vs H Q E) : tZS K N.length s { nx := fun _ H' => Q .non H', rt := Q } (L2.start N vs) H ∧ vs.length = ps.length := by
  obtain ⟨Hs, ds, fr, sm, hz, e, q⟩ := hs
  unfold runP at e
  split at e
  · rename_i hl
    have hd : ds.length ≤ N.length := by omega
    refine ⟨?_, by rw [hz.length]; exact hl⟩
    split at e
    · rename_i r g' hr
      refine ⟨_, Hs, _, start0 N.length ds, .ret r, g', rfl, rfl, ok_start hd sm hz, hr, ?_⟩
      exact fun Hs' A' σ' H' v s1 ok1 rel1 => q v Hs' H' s1 (fun b o e => ok1.keep b o e (fun _ h => (List.not_mem_nil h).elim)) ok1.same ok1.grow (fin_ok ok1 rel1 e)
    · rename_i g' hr
      cases e
      refine ⟨_, Hs, _, start0 N.length ds, .nx, g', rfl, rfl, ok_start hd sm hz, hr, ?_⟩
      exact fun Hs' A' σ' H' s1 ok1 => q .non Hs' H' s1 (fun b o e => ok1.keep b o e (fun _ h => (List.not_mem_nil h).elim)) ok1.same ok1.grow .non
    · cases e
  · cases e
theorem okA {x qual : Str} {st : Stmt} {f : Addr} {fd : FuncData} {N ps : List Str} {k : Nat} {s : SM} {A : Around} (F : Fun K x qual st f fd) (S : FnScope N ps (defScope st)) (hA : Room (k + 1) A)
    (body : ∀ (cdv : Value) (out : List Env) (s0 : Shared) (H : Hp) (E : XK), Room k (A.deeper (envOfC qual (defScope st) s0.heap.objs.size f cdv)) → ZSs (cxOf CX0 P w K mg base N qual (defScope st) f cdv A out s0 H E).nox (defBody st) s) :
    FnA P w K mg base A f fd ps (spP K (runP N.length ps.length s)) := by
  obtain ⟨oc, od, kV, doc, pm, an, cdv, ct, osl, rfl, atf, hcode⟩ := F.ex
  have hpN : ps.length ≤ N.length := by
    have := congrArg List.length S.pre
    rw [List.length_take] at this
    omega
  constructor
  intro out s0 H ar us vs Q E e0 hbd rel hs
  obtain ⟨reads, lv⟩ := runP_reads hpN hs
  have inK : K.In s0.heap := e0.mod.kin.keeps fun c u z => (e0.bs c u z).1
  have noL : s0.heap.NoLimit := e0.mod.nolimit.keeps fun c u z => (e0.bs c u z).1
  have kinds : ∀ y ∈ ps.zip us, (defScope st).names.lookup y.1 = some .local ∨ ((defScope st).names.lookup y.1 = some .cell ∧ ((cellsFrom (s0.heap.objs.size + 1) (defScope st).names []).lookup y.1).isSome = true) := by
    rintro ⟨n, u⟩ hy
    exact (S.par n (List.of_mem_zip hy).1).imp id fun c => ⟨c, PySem.W.cellsFrom_some _ _ _ (.inl c)⟩
  apply codeAny_call_function hA.depth (inK _ _ atf) rfl S.co S.gen rfl (PySem.W.codeRec_of inK hcode)
  apply hbd
  apply wpAny_newFunctionEnv_cells S.kind kinds
  rintro env rfl s1 new
  refine ⟨noL.keeps new.toInCall.keep, ?_⟩
  apply codeAny_func
  have I0 : Inv (cxOf CX0 P w K mg base N qual (defScope st) f cdv A out s0 H E) [] (L2.start N vs) H s1 := inv_start S hA.hd e0 lv rel new
  have B := (body cdv out s0 H E (hA.deeper _)).nox
  apply wpAny_mono (B.run [] s1 (L2.start N vs) H _ I0 reads)
  · intro fl s2 hfl
    cases fl with
    | ret u =>
      obtain ⟨v, σ2, H2, J, rv, q⟩ := hfl
      exact ⟨v, H2, J.os, J.bare, J.base, J.hok, rv, q⟩
    | next =>
      obtain ⟨σ2, H2, J, q⟩ := hfl
      exact ⟨V.non, H2, J.os, J.bare, J.base, J.hok, rfl, q⟩
    | brk => obtain ⟨_, _, _, q⟩ := hfl; cases q
    | cont => obtain ⟨_, _, _, q⟩ := hfl; cases q
  · exact fun e s2 z => z
end
theorem law_callA {P : Program} {w : World} {K : PySem.W.Frag} {mg mb : Str → Option Value} {fa a : Addr} {fd : FuncData} {x : Str} {f : List D → Option FR} {s1 : Shared} {vs : List Value} {ns : List Int}
    (kin : K.In s1.heap) (gns : s1.heap.Ns mainGlobals mg) (bns : s1.heap.Ns builtinsNs mb) (bbo : ∀ y : Str, y ≠ "__name__" → mb y = bootBuiltins y) (nol : s1.heap.NoLimit) (gens : s1.gens = #[])
    (obj : s1.heap.get? a = some { cls := .type "list", data := .seq vs.toArray }) (hint : IntsAre vs ns) (small : ns.length ≤ sizeLine)
    (nod : s1.heap.NoDigits) (F : ∀ base : Heap, K.In base → base.Ns mainGlobals mg → base.NoDigits → FnA P w K mg base callerA fa fd [x] (spP K f)) (bnd : ∀ (s : Shared) (u : Value), BindsTo s fd ⟨[u], []⟩ [(x, u)])
    (good : f [scriptD ns] = some (.dat (.bl true))) :
    codeAny (model P w) callerA (.call (.ref fa) ⟨[.ref a], []⟩) (fun r s2 => r = .ok (.ret (.bool true)) ∧ OldK s1.heap s2.heap ∧ s2.os = s1.os ∧ AllBare s2.gens) s1 := by
  have relV := vals_ints hint
  -- the heap that is known: nothing, or the script
  obtain ⟨H, only, seq, hok, atA, notK⟩ : ∃ H : Hp, Only H ∧ SqL K H a (ns.map V.int) ∧ HOk P w H s1.heap ∧ (∀ b, H b ≠ none → b = a) ∧ (H a ≠ none → K.lookup a = none) := by
    cases look : K.lookup a with
    | some o =>
      have same := kin a o look
      rw [obj] at same
      cases same
      exact ⟨fun _ => none, fun _ => .inl rfl, .inr ⟨_, vs.toArray, _, look, rfl, rfl, rfl, by rw [List.size_toArray, hint.length]; exact small, by simpa using relV⟩, fun b u z => by simp at z, fun b z => absurd rfl z, fun z => absurd rfl z⟩
    | none =>
      refine ⟨upd (fun _ => none) a (.frz { cls := .type "list", data := .seq vs.toArray } (.lst (ns.map V.int))), fun b => ?_, .inl (.inr ⟨_, upd_same⟩), fun b u z => ?_, fun b z => ?_, fun _ => rfl⟩
      · by_cases e : b = a
        · subst e; exact .inr ⟨_, _, upd_same⟩
        · exact .inl (upd_ne e)
      · by_cases e : b = a
        · subst e
          rw [upd_same] at z
          cases z
          exact ⟨obj, by rw [List.length_map]; exact small, vs, _, relV, obj⟩
        · rw [upd_ne e] at z; cases z
      · by_cases e : b = a
        · exact e
        · exact absurd (upd_ne e) z
  have stays : ∀ {b : Addr} {m : Str → Option Value}, s1.heap.Ns b m → (hidT s1.heap H).Ns b m := by
    rintro b m ⟨o, es, ep, e, d, r⟩
    refine ⟨o, es, ep, hidT_get e ?_, d, r⟩
    cases q : H b with
    | none => rfl
    | some u =>
      have := atA b (by simp [q])
      subst this
      rw [obj] at e
      cases e
      cases d
  have kin0 : K.In (hidT s1.heap H) := by
    intro b o e
    refine hidT_get (kin b o e) ?_
    cases q : H b with
    | none => rfl
    | some u =>
      have := atA b (by simp [q])
      subst this
      rw [notK (by simp [q])] at e
      cases e
  obtain ⟨ml, l1, l2⟩ := nol
  have env : Env0 P w K mg (hidT s1.heap H) callerA [] s1 H :=
    ⟨rfl, ⟨kin0, stays gns, ⟨mb, stays bns, bbo⟩, ⟨ml, stays l1, l2⟩⟩, fun b o e => of_hidT e, Nat.le_of_eq (hidT_size _ _), trivial, fun b hb => absurd (show b ∈ ([] : List Addr) from hb) List.not_mem_nil, hok, .of_eq gens⟩
  obtain ⟨md, d1, d2⟩ := nod
  have ran := (F _ kin0 (stays gns) ⟨md, stays d1, d2⟩).run [] s1 H ⟨[.ref a], []⟩ [.ref a] [.ref a] _ _ env (bnd s1 (.ref a)) (.cons rfl .nil) (law_sp seq good)
  apply codeAny_mono ran
  intro r s2 end2
  match r, end2 with
  | .ok (.ret u), end2 =>
    obtain ⟨v, H2, os, bare, un, hok2, rv, q⟩ := end2
    have ev : v = .bl true := q
    subst ev
    have eu : u = Value.bool true := rv
    subst eu
    refine ⟨rfl, OldK.of_keep ?_, os, bare⟩
    intro b o e
    rcases only b with z | ⟨ob, xs, z⟩
    · exact un.keep b o e z (fun y => absurd (show b ∈ ([] : List Addr) from y) List.not_mem_nil) List.not_mem_nil
    · obtain ⟨e1, _⟩ := hok b _ z
      obtain ⟨e2, _⟩ := hok2 b _ (un.frzs b ob _ z)
      rw [e] at e1
      cases e1
      exact e2
  | .ok .next, z => exact z.elim
  | .ok .brk, z => exact z.elim
  | .ok .cont, z => exact z.elim
  | .error e, z => exact z.elim
theorem walk_ofA {l : PySem.W.OpenLaw} {n : Nat} {q : Program} {loose : List Str} {XP : (Str → Option Value) → Heap → Prop} {YP : World → Heap → Prop} {d : DefRec} {K : Params → PySem.W.Frag} {f : List D → Option FR} {x : Str}
    (most : l.most = some n) (small : n ≤ sizeLine) (plain : d.params.defaults = []) (hY : ∀ (w : World) (h : Heap), YP w h → (K w.params).In h)
    (F : ∀ (w : World) (mg : Str → Option Value) (fa : Addr) (h : Heap), (K w.params).In h → h.Ns mainGlobals mg → mg d.name = some (.ref fa) →
      ∃ fd : FuncData, (∀ (s : Shared) (u : Value), BindsTo s fd ⟨[u], []⟩ [(x, u)]) ∧ ∀ base : Heap, (K w.params).In base → base.Ns mainGlobals mg → base.NoDigits → FnA l.prog w (K w.params) mg base callerA fa fd [x] (spP (K w.params) f))
    (good : ∀ ns : List Int, ns.length ≤ n → f [scriptD ns] = some (.dat (.bl true))) :
    PySem.W.WalkO q loose XP YP l.row.toRowW d [] (fun f vs => PySem.call f vs) := by
  apply Att.attach_call most plain
  intro w s0 s1 mg mb fa o pm cd doc a vs ns Gr Y ho hd hcd hmg hobj hints hlen hg
  obtain ⟨fd, hb, hF⟩ := F w mg fa _ (hY w _ Y) Gr.T.g hmg
  exact law_callA (hY w _ Y) Gr.T.g Gr.T.b Gr.T.builtins Gr.T.nolimit hg hobj hints (Nat.le_trans hlen small) Gr.T.nodigits hF hb (good ns hlen)
def isRef : D → Bool
  | .lst _ => true
  | .tup _ => true
  | _ => false
def shownD (d : D) : List Nat := d.py.shown.cps.toList
end Z
section Mac
local macro_rules | `(tactic| walk_at "l") => `(tactic| first | (simp only [Z.wipeG_nil, Z.wipeG_cons, List.set_cons_succ, List.set_cons_zero, List.take_succ_cons, List.take_zero, List.take_nil, List.cons_append, List.nil_append, List.length_cons, List.length_nil, List.set_nil, List.getElem?_cons_zero, List.getElem?_cons_succ, Nat.zero_add, Nat.reduceAdd]; first | done | exact rfl) | exact rfl)
local macro_rules | `(tactic| walk_at "d") => `(tactic| first
  | with_reducible assumption
  | (with_reducible apply Z.dr_div) <;> decide
  | (with_reducible apply Z.dr_mod) <;> decide
  | (with_reducible apply Z.dr_mulr); decide
  | (with_reducible apply Z.dr_mull); decide
  | (with_reducible apply Z.dr_divB) <;> omega
  | (with_reducible apply Z.dr_mulrB) <;> omega
  | (with_reducible apply Z.dr_mullB) <;> omega
  | (with_reducible apply Z.dr_mulC) <;> omega
  | (with_reducible apply Z.dr_mod) <;> omega
  | (with_reducible refine Z.isi_of ?_ ?_); (exact rfl); (first | exact Z.kb_int_int | exact Z.kb_int_bool | exact Z.kb_bool_bool | exact Z.kb_bool_int | exact Z.kb_str_int | exact Z.kb_str_bool | exact Z.kb_str_str | exact Z.kb_int_str | exact Z.kb_bool_str | exact Z.kb_non_int | exact Z.kb_non_bool | exact Z.kb_non_str | exact Z.kb_list_list | exact Z.kb_tuple_tuple | exact Z.kb_list_tuple | exact Z.kb_tuple_list)
  | with_reducible exact Z.dr_abs
  | (with_reducible exact Z.dr_neL _ _)
  | (simp only [Z.Cn.d]; with_reducible assumption)
  | (simp only [Z.Cn.d]; with_reducible exact Z.dr_neL _ _)
  | with_reducible exact Z.in_ints _ _
  | (simp only [Z.Cn.d]; with_reducible exact Z.in_ints _ _)
  | ((with_reducible apply Z.dr_cat); (try simp only [List.length_append, List.length_cons, List.length_nil]); omega)
  | with_reducible exact Z.dr_eqI
  | with_reducible exact Z.dr_eqB
  | with_reducible exact Z.dr_neB
  | with_reducible exact Z.dr_eqS
  | with_reducible exact Z.dr_neI
  | with_reducible exact Z.dr_neS
  | exact rfl)
local macro_rules | `(tactic| walk_at "c") => `(tactic| first | with_reducible assumption | (simp only [Z.Cn.d]; with_reducible assumption))
local macro_rules | `(tactic| walk_at "e") => `(tactic| first
  | with_reducible exact Z.er_C
  | with_reducible exact Z.er_nil
  | (with_reducible apply Z.er_varD); exact rfl
  | (with_reducible apply Z.er_varO); exact rfl
  | (with_reducible apply Z.er_varF); exact rfl
  | (with_reducible apply Z.er_op); walk_at "e"; walk_at "e"; exact rfl; exact rfl; walk_at "d"; exact rfl
  | (with_reducible apply Z.er_chain); walk_at "e"; walk_at "e"; exact rfl; exact rfl; walk_at "d"; (intro _h; walk_at "e"); exact rfl; walk_at "d"
  | (with_reducible apply Z.er_slS); walk_at "e"; walk_at "o"; walk_at "o"; exact rfl; walk_at "z"
  | (with_reducible apply Z.er_slL); walk_at "e"; walk_at "o"; walk_at "o"; exact rfl
  | (with_reducible apply Z.er_list); walk_at "e"; exact rfl; exact rfl
  | (with_reducible apply Z.er_tupL); walk_at "e"; exact rfl
  | (with_reducible apply Z.er_un); walk_at "e"; exact rfl; exact rfl; exact rfl
  | (with_reducible apply Z.er_tst); walk_at "e"
  | (with_reducible apply Z.er_tru); walk_at "e"; exact rfl; exact rfl
  | (with_reducible apply Z.er_andT); walk_at "e"; (intro _h; walk_at "e")
  | (with_reducible apply Z.er_orT); walk_at "e"; (intro _h; walk_at "e")
  | (with_reducible apply Z.er_andTT); walk_at "e"; exact rfl; walk_at "e"
  | (with_reducible apply Z.er_orTF); walk_at "e"; exact rfl; walk_at "e"
  | (with_reducible apply Z.er_notT); walk_at "e"
  | (with_reducible apply Z.er_andV); walk_at "e"; (intro _h; walk_at "e")
  | (with_reducible apply Z.er_orV); walk_at "e"; (intro _h; walk_at "e")
  | (with_reducible apply Z.er_notV); walk_at "e"
  | (with_reducible apply Z.er_andVT); walk_at "e"; exact rfl; walk_at "e"
  | (with_reducible apply Z.er_orVF); walk_at "e"; exact rfl; walk_at "e"
  | (with_reducible apply Z.er_ix); walk_at "e"; walk_at "e"; exact rfl; walk_at "x"
  | (with_reducible apply Z.er_callS); walk_at "e"; exact rfl; walk_at "d"; exact rfl
  | (with_reducible apply Z.er_cons); walk_at "e"; walk_at "e"
  | (with_reducible apply Z.er_callG); walk_at "e"; exact rfl; exact rfl; walk_at "c"; exact rfl
  | (with_reducible apply Z.er_callH); walk_at "e"; exact rfl; exact rfl; walk_at "c"; exact rfl
  | (with_reducible apply Z.er_callV); walk_at "e"; exact rfl; walk_at "c"; exact rfl
  | (with_reducible apply Z.er_callGF); walk_at "e"; exact rfl; exact rfl; walk_at "c"; exact rfl
  | (with_reducible apply Z.er_callHF); walk_at "e"; exact rfl; exact rfl; walk_at "c"; exact rfl
  | (with_reducible apply Z.er_callM); walk_at "e"; exact rfl; exact rfl; exact rfl; exact rfl; exact rfl; walk_at "c"; exact rfl
  | (with_reducible apply Z.er_catL); walk_at "e"; walk_at "e"; exact rfl; exact rfl; walk_at "z"
  | (with_reducible apply Z.er_mt); walk_at "e"; exact rfl; exact rfl; walk_at "e"; exact rfl; exact rfl; walk_at "m"; exact rfl
  | (with_reducible apply Z.er_tup); walk_at "e"; exact rfl; walk_at "z" 
  | (with_reducible apply Z.er_lst); walk_at "e"; exact rfl; walk_at "z")
local macro_rules | `(tactic| walk_at "o") => `(tactic| first | exact Z.er_zoN | ((with_reducible apply Z.er_zoS); walk_at "e"))
local macro_rules | `(tactic| walk_at "x") => `(tactic| first | with_reducible assumption | (simp only [Z.Cn.d]; with_reducible assumption) | exact rfl)
local macro_rules | `(tactic| walk_at "m") => `(tactic| first | with_reducible assumption | (simp only [Z.Cn.d]; with_reducible assumption) | exact rfl)
local macro_rules | `(tactic| walk_at "st") => `(tactic| first
  | ((with_reducible apply Z.set_dat); (walk_at "e"); (exact rfl); walk_at "l")
  | ((with_reducible apply Z.set_own); (walk_at "e"); (exact Nat.le_of_ble_eq_true rfl); (exact rfl); (exact rfl); walk_at "l")
  | ((with_reducible apply Z.asg_run); (walk_at "e"); (exact rfl); walk_at "l")
  | ((with_reducible apply Z.aug_run); (exact rfl); (exact rfl); (walk_at "e"); (exact rfl); (walk_at "d"); (exact rfl); (exact rfl); walk_at "l")
  | ((with_reducible apply Z.sto_run); (walk_at "e"); (walk_at "e"); (walk_at "e"); (exact rfl); (walk_at "x"); walk_at "l")
  | ((with_reducible apply Z.app_run); (walk_at "e"); (exact rfl); (walk_at "e"); (exact rfl); (exact rfl); (walk_at "z"); walk_at "l"))
local macro_rules | `(tactic| walk_at "z") => `(tactic| first | assumption | exact Nat.le_of_ble_eq_true rfl | (simp; omega))
local macro_rules | `(tactic| walk_at "s") => `(tactic| first
  | with_reducible apply Z.sr_nx
  | with_reducible apply Z.sr_assoc
  | with_reducible apply Z.ap_fg
  | ((with_reducible apply Z.fgK_nx); (exact rfl); (walk_at "l"); skip)
  | ((with_reducible apply Z.fgK_ct); (exact rfl); (walk_at "l"); skip)
  | ((with_reducible apply Z.fgK_bk); (exact rfl); (walk_at "l"); skip)
  | with_reducible apply Z.fgK_ret
  | with_reducible apply Z.sr_bk1
  | with_reducible apply Z.sr_ct1
  | with_reducible apply Z.sr_nx1
  | with_reducible apply Z.sr_ct
  | with_reducible apply Z.sr_bk
  | (with_reducible apply Z.sr_retS); (walk_at "e"); skip
  | (with_reducible apply Z.sr_ret); (walk_at "e"); skip
  | (with_reducible apply Z.sr_if); (walk_at "e"); (walk_at "l")
  | (with_reducible apply Z.sr_if1); (walk_at "e"); (walk_at "l")
  | (with_reducible apply Z.seq_nx); (walk_at "st")
  | (with_reducible apply Z.one_nx); (walk_at "st"))
local macro_rules | `(tactic| walk_at "r") => `(tactic| repeat' (first | (intro _) | walk_at "s"))
local macro_rules | `(tactic| walk_at "k") => `(tactic| (intro q; (try simp only [decide_eq_true_eq, decide_eq_false_iff_not, beq_iff_eq, beq_eq_false_iff_ne, ne_eq, Bool.not_eq_true', Bool.not_eq_false', Bool.and_eq_true, Bool.or_eq_true, Bool.and_eq_false_iff, Bool.or_eq_false_iff, Int.not_lt, Int.not_le, List.cons.injEq, and_true, reduceCtorEq, beq_self_eq_true, Bool.not_true, Bool.not_false, Bool.or_false, Bool.false_or, Bool.or_true, Bool.true_or, Bool.and_false, Bool.false_and, Bool.and_true, Bool.true_and, not_true_eq_false, Bool.false_eq_true] at q) <;> (try (exfalso; first | (cases q; done) | omega | contradiction))))
local macro_rules | `(tactic| walk_at "w") => `(tactic| repeat' (first | (walk_at "k") | walk_at "s"))
set_option Elab.async false
set_option linter.all false
set_option maxRecDepth 100000
set_option maxHeartbeats 4000000
namespace Z
open PySem PySem.Spec PyProof.Rows L2
mutual
def D.rok : D → Bool
  | .non => true
  | .bl _ => true
  | .int i => decide (i.natAbs < 10 ^ 60)
  | .str s => s.all fun c => decide (c < 1114112)
  | .raw _ => false
  | .dic _ _ => false
  | .obj _ _ _ => false
  | .tup l => D.rokA l
  | .lst l => D.rokA l
def D.rokA : List D → Bool
  | [] => true
  | d :: l => d.rok && D.rokA l
end
mutual
def D.wt : D → Nat
  | .str s => s.length
  | .int _ => 200
  | .tup l => D.wtA l
  | .lst l => D.wtA l
  | _ => 0
def D.wtA : List D → Nat
  | [] => 0
  | d :: l => d.wt + 1 + D.wtA l
end
mutual
def D.dp : D → Nat
  | .tup l => D.dpA l + 1
  | .lst l => D.dpA l + 1
  | _ => 0
def D.dpA : List D → Nat
  | [] => 0
  | d :: l => max d.dp (D.dpA l)
end
theorem big60 {i : Int} (h : i.natAbs < 10 ^ 60) : i.natAbs.log2 < 200 := by
  by_cases z : i.natAbs = 0
  · rw [z]; decide
  · rw [Nat.log2_lt z]
    exact Nat.lt_trans h (by decide)
mutual
theorem rok_lay : ∀ d : D, d.rok = true → d.py.canLay0 = true ∧ d.py.showable = true ∧ d.py.intsShort 61 = true ∧ d.py.depth = d.dp ∧ d.py.weight ≤ d.wt
  | .non, _ => ⟨rfl, rfl, rfl, rfl, Nat.le_refl _⟩
  | .bl _, _ => ⟨rfl, rfl, rfl, rfl, Nat.le_refl _⟩
  | .int i, h => by
    have h : i.natAbs < 10 ^ 60 := of_decide_eq_true h
    have l := big60 h
    refine ⟨rfl, decide_eq_true (by omega), decide_eq_true ?_, rfl, ?_⟩
    · have e := int_text_length_le10 (k := 60) (by decide) h
      show (Str.ofString (toString i)).length ≤ 61
      rw [PySem.ofString_length]
      exact e
    · show (if (i == 0) = true then 0 else i.natAbs.log2 + 1) ≤ 200
      split <;> omega
  | .str s, h => by
    have h : (s.all fun c => decide (c < 1114112)) = true := h
    refine ⟨?_, rfl, rfl, rfl, ?_⟩
    · show PyData.strOk ⟨s.toArray⟩ = true
      simpa [PyData.strOk] using h
    · show s.toArray.size ≤ s.length
      simp
  | .raw _, h => by cases h
  | .dic _ _, h => by cases h
  | .obj _ _ _, h => by cases h
  | .tup l, h => by
    obtain ⟨a, b, c, d, e⟩ := rok_layA l h
    exact ⟨a, b, c, by show PyData.depthAll _ + 1 = D.dpA l + 1; rw [d], e⟩
  | .lst l, h => by
    obtain ⟨a, b, c, d, e⟩ := rok_layA l h
    exact ⟨a, b, c, by show PyData.depthAll _ + 1 = D.dpA l + 1; rw [d], e⟩
theorem rok_layA : ∀ l : List D, D.rokA l = true → PyData.canLayAll0 (D.pyA l) = true ∧ PyData.showableAll (D.pyA l) = true ∧ PyData.intsShortAll 61 (D.pyA l) = true ∧ PyData.depthAll (D.pyA l) = D.dpA l ∧ PyData.weightAll (D.pyA l) ≤ D.wtA l
  | [], _ => ⟨rfl, rfl, rfl, rfl, Nat.le_refl _⟩
  | d :: l, h => by
    have h : (d.rok && D.rokA l) = true := h
    rw [Bool.and_eq_true] at h
    obtain ⟨a1, b1, c1, d1, e1⟩ := rok_lay d h.1
    obtain ⟨a2, b2, c2, d2, e2⟩ := rok_layA l h.2
    refine ⟨?_, ?_, ?_, ?_, ?_⟩
    · show (PyData.canLay0 d.py && PyData.canLayAll0 (D.pyA l)) = true
      rw [a1, a2]; rfl
    · show (PyData.showable d.py && PyData.showableAll (D.pyA l)) = true
      rw [b1, b2]; rfl
    · show (PyData.intsShort 61 d.py && PyData.intsShortAll 61 (D.pyA l)) = true
      rw [c1, c2]; rfl
    · show max (PyData.depth d.py) (PyData.depthAll (D.pyA l)) = max d.dp (D.dpA l)
      rw [d1, d2]
    · show PyData.weight d.py + 1 + PyData.weightAll (D.pyA l) ≤ d.wt + 1 + D.wtA l
      omega
end
theorem rok_shp {d : D} (h : d.rok = true) (h2 : d.dp ≤ 60) : d.shp = true := by
  obtain ⟨a, _, _, e, _⟩ := rok_lay d h
  show (d.py.canLay0 && decide (d.py.depth ≤ 64)) = true
  rw [a, e, decide_eq_true (by omega)]
  rfl
/-- equal shapes compare -/
theorem dr_eqR {d e : D} (h : d.rok = true) (h2 : d.dp ≤ 60) (k : e.rok = true) (k2 : e.dp ≤ 60) : eqD d e = some (.bl (D.eqv d e)) := by
  unfold eqD eqOk
  rw [rok_shp h h2, rok_shp k k2]
  simp
theorem dr_neR {d e : D} (h : d.rok = true) (h2 : d.dp ≤ 60) (k : e.rok = true) (k2 : e.dp ≤ 60) : neqD d e = some (.bl (!D.eqv d e)) := by
  unfold neqD neOk
  rw [rok_shp h h2, rok_shp k k2]
  simp
abbrev stZ (s : Int) : Cn := .lst [.int s]
theorem to_eq {α : Type} {o : Option (α × G)} {r : α} {g g' : G} (h : o = some (r, g)) (e : g = g') : o = some (r, g') := by rw [h, e]
theorem to_eqR {α : Type} {o : Option α} {p p' : α} (h : o = some p) (e : p = p') : o = some p' := by rw [h, e]
def DigitOk (F : Cn → List D → Option (FR × Cn)) : Prop := ∀ s m : Int, 0 < m → m < 2 ^ 256 → F (stZ s) [.int m] = some (.dat (.int (s % m)), stZ (s / m))
theorem sign_at {signs : List Nat} {s N : Int} (hN : N = signs.length) (h0 : 0 < N) (hz : signs.length ≤ sizeLine) : ∃ c, ixD (.str signs) (s % N) = some (.str [c]) ∧ c ∈ signs := by
  obtain ⟨c, h1, h2⟩ := atI_lt (xs := signs) (Int.emod_nonneg s (show N ≠ 0 by omega)) (by rw [← hN]; exact Int.emod_lt_of_pos s h0)
  exact ⟨c, dr_ixS hz h1, h2⟩
/-- [signs[digit(state, N)] for k in range(m)] in a def of three names: the state, the signs, k -/
theorem draw_signs {F : Cn → List D → Option (FR × Cn)} (hF : DigitOk F) (signs : List Nat) {N : Int} (hN : N = signs.length) (h0 : 0 < N) (hz : signs.length ≤ 1000) (p : Bool) (s : Int) (m : Nat) (hm : m ≤ 100000) :
    ∃ (s' : Int) (acc : List Nat) (g3 : G), lcL (gN 2) zYes (zIx (zVar 1) (zCallM 0 F (zCons (zVar 0) (zCons (zC (.int N)) zNil)))) [2] 3 (rgD 0 m) [.own (stZ s) p false, .dat (.str signs), .un, .own (.lst []) false false] = some g3 ∧
      wipeG g3 [2] = [.own (stZ s') p false, .dat (.str signs), .un, .own (.lst (acc.map fun c => D.str [c])) false false] ∧ acc.length = m ∧ ∀ c ∈ acc, c ∈ signs := by
  have hzz : signs.length ≤ sizeLine := Nat.le_trans hz (by decide)
  have hmz : (100000 : Nat) < sizeLine := by decide
  obtain ⟨g3, e, s', acc, x, hg, hl, hc, hx⟩ := lcL_inv (tg := gN 2) (tt := zYes) (el := zIx (zVar 1) (zCallM 0 F (zCons (zVar 0) (zCons (zC (.int N)) zNil)))) (vs := [2]) (t := 3) (L := rgD 0 m)
    (fun i g => ∃ s' acc x, g = [.own (stZ s') p false, .dat (.str signs), x, .own (.lst (acc.map fun c => D.str [c])) false false] ∧ acc.length = i ∧ (∀ c ∈ acc, c ∈ signs) ∧ (x = .un ∨ ∃ d, x = .dat d)) 0
    [.own (stZ s) p false, .dat (.str signs), .un, .own (.lst []) false false] ⟨s, [], .un, rfl, rfl, fun _ h => (List.not_mem_nil h).elim, .inl rfl⟩
    (fun i g ⟨s', acc, x, hg, _, _, hx⟩ => by subst hg; rcases hx with rfl | ⟨d, rfl⟩ <;> rfl)
    (fun i d g hd ⟨s', acc, x, hg, hl, hc, hx⟩ => by
      obtain ⟨hi, rfl⟩ := rgD_at hd
      subst hg
      obtain ⟨c, hix, hcs⟩ := sign_at (s := s') hN h0 hzz
      have hdg := hF s' N h0 (by omega)
      refine ⟨[.own (stZ (s' / N)) p false, .dat (.str signs), .dat (.int (0 + (i : Int))), .own (.lst ((acc ++ [c]).map fun c => D.str [c])) false false], ⟨_, acc ++ [c], _, rfl, by simp; omega, fun y hy => ?_, .inr ⟨_, rfl⟩⟩, fun xs o k => ?_⟩
      · rcases List.mem_append.mp hy with h | h
        · exact hc y h
        · rw [List.mem_singleton.mp h]; exact hcs
      · have w : wipeG [.own (stZ s') p false, .dat (.str signs), x, .own (.lst (acc.map fun c => D.str [c])) false false] [2] = [.own (stZ s') p false, .dat (.str signs), .un, .own (.lst (acc.map fun c => D.str [c])) false false] := rfl
        refine lcL_go (by rcases hx with rfl | ⟨d, rfl⟩ <;> rfl) rfl rfl (el := zIx (zVar 1) (zCallM 0 F (zCons (zVar 0) (zCons (zC (.int N)) zNil)))) (r := .dat (.str [c])) (g3 := [.own (stZ (s' / N)) p false, .dat (.str signs), .dat (.int (0 + (i : Int))), .own (.lst (acc.map fun c => D.str [c])) false false]) ?_ rfl rfl (by rw [List.length_map]; omega) rfl (by rw [List.map_append] at k; exact k)
        apply to_eq
        walk_at "e"
        exact rfl)
  subst hg
  rw [rgD_len] at hl
  exact ⟨s', acc, _, e, rfl, by omega, hc⟩
theorem txs_signs' : ∀ acc : List Nat, txsD (acc.map fun c => D.str [c]) = some (acc.map fun c => [c])
  | [] => rfl
  | c :: r => by simp only [List.map_cons, txsD, txs_signs' r, Option.bind_eq_bind, Option.bind_some]
theorem join_signs' : ∀ acc : List Nat, TL.joinL [] (acc.map fun c => [c]) = acc
  | [] => rfl
  | [c] => rfl
  | c :: d :: r => by
    have := join_signs' (d :: r)
    simp only [List.map_cons, TL.joinL, List.nil_append] at this ⊢
    rw [this]
    rfl
theorem sum_signs' : ∀ acc : List Nat, ((acc.map fun c => [c]).map List.length).sum = acc.length
  | [] => rfl
  | c :: r => by
    have := sum_signs' r
    simp only [List.map_cons, List.sum_cons, List.length_cons, List.length_nil] at this ⊢
    omega
theorem dr_joinS (acc : List Nat) (h : acc.length ≤ 100000) : joinD (.str []) [.lst (acc.map fun c => D.str [c])] = some (.str acc) := by
  have : (100000 : Nat) ≤ sizeLine := by decide
  simp only [joinD, txs_signs', Option.bind_eq_bind, Option.bind_some, sum_signs', join_signs', List.length_nil, Nat.mul_zero, Nat.add_zero]
  rw [if_pos (by omega)]
/-- ''.join([signs[digit(state, N)] for k in range(digit(state, M))]) -/
theorem draw_word {F : Cn → List D → Option (FR × Cn)} (hF : DigitOk F) (signs : List Nat) {N M : Int} (hN : N = signs.length) (h0 : 0 < N) (hz : signs.length ≤ 1000) (hM : 0 < M) (hM2 : M ≤ 1000) (p : Bool) (s : Int) :
    ∃ (s' : Int) (acc : List Nat), zMt "str" joinD (zC (.str [])) (zCons (zLc (ziR1 (zCons (zCallM 0 F (zCons (zVar 0) (zCons (zC (.int M)) zNil))) zNil)) (gN 2) zYes (zIx (zVar 1) (zCallM 0 F (zCons (zVar 0) (zCons (zC (.int N)) zNil)))) [2]) zNil) [.own (stZ s) p false, .dat (.str signs), .un] =
      some (.dat (.str acc), [.own (stZ s') p false, .dat (.str signs), .un, .own (.lst (acc.map fun c => D.str [c])) false false]) ∧ (acc.length : Int) = s % M ∧ ∀ c ∈ acc, c ∈ signs := by
  obtain ⟨m, hm⟩ := Int.eq_ofNat_of_zero_le (Int.emod_nonneg s (show M ≠ 0 by omega))
  have hm2 := Int.emod_lt_of_pos s hM
  have hdg := hF s M hM (by omega)
  obtain ⟨s', acc, g3, e1, e2, e3, e4⟩ := draw_signs hF signs hN h0 hz p (s / M) m (by omega)
  refine ⟨s', acc, ?_, by rw [hm, e3], e4⟩
  have j := dr_joinS acc (by omega)
  have hr : (zCons (zCallM 0 F (zCons (zVar 0) (zCons (zC (.int M)) zNil))) zNil) [.own (stZ s) p false, .dat (.str signs), .un] = some ([.dat (.int (s % M))], [.own (stZ (s / M)) p false, .dat (.str signs), .un]) := by
    apply to_eq
    walk_at "e"
    exact rfl
  have q := er_lc (mi_R1 hr (rgOk_of (by omega) (by omega))) (show lcL (gN 2) zYes (zIx (zVar 1) (zCallM 0 F (zCons (zVar 0) (zCons (zC (.int N)) zNil)))) [2] 3 (rgD 0 (s % M).toNat) [.own (stZ (s / M)) p false, .dat (.str signs), .un, .own (.lst []) false false] = some g3 by rw [hm, Int.toNat_natCast]; exact e1) e2
  have q : zLc (ziR1 (zCons (zCallM 0 F (zCons (zVar 0) (zCons (zC (.int M)) zNil))) zNil)) (gN 2) zYes (zIx (zVar 1) (zCallM 0 F (zCons (zVar 0) (zCons (zC (.int N)) zNil)))) [2] [.own (stZ s) p false, .dat (.str signs), .un] = some (.bor 3, [.own (stZ s') p false, .dat (.str signs), .un, .own (.lst (acc.map fun c => D.str [c])) false false]) := q
  refine er_mt er_C rfl rfl (er_cons q er_nil) rfl rfl ?_ rfl
  exact j
theorem runM_post {n np k : Nat} {s : SM} {c : Cn} {ds : List D} {g : G} {post : FR → Cn → Prop} (hl : ds.length + 1 = np) (hk : k ≤ ds.length) (hg : startM n k c ds = g) (kx : ap (fun o => ∃ fr c', finM k o = some (fr, c') ∧ post fr c') (s g) = True) : ∃ fr c', runM n np k s c ds = some (fr, c') ∧ post fr c' := by
  unfold runM
  rw [if_pos ⟨hl, hk⟩, hg]
  exact of_eq_true kx
theorem end_postM {k : Nat} {post : FR → Cn → Prop} {o : Option (Fl × G)} {fr : FR} {c : Cn} (h : finM k o = some (fr, c)) (h2 : post fr c) : ap (fun o => ∃ fr c', finM k o = some (fr, c') ∧ post fr c') o = True := eq_true ⟨fr, c, h, h2⟩
/-- a sign from the blank to the tilde, but not the percent sign -/
def sg (c : Nat) : Prop := 32 ≤ c ∧ c ≤ 126 ∧ c ≠ 37
instance (c : Nat) : Decidable (sg c) := by unfold sg; exact inferInstance
/-- a drawn value: None, a bool, an int, a text of such signs -/
def DV (v : D) : Prop := match v with
  | .non => True
  | .bl _ => True
  | .int i => i.natAbs < 10 ^ 60
  | .str t => t.length ≤ 200 ∧ ∀ c ∈ t, sg c
  | _ => False
end Z
set_option Elab.async false
set_option linter.all false
set_option maxRecDepth 100000
set_option maxHeartbeats 4000000
namespace Z
open PySem PySem.Spec PyProof.Rows L2
end Z
set_option Elab.async false
set_option linter.all false
set_option maxRecDepth 100000
set_option maxHeartbeats 4000000
namespace Z
open PySem PySem.Spec PyProof.Rows L2
section
open PySem.SeqAt PySem.MeetsSeq PySem.MeetsSeq2 PySem.MeetsSeq3 Ob
open PySem.AutoSeq1 (wpAny_loadPart')
theorem tup_meet (p q : Addr) (us ws : Array Value) (n m : Nat) (c1 c2 : Option Addr) (t1 t2 : Array (Option Value)) (e r : Nat → Bool) :
    Meets (Builtin.«tuple.__lt__» ⟨[.ref p, .ref q], []⟩)
      (fun A R s => s.heap.get? p = some { cls := .type "tuple", dict := c1, data := .seq us n, slots := t1 } ∧ s.heap.get? q = some { cls := .type "tuple", dict := c2, data := .seq ws m, slots := t2 } ∧
        (∀ j (h1 : j < us.size) (h2 : j < ws.size), EqAt A.in1 s us[j] ws[j] (e j)) ∧
        (∀ j (h1 : j < us.size) (h2 : j < ws.size), (∀ i, i < j → e i = true) → e j = false → Ob.RcOp .Lt A.in1 s us[j] ws[j] (r j)) ∧
        R (.ok (.ret (.bool (lexAt e r (decide (us.size < ws.size)) 0 (min us.size ws.size))))) s) := by
  refine .of_wp fun prog w A R s hyp => ?_
  obtain ⟨hp, gg, dd, tk, os⟩ := s
  obtain ⟨atp, atq, eqs, lts, goal⟩ := hyp
  have subs := AutoSeq1.sub_tuple_tuple
  have zl : (us.toList.zip ws.toList).length = min us.size ws.size := by simp
  wp_walk using wpAny_loadPart' atp, wpAny_loadPart' atq, wpAny_forIn_list _ (fun left acc st => acc.1 = none ∧ st = ⟨hp, gg, dd, tk, os⟩ ∧ ∃ k, left = (us.toList.zip ws.toList).drop k ∧ (∀ i, i < k → e i = true) ∧
    R (.ok (.ret (.bool (lexAt e r (decide (us.size < ws.size)) k (min us.size ws.size - k))))) ⟨hp, gg, dd, tk, os⟩) _
  case turn =>
    rintro ⟨u1, w1⟩ left acc st ⟨_, rfl, k, hz, before, hR⟩
    have hk : k < (us.toList.zip ws.toList).length := by
      by_cases c : k < (us.toList.zip ws.toList).length
      · exact c
      · rw [List.drop_of_length_le (by omega)] at hz
        cases hz
    have hm : k < min us.size ws.size := zl ▸ hk
    have k1 : k < us.size := by omega
    have k2 : k < ws.size := by omega
    rw [List.drop_eq_getElem_cons hk] at hz
    injection hz with pair others
    have eu : u1 = us[k] := by simpa using congrArg Prod.fst pair
    have ew : w1 = ws[k] := by simpa using congrArg Prod.snd pair
    subst eu ew
    rw [show min us.size ws.size - k = (min us.size ws.size - (k + 1)) + 1 by omega, lexAt_succ] at hR
    refine wpAny_bind (eqs k k1 k2 prog w _ _ ?_)
    cases hek : e k with
    | true =>
      rw [hek, if_pos rfl] at hR
      wp_walk
      refine ⟨rfl, rfl, k + 1, others, fun i hi => ?_, hR⟩
      by_cases c : i = k
      · rw [c]; exact hek
      · exact before i (by omega)
    | false =>
      rw [hek, if_neg Bool.false_ne_true] at hR
      have now := lts k k1 k2 before hek prog w
      wp_walk using now
      exact ⟨_, rfl, by simpa using hR⟩
  case fin =>
    rintro ⟨a1, a2⟩ st ⟨ha, rfl, k, hz, _, hR⟩
    simp only at ha
    subst ha
    have over : min us.size ws.size ≤ k := by
      by_cases c : k < (us.toList.zip ws.toList).length
      · rw [List.drop_eq_getElem_cons c] at hz
        cases hz
      · omega
    rw [Nat.sub_eq_zero_of_le over, lexAt_zero] at hR
    wp_walk
    exact ⟨_, rfl, by simpa [Builtin.Tuple.tupleCompareSizes] using hR⟩
  case h =>
    exact ⟨rfl, rfl, 0, rfl, fun i hi => absurd hi (Nat.not_lt_zero i), by simpa using goal⟩
theorem tup_lt {A : Around} {s : Shared} {p q : Addr} {us ws : Array Value} {e r : Nat → Bool} (atp : s.heap.IsTuple p us) (atq : s.heap.IsTuple q ws) (room : A.units < cLine)
    (eqs : ∀ j (h1 : j < us.size) (h2 : j < ws.size), EqAt A.in1 s us[j] ws[j] (e j))
    (lts : ∀ j (h1 : j < us.size) (h2 : j < ws.size), (∀ i, i < j → e i = true) → e j = false → Ob.RcOp .Lt A.in1 s us[j] ws[j] (r j)) :
    Ob.RcOp .Lt A s (.ref p) (.ref q) (lexAt e r (decide (us.size < ws.size)) 0 (min us.size ws.size)) := by
  intro prog w E Q h
  obtain ⟨⟨k1, c1, d1, t1⟩, o1, rfl, n, rfl⟩ := id atp
  obtain ⟨⟨k2, c2, d2, t2⟩, o2, rfl, m, rfl⟩ := id atq
  exact richCompare_meets_room (op := .Lt) ⟨_, o1, rfl⟩ ⟨_, o2, rfl⟩ F.slot_tuple_lt F.entry_tuple_lt (F.args_tuple_lt_2 _ _) (tup_meet p q us ws n m c1 c2 t1 t2 e r) ⟨o1, o2, eqs, lts, ⟨nofun, h⟩⟩ room
mutual
def ltP : PyData → PyData → Option Bool
  | .int a, .int b => some (decide (a < b))
  | .str x, .str y => some (decide (x.cps.toList < y.cps.toList))
  | .tuple xs, .tuple ys => ltPs xs ys
  | _, _ => none
def ltPs : List PyData → List PyData → Option Bool
  | [], [] => some false
  | [], _ :: _ => some true
  | _ :: _, [] => some false
  | x :: xs, y :: ys => if PyData.eqv x y = true then ltPs xs ys else ltP x y
end
theorem reads_get {h : Heap} : ∀ {vs : List Value} {ds : List PyData} {as : List Addr}, ReadsAll h vs ds as → ∀ {j : Nat} (h1 : j < vs.length) (h2 : j < ds.length), ∃ bs, Reads h vs[j] ds[j] bs
  | _, _, _, .nil, j, h1, _ => absurd h1 (Nat.not_lt_zero j)
  | _, _, _, .cons r _, 0, _, _ => ⟨_, r⟩
  | _, _, _, .cons _ t, j + 1, h1, h2 => reads_get t (Nat.lt_of_succ_lt_succ h1) (Nat.lt_of_succ_lt_succ h2)
theorem reads_len {h : Heap} : ∀ {vs : List Value} {ds : List PyData} {as : List Addr}, ReadsAll h vs ds as → vs.length = ds.length
  | _, _, _, .nil => rfl
  | _, _, _, .cons _ t => congrArg Nat.succ (reads_len t)
theorem first_ne {b : Bool} : ∀ {xs ys : List PyData} {j : Nat} (h1 : j < xs.length) (h2 : j < ys.length), ltPs xs ys = some b → (∀ i (i1 : i < xs.length) (i2 : i < ys.length), i < j → PyData.eqv xs[i] ys[i] = true) → PyData.eqv xs[j] ys[j] = false → ltP xs[j] ys[j] = some b
  | x :: xs, y :: ys, 0, _, _, h, _, ne => by
    have ne : PyData.eqv x y = false := ne
    simp only [ltPs, ne, Bool.false_eq_true, if_false] at h
    exact h
  | x :: xs, y :: ys, j + 1, h1, h2, h, eqs, ne => by
    have e0 : PyData.eqv x y = true := eqs 0 (by simp) (by simp) (by omega)
    simp only [ltPs, e0, if_true] at h
    exact first_ne (xs := xs) (ys := ys) (j := j) (Nat.lt_of_succ_lt_succ h1) (Nat.lt_of_succ_lt_succ h2) h (fun i i1 i2 hi => eqs (i + 1) (Nat.succ_lt_succ i1) (Nat.succ_lt_succ i2) (by omega)) ne
theorem all_eq : ∀ {xs ys : List PyData}, (∀ i (i1 : i < xs.length) (i2 : i < ys.length), PyData.eqv xs[i] ys[i] = true) → ltPs xs ys = some (decide (xs.length < ys.length))
  | [], [], _ => rfl
  | [], _ :: _, _ => by simp [ltPs]
  | _ :: _, [], _ => by simp [ltPs]
  | x :: xs, y :: ys, eqs => by
    have e0 : PyData.eqv x y = true := eqs 0 (by simp) (by simp)
    have ih := all_eq (xs := xs) (ys := ys) fun i i1 i2 => eqs (i + 1) (Nat.succ_lt_succ i1) (Nat.succ_lt_succ i2)
    simp only [ltPs, e0, if_true, ih]
    simp
theorem lexAt_const {e : Nat → Bool} {z b : Bool} : ∀ (k i : Nat), (z = b ∨ ∃ j, i ≤ j ∧ j < i + k ∧ e j = false) → lexAt e (fun _ => b) z i k = b
  | 0, i, h => by
    rcases h with h | ⟨j, h1, h2, _⟩
    · exact h
    · omega
  | k + 1, i, h => by
    rw [lexAt_succ]
    cases he : e i with
    | false => rfl
    | true =>
      rw [if_pos rfl]
      refine lexAt_const k (i + 1) (h.imp id fun ⟨j, h1, h2, h3⟩ => ⟨j, ?_, by omega, h3⟩)
      have : j ≠ i := fun z => by rw [z, he] at h3; cases h3
      omega
theorem depth_mem {x : PyData} : ∀ {xs : List PyData} {j : Nat} (h : j < xs.length), xs[j].depth ≤ PyData.depthAll xs
  | y :: ys, 0, _ => by show PyData.depth y ≤ max (PyData.depth y) (PyData.depthAll ys); omega
  | y :: ys, j + 1, h => by
    have := depth_mem (x := x) (xs := ys) (j := j) (Nat.lt_of_succ_lt_succ h)
    show (ys[j]'(Nat.lt_of_succ_lt_succ h)).depth ≤ max (PyData.depth y) (PyData.depthAll ys)
    omega
theorem lay_mem : ∀ {xs : List PyData} {j : Nat} (h : j < xs.length), PyData.canLayAll0 xs = true → xs[j].canLay0 = true
  | y :: ys, 0, _, hl => by
    have hl : (PyData.canLay0 y && PyData.canLayAll0 ys) = true := hl
    exact (Bool.and_eq_true_iff.mp hl).1
  | y :: ys, j + 1, h, hl => by
    have hl : (PyData.canLay0 y && PyData.canLayAll0 ys) = true := hl
    exact lay_mem (xs := ys) (Nat.lt_of_succ_lt_succ h) (Bool.and_eq_true_iff.mp hl).2
theorem rc_lt : ∀ (n : Nat) (d e : PyData) (b : Bool) (A : Around) (s : Shared) (u v : Value) (as bs : List Addr), d.depth ≤ n → ltP d e = some b → Reads s.heap u d as → Reads s.heap v e bs → d.canLay0 = true → e.canLay0 = true → A.units + n < cLine → Ob.RcOp .Lt A s u v b := by
  intro n
  induction n with
  | zero =>
    intro d e b A s u v as bs hn h ru rv ld le room
    cases ru with
    | int i t =>
      cases rv with
      | int j t' => cases h; exact .lt_int i j t t'
      | _ => cases h
    | str x t =>
      cases rv with
      | str y t' => cases h; exact fun prog w E Q q => PySem.P.lt_str q
      | _ => cases h
    | tuple _ _ _ _ =>
      have hn : PyData.depthAll _ + 1 ≤ 0 := hn
      omega
    | _ => cases rv <;> cases h
  | succ n ih =>
    intro d e b A s u v as bs hn h ru rv ld le room
    cases ru with
    | int i t =>
      cases rv with
      | int j t' => cases h; exact .lt_int i j t t'
      | _ => cases h
    | str x t =>
      cases rv with
      | str y t' => cases h; exact fun prog w E Q q => PySem.P.lt_str q
      | _ => cases h
    | tuple h1 h2 h3 h4 =>
      rename_i p o vs n1 xs
      cases rv with
      | tuple g1 g2 g3 g4 =>
        rename_i q o' ws n2 ys
        have h : ltPs xs ys = some b := h
        have hn : PyData.depthAll xs + 1 ≤ n + 1 := hn
        have ld : PyData.canLayAll0 xs = true := by simpa only [PyData.canLay0] using ld
        have le : PyData.canLayAll0 ys = true := by simpa only [PyData.canLay0] using le
        have lx : vs.size = xs.length := by rw [← reads_len h4, Array.length_toList]
        have ly : ws.size = ys.length := by rw [← reads_len g4, Array.length_toList]
        have tp : s.heap.IsTuple p vs := ⟨o, h1, h2, n1, h3⟩
        have tq : s.heap.IsTuple q ws := ⟨o', g1, g2, n2, g3⟩
        have key := tup_lt (A := A) (s := s) (e := fun j => PyData.eqv (xs[j]?.getD .none) (ys[j]?.getD .none)) (r := fun _ => b) tp tq (by omega) (fun j j1 j2 => by
          have a1 : j < xs.length := by omega
          have a2 : j < ys.length := by omega
          obtain ⟨r1, w1⟩ := reads_get h4 (j := j) (by rw [Array.length_toList]; exact j1) a1
          obtain ⟨r2, w2⟩ := reads_get g4 (j := j) (by rw [Array.length_toList]; exact j2) a2
          have dep := depth_mem (x := .none) a1
          simp only [List.getElem?_eq_getElem a1, List.getElem?_eq_getElem a2, Option.getD_some]
          rw [Array.getElem_toList] at w1 w2
          exact eqAt_reads _ _ _ _ _ _ _ _ w1 w2 (lay_mem a1 ld) (lay_mem a2 le) (by show A.units + 1 + _ < cLine; omega)) (fun j j1 j2 bef ne => by
          have a1 : j < xs.length := by omega
          have a2 : j < ys.length := by omega
          obtain ⟨r1, w1⟩ := reads_get h4 (j := j) (by rw [Array.length_toList]; exact j1) a1
          obtain ⟨r2, w2⟩ := reads_get g4 (j := j) (by rw [Array.length_toList]; exact j2) a2
          have dep := depth_mem (x := .none) a1
          rw [Array.getElem_toList] at w1 w2
          simp only [List.getElem?_eq_getElem a1, List.getElem?_eq_getElem a2, Option.getD_some] at ne
          have lt := first_ne a1 a2 h (fun i i1 i2 hi => by
            have := bef i hi
            simpa only [List.getElem?_eq_getElem i1, List.getElem?_eq_getElem i2, Option.getD_some] using this) ne
          exact ih _ _ b _ _ _ _ _ _ (by omega) lt w1 w2 (lay_mem a1 ld) (lay_mem a2 le) (by show A.units + 1 + n < cLine; omega))
        have val : lexAt (fun j => PyData.eqv (xs[j]?.getD .none) (ys[j]?.getD .none)) (fun _ => b) (decide (vs.size < ws.size)) 0 (min vs.size ws.size) = b := by
          apply lexAt_const
          by_cases c : ∀ i (i1 : i < xs.length) (i2 : i < ys.length), PyData.eqv xs[i] ys[i] = true
          · left
            rw [lx, ly]
            have := all_eq c
            rw [h] at this
            exact (Option.some.inj this).symm
          · right
            simp only [Classical.not_forall] at c
            obtain ⟨i, i1, i2, c⟩ := c
            exact ⟨i, Nat.zero_le _, by omega, by simp only [List.getElem?_eq_getElem i1, List.getElem?_eq_getElem i2, Option.getD_some]; exact Bool.eq_false_iff.mpr c⟩
        rw [val] at key
        exact key
      | _ => cases h
    | _ => cases rv <;> cases h
end
mutual
def ltT : D → D → Option Bool
  | .int a, .int b => some (decide (a < b))
  | .str x, .str y => some (decide (x < y))
  | .tup xs, .tup ys => ltTs xs ys
  | _, _ => none
def ltTs : List D → List D → Option Bool
  | [], [] => some false
  | [], _ :: _ => some true
  | _ :: _, [] => some false
  | x :: xs, y :: ys => if D.eqv x y = true then ltTs xs ys else ltT x y
end
mutual
theorem ltT_py : ∀ d e : D, ∀ b, ltT d e = some b → ltP d.py e.py = some b
  | .int a, .int b, _, h => h
  | .str x, .str y, _, h => h
  | .tup xs, .tup ys, b, h => ltTs_py xs ys b h
  | .int _, .non, _, h | .int _, .bl _, _, h | .int _, .str _, _, h | .int _, .tup _, _, h | .int _, .lst _, _, h | .int _, .raw _, _, h | .int _, .dic _ _, _, h | .int _, .obj _ _ _, _, h => by cases h
  | .str _, .non, _, h | .str _, .bl _, _, h | .str _, .int _, _, h | .str _, .tup _, _, h | .str _, .lst _, _, h | .str _, .raw _, _, h | .str _, .dic _ _, _, h | .str _, .obj _ _ _, _, h => by cases h
  | .tup _, .non, _, h | .tup _, .bl _, _, h | .tup _, .int _, _, h | .tup _, .str _, _, h | .tup _, .lst _, _, h | .tup _, .raw _, _, h | .tup _, .dic _ _, _, h | .tup _, .obj _ _ _, _, h => by cases h
  | .non, _, _, h | .bl _, _, _, h | .lst _, _, _, h | .raw _, _, _, h | .dic _ _, _, _, h | .obj _ _ _, _, _, h => by cases h
theorem ltTs_py : ∀ l m : List D, ∀ b, ltTs l m = some b → ltPs (D.pyA l) (D.pyA m) = some b
  | [], [], _, h => h
  | [], _ :: _, _, h => h
  | _ :: _, [], _, h => h
  | x :: xs, y :: ys, b, h => by
    show (if PyData.eqv x.py y.py = true then ltPs (D.pyA xs) (D.pyA ys) else ltP x.py y.py) = some b
    rw [D.py_eqv]
    simp only [ltTs] at h
    split at h
    · rename_i c; rw [if_pos c]; exact ltTs_py xs ys b h
    · rename_i c; rw [if_neg c]; exact ltT_py x y b h
end
def ltX (d e : D) : Option D := match d, e with
  | .int i, .int j => some (.bl (decide (i < j)))
  | .str i, .str j => some (.bl (decide (i < j)))
  | .tup l, .tup m => if ((D.tup l).shp && (D.tup m).shp) = true then (ltTs l m).map D.bl else none
  | _, _ => none
def rLtD (K : PySem.W.Frag) : R2 := fun x y H Q => ∃ d e b, Dp K H x d ∧ Dp K H y e ∧ SeqAt.shaped d = true ∧ SeqAt.shaped e = true ∧ ltP d e = some b ∧ Q (.bl b) H
theorem op_ltD {X : Cx} (room : X.A.units + 64 < cLine) : OpR X (compareOp .Lt) (rLtD X.K) := by
  intro pins s σ H x y v u Q I rx ry h
  obtain ⟨d, e, b, hd, he, sd, se, lt, q⟩ := h
  obtain ⟨as, r1⟩ := Dp.reads I d x v hd rx
  obtain ⟨bs, r2⟩ := Dp.reads I e y u he ry
  have key := rc_lt 64 d e b X.A s _ _ _ _ (SeqAt.depth_of_shaped sd) lt r1 r2 (SeqAt.canLay_of_shaped sd) (SeqAt.canLay_of_shaped se) room
  exact key X.prog X.w _ _ ⟨.bl _, H, I, rfl, q⟩
theorem o_ltX {X : Cx} {k : Nat} (hr : Room k X.A) : OpR X (compareOp .Lt) (fun x y H Q => rLtU x y H Q ∨ rLtD X.K x y H Q) := OpR.or o_lt (op_ltD hr.units)
theorem s_ltX {K : PySem.W.Frag} : OpS K (fun x y H Q => rLtU x y H Q ∨ rLtD K x y H Q) ltX := by
  intro H x y d e z Q hx hy h q
  unfold ltX at h
  split at h
  · rename_i i j
    exact .inl (s_lt H x y _ _ z Q hx hy (show ltD (.int i) (.int j) = some z from h) q)
  · rename_i i j
    exact .inl (s_lt H x y _ _ z Q hx hy (show ltD (.str i) (.str j) = some z from h) q)
  · rename_i l m
    split at h
    · rename_i c
      rw [Bool.and_eq_true] at c
      rw [Option.map_eq_some_iff] at h
      obtain ⟨b, hb, rfl⟩ := h
      exact .inr ⟨_, _, b, hx.dp (SeqAt.canLay_of_shaped c.1), hy.dp (SeqAt.canLay_of_shaped c.2), c.1, c.2, ltTs_py l m b hb, q⟩
    · cases h
  · cases h
end Z
set_option Elab.async false
set_option linter.all false
set_option maxRecDepth 100000
set_option maxHeartbeats 4000000
namespace Z
open PySem PySem.Spec PyProof.Rows L2
def kd : D → Nat
  | .non => 0
  | .bl _ => 1
  | .int _ => 2
  | _ => 3
def kx : D → D
  | .non => .int 0
  | .bl b => .int (if b then 1 else 0)
  | d => d
def rk (v : D) : D := .tup [.int (kd v : Nat), kx v]
def sameV (v w : D) : Bool := D.eqv (rk v) (rk w)
theorem sameV_eq (v w : D) : sameV v w = (decide (kd v = kd w) && D.eqv (kx v) (kx w)) := by
  show ((((kd v : Nat) : Int) == ((kd w : Nat) : Int)) && (D.eqv (kx v) (kx w) && true)) = _
  rw [Bool.and_true]
  congr 1
  rw [Bool.eq_iff_iff]
  simp
  omega
def sameR (L M : List D) : Bool := D.eqvA (L.map rk) (M.map rk)
end Z
set_option Elab.async false
set_option linter.all false
set_option maxRecDepth 100000
set_option maxHeartbeats 4000000
namespace Z
open PySem PySem.Spec PyProof.Rows L2
end Z
set_option Elab.async false
set_option linter.all false
set_option maxRecDepth 100000
set_option maxHeartbeats 4000000
namespace Z
open PySem PySem.Spec PyProof.Rows L2
end Z
set_option Elab.async false
set_option linter.all false
set_option maxRecDepth 100000
set_option maxHeartbeats 4000000
namespace Z
open PySem PySem.Spec PyProof.Rows L2
end Z
set_option Elab.async false
set_option linter.all false
set_option maxRecDepth 100000
set_option maxHeartbeats 4000000
namespace Z
open PySem PySem.Spec PyProof.Rows L2
end Z
set_option Elab.async false
set_option linter.all false
set_option maxRecDepth 100000
set_option maxHeartbeats 4000000
namespace Z
open PySem PySem.Spec PyProof.Rows L2
end Z
set_option Elab.async false
set_option linter.all false
set_option maxRecDepth 100000
set_option maxHeartbeats 4000000
namespace Z
open PySem PySem.Spec PyProof.Rows L2
end Z
set_option Elab.async false
set_option linter.all false
set_option maxRecDepth 100000
set_option maxHeartbeats 4000000
namespace Z
open PySem PySem.Spec PyProof.Rows L2
abbrev Tab := List (List Nat × (List D → Option FR))
def look : Tab → List Nat → Option (List D → Option FR)
  | [], _ => none
  | (k, F) :: t, s => if k = s then some F else look t s
def inE (es : Array DictEntry) (s : Str) : Option Value := findBy (fun k v => v.isStr k) es s
section
variable (P : Program) (w : World) (K : PySem.W.Frag) (mg : Str → Option Value) (base : Heap)
def FnAt (k : Nat) (f : Addr) (sp : Sp) : Prop := ∃ (fd : FuncData) (ps : List Str), PySem.W.keepIn K (.ref f) = true ∧ Binds K fd ps [] ∧ FnOk P w K mg base CX0 k f fd ps sp
def TabIn (k : Nat) (es : Array DictEntry) (tab : Tab) : Prop := ∀ s F, look tab s = some F → ∃ f, inE es ⟨s.toArray⟩ = some (.ref f) ∧ FnAt P w K mg base k f (spP K F)
def TabOk (k : Nat) (x : Str) (tab : Tab) : Prop := ∃ (a : Addr) (es : Array DictEntry) (ep : Nat) (sl : Array (Option Value)),
  mg x = some (.ref a) ∧ K.lookup a = some ⟨.type "dict", none, .dict es ep, sl⟩ ∧ (es.all fun e => isExactStrKey e.key) = true ∧ TabIn P w K mg base k es tab
end
section
variable {P : Program} {w : World} {K : PySem.W.Frag} {mg : Str → Option Value} {base : Heap}
theorem FnAt.mono {j k : Nat} {f : Addr} {sp : Sp} (h : FnAt P w K mg base j f sp) (le : j ≤ k) : FnAt P w K mg base k f sp :=
  let ⟨fd, ps, a, b, c⟩ := h
  ⟨fd, ps, a, b, c.mono le⟩
theorem Cal.at {k : Nat} {x : Str} {sp : Sp} {f : Addr} (c : Cal P w K mg base k x sp) (hm : mg x = some (.ref f)) : FnAt P w K mg base k f sp := by
  obtain ⟨g, fd, ps, h1, h2, h3, h4⟩ := c
  rw [h1] at hm
  cases hm
  exact ⟨fd, ps, h2, h3, h4⟩
end
end Z
set_option Elab.async false
set_option linter.all false
set_option maxRecDepth 100000
set_option maxHeartbeats 4000000
namespace Z
open PySem PySem.Spec PyProof.Rows L2
end Z
set_option Elab.async false
set_option linter.all false
set_option maxRecDepth 100000
set_option maxHeartbeats 4000000
namespace Z
open PySem PySem.Spec PyProof.Rows L2
end Z
set_option Elab.async false
set_option linter.all false
set_option maxRecDepth 100000
set_option maxHeartbeats 4000000
namespace Z
open PySem PySem.Spec PyProof.Rows L2
def VW (v : D) : Prop := match v with
  | .non => True
  | .bl _ => True
  | .int i => i.natAbs ≤ 10 ^ 15
  | .str t => t.length ≤ 10000 ∧ ∀ c ∈ t, c < 128
  | _ => False
theorem VW.scal {v : D} (h : VW v) : v.scal = true := by cases v <;> first | exact h.elim | rfl
theorem VW.rok {v : D} (h : VW v) : v.rok = true ∧ v.dp = 0 := by
  cases v with
  | non => exact ⟨rfl, rfl⟩
  | bl b => exact ⟨rfl, rfl⟩
  | int i => exact ⟨decide_eq_true (Nat.lt_of_le_of_lt (show i.natAbs ≤ 10 ^ 15 from h) (by decide)), rfl⟩
  | str t =>
    obtain ⟨h1, h2⟩ := (show t.length ≤ 10000 ∧ ∀ c ∈ t, c < 128 from h)
    refine ⟨?_, rfl⟩
    show (t.all fun c => decide (c < 1114112)) = true
    rw [List.all_eq_true]
    intro c hc
    exact decide_eq_true (Nat.lt_trans (h2 c hc) (by decide))
  | tup _ => exact h.elim
  | lst _ => exact h.elim
  | raw _ => exact h.elim
  | dic _ _ => exact h.elim
  | obj _ _ _ => exact h.elim
theorem rk_rokW {v : D} (h : VW v) : (rk v).rok = true ∧ (rk v).dp = 1 ∧ True := by
  have f := h.rok
  cases v with
  | non => exact ⟨by decide, rfl, trivial⟩
  | bl b => cases b <;> exact ⟨by decide, rfl, trivial⟩
  | int i =>
    refine ⟨?_, rfl, trivial⟩
    show (decide ((2 : Int).natAbs < 10 ^ 60) && ((D.int i).rok && true)) = true
    rw [f.1, decide_eq_true (by decide)]; rfl
  | str t =>
    refine ⟨?_, rfl, trivial⟩
    show (decide ((3 : Int).natAbs < 10 ^ 60) && ((D.str t).rok && true)) = true
    rw [f.1, decide_eq_true (by decide)]; rfl
  | tup _ => exact h.elim
  | lst _ => exact h.elim
  | raw _ => exact h.elim
  | dic _ _ => exact h.elim
  | obj _ _ _ => exact h.elim
theorem eq_rkW {v w : D} (hv : VW v) (hw : VW w) : eqD (rk v) (rk w) = some (.bl (sameV v w)) := by
  obtain ⟨a1, b1, _⟩ := rk_rokW hv
  obtain ⟨a2, b2, _⟩ := rk_rokW hw
  exact dr_eqR a1 (by omega) a2 (by omega)
theorem ne_rkW {v w : D} (hv : VW v) (hw : VW w) : neqD (rk v) (rk w) = some (.bl (!sameV v w)) := by
  obtain ⟨a1, b1, _⟩ := rk_rokW hv
  obtain ⟨a2, b2, _⟩ := rk_rokW hw
  exact dr_neR a1 (by omega) a2 (by omega)
theorem triR_selfW {L : List D} (hL : ∀ v ∈ L, VW v) : sameR L L = true := by
  have h : ∀ v, VW v → sameV v v = true := fun v hv => by
    rw [sameV_eq, decide_eq_true rfl, Bool.true_and]
    cases v <;> first | exact hv.elim | rfl | exact beq_self_eq_true _
  induction L with
  | nil => rfl
  | cons v L ih =>
    show (sameV v v && sameR L L) = true
    rw [h v (hL v List.mem_cons_self), ih fun x hx => hL x (List.mem_cons_of_mem _ hx)]
    rfl
end Z
set_option Elab.async false
set_option linter.all false
set_option maxRecDepth 100000
set_option maxHeartbeats 4000000
namespace Z
open PySem PySem.Spec PyProof.Rows L2
end Z
set_option Elab.async false
set_option linter.all false
set_option maxRecDepth 100000
set_option maxHeartbeats 4000000
namespace Z
open PySem PySem.Spec PyProof.Rows L2
section
variable {X : Cx} {o e a b : Expr} {apos pos : Pos} {mo me ma mb : ZM}
def blsD : List D → Option (List Bool)
  | [] => some []
  | .bl x :: r => do
    let t ← blsD r
    some (x :: t)
  | _ :: _ => none
theorem dzA_bls {K : PySem.W.Frag} {H : Hp} : ∀ {vs : List V} {ds : List D} {bs : List Bool}, DzA K H vs ds → blsD ds = some bs → vs = bs.map V.bl
  | [], [], bs, _, e => by cases e; rfl
  | _ :: _, [], _, h, _ => by cases h
  | [], _ :: _, _, h, _ => by cases h
  | v :: vs, d :: ds, bs, h, e => by
    cases h with
    | cons h1 h2 =>
      cases d with
      | bl x =>
        simp only [blsD, Option.bind_eq_bind, Option.bind_eq_some_iff] at e
        obtain ⟨t, e1, e⟩ := e
        cases e
        cases h1
        rw [dzA_bls h2 e1]
        rfl
      | _ => cases e
theorem blsD_of : ∀ bs : List Bool, blsD (bs.map D.bl) = some bs
  | [] => rfl
  | b :: bs => by simp only [List.map_cons, blsD, blsD_of bs, Option.bind_eq_bind, Option.bind_some]
def anyL : List D → Option D
  | [.lst l] => (blsD l).map fun bs => .bl (bs.any id)
  | _ => none
theorem s_anyL {K : PySem.W.Frag} : CallS K (rAny K) anyL := by
  intro H vs ds z Q hz ev q
  unfold anyL at ev
  split at ev
  · rw [Option.map_eq_some_iff] at ev
    obtain ⟨bs, h1, rfl⟩ := ev
    cases hz with
    | cons h t =>
      cases t
      cases h with
      | lst hs ha => exact ⟨_, bs, rfl, by rw [← dzA_bls ha h1]; exact hs, q⟩
  · cases ev
theorem dr_any (bs : List Bool) : anyL [.lst (bs.map D.bl)] = some (.bl (bs.any id)) := by
  simp only [anyL, blsD_of, Option.map_some]
end
end Z
set_option Elab.async false
set_option linter.all false
set_option maxRecDepth 100000
set_option maxHeartbeats 4000000
namespace Z
open PySem PySem.Spec PyProof.Rows L2
def ziU (n : Nat) (m : ZM) : MI := fun g => match m g with
  | some (.dat (.tup _), _) => ziT m g
  | some (.dat (.str _), _) => ziS m g
  | _ => ziL n m g
theorem zi_any {X : Cx} {tg l : Expr} {m : ZM} (hl : ZE X l m) : ZI X tg l (ziU X.N.length m) := by
  refine ⟨fun pins s σ H Rr I ⟨C, Hs, A, g, L, lk, g', hK, hn, ok, e, q⟩ => ?_⟩
  unfold ziU at e
  split at e
  · exact (zi_tup hl).run pins s σ H Rr I ⟨C, Hs, A, g, L, lk, g', hK, hn, ok, e, q⟩
  · exact (zi_str hl).run pins s σ H Rr I ⟨C, Hs, A, g, L, lk, g', hK, hn, ok, e, q⟩
  · exact (zi_list hl).run pins s σ H Rr I ⟨C, Hs, A, g, L, lk, g', hK, hn, ok, e, q⟩
section
variable {m : ZM} {g g1 : G} {n j : Nat}
theorem mi_UT {L : List D} (h1 : m g = some (.dat (.tup L), g1)) : ziU n m g = some (L, none, g1) := by
  unfold ziU; rw [h1]; exact mi_T h1
end
end Z
set_option Elab.async false
set_option linter.all false
set_option maxRecDepth 100000
set_option maxHeartbeats 4000000
namespace Z
open PySem PySem.Spec PyProof.Rows L2
end Z
set_option Elab.async false
set_option linter.all false
set_option maxRecDepth 100000
set_option maxHeartbeats 4000000
namespace Z
open PySem PySem.Spec PyProof.Rows L2
end Z
set_option Elab.async false
set_option linter.all false
set_option maxRecDepth 100000
set_option maxHeartbeats 4000000
namespace PySem
open Sem (wp)
end PySem
namespace Z
open PySem PySem.Spec PyProof.Rows L2
end Z
set_option Elab.async false
set_option linter.all false
set_option maxRecDepth 100000
set_option maxHeartbeats 4000000
namespace Z
open PySem PySem.Spec PyProof.Rows L2
end Z
namespace Z
open PySem PySem.Spec PyProof.Rows L2
end Z
set_option Elab.async false
set_option linter.all false
set_option maxRecDepth 100000
set_option maxHeartbeats 4000000
namespace Z
open PySem PySem.Spec PyProof.Rows L2
end Z
set_option Elab.async false
set_option linter.all false
set_option maxRecDepth 100000
set_option maxHeartbeats 4000000
namespace Z
open PySem PySem.Spec PyProof.Rows L2
section
variable {C : Ct} {Hs : Hp} {A : List Addr} {g g' : List Sl} {σ : L2.St} {H H' : Hp} {j : Nat}
theorem KdOk.at {K : PySem.W.Frag} {Hs H : Hp} : ∀ {ks : List Addr} {ls : List (List D)} {k : Nat} {b : Addr}, KdOk K Hs H ks ls → ks[k]? = some b → ∃ l us, ls[k]? = some l ∧ H b = some (.lst us) ∧ DzA K Hs us l
  | b :: bs, l :: ls, 0, _, h, e => by
    cases e
    obtain ⟨us, h1, h2⟩ := h.1
    exact ⟨l, us, rfl, h1, h2⟩
  | b :: bs, l :: ls, k + 1, _, h, e => KdOk.at (k := k) h.2 e
  | [], _, k, _, _, e => by simp at e
  | _ :: _, [], _, _, h, _ => h.elim
theorem KdOk.put {K : PySem.W.Frag} {Hs H : Hp} {l' : List D} {us' : List V} (hz : DzA K Hs us' l') : ∀ {ks : List Addr} {ls : List (List D)} {k : Nat} {b : Addr}, KdOk K Hs H ks ls → ks.Nodup → ks[k]? = some b → KdOk K Hs (upd H b (.lst us')) ks (ls.set k l')
  | b :: bs, l :: ls, 0, _, h, nd, e => by
    cases e
    have nd := List.nodup_cons.mp nd
    exact ⟨⟨us', upd_same, hz⟩, KdOk.move (Same.refl _) h.2 fun x m o q => by rw [upd_ne (fun z => nd.1 (by rw [← z]; exact m))]; exact q⟩
  | b :: bs, l :: ls, k + 1, b', h, nd, e => by
    have nd := List.nodup_cons.mp nd
    have m : b' ∈ bs := List.mem_of_getElem? (i := k) e
    obtain ⟨us, h1, h2⟩ := h.1
    exact ⟨⟨us, by rw [upd_ne (fun z => nd.1 (by rw [z]; exact m))]; exact h1, h2⟩, KdOk.put (k := k) hz h.2 nd.2 e⟩
  | [], _, k, _, _, _, e => by simp at e
  | _ :: _, [], _, _, h, _, _ => h.elim
theorem KdOk.snoc {K : PySem.W.Frag} {Hs H : Hp} {b : Addr} {us : List V} {l : List D} (e : H b = some (.lst us)) (z : DzA K Hs us l) : ∀ {ks : List Addr} {ls : List (List D)}, KdOk K Hs H ks ls → KdOk K Hs H (ks ++ [b]) (ls ++ [l])
  | [], [], _ => ⟨⟨us, e, z⟩, trivial⟩
  | _ :: _, _ :: _, h => ⟨h.1, KdOk.snoc e z h.2⟩
  | [], _ :: _, h => h.elim
  | _ :: _, [], h => h.elim
end
end Z
set_option Elab.async false
set_option linter.all false
set_option maxRecDepth 100000
set_option maxHeartbeats 4000000
namespace Z
open PySem PySem.Spec PyProof.Rows L2
end Z
set_option Elab.async false
set_option linter.all false
set_option maxRecDepth 100000
set_option maxHeartbeats 4000000
namespace Z
open PySem PySem.Spec PyProof.Rows L2
end Z
set_option Elab.async false
set_option linter.all false
set_option maxRecDepth 100000
set_option maxHeartbeats 4000000
namespace ZS
open PySem PyProof.Rows Srt SrtO
end ZS
set_option Elab.async false
set_option linter.all false
set_option maxRecDepth 100000
set_option maxHeartbeats 4000000
namespace ZS
open PySem PyProof.Rows Srt SrtO
section
variable {α β : Type}
def ins (lt : α → α → Bool) (x : α) : List α → List α
  | [] => [x]
  | y :: l => if lt y x = true then y :: ins lt x l else x :: y :: l
variable {lt : α → α → Bool} {lt' : β → β → Bool}
end
end ZS
set_option Elab.async false
set_option linter.all false
set_option maxRecDepth 100000
set_option maxHeartbeats 4000000
namespace ZN
open PySem PySem.Spec PyProof.Rows L2
/-- the tuple at a is the key k -/
def NK (h : Heap) (k : NestedKey) (a : Addr) : Prop := NestedIs h k (.ref a) ∧ k.depth ≤ 8
end ZN
set_option Elab.async false
set_option linter.all false
set_option maxRecDepth 100000
set_option maxHeartbeats 4000000
namespace ZN
open PySem PySem.Spec PyProof.Rows L2
/-- the rows of the table -/
def cells (w : World) (L : List (Addr × NestedKey)) : List (Int × Value) := L.map fun p => (p.2.hash w, .ref p.1)
/-- the set at a holds the keys L -/
structure NS (w : World) (h : Heap) (a : Addr) (L : List (Addr × NestedKey)) (es : Array (Int × Value)) (ep : Nat) (t : SetTable) : Prop where
  obj : ∃ o, h.get? a = some o ∧ o.ExactSet ∧ o.data = .set es ep t
  lay : es.toList = cells w L
  tab : TabOk t (L.map fun p => p.2.hash w)
  one : (L.map (·.2)).Nodup
  mem : ∀ p ∈ L, NK h p.2 p.1
  room : L.length * 5 < t.mask * 3
  few : L.length < 64
section
variable {P : Program} {w : World} {A : Around} {E : Value → Shared → Prop} {s : Shared} {a : Addr} {L : List (Addr × NestedKey)} {es : Array (Int × Value)} {ep : Nat} {t : SetTable}
theorem NS.size (R : NS w s.heap a L es ep t) : es.size = L.length := by
  rw [← Array.length_toList, R.lay, cells, List.length_map]
end
end ZN
set_option Elab.async false
set_option linter.all false
set_option maxRecDepth 100000
set_option maxHeartbeats 4000000
namespace ZN
open PySem PySem.Spec PyProof.Rows L2
theorem NK.keep {h h' : Heap} {x : Addr} {k : NestedKey} (hk : NK h k x) (keep : ∀ b o, h.get? b = some o → h'.get? b = some o) : NK h' k x := ⟨NestedIs.at (fun b u _ _ hb _ => keep b u hb) k _ hk.1, hk.2⟩
section
variable {P : Program} {w : World} {A : Around} {E : Value → Shared → Prop} {s : Shared} {a : Addr} {L : List (Addr × NestedKey)} {es : Array (Int × Value)} {ep : Nat} {t : SetTable}
theorem NS.typeIs (R : NS w s.heap a L es ep t) : s.TypeIs (.ref a) "set" := let ⟨o, ho, hc, _⟩ := R.obj; ⟨o, ho, hc.1⟩
theorem NS.at (R : NS w s.heap a L es ep t) {h' : Heap} (keep : ∀ b o, s.heap.get? b = some o → h'.get? b = some o) : NS w h' a L es ep t :=
  let ⟨o, ho, hc⟩ := R.obj
  ⟨⟨o, keep _ _ ho, hc⟩, R.lay, R.tab, R.one, fun p m => (R.mem p m).keep keep, R.room, R.few⟩
end
end ZN
set_option Elab.async false
set_option linter.all false
set_option maxRecDepth 100000
set_option maxHeartbeats 4000000
namespace ZN
open PySem PySem.Spec PyProof.Rows L2 Z
/-- NS without the members' own objects -/
structure NS0 (w : World) (h : Heap) (a : Addr) (L : List (Addr × NestedKey)) : Prop where
  ex : ∃ es ep t, (∃ o, h.get? a = some o ∧ o.ExactSet ∧ o.data = .set es ep t) ∧ es.toList = cells w L ∧ TabOk t (L.map fun p => p.2.hash w) ∧ L.length * 5 < t.mask * 3
  one : (L.map (·.2)).Nodup
  few : L.length < 64
theorem NS.low {w : World} {h : Heap} {a : Addr} {L : List (Addr × NestedKey)} {es : Array (Int × Value)} {ep : Nat} {t : SetTable} (R : NS w h a L es ep t) : NS0 w h a L := ⟨⟨es, ep, t, R.obj, R.lay, R.tab, R.room⟩, R.one, R.few⟩
mutual
def nkD : D → Option NestedKey
  | .non => some .none
  | .bl b => some (.num (if b = true then 1 else 0))
  | .int i => some (.num i)
  | .str x => some (.text ⟨x.toArray⟩)
  | .tup l => match nkDs l with
    | some ks => some (.tup ks)
    | none => none
  | _ => none
def nkDs : List D → Option (List NestedKey)
  | [] => some []
  | d :: ds => match nkD d, nkDs ds with
    | some k, some ks => some (k :: ks)
    | _, _ => none
end
section
variable {X : Cx} {pins : List (Addr × Obj)} {σ : L2.St} {H : Hp} {s : Shared}
mutual
theorem nk_is (I : Inv X pins σ H s) : ∀ {v : V} {d : D} {u : Value} {k : NestedKey}, Dz X.K H v d → RelV v u → nkD d = some k → NestedIs s.heap k u
  | _, _, _, _, .non, r, e => by
    simp only [nkD] at e
    cases e
    obtain rfl : _ = Value.none := r
    exact .none
  | _, _, _, _, .bl b, r, e => by
    simp only [nkD] at e
    cases e
    obtain rfl : _ = Value.bool b := r
    exact .bool rfl
  | _, _, _, _, .int i, r, e => by
    simp only [nkD] at e
    cases e
    obtain ⟨t, rfl⟩ := r
    exact .int i t
  | _, _, _, _, .str x, r, e => by
    simp only [nkD] at e
    cases e
    obtain ⟨t, rfl⟩ := r
    exact .text _ t
  | _, _, _, _, .tup (a := a) sq zs, r, e => by
    simp only [nkD] at e
    split at e
    · rename_i ks hk
      cases e
      obtain rfl : _ = Value.ref a := r
      obtain ⟨its, rv, ⟨o, ho, hc, n, hd⟩, _⟩ := I.tuple sq
      exact .tup ho hc hd (by simpa using nk_all I zs rv hk)
    · cases e
  | _, _, _, _, .lst _ _, _, e => by simp [nkD] at e
  | _, _, _, _, .raw _, _, e => by simp [nkD] at e
  | _, _, _, _, .dic _ _ _, _, e => by simp [nkD] at e
  | _, _, _, _, .obj _ _ _ _, _, e => by simp [nkD] at e
theorem nk_all (I : Inv X pins σ H s) : ∀ {vs : List V} {ds : List D} {us : List Value} {ks : List NestedKey}, DzA X.K H vs ds → Vals vs us → nkDs ds = some ks → NestedAll s.heap ks us
  | _, _, _, _, .nil, r, e => by
    simp only [nkDs] at e
    cases e
    cases r
    exact .nil
  | _, _, _, _, .cons z zs, r, e => by
    simp only [nkDs] at e
    split at e
    · rename_i k ks h1 h2
      cases e
      cases r with
      | cons r rs => exact .cons (nk_is I z r h1) (nk_all I zs rs h2)
    · cases e
end
/-- the tracked tuple at b is the key k -/
def KeyH (K : PySem.W.Frag) (H : Hp) (k : NestedKey) (b : Addr) : Prop := ∃ d, Dz K H (.ref b) d ∧ nkD d = some k ∧ k.depth ≤ 8
theorem KeyH.mono {K : PySem.W.Frag} {H H' : Hp} {k : NestedKey} {b : Addr} (h : KeyH K H k b) (e : Same H H') : KeyH K H' k b := let ⟨d, z, r⟩ := h; ⟨d, z.mono e, r⟩
theorem KeyH.nk {k : NestedKey} {b : Addr} (h : KeyH X.K H k b) (I : Inv X pins σ H s) : NK s.heap k b := let ⟨_, z, e, r⟩ := h; ⟨nk_is I z rfl e, r⟩
end
end ZN
set_option Elab.async false
set_option linter.all false
set_option maxRecDepth 100000
set_option maxHeartbeats 4000000
namespace ZN
open PySem PySem.Spec PyProof.Rows L2 Z
theorem same_upd {H H' : Hp} {x : Addr} {o : HO} (s : Same H H') (n : H x = none) : Same H (upd H' x o) := fun b u e => by
  rw [upd_ne (fun z => by rw [z, n] at e; cases e)]
  exact s b u e
theorem set3 {σ : L2.St} {i j : Nat} {v : Option V} (h : i ≠ j) : (σ.set j v)[i]? = σ[i]? := List.getElem?_set_ne (Ne.symm h)
end ZN
set_option Elab.async false
set_option linter.all false
set_option maxRecDepth 100000
set_option maxHeartbeats 4000000
namespace Z
open PySem PySem.Spec PyProof.Rows L2
end Z
set_option Elab.async false
set_option linter.all false
set_option maxRecDepth 100000
set_option maxHeartbeats 4000000
namespace ZS
open PySem PyProof.Rows Srt SrtO PySem.W
section
variable {prog : Program} {w : World} {A : Around} {E : Value → Shared → Prop} {s : Shared}
/-- a key: (n, i) or (3, text) -/
inductive RkIs (h : Heap) : List Int → Value → Prop
  | num {a : Addr} {o : Obj} {n i : Int} {t u m : Nat} : h.get? a = some o → o.cls = .type "tuple" → o.data = .seq #[.int n t, .int i u] m → n ≠ 3 → RkIs h [n, i] (.ref a)
  | txt {a : Addr} {o : Obj} {x : Str} {t u m : Nat} : h.get? a = some o → o.cls = .type "tuple" → o.data = .seq #[.int 3 t, .str x u] m → RkIs h (3 :: x.cps.toList.map Int.ofNat) (.ref a)
theorem RkIs.inj {h : Heap} {c c' : List Int} {v : Value} (x : RkIs h c v) (y : RkIs h c' v) : c = c' := by
  cases x with
  | num h1 h2 h3 h4 =>
    cases y with
    | num g1 g2 g3 g4 =>
      rw [h1] at g1; cases g1
      rw [h3] at g3; cases g3
      rfl
    | txt g1 g2 g3 =>
      rw [h1] at g1; cases g1
      rw [h3] at g3; cases g3
  | txt h1 h2 h3 =>
    cases y with
    | num g1 g2 g3 g4 =>
      rw [h1] at g1; cases g1
      rw [h3] at g3; cases g3
    | txt g1 g2 g3 =>
      rw [h1] at g1; cases g1
      rw [h3] at g3; cases g3
      rfl
theorem RkIs.keep {h h' : Heap} {c : List Int} {v : Value} (x : RkIs h c v) (k : ∀ b o, h.get? b = some o → o.cls = .type "tuple" → h'.get? b = some o) : RkIs h' c v := by
  cases x with
  | num h1 h2 h3 h4 => exact .num (k _ _ h1 h2) h2 h3 h4
  | txt h1 h2 h3 => exact .txt (k _ _ h1 h2) h2 h3
end
end ZS
set_option Elab.async false
set_option linter.all false
set_option maxRecDepth 100000
set_option maxHeartbeats 4000000
namespace ZS
open PySem PySem.Spec PyProof.Rows L2 Z Srt SrtO
/-- the code of a key -/
noncomputable def cv (h : Heap) (v : Value) : List Int := by
  classical
  exact if hx : ∃ c, RkIs h c v then Classical.choose hx else []
section
variable {X : Cx} {pins : List (Addr × Obj)} {σ : L2.St} {H : Hp} {s : Shared}
theorem Vals.mem {xs : List V} {us : List Value} (r : Vals xs us) {i : Nat} {u : Value} (e : us[i]? = some u) : ∃ x, xs[i]? = some x ∧ RelV x u := by
  have hi : i < xs.length := by rw [r.length]; exact (List.getElem?_eq_some_iff.mp e).1
  obtain ⟨u', h1, h2⟩ := r.get (List.getElem?_eq_getElem hi)
  rw [e] at h1
  cases h1
  exact ⟨_, List.getElem?_eq_getElem hi, h2⟩
end
end ZS
set_option Elab.async false
set_option linter.all false
set_option maxRecDepth 100000
set_option maxHeartbeats 4000000
namespace ZS
open PySem PySem.Spec PyProof.Rows L2 Z Srt SrtO
end ZS
set_option Elab.async false
set_option linter.all false
set_option maxRecDepth 100000
set_option maxHeartbeats 4000000
namespace Z
open PySem PySem.Spec PyProof.Rows L2 ZS
end Z
set_option Elab.async false
set_option linter.all false
set_option maxRecDepth 100000
set_option maxHeartbeats 4000000
namespace ZN
open PySem PySem.Spec PyProof.Rows L2 Z
end ZN
set_option Elab.async false
set_option linter.all false
set_option maxRecDepth 100000
set_option maxHeartbeats 4000000
namespace ZN
open PySem PySem.Spec PyProof.Rows L2 Z
end ZN
namespace Z
open PySem PySem.Spec PyProof.Rows L2 ZN
end Z
set_option Elab.async false
set_option linter.all false
set_option maxRecDepth 100000
set_option maxHeartbeats 4000000
namespace Z
open PySem PySem.Spec PyProof.Rows L2 ZS SrtO
end Z
set_option Elab.async false
set_option linter.all false
set_option maxRecDepth 100000
set_option maxHeartbeats 4000000
namespace Z
open PySem PySem.Spec PyProof.Rows L2
end Z
set_option Elab.async false
set_option linter.all false
set_option maxRecDepth 100000
set_option maxHeartbeats 4000000
namespace Z
open PySem PySem.Spec PyProof.Rows L2
end Z
set_option Elab.async false
set_option linter.all false
set_option maxRecDepth 100000
set_option maxHeartbeats 4000000
namespace Z
open PySem PySem.Spec PyProof.Rows L2
end Z
set_option Elab.async false
set_option linter.all false
set_option maxRecDepth 100000
set_option maxHeartbeats 4000000
namespace Z
open PySem PySem.Spec PyProof.Rows L2 ZN ZS SrtO
/-- a plain value -/
def PlV (v : D) : Prop := match v with
  | .non => True | .bl _ => True | .int _ => True | .str _ => True | _ => False
theorem VW.pl {v : D} (h : VW v) : PlV v := by cases v <;> first | exact h.elim | trivial
def vX : D → NestedKey
  | .int i => .num i
  | .str t => .text ⟨t.toArray⟩
  | _ => .none
/-- the rank as a key -/
def vN (v : D) : NestedKey := .tup [.num (kd v : Nat), vX (kx v)]
theorem nk_rkP {v : D} (h : PlV v) : nkD (rk v) = some (vN v) := by
  cases v with
  | non => rfl
  | bl b => cases b <;> rfl
  | int i => rfl
  | str t => rfl
  | _ => exact h.elim
theorem vN_eq {v w : D} (hv : PlV v) (hw : PlV w) : NestedKey.beq (vN v) (vN w) = sameV v w := by
  rw [sameV_eq]
  show (decide (((kd v : Nat) : Int) = ((kd w : Nat) : Int)) && (NestedKey.beq (vX (kx v)) (vX (kx w)) && true)) = _
  rw [Bool.and_true]
  have e0 : decide (((kd v : Nat) : Int) = ((kd w : Nat) : Int)) = decide (kd v = kd w) := by
    rw [Bool.eq_iff_iff, decide_eq_true_iff, decide_eq_true_iff]
    omega
  rw [e0]
  congr 1
  have i1 : ∀ a b : Int, NestedKey.beq (.num a) (.num b) = (a == b) := fun a b => by simp only [NestedKey.beq]; rfl
  have s1 : ∀ a b : List Nat, NestedKey.beq (.text ⟨a.toArray⟩) (.text ⟨b.toArray⟩) = (a == b) := fun a b => by
    simp only [NestedKey.beq]
    rw [Bool.eq_iff_iff, decide_eq_true_iff, beq_iff_eq]
    constructor
    · intro h
      injection h with h
      simpa using congrArg Array.toList h
    · rintro rfl; rfl
  cases v <;> first | exact hv.elim | skip
  all_goals cases w <;> first | exact hw.elim | skip
  all_goals first
    | exact i1 _ _
    | exact s1 _ _
    | rfl
theorem vN_iff {v w : D} (hv : PlV v) (hw : PlV w) : vN v = vN w ↔ sameV v w = true := by
  rw [← vN_eq hv hw]
  exact ⟨fun h => by rw [h]; exact NestedKey.beq_self _, NestedKey.eq_of_beq _ _⟩
theorem vN_depth (v : D) : (vN v).depth ≤ 8 := by
  cases v <;> simp [vN, kx, vX, NestedKey.depth, NestedKey.depthAll]
end Z
set_option Elab.async false
set_option linter.all false
set_option maxRecDepth 100000
set_option maxHeartbeats 4000000
namespace Z
open PySem PySem.Spec PyProof.Rows L2
end Z
set_option Elab.async false
set_option linter.all false
set_option maxRecDepth 100000
set_option maxHeartbeats 4000000
namespace Z
open PySem PySem.Spec PyProof.Rows L2 ZN ZS SrtO
end Z
set_option Elab.async false
set_option linter.all false
set_option maxRecDepth 100000
set_option maxHeartbeats 4000000
namespace Z
open PySem PySem.Spec PyProof.Rows L2
def ClsAt (K : PySem.W.Frag) (c : Str) (C : Addr) : Prop := PySem.W.nsIn K mainGlobals c = some (some (.ref C))
def zObj (c : Str) : R → Option (List Str × List D)
  | .dat (.obj c' fs ds) => if c' = c then some (fs, ds) else none
  | _ => none
theorem zObj_some {c : Str} {r : R} {q : List Str × List D} (h : zObj c r = some q) : r = .dat (.obj c q.1 q.2) := by
  unfold zObj at h
  split at h
  · split at h
    · rename_i e
      cases h; rw [e]
    · cases h
  · cases h
theorem lookup_zip {α : Type} : ∀ {fl : List Str} {xs : List α} {i : Nat} {f : Str} {v : α}, fl.Nodup → fl[i]? = some f → xs[i]? = some v → (fl.zip xs).lookup f = some v
  | [], _, _, _, _, _, h, _ => by simp at h
  | _ :: _, [], _, _, _, _, _, h => by simp at h
  | a :: fl, x :: xs, 0, f, v, _, h1, h2 => by
    simp at h1 h2
    subst h1; subst h2
    simp [List.lookup]
  | a :: fl, x :: xs, i + 1, f, v, nd, h1, h2 => by
    have h1 : fl[i]? = some f := by simpa using h1
    have h2 : xs[i]? = some v := by simpa using h2
    have nd := List.nodup_cons.mp nd
    have ne : (f == a) = false := beq_eq_false_iff_ne.mpr fun z => nd.1 (z ▸ List.mem_of_getElem? h1)
    show List.lookup f ((a, x) :: fl.zip xs) = some v
    simp only [List.lookup, ne]
    exact lookup_zip nd.2 h1 h2
theorem lookup_zip_none {α : Type} : ∀ {fl : List Str} {xs : List α} {f : Str}, f ∉ fl → (fl.zip xs).lookup f = none
  | [], _, _, _ => rfl
  | _ :: _, [], _, _ => rfl
  | a :: fl, x :: xs, f, h => by
    have ne : (f == a) = false := beq_eq_false_iff_ne.mpr fun z => h (z ▸ List.mem_cons_self)
    show List.lookup f ((a, x) :: fl.zip xs) = none
    simp only [List.lookup, ne]
    exact lookup_zip_none fun m => h (List.mem_cons_of_mem _ m)
/-- a field of a class may be read -/
def FldK (K : PySem.W.Frag) (c f : Str) : Prop := ∃ C, ClsAt K c C ∧ Cls K C ∧ NoAttr K C f
def zFld (c : Str) (fl : List Str) (i : Nat) (m : ZM) : ZM := fun g => do
  let (r, g1) ← m g
  let q ← zObj c r
  if q.1 = fl then (do
    let d ← q.2[i]?
    some (.dat d, g1)) else none
theorem er_fld {c : Str} {fl : List Str} {i : Nat} {m : ZM} {g g1 : G} {ds : List D} {d : D} (h : m g = some (.dat (.obj c fl ds), g1)) (hd : ds[i]? = some d) : zFld c fl i m g = some (.dat d, g1) := by
  unfold zFld
  simp [h, zObj, hd]
section
variable {X : Cx} {pos : Pos} {c : Str} {fl : List Str}
theorem ze_fld {e : Expr} {f : Str} {i : Nat} {m : ZM} (k : FldK X.K c f) (hn : fl.Nodup) (hi : fl[i]? = some f) (h : ZE X e m) (hb : attributeBase e f X.env (eval e X.env) = eval e X.env := by rfl) :
    ZE X (.Attribute e f pos) (zFld c fl i m) := by
  refine PE.of (pe_fld h hb) fun σ H Q ⟨C, Hs, A, g, r, g', hK, hN, ok, e, q⟩ => ?_
  unfold zFld at e
  simp only [Option.bind_eq_bind, Option.bind_eq_some_iff] at e
  obtain ⟨⟨r1, g1⟩, h1, ⟨fs, ds⟩, h2, e⟩ := e
  simp only at e
  split at e
  · rename_i hf
    simp only [Option.bind_eq_some_iff] at e
    obtain ⟨d, h3, e⟩ := e
    cases e
    subst hf
    have h2 : zObj c r1 = some (fs, ds) := h2
    refine ⟨C, Hs, A, g, r1, _, hK, hN, ok, h1, fun Hs1 A1 v H1 s1 p1 ok1 rel1 => ?_⟩
    rw [zObj_some h2] at rel1
    have dz : Dz C.K Hs1 v (.obj c fs ds) := rel1
    cases dz with
    | obj hc ha hl hz =>
      obtain ⟨C0, q1, q2, q3⟩ := k
      rw [hK] at hc
      have eC := hc.symm.trans (show PySem.W.nsIn X.K mainGlobals c = some (some (.ref C0)) from q1)
      cases eC
      obtain ⟨v', w1, w2⟩ := hz.get h3
      exact ⟨_, _, _, _, v', rfl, ok1.same _ _ ha, q2, q3, lookup_zip hn hi w1, q Hs1 A1 v' H1 s1 p1 ok1 w2⟩
  · cases e
end
/-- the promise of an __init__ that stores fields -/
def spI (K : PySem.W.Frag) (fl : List Str) (f : List D → Option (List D)) : Sp := fun vs H Q _ => ∃ (C x dx : Addr) (us : List V) (Hs : Hp) (ds es : List D), vs = .ref x :: us ∧ Cls K C ∧ (∀ n ∈ fl, NoAttr K C n) ∧ H x = some (.ins C dx []) ∧ Hs x = none ∧ Same Hs H ∧ DzA K Hs us ds ∧ f ds = some es ∧
  ∀ (Hs' H' : Hp) (xs : List V), Same Hs Hs' → (∀ b u, b ≠ x → H b = some u → H' b = some u) → Same Hs' H' → (∀ b o, Hs' b = some o → Hs b = some o ∨ (b ≠ x ∧ H b = none)) → Hs' x = none → H' x = some (.ins C dx (fl.zip xs)) → fl.length = xs.length → DzA K Hs' xs es → Q .non H'
def zIn : List ZM → G → Option (List D × G)
  | [], g => some ([], g)
  | m :: ms, g => do
    let (r, g1) ← m g
    let (d, g2) ← frzR r g1
    let (ds, g3) ← zIn ms g2
    some (d :: ds, g3)
theorem KdOk.lsts {K : PySem.W.Frag} {Hs H : Hp} : ∀ {ks : List Addr} {ls : List (List D)}, KdOk K Hs H ks ls → ∀ x ∈ ks, ∃ us, H x = some (.lst us)
  | [], [], _, _, m => (List.not_mem_nil m).elim
  | b :: bs, l :: ls, h, x, m => by
    rcases List.mem_cons.mp m with rfl | m
    · obtain ⟨us, e, _⟩ := h.1
      exact ⟨us, e⟩
    · exact KdOk.lsts h.2 x m
  | [], _ :: _, h, _, _ => h.elim
  | _ :: _, [], h, _, _ => h.elim
/-- an instance that nothing known rests on is changed -/
def Ct.ins (C : Ct) (x : Addr) (o : HO) : Ct := { C with H0 := upd C.H0 x o }
theorem Ok.ins {C : Ct} {Hs : Hp} {A : List Addr} {g : G} {σ : L2.St} {H : Hp} (ok : Ok C Hs A g σ H) {x Cc dx : Addr} {fs : List (Str × V)} {o : HO} (h : H x = some (.ins Cc dx fs)) (hs : Hs x = none) : Ok (C.ins x o) Hs A g σ (upd H x o) := by
  have ne : ∀ {b : Addr} {us : List V}, H b = some (.lst us) → b ≠ x := fun {b us} e z => by rw [z, h] at e; cases e
  have h0 : ∀ {b : Addr}, b ≠ x → (C.ins x o).H0 b = C.H0 b := fun z => upd_ne z
  refine ⟨ok.ln, ok.lg, ok.la, ok.base, fun b u e => ?_, ok.dat, ok.frz, fun i c p l e => ?_, ok.inj, fun b u e => ?_, fun b u e k => ?_, ok.pinned, ok.pin1, ok.locked, ?_⟩
  · rw [upd_ne (fun z => by rw [z, hs] at e; cases e)]
    exact ok.same b u e
  · obtain ⟨a, u, q1, q2, q3, q4, q5, q6⟩ := ok.own i c p l e
    refine ⟨a, u, q1, q2, q3, ?_, q5, fun hp => ?_⟩
    · cases c with
      | lst l' =>
        obtain ⟨vs, rfl, _⟩ := CnOk.lst_inv (show CnOk C.K Hs (.lst l') u from q5)
        rw [upd_ne (ne q4)]; exact q4
    · cases c with
      | lst l' =>
        obtain ⟨vs, rfl, _⟩ := CnOk.lst_inv (show CnOk C.K Hs (.lst l') u from q5)
        rw [h0 (ne q4)]; exact q6 hp
  · rcases ok.grow b u e with q | q
    · exact .inl q
    · by_cases z : b = x
      · rw [z, hs] at e; cases e
      · exact .inr (by rw [h0 z]; exact q)
  · by_cases z : b = x
    · subst z
      rw [show (C.ins b o).H0 b = some o from upd_same] at e
      rw [upd_same]; exact e
    · rw [h0 z] at e
      rw [upd_ne z]
      exact ok.keep b u e k
  · intro i ls e
    obtain ⟨a, ks, q1, q2, q3, q4, q5⟩ := ok.rws i ls e
    have na : ∀ y ∈ a :: ks, y ≠ x := fun y m => by
      rcases List.mem_cons.mp m with rfl | m
      · exact ne q3.hd
      · obtain ⟨us, e⟩ := q3.kd.lsts y m
        exact ne e
    refine ⟨a, ks, q1, q2, ⟨by rw [upd_ne (na a List.mem_cons_self)]; exact q3.hd, q3.nd, fun y m => ⟨(q3.fr y m).1, by rw [h0 (na y m)]; exact (q3.fr y m).2⟩, q3.kd.move (Same.refl _) fun y m o' e' => by rw [upd_ne (na y (List.mem_cons_of_mem _ m))]; exact e'⟩, q4, fun j ms b y e1 e2 m1 m2 => ?_⟩
    obtain ⟨b', ks', r1, _, r3, _⟩ := ok.rws j ms e1
    rw [e2] at r1
    cases r1
    rw [upd_ne (ne r3.hd)] at m1
    exact q5 j ms b y e1 e2 m1 m2
/-- a datum is forgotten -/
theorem Ok.un0 {C : Ct} {Hs : Hp} {A : List Addr} {g : G} {σ : L2.St} {H : Hp} {d : D} (ok : Ok C Hs A (.dat d :: g) σ H) : Ok C Hs A (.un :: g) σ H := by
  have old : ∀ (i : Nat) (t : Sl), (Sl.un :: g)[i]? = some t → t ≠ .un → (Sl.dat d :: g)[i]? = some t := fun i t e n => by
    cases i with
    | zero => simp at e; exact absurd e.symm n
    | succ i => simpa using e
  refine ⟨ok.ln, ok.lg, ok.la, ok.base, ok.same, fun i d' e => ok.dat i d' (old i _ e nofun), fun i d' e => ok.frz i d' (old i _ e nofun), fun i c p l e => ok.own i c p l (old i _ e nofun), fun i j c p l c' p' l' a e1 e2 h1 h2 => ok.inj i j c p l c' p' l' a (old i _ e1 nofun) (old j _ e2 nofun) h1 h2, ok.grow, ok.keep, fun q hq => ?_, fun i c l a e ha => ok.pin1 i c l a (old i _ e nofun) ha, fun q hq => ?_, ?_⟩
  · obtain ⟨c, l, h1, h2⟩ := ok.pinned q hq
    refine ⟨c, l, ?_, h2⟩
    cases z : q.1 with
    | zero => rw [z] at h1; simp at h1
    | succ i => rw [z] at h1; simpa using h1
  · obtain ⟨p, h1, h2⟩ := ok.locked q hq
    refine ⟨p, ?_, h2⟩
    cases z : q.1 with
    | zero => rw [z] at h1; simp at h1
    | succ i => rw [z] at h1; simpa using h1
  · intro i ls e
    obtain ⟨a, ks, q1, q2, q3, q4, q5⟩ := ok.rws i ls (old i _ e nofun)
    exact ⟨a, ks, q1, q2, q3, fun j c p l b e1 e2 => q4 j c p l b (old j _ e1 nofun) e2, fun j ms b x e1 e2 => q5 j ms b x (old j _ e1 nofun) e2⟩
theorem putF_new : ∀ {fs : List (Str × V)} {f : Str} {v : V}, f ∉ fs.map (·.1) → putF f v fs = fs ++ [(f, v)]
  | [], _, _, _ => rfl
  | (g, x) :: r, f, v, h => by
    have h1 : ¬ g = f := fun z => h (by simp [z])
    show (if g = f then (g, v) :: r else (g, x) :: putF f v r) = _
    rw [if_neg h1, putF_new (fs := r) fun m => h (by simp only [List.map_cons, List.mem_cons]; exact .inr m)]
    rfl
/-- the body of an __init__: what stands at the state -/
def tInit (K : PySem.W.Frag) (n : Nat) (fl : List Str) (ms : List ZM) : TS := fun DE σ H => ∃ (C : Ct) (Hs : Hp) (A : List Addr) (g g' : G) (x Cc dx : Addr) (fl0 : List Str) (xs0 : List V) (es : List D), C.K = K ∧ C.n = n ∧ Ok C Hs A g σ H ∧
  σ[0]? = some (some (.ref x)) ∧ Cls K Cc ∧ (∀ f ∈ fl, NoAttr K Cc f) ∧ C.H0 x = some (.ins Cc dx (fl0.zip xs0)) ∧ fl0.length = xs0.length ∧ (fl0 ++ fl).Nodup ∧ (fl0 ++ fl).length < 1000 ∧ C.Hs0 x = none ∧ C.pins = [] ∧ zIn ms g = some (es, g') ∧ fl.length = ms.length ∧
  ∀ (C' : Ct) (Hs' : Hp) (A' : List Addr) (σ' : L2.St) (H' : Hp) (xs : List V), C'.K = K → C'.n = n → C'.Hs0 = C.Hs0 → C'.pins = [] → (∀ b, b ≠ x → C'.H0 b = C.H0 b) → C'.H0 x = some (.ins Cc dx ((fl0 ++ fl).zip (xs0 ++ xs))) → Same Hs Hs' → Ok C' Hs' A' g' σ' H' → fl.length = xs.length → DzA K Hs' xs es → DE.nx σ' H'
theorem zi_nil {K : PySem.W.Frag} {n : Nat} {DE : Ends} {σ : L2.St} {H : Hp} (h : tInit K n [] [] DE σ H) : DE.nx σ H := by
  obtain ⟨C, Hs, A, g, g', x, Cc, dx, fl0, xs0, es, hK, hn, ok, h0, cl, na, hx, hl, nd, lt, hs, hp, e, _, q⟩ := h
  cases e
  exact q C Hs A σ H [] hK hn rfl hp (fun _ _ => rfl) (by rw [List.append_nil, List.append_nil]; exact hx) (Same.refl _) ok rfl .nil
theorem zi_step {K : PySem.W.Frag} {n : Nat} {DE : Ends} {σ : L2.St} {H : Hp} {f : Str} {fl : List Str} {m : ZM} {ms : List ZM} (h : tInit K n (f :: fl) (m :: ms) DE σ H) : sFld K (tVar 0) (tZ K n m) f { DE with nx := tInit K n fl ms DE } σ H := by
  obtain ⟨C, Hs, A, g, g', x, Cc, dx, fl0, xs0, es, hK, hn, ok, h0, cl, na, hx, hl, nd, lt, hs, hp, e, hlen, q⟩ := h
  unfold zIn at e
  simp only [Option.bind_eq_bind, Option.bind_eq_some_iff] at e
  obtain ⟨⟨r, g1⟩, h1, ⟨d, g2⟩, h2, ⟨ds, g3⟩, h3, e⟩ := e
  cases e
  refine ⟨C, Hs, A, g, r, g1, hK, hn, ok, h1, fun Hs1 A1 y H1 s1 p1 ok1 rel1 => ?_⟩
  have hx1 : H1 x = some (.ins Cc dx (fl0.zip xs0)) := ok1.keep x _ hx (by rw [hp]; intro q hq; cases hq)
  obtain ⟨Hs2, s2, ok2, z2⟩ := ok1.frzR rel1 h2
  have hs2 : Hs2 x = none := by
    cases z : Hs2 x with
    | none => rfl
    | some o =>
      rcases ok2.grow x o z with k | k
      · rw [hs] at k; cases k
      · rw [hx] at k; cases k
  refine ⟨.ref x, h0, x, Cc, dx, fl0.zip xs0, rfl, hx1, cl, na f List.mem_cons_self, ?_, ?_⟩
  · rw [List.length_zip]
    have := lt
    rw [List.length_append] at this
    omega
  · have nf : f ∉ (fl0.zip xs0).map (·.1) := by
      rw [List.map_fst_zip (by omega)]
      intro hm
      exact (List.nodup_append.mp nd).2.2 f hm f List.mem_cons_self rfl
    have e1 : putF f y (fl0.zip xs0) = (fl0 ++ [f]).zip (xs0 ++ [y]) := by
      rw [putF_new nf, List.zip_append hl]; rfl
    have e2 : (fl0 ++ [f]) ++ fl = fl0 ++ f :: fl := by simp
    rw [e1]
    refine ⟨C.ins x (.ins Cc dx ((fl0 ++ [f]).zip (xs0 ++ [y]))), Hs2, A1, g2, _, x, Cc, dx, fl0 ++ [f], xs0 ++ [y], ds, hK, hn, ok2.ins hx1 hs2, h0, cl, fun z hz => na z (List.mem_cons_of_mem _ hz), upd_same, by simp [hl], by rw [e2]; exact nd, by rw [e2]; exact lt, hs, hp, h3, by simpa using hlen, ?_⟩
    intro C' Hs' A' σ' H' xs k1 k2 k3 k4 k5 k6 k7 k8 k9 k10
    refine q C' Hs' A' σ' H' (y :: xs) k1 k2 k3 k4 (fun b hb => (k5 b hb).trans (upd_ne hb)) ?_ ((s1.trans s2).trans k7) k8 (by simp [k9]) (.cons (by rw [← hK]; exact z2.mono k7) k10)
    rw [e2] at k6
    rw [k6]
    simp
section
variable {X : Cx} {o value : Expr} {f : Str} {pos pos' : Pos} {fl : List Str} {m : ZM} {ms : List ZM} {rest : List Stmt}
theorem zi_one (ho : PE X o (tVar 0)) (he : ZE X value m) (hs : swapsWith value (some (.Attribute o f pos')) pos.line X.env = pure false := by rfl) :
    PSs X [.Assign [.Attribute o f pos'] value pos] (tInit X.K X.N.length [f] [m]) := by
  refine PSs.of (pss_one (ps_fld ho he hs)) fun D σ H h => ?_
  obtain ⟨C, Hs, A, g, r, g1, hK, hn, ok, h1, q⟩ := zi_step h
  refine ⟨C, Hs, A, g, r, g1, hK, hn, ok, h1, fun Hs1 A1 y H1 s1 p1 ok1 rel1 => ?_⟩
  obtain ⟨v, h0, x, Cc, dx, fs, e, hx, cl, na, lt, q2⟩ := q Hs1 A1 y H1 s1 p1 ok1 rel1
  exact ⟨v, h0, x, Cc, dx, fs, e, hx, cl, na, lt, zi_nil q2⟩
theorem zi_cons (ho : PE X o (tVar 0)) (he : ZE X value m) (hr : PSs X rest (tInit X.K X.N.length fl ms)) (hs : swapsWith value (some (.Attribute o f pos')) pos.line X.env = pure false := by rfl) :
    PSs X (.Assign [.Attribute o f pos'] value pos :: rest) (tInit X.K X.N.length (f :: fl) (m :: ms)) :=
  PSs.of (pss_cons (ps_fld ho he hs) hr) fun D σ H h => zi_step h
end
/-- an __init__ as a function from data to data -/
def runI (n np : Nat) (ms : List ZM) : List D → Option (List D) := fun ds => if ds.length + 1 = np then (match zIn ms (.un :: start0 (n - 1) ds) with
  | some (es, _) => some es
  | none => none) else none
section
variable {P : Program} {w : World} {K : PySem.W.Frag} {mg : Str → Option Value} {base : Heap}
theorem okI {x qual : Str} {st : Stmt} {f : Addr} {fd : FuncData} {N ps : List Str} {k : Nat} {fl : List Str} {ms : List ZM} (F : Fun K x qual st f fd) (S : FnScope N ps (defScope st)) (hnd : fl.Nodup) (hlt : fl.length < 1000) (hfm : fl.length = ms.length)
    (hbody : ∀ (cdv : Value) (A : Around) (outer : List Env) (s0 : Shared) (H : Hp) (E : XK), Room k (A.deeper (envOfC qual (defScope st) s0.heap.objs.size f cdv)) →
      PSs (cxOf CX0 P w K mg base N qual (defScope st) f cdv A outer s0 H E).nox (defBody st) (tInit K N.length fl ms)) : FnOk P w K mg base CX0 (k + 1) f fd ps (spI K fl (runI N.length ps.length ms)) := by
  have arity : ∀ vs H Q E, spI K fl (runI N.length ps.length ms) vs H Q E → vs.length = ps.length := fun vs H Q E ⟨C, x, dx, us, Hs, ds, es, ev, _, _, _, _, _, hz, e, _⟩ => by
    unfold runI at e
    split at e
    · rename_i h
      rw [ev, List.length_cons, hz.length]
      exact h
    · cases e
  refine F.ok S arity (fun cdv A outer s0 H vs Q E hr h => ⟨_, hbody cdv A outer s0 H E hr, ?_⟩)
  have hal := arity vs H Q E h
  obtain ⟨C, x, dx, us, Hs, ds, es, ev, cl, na, hx, hsx, sm, hz, e, q⟩ := h
  subst ev
  have hpl : ps.length ≤ N.length := by
    have := congrArg List.length S.pre
    rw [List.length_take] at this
    omega
  rw [List.length_cons, hz.length] at hal
  unfold runI at e
  rw [if_pos hal] at e
  split at e
  · rename_i es' g' hm
    cases e
    have hul := hz.length
    have okS := ok_start (K := K) (N := N) (Hs := Hs) (H := H) (vs := .ref x :: us) (ds := .raw (.ref x) :: ds) (by rw [List.length_cons]; omega) sm (.cons (.raw _) hz)
    have e0 : start0 N.length (D.raw (.ref x) :: ds) = .dat (.raw (.ref x)) :: start0 (N.length - 1) ds := by
      unfold start0
      rw [List.map_cons, List.cons_append, List.length_cons]
      congr 3
      omega
    rw [e0] at okS
    have okU := okS.un0
    refine ⟨{ K := K, n := N.length, H0 := H, Hs0 := Hs, pins := [], locks := [], plt := fun _ h => (List.not_mem_nil h).elim, llt := fun _ h => (List.not_mem_nil h).elim }, Hs, List.replicate N.length 0, _, g', x, C, dx, [], [], _, rfl, rfl, okU, ?_, cl, na, hx, rfl, by simpa using hnd, by simpa using hlt, hsx, rfl, hm, hfm, ?_⟩
    · unfold L2.start
      rfl
    · intro C' Hs' A' σ' H' xs k1 k2 k3 k4 k5 k6 k7 k8 k9 k10
      have hx' : H' x = some (.ins C dx (fl.zip xs)) := k8.keep x _ (by simpa using k6) (by rw [k4]; intro q hq; cases hq)
      refine q Hs' H' xs k7 (fun b u hb e => k8.keep b u (by rw [k5 b hb]; exact e) (by rw [k4]; intro q hq; cases hq)) k8.same (fun b o e => ?_) ?_ hx' k9 k10
      · rcases k8.grow b o e with z | z
        · rw [k3] at z; exact .inl z
        · by_cases hb : b = x
          · subst hb
            rw [k6] at z; cases z
          · rw [k5 b hb] at z; exact .inr ⟨hb, z⟩
      · cases z : Hs' x with
        | none => rfl
        | some o =>
          rcases k8.grow x o z with w | w
          · rw [k3] at w
            have w : Hs x = some o := w
            rw [hsx] at w; cases w
          · rw [k6] at w; cases w
  · cases e
end
end Z
set_option Elab.async false
set_option linter.all false
set_option maxRecDepth 100000
set_option maxHeartbeats 4000000
namespace Z
open PySem PySem.Spec PyProof.Rows L2
/-- class c of the module: its fields, its __init__ -/
def ClsK (P : Program) (w : World) (K : PySem.W.Frag) (mg : Str → Option Value) (base : Heap) (k : Nat) (c : Str) (fl : List Str) (f : List D → Option (List D)) : Prop :=
  ∃ (C fa : Addr) (fd : FuncData) (ps : List Str), ClsAt K c C ∧ mg c = some (.ref C) ∧ Cls K C ∧ (∀ n ∈ fl, NoAttr K C n) ∧ Mk K C fa ∧ Binds K fd ps [] ∧ FnOk P w K mg base CX0 k fa fd ps (spI K fl f)
theorem ClsK.mono {P : Program} {w : World} {K : PySem.W.Frag} {mg : Str → Option Value} {base : Heap} {j k : Nat} {c : Str} {fl : List Str} {f : List D → Option (List D)} (h : ClsK P w K mg base j c fl f) (hk : j ≤ k) : ClsK P w K mg base k c fl f :=
  let ⟨C, fa, fd, ps, h1, h2, h3, h4, h5, h6, h7⟩ := h
  ⟨C, fa, fd, ps, h1, h2, h3, h4, h5, h6, h7.mono hk⟩
def zMake (c : Str) (fl : List Str) (f : List D → Option (List D)) (ma : ZAr) : ZM := fun g => do
  let (rs, g1) ← ma g
  let (ds, g2) ← frzAll rs g1
  let es ← f ds
  some (.dat (.obj c fl es), g2)
theorem er_make {c : Str} {fl : List Str} {f : List D → Option (List D)} {ma : ZAr} {g g1 g2 : G} {rs : List R} {ds es : List D} (h1 : ma g = some (rs, g1)) (h2 : frzAll rs g1 = some (ds, g2)) (h3 : f ds = some es) : zMake c fl f ma g = some (.dat (.obj c fl es), g2) := by
  unfold zMake
  simp [h1, h2, h3]
section
variable {X : Cx} {pos : Pos} {fl : List Str}
theorem ze_make {k : Nat} {x : Str} {p : Pos} {e : Expr} {es : List Expr} {f : List D → Option (List D)} {ma : ZAr} (c : ClsK X.prog X.w X.K X.mg X.base k x fl f) (hr : Room (k + 1) X.A) (ha : ZAs X (e :: es) ma) (hg : Gl X x := by rfl)
    (hdb : (x == ("__debug__" : Str)) = false := by decide) (he : starEach (e :: es) X.env = (false, eval e X.env) :: starEach es X.env := by rfl) (hpl : (backTo pos (starEach es X.env)).any (·.1) = false := by rfl) :
    ZE X (.Call (.Name x p) (e :: es) [] pos) (zMake x fl f ma) := by
  obtain ⟨Cc, fa, fd, ps, hc, hm, cl, na, mk, hb, F⟩ := c
  refine PE.of (pe_make (E := E0) mk F hr hg hm hb .nil pass0 ha hdb he hpl) fun σ H Q ⟨C, Hs, A, g, r, g', hK, hN, ok, e, q⟩ => ?_
  unfold zMake at e
  simp only [Option.bind_eq_bind, Option.bind_eq_some_iff] at e
  obtain ⟨⟨rs, g1⟩, h1, ⟨ds, g2⟩, h2, es', h3, e⟩ := e
  cases e
  refine ⟨C, Hs, A, g, rs, g1, hK, hN, ok, h1, fun Hs1 A1 vs H1 s1 p1 ok1 rel1 => ?_⟩
  obtain ⟨Hs2, s2, ok2, z2⟩ := frzAll_ok ok1 rel1 h2
  intro x' dx nx ndx ne
  have lo : ∀ b, b ≠ x' → b ≠ dx → (upd (upd H1 dx (.own x')) x' (.ins Cc dx [])) b = H1 b := fun b h1 h2 => by rw [upd_ne h1, upd_ne h2]
  have sm1 : Same H1 (upd (upd H1 dx (.own x')) x' (.ins Cc dx [])) := fun b u q => by
    rw [lo b (fun z => by rw [z, nx] at q; cases q) (fun z => by rw [z, ndx] at q; cases q)]; exact q
  have n2 : Hs2 x' = none := by
    cases z : Hs2 x' with
    | none => rfl
    | some o => rw [ok2.same _ _ z] at nx; cases nx
  refine ⟨Cc, x', dx, vs, Hs2, ds, _, by rw [List.append_nil], cl, na, upd_same, n2, ok2.same.trans sm1, by rw [← hK]; exact z2, h3, fun Hs' H' xs sS sH sP gr hsx hx hl hz => ⟨rfl, ?_⟩⟩
  have sU : Same Hs' (upd Hs' x' (.ins Cc dx (fl.zip xs))) := fun b u q => by
    rw [upd_ne (fun z => by rw [z, hsx] at q; cases q)]; exact q
  have sUH : Same (upd Hs' x' (.ins Cc dx (fl.zip xs))) H' := fun b u q => by
    by_cases z : b = x'
    · subst z; rw [upd_same] at q; cases q; exact hx
    · rw [upd_ne z] at q; exact sP b u q
  refine q (upd Hs' x' (.ins Cc dx (fl.zip xs))) A1 (.ref x') H' ((s1.trans s2).trans (sS.trans sU)) p1 (ok2.moreS (fun b u q => sH b u (fun z => by rw [z, nx] at q; cases q) (sm1 b u q)) (sS.trans sU) sUH fun b o e => ?_) ?_
  · by_cases z : b = x'
    · subst z; exact .inr nx
    · rw [upd_ne z] at e
      rcases gr b o e with k | ⟨_, k⟩
      · exact .inl k
      · refine .inr ?_
        cases w : H1 b with
        | none => rfl
        | some u => rw [sm1 b u w] at k; cases k
  · show Dz C.K _ _ _
    rw [hK]
    exact .obj hc upd_same hl (hz.mono sU)
def IsiK (K : PySem.W.Frag) (mg : Str → Option Value) (c : Str) : Prop := ∃ C, ClsAt K c C ∧ mg c = some (.ref C) ∧ C8.InsC K C
def zIsO (c : Str) (m : ZM) : ZM := fun g => do
  let (r, g1) ← m g
  let _ ← zObj c r
  some (.dat (.bl true), g1)
theorem er_isO {c : Str} {m : ZM} {g g1 : G} {fl : List Str} {ds : List D} (h : m g = some (.dat (.obj c fl ds), g1)) : zIsO c m g = some (.dat (.bl true), g1) := by
  unfold zIsO
  simp [h, zObj]
theorem ze_isO {x c : Str} {p p2 : Pos} {e : Expr} {m : ZM} (k : IsiK X.K X.mg c) (hg : Gl X x) (hm : X.mg x = none) (h : ZE X e m) (hv : bootBuiltins x = some (.builtin "isinstance") := by decide +kernel) (hg2 : Gl X c := by rfl) (hd2 : (c == ("__debug__" : Str)) = false := by decide)
    (hs2 : starEach [.Name c p2] X.env = (false, eval (.Name c p2) X.env) :: starEach [] X.env := by rfl) (hn : x ≠ "__name__" := by decide) (hdb : (x == ("__debug__" : Str)) = false := by decide) (he : starEach [e, .Name c p2] X.env = (false, eval e X.env) :: starEach [.Name c p2] X.env := by rfl) (hpl : (backTo pos (starEach [.Name c p2] X.env)).any (·.1) = false := by rfl) :
    ZE X (.Call (.Name x p) [e, .Name c p2] [] pos) (zIsO c m) := by
  obtain ⟨C0, hc, hmc, ic⟩ := k
  refine PE.of (pe_callB (C8.call_isC ic) hg hm hv (pa_cons h (pa_cons (pe_glob (v := .ref C0) hg2 hmc rfl hd2) pa_nil hs2) he) hn hdb he hpl) fun σ H Q ⟨C, Hs, A, g, r, g', hK, hN, ok, e, q⟩ => ?_
  unfold zIsO at e
  simp only [Option.bind_eq_bind, Option.bind_eq_some_iff] at e
  obtain ⟨⟨r1, g1⟩, h1, ⟨fs, ds⟩, h2, e⟩ := e
  cases e
  have h2 : zObj c r1 = some (fs, ds) := h2
  refine ⟨C, Hs, A, g, r1, g1, hK, hN, ok, h1, fun Hs1 A1 v H1 s1 p1 ok1 rel1 => ?_⟩
  rw [zObj_some h2] at rel1
  have dz : Dz C.K Hs1 v (.obj c fs ds) := rel1
  cases dz with
  | obj hc' ha hl hz =>
    rw [hK] at hc'
    cases hc'.symm.trans (show PySem.W.nsIn X.K mainGlobals c = some (some (.ref C0)) from hc)
    exact ⟨_, _, _, rfl, ok1.same _ _ ha, q Hs1 A1 _ H1 s1 p1 ok1 (.bl true)⟩
def zGrd (c : Str) (fl : List Str) (m : ZM) : ZM := fun g => do
  let (r, g1) ← m g
  let q ← zObj c r
  if q.1 = fl then some (r, g1) else none
theorem er_grd {c : Str} {m : ZM} {g g1 : G} {fl : List Str} {ds : List D} (h : m g = some (.dat (.obj c fl ds), g1)) : zGrd c fl m g = some (.dat (.obj c fl ds), g1) := by
  unfold zGrd
  simp [h, zObj]
theorem zGrd_some {c : Str} {m : ZM} {g g1 : G} {fl : List Str} {r : R} (h : zGrd c fl m g = some (r, g1)) : m g = some (r, g1) ∧ ∃ ds, r = .dat (.obj c fl ds) := by
  unfold zGrd at h
  simp only [Option.bind_eq_bind, Option.bind_eq_some_iff] at h
  obtain ⟨⟨r1, g1⟩, h1, ⟨fs, ds⟩, h2, h⟩ := h
  simp only at h
  split at h
  · rename_i hf
    cases h
    subst hf
    exact ⟨h1, ds, zObj_some h2⟩
  · cases h
def MthK (P : Program) (w : World) (K : PySem.W.Frag) (mg : Str → Option Value) (base : Heap) (k : Nat) (c m : Str) (sp : Sp) : Prop :=
  ∃ (C fa : Addr) (fd : FuncData) (ps : List Str), ClsAt K c C ∧ Cls K C ∧ Meth K C m fa ∧ Binds K fd ps [] ∧ FnOk P w K mg base CX0 k fa fd ps sp
theorem MthK.mono {P : Program} {w : World} {K : PySem.W.Frag} {mg : Str → Option Value} {base : Heap} {j k : Nat} {c m : Str} {sp : Sp} (h : MthK P w K mg base j c m sp) (hk : j ≤ k) : MthK P w K mg base k c m sp :=
  let ⟨C, fa, fd, ps, h1, h2, h3, h4, h5⟩ := h
  ⟨C, fa, fd, ps, h1, h2, h3, h4, h5.mono hk⟩
/-- o.m(..): by the function of the object and the arguments -/
def zMth (c : Str) (fl : List Str) (f : List D → Option FR) (mo : ZM) (ma : ZAr) : ZM := zCall f (zCons (zGrd c fl mo) ma)
theorem mth_of {c m : Str} {f : List D → Option FR} {mo : ZM} {ma : ZAr} {Cc : Addr} {σ : L2.St} {H : Hp} {Q : VK} {E : XK} (hc : ClsAt X.K c Cc) (hm : m ∉ fl) (h : tZ X.K X.N.length (zMth c fl f mo ma) σ H Q) : tMeth Cc m (spP X.K f) [] E (tZ X.K X.N.length mo) (tZA X.K X.N.length ma) σ H Q := by
  obtain ⟨C, Hs, A, g, rs, g', hK, hn, ok, e, q⟩ := (call_of (E := E) h : tCall (spP X.K f) [] E (tZA X.K X.N.length (zCons (zGrd c fl mo) ma)) σ H Q)
  unfold zCons at e
  simp only [Option.bind_eq_bind, Option.bind_eq_some_iff] at e
  obtain ⟨⟨r1, g1⟩, h1, ⟨rs2, g2⟩, h2, e⟩ := e
  cases e
  obtain ⟨h1', ds, hr1⟩ := zGrd_some h1
  refine ⟨C, Hs, A, g, r1, g1, hK, hn, ok, h1', fun Hs1 A1 v1 H1 s1 p1 ok1 rel1 => ?_⟩
  have dz : Dz C.K Hs1 v1 (.obj c fl ds) := by rw [hr1] at rel1; exact rel1
  cases dz with
  | obj hc' ha hl hz =>
    rw [hK] at hc'
    cases hc'.symm.trans (show PySem.W.nsIn X.K mainGlobals c = some (some (.ref Cc)) from hc)
    exact ⟨_, _, _, rfl, ok1.same _ _ ha, lookup_zip_none hm, C, Hs1, A1, g1, rs2, _, hK, hn, ok1, h2, fun Hs2 A2 vs H2 s2 p2 ok2 rel2 =>
      q Hs2 A2 (_ :: vs) H2 (s1.trans s2) (p1.trans p2) ok2 ⟨rel1.mono s2 p2, rel2⟩⟩
theorem ze_mth0 {k : Nat} {c m : Str} {o : Expr} {apos : Pos} {f : List D → Option FR} {mo : ZM} (hk : MthK X.prog X.w X.K X.mg X.base k c m (spP X.K f)) (hr : Room k X.A) (hm : m ∉ fl) (ho : ZE X o mo)
    {pl : Sem Bool} (ht : eval (.Call (.Attribute o m apos) [] [] pos) X.env = (do
      let ov ← eval o X.env
      standAt apos.atName
      let (f, first) ← holding [ov] (getMethod ov m pl)
      callWith pos f first (backTo pos (starEach [] X.env)) (backToKw pos (keywordEach [] X.env))) := by rfl) :
    ZE X (.Call (.Attribute o m apos) [] [] pos) (zMth c fl f mo zNil) := by
  obtain ⟨C, fa, fd, ps, h1, h2, h3, h4, h5⟩ := hk
  refine PE.of (pe_meth0 (E := E0) ho h2 h3 h5 hr h4 .nil pass0 ht) fun σ H Q h => ?_
  obtain ⟨C1, Hs, A, g, r, g', hK, hn, ok, e, q⟩ := mth_of (E := E0) h1 hm h
  refine ⟨C1, Hs, A, g, r, g', hK, hn, ok, e, fun Hs1 A1 v1 H1 s1 p1 ok1 rel1 => ?_⟩
  obtain ⟨a, dx, fs, e1, e2, e3, C2, Hs2, A2, g2, rs, g3, _, _, ok2, e4, q2⟩ := q Hs1 A1 v1 H1 s1 p1 ok1 rel1
  cases e4
  exact ⟨a, dx, fs, e1, e2, e3, q2 Hs2 A2 [] H1 (Same.refl _) (Pre.refl _) ok2 trivial⟩
end
end Z
set_option Elab.async false
set_option linter.all false
set_option maxRecDepth 100000
set_option maxHeartbeats 4000000
namespace Z
open PySem PySem.Spec PyProof.Rows L2
/-- a class without an __eq__ of its own -/
def NonK (K : PySem.W.Frag) (c : Str) : Prop := ∃ C, ClsAt K c C ∧ PySem.W.mroIn K C (.type "object") = some true ∧ PySem.W.findIn K (.ref C) "__eq__" = some (some (.builtin "object.__eq__"))
end Z
namespace Z
open PySem PySem.Spec PyProof.Rows L2
/-- class c of the module: fields to read, isinstance -/
def ClsF (K : PySem.W.Frag) (mg : Str → Option Value) (c : Str) (fl : List Str) : Prop := ∃ C, ClsAt K c C ∧ mg c = some (.ref C) ∧ (∀ n ∈ fl, NoAttr K C n) ∧ C8.InsC K C
/-- .. with its __init__ -/
def ClsDef (K : PySem.W.Frag) (mg : Str → Option Value) (c : Str) (fl : List Str) (qual : Str) (st : Stmt) : Prop := ∃ (C fa : Addr) (fd : FuncData), ClsAt K c C ∧ mg c = some (.ref C) ∧ Cls K C ∧ (∀ n ∈ fl, NoAttr K C n) ∧ Mk K C fa ∧ Fun K "__init__" qual st fa fd
def MthDef (K : PySem.W.Frag) (c m qual : Str) (st : Stmt) : Prop := ∃ (C fa : Addr) (fd : FuncData), ClsAt K c C ∧ Cls K C ∧ Meth K C m fa ∧ Fun K m qual st fa fd
theorem ClsF.fld {K : PySem.W.Frag} {mg : Str → Option Value} {c : Str} {fl : List Str} (k : ClsF K mg c fl) {i : Nat} {f : Str} (h : fl[i]? = some f) : FldK K c f :=
  let ⟨C, h1, _, h3, h4⟩ := k
  ⟨C, h1, h4.cl, h3 f (List.mem_of_getElem? h)⟩
theorem ClsF.isi {K : PySem.W.Frag} {mg : Str → Option Value} {c : Str} {fl : List Str} (k : ClsF K mg c fl) : IsiK K mg c :=
  let ⟨C, h1, h2, _, h4⟩ := k
  ⟨C, h1, h2, h4⟩
theorem ClsF.non {K : PySem.W.Frag} {mg : Str → Option Value} {c : Str} {fl : List Str} {C : Addr} (k : ClsF K mg c fl) (a : PySem.W.nsIn K mainGlobals c = some (some (.ref C))) (h : PySem.W.findIn K (.ref C) "__eq__" = some (some (.builtin "object.__eq__"))) : NonK K c := by
  obtain ⟨C', h1, _, _, h4⟩ := k
  cases (show PySem.W.nsIn K mainGlobals c = some (some (.ref C')) from h1).symm.trans a
  exact ⟨_, a, h4.hm, h⟩
theorem kit_self {K : PySem.W.Frag} {C : Addr} : PySem.W.kitOne K (.ref C) (.ref C) = some true := by
  unfold PySem.W.kitOne
  rw [if_pos (beq_self_eq_true _)]
theorem ze_fldF {X : Cx} {pos : Pos} {c : Str} {fl : List Str} {e : Expr} {f : Str} {i : Nat} {m : ZM} (k : ClsF X.K X.mg c fl) (hn : fl.Nodup) (hi : fl[i]? = some f) (h : ZE X e m) (hb : attributeBase e f X.env (eval e X.env) = eval e X.env := by rfl) :
    ZE X (.Attribute e f pos) (zFld c fl i m) := ze_fld (k.fld hi) hn hi h hb
/-- the i-th statement of a class -/
def mtOf (s : Stmt) (j : Nat) : Stmt := match s with
  | .ClassDef _ _ _ b _ _ _ _ _ _ _ => b.getD j (.Pass ⟨0, 0, 0, 0⟩)
  | _ => .Pass ⟨0, 0, 0, 0⟩
end Z
set_option Elab.async false
set_option linter.all false
set_option maxRecDepth 100000
set_option maxHeartbeats 4000000
namespace Z
open PySem PySem.Spec PyProof.Rows L2
def CalG (P : Program) (w : World) (K : PySem.W.Frag) (mg : Str → Option Value) (base : Heap) (k : Nat) (x : Str) (sp : Sp) : Prop :=
  ∃ (f : Addr) (fd : FuncData) (ps : List Str), mg x = some (.ref f) ∧ PySem.W.keepIn K (.ref f) = true ∧ Binds K fd ps [] ∧ (∀ vs H Q E, sp vs H Q E → vs.length = ps.length) ∧ ∀ A : Around, Room k A → A.guards = some [] → FnA P w K mg base A f fd ps sp
theorem CalG.mono {P : Program} {w : World} {K : PySem.W.Frag} {mg : Str → Option Value} {base : Heap} {j k : Nat} {x : Str} {sp : Sp} (c : CalG P w K mg base j x sp) (h : j ≤ k) : CalG P w K mg base k x sp :=
  let ⟨f, fd, ps, h1, h2, h3, h4, h5⟩ := c
  ⟨f, fd, ps, h1, h2, h3, h4, fun A hr => h5 A (hr.mono h)⟩
section
variable {P : Program} {w : World} {K : PySem.W.Frag} {mg : Str → Option Value} {base : Heap}
theorem lenP {N ps : List Str} {s : SM} : ∀ vs H Q E, spP K (runP N.length ps.length s) vs H Q E → vs.length = ps.length := fun vs H Q E ⟨Hs, ds, fr, _, hz, e, _⟩ => by
  unfold runP at e
  split at e
  · rename_i h
    rw [hz.length]
    exact h
  · cases e
theorem calG_mk {x : Str} {st : Stmt} {N ps : List Str} {k : Nat} {s : SM} (h : DefAt K mg x st) (S : FnScope N ps (defScope st))
    (hb : ∀ (kV doc pm : Value) (an : Option Addr) (cdv ct : Value) (us : List Value), us.length = ps.length → bindArgs (PySem.W.fnOf x x (defArgs st) (defBody st) (defScope st) .none kV doc pm an cdv ct) ⟨us, []⟩ = pure (ps.zip us))
    (body : ∀ (a : Addr) (A : Around), A.guards = some [] → ∀ (cdv : Value) (out : List Env) (s0 : Shared) (H : Hp) (E : XK), Room k (A.deeper (envOfC x (defScope st) s0.heap.objs.size a cdv)) → ZSs (cxOf CX0 P w K mg base N x (defScope st) a cdv A out s0 H E).nox (defBody st) s) :
    CalG P w K mg base (k + 1) x (spP K (runP N.length ps.length s)) := by
  obtain ⟨a, fd, h1, F⟩ := h
  exact ⟨a, fd, ps, h1, F.kp, F.binds hb, lenP, fun A hr hg => okA F S hr (body a A hg)⟩
end
section
variable {X : Cx} {k : Nat} {f : Addr} {fd : FuncData} {ps : List Str} {sp : Sp} {x : Str} {p pos : Pos} {e : Expr} {es : List Expr} {E : XK} {t : TA}
theorem run_fnA {pins : List (Addr × Obj)} {σ : L2.St} {H : Hp} {s : Shared} {Q : VK} {us : List Value} {vs : List V} (len : ∀ vs H Q E, sp vs H Q E → vs.length = ps.length) (F : FnA X.prog X.w X.K X.mg X.base X.A f fd ps sp) (hb : Binds X.K fd ps [])
    (hx : Passes CX0 X E) (I : Inv X pins σ H s) (r : Vals vs us) (h : sp vs H Q E) : wpAny (model X.prog X.w) X.A (call (.ref f) us) (EP X pins σ Q) X.xe s := by
  have hl : (us ++ []).length = ps.length := by rw [List.append_nil, ← r.length]; exact len _ _ _ _ h
  refine wpAny_call (codeAny_mono (F.run X.stack s H ⟨us, []⟩ us vs Q E I.env0 (by have := hb s us I.kIn hl; rw [List.append_nil] at this; exact this) r h) fun r s' hq => ?_)
  cases r with
  | error e => exact hx pins σ H s e s' I hq
  | ok fl =>
    cases fl with
    | ret u => exact I.after hq
    | next => exact False.elim hq
    | brk => exact False.elim hq
    | cont => exact False.elim hq
theorem ze_callG {f : List D → Option FR} {ma : ZAr} (c : CalG X.prog X.w X.K X.mg X.base k x (spP X.K f)) (hr : Room k X.A) (hgd : X.A.guards = some []) (ha : ZAs X (e :: es) ma) (hg : Gl X x := by rfl)
    (hdb : (x == ("__debug__" : Str)) = false := by decide) (he : starEach (e :: es) X.env = (false, eval e X.env) :: starEach es X.env := by rfl) (hpl : (backTo pos (starEach es X.env)).any (·.1) = false := by rfl) :
    ZE X (.Call (.Name x p) (e :: es) [] pos) (zCall f ma) := by
  obtain ⟨fa, fd, ps, hm, hk, hb, len, F⟩ := c
  refine ⟨fun pins s σ H Q I h => ?_⟩
  refine wpAny_Call_Name_kw (ld_glob I hg hm ?_ hdb)
  have h2 := call_of (E := E0) h
  refine PySem.W.callWith_K (h₀ := X.base) I.ok.mod.kin hk (thn (ha.run pos pins s σ H _ I h2) fun us s1 ⟨vs, H1, I1, r, q⟩ => ⟨I1.kIn, ?_⟩) he hpl
  exact run_fnA len (F X.A hr hgd) hb pass0 I1 r (by have q : spP X.K f (vs ++ []) H1 Q E0 := q; rw [List.append_nil] at q; exact q)
end
end Z
set_option Elab.async false
set_option linter.all false
set_option maxRecDepth 100000
set_option maxHeartbeats 4000000
namespace Z
open PySem PySem.Spec PyProof.Rows L2
section
variable {g g1 g2 g3 : G}
theorem er_orVT {ma mb : ZM} {b1 : Bool} (h1 : ma g = some (.dat (.bl b1), g1)) (hb : b1 = true) : zOrV ma mb g = some (.dat (.bl true), g1) := by
  subst hb
  unfold zOrV; simp only [h1, isB, Option.bind_eq_bind, Option.bind_some]
  rfl
theorem er_andTF {s t : ZT} {b1 : Bool} (h1 : s g = some (b1, g1)) (hb : b1 = false) : zAndT s t g = some (false, g1) := by
  subst hb
  unfold zAndT; simp only [h1, Option.bind_eq_bind, Option.bind_some]
  rfl
end
end Z
set_option Elab.async false
set_option linter.all false
set_option maxRecDepth 100000
set_option maxHeartbeats 4000000
namespace Z
open PySem PySem.Spec PyProof.Rows L2
end Z
set_option Elab.async false
set_option linter.all false
set_option maxRecDepth 100000
set_option maxHeartbeats 4000000
namespace Z
open PySem PySem.Spec PyProof.Rows L2
end Z
set_option Elab.async false
set_option linter.all false
set_option maxRecDepth 100000
set_option maxHeartbeats 4000000
namespace Z
open PySem PySem.Spec PyProof.Rows L2
def okS (i j c : Int) : Bool := decide (0 ≤ i) && decide (i ≤ 16777216) && decide (0 ≤ j) && decide (j ≤ 16777216) && decide (0 < c) && decide (c ≤ 1000000)
end Z
set_option Elab.async false
set_option linter.all false
set_option maxRecDepth 100000
set_option maxHeartbeats 4000000
namespace Z
open PySem PySem.Spec PyProof.Rows L2
end Z
set_option Elab.async false
set_option linter.all false
set_option maxRecDepth 100000
set_option maxHeartbeats 4000000
namespace ZN
open PySem PySem.Spec PyProof.Rows L2 Z
/-- the pairs of such a dict: the key, its object, the value -/
abbrev NKV := List (NestedKey × Addr × V)
abbrev KN : NKV → List (NestedKey × Addr × Value) → Prop := Paired fun p q => p.1 = q.1 ∧ p.2.1 = q.2.1 ∧ RelV p.2.2 q.2.2
def ent (w : World) (x : NestedKey × Addr × Value) : DictEntry := ⟨x.1.hash w, .ref x.2.1, x.2.2⟩
structure ND0 (w : World) (h : Heap) (a : Addr) (kvs : NKV) : Prop where
  ex : ∃ xs, KN kvs xs ∧ ∃ o es ep, h.get? a = some o ∧ o.ExactDict ∧ o.data = .dict es ep ∧ es.toList = xs.map (ent w) ∧ (xs.map (·.1)).Nodup
  nm : (a == sysModules) = false
  few : kvs.length ≤ sizeLine
def NDictO (w : World) (a : Addr) (kvs : NKV) : HO := .ext fun h => ND0 w h a kvs
theorem ndict_ok {P : Program} {w : World} {H : Hp} {h : Heap} {a : Addr} {kvs : NKV} (R : ND0 w h a kvs) : ObjOk P w H h a (NDictO w a kvs) := by
  have ⟨_, _, o, _, _, ho, _⟩ := R.ex
  exact ⟨R, ⟨o, ho⟩, fun h1 h2 p k => let ⟨xs, r, o, es, ep, ho, hc⟩ := p.ex; ⟨⟨xs, r, o, es, ep, k o ho, hc⟩, p.nm, p.few⟩⟩
def valN (kvs : NKV) (k : NestedKey) : Option V := (kvs.find? fun p => decide (p.1 = k)).map (·.2.2)
def putN (kvs : NKV) (k : NestedKey) (b : Addr) (v : V) : NKV := if (valN kvs k).isSome = true then kvs.map (fun p => if p.1 = k then (p.1, p.2.1, v) else p) else kvs ++ [(k, b, v)]
theorem valN_pos {p : NestedKey × Addr × V} {ps : NKV} {k : NestedKey} (e : p.1 = k) : valN (p :: ps) k = some p.2.2 := by simp [valN, List.find?_cons, e]
theorem valN_neg {p : NestedKey × Addr × V} {ps : NKV} {k : NestedKey} (e : ¬ p.1 = k) : valN (p :: ps) k = valN ps k := by simp [valN, List.find?_cons, e]
theorem KN.val {kvs : NKV} {xs : List (NestedKey × Addr × Value)} (r : KN kvs xs) (k : NestedKey) : RelO (valN kvs k) ((atKey xs k).map (·.2)) := by
  induction r with
  | nil => exact True.intro
  | @cons p q ps qs h t ih =>
    obtain ⟨h1, _, h2⟩ := h
    by_cases e : p.1 = k
    · have e' : q.1 = k := h1.symm.trans e
      have b : atKey (q :: qs) k = some q.2 := by simp [atKey, List.find?_cons, e']
      rw [valN_pos e, b]; exact h2
    · have e' : ¬ q.1 = k := fun z => e (h1.trans z)
      have b : atKey (q :: qs) k = atKey qs k := by simp [atKey, List.find?_cons, e']
      rw [valN_neg e, b]; exact ih
theorem KN.repl {kvs : NKV} {xs : List (NestedKey × Addr × Value)} (r : KN kvs xs) (k : NestedKey) {y : V} {u : Value} (ry : RelV y u) :
    KN (kvs.map fun p => if p.1 = k then (p.1, p.2.1, y) else p) (xs.map (putAt k u)) := by
  induction r with
  | nil => exact .nil
  | @cons p q ps qs h t ih =>
    rw [List.map_cons, List.map_cons]
    refine .cons ?_ ih
    obtain ⟨h1, h2, h3⟩ := h
    unfold putAt
    by_cases e : p.1 = k
    · rw [if_pos e, if_pos (h1.symm.trans e)]; exact ⟨h1, h2, ry⟩
    · rw [if_neg e, if_neg (fun z => e (h1.trans z))]; exact ⟨h1, h2, h3⟩
theorem KN.put {kvs : NKV} {xs : List (NestedKey × Addr × Value)} (r : KN kvs xs) (k : NestedKey) {b : Addr} {y : V} {u : Value} (ry : RelV y u) : KN (putN kvs k b y) (storedH xs k b u) := by
  have e : (valN kvs k).isSome = (atKey xs k).isSome := by
    have q := (r.val k).isSome_eq
    rw [Option.isSome_map] at q
    exact q
  unfold putN storedH
  rw [e]
  by_cases q : (atKey xs k).isSome = true
  · rw [if_pos q, if_pos q]; exact r.repl k ry
  · rw [if_neg q, if_neg q]; exact Paired.snoc r ⟨rfl, rfl, ry⟩
theorem putN_len (kvs : NKV) (k : NestedKey) (b : Addr) (v : V) : (putN kvs k b v).length ≤ kvs.length + 1 := by
  unfold putN
  split
  · rw [List.length_map]; omega
  · rw [List.length_append]; exact Nat.le_refl _
section
variable {X : Cx} {pins : List (Addr × Obj)} {σ : L2.St} {H : Hp} {s : Shared} {a : Addr} {kvs : NKV}
theorem ndict_get (I : Inv X pins σ H s) (ha : H a = some (NDictO X.w a kvs)) (m : ∀ p ∈ kvs, KeyH X.K H p.1 p.2.1) : (a == sysModules) = false ∧ kvs.length ≤ sizeLine ∧ ∃ xs, KN kvs xs ∧ s.heap.DictOfH (nestedKind X.prog X.w) a xs := by
  have R : ND0 X.w s.heap a kvs := (I.hok a _ ha).1
  obtain ⟨xs, r, o, es, ep, h1, h2, h3, h4, h5⟩ := R.ex
  have all : ∀ {ps : NKV} {ys : List (NestedKey × Addr × Value)}, KN ps ys → (∀ p ∈ ps, KeyH X.K H p.1 p.2.1) → ∀ x ∈ ys, (nestedKind X.prog X.w).is s.heap x.1 x.2.1 := by
    intro ps ys r
    induction r with
    | nil => exact fun _ x hx => nomatch hx
    | @cons p q ps qs hq t ih =>
      intro m x hx
      rcases List.mem_cons.mp hx with e | hx
      · subst e
        obtain ⟨e1, e2, _⟩ := hq
        have k := (m p List.mem_cons_self).nk I
        rw [e1, e2] at k
        exact k
      · exact ih (fun p hp => m p (List.mem_cons_of_mem _ hp)) x hx
  exact ⟨R.nm, R.few, xs, r, o, es, ep, h1, h2, h3, h4, all r m, h5⟩
/-- {}, to be a dict of such keys -/
def tNDNew (w : World) : TE := fun _ H Q => ∀ p, H p = none → Q (.ref p) (upd H p (NDictO w p []))
theorem pe_ndnew {pos : Pos} : PE X (.Dict [] [] pos) (tNDNew X.w) := ⟨fun pins s σ H Q I h =>
  wpAny_Dict_empty ⟨.ref s.heap.objs.size, _, I.laid (a := s.heap.objs.size) (o := NDictO X.w s.heap.objs.size []) (t' := s.toks) (fun _ _ q => Heap.get?_push_of_some _ q) (Nat.le_refl _)
    (ndict_ok ⟨⟨[], .nil, _, #[], 0, Heap.get?_push_size _ rfl, ⟨rfl, rfl, rfl⟩, rfl, rfl, List.nodup_nil⟩, beq_eq_false_iff_ne.mpr (Ne.symm (Nat.ne_of_lt I.big)), Nat.zero_le _⟩), rfl, h _ (I.hok.fresh (Nat.le_refl _))⟩⟩
/-- x in d, x not in d -/
def rNDIn (K : PySem.W.Frag) (w : World) (neg : Bool) : R2 := fun x y H Q => ∃ (k : NestedKey) (b a : Addr) (kvs : NKV), x = .ref b ∧ y = .ref a ∧ H a = some (NDictO w a kvs) ∧ (∀ p ∈ kvs, KeyH K H p.1 p.2.1) ∧ KeyH K H k b ∧
  Q (.bl (if neg = true then !(valN kvs k).isSome else (valN kvs k).isSome)) H
theorem or_ndnotin (hu : X.A.units + 64 < cLine) : OpR X (compareOp .NotIn) (rNDIn X.K X.w true) := by
  intro pins s σ H x y v u Q I rx ry h
  obtain ⟨k, b, a, kvs, rfl, rfl, ha, hm, hk, q⟩ := h
  cases rx
  cases ry
  obtain ⟨hd, _, xs, r, D⟩ := ndict_get I ha hm
  refine wpAny_notIn_heap (knd := nestedKind X.prog X.w) (by show X.A.in1.units + 8 < cLine; simp only [Around.in1_units]; omega) (hk.nk I) hd D ?_
  have e := (r.val k).isSome_eq
  rw [Option.isSome_map] at e
  rw [← e]
  exact ⟨.bl _, H, I.tok _, rfl, q⟩
/-- d[k], there -/
def rNDIx (K : PySem.W.Frag) (w : World) : R2 := fun x y H Q => ∃ (k : NestedKey) (b a : Addr) (kvs : NKV) (v : V), x = .ref a ∧ y = .ref b ∧ H a = some (NDictO w a kvs) ∧ (∀ p ∈ kvs, KeyH K H p.1 p.2.1) ∧ KeyH K H k b ∧ valN kvs k = some v ∧ Q v H
theorem pe_ndix {o i : Expr} {td ty : TE} {pos : Pos} (hu : X.A.units + 64 < cLine) (ho : PE X o td) (hi : PE X i ty) (hs : NoSl i := by exact fun _ _ => rfl) : PE X (.Subscript o i pos) (tOp (rNDIx X.K X.w) td ty) := by
  refine ⟨fun pins s σ H Q I h => ?_⟩
  refine subD_of PySem.F.slot_dict_getitem.lookup hs (thn (ho.run pins s σ H _ I h) fun u s1 ⟨x, H1, I1, rx, q1⟩ => thn (hi.run pins s1 σ H1 _ I1 q1) fun iv s2 ⟨y, H2, I2, ry, k, b, a, kvs, v, ex, ey, ha, hm, hk, hv, q2⟩ => ?_)
  subst ex ey
  obtain rfl : u = Value.ref a := rx
  obtain rfl : iv = Value.ref b := ry
  obtain ⟨hd, _, xs, r, D⟩ := ndict_get I2 ha hm
  obtain ⟨w', hw, rw'⟩ := RelO.some_of (v := v) (o := (atKey xs k).map (·.2)) (by rw [← hv]; exact r.val k)
  obtain ⟨p, hp, hp2⟩ := Option.map_eq_some_iff.mp hw
  refine ⟨D.typeIs, wpAny_getItem_heap (knd := nestedKind X.prog X.w) (by show X.A.in1.units + 8 < cLine; simp only [Around.in1_units]; omega) (hk.nk I2) D hp ?_⟩
  rw [hp2]
  exact ⟨v, H2, I2.tok _, rw', q2⟩
/-- d[k] = v -/
def sNDPut (K : PySem.W.Frag) (w : World) (td ty tv : TE) : TS := fun D σ H => tv σ H fun v H1 => td σ H1 fun x H2 => ty σ H2 fun y H3 => ∃ (k : NestedKey) (b a : Addr) (kvs : NKV), x = .ref a ∧ y = .ref b ∧ H3 a = some (NDictO w a kvs) ∧ (∀ p ∈ kvs, KeyH K H3 p.1 p.2.1) ∧ KeyH K H3 k b ∧
  kvs.length < sizeLine ∧ D.nx σ (upd H3 a (NDictO w a (putN kvs k b v)))
theorem ps_ndput {o i value : Expr} {td ty tv : TE} {pos pos' : Pos} (hu : X.A.units + 64 < cLine) (ho : PE X o td) (hi : PE X i ty) (hv : PE X value tv) (hs : swapsWith value (some (.Subscript o i pos')) pos.line X.env = pure false := by rfl) :
    PS X (.Assign [.Subscript o i pos'] value pos) (sNDPut X.K X.w td ty tv) := by
  refine ⟨fun pins s σ H D I h => ?_⟩
  refine wpAny_Assign_Subscript (thn (hv.run pins s σ H _ I h) fun r s1 ⟨v, H1, I1, rv, q1⟩ => thn (ho.run pins s1 σ H1 _ I1 q1) fun u s2 ⟨x, H2, I2, rx, q2⟩ => thn (hi.run pins s2 σ H2 _ I2 q2) fun iv s3 ⟨y, H3, I3, ry, k, b, a, kvs, ex, ey, ha, hm, hk, hl, q3⟩ => ?_) hs
  subst ex ey
  obtain rfl : u = Value.ref a := rx
  obtain rfl : iv = Value.ref b := ry
  obtain ⟨hd, hf, xs, rel, D0⟩ := ndict_get I3 ha hm
  have hz : xs.length ≤ sizeLine := by rw [← Paired.length rel]; exact hf
  refine wpAny_setItem_heap (knd := nestedKind X.prog X.w) (hsz := hz) (by show X.A.in1.units + 8 < cLine; simp only [Around.in1_units]; omega) (hk.nk I3) D0 fun h' dd' sb => ?_
  obtain ⟨q, es, ep, hq, h2, h3, h4, _, h5⟩ := dd'
  refine ⟨σ, upd H3 a (NDictO X.w a (putN kvs k b v)), ?_, q3⟩
  exact I3.write (x := a) (e := a) (by rw [ha]; trivial) (.inl rfl) (fun c u hc hu' => (sb.2 c hc).trans hu') ⟨q, hq⟩
    (ndict_ok ⟨⟨_, rel.put k rv, q, es, ep, hq, h2, h3, h4, h5⟩, hd, by have := putN_len kvs k b v; omega⟩)
end
end ZN
set_option Elab.async false
set_option linter.all false
set_option maxRecDepth 100000
set_option maxHeartbeats 4000000
namespace ZN
open PySem PySem.Spec PyProof.Rows L2 Z
/-- a group: its key, the values found, its members -/
abbrev G3 := NestedKey × List D × List D
def idx : Nat → List G3 → NestedKey → Option Nat
  | _, [], _ => none
  | n, g :: gs, k => if g.1 = k then some n else idx (n + 1) gs k
def addG (acc : List G3) (k : NestedKey) (l : List D) : List G3 := if (idx 0 acc k).isSome = true then acc else acc ++ [(k, l, [])]
def DK : Nat → NKV → List G3 → Prop
  | _, [], [] => True
  | n, p :: ps, g :: gs => p.1 = g.1 ∧ p.2.2 = .int (n : Int) ∧ DK (n + 1) ps gs
  | _, _, _ => False
theorem dk_val (k : NestedKey) : ∀ {n : Nat} {kvs : NKV} {acc : List G3}, DK n kvs acc → valN kvs k = (idx n acc k).map fun (i : Nat) => V.int (i : Int)
  | _, [], [], _ => rfl
  | n, p :: ps, g :: gs, h => by
    obtain ⟨h1, h2, h3⟩ := h
    unfold idx
    by_cases e : g.1 = k
    · rw [valN_pos (h1.trans e), if_pos e, h2]; rfl
    · rw [valN_neg (fun z => e (h1.symm.trans z)), if_neg e]
      exact dk_val k h3
  | _, [], _ :: _, h => h.elim
  | _, _ :: _, [], h => h.elim
theorem dk_len : ∀ {n : Nat} {kvs : NKV} {acc : List G3}, DK n kvs acc → kvs.length = acc.length
  | _, [], [], _ => rfl
  | n, p :: ps, g :: gs, h => by rw [List.length_cons, List.length_cons, dk_len h.2.2]
  | _, [], _ :: _, h => h.elim
  | _, _ :: _, [], h => h.elim
theorem dk_snoc {k : NestedKey} {b : Addr} {l m : List D} : ∀ {n : Nat} {kvs : NKV} {acc : List G3}, DK n kvs acc → DK n (kvs ++ [(k, b, .int ((n + acc.length : Nat) : Int))]) (acc ++ [(k, l, m)])
  | _, [], [], _ => ⟨rfl, rfl, trivial⟩
  | n, p :: ps, g :: gs, h => by
    refine ⟨h.1, h.2.1, ?_⟩
    have q := dk_snoc (k := k) (b := b) (l := l) (m := m) h.2.2
    rw [List.length_cons, show n + (gs.length + 1) = n + 1 + gs.length by omega]
    exact q
  | _, [], _ :: _, h => h.elim
  | _, _ :: _, [], h => h.elim
theorem dk_set {y z : List D} : ∀ {n : Nat} {kvs : NKV} {acc : List G3} {j : Nat} {g : G3}, DK n kvs acc → acc[j]? = some g → DK n kvs (acc.set j (g.1, y, z))
  | _, [], [], _, _, _, e => by simp at e
  | n, p :: ps, g :: gs, 0, g', h, e => by
    simp only [List.getElem?_cons_zero, Option.some.injEq] at e
    subst e
    exact ⟨h.1, h.2.1, h.2.2⟩
  | n, p :: ps, g :: gs, j + 1, g', h, e => by
    simp only [List.getElem?_cons_succ] at e
    exact ⟨h.1, h.2.1, dk_set h.2.2 e⟩
  | _, [], _ :: _, _, _, h, _ => h.elim
  | _, _ :: _, [], _, _, h, _ => h.elim
theorem idx_at {k : NestedKey} : ∀ {n : Nat} {acc : List G3} {i : Nat}, idx n acc k = some i → n ≤ i ∧ ∃ g, acc[i - n]? = some g
  | _, [], _, e => by cases e
  | n, g :: gs, i, e => by
    unfold idx at e
    split at e
    · cases e
      exact ⟨Nat.le_refl _, g, by simp⟩
    · obtain ⟨h1, g', h2⟩ := idx_at e
      refine ⟨by omega, g', ?_⟩
      rw [show i - n = i - (n + 1) + 1 by omega, List.getElem?_cons_succ]
      exact h2
theorem idx_new {k : NestedKey} {l m : List D} : ∀ {n : Nat} {acc : List G3}, idx n acc k = none → idx n (acc ++ [(k, l, m)]) k = some (n + acc.length)
  | n, [], _ => by show (if k = k then some n else _) = _; rw [if_pos rfl]; rfl
  | n, g :: gs, e => by
    unfold idx at e
    split at e
    · cases e
    · rename_i h
      show (if g.1 = k then some n else idx (n + 1) (gs ++ [(k, l, m)]) k) = _
      rw [if_neg h, idx_new e, List.length_cons]
      congr 1
      omega
theorem add_has (acc : List G3) (k : NestedKey) (l : List D) : ∃ i g, idx 0 (addG acc k l) k = some i ∧ (addG acc k l)[i]? = some g := by
  unfold addG
  split
  · rename_i h
    obtain ⟨i, e⟩ := Option.isSome_iff_exists.mp h
    obtain ⟨_, g, hg⟩ := idx_at e
    exact ⟨i, g, e, hg⟩
  · rename_i h
    have e := idx_new (l := l) (m := []) (Option.not_isSome_iff_eq_none.mp h)
    rw [Nat.zero_add] at e
    exact ⟨_, (k, l, []), e, by simp⟩
abbrev Tri := Addr × Addr × Addr
def ownT (ks : List Tri) : List Addr := ks.flatMap fun x => [x.1, x.2.2]
def GrpOk (K : PySem.W.Frag) (Hk H : Hp) : List Tri → List G3 → Prop
  | [], [] => True
  | x :: xs, g :: gs => (H x.1 = some (.tup [.ref x.2.1, .ref x.2.2]) ∧ Dz K Hk (.ref x.2.1) (.lst g.2.1) ∧ ∃ us, H x.2.2 = some (.lst us) ∧ DzA K Hk us g.2.2) ∧ GrpOk K Hk H xs gs
  | _, _ => False
theorem GrpOk.live {K : PySem.W.Frag} {Hk H : Hp} : ∀ {ks : List Tri} {acc : List G3}, GrpOk K Hk H ks acc → ∀ x ∈ ownT ks, ∃ o, H x = some o
  | [], [], _, _, m => (List.not_mem_nil m).elim
  | t :: ts, g :: gs, h, x, m => by
    obtain ⟨⟨h1, _, us, h2, _⟩, h3⟩ := h
    rcases List.mem_append.mp (show x ∈ [t.1, t.2.2] ++ ownT ts from m) with m | m
    · rcases List.mem_cons.mp m with rfl | m
      · exact ⟨_, h1⟩
      · rw [List.mem_singleton.mp m]; exact ⟨_, h2⟩
    · exact h3.live x m
  | [], _ :: _, h, _, _ => h.elim
  | _ :: _, [], h, _, _ => h.elim
theorem GrpOk.move {K : PySem.W.Frag} {Hk Hk' H H' : Hp} (s : Same Hk Hk') : ∀ {ks : List Tri} {acc : List G3}, GrpOk K Hk H ks acc → (∀ x ∈ ownT ks, ∀ o, H x = some o → H' x = some o) → GrpOk K Hk' H' ks acc
  | [], [], _, _ => trivial
  | t :: ts, g :: gs, h, m => by
    obtain ⟨⟨h1, hf, us, h2, h4⟩, h3⟩ := h
    exact ⟨⟨m _ (List.mem_append.mpr (.inl List.mem_cons_self) : t.1 ∈ [t.1, t.2.2] ++ ownT ts) _ h1, hf.mono s, us, m _ (List.mem_append.mpr (.inl (List.mem_cons_of_mem _ List.mem_cons_self)) : t.2.2 ∈ [t.1, t.2.2] ++ ownT ts) _ h2, h4.mono s⟩,
      h3.move s fun x hx => m x (List.mem_append.mpr (.inr hx) : x ∈ [t.1, t.2.2] ++ ownT ts)⟩
  | [], _ :: _, h, _ => h.elim
  | _ :: _, [], h, _ => h.elim
theorem GrpOk.len {K : PySem.W.Frag} {Hk H : Hp} : ∀ {ks : List Tri} {acc : List G3}, GrpOk K Hk H ks acc → ks.length = acc.length
  | [], [], _ => rfl
  | _ :: _, _ :: _, h => by rw [List.length_cons, List.length_cons, GrpOk.len h.2]
  | [], _ :: _, h => h.elim
  | _ :: _, [], h => h.elim
theorem GrpOk.snoc {K : PySem.W.Frag} {Hk H : Hp} {t : Tri} {g : G3} (h1 : H t.1 = some (.tup [.ref t.2.1, .ref t.2.2])) (h2 : Dz K Hk (.ref t.2.1) (.lst g.2.1)) (h3 : ∃ us, H t.2.2 = some (.lst us) ∧ DzA K Hk us g.2.2) : ∀ {ks : List Tri} {acc : List G3}, GrpOk K Hk H ks acc → GrpOk K Hk H (ks ++ [t]) (acc ++ [g])
  | [], [], _ => ⟨⟨h1, h2, h3⟩, trivial⟩
  | _ :: _, _ :: _, h => ⟨h.1, GrpOk.snoc h1 h2 h3 h.2⟩
  | [], _ :: _, h => h.elim
  | _ :: _, [], h => h.elim
theorem GrpOk.at_ {K : PySem.W.Frag} {Hk H : Hp} : ∀ {ks : List Tri} {acc : List G3} {i : Nat} {g : G3}, GrpOk K Hk H ks acc → acc[i]? = some g → ∃ t us, ks[i]? = some t ∧ H t.1 = some (.tup [.ref t.2.1, .ref t.2.2]) ∧ H t.2.2 = some (.lst us) ∧ DzA K Hk us g.2.2
  | [], [], _, _, _, e => by simp at e
  | t :: ts, g :: gs, 0, g', h, e => by
    simp only [List.getElem?_cons_zero, Option.some.injEq] at e
    subst e
    obtain ⟨⟨h1, _, us, h2, h4⟩, _⟩ := h
    exact ⟨t, us, rfl, h1, h2, h4⟩
  | t :: ts, g :: gs, i + 1, g', h, e => by
    simp only [List.getElem?_cons_succ] at e
    obtain ⟨t', us, a1, a2⟩ := GrpOk.at_ h.2 e
    exact ⟨t', us, by rw [List.getElem?_cons_succ]; exact a1, a2⟩
  | [], _ :: _, _, _, h, _ => h.elim
  | _ :: _, [], _, _, h, _ => h.elim
/-- one member more in the i-th group -/
theorem GrpOk.push {K : PySem.W.Frag} {Hk H : Hp} {v : V} {d : D} (z : Dz K Hk v d) : ∀ {ks : List Tri} {acc : List G3} {i : Nat} {t : Tri} {g : G3} {us : List V}, GrpOk K Hk H ks acc → (ownT ks).Nodup → ks[i]? = some t → acc[i]? = some g → H t.2.2 = some (.lst us) →
    GrpOk K Hk (upd H t.2.2 (.lst (us ++ [v]))) ks (acc.set i (g.1, g.2.1, g.2.2 ++ [d]))
  | [], [], _, _, _, _, _, _, e, _, _ => by simp at e
  | x :: xs, g :: gs, 0, t, g', us, h, nd, e1, e2, e3 => by
    simp only [List.getElem?_cons_zero, Option.some.injEq] at e1 e2
    subst e1 e2
    obtain ⟨⟨h1, hf, us', h2, h4⟩, h3⟩ := h
    have nd : ([x.1, x.2.2] ++ ownT xs).Nodup := nd
    obtain ⟨n1, n2, n3⟩ := List.nodup_append.mp nd
    have n12 : x.1 ≠ x.2.2 := by
      intro e
      rw [e] at n1
      exact (List.nodup_cons.mp n1).1 List.mem_cons_self
    rw [h2] at e3
    cases e3
    refine ⟨⟨by rw [upd_ne n12]; exact h1, hf, _, upd_same, h4.append (.cons z .nil)⟩, h3.move (Same.refl _) fun y hy o ho => ?_⟩
    rw [upd_ne (fun e => n3 x.2.2 (List.mem_cons_of_mem _ List.mem_cons_self) y hy e.symm)]
    exact ho
  | x :: xs, g :: gs, i + 1, t, g', us, h, nd, e1, e2, e3 => by
    simp only [List.getElem?_cons_succ] at e1 e2
    have nd : ([x.1, x.2.2] ++ ownT xs).Nodup := nd
    obtain ⟨n1, n2, n3⟩ := List.nodup_append.mp nd
    have mt : t.2.2 ∈ ownT xs := List.mem_flatMap.mpr ⟨t, List.mem_of_getElem? e1, List.mem_cons_of_mem _ List.mem_cons_self⟩
    obtain ⟨⟨h1, hf, us', h2, h4⟩, h3⟩ := h
    refine ⟨⟨by rw [upd_ne (n3 _ List.mem_cons_self _ mt)]; exact h1, hf, us', by rw [upd_ne (n3 _ (List.mem_cons_of_mem _ List.mem_cons_self) _ mt)]; exact h2, h4⟩, ?_⟩
    exact GrpOk.push z h3 n2 e1 e2 e3
  | [], _ :: _, _, _, _, _, h, _, _, _, _ => h.elim
  | _ :: _, [], _, _, _, _, h, _, _, _, _ => h.elim
/-- all of it as data -/
theorem GrpOk.dz {K : PySem.W.Frag} {Hk Hf H : Hp} (s : Same Hk Hf) : ∀ {ks : List Tri} {acc : List G3}, GrpOk K Hk H ks acc → (∀ x ∈ ownT ks, ∀ o, H x = some o → Hf x = some o) → DzA K Hf (ks.map fun x => V.ref x.1) (acc.map fun g => .tup [.lst g.2.1, .lst g.2.2])
  | [], [], _, _ => .nil
  | t :: ts, g :: gs, h, m => by
    obtain ⟨⟨h1, hf, us, h2, h4⟩, h3⟩ := h
    have m1 := m _ (List.mem_append.mpr (.inl List.mem_cons_self) : t.1 ∈ [t.1, t.2.2] ++ ownT ts) _ h1
    have m2 := m _ (List.mem_append.mpr (.inl (List.mem_cons_of_mem _ List.mem_cons_self)) : t.2.2 ∈ [t.1, t.2.2] ++ ownT ts) _ h2
    exact .cons (.tup (.inl (.inl m1)) (.cons (hf.mono s) (.cons (.lst (SqL.of m2) (h4.mono s)) .nil))) (h3.dz s fun x hx => m x (List.mem_append.mpr (.inr hx) : x ∈ [t.1, t.2.2] ++ ownT ts))
  | [], _ :: _, h, _ => h.elim
  | _ :: _, [], h, _ => h.elim
structure GI (K : PySem.W.Frag) (w : World) (H0 Hs : Hp) (p q : Addr) (H Hk : Hp) (kvs : NKV) (ks : List Tri) (acc : List G3) : Prop where
  sk : Same Hs Hk
  kh : Same Hk H
  h0 : Same H0 H
  gr : ∀ b o, Hk b = some o → Hs b = some o ∨ H0 b = none
  hp : H p = some (NDictO w p kvs)
  hq : H q = some (.lst (ks.map fun x => V.ref x.1))
  nd : (p :: q :: ownT ks).Nodup
  fr : ∀ x ∈ p :: q :: ownT ks, Hk x = none ∧ H0 x = none
  go : GrpOk K Hk H ks acc
  ky : ∀ r ∈ kvs, KeyH K Hk r.1 r.2.1
  dk : DK 0 kvs acc
section
variable {K : PySem.W.Frag} {w : World} {H0 Hs : Hp} {p q : Addr} {H Hk : Hp} {kvs : NKV} {ks : List Tri} {acc : List G3}
theorem GI.live (I : GI K w H0 Hs p q H Hk kvs ks acc) : ∀ x ∈ p :: q :: ownT ks, ∃ o, H x = some o := fun x m => by
  rcases List.mem_cons.mp m with rfl | m
  · exact ⟨_, I.hp⟩
  · rcases List.mem_cons.mp m with rfl | m
    · exact ⟨_, I.hq⟩
    · exact I.go.live x m
theorem GI.step (I : GI K w H0 Hs p q H Hk kvs ks acc) {H' Hk' : Hp} (s1 : Same Hk Hk') (s2 : Same H H') (s3 : Same Hk' H') (g : ∀ b o, Hk' b = some o → Hk b = some o ∨ H b = none) : GI K w H0 Hs p q H' Hk' kvs ks acc := by
  refine ⟨I.sk.trans s1, s3, I.h0.trans s2, fun b o e => ?_, s2 _ _ I.hp, s2 _ _ I.hq, I.nd, fun x m => ⟨?_, (I.fr x m).2⟩, I.go.move s1 fun x _ o e => s2 x o e, fun r m => (I.ky r m).mono s1, I.dk⟩
  · rcases g b o e with y | y
    · exact I.gr b o y
    · exact .inr (Same.free I.h0 y)
  · cases z : Hk' x with
    | none => rfl
    | some u =>
      obtain ⟨o, ho⟩ := I.live x m
      rcases g x u z with y | y
      · rw [(I.fr x m).1] at y; cases y
      · rw [ho] at y; cases y
theorem GI.push (I : GI K w H0 Hs p q H Hk kvs ks acc) {i : Nat} {t : Tri} {g : G3} {us : List V} {v : V} {d : D} (z : Dz K Hk v d) (e1 : ks[i]? = some t) (e2 : acc[i]? = some g) (e3 : H t.2.2 = some (.lst us)) : GI K w H0 Hs p q (upd H t.2.2 (.lst (us ++ [v]))) Hk kvs ks (acc.set i (g.1, g.2.1, g.2.2 ++ [d])) := by
  have mt : t.2.2 ∈ ownT ks := List.mem_flatMap.mpr ⟨t, List.mem_of_getElem? e1, List.mem_cons_of_mem _ List.mem_cons_self⟩
  have n1 : p ≠ t.2.2 := fun e => (List.nodup_cons.mp I.nd).1 (e ▸ List.mem_cons_of_mem _ mt)
  have n2 : q ≠ t.2.2 := fun e => (List.nodup_cons.mp (List.nodup_cons.mp I.nd).2).1 (e ▸ mt)
  have f := I.fr _ (List.mem_cons_of_mem _ (List.mem_cons_of_mem _ mt))
  exact ⟨I.sk, same_upd I.kh f.1, same_upd I.h0 f.2, I.gr, by rw [upd_ne n1]; exact I.hp, by rw [upd_ne n2]; exact I.hq, I.nd, I.fr, I.go.push z (List.nodup_cons.mp (List.nodup_cons.mp I.nd).2).2 e1 e2 e3, I.ky, dk_set I.dk e2⟩
end
end ZN
set_option Elab.async false
set_option linter.all false
set_option maxRecDepth 100000
set_option maxHeartbeats 4000000
namespace ZN
open PySem PySem.Spec PyProof.Rows L2 Z
abbrev rLenA (K : PySem.W.Frag) : List V → Hp → VK → Prop := fun xs H Q => ∃ x n, xs = [x] ∧ LenV K x H n ∧ Q (.int n) H
end ZN
set_option Elab.async false
set_option linter.all false
set_option maxRecDepth 100000
set_option maxHeartbeats 4000000
namespace Z
open PySem PySem.Spec PyProof.Rows L2
end Z
set_option Elab.async false
set_option linter.all false
set_option maxRecDepth 100000
set_option maxHeartbeats 4000000
namespace Z
open PySem PySem.Spec PyProof.Rows L2
/-- .. of a built-in with one argument and one keyword, a plain answer -/
def CallSK (K : PySem.W.Frag) (r : List V → List V → Hp → VK → Prop) (f : List D → Option D) : Prop := ∀ (H : Hp) (v w : V) (d e z : D) (Q : VK), Dz K H v d → Dz K H w e → f [d, e] = some z → z.scal = true → Q z.v H → r [v] [w] H Q
theorem ze_callSK {X : Cx} {x : Str} {p pos kpos : Pos} {id : String} {kn : Option Str} {ks : List Str} {a e : Expr} {ma mb : ZM} {r : List V → List V → Hp → VK → Prop} {f : List D → Option D} (hc : CallRK X (.builtin id) ks r) (hf : CallSK X.K r f) (hg : Gl X x) (hm : X.mg x = none) (hv : bootBuiltins x = some (.builtin id)) (ha : ZE X a ma) (hb : ZE X e mb)
    (hn : x ≠ "__name__" := by decide) (hdb : (x == ("__debug__" : Str)) = false := by decide) (he0 : starEach [a] X.env = (false, eval a X.env) :: starEach [] X.env := by rfl)
    (he : backTo pos (starEach [a] X.env) = (false, eval a X.env) :: backTo pos (starEach [] X.env) := by rfl) (hpl : (backTo pos (starEach [a] X.env)).any (·.1) = false := by rfl)
    (hall : (backToKw pos (keywordEach [⟨kn, e, kpos⟩] X.env)).all (·.1.isSome) = true := by rfl) (hnone : (backToKw pos (keywordEach [⟨kn, e, kpos⟩] X.env)).any (·.1.isNone) = false := by rfl) (hks : (backToKw pos (keywordEach [⟨kn, e, kpos⟩] X.env)).filterMap (·.1) = ks := by rfl) :
    ZE X (.Call (.Name x p) [a] [⟨kn, e, kpos⟩] pos) (zCallS f (zCons ma (zCons mb zNil))) := by
  refine PE.of (pe_callBK hc hg hm hv (pa_cons ha pa_nil he0) (pk_cons hb pk_nil) hn hdb he hpl hall hnone hks) fun σ H Q ⟨C, Hs, A, g, r, g', hK, hn, ok, e, q⟩ => ?_
  simp only [zCallS, zCons, zNil] at e
  simp only [Option.bind_eq_bind, Option.bind_eq_some_iff] at e
  obtain ⟨⟨rs, g3⟩, ⟨⟨r1, g1⟩, h1, ⟨rs2, g2⟩, ⟨⟨r2, g2'⟩, h2, ⟨rs3, g4⟩, h3, h4⟩, h5⟩, ds, h6, z, h7, h8⟩ := e
  cases h3
  cases h4
  cases h5
  split at h8
  · rename_i hs
    cases h8
    refine tZ2 hK hn ok h1 h2 fun Hs2 A2 v1 v2 H2 s p ok2 w1 w2 => ?_
    have x := rdAll_ok ok2 (show RelRs C.K Hs2 A2 [v1, v2] [r1, r2] from ⟨w1, w2, trivial⟩) h6
    rw [hK] at x
    cases x with
    | cons x1 xs =>
      cases xs with
      | cons x2 xs =>
        cases xs
        exact hf H2 v1 v2 _ _ z Q x1 x2 h7 hs (q Hs2 A2 z.v H2 s p ok2 (D.vz hs))
  · cases h8
def minDL : List D → Option D
  | [.lst l, d] => match intsD l with
    | some [] => some d
    | some (n :: r) => some (.int (minI (n :: r)))
    | none => none
  | _ => none
def maxDL : List D → Option D
  | [.lst l, d] => match intsD l with
    | some [] => some d
    | some (n :: r) => some (.int (maxI (n :: r)))
    | none => none
  | _ => none
def rMinDf (K : PySem.W.Frag) : List V → List V → Hp → VK → Prop := fun xs zs H Q => ∃ (a : Addr) (ns : List Int) (d : V), xs = [.ref a] ∧ zs = [d] ∧ SqL K H a (ns.map V.int) ∧ (ns = [] → Q d H) ∧ ∀ n r, ns = n :: r → Q (.int (minI (n :: r))) H
def rMaxDf (K : PySem.W.Frag) : List V → List V → Hp → VK → Prop := fun xs zs H Q => ∃ (a : Addr) (ns : List Int) (d : V), xs = [.ref a] ∧ zs = [d] ∧ SqL K H a (ns.map V.int) ∧ (ns = [] → Q d H) ∧ ∀ n r, ns = n :: r → Q (.int (maxI (n :: r))) H
theorem minOf_I : ∀ (r : List Int) (n : Int), PySem.W.minOf n r = minI (n :: r) := by
  have step : ∀ (r : List Int) (n : Int), PySem.W.minOf n r ∈ n :: r ∧ ∀ y ∈ n :: r, PySem.W.minOf n r ≤ y := by
    intro r
    induction r with
    | nil => exact fun n => ⟨List.mem_singleton.mpr rfl, fun y m => by rw [List.mem_singleton.mp m]; exact Int.le_refl _⟩
    | cons a r ih =>
      intro n
      have e : PySem.W.minOf n (a :: r) = PySem.W.minOf (if a < n then a else n) r := by
        show List.foldl _ (if PySem.W.DatumOrd.lt a n = true then a else n) r = _
        have : (PySem.W.DatumOrd.lt a n = true) ↔ a < n := by
          show (decide (a < n) = true) ↔ _
          exact decide_eq_true_iff
        by_cases h : a < n
        · rw [if_pos (this.mpr h), if_pos h]; rfl
        · rw [if_neg (fun z => h (this.mp z)), if_neg h]; rfl
      rw [e]
      obtain ⟨h1, h2⟩ := ih (if a < n then a else n)
      have h3 := h2 _ List.mem_cons_self
      refine ⟨?_, fun y m => ?_⟩
      · rcases List.mem_cons.mp h1 with z | z
        · rw [z]; split
          · exact List.mem_cons_of_mem _ List.mem_cons_self
          · exact List.mem_cons_self
        · exact List.mem_cons_of_mem _ (List.mem_cons_of_mem _ z)
      · rcases List.mem_cons.mp m with rfl | m
        · revert h3; split <;> omega
        · rcases List.mem_cons.mp m with rfl | m
          · revert h3; split <;> omega
          · exact h2 y (List.mem_cons_of_mem _ m)
  intro r n
  obtain ⟨a1, a2⟩ := step r n
  obtain ⟨b1, b2⟩ := minI_spec (ns := n :: r) (by simp)
  have := a2 _ b1
  have := b2 _ a1
  omega
theorem maxOf_I : ∀ (r : List Int) (n : Int), PySem.W.maxOf n r = maxI (n :: r) := by
  have step : ∀ (r : List Int) (n : Int), PySem.W.maxOf n r ∈ n :: r ∧ ∀ y ∈ n :: r, y ≤ PySem.W.maxOf n r := by
    intro r
    induction r with
    | nil => exact fun n => ⟨List.mem_singleton.mpr rfl, fun y m => by rw [List.mem_singleton.mp m]; exact Int.le_refl _⟩
    | cons a r ih =>
      intro n
      have e : PySem.W.maxOf n (a :: r) = PySem.W.maxOf (if n < a then a else n) r := by
        show List.foldl _ (if PySem.W.DatumOrd.lt n a = true then a else n) r = _
        have : (PySem.W.DatumOrd.lt n a = true) ↔ n < a := by
          show (decide (n < a) = true) ↔ _
          exact decide_eq_true_iff
        by_cases h : n < a
        · rw [if_pos (this.mpr h), if_pos h]; rfl
        · rw [if_neg (fun z => h (this.mp z)), if_neg h]; rfl
      rw [e]
      obtain ⟨h1, h2⟩ := ih (if n < a then a else n)
      have h3 := h2 _ List.mem_cons_self
      refine ⟨?_, fun y m => ?_⟩
      · rcases List.mem_cons.mp h1 with z | z
        · rw [z]; split
          · exact List.mem_cons_of_mem _ List.mem_cons_self
          · exact List.mem_cons_self
        · exact List.mem_cons_of_mem _ (List.mem_cons_of_mem _ z)
      · rcases List.mem_cons.mp m with rfl | m
        · revert h3; split <;> omega
        · rcases List.mem_cons.mp m with rfl | m
          · revert h3; split <;> omega
          · exact h2 y (List.mem_cons_of_mem _ m)
  intro r n
  obtain ⟨a1, a2⟩ := step r n
  obtain ⟨b1, b2⟩ := maxI_spec (ns := n :: r) (by simp)
  have := a2 _ b1
  have := b2 _ a1
  omega
theorem holds_is {h : Heap} {n m : Int} {t : Tok} (H : PySem.W.Holds h (.int n t) m) : n = m := by
  obtain ⟨as, r⟩ := H
  cases r
  rfl
section
variable {X : Cx}
theorem room2 {k : Nat} {A : Around} (r : Room k A) : A.units + 1 + PySem.W.Datum.depth Int < cLine := by
  have := r.un
  show A.units + 1 + 0 < _
  omega
theorem cr_minDf (hc : X.calm = true) (hu : X.A.units + 1 + PySem.W.Datum.depth Int < cLine) : CallRK X (.builtin "min") [Str.ofString "default"] (rMinDf X.K) := by
  intro pins s σ H xs zs us ws Q I r rz h
  obtain ⟨a, ns, d, rfl, rfl, hs, q0, q1⟩ := h
  obtain ⟨its, rv, hl, _⟩ := I.list hs
  rw [Vals.ref1 r]
  obtain ⟨w1, rfl, e1⟩ := vals1 rz
  have hi := rv.ints
  refine PySem.W.min_list_datum_default (α := Int) (I.ok.hd hc) hl.isList (show PySem.W.HoldAll s.heap its.toArray.toList ns from PySem.W.HoldAll.of_ints hi) hu (fun e h' tk k => ⟨d, H, I.kept k, e1, q0 e⟩) fun y ys i v h' tk e hv hh k => ?_
  subst e
  obtain ⟨w, ew, rw'⟩ := rv.get (i := i) (x := .int ((y :: ys)[i]?.getD 0)) (by
    have hb : i < its.length := by simpa using (Array.getElem?_eq_some_iff.mp hv).1
    have hl2 := rv.length
    rw [List.length_map] at hl2
    rw [List.getElem?_map, List.getElem?_eq_getElem (by omega)]
    rfl)
  have : v = w := by
    have : its.toArray[i]? = some w := by simpa using ew
    rw [hv] at this
    exact Option.some.inj this
  subst this
  obtain ⟨t, rfl⟩ := rw'
  have := holds_is hh
  rw [minOf_I] at this
  exact ⟨.int _, H, I.kept k, ⟨t, rfl⟩, by rw [this]; exact q1 y ys rfl⟩
theorem cr_maxDf (hc : X.calm = true) (hu : X.A.units + 1 + PySem.W.Datum.depth Int < cLine) : CallRK X (.builtin "max") [Str.ofString "default"] (rMaxDf X.K) := by
  intro pins s σ H xs zs us ws Q I r rz h
  obtain ⟨a, ns, d, rfl, rfl, hs, q0, q1⟩ := h
  obtain ⟨its, rv, hl, _⟩ := I.list hs
  rw [Vals.ref1 r]
  obtain ⟨w1, rfl, e1⟩ := vals1 rz
  have hi := rv.ints
  refine PySem.W.max_list_datum_default (α := Int) (I.ok.hd hc) hl.isList (show PySem.W.HoldAll s.heap its.toArray.toList ns from PySem.W.HoldAll.of_ints hi) hu (fun e h' tk k => ⟨d, H, I.kept k, e1, q0 e⟩) fun y ys i v h' tk e hv hh k => ?_
  subst e
  obtain ⟨w, ew, rw'⟩ := rv.get (i := i) (x := .int ((y :: ys)[i]?.getD 0)) (by
    have hb : i < its.length := by simpa using (Array.getElem?_eq_some_iff.mp hv).1
    have hl2 := rv.length
    rw [List.length_map] at hl2
    rw [List.getElem?_map, List.getElem?_eq_getElem (by omega)]
    rfl)
  have : v = w := by
    have : its.toArray[i]? = some w := by simpa using ew
    rw [hv] at this
    exact Option.some.inj this
  subst this
  obtain ⟨t, rfl⟩ := rw'
  have := holds_is hh
  rw [maxOf_I] at this
  exact ⟨.int _, H, I.kept k, ⟨t, rfl⟩, by rw [this]; exact q1 y ys rfl⟩
end
theorem dz_v {K : PySem.W.Frag} {H : Hp} {v : V} {d : D} (h : Dz K H v d) (s : d.scal = true) : v = d.v := h.v s
theorem s_minDL {K : PySem.W.Frag} : CallSK K (rMinDf K) minDL := by
  intro H v w d e z Q hv hw h hsc q
  unfold minDL at h
  split at h
  · rename_i l y heq
    cases heq
    split at h
    · rename_i hn
      cases h
      cases hv with
      | lst hs ha =>
        rw [ints_map hn] at ha
        have ev := dzA_ints' ha
        subst ev
        refine ⟨_, [], w, rfl, rfl, hs, fun _ => ?_, fun n r e => by cases e⟩
        have ew := dz_v hw hsc
        subst ew
        exact q
    · rename_i n r hn
      cases h
      cases hv with
      | lst hs ha =>
        rw [ints_map hn] at ha
        have ev := dzA_ints' ha
        subst ev
        exact ⟨_, n :: r, w, rfl, rfl, hs, (fun e => by cases e), fun n' r' e => by cases e; exact q⟩
    · cases h
  · cases h
theorem s_maxDL {K : PySem.W.Frag} : CallSK K (rMaxDf K) maxDL := by
  intro H v w d e z Q hv hw h hsc q
  unfold maxDL at h
  split at h
  · rename_i l y heq
    cases heq
    split at h
    · rename_i hn
      cases h
      cases hv with
      | lst hs ha =>
        rw [ints_map hn] at ha
        have ev := dzA_ints' ha
        subst ev
        refine ⟨_, [], w, rfl, rfl, hs, fun _ => ?_, fun n r e => by cases e⟩
        have ew := dz_v hw hsc
        subst ew
        exact q
    · rename_i n r hn
      cases h
      cases hv with
      | lst hs ha =>
        rw [ints_map hn] at ha
        have ev := dzA_ints' ha
        subst ev
        exact ⟨_, n :: r, w, rfl, rfl, hs, (fun e => by cases e), fun n' r' e => by cases e; exact q⟩
    · cases h
  · cases h
end Z
set_option Elab.async false
set_option linter.all false
set_option maxRecDepth 100000
set_option maxHeartbeats 4000000
namespace Z
open PySem PySem.Spec PyProof.Rows L2
def lcL2 (tg : TD) (mi1 : MI) (tg1 : TD) (el : ZM) (vs vs1 : List Nat) (t : Nat) : List D → G → Option G
  | [], g => if freeAll g vs = true then some g else none
  | x :: xs, g => if freeAll g vs = true then do
      let g1 ← tg x (wipeG g vs)
      let (L1, lk, g2) ← mi1 g1
      if lk = none ∧ g2.length = t + 1 then do
          let g3 ← lcL tg1 zYes el vs1 t L1 g2
          lcL2 tg mi1 tg1 el vs vs1 t xs ((wipeG g3 vs1).take (t + 1))
      else none
    else none
def zLc2 (mi : MI) (tg : TD) (mi1 : MI) (tg1 : TD) (el : ZM) (vs vs1 : List Nat) : ZM := fun g => do
  let (L, lk, g1) ← mi g
  match lk with
  | none => do
    let g3 ← lcL2 tg mi1 tg1 el vs vs1 g1.length L (g1 ++ [Sl.own (.lst []) false false])
    some (.bor g1.length, wipeG g3 vs)
  | some _ => none
theorem lc2_of {tgd tgd1 : TD} {mi1 : MI} {el : ZM} {vs vs1 : List Nat} {C : Ct} {Hs1 : Hp} {A1 : List Addr} {g1 g3 : G} {σ : L2.St} {H1 : Hp} {L : List D} {J : It} {K : PySem.W.Frag} {n t : Nat} {D0 : Addr} {Qd : Hp → Prop} (hK : C.K = K) (hn : C.n = n) (ht : C.n ≤ t)
    (ok : Ok C Hs1 A1 g1 σ H1) (hA : A1[t]? = some D0) (jw : JW K J L (Src K Hs1 none)) (e : lcL2 tgd mi1 tgd1 el vs vs1 t L g1 = some g3)
    (q : ∀ Hs A H, Same Hs1 Hs → Ok C Hs A (wipeG g3 vs) σ H → Pre A1 A → Qd H) :
    ∃ W : Nat → Nat → Hp → Prop, (∃ m, W 0 m H1) ∧ ∀ i m H, W i m H → (J.stop i H ∧ Qd H) ∨ (J.go i H ∧ ∃ Nx : Hp → Prop, (∀ H', Nx H' → ∃ m', m' < m ∧ W (i + 1) m' H') ∧ ∀ x H', J.yld i H x H' → tZGw K n vs tgd x (wipe σ vs) H' fun σ2 H2 => wipe σ2 vs = wipe σ vs ∧ tZT K n zYes σ2 H2 fun b H3 =>
      if b = true then tZI K n mi1 σ2 H3 fun J1 H4 => ∃ W1 : Nat → Nat → Hp → Prop, (∃ m, W1 0 m H4) ∧ ∀ j k H, W1 j k H →
        (J1.stop j H ∧ Nx H) ∨ (J1.go j H ∧ ∃ Nx1 : Hp → Prop, (∀ H', Nx1 H' → ∃ k', k' < k ∧ W1 (j + 1) k' H') ∧ ∀ x H', J1.yld j H x H' → tZGw K n vs1 tgd1 x (wipe σ2 vs1) H' fun σ3 H5 => wipe σ3 vs1 = wipe σ2 vs1 ∧ tZT K n zYes σ3 H5 fun b H6 =>
          if b = true then tZ K n el σ3 H6 fun y H7 => ∃ acc, H7 D0 = some (.lst acc) ∧ acc.length < sizeLine ∧ Nx1 (upd H7 D0 (.lst (acc ++ [y]))) else Nx1 H6)
      else Nx H3) := by
  have src : ∀ {Hs A g σ H}, Same Hs1 Hs → Ok C Hs A g σ H → Src K Hs1 none Hs H := fun {Hs A g σ H} s ok => ⟨s, ok.same⟩
  have hAt := (List.getElem?_eq_some_iff.mp hA).1
  have ptk : ∀ {A : List Addr} {j : Nat} {a : Addr}, Pre A1 A → j ≤ t → A1[j]? = some a → (A.take (t + 1))[j]? = some a := fun {A j a} h hj e => by
    rw [List.getElem?_take_of_lt (by omega)]
    exact h j a e
  refine ⟨fun i m H => m = L.length - i ∧ i ≤ L.length ∧ ∃ Hs A g σ', wipe σ' vs = wipe σ vs ∧ σ'.length = σ.length ∧ Same Hs1 Hs ∧ Ok C Hs A g σ' H ∧ Pre A1 A ∧ lcL2 tgd mi1 tgd1 el vs vs1 t (L.drop i) g = some g3, ⟨L.length, by simp, Nat.zero_le _, Hs1, A1, g1, σ, rfl, rfl, Same.refl _, ok, Pre.refl _, by simpa using e⟩, ?_⟩
  rintro i m H ⟨rfl, hi, Hs, A, g, σ', hw, hlen, s, ok, hP, e⟩
  by_cases hlt : i < L.length
  · refine .inr ⟨jw.go Hs H i (src s ok) hlt, ?_⟩
    rw [List.drop_eq_getElem_cons hlt] at e
    simp only [lcL2] at e
    split at e
    · rename_i hfr
      simp only [Option.bind_eq_bind, Option.bind_eq_some_iff] at e
      obtain ⟨ga, e1, ⟨L1, lk, gb⟩, e2, e3⟩ := e
      split at e3
      · rename_i hlb
        obtain ⟨rfl, hlb⟩ := hlb
        simp only [Option.bind_eq_some_iff] at e3
        obtain ⟨gc, e4, e5⟩ := e3
        have okw : Ok C Hs A (wipeG g vs) (wipe σ vs) H := ok.puts hfr (by rw [wipe_length, hlen]) (fun i hi => by rw [← hw]; exact wipe_out hi)
        refine ⟨fun H' => ∃ Hs' A' g' σ2, wipe σ2 vs = wipe σ vs ∧ σ2.length = σ.length ∧ Same Hs1 Hs' ∧ Ok C Hs' A' g' σ2 H' ∧ Pre A1 A' ∧ lcL2 tgd mi1 tgd1 el vs vs1 t (L.drop (i + 1)) g' = some g3, fun H' ⟨Hs', A', g', σ2, w1, w2, w3, w4, w5, w6⟩ => ⟨L.length - (i + 1), by omega, rfl, hlt, Hs', A', g', σ2, w1, w2, w3, w4, w5, w6⟩, fun x H' y => ?_⟩
        obtain ⟨d, Hs', hd, s', ok', dz⟩ := jw.yld C Hs A _ _ H i x H' hK okw (src s ok) hlt y
        rw [List.getElem?_eq_getElem hlt] at hd
        cases hd
        refine ⟨C, Hs', A, _, _, ga, hK, hn, ok', dz, e1, fun σ2 hw2 ok2 => ?_⟩
        have hw3 : wipe σ2 vs = wipe σ vs := by
          rw [hw2]
          refine List.ext_getElem? fun j => ?_
          rw [wipe_get, wipe_get, wipe_length]
          by_cases hj : j ∈ vs ∧ j < σ.length
          · simp only [if_pos hj]
          · simp only [if_neg hj]
        have hl2 : σ2.length = σ.length := by have := ok2.ln; have := ok.ln; omega
        refine ⟨hw3, C, Hs', A, ga, true, ga, hK, hn, ok2, rfl, fun Hs3 A3 H3 s3 p3 ok3 => ?_⟩
        show if true = true then _ else _
        rw [if_pos rfl]
        have hlb : gb.length = t + 1 := hlb
        refine ⟨C, Hs3, A3, ga, L1, none, gb, hK, hn, ok3, e2, fun Hs4 A4 H4 J1 lk1 s4 p4 ok4 hl1 jw1 => ?_⟩
        cases lk1 with
        | some _ => exact hl1.elim
        | none =>
          refine lc_of hK hn ht ok4 (p4 _ _ (p3 _ _ (hP _ _ hA))) (by rw [ok4.la]; exact hlb) jw1 (fun _ _ z => by cases z) e4 fun Hs5 A5 H5 s5 ok5 p5 => ?_
          refine ⟨Hs5, A5.take (t + 1), _, σ2, hw3, hl2, (((s.trans s').trans s3).trans s4).trans s5, ok5.cutM (by omega), fun j a hj => ?_, e5⟩
          have hjl := (List.getElem?_eq_some_iff.mp hj).1
          have h4 := p4 _ _ (p3 _ _ (hP _ _ hj))
          have hj4 := (List.getElem?_eq_some_iff.mp h4).1
          rw [ok4.la, hlb] at hj4
          rw [List.getElem?_take_of_lt hj4]
          exact p5 _ _ h4
      · cases e3
    · cases e
  · have ei : i = L.length := by omega
    subst ei
    rw [List.drop_length] at e
    simp only [lcL2] at e
    split at e
    · rename_i hfr
      cases e
      refine .inl ⟨jw.stop Hs H _ (src s ok) (Nat.le_refl _), q Hs A H s (ok.puts hfr hlen.symm fun i hi => ?_) hP⟩
      have h1 := wipe_out (σ := σ') hi
      have h2 := wipe_out (σ := σ) hi
      rw [← h1, hw, h2]
    · cases e
section
variable {X : Cx} {pos : Pos}
theorem zlc2_of {mi mi1 : MI} {tgd tgd1 : TD} {el : ZM} {vs vs1 : List Nat} {σ : L2.St} {H : Hp} {Q : VK} (h : tZ X.K X.N.length (zLc2 mi tgd mi1 tgd1 el vs vs1) σ H Q) :
    tLc2 (tZI X.K X.N.length mi) (tZGw X.K X.N.length vs tgd) (tZT X.K X.N.length zYes) (tZI X.K X.N.length mi1) (tZGw X.K X.N.length vs1 tgd1) (tZT X.K X.N.length zYes) (tZ X.K X.N.length el) vs vs1 σ H Q := by
  obtain ⟨C, Hs, A, g, r, g', hK, hn, ok, e, q⟩ := h
  unfold zLc2 at e
  simp only [Option.bind_eq_bind, Option.bind_eq_some_iff] at e
  obtain ⟨⟨L, lk, g1⟩, h1, e⟩ := e
  refine ⟨C, Hs, A, g, L, lk, g1, hK, hn, ok, h1, fun Hs1 A1 H1 J lk' s1 PRE ok1 hl jw D0 hD => ?_⟩
  have ok2 := ok1.tmp (a := D0) (o := .lst []) (c := .lst []) hD (show DzA C.K Hs1 [] [] from .nil)
  have hA2 : (A1 ++ [D0])[g1.length]? = some D0 := by rw [← ok1.la]; simp
  cases lk with
  | none =>
    cases lk' with
    | some _ => exact hl.elim
    | none =>
      simp only [Option.bind_eq_some_iff] at e
      obtain ⟨g3, e1, e2⟩ := e
      cases e2
      exact lc2_of hK hn ok1.lg ok2 hA2 jw e1 fun Hs2 A2 H2 s2 ok3 pre => q Hs2 A2 (.ref D0) H2 (s1.trans s2) (fun j a h => pre j a (Pre.app _ _ j a (PRE j a h))) ok3 ⟨D0, pre _ _ hA2, rfl⟩
  | some j => cases e
theorem ze_lc2 {elt tg iter tg1 iter1 : Expr} {scope : Scope} {own : List (Str × Nat)} {vs1 : List Nat} {mi mi1 : MI} {g g1 : TD} {el : ZM} (hc : X.calm = true) (hN : X.N.Nodup) (hi : ZI X tg iter mi) (ok : BlkOk X.N X.env.scope scope own) (hv : ∀ i ∈ vs1, i ∈ own.map (·.2))
    (hg : ∀ (s : Shared) (H : Hp) (C : Addr) (cl : List (Str × Addr)) (fp : List Addr), ZGw (X.blk s H scope (compEnvC scope cl C X.env) fp) (own.map (·.2)) tg g)
    (hi1 : ∀ (s : Shared) (H : Hp) (C : Addr) (cl : List (Str × Addr)) (fp : List Addr), ZI (X.blk s H scope (compEnvC scope cl C X.env) fp) tg1 iter1 mi1)
    (hg1 : ∀ (s : Shared) (H : Hp) (C : Addr) (cl : List (Str × Addr)) (fp : List Addr), ZGw (X.blk s H scope (compEnvC scope cl C X.env) fp) vs1 tg1 g1)
    (he : ∀ (s : Shared) (H : Hp) (C : Addr) (cl : List (Str × Addr)) (fp : List Addr), ZE (X.blk s H scope (compEnvC scope cl C X.env) fp) elt el) (hs : ∀ x, foldedSetIterable iter X.env x = pure x := by intro _; rfl) (hs1 : ∀ env x, foldedSetIterable iter1 env x = pure x := by intro _ _; rfl) :
    ZE X (.ListComp elt [⟨tg, iter, [], 0⟩, ⟨tg1, iter1, [], 0⟩] scope pos) (zLc2 mi g mi1 g1 el (own.map (·.2)) vs1) :=
  PE.of (pe_lc2 (tt := tZT X.K X.N.length zYes) (tt1 := tZT X.K X.N.length zYes) hc hN hi ok hv hg (fun _ _ _ _ _ => zts_nil) hi1 hg1 (fun _ _ _ _ _ => zts_nil) he hs hs1) fun σ H Q h => zlc2_of h
end
/-- run: item by item -/
structure Lc2It (tg : TD) (mi1 : MI) (tg1 : TD) (el : ZM) (vs vs1 : List Nat) (t : Nat) (base : G) (x : D) (ys : List D) : Prop where
  run : ∀ acc : List D, acc.length + ys.length ≤ sizeLine → ∃ (h h' : G) (L1 : List D) (g3 : G), h.length = t ∧ h'.length = t ∧ tg x (base ++ [.own (.lst acc) false false]) = some (h ++ [.own (.lst acc) false false]) ∧ mi1 (h ++ [.own (.lst acc) false false]) = some (L1, none, h ++ [.own (.lst acc) false false]) ∧
    lcL tg1 zYes el vs1 t L1 (h ++ [.own (.lst acc) false false]) = some g3 ∧ wipeG g3 vs1 = h' ++ [.own (.lst (acc ++ ys)) false false] ∧ freeAll (h' ++ [.own (.lst (acc ++ ys)) false false]) vs = true ∧ wipeG (h' ++ [.own (.lst (acc ++ ys)) false false]) vs = base ++ [.own (.lst (acc ++ ys)) false false]
theorem lcL2_run {tg : TD} {mi1 : MI} {tg1 : TD} {el : ZM} {vs vs1 : List Nat} {t : Nat} {base : G} {f : D → List D} : ∀ {L : List D} (acc : List D) (h : G), h.length = t → freeAll (h ++ [.own (.lst acc) false false]) vs = true → wipeG (h ++ [.own (.lst acc) false false]) vs = base ++ [.own (.lst acc) false false] →
    acc.length + (L.flatMap f).length ≤ sizeLine → (∀ x ∈ L, Lc2It tg mi1 tg1 el vs vs1 t base x (f x)) → ∃ g3, lcL2 tg mi1 tg1 el vs vs1 t L (h ++ [.own (.lst acc) false false]) = some g3 ∧ wipeG g3 vs = base ++ [.own (.lst (acc ++ L.flatMap f)) false false]
  | [], acc, h, _, hf, hw, _, _ => ⟨_, if_pos hf, by rw [hw]; simp⟩
  | x :: L, acc, h, hl, hf, hw, hz, hx => by
    rw [List.flatMap_cons, List.length_append] at hz
    obtain ⟨h1, h', L1, g3, l1, l2, e1, e2, e3, e4, e5, e6⟩ := (hx x List.mem_cons_self).run acc (by omega)
    obtain ⟨g4, r1, r2⟩ := lcL2_run (L := L) (f := f) (acc ++ f x) h' l2 e5 e6 (by rw [List.length_append]; omega) fun y m => hx y (List.mem_cons_of_mem _ m)
    refine ⟨g4, ?_, by rw [r2, List.flatMap_cons, List.append_assoc]⟩
    simp only [lcL2, if_pos hf, hw, e1, e2, Option.bind_eq_bind, Option.bind_some]
    rw [if_pos (by simp [l1])]
    simp only [e3, Option.bind_some, e4]
    rw [List.take_of_length_le (by rw [List.length_append, l2]; exact Nat.le_refl _)]
    exact r1
theorem er_lc2 {mi : MI} {tg : TD} {mi1 : MI} {tg1 : TD} {el : ZM} {vs vs1 : List Nat} {g : G} {L : List D} {base h : G} {f : D → List D} (h1 : mi g = some (L, none, h)) (hf : freeAll (h ++ [.own (.lst []) false false]) vs = true) (hw : wipeG (h ++ [.own (.lst []) false false]) vs = base ++ [.own (.lst []) false false])
    (hz : (L.flatMap f).length ≤ sizeLine) (hx : ∀ x ∈ L, Lc2It tg mi1 tg1 el vs vs1 h.length base x (f x)) : zLc2 mi tg mi1 tg1 el vs vs1 g = some (.bor h.length, base ++ [.own (.lst (L.flatMap f)) false false]) := by
  obtain ⟨g3, x1, x2⟩ := lcL2_run (f := f) [] h rfl hf hw (by simpa using hz) hx
  rw [List.nil_append] at x2
  unfold zLc2
  simp only [h1, x1, x2, Option.bind_eq_bind, Option.bind_some]
end Z
set_option Elab.async false
set_option linter.all false
set_option maxRecDepth 100000
set_option maxHeartbeats 4000000
namespace ZN
open PySem PySem.Spec PyProof.Rows L2 Z
/-- the words with their keys, as groups without members -/
def wordF (fr : List D → Option FR) : List D → List G3 → List Int → Option (List G3 × List Int)
  | [], acc, is => some (acc, is)
  | v :: vs, acc, is => match fr [v] with
    | some (.dat (.tup t)) => match nkD (.tup t) with
      | some k => if k.depth ≤ 8 then wordF fr vs (addG acc k [v]) (is ++ [(((idx 0 (addG acc k [v]) k).getD 0 : Nat) : Int)]) else none
      | none => none
    | _ => none
def wordsD (acc : List G3) : List D := acc.map fun g => g.2.1.headD .non
def dictD (nm : List Nat) (fr fw fp : List D → Option FR) : List D → Option FR
  | [.lst vs] => if vs.length < 1000 then match wordF fr vs [] [] with
      | some (acc, is) => match fw [.int (if ((acc.length : Nat) : Int) - 1 > 0 then ((acc.length : Nat) : Int) - 1 else 0)] with
        | some (.dat (.int w)) => match fp [.lst (is.map D.int), .int w] with
          | some (.dat (.int b)) => some (.dat (.tup [.str nm, .tup (wordsD acc), .int ((vs.length : Nat) : Int), .int w, .int b]))
          | _ => none
        | _ => none
      | none => none
    else none
  | _ => none
abbrev rMx2 : List V → Hp → VK → Prop := fun xs H Q => ∃ i j, xs = [.int i, .int j] ∧ Q (.int (if j > i then j else i)) H
def tWrdA (K : PySem.W.Frag) (w : World) : TS := tSeq (sNDPut K w (tVar 2) (tVar 5) (tCB (rLenA K) (tCons (tVar 1) tNil))) (tDrop (tBM K "list" rAppend (tVar 1) (tCons (tVar 4) tNil)))
def tWrdB (K : PySem.W.Frag) (w : World) : TS := tDrop (tBM K "list" rAppend (tVar 3) (tCons (tOp (rNDIx K w) (tVar 2) (tVar 5)) tNil))
def tDict (K : PySem.W.Frag) (w : World) (nm : List Nat) (fr fw fp : List D → Option FR) : TS :=
  tSeq (tAsg (tLst tNil) (gName 1)) (tSeq (tAsg (tNDNew w) (gName 2)) (tSeq (tAsg (tLst tNil) (gName 3)) (tSeq (tFor (iList K (tVar 0)) (gName 4)
    (tSeq (tAsg (tCall (spP K fr) [] (fun _ _ _ => False) (tCons (tVar 4) tNil)) (gName 5))
    (tSeq (tIfS (tTest (tOp (rNDIn K w true) (tVar 5) (tVar 2))) (tWrdA K w) tNext) (tWrdB K w))))
    (tSeq (tAsg (tCall (spP K fw) [] (fun _ _ _ => False) (tCons (tCB rMx2 (tCons (tC (.int 0)) (tCons (tOp (rI0 fun i j => .int (i - j)) (tCB (rLenA K) (tCons (tVar 1) tNil)) (tC (.int 1))) tNil))) tNil)) (gName 6))
    (tRet (tTup (tCons (tC (.str ⟨nm.toArray⟩)) (tCons (tThen (tVar 1) (kTup K)) (tCons (tCB (rLenA K) (tCons (tVar 0) tNil)) (tCons (tVar 6) (tCons (tCall (spP K fp) [] (fun _ _ _ => False) (tCons (tVar 3) (tCons (tVar 6) tNil))) tNil)))))))))))
structure WI (K : PySem.W.Frag) (w : World) (H0 Hs : Hp) (p q r : Addr) (H Hk : Hp) (kvs : NKV) (ws : List V) (acc : List G3) (is : List Int) : Prop where
  sk : Same Hs Hk
  kh : Same Hk H
  h0 : Same H0 H
  gr : ∀ b o, Hk b = some o → Hs b = some o ∨ H0 b = none
  hp : H p = some (NDictO w p kvs)
  hq : H q = some (.lst ws)
  hr : H r = some (.lst (is.map V.int))
  pq : p ≠ q
  pr : p ≠ r
  qr : q ≠ r
  fr : ∀ x, x = p ∨ x = q ∨ x = r → Hk x = none ∧ H0 x = none
  wd : DzA K Hk ws (wordsD acc)
  ky : ∀ r ∈ kvs, KeyH K Hk r.1 r.2.1
  dk : DK 0 kvs acc
section
variable {K : PySem.W.Frag} {w : World} {H0 Hs : Hp} {p q r : Addr} {H Hk : Hp} {kvs : NKV} {ws : List V} {acc : List G3} {is : List Int} {τ : L2.St}
theorem WI.step (I : WI K w H0 Hs p q r H Hk kvs ws acc is) {H' Hk' : Hp} (s1 : Same Hk Hk') (s2 : Same H H') (s3 : Same Hk' H') (g : ∀ b o, Hk' b = some o → Hk b = some o ∨ H b = none) : WI K w H0 Hs p q r H' Hk' kvs ws acc is := by
  have live : ∀ x, x = p ∨ x = q ∨ x = r → ∃ o, H x = some o := fun x m => by
    rcases m with rfl | rfl | rfl
    · exact ⟨_, I.hp⟩
    · exact ⟨_, I.hq⟩
    · exact ⟨_, I.hr⟩
  refine ⟨I.sk.trans s1, s3, I.h0.trans s2, fun b o e => ?_, s2 _ _ I.hp, s2 _ _ I.hq, s2 _ _ I.hr, I.pq, I.pr, I.qr, fun x m => ⟨?_, (I.fr x m).2⟩, I.wd.mono s1, fun r m => (I.ky r m).mono s1, I.dk⟩
  · rcases g b o e with y | y
    · exact I.gr b o y
    · exact .inr (Same.free I.h0 y)
  · cases z : Hk' x with
    | none => rfl
    | some u =>
      obtain ⟨o, ho⟩ := live x m
      rcases g x u z with y | y
      · rw [(I.fr x m).1] at y; cases y
      · rw [ho] at y; cases y
theorem WI.wl (I : WI K w H0 Hs p q r H Hk kvs ws acc is) : ws.length = acc.length := by
  rw [I.wd.length]
  exact List.length_map _
theorem wrdA {k : NestedKey} {b : Addr} {x : V} {d : D} (t1 : τ[1]? = some (some (.ref q))) (t2 : τ[2]? = some (some (.ref p))) (t4 : τ[4]? = some (some x)) (t5 : τ[5]? = some (some (.ref b))) (I : WI K w H0 Hs p q r H Hk kvs ws acc is) (key : KeyH K Hk k b) (hx : Dz K Hk x d)
    (hi : idx 0 acc k = none) (few : acc.length < sizeLine) {D : Ends} (nx : ∀ H' kvs' ws', WI K w H0 Hs p q r H' Hk kvs' ws' (acc ++ [(k, [d], [])]) is → D.nx τ H') : tWrdA K w D τ H := by
  have hv := dk_val k I.dk
  rw [hi] at hv
  have hv : valN kvs k = none := hv
  have lv := dk_len I.dk
  have lw := I.wl
  have ep : putN kvs k b (.int ((acc.length : Nat) : Int)) = kvs ++ [(k, b, .int ((acc.length : Nat) : Int))] := by
    unfold putN
    rw [hv]
    rfl
  refine ⟨_, t1, _, acc.length, rfl, .inl ⟨_, SqL.of I.hq, lw.symm⟩, _, t2, _, t5, k, b, p, kvs, rfl, rfl, I.hp, fun r m => (I.ky r m).mono I.kh, key.mono I.kh, by omega, ?_⟩
  rw [ep]
  have hq1 : (upd H p (NDictO w p (kvs ++ [(k, b, V.int ((acc.length : Nat) : Int))]))) q = some (.lst ws) := by rw [upd_ne (Ne.symm I.pq)]; exact I.hq
  refine ⟨_, t1, .inl ⟨rfl, _, SqL.of hq1⟩, _, t4, q, ws, x, rfl, rfl, hq1, by omega, ?_⟩
  have fp := I.fr p (.inl rfl)
  have fq := I.fr q (.inr (.inl rfl))
  refine nx _ (kvs ++ [(k, b, .int ((acc.length : Nat) : Int))]) (ws ++ [x]) ⟨I.sk, same_upd (same_upd I.kh fp.1) fq.1, same_upd (same_upd I.h0 fp.2) fq.2, I.gr, ?_, upd_same, ?_, I.pq, I.pr, I.qr, I.fr, ?_, ?_, ?_⟩
  · rw [upd_ne I.pq, upd_same]
  · rw [upd_ne (Ne.symm I.qr), upd_ne (Ne.symm I.pr)]; exact I.hr
  · unfold wordsD
    rw [List.map_append]
    exact I.wd.append (.cons hx .nil)
  · intro r hr
    rcases List.mem_append.mp hr with hr | hr
    · exact I.ky r hr
    · rw [List.mem_singleton.mp hr]; exact key
  · have z := dk_snoc (k := k) (b := b) (l := [d]) (m := []) I.dk
    rw [Nat.zero_add] at z
    exact z
theorem wrdB {k : NestedKey} {b : Addr} {i : Nat} (t2 : τ[2]? = some (some (.ref p))) (t3 : τ[3]? = some (some (.ref r))) (t5 : τ[5]? = some (some (.ref b))) (I : WI K w H0 Hs p q r H Hk kvs ws acc is) (key : KeyH K Hk k b)
    (hi : idx 0 acc k = some i) (few : is.length < sizeLine) {D : Ends} (nx : ∀ H', WI K w H0 Hs p q r H' Hk kvs ws acc (is ++ [((i : Nat) : Int)]) → D.nx τ H') : tWrdB K w D τ H := by
  have hv := dk_val k I.dk
  rw [hi] at hv
  refine ⟨_, t3, .inl ⟨rfl, _, SqL.of I.hr⟩, _, t2, _, t5, k, b, p, kvs, .int ((i : Nat) : Int), rfl, rfl, I.hp, fun r m => (I.ky r m).mono I.kh, key.mono I.kh, hv, r, is.map V.int, _, rfl, rfl, I.hr, by rw [List.length_map]; exact few, ?_⟩
  have fr := I.fr r (.inr (.inr rfl))
  refine nx _ ⟨I.sk, same_upd I.kh fr.1, same_upd I.h0 fr.2, I.gr, ?_, ?_, ?_, I.pq, I.pr, I.qr, I.fr, I.wd, I.ky, I.dk⟩
  · rw [upd_ne I.pr]; exact I.hp
  · rw [upd_ne I.qr]; exact I.hq
  · rw [upd_same, List.map_append]; rfl
end
theorem dict_sem {K : PySem.W.Frag} {w : World} {nm : List Nat} {fr fw fp : List D → Option FR} {v0 : V} {σ : L2.St} {H : Hp} {Q : VK} {E : XK} (hl : σ.length = 7) (h0 : σ[0]? = some (some v0)) (h : spP K (dictD nm fr fw fp) [v0] H Q E) (W : Ends) (hr : W.rt = Q) : tDict K w nm fr fw fp W σ H := by
  obtain ⟨Hs, ds, fo, sm, hz, e, q0⟩ := h
  cases hz with
  | @cons _ _ d ds2 z zs =>
  cases zs
  cases z with
  | @lst a us vals sq zr =>
    simp only [dictD] at e
    split at e
    · rename_i h63
      split at e
      · rename_i res ris hres
        split at e
        · rename_i x1 wv hfw
          split at e
          · rename_i x2 bv hfp
            cases e
            have big : (1000 : Nat) < sizeLine := by decide
            have sn : ∀ {x}, H x = none → Hs x = none := fun {x} hx => Same.free sm hx
            refine ⟨Nat.zero_le _, fun q hq p hp' => ⟨Nat.zero_le _, fun r hr' => ?_⟩⟩
            have qp : q ≠ p := fun z => by rw [← z, upd_same] at hp'; cases hp'
            have hp0 : H p = none := by rw [upd_ne (Ne.symm qp)] at hp'; exact hp'
            have pr : p ≠ r := fun z => by rw [← z, upd_same] at hr'; cases hr'
            rw [upd_ne (Ne.symm pr)] at hr'
            have qr : q ≠ r := fun z => by rw [← z, upd_same] at hr'; cases hr'
            have hr0 : H r = none := by rw [upd_ne (Ne.symm qr)] at hr'; exact hr'
            have l1 : 1 < σ.length := by omega
            have l2 : 2 < (σ.set 1 (some (V.ref q))).length := by rw [List.length_set]; omega
            have l3 : 3 < ((σ.set 1 (some (V.ref q))).set 2 (some (V.ref p))).length := by rw [List.length_set, List.length_set]; omega
            have s00 : (((σ.set 1 (some (V.ref q))).set 2 (some (V.ref p))).set 3 (some (V.ref r)))[0]? = some (some (.ref a)) := by rw [set3 (by decide), set3 (by decide), set3 (by decide)]; exact h0
            refine ⟨.ref a, s00, a, rfl, ⟨us, (same_upd (same_upd (same_upd sm (sn hq)) (sn hp0)) (sn hr0)).seq sq⟩, ?_⟩
            refine for_list (xs := us) (fun i σ' H' => ∃ Hk p q r kvs ws acc is, σ'.length = 7 ∧ σ'[0]? = some (some (.ref a)) ∧ σ'[1]? = some (some (.ref q)) ∧ σ'[2]? = some (some (.ref p)) ∧ σ'[3]? = some (some (.ref r)) ∧ WI K w H Hs p q r H' Hk kvs ws acc is ∧ acc.length ≤ i ∧ is.length ≤ i ∧ wordF fr (vals.drop i) acc is = some (res, ris)) ⟨Hs, p, q, r, [], [], [], [], ?_⟩ ?_ ?_ ?_
            · refine ⟨by rw [List.length_set, List.length_set, List.length_set]; exact hl, s00, by rw [set3 (by decide), set3 (by decide)]; exact List.getElem?_set_self l1, by rw [set3 (by decide)]; exact List.getElem?_set_self l2, List.getElem?_set_self l3, ?_, Nat.zero_le _, Nat.zero_le _, hres⟩
              refine ⟨Same.refl _, same_upd (same_upd (same_upd sm (sn hq)) (sn hp0)) (sn hr0), same_upd (same_upd (same_upd (Same.refl H) hq) hp0) hr0, fun b o e => .inl e, ?_, ?_, upd_same, Ne.symm qp, pr, qr, ?_, .nil, (fun r m => nomatch m), trivial⟩
              · rw [upd_ne pr, upd_same]
              · rw [upd_ne qr, upd_ne qp, upd_same]
              · intro x m
                rcases m with rfl | rfl | rfl
                · exact ⟨sn hp0, hp0⟩
                · exact ⟨sn hq, hq⟩
                · exact ⟨sn hr0, hr0⟩
            · rintro i σ' H' _ ⟨Hk, p, q, r, kvs, ws, acc, is, _, _, _, _, _, I, _⟩
              exact (I.sk.trans I.kh).seq sq
            · rintro i x σ' H' hx ⟨Hk, p, q, r, kvs, ws, acc, is, s7, s0, s1, s2, s3, I, la, li, un⟩
              obtain ⟨d, hd, dz⟩ := zr.getV hx
              have hi : i < vals.length := (List.getElem?_eq_some_iff.mp hd).1
              have hdr : vals.drop i = d :: vals.drop (i + 1) := by rw [List.drop_eq_getElem_cons hi]; congr 1; exact Option.some.inj ((List.getElem?_eq_getElem hi).symm.trans hd)
              rw [hdr] at un
              unfold wordF at un
              split at un
              · rename_i tl hfr
                split at un
                · rename_i k hk
                  split at un
                  · rename_i hdep
                    have s4 : (σ'.set 4 (some x))[4]? = some (some x) := List.getElem?_set_self (by rw [s7]; decide)
                    refine ⟨x, s4, Hk, [d], .dat (.tup tl), I.kh, .cons (dz.mono I.sk) .nil, hfr, fun y Hk1 H1 c1 c2 c3 c4 rel => ?_⟩
                    have rel : Dz K Hk1 y (.tup tl) := rel
                    obtain ⟨b, rfl⟩ : ∃ b, y = V.ref b := by cases rel with | @tup b _ _ _ _ => exact ⟨b, rfl⟩
                    have I1 := I.step c1 c2 c3 c4
                    have key : KeyH K Hk1 k b := ⟨_, rel, hk, hdep⟩
                    have zx : Dz K Hk1 x d := dz.mono (I.sk.trans c1)
                    generalize hσ : (σ'.set 4 (some x)).set 5 (some (V.ref b)) = τ
                    have t7 : τ.length = 7 := by rw [← hσ, List.length_set, List.length_set]; exact s7
                    have t0 : τ[0]? = some (some (.ref a)) := by rw [← hσ, set3 (by decide), set3 (by decide)]; exact s0
                    have t1 : τ[1]? = some (some (.ref q)) := by rw [← hσ, set3 (by decide), set3 (by decide)]; exact s1
                    have t2 : τ[2]? = some (some (.ref p)) := by rw [← hσ, set3 (by decide), set3 (by decide)]; exact s2
                    have t3 : τ[3]? = some (some (.ref r)) := by rw [← hσ, set3 (by decide), set3 (by decide)]; exact s3
                    have t4 : τ[4]? = some (some x) := by rw [← hσ, set3 (by decide)]; exact s4
                    have t5 : τ[5]? = some (some (.ref b)) := by rw [← hσ]; exact List.getElem?_set_self (by rw [List.length_set, s7]; decide)
                    dsimp only [gName]
                    rw [hσ]
                    obtain ⟨j, g, e1, _⟩ := add_has acc k [d]
                    rw [e1] at un
                    have ll : (addG acc k [d]).length ≤ i + 1 := by
                      unfold addG
                      split
                      · omega
                      · rw [List.length_append, List.length_singleton]; omega
                    have finB : ∀ (H' : Hp) (kvs' : NKV) (ws' : List V) (D : Ends), WI K w H Hs p q r H' Hk1 kvs' ws' (addG acc k [d]) is → (∀ H'', WI K w H Hs p q r H'' Hk1 kvs' ws' (addG acc k [d]) (is ++ [((j : Nat) : Int)]) → D.nx τ H'') → tWrdB K w D τ H' := fun H' kvs' ws' D I' nx => wrdB t2 t3 t5 I' key e1 (by omega) nx
                    refine ⟨_, t5, _, t2, k, b, p, kvs, rfl, rfl, I1.hp, fun r m => (I1.ky r m).mono I1.kh, key.mono I1.kh, _, rfl, ?_⟩
                    have hv := dk_val k I1.dk
                    rw [if_pos rfl, hv, Option.isSome_map]
                    cases hid : (idx 0 acc k).isSome with
                    | true =>
                      simp only [Bool.not_true, Bool.false_eq_true, if_false]
                      have ea : addG acc k [d] = acc := by unfold addG; rw [if_pos hid]
                      exact finB _ kvs ws _ (by rw [ea]; exact I1) fun H'' I'' => ⟨Hk1, p, q, r, kvs, ws, _, _, t7, t0, t1, t2, t3, I'', ll, by rw [List.length_append, List.length_singleton]; omega, un⟩
                    | false =>
                      simp only [Bool.not_false, if_true]
                      have ea : addG acc k [d] = acc ++ [(k, [d], [])] := by unfold addG; rw [hid]; rfl
                      have hn : idx 0 acc k = none := by cases z : idx 0 acc k with | none => rfl | some j => rw [z] at hid; cases hid
                      exact wrdA t1 t2 t4 t5 I1 key zx hn (by omega) fun H' kvs' ws' I' => finB _ kvs' ws' _ (by rw [ea]; exact I') fun H'' I'' => ⟨Hk1, p, q, r, kvs', ws', _, _, t7, t0, t1, t2, t3, I'', ll, by rw [List.length_append, List.length_singleton]; omega, un⟩
                  · cases un
                · cases un
              · cases un
            · rintro σ' H' ⟨Hk, p, q, r, kvs, ws, acc, is, s7, s0, s1, s2, s3, I, la, li, un⟩
              rw [List.drop_of_length_le (by rw [zr.length]; exact Nat.le_refl _)] at un
              have un : some (acc, is) = some (res, ris) := un
              cases un
              have lw : ws.length = res.length := I.wl
              -- width
              refine ⟨_, s1, _, res.length, rfl, .inl ⟨_, SqL.of I.hq, lw.symm⟩, _, _, rfl, rfl, 0, _, rfl, ?_⟩
              refine ⟨Hk, [.int (if ((res.length : Nat) : Int) - 1 > 0 then ((res.length : Nat) : Int) - 1 else 0)], .dat (.int wv), I.kh, .cons (.int _) .nil, hfw, fun y Hk1 H1 c1 c2 c3 c4 rel => ?_⟩
              have rel : Dz K Hk1 y (.int wv) := rel
              obtain rfl : y = V.int wv := by cases rel; rfl
              have I1 := I.step c1 c2 c3 c4
              have t6 : (σ'.set 6 (some (V.int wv)))[6]? = some (some (V.int wv)) := List.getElem?_set_self (by rw [s7]; decide)
              have t1 : (σ'.set 6 (some (V.int wv)))[1]? = some (some (.ref q)) := by rw [set3 (by decide)]; exact s1
              have t0 : (σ'.set 6 (some (V.int wv)))[0]? = some (some (.ref a)) := by rw [set3 (by decide)]; exact s0
              have t3 : (σ'.set 6 (some (V.int wv)))[3]? = some (some (.ref r)) := by rw [set3 (by decide)]; exact s3
              -- tuple(words)
              refine ⟨_, t1, .inl ⟨q, ws, rfl, SqL.of I1.hq, fun m hm => ?_⟩⟩
              have fq := I1.fr q (.inr (.inl rfl))
              have fr' := I1.fr r (.inr (.inr rfl))
              have km : Hk1 m = none := Same.free I1.kh hm
              have hm0 : H m = none := Same.free I1.h0 hm
              have rm : r ≠ m := fun z => by rw [← z, I1.hr] at hm; cases hm
              have sq2 : SqL K (upd H1 m (.tup ws)) a us := (same_upd (I1.sk.trans I1.kh) (Same.free (I1.sk) km)).seq sq
              refine ⟨_, t0, _, us.length, rfl, .inl ⟨_, sq2, rfl⟩, _, t6, _, t3, _, t6, ?_⟩
              -- pack(indexes, width)
              have hr1 : (upd H1 m (.tup ws)) r = some (.lst (ris.map V.int)) := by rw [upd_ne rm]; exact I1.hr
              have sA : Same Hk1 (upd (upd Hk1 r (.lst (ris.map V.int))) m (.tup ws)) := same_upd (same_upd (Same.refl _) fr'.1) km
              have sB : Same (upd (upd Hk1 r (.lst (ris.map V.int))) m (.tup ws)) (upd H1 m (.tup ws)) := fun b u e => by
                by_cases z : b = m
                · rw [z, upd_same] at e; rw [z, upd_same]; exact e
                · rw [upd_ne z] at e
                  rw [upd_ne z]
                  by_cases z2 : b = r
                  · rw [z2, upd_same] at e; rw [z2, I1.hr]; exact e
                  · rw [upd_ne z2] at e; exact I1.kh b u e
              have zr2 : ∀ (l : List Int) (K2 : PySem.W.Frag) (H2 : Hp), DzA K2 H2 (l.map V.int) (l.map D.int) := fun l K2 H2 => by
                induction l with
                | nil => exact .nil
                | cons n l ih => exact .cons (.int n) ih
              refine ⟨upd (upd Hk1 r (.lst (ris.map V.int))) m (.tup ws), [.lst (ris.map D.int), .int wv], .dat (.int bv), sB, .cons (.lst (SqL.of (by rw [upd_ne rm, upd_same])) (zr2 _ _ _)) (.cons (.int _) .nil), hfp, fun y2 Hk2 H2 d1 d2 d3 d4 rel2 => ?_⟩
              have rel2 : Dz K Hk2 y2 (.int bv) := rel2
              obtain rfl : y2 = V.int bv := by cases rel2; rfl
              refine ⟨show 5 ≤ sizeLine by decide, fun t ht => ?_⟩
              show W.rt (.ref t) _
              rw [hr]
              have k2t : Hk2 t = none := Same.free d3 ht
              have h0t : H t = none := Same.free (I1.h0.trans ((same_upd (Same.refl _) hm).trans d2)) ht
              have sC : Same Hs Hk2 := (I1.sk.trans sA).trans d1
              have m2 : Hk2 m = some (.tup ws) := d1 _ _ upd_same
              have wd2 : DzA K Hk2 ws (wordsD res) := I1.wd.mono (sA.trans d1)
              refine q0 _ (upd Hk2 t (.tup [.str ⟨nm.toArray⟩, .ref m, .int ((us.length : Nat) : Int), .int wv, .int bv])) _ (same_upd sC (Same.free sC k2t)) (same_upd (I1.h0.trans ((same_upd (Same.refl _) hm).trans d2)) h0t) ?_ ?_ ?_
              · intro b u e
                by_cases z : b = t
                · rw [z, upd_same] at e; rw [z, upd_same]; exact e
                · rw [upd_ne z] at e; rw [upd_ne z]; exact d3 b u e
              · intro b u e
                by_cases z : b = t
                · rw [z]; exact .inr h0t
                · rw [upd_ne z] at e
                  rcases d4 b u e with y | y
                  · by_cases z2 : b = m
                    · rw [z2]; exact .inr hm0
                    · rw [upd_ne z2] at y
                      by_cases z3 : b = r
                      · rw [z3]; exact .inr fr'.2
                      · rw [upd_ne z3] at y; exact I1.gr b u y
                  · by_cases z2 : b = m
                    · rw [z2]; exact .inr hm0
                    · rw [upd_ne z2] at y; exact .inr (Same.free I1.h0 y)
              · have tm : m ≠ t := fun z => by rw [z, k2t] at m2; cases m2
                have s2t : Same Hk2 (upd Hk2 t (.tup [.str ⟨nm.toArray⟩, .ref m, .int ((us.length : Nat) : Int), .int wv, .int bv])) := same_upd (Same.refl _) k2t
                refine .tup (.inl (.inl upd_same)) (.cons (.str nm) (.cons (.tup (.inl (.inl (by rw [upd_ne tm]; exact m2))) (wd2.mono s2t)) (.cons ?_ (.cons (.int _) (.cons (.int _) .nil)))))
                rw [zr.length]
                exact .int _
          · cases e
        · cases e
      · cases e
    · cases e
  | _ => simp [dictD] at e
theorem okDict {P : Program} {w : World} {K : PySem.W.Frag} {mg : Str → Option Value} {base : Heap} {x qual : Str} {st : Stmt} {f : Addr} {fd : FuncData} {N ps : List Str} {k : Nat} {nm : List Nat} {fr fw fp : List D → Option FR} (F : Fun K x qual st f fd) (S : FnScope N ps (defScope st)) (h5 : N.length = 7) (h1 : ps.length = 1)
    (hbody : ∀ (cdv : Value) (A : Around) (outer : List Env) (s0 : Shared) (H : Hp) (E : XK), Room k (A.deeper (envOfC qual (defScope st) s0.heap.objs.size f cdv)) →
      PSs (cxOf CX0 P w K mg base N qual (defScope st) f cdv A outer s0 H E).nox (defBody st) (tDict K w nm fr fw fp)) : FnOk P w K mg base CX0 (k + 1) f fd ps (spP K (dictD nm fr fw fp)) := by
  have arity : ∀ vs H Q E, spP K (dictD nm fr fw fp) vs H Q E → vs.length = ps.length := fun vs H Q E ⟨Hs, ds, fr, _, hz, e, _⟩ => by
    rw [hz.length, h1]
    match ds, e with
    | [_], _ => rfl
    | [], e => simp [dictD] at e
    | _ :: _ :: _, e => simp [dictD] at e
  refine F.ok S arity (fun cdv A outer s0 H vs Q E hr h => ⟨_, hbody cdv A outer s0 H E hr, ?_⟩)
  have hv : vs.length = 1 := (arity vs H Q E h).trans h1
  match vs, hv with
  | [v0], _ =>
    refine dict_sem (σ := L2.start N [v0]) (by rw [start_len (by rw [h5]; show 1 ≤ 7; decide)]; exact h5) rfl h _ rfl
end ZN
set_option Elab.async false
set_option linter.all false
set_option maxRecDepth 100000
set_option maxHeartbeats 4000000
namespace Z
open PySem PySem.Spec PyProof.Rows L2
def PropDef (K : PySem.W.Frag) (c m qual : Str) (st : Stmt) : Prop := ∃ (C p fa : Addr) (fd : FuncData), ClsAt K c C ∧ Cls K C ∧ PropOf K C m p fa ∧ Fun K m qual st fa fd
def PropK (P : Program) (w : World) (K : PySem.W.Frag) (mg : Str → Option Value) (base : Heap) (k : Nat) (c m : Str) (sp : Sp) : Prop :=
  ∃ (C p fa : Addr) (fd : FuncData) (ps : List Str), ClsAt K c C ∧ Cls K C ∧ PropOf K C m p fa ∧ Binds K fd ps [] ∧ FnOk P w K mg base CX0 k fa fd ps sp
theorem PropK.mono {P : Program} {w : World} {K : PySem.W.Frag} {mg : Str → Option Value} {base : Heap} {j k : Nat} {c m : Str} {sp : Sp} (h : PropK P w K mg base j c m sp) (hk : j ≤ k) : PropK P w K mg base k c m sp :=
  let ⟨C, p, fa, fd, ps, h1, h2, h3, h4, h5⟩ := h
  ⟨C, p, fa, fd, ps, h1, h2, h3, h4, h5.mono hk⟩
/-- o.m: by the function of the object -/
theorem ze_prop {X : Cx} {fl : List Str} {pos : Pos} {k j : Nat} {c m : Str} {o : Expr} {f : List D → Option FR} {mo : ZM} (hk : PropK X.prog X.w X.K X.mg X.base k c m (spP X.K f)) (hr : Room j X.A) (hj : k + 1 ≤ j) (hm : m ∉ fl) (ho : ZE X o mo) (hab : attributeBase o m X.env (eval o X.env) = eval o X.env := by rfl) :
    ZE X (.Attribute o m pos) (zMth c fl f mo zNil) := by
  obtain ⟨C, p, fa, fd, ps, h1, h2, h3, h4, h5⟩ := hk
  refine PE.of (pe_prop (E := E0) ho h2 h3 h5 (hr.mono hj) h4 .nil pass0 hab) fun σ H Q h => ?_
  obtain ⟨C1, Hs, A, g, r, g', hK, hn, ok, e, q⟩ := mth_of (E := E0) h1 hm h
  refine ⟨C1, Hs, A, g, r, g', hK, hn, ok, e, fun Hs1 A1 v1 H1 s1 p1 ok1 rel1 => ?_⟩
  obtain ⟨a, dx, fs, e1, e2, e3, C2, Hs2, A2, g2, rs, g3, _, _, ok2, e4, q2⟩ := q Hs1 A1 v1 H1 s1 p1 ok1 rel1
  cases e4
  subst e1
  exact ⟨a, dx, fs, rfl, e2, q2 Hs2 A2 [] H1 (Same.refl _) (Pre.refl _) ok2 trivial⟩
end Z
set_option Elab.async false
set_option linter.all false
set_option maxRecDepth 100000
set_option maxHeartbeats 4000000
namespace Z
open PySem PySem.Spec PyProof.Rows L2
end Z
set_option Elab.async false
set_option linter.all false
set_option maxRecDepth 100000
set_option maxHeartbeats 4000000
namespace Z
open PySem PySem.Spec PyProof.Rows L2
mutual
def showB : PyData → Bool
  | .none | .bool _ | .str _ => true
  | .int i => decide (i.natAbs.log2 < 2200)
  | .list xs | .tuple xs => showBA xs
  | .dict _ => false
def showBA : List PyData → Bool
  | [] => true
  | x :: xs => showB x && showBA xs
end
theorem bigB_lt {i : Int} (h : i.natAbs.log2 < 2200) : i.natAbs < 10 ^ 4300 :=
  Nat.lt_of_lt_of_le (Nat.lt_of_lt_of_le (lt_of_log2 h) (Nat.pow_le_pow_right (by decide) (by decide : 2200 ≤ 12900))) pow_lo
section
variable {prog : Program} {w : World} {h₀ : Heap}
theorem pyReprObj_intB {A : Around} {E : Value → Shared → Prop} {s : Shared} {a : Int} {t : Tok} {Q : Value → Shared → Prop} (hn : s.heap.NoDigits) (ha : a.natAbs < 10 ^ 4300) (h : Q (.str (toString a) s.toks) { s with toks := s.toks + 1 }) : wpAny (model prog w) A (pyReprObj (.int a t)) Q E s := by
  have hT := typeIs_int s a t
  have hv : [Value.int a t].any Value.onHeap = false := rfl
  unfold pyReprObj
  simp only [cRoomFor, hv, Bool.false_eq_true, if_false, pure_bind]
  refine wpAny_bind (wpAny_specialOf (name := Str.ofString "__repr__") hT F.slot_int_repr.lookup ?_)
  refine wpAny_bind (m := callSpecialIfBound? (.int a t) (Str.ofString "__repr__")) (wpAny_callSpecialIfBound?_slot (name := Str.ofString "__repr__") hT F.slot_int_repr ?_)
  refine wpAny_call (codeAny_call_builtin F.slot_int_repr.plain F.entry_int_repr (F.slot_int_repr.check _ _ _ _ _ _ _ _ hT (F.args_int_repr_1 _) ?_))
  unfold Builtin.«int.__repr__»
  show wpAny _ _ (do let r ← Builtin.overDigitLimit? a; _) _ _ s
  refine wpAny_bind (overDigitLimit_any hn (fun hlt => ?_) (fun hge => absurd ha (by exact Nat.not_lt_of_le hge)))
  refine wpAny_bind (wpAny_mkStr (wpAny_pure ?_) (int_text_fits10 hlt))
  exact wpAny_bind (wpAny_isInstance (T := "str") (b := true) rfl isSubtype_str_str (wpAny_pure h))
theorem ReprK.intB {a : Int} (t : Tok) (nd : h₀.NoDigits) (ha : a.natAbs.log2 < 2200) : ReprK prog w [] h₀ 0 (.int a t) (toString a) := fun n hn A g E s Q _ _ _ hk hQ => by
  have hn' : n ≤ sizeLine := by omega
  rw [pyReprUnder_leaf (v := .int a t) hn' (fun _ e => nomatch e)]
  unfold pyRepr
  exact wpAny_bind (pyReprObj_intB (nd.keeps hk) (bigB_lt ha) (wpAny_pure (hQ s.heap _ fun _ _ e => e)))
mutual
theorem ReprK.of_readsB (nd : h₀.NoDigits) : ∀ {v : Value} {d : PyData} {as : List Addr}, Reads h₀ v d as → showB d = true → d.shown.length ≤ sizeLine → ∃ bs, ReadAtMost h₀ d.depth bs ∧ ReprK prog w bs h₀ d.depth v d.shown
  | _, _, _, .none, _, _ => ⟨[], (fun _ h => nomatch h), by simp only [PyData.shown]; exact .of_is ReprIs.none _ _ _⟩
  | _, _, _, .bool b, _, _ => ⟨[], (fun _ h => nomatch h), by simp only [PyData.shown]; exact .of_is (ReprIs.bool b) _ _ _⟩
  | _, _, _, .int i t, hs, _ => ⟨[], (fun _ h => nomatch h), by simp only [PyData.shown]; exact ReprK.intB t nd (by simpa [showB] using hs)⟩
  | _, _, _, .str x t, _, hz => ⟨[], (fun _ h => nomatch h), by simp only [PyData.shown]; exact .of_is (ReprIs.str x t (by simpa only [PyData.shown] using hz)) _ _ _⟩
  | _, _, _, .list (a := a) (vs := vs) (xs := xs) h1 h2 h3 h4, hs, hz => by
    have hz' : (listText (PyData.shownAll xs)).length ≤ sizeLine := by simpa only [PyData.shown] using hz
    obtain ⟨bs, hb, hk⟩ := ReprAllK.of_readsAllB nd h4 (by simpa [showB] using hs) (fun t ht => Nat.le_trans (listText_mem_le ht) hz')
    have r : Reads h₀ (.ref a) (.list xs) _ := .list h1 h2 h3 h4
    have hna : a ∉ bs := not_mem_of_deeper r (by simp only [PyData.depth]; omega) hb
    refine ⟨a :: bs, ReadAtMost.cons r (by simp only [PyData.depth]; omega) hb, ?_⟩
    simp only [PyData.depth, PyData.shown]
    obtain ⟨l⟩ := vs
    cases l with
    | nil =>
      have h4' : ReadsAll h₀ [] xs _ := h4
      cases h4'
      simp only [PyData.shownAll, listText_nil]
      exact ReprK.listEmpty h1 h2 h3
    | cons x l => exact ReprK.list h1 h2 h3 hna (by simpa using hk.length_eq) (fun i y e => hk.item i y (by simpa using e))
  | _, _, _, .tuple (a := a) (xs := xs) h1 h2 h3 h4, hs, hz => by
    have hz' : (tupleText (PyData.shownAll xs)).length ≤ sizeLine := by simpa only [PyData.shown] using hz
    obtain ⟨bs, hb, hk⟩ := ReprAllK.of_readsAllB nd h4 (by simpa [showB] using hs) (fun t ht => Nat.le_trans (tupleText_mem_le ht) hz')
    have r : Reads h₀ (.ref a) (.tuple xs) _ := .tuple h1 h2 h3 h4
    have hna : a ∉ bs := not_mem_of_deeper r (by simp only [PyData.depth]; omega) hb
    refine ⟨a :: bs, ReadAtMost.cons r (by simp only [PyData.depth]; omega) hb, ?_⟩
    simp only [PyData.depth, PyData.shown]
    exact ReprK.tuple h1 h2 h3 hna hk
  | _, _, _, .dict h1 h2 h3 h4 h5, hs, _ => by simp [showB] at hs
theorem ReprAllK.of_readsAllB (nd : h₀.NoDigits) : ∀ {vs : List Value} {ds : List PyData} {as : List Addr}, ReadsAll h₀ vs ds as → showBA ds = true → (∀ t ∈ PyData.shownAll ds, t.length ≤ sizeLine) →
    ∃ bs, ReadAtMost h₀ (PyData.depthAll ds) bs ∧ ReprAllK prog w bs h₀ (PyData.depthAll ds) vs (PyData.shownAll ds)
  | _, _, _, .nil, _, _ => ⟨[], (fun _ h => nomatch h), by simp only [PyData.shownAll]; exact .nil⟩
  | _, _, _, .cons (d := d) (ds := ds) r rs, hs, hz => by
    have hs' : showB d = true ∧ showBA ds = true := by simpa [showBA] using hs
    obtain ⟨b1, hb1, k1⟩ := ReprK.of_readsB nd r hs'.1 (hz _ (by simp only [PyData.shownAll]; exact List.mem_cons_self ..))
    obtain ⟨b2, hb2, k2⟩ := ReprAllK.of_readsAllB nd rs hs'.2 (fun t ht => hz t (by simp only [PyData.shownAll]; exact List.mem_cons_of_mem _ ht))
    refine ⟨b1 ++ b2, ?_, ?_⟩
    · intro b hm
      simp only [PyData.depthAll]
      rcases List.mem_append.mp hm with hm | hm
      · obtain ⟨d', as', r', hd'⟩ := hb1 b hm
        exact ⟨d', as', r', Nat.le_trans hd' (Nat.le_max_left _ _)⟩
      · obtain ⟨d', as', r', hd'⟩ := hb2 b hm
        exact ⟨d', as', r', Nat.le_trans hd' (Nat.le_max_right _ _)⟩
    · simp only [PyData.depthAll, PyData.shownAll]
      exact .cons ((k1.more fun b hb => List.mem_append_left _ hb).level_le (Nat.le_max_left _ _)) (k2.more_le (fun b hb => List.mem_append_right _ hb) (Nat.le_max_right _ _))
end
variable {a : Addr} {d : PyData} {as : List Addr}
theorem repr_of_readsB {A : Around} {E : Value → Shared → Prop} {s : Shared} {Q : Value → Shared → Prop} (nd : h₀.NoDigits) (r : Reads h₀ (.ref a) d as) (hs : showB d = true) (hg : A.guards = some []) (hu : A.units + (d.depth + 1) < cLine) (hk0 : ∀ b o, h₀.get? b = some o → s.heap.get? b = some o)
    (hQ : ∀ h' u tk, (∀ b o, s.heap.get? b = some o → h'.get? b = some o) → Q (.str d.shown u) { s with heap := h', toks := tk })
    (hsz : d.shown.length ≤ sizeLine) : wpAny (model prog w) A (call (.builtin "repr") [.ref a]) Q E s := by
  have S : ∃ T idr, ShowsBy prog w h₀ a d T idr := by
    cases r with
    | list h1 h2 h3 h4 =>
      rename_i o vs n xs bs₀
      have hz' : (listText (PyData.shownAll xs)).length ≤ sizeLine := by simpa only [PyData.shown] using hsz
      obtain ⟨bs, hb, hk⟩ := ReprAllK.of_readsAllB (prog := prog) (w := w) nd h4 (by simpa [showB] using hs) (fun t ht => Nat.le_trans (listText_mem_le ht) hz')
      have hna : a ∉ bs := not_mem_of_deeper (.list h1 h2 h3 h4) (by simp only [PyData.depth]; omega) hb
      refine ⟨"list", "list.__repr__", F.slot_list_repr.toG, F.slot_list_str, F.slot_list_format, fun s hk0 => ⟨o, hk0 _ _ h1, h2⟩, fun A E s Q hg hu hk0 hQ => ?_⟩
      simp only [PyData.depth] at hu
      simp only [PyData.shown] at hQ
      obtain ⟨l⟩ := vs
      cases l with
      | nil =>
        have h4' : ReadsAll h₀ [] xs _ := h4
        cases h4'
        simp only [PyData.shownAll, listText_nil] at hQ
        exact call_list_repr_empty ⟨o, hk0 _ _ h1, h2⟩ (hk0 _ _ h1) h3 (hQ s.heap _ _ fun _ _ e => e)
      | cons x l =>
        exact call_list_reprK h1 h2 h3 hna (by simpa using hk.length_eq) (fun i y e => hk.item i y (by simpa using e)) hg (fun b _ => Clear.nil b) hu hk0 hQ hz'
    | tuple h1 h2 h3 h4 =>
      rename_i o vs n xs
      have hz' : (tupleText (PyData.shownAll xs)).length ≤ sizeLine := by simpa only [PyData.shown] using hsz
      obtain ⟨bs, hb, hk⟩ := ReprAllK.of_readsAllB (prog := prog) (w := w) nd h4 (by simpa [showB] using hs) (fun t ht => Nat.le_trans (tupleText_mem_le ht) hz')
      have hna : a ∉ bs := not_mem_of_deeper (.tuple h1 h2 h3 h4) (by simp only [PyData.depth]; omega) hb
      refine ⟨"tuple", "tuple.__repr__", F.slot_tuple_repr, F.slot_tuple_str, F.slot_tuple_format, fun s hk0 => ⟨o, hk0 _ _ h1, h2⟩, fun A E s Q hg hu hk0 hQ => ?_⟩
      simp only [PyData.depth] at hu
      simp only [PyData.shown] at hQ
      exact call_tuple_reprK h1 h2 h3 hna hk hg (fun b _ => Clear.nil b) hu hk0 hQ hz'
    | dict h1 h2 h3 h4 h5 => simp [showB] at hs
  obtain ⟨T, idr, S⟩ := S
  exact call_repr_slot (by omega) (S.typeIs s hk0) S.slotRepr (S.call A.in1 E s _ hg (by show A.units + 1 + d.depth < cLine; omega) hk0 fun h' u tk hk => ⟨_, _, rfl, hQ h' u tk hk⟩)
end
def reprOkB (d : D) : Bool := isRef d && d.py.canLay0 && showB d.py && decide (d.py.depth ≤ 64) && decide (d.py.shown.length ≤ sizeLine)
/-- repr of a datum, also of None -/
def reprB : List D → Option D
  | [.non] => some (.str [78, 111, 110, 101])
  | [d] => if reprOkB d = true then some (.str (shownD d)) else none
  | _ => none
def rReprB (K : PySem.W.Frag) : List V → Hp → VK → Prop := fun xs H Q => (∃ (a : Addr) (d : PyData), xs = [.ref a] ∧ Dp K H (.ref a) d ∧ showB d = true ∧ d.depth ≤ 64 ∧ d.shown.length ≤ sizeLine ∧ Q (.str d.shown) H) ∨ (xs = [.non] ∧ Q (.str "None") H)
theorem call_reprB {X : Cx} {k : Nat} (free : X.A.guards = some []) (room : Room k X.A) (hnd : X.base.NoDigits) : CallR X (.builtin "repr") (rReprB X.K) := by
  intro pins s σ H xs us Q I r h
  rcases h with ⟨a, d, rfl, dp, sh, dep, siz, q⟩ | ⟨rfl, q⟩
  · obtain ⟨u, rfl, ru⟩ := vals1 r
    obtain ⟨as, rd⟩ := Dp.reads I d _ u dp ru
    have eu : u = .ref a := ru
    subst eu
    have hr := room.un
    exact repr_of_readsB (hnd.keeps I.bk) rd sh free (by omega) (fun _ _ e => e) (fun h' u tk hk => ⟨.str _, H, I.kept hk, ⟨_, rfl⟩, q⟩) siz
  · obtain ⟨u, rfl, ru⟩ := vals1 r
    have eu : u = .none := ru
    subst eu
    exact PySem.P.repr_of_none ⟨.str _, H, I.tok _, ⟨_, rfl⟩, q⟩
theorem s_reprB {K : PySem.W.Frag} : CallS K (rReprB K) reprB := by
  intro H vs ds z Q hz e q
  unfold reprB at e
  split at e
  · cases e
    cases hz with
    | cons h t =>
      cases t
      cases h
      exact .inr ⟨rfl, q⟩
  · rename_i d _
    split at e
    · rename_i ok
      cases e
      unfold reprOkB at ok
      simp only [Bool.and_eq_true, decide_eq_true_eq] at ok
      obtain ⟨⟨⟨⟨o1, o2⟩, o3⟩, o4⟩, o5⟩ := ok
      cases hz with
      | cons h t =>
        cases t
        have dp := h.dp o2
        have ref : ∃ a, ‹V› = V.ref a := by
          cases h with
          | lst _ _ => exact ⟨_, rfl⟩
          | tup _ _ => exact ⟨_, rfl⟩
          | _ => cases o1
        obtain ⟨a, rfl⟩ := ref
        refine .inl ⟨a, d.py, rfl, dp, o3, o4, o5, ?_⟩
        have : (D.str (shownD d)).v = V.str d.py.shown := by
          show V.str ⟨d.py.shown.cps.toList.toArray⟩ = _
          rw [Array.toArray_toList]
        rw [← this]
        exact q
    · cases e
  · cases e
end Z
set_option Elab.async false
set_option linter.all false
set_option maxRecDepth 100000
set_option maxHeartbeats 4000000
namespace Z
open PySem PySem.Spec PyProof.Rows L2
/-- class c, of which no integer is an instance -/
def IsiB (K : PySem.W.Frag) (mg : Str → Option Value) (c : Str) : Prop := ∃ C, ClsAt K c C ∧ mg c = some (.ref C) ∧ C8.InsC K C ∧ PySem.W.kitOne K (.type "int") (.ref C) = some false ∧ PySem.W.subIn K (.type "int") (.ref C) = some false
def zIsOB (c : Str) (m : ZM) : ZM := fun g => do
  let (r, g1) ← m g
  match r with
  | .dat (.obj c' _ _) => if c' = c then some (.dat (.bl true), g1) else none
  | .dat (.int _) => some (.dat (.bl false), g1)
  | _ => none
theorem er_isOBt {c : Str} {m : ZM} {g g1 : G} {fl : List Str} {ds : List D} (h : m g = some (.dat (.obj c fl ds), g1)) : zIsOB c m g = some (.dat (.bl true), g1) := by
  unfold zIsOB
  simp [h]
theorem er_isOBf {c : Str} {m : ZM} {g g1 : G} {i : Int} (h : m g = some (.dat (.int i), g1)) : zIsOB c m g = some (.dat (.bl false), g1) := by
  unfold zIsOB
  simp [h]
section
variable {X : Cx} {pos : Pos}
theorem ze_isOB {x c : Str} {p p2 : Pos} {e : Expr} {m : ZM} (k : IsiB X.K X.mg c) (hg : Gl X x) (hm : X.mg x = none) (h : ZE X e m) (hv : bootBuiltins x = some (.builtin "isinstance") := by decide +kernel) (hg2 : Gl X c := by rfl) (hd2 : (c == ("__debug__" : Str)) = false := by decide)
    (hs2 : starEach [.Name c p2] X.env = (false, eval (.Name c p2) X.env) :: starEach [] X.env := by rfl) (hn : x ≠ "__name__" := by decide) (hdb : (x == ("__debug__" : Str)) = false := by decide) (he : starEach [e, .Name c p2] X.env = (false, eval e X.env) :: starEach [.Name c p2] X.env := by rfl) (hpl : (backTo pos (starEach [.Name c p2] X.env)).any (·.1) = false := by rfl) :
    ZE X (.Call (.Name x p) [e, .Name c p2] [] pos) (zIsOB c m) := by
  obtain ⟨C0, hc, hmc, ic, ki, _⟩ := k
  refine PE.of (pe_callB (CallR.or (C8.call_isC ic) call_isi) hg hm hv (pa_cons h (pa_cons (pe_glob (v := .ref C0) hg2 hmc rfl hd2) pa_nil hs2) he) hn hdb he hpl) fun σ H Q ⟨C, Hs, A, g, r, g', hK, hN, ok, e, q⟩ => ?_
  unfold zIsOB at e
  simp only [Option.bind_eq_bind, Option.bind_eq_some_iff] at e
  obtain ⟨⟨r1, g1⟩, h1, e⟩ := e
  refine ⟨C, Hs, A, g, r1, g1, hK, hN, ok, h1, fun Hs1 A1 v H1 s1 p1 ok1 rel1 => ?_⟩
  simp only at e
  split at e
  · rename_i c' fs ds
    split at e
    · rename_i hcc
      subst hcc
      cases e
      have dz : Dz C.K Hs1 v (.obj c' fs ds) := rel1
      cases dz with
      | obj hc' ha hl hz =>
        rw [hK] at hc'
        cases hc'.symm.trans (show PySem.W.nsIn X.K mainGlobals c' = some (some (.ref C0)) from hc)
        exact .inl ⟨_, _, _, rfl, ok1.same _ _ ha, q Hs1 A1 _ H1 s1 p1 ok1 (.bl true)⟩
    · cases e
  · rename_i i
    cases e
    have dz : Dz C.K Hs1 v (.int i) := rel1
    cases dz
    exact .inr ⟨_, _, _, _, _, rfl, .own C0, .base (.int i), ki, q Hs1 A1 _ H1 s1 p1 ok1 (.bl false)⟩
  · cases e
end
def EqoK (P : Program) (w : World) (K : PySem.W.Frag) (mg : Str → Option Value) (base : Heap) (k : Nat) (c : Str) (sp : Sp) : Prop :=
  ∃ (C fa : Addr) (fd : FuncData) (ps : List Str), ClsAt K c C ∧ Meth K C "__eq__" fa ∧ PySem.W.subIn K (.type "int") (.ref C) = some false ∧ Binds K fd ps [] ∧ (∀ vs H Q E, sp vs H Q E → vs.length = ps.length) ∧ ∀ A : Around, Room k A → A.guards = some [] → FnA P w K mg base A fa fd ps sp
section
variable {P : Program} {w : World} {K : PySem.W.Frag} {mg : Str → Option Value} {base : Heap}
theorem eqo_mk {c qual : Str} {st : Stmt} {N ps : List Str} {k : Nat} {s : SM} (h : MthDef K c "__eq__" qual st) (hB : IsiB K mg c) (S : FnScope N ps (defScope st))
    (hb : ∀ (kV doc pm : Value) (an : Option Addr) (cdv ct : Value) (us : List Value), us.length = ps.length → bindArgs (PySem.W.fnOf "__eq__" qual (defArgs st) (defBody st) (defScope st) .none kV doc pm an cdv ct) ⟨us, []⟩ = pure (ps.zip us))
    (body : ∀ (a : Addr) (A : Around), A.guards = some [] → ∀ (cdv : Value) (out : List Env) (s0 : Shared) (H : Hp) (E : XK), Room k (A.deeper (envOfC qual (defScope st) s0.heap.objs.size a cdv)) → ZSs (cxOf CX0 P w K mg base N qual (defScope st) a cdv A out s0 H E).nox (defBody st) s) :
    EqoK P w K mg base (k + 1) c (spP K (runP N.length ps.length s)) := by
  obtain ⟨C, a, fd, h1, h2, h3, F⟩ := h
  obtain ⟨C', k1, _, _, _, k5⟩ := hB
  cases h1.symm.trans (show PySem.W.nsIn K mainGlobals c = some (some (.ref C')) from k1)
  exact ⟨C, a, fd, ps, h1, h3, k5, F.binds hb, lenP, fun A hr hg => okA F S hr (body a A hg)⟩
end
def rEqO (Cc : Addr) (sp : Sp) : R2 := fun x y H Q => ∃ a dx fs, x = .ref a ∧ H a = some (.ins Cc dx fs) ∧ ((∃ b dy gs, y = .ref b ∧ H b = some (.ins Cc dy gs)) ∨ ∃ i, y = .int i) ∧ sp [x, y] H (fun v H' => (∃ b, v = .bl b) ∧ Q v H') E0
section
variable {X : Cx} {pos : Pos} {fl : List Str}
theorem op_eqO {Cc fa : Addr} {fd : FuncData} {ps : List Str} {sp : Sp} {k : Nat} (hr : Room k X.A) (m : Meth X.K Cc "__eq__" fa) (nf : PySem.W.subIn X.K (.type "int") (.ref Cc) = some false) (hb : Binds X.K fd ps []) (len : ∀ vs H Q E, sp vs H Q E → vs.length = ps.length)
    (F : FnA X.prog X.w X.K X.mg X.base X.A fa fd ps sp) : OpR X (compareOp .Eq) (rEqO Cc sp) := by
  intro pins s σ H x y v u Q I rx ry hq
  obtain ⟨a, dx, fs, rfl, ha, hy, hsp⟩ := hq
  cases rx
  show wpAny (model X.prog X.w) X.A (richCompare .Eq (.ref a) u) (EP X pins σ Q) X.xe s
  obtain ⟨mA, J, _⟩ := ins_get I.hok ha
  obtain ⟨od, J, _⟩ := J.look
  obtain ⟨m', hF⟩ := I.fr
  have run : ∀ yv, RelV y yv → wpAny (model X.prog X.w) X.A (call (.ref fa) [.ref a, yv]) (PySem.W.CmpBack (EP X pins σ Q)) X.xe s := fun yv ry => by
    refine wpAny_mono (run_fnA len F hb pass0 I (vs := [.ref a, y]) (us := [.ref a, yv]) (.cons (show RelV (.ref a) (.ref a) from rfl) (.cons ry .nil)) hsp) (fun r s' z => ?_) fun _ _ x => x
    obtain ⟨v, H', I', rv, ⟨b, hb'⟩, q⟩ := z
    subst hb'
    cases rv
    exact ⟨.bl b, H', I', rfl, q⟩
  rcases hy with ⟨b, dy, gs, rfl, hb'⟩ | ⟨i, rfl⟩
  · cases ry
    obtain ⟨mB, J', _⟩ := ins_get I.hok hb'
    obtain ⟨od', J', _⟩ := J'.look
    exact PySem.W.cmp_K (op := .Eq) (tb := .ref Cc) hr.units0 hF I.ok.mod.kin J J'.type (by simp [PySem.W.notFirst]) m.at_ m.fn (run _ rfl)
  · obtain ⟨t, rfl⟩ := (show ∃ t, u = .int i t from ry)
    exact PySem.W.cmp_K (op := .Eq) (tb := .type "int") hr.units0 hF I.ok.mod.kin J (show PySem.W.Looks _ _ (typeOf (.int i t)) (.type "int") from .now) (by simp [PySem.W.notFirst, nf]) m.at_ m.fn (run _ ⟨t, rfl⟩)
/-- the second operand: an instance of c or an integer -/
def zOI (c : Str) (m : ZM) : ZM := fun g => do
  let (r, g1) ← m g
  match r with
  | .dat (.obj c' _ _) => if c' = c then some (r, g1) else none
  | .dat (.int _) => some (r, g1)
  | _ => none
theorem er_oiO {c : Str} {m : ZM} {g g1 : G} {fl : List Str} {ds : List D} (h : m g = some (.dat (.obj c fl ds), g1)) : zOI c m g = some (.dat (.obj c fl ds), g1) := by
  unfold zOI
  simp [h]
theorem er_oiI {c : Str} {m : ZM} {g g1 : G} {i : Int} (h : m g = some (.dat (.int i), g1)) : zOI c m g = some (.dat (.int i), g1) := by
  unfold zOI
  simp [h]
/-- left == right, left an instance of c -/
def zEqO (c : Str) (fl : List Str) (f : List D → Option FR) (ma mb : ZM) : ZM := fun g => do
  let (r, g1) ← zCall f (zCons (zGrd c fl ma) (zCons (zOI c mb) zNil)) g
  let b ← isB r
  some (.dat (.bl b), g1)
theorem er_eqO {c : Str} {f : List D → Option FR} {ma mb : ZM} {g g1 g2 : G} {d1 d2 : D} {b : Bool} (h1 : zGrd c fl ma g = some (.dat d1, g1)) (h2 : zOI c mb g1 = some (.dat d2, g2)) (h3 : f [d1, d2] = some (.dat (.bl b))) : zEqO c fl f ma mb g = some (.dat (.bl b), g2) := by
  have e : zCall f (zCons (zGrd c fl ma) (zCons (zOI c mb) zNil)) g = some (.dat (.bl b), g2) := er_callV (rs := [.dat d1, .dat d2]) (ds := [d1, d2]) (er_cons h1 (er_cons h2 er_nil)) rfl h3 rfl
  unfold zEqO
  simp [e, isB]
theorem eqo_op {c : Str} {f : List D → Option FR} {ma mb : ZM} {Cc : Addr} {σ : L2.St} {H : Hp} {Q : VK} (hc : ClsAt X.K c Cc) (z0 : tZ X.K X.N.length (zEqO c fl f ma mb) σ H Q) : tOp (rEqO Cc (spP X.K f)) (tZ X.K X.N.length ma) (tZ X.K X.N.length mb) σ H Q := by
  obtain ⟨C, Hs, A, g, r, g', hK, hN, ok, ev, q⟩ := z0
  unfold zEqO at ev
  simp only [Option.bind_eq_bind, Option.bind_eq_some_iff] at ev
  obtain ⟨⟨r0, g0⟩, h0, b0, hb0, ev⟩ := ev
  cases ev
  have hr0 := isB_some hb0
  subst hr0
  have z : tZ X.K X.N.length (zCall f (zCons (zGrd c fl ma) (zCons (zOI c mb) zNil))) σ H (fun v H' => (∃ b, v = .bl b) ∧ Q v H') := ⟨C, Hs, A, g, _, _, hK, hN, ok, h0, fun Hs' A' v H' s p ok' rel => by
    have dz : Dz C.K Hs' v (.bl b0) := rel
    have hv : v = .bl b0 := by cases dz; rfl
    exact ⟨⟨b0, hv⟩, q Hs' A' v H' s p ok' rel⟩⟩
  obtain ⟨C, Hs, A, g, rs, g', hK, hn, ok, ev, q⟩ := (call_of (E := E0) z : tCall (spP X.K f) [] E0 (tZA X.K X.N.length (zCons (zGrd c fl ma) (zCons (zOI c mb) zNil))) σ H _)
  unfold zCons at ev
  simp only [Option.bind_eq_bind, Option.bind_eq_some_iff] at ev
  obtain ⟨⟨r1, g1⟩, h1, ⟨rs2, g2⟩, ⟨⟨r2, g3⟩, h2, ⟨rs3, g4⟩, h3, ev2⟩, ev⟩ := ev
  cases h3
  cases ev2
  cases ev
  obtain ⟨h1', ds, hr1⟩ := zGrd_some h1
  unfold zOI at h2
  simp only [Option.bind_eq_bind, Option.bind_eq_some_iff] at h2
  obtain ⟨⟨r2', g3'⟩, h2', h2⟩ := h2
  refine ⟨C, Hs, A, g, r1, g1, hK, hn, ok, h1', fun Hs1 A1 v1 H1 s1 p1 ok1 rel1 => ?_⟩
  have hfin : (r2' = r2 ∧ g3' = g3) ∧ ((∃ fs es, r2 = .dat (.obj c fs es)) ∨ ∃ i, r2 = .dat (.int i)) := by
    simp only at h2
    split at h2
    · rename_i c' fs es
      split at h2
      · rename_i hcc
        subst hcc
        cases h2
        exact ⟨⟨rfl, rfl⟩, .inl ⟨_, _, rfl⟩⟩
      · cases h2
    · cases h2
      exact ⟨⟨rfl, rfl⟩, .inr ⟨_, rfl⟩⟩
    · cases h2
  obtain ⟨⟨e1, e2⟩, hkind⟩ := hfin
  subst e1
  subst e2
  refine ⟨C, Hs1, A1, g1, r2', g3', hK, hn, ok1, h2', fun Hs2 A2 v2 H2 s2 p2 ok2 rel2 => ?_⟩
  have dz : Dz C.K Hs1 v1 (.obj c fl ds) := by rw [hr1] at rel1; exact rel1
  have fin := q Hs2 A2 [v1, v2] H2 (s1.trans s2) (p1.trans p2) ok2 ⟨rel1.mono s2 p2, rel2, trivial⟩
  cases dz with
  | obj hc' hal hl hz =>
    rw [hK] at hc'
    cases hc'.symm.trans (show PySem.W.nsIn X.K mainGlobals c = some (some (.ref Cc)) from hc)
    refine ⟨_, _, _, rfl, ok2.same _ _ (s2 _ _ hal), ?_, fin⟩
    rcases hkind with ⟨fs, es, hk⟩ | ⟨i, hk⟩
    · rw [hk] at rel2
      have dz2 : Dz C.K Hs2 v2 (.obj c fs es) := rel2
      cases dz2 with
      | obj hc2 hal2 hl2 hz2 =>
        rw [hK] at hc2
        cases hc2.symm.trans (show PySem.W.nsIn X.K mainGlobals c = some (some (.ref Cc)) from hc)
        exact .inl ⟨_, _, _, rfl, ok2.same _ _ hal2⟩
    · rw [hk] at rel2
      have dz2 : Dz C.K Hs2 v2 (.int i) := rel2
      cases dz2
      exact .inr ⟨_, rfl⟩
theorem ze_eqO {k : Nat} {c : Str} {a b : Expr} {f : List D → Option FR} {ma mb : ZM} (e : EqoK X.prog X.w X.K X.mg X.base k c (spP X.K f)) (hr : Room k X.A) (hgd : X.A.guards = some []) (ha : ZE X a ma) (hb : ZE X b mb) (hm : behindInMarks .Eq b = false := by first | exact nobehind _ (by decide) (by decide) | rfl) :
    ZE X (.Compare a [.Eq] [b] pos) (zEqO c fl f ma mb) := by
  obtain ⟨Cc, fa, fd, ps, hc, m, nf, hbd, len, F⟩ := e
  exact PE.of (pe_cmpR (op_eqO hr m nf hbd len (F X.A hr hgd)) ha hb hm) fun σ H Q z => eqo_op hc z
theorem zt_eqO {k : Nat} {c : Str} {a b : Expr} {f : List D → Option FR} {ma mb : ZM} (e : EqoK X.prog X.w X.K X.mg X.base k c (spP X.K f)) (hr : Room k X.A) (hgd : X.A.guards = some []) (ha : ZE X a ma) (hb : ZE X b mb) (hm : behindInMarks .Eq b = false := by first | exact nobehind _ (by decide) (by decide) | rfl) :
    ZTe X (.Compare a [.Eq] [b] pos) (zTst (zEqO c fl f ma mb)) := by
  obtain ⟨Cc, fa, fd, ps, hc, m, nf, hbd, len, F⟩ := e
  exact PT.of (pt_cmpR (op_eqO hr m nf hbd len (F X.A hr hgd)) ha hb hm) fun σ H Q z => eqo_op hc (tst_of z)
end
end Z
set_option Elab.async false
set_option linter.all false
set_option maxRecDepth 100000
set_option maxHeartbeats 4000000
namespace Qk45
open PySem PySem.Spec PyProof.Rows L2 Z
def topS (i : Nat) : Stmt := PySem.Challenge.pw_stylobate_k45_encoded_columns.main.body.getD i (.Pass ⟨0, 0, 0, 0⟩)
noncomputable section
variable {P : Program} {w : World} {K : PySem.W.Frag} {mg : Str → Option Value} {base : Heap}
abbrev c_FORMS : D := .tup [.str [112, 108, 97, 105, 110], .str [99, 111, 110, 115, 116, 97, 110, 116], .str [114, 117, 110, 115], .str [100, 105, 99, 116, 105, 111, 110, 97, 114, 121], .str [112, 97, 99, 107, 101, 100], .str [100, 101, 108, 116, 97, 115]]
def fl_Encoded : List Str := ["length", "mask", "body"]
theorem nd_Encoded : fl_Encoded.Nodup := by decide +kernel
abbrev st_Encoded : Stmt := mtOf (topS 20) 0
theorem sc_Encoded : FnScope ["self", "length", "mask", "body"] ["self", "length", "mask", "body"] (defScope st_Encoded) := ⟨rfl, rfl, rfl, by decide +kernel, rfl, by decide +kernel, by decide +kernel⟩
def i_Encoded : List D → Option (List D) := runI 4 4 [(zVar 1), (zIf (zTst (zOp isD (zVar 2) (zC .non))) (zC .non) (z_list (zCons (zVar 2) (zNil)))), (zVar 3)]
set_option maxHeartbeats 4000000 in
theorem ok_Encoded (h : ClsDef K mg "Encoded" fl_Encoded "Encoded.__init__" st_Encoded) (m_list : mg "list" = none) : ClsK P w K mg base 1 "Encoded" fl_Encoded i_Encoded := by
  obtain ⟨C, fa, fd, h1, h2, h3, h4, h5, F⟩ := h
  exact ⟨C, fa, fd, _, h1, h2, h3, h4, h5, F.binds (ps := ["self", "length", "mask", "body"]) fun _ _ _ _ _ _ us hl => match us, hl with | [_, _, _, _], _ => rfl, okI F sc_Encoded nd_Encoded (by decide) rfl fun cdv A outer s0 H E hr =>
    zi_cons (pv 0) (ze_var rfl (pv 1)) (zi_cons (pv 0) (ze_if (zt_cmp o_is s_is (ze_var rfl (pv 2)) (ze_non) (nomark _)) (ze_non) (ze_list hr (by rfl) m_list (za_cons (ze_var rfl (pv 2)) (za_nil)))) (zi_one (pv 0) (ze_var rfl (pv 3))))⟩
abbrev st_Encoded____eq__ : Stmt := mtOf (topS 20) 3
theorem sc_Encoded____eq__ : FnScope ["self", "other"] ["self", "other"] (defScope st_Encoded____eq__) := ⟨rfl, rfl, rfl, by decide +kernel, rfl, by decide +kernel, by decide +kernel⟩
def b_Encoded____eq__ : SM := zSeq (zIfS 2 (zOrT (zNotT (zTru (zIsOB "Encoded" (zVar 1)))) (zOrT (zTst (zOp neqD (zFld "Encoded" fl_Encoded 0 (zVar 0)) (zFld "Encoded" fl_Encoded 0 (zVar 1)))) (zTst (zOp neqD (zFld "Encoded" fl_Encoded 1 (zVar 0)) (zFld "Encoded" fl_Encoded 1 (zVar 1)))))) (zRet (zC (.bl false))) (zNx)) (zRet (zOp eqD (zCallS reprB (zCons (zFld "Encoded" fl_Encoded 2 (zVar 0)) (zNil))) (zCallS reprB (zCons (zFld "Encoded" fl_Encoded 2 (zVar 1)) (zNil)))))
def d_Encoded____eq__ : List D → Option FR := runP 2 2 b_Encoded____eq__
set_option maxHeartbeats 4000000 in
theorem ok_Encoded____eq__ (h : MthDef K "Encoded" "__eq__" "Encoded.__eq__" st_Encoded____eq__) (m_isinstance : mg "isinstance" = none) (m_repr : mg "repr" = none) (hnd : base.NoDigits) (k_Encoded : ClsF K mg "Encoded" fl_Encoded) (kb_Encoded : IsiB K mg "Encoded") : EqoK P w K mg base 1 "Encoded" (spP K d_Encoded____eq__) :=
  eqo_mk (k := 0) (ps := ["self", "other"]) h kb_Encoded sc_Encoded____eq__ (fun _ _ _ _ _ _ us hl => match us, hl with | [_, _], _ => rfl) fun a A hgd cdv outer s0 H E hr =>
    zss_cons (zs_if (zt_w (zw_or (zt_not (zt_truth (ze_isOB kb_Encoded (by rfl) m_isinstance (ze_var rfl (pv 1))))) (zw_or (zt_cmp (o_ne hr) s_ne (ze_fldF k_Encoded nd_Encoded rfl (ze_var rfl (pv 0))) (ze_fldF k_Encoded nd_Encoded rfl (ze_var rfl (pv 1))) (nomark _)) (zw_or1 (zt_cmp (o_ne hr) s_ne (ze_fldF k_Encoded nd_Encoded rfl (ze_var rfl (pv 0))) (ze_fldF k_Encoded nd_Encoded rfl (ze_var rfl (pv 1))) (nomark _)))))) (zss_one (zs_ret (ze_bl))) (zss_nil)) (zss_one (zs_ret (ze_cmp (o_eq hr) s_eq (ze_callB (call_reprB hgd hr hnd) s_reprB (by rfl) m_repr (by decide +kernel) (za_cons (ze_fldF k_Encoded nd_Encoded rfl (ze_var rfl (pv 0))) (za_nil))) (ze_callB (call_reprB hgd hr hnd) s_reprB (by rfl) m_repr (by decide +kernel) (za_cons (ze_fldF k_Encoded nd_Encoded rfl (ze_var rfl (pv 1))) (za_nil))) (nomark _))))
abbrev st__law_state : Stmt := topS 24
theorem sc__law_state : FnScope ["_law_cell_here", "_law_k", "_law_prime", "_law_first", "_law_second", "_law_third", "_law_fourth"] ["_law_cell_here", "_law_k"] (defScope st__law_state) := ⟨rfl, rfl, rfl, by decide +kernel, rfl, by decide +kernel, by decide +kernel⟩
def b__law_state : SM := zSeq (zIfS 7 (zTst (zOp geD (zVar 0) (zC (.int 1000000000000000000)))) (zRet (zLst (zCons (zVar 0) (zNil)))) (zNx)) (zSeq (zSet 7 2 (zC (.int 2305843009213693951))) (zSeq (zSet 7 3 (zOp modD (zCallS intU (zCons (zOp addS (zOp addS (zOp mulD (zVar 0) (zC (.int 6364136223))) (zOp mulD (zOp addS (zVar 1) (zC (.int 1))) (zC (.int 104729)))) (zC (.int 77))) (zNil))) (zVar 2))) (zSeq (zSet 7 4 (zOp modD (zCallS intU (zCons (zOp addS (zOp addS (zOp mulD (zVar 3) (zVar 3)) (zOp mulD (zC (.int 1013)) (zVar 3))) (zVar 1)) (zNil))) (zVar 2))) (zSeq (zSet 7 5 (zOp modD (zCallS intU (zCons (zOp addS (zOp addS (zOp mulD (zVar 4) (zC (.int 48271))) (zOp mulD (zVar 3) (zC (.int 31)))) (zC (.int 9))) (zNil))) (zVar 2))) (zSeq (zSet 7 6 (zOp modD (zCallS intU (zCons (zOp addS (zOp mulD (zVar 5) (zVar 5)) (zVar 4)) (zNil))) (zVar 2))) (zRet (zLst (zCons (zOp addS (zOp mulD (zOp addS (zOp mulD (zOp addS (zOp mulD (zVar 6) (zVar 2)) (zVar 5)) (zVar 2)) (zVar 4)) (zVar 2)) (zVar 3)) (zNil)))))))))
def d__law_state : List D → Option FR := runP 7 2 b__law_state
set_option maxHeartbeats 4000000 in
theorem ok__law_state (h : DefAt K mg "_law_state" st__law_state) (m_int : mg "int" = none) : Cal P w K mg base 1 "_law_state" (spP K d__law_state) := by
  obtain ⟨a, fd, h1, F⟩ := h
  exact ⟨a, fd, _, h1, F.kp, F.binds (ps := ["_law_cell_here", "_law_k"]) fun _ _ _ _ _ _ us hl => match us, hl with | [_, _], _ => rfl, okP F sc__law_state fun cdv A outer s0 H E hr =>
    zss_cons (zs_if (zt_cmp o_ge s_ge (ze_var rfl (pv 0)) (ze_int) (nomark _)) (zss_one (zs_ret (ze_lst (za_cons (ze_var rfl (pv 0)) (za_nil))))) (zss_nil)) (zss_cons (zs_set (i := 2) sc__law_state.nd rfl (Or.inl rfl) (ze_int)) (zss_cons (zs_set (i := 3) sc__law_state.nd rfl (Or.inl rfl) (ze_op o_mod s_mod (ze_callTy call_intU s_intU (by rfl) m_int (by decide +kernel) (za_cons (ze_op o_add s_add (ze_op o_add s_add (ze_op o_mul s_mul (ze_var rfl (pv 0)) (ze_int)) (ze_op o_mul s_mul (ze_op o_add s_add (ze_var rfl (pv 1)) (ze_int)) (ze_int))) (ze_int)) (za_nil))) (ze_var rfl (pv 2)))) (zss_cons (zs_set (i := 4) sc__law_state.nd rfl (Or.inl rfl) (ze_op o_mod s_mod (ze_callTy call_intU s_intU (by rfl) m_int (by decide +kernel) (za_cons (ze_op o_add s_add (ze_op o_add s_add (ze_op o_mul s_mul (ze_var rfl (pv 3)) (ze_var rfl (pv 3))) (ze_op o_mul s_mul (ze_int) (ze_var rfl (pv 3)))) (ze_var rfl (pv 1))) (za_nil))) (ze_var rfl (pv 2)))) (zss_cons (zs_set (i := 5) sc__law_state.nd rfl (Or.inl rfl) (ze_op o_mod s_mod (ze_callTy call_intU s_intU (by rfl) m_int (by decide +kernel) (za_cons (ze_op o_add s_add (ze_op o_add s_add (ze_op o_mul s_mul (ze_var rfl (pv 4)) (ze_int)) (ze_op o_mul s_mul (ze_var rfl (pv 3)) (ze_int))) (ze_int)) (za_nil))) (ze_var rfl (pv 2)))) (zss_cons (zs_set (i := 6) sc__law_state.nd rfl (Or.inl rfl) (ze_op o_mod s_mod (ze_callTy call_intU s_intU (by rfl) m_int (by decide +kernel) (za_cons (ze_op o_add s_add (ze_op o_mul s_mul (ze_var rfl (pv 5)) (ze_var rfl (pv 5))) (ze_var rfl (pv 4))) (za_nil))) (ze_var rfl (pv 2)))) (zss_one (zs_ret (ze_lst (za_cons (ze_op o_add s_add (ze_op o_mul s_mul (ze_op o_add s_add (ze_op o_mul s_mul (ze_op o_add s_add (ze_op o_mul s_mul (ze_var rfl (pv 6)) (ze_var rfl (pv 2))) (ze_var rfl (pv 5))) (ze_var rfl (pv 2))) (ze_var rfl (pv 4))) (ze_var rfl (pv 2))) (ze_var rfl (pv 3))) (za_nil))))))))))⟩
abbrev st__law_digit : Stmt := topS 25
theorem sc__law_digit : FnScope ["_law_state_here", "_law_many", "_law_digit_here"] ["_law_state_here", "_law_many"] (defScope st__law_digit) := ⟨rfl, rfl, rfl, by decide +kernel, rfl, by decide +kernel, by decide +kernel⟩
def b__law_digit : SM := zSeq (zSet 3 2 (zOp modD (zCallS intU (zCons (zIx (zVar 0) (zC (.int 0))) (zNil))) (zVar 1))) (zSeq (zSto 3 (zVar 0) (zC (.int 0)) (zOp divD (zIx (zVar 0) (zC (.int 0))) (zVar 1))) (zRet (zVar 2)))
def d__law_digit : Cn → List D → Option (FR × Cn) := runM 3 2 0 b__law_digit
set_option maxHeartbeats 4000000 in
theorem ok__law_digit (h : DefAt K mg "_law_digit" st__law_digit) (m_int : mg "int" = none) : Cal P w K mg base 1 "_law_digit" (spM K 0 d__law_digit) := by
  obtain ⟨a, fd, h1, F⟩ := h
  exact ⟨a, fd, _, h1, F.kp, F.binds (ps := ["_law_state_here", "_law_many"]) fun _ _ _ _ _ _ us hl => match us, hl with | [_, _], _ => rfl, okM F sc__law_digit fun cdv A outer s0 H E hr =>
    zss_cons (zs_set (i := 2) sc__law_digit.nd rfl (Or.inl rfl) (ze_op o_mod s_mod (ze_callTy call_intU s_intU (by rfl) m_int (by decide +kernel) (za_cons (ze_ix (ze_var rfl (pv 0)) (ze_int)) (za_nil))) (ze_var rfl (pv 1)))) (zss_cons (zs_sto (ze_op o_div s_div (ze_ix (ze_var rfl (pv 0)) (ze_int)) (ze_var rfl (pv 1))) (ze_var rfl (pv 0)) (ze_int)) (zss_one (zs_ret (ze_var rfl (pv 2)))))⟩
abbrev st__law_cell : Stmt := topS 23
theorem sc__law_cell : FnScope ["_law_script", "_law_k"] ["_law_script", "_law_k"] (defScope st__law_cell) := ⟨rfl, rfl, rfl, by decide +kernel, rfl, by decide +kernel, by decide +kernel⟩
def b__law_cell : SM := zSeq (zIfS 2 (zTst (zOp ltX (zVar 1) (zCallS lenD (zCons (zVar 0) (zNil))))) (zRet (zIx (zVar 0) (zVar 1))) (zNx)) (zRet (zC (.int 0)))
def d__law_cell : List D → Option FR := runP 2 2 b__law_cell
set_option maxHeartbeats 4000000 in
theorem ok__law_cell (h : DefAt K mg "_law_cell" st__law_cell) (m_len : mg "len" = none) : Cal P w K mg base 1 "_law_cell" (spP K d__law_cell) := by
  obtain ⟨a, fd, h1, F⟩ := h
  exact ⟨a, fd, _, h1, F.kp, F.binds (ps := ["_law_script", "_law_k"]) fun _ _ _ _ _ _ us hl => match us, hl with | [_, _], _ => rfl, okP F sc__law_cell fun cdv A outer s0 H E hr =>
    zss_cons (zs_if (zt_cmp (o_ltX hr) s_ltX (ze_var rfl (pv 1)) (ze_callB call_len s_len (by rfl) m_len PySem.boot_len (za_cons (ze_var rfl (pv 0)) (za_nil))) (nomark _)) (zss_one (zs_ret (ze_ix (ze_var rfl (pv 0)) (ze_var rfl (pv 1))))) (zss_nil)) (zss_one (zs_ret (ze_int)))⟩
abbrev st__law_text : Stmt := topS 28
theorem sc__law_text : FnScope ["_law_state_here", "_law_signs", "_law_k"] ["_law_state_here"] (defScope st__law_text) := ⟨rfl, rfl, rfl, by decide +kernel, rfl, by decide +kernel, by decide +kernel⟩
def b__law_text : SM := zSeq (zSet 3 1 (zC (.str [97, 98, 65, 66, 32, 49, 57, 45, 39, 126]))) (zRet (zMt "str" joinD (zC (.str [])) (zCons (zLc (ziR1 (zCons (zCallM 0 d__law_digit (zCons (zVar 0) (zCons (zC (.int 5)) (zNil)))) (zNil))) (gN 2) (zYes) (zIx (zVar 1) (zCallM 0 d__law_digit (zCons (zVar 0) (zCons (zC (.int 10)) (zNil))))) [2]) (zNil))))
def d__law_text : Cn → List D → Option (FR × Cn) := runM 3 1 0 b__law_text
set_option maxHeartbeats 4000000 in
theorem ok__law_text (h : DefAt K mg "_law_text" st__law_text) (m_range : mg "range" = none) (c__law_digit : Cal P w K mg base 1 "_law_digit" (spM K 0 d__law_digit)) : Cal P w K mg base 2 "_law_text" (spM K 0 d__law_text) := by
  obtain ⟨a, fd, h1, F⟩ := h
  exact ⟨a, fd, _, h1, F.kp, F.binds (ps := ["_law_state_here"]) fun _ _ _ _ _ _ us hl => match us, hl with | [_], _ => rfl, okM F sc__law_text fun cdv A outer s0 H E hr =>
    zss_cons (zs_set (i := 1) sc__law_text.nd rfl (Or.inr rfl) (ze_str)) (zss_one (zs_ret (ze_mt PySem.F.plainAttrs_str PySem.F.slot_str_join PySem.F.type_str_join mt_join s_join (ze_str) (za_cons (ze_lc (own := [("_law_k", 2)]) rfl sc__law_text.nd (zi_range1 (by rfl) m_range (za_cons (ze_callM (c__law_digit.mono (by decide)) hr (za_cons (ze_var rfl (pv 0)) (za_cons (ze_int) (za_nil)))) (za_nil))) (blkOk_by (N := ["_law_state_here", "_law_signs", "_law_k"]) (own := [("_law_k", 2)]) (sc := defScope st__law_text) (by decide +kernel)) (fun _ _ _ _ _ => zgw_name (i := 2) sc__law_text.nd rfl (Or.inl rfl) (by decide)) (fun _ _ _ _ _ => zts_nil) (fun _ _ _ _ _ => ze_ix (ze_var rfl (pv 1)) (ze_callM (c__law_digit.mono (by decide)) hr (za_cons (ze_var rfl (pv 0)) (za_cons (ze_int) (za_nil)))))) (za_nil)))))⟩
abbrev st__law_value : Stmt := topS 29
theorem sc__law_value : FnScope ["_law_state_here", "_law_kind"] ["_law_state_here"] (defScope st__law_value) := ⟨rfl, rfl, rfl, by decide +kernel, rfl, by decide +kernel, by decide +kernel⟩
def b__law_value : SM := zSeq (zSet 2 1 (zCallM 0 d__law_digit (zCons (zVar 0) (zCons (zC (.int 8)) (zNil))))) (zSeq (zIfS 2 (zTst (zOp ltX (zVar 1) (zC (.int 2)))) (zRet (zC .non)) (zNx)) (zSeq (zIfS 2 (zTst (zOp eqD (zVar 1) (zC (.int 2)))) (zRet (zOp eqD (zCallM 0 d__law_digit (zCons (zVar 0) (zCons (zC (.int 2)) (zNil)))) (zC (.int 1)))) (zNx)) (zSeq (zIfS 2 (zTst (zOp ltX (zVar 1) (zC (.int 5)))) (zRet (zOp subD (zCallM 0 d__law_digit (zCons (zVar 0) (zCons (zC (.int 7)) (zNil)))) (zC (.int 3)))) (zNx)) (zSeq (zIfS 2 (zTst (zOp eqD (zVar 1) (zC (.int 5)))) (zRet (zOp mulD (zOp subD (zOp mulD (zCallM 0 d__law_digit (zCons (zVar 0) (zCons (zC (.int 2)) (zNil)))) (zC (.int 2))) (zC (.int 1))) (zOp subD (zC (.int 1000000000000000)) (zCallM 0 d__law_digit (zCons (zVar 0) (zCons (zC (.int 1000)) (zNil))))))) (zNx)) (zRet (zCallM 0 d__law_text (zCons (zVar 0) (zNil))))))))
def d__law_value : Cn → List D → Option (FR × Cn) := runM 2 1 0 b__law_value
set_option maxHeartbeats 4000000 in
theorem ok__law_value (h : DefAt K mg "_law_value" st__law_value) (c__law_digit : Cal P w K mg base 1 "_law_digit" (spM K 0 d__law_digit)) (c__law_text : Cal P w K mg base 2 "_law_text" (spM K 0 d__law_text)) : Cal P w K mg base 3 "_law_value" (spM K 0 d__law_value) := by
  obtain ⟨a, fd, h1, F⟩ := h
  exact ⟨a, fd, _, h1, F.kp, F.binds (ps := ["_law_state_here"]) fun _ _ _ _ _ _ us hl => match us, hl with | [_], _ => rfl, okM F sc__law_value fun cdv A outer s0 H E hr =>
    zss_cons (zs_set (i := 1) sc__law_value.nd rfl (Or.inl rfl) (ze_callM (c__law_digit.mono (by decide)) hr (za_cons (ze_var rfl (pv 0)) (za_cons (ze_int) (za_nil))))) (zss_cons (zs_if (zt_cmp (o_ltX hr) s_ltX (ze_var rfl (pv 1)) (ze_int) (nomark _)) (zss_one (zs_ret (ze_non))) (zss_nil)) (zss_cons (zs_if (zt_cmp (o_eq hr) s_eq (ze_var rfl (pv 1)) (ze_int) (nomark _)) (zss_one (zs_ret (ze_cmp (o_eq hr) s_eq (ze_callM (c__law_digit.mono (by decide)) hr (za_cons (ze_var rfl (pv 0)) (za_cons (ze_int) (za_nil)))) (ze_int) (nomark _)))) (zss_nil)) (zss_cons (zs_if (zt_cmp (o_ltX hr) s_ltX (ze_var rfl (pv 1)) (ze_int) (nomark _)) (zss_one (zs_ret (ze_op op_sub s_sub (ze_callM (c__law_digit.mono (by decide)) hr (za_cons (ze_var rfl (pv 0)) (za_cons (ze_int) (za_nil)))) (ze_int)))) (zss_nil)) (zss_cons (zs_if (zt_cmp (o_eq hr) s_eq (ze_var rfl (pv 1)) (ze_int) (nomark _)) (zss_one (zs_ret (ze_op o_mul s_mul (ze_op op_sub s_sub (ze_op o_mul s_mul (ze_callM (c__law_digit.mono (by decide)) hr (za_cons (ze_var rfl (pv 0)) (za_cons (ze_int) (za_nil)))) (ze_int)) (ze_int)) (ze_op op_sub s_sub (ze_int) (ze_callM (c__law_digit.mono (by decide)) hr (za_cons (ze_var rfl (pv 0)) (za_cons (ze_int) (za_nil)))))))) (zss_nil)) (zss_one (zs_ret (ze_callM (c__law_text.mono (by decide)) hr (za_cons (ze_var rfl (pv 0)) (za_nil)))))))))⟩
abbrev st__law_is_integer : Stmt := topS 26
theorem sc__law_is_integer : FnScope ["_law_told"] ["_law_told"] (defScope st__law_is_integer) := ⟨rfl, rfl, rfl, by decide +kernel, rfl, by decide +kernel, by decide +kernel⟩
def b__law_is_integer : SM := zRet (zAndV (zCallS isiD (zCons (zVar 0) (zCons (zC (.raw (.ty "int"))) (zNil)))) (zNotV (zCallS isiD (zCons (zVar 0) (zCons (zC (.raw (.ty "bool"))) (zNil))))))
def d__law_is_integer : List D → Option FR := runP 1 1 b__law_is_integer
set_option maxHeartbeats 4000000 in
theorem ok__law_is_integer (h : DefAt K mg "_law_is_integer" st__law_is_integer) (m_bool : mg "bool" = none) (m_int : mg "int" = none) (m_isinstance : mg "isinstance" = none) : Cal P w K mg base 1 "_law_is_integer" (spP K d__law_is_integer) := by
  obtain ⟨a, fd, h1, F⟩ := h
  exact ⟨a, fd, _, h1, F.kp, F.binds (ps := ["_law_told"]) fun _ _ _ _ _ _ us hl => match us, hl with | [_], _ => rfl, okP F sc__law_is_integer fun cdv A outer s0 H E hr =>
    zss_one (zs_ret (ze_and (ze_callB call_isiU s_isi (by rfl) m_isinstance (by decide +kernel) (za_cons (ze_var rfl (pv 0)) (za_cons (ze_bltn (by rfl) m_int (by decide +kernel) rfl) (za_nil)))) (ze_one (ze_not (ze_callB call_isiU s_isi (by rfl) m_isinstance (by decide +kernel) (za_cons (ze_var rfl (pv 0)) (za_cons (ze_bltn (by rfl) m_bool (by decide +kernel) rfl) (za_nil))))))))⟩
abbrev st__law_values : Stmt := topS 30
theorem sc__law_values : FnScope ["_law_script", "_law_state_here", "_law_kind", "_law_values_here", "_law_k", "_law_value_here"] ["_law_script"] (defScope st__law_values) := ⟨rfl, rfl, rfl, by decide +kernel, rfl, by decide +kernel, by decide +kernel⟩
def lb__law_values_1 : SM := zFg [1, 4, 5] (zSeq (zSet 6 1 (zCall d__law_state (zCons (zCall d__law_cell (zCons (zVar 0) (zCons (zOp addS (zC (.int 1)) (zVar 4)) (zNil)))) (zCons (zVar 4) (zNil))))) (zSeq (zSet 6 5 (zCallM 0 d__law_value (zCons (zVar 1) (zNil)))) (zSeq (zIfS 6 (zAndT (zTst (zOp eqD (zVar 2) (zC (.int 1)))) (zAndT (zNotT (zTru (zCall d__law_is_integer (zCons (zVar 5) (zNil))))) (zTst (zOp isntD (zVar 5) (zC .non))))) (zSet 6 5 (zOp subD (zCallM 0 d__law_digit (zCons (zVar 1) (zCons (zC (.int 9)) (zNil)))) (zC (.int 4)))) (zNx)) (zSeq (zIfS 6 (zAndT (zTst (zOp eqD (zVar 2) (zC (.int 2)))) (zAndT (zTst (zOp gtD (zCallS lenD (zCons (zVar 3) (zNil))) (zC (.int 0)))) (zTst (zOp gtD (zCallM 0 d__law_digit (zCons (zVar 1) (zCons (zC (.int 3)) (zNil)))) (zC (.int 0)))))) (zSet 6 5 (zIx (zVar 3) (zUn negD (zC (.int 1))))) (zNx)) (zSeq (zIfS 6 (zAndT (zTst (zOp eqD (zVar 2) (zC (.int 3)))) (zAndT (zTst (zOp gtD (zCallS lenD (zCons (zVar 3) (zNil))) (zC (.int 0)))) (zTst (zOp isntD (zVar 5) (zC .non))))) (zSet 6 5 (zIx (zVar 3) (zC (.int 0)))) (zNx)) (zApp 6 (zVar 3) (zVar 5)))))))
def b__law_values : SM := zSeq (zSet 6 1 (zCall d__law_state (zCons (zCall d__law_cell (zCons (zVar 0) (zCons (zC (.int 0)) (zNil)))) (zCons (zC (.int 0)) (zNil))))) (zSeq (zSet 6 2 (zCallM 0 d__law_digit (zCons (zVar 1) (zCons (zC (.int 4)) (zNil))))) (zSeq (zSet 6 3 (zLst (zNil))) (zSeq (zFgB [1] (zFor 6 (ziR1 (zCons (zCallS minD (zCons (zC (.int 40)) (zCons (zCallS lenD (zCons (zVar 0) (zNil))) (zNil)))) (zNil))) (gN 4) (lb__law_values_1))) (zRet (zVar 3)))))
def d__law_values : List D → Option FR := runP 6 1 b__law_values
set_option maxHeartbeats 4000000 in
theorem ok__law_values (h : DefAt K mg "_law_values" st__law_values) (m_len : mg "len" = none) (m_min : mg "min" = none) (m_range : mg "range" = none) (c__law_state : Cal P w K mg base 1 "_law_state" (spP K d__law_state)) (c__law_digit : Cal P w K mg base 1 "_law_digit" (spM K 0 d__law_digit)) (c__law_cell : Cal P w K mg base 1 "_law_cell" (spP K d__law_cell)) (c__law_value : Cal P w K mg base 3 "_law_value" (spM K 0 d__law_value)) (c__law_is_integer : Cal P w K mg base 1 "_law_is_integer" (spP K d__law_is_integer)) : Cal P w K mg base 4 "_law_values" (spP K d__law_values) := by
  obtain ⟨a, fd, h1, F⟩ := h
  exact ⟨a, fd, _, h1, F.kp, F.binds (ps := ["_law_script"]) fun _ _ _ _ _ _ us hl => match us, hl with | [_], _ => rfl, okP F sc__law_values fun cdv A outer s0 H E hr =>
    zss_cons (zs_set (i := 1) sc__law_values.nd rfl (Or.inl rfl) (ze_call (c__law_state.mono (by decide)) hr (za_cons (ze_call (c__law_cell.mono (by decide)) hr (za_cons (ze_var rfl (pv 0)) (za_cons (ze_int) (za_nil)))) (za_cons (ze_int) (za_nil))))) (zss_cons (zs_set (i := 2) sc__law_values.nd rfl (Or.inl rfl) (ze_callM (c__law_digit.mono (by decide)) hr (za_cons (ze_var rfl (pv 1)) (za_cons (ze_int) (za_nil))))) (zss_cons (zs_set (i := 3) sc__law_values.nd rfl (Or.inl rfl) (ze_lst (za_nil))) (zss_cons (zs_fgB (vs := [1]) (zs_for PassesOwn.never rfl (zi_range1 (by rfl) m_range (za_cons (ze_callB (call_min2 rfl) s_min (by rfl) m_min (by decide +kernel) (za_cons (ze_int) (za_cons (ze_callB call_len s_len (by rfl) m_len PySem.boot_len (za_cons (ze_var rfl (pv 0)) (za_nil))) (za_nil)))) (za_nil))) (zg_name (i := 4) sc__law_values.nd rfl (Or.inl rfl)) (zss_fg (vs := [1, 4, 5]) (zss_cons (zs_set (i := 1) sc__law_values.nd rfl (Or.inl rfl) (ze_call (c__law_state.mono (by decide)) hr (za_cons (ze_call (c__law_cell.mono (by decide)) hr (za_cons (ze_var rfl (pv 0)) (za_cons (ze_op o_add s_add (ze_int) (ze_var rfl (pv 4))) (za_nil)))) (za_cons (ze_var rfl (pv 4)) (za_nil))))) (zss_cons (zs_set (i := 5) sc__law_values.nd rfl (Or.inl rfl) (ze_callM (c__law_value.mono (by decide)) hr (za_cons (ze_var rfl (pv 1)) (za_nil)))) (zss_cons (zs_if (zt_w (zw_and (zt_cmp (o_eq hr) s_eq (ze_var rfl (pv 2)) (ze_int) (nomark _)) (zw_and (zt_not (zt_truth (ze_call (c__law_is_integer.mono (by decide)) hr (za_cons (ze_var rfl (pv 5)) (za_nil))))) (zw_and1 (zt_cmp o_isnt s_isnt (ze_var rfl (pv 5)) (ze_non) (nomark _)))))) (zss_one (zs_set (i := 5) sc__law_values.nd rfl (Or.inl rfl) (ze_op op_sub s_sub (ze_callM (c__law_digit.mono (by decide)) hr (za_cons (ze_var rfl (pv 1)) (za_cons (ze_int) (za_nil)))) (ze_int)))) (zss_nil)) (zss_cons (zs_if (zt_w (zw_and (zt_cmp (o_eq hr) s_eq (ze_var rfl (pv 2)) (ze_int) (nomark _)) (zw_and (zt_cmp o_gt s_gt (ze_callB call_len s_len (by rfl) m_len PySem.boot_len (za_cons (ze_var rfl (pv 3)) (za_nil))) (ze_int) (nomark _)) (zw_and1 (zt_cmp o_gt s_gt (ze_callM (c__law_digit.mono (by decide)) hr (za_cons (ze_var rfl (pv 1)) (za_cons (ze_int) (za_nil)))) (ze_int) (nomark _)))))) (zss_one (zs_set (i := 5) sc__law_values.nd rfl (Or.inl rfl) (ze_ix (ze_var rfl (pv 3)) (ze_un un_neg s_neg (ze_int))))) (zss_nil)) (zss_cons (zs_if (zt_w (zw_and (zt_cmp (o_eq hr) s_eq (ze_var rfl (pv 2)) (ze_int) (nomark _)) (zw_and (zt_cmp o_gt s_gt (ze_callB call_len s_len (by rfl) m_len PySem.boot_len (za_cons (ze_var rfl (pv 3)) (za_nil))) (ze_int) (nomark _)) (zw_and1 (zt_cmp o_isnt s_isnt (ze_var rfl (pv 5)) (ze_non) (nomark _)))))) (zss_one (zs_set (i := 5) sc__law_values.nd rfl (Or.inl rfl) (ze_ix (ze_var rfl (pv 3)) (ze_int)))) (zss_nil)) (zss_one (zs_app (ze_var rfl (pv 3)) (ze_var rfl (pv 5)))))))))))) (zss_one (zs_ret (ze_var rfl (pv 3)))))))⟩
abbrev st_width_for : Stmt := topS 1
theorem sc_width_for : FnScope ["number"] ["number"] (defScope st_width_for) := ⟨rfl, rfl, rfl, by decide +kernel, rfl, by decide +kernel, by decide +kernel⟩
def b_width_for : SM := zRet (zUn bitlenD (zVar 0))
def d_width_for : List D → Option FR := runP 1 1 b_width_for
set_option maxHeartbeats 4000000 in
theorem ok_width_for (h : DefAt K mg "width_for" st_width_for) : Cal P w K mg base 1 "width_for" (spP K d_width_for) := by
  obtain ⟨a, fd, h1, F⟩ := h
  exact ⟨a, fd, _, h1, F.kp, F.binds (ps := ["number"]) fun _ _ _ _ _ _ us hl => match us, hl with | [_], _ => rfl, okP F sc_width_for fun cdv A outer s0 H E hr =>
    zss_one (zs_ret (ze_bits (ze_var rfl (pv 0))))⟩
abbrev st_pack : Stmt := topS 2
theorem sc_pack : FnScope ["numbers", "width", "bits", "number"] ["numbers", "width"] (defScope st_pack) := ⟨rfl, rfl, rfl, by decide +kernel, rfl, by decide +kernel, by decide +kernel⟩
def lb_pack_1 : SM := zFg [3] (zSet 4 2 (zOp addS (zOp shlD (zVar 2) (zVar 1)) (zVar 3)))
def b_pack : SM := zSeq (zSet 4 2 (zC (.int 0))) (zSeq (zFor 4 (zi_reversedD 4 (zCons (zVar 0) (zNil))) (gN 3) (lb_pack_1)) (zRet (zVar 2)))
def d_pack : List D → Option FR := runP 4 2 b_pack
set_option maxHeartbeats 4000000 in
theorem ok_pack (h : DefAt K mg "pack" st_pack) (m_reversed : mg "reversed" = none) : Cal P w K mg base 1 "pack" (spP K d_pack) := by
  obtain ⟨a, fd, h1, F⟩ := h
  exact ⟨a, fd, _, h1, F.kp, F.binds (ps := ["numbers", "width"]) fun _ _ _ _ _ _ us hl => match us, hl with | [_, _], _ => rfl, okP F sc_pack fun cdv A outer s0 H E hr =>
    zss_cons (zs_set (i := 2) sc_pack.nd rfl (Or.inl rfl) (ze_int)) (zss_cons (zs_for PassesOwn.never rfl (zi_reversed (by rfl) m_reversed (za_cons (ze_var rfl (pv 0)) (za_nil))) (zg_name (i := 3) sc_pack.nd rfl (Or.inl rfl)) (zss_fg (vs := [3]) (zss_one (zs_set (i := 2) sc_pack.nd rfl (Or.inl rfl) (ze_op o_add s_add (ze_op o_shl s_shl (ze_var rfl (pv 2)) (ze_var rfl (pv 1))) (ze_var rfl (pv 3))))))) (zss_one (zs_ret (ze_var rfl (pv 2)))))⟩
abbrev st_packed_parts : Stmt := topS 13
theorem sc_packed_parts : FnScope ["numbers", "least", "over", "width", "number"] ["numbers"] (defScope st_packed_parts) := ⟨rfl, rfl, rfl, by decide +kernel, rfl, by decide +kernel, by decide +kernel⟩
def b_packed_parts : SM := zSeq (zSet 5 1 (zCallS minDL (zCons (zVar 0) (zCons (zC (.int 0)) zNil)))) (zSeq (zSet 5 2 (zLc (ziL 5 (zVar 0)) (gN 4) (zYes) (zOp subD (zVar 4) (zVar 1)) [4])) (zSeq (zSet 5 3 (zCall d_width_for (zCons (zCallS maxDL (zCons (zVar 2) (zCons (zC (.int 0)) zNil))) (zNil)))) (zRet (zTup (zCons (zVar 1) (zCons (zVar 3) (zCons (zCall d_pack (zCons (zVar 2) (zCons (zVar 3) (zNil)))) (zNil))))))))
def d_packed_parts : List D → Option FR := runP 5 1 b_packed_parts
set_option maxHeartbeats 4000000 in
theorem ok_packed_parts (h : DefAt K mg "packed_parts" st_packed_parts) (m_max : mg "max" = none) (m_min : mg "min" = none) (c_width_for : Cal P w K mg base 1 "width_for" (spP K d_width_for)) (c_pack : Cal P w K mg base 1 "pack" (spP K d_pack)) : Cal P w K mg base 2 "packed_parts" (spP K d_packed_parts) := by
  obtain ⟨a, fd, h1, F⟩ := h
  exact ⟨a, fd, _, h1, F.kp, F.binds (ps := ["numbers"]) fun _ _ _ _ _ _ us hl => match us, hl with | [_], _ => rfl, okP F sc_packed_parts fun cdv A outer s0 H E hr =>
    zss_cons (zs_set (i := 1) sc_packed_parts.nd rfl (Or.inr rfl) (ze_callSK (cr_minDf rfl (room2 hr)) s_minDL (by rfl) m_min (by decide +kernel) (ze_var rfl (pv 0)) (ze_int))) (zss_cons (zs_setLc (i := 2) rfl rfl (sw_true rfl rfl rfl (by decide +kernel)) (own := [("number", 4)]) rfl sc_packed_parts.nd (zi_list (ze_var rfl (pv 0))) (blkOk_by (N := ["numbers", "least", "over", "width", "number"]) (own := [("number", 4)]) (sc := defScope st_packed_parts) (by decide +kernel)) (fun _ _ _ _ _ => zgw_name (i := 4) sc_packed_parts.nd rfl (Or.inl rfl) (by decide)) (fun _ _ _ _ _ => zts_nil) (fun _ _ _ _ _ => ze_op op_sub s_sub (ze_var rfl (pv 4)) (ze_var rfl (pv 1)))) (zss_cons (zs_set (i := 3) sc_packed_parts.nd rfl (Or.inl rfl) (ze_call (c_width_for.mono (by decide)) hr (za_cons (ze_callSK (cr_maxDf rfl (room2 hr)) s_maxDL (by rfl) m_max (by decide +kernel) (ze_var rfl (pv 2)) (ze_int)) (za_nil)))) (zss_one (zs_ret (ze_tup (za_cons (ze_var rfl (pv 1)) (za_cons (ze_var rfl (pv 3)) (za_cons (ze_call (c_pack.mono (by decide)) hr (za_cons (ze_var rfl (pv 2)) (za_cons (ze_var rfl (pv 3)) (za_nil)))) (za_nil)))))))))⟩
abbrev st_is_integer : Stmt := topS 5
theorem sc_is_integer : FnScope ["value"] ["value"] (defScope st_is_integer) := ⟨rfl, rfl, rfl, by decide +kernel, rfl, by decide +kernel, by decide +kernel⟩
def b_is_integer : SM := zRet (zAndV (zCallS isiD (zCons (zVar 0) (zCons (zC (.raw (.ty "int"))) (zNil)))) (zNotV (zCallS isiD (zCons (zVar 0) (zCons (zC (.raw (.ty "bool"))) (zNil))))))
def d_is_integer : List D → Option FR := runP 1 1 b_is_integer
set_option maxHeartbeats 4000000 in
theorem ok_is_integer (h : DefAt K mg "is_integer" st_is_integer) (m_bool : mg "bool" = none) (m_int : mg "int" = none) (m_isinstance : mg "isinstance" = none) : Cal P w K mg base 1 "is_integer" (spP K d_is_integer) := by
  obtain ⟨a, fd, h1, F⟩ := h
  exact ⟨a, fd, _, h1, F.kp, F.binds (ps := ["value"]) fun _ _ _ _ _ _ us hl => match us, hl with | [_], _ => rfl, okP F sc_is_integer fun cdv A outer s0 H E hr =>
    zss_one (zs_ret (ze_and (ze_callB call_isiU s_isi (by rfl) m_isinstance (by decide +kernel) (za_cons (ze_var rfl (pv 0)) (za_cons (ze_bltn (by rfl) m_int (by decide +kernel) rfl) (za_nil)))) (ze_one (ze_not (ze_callB call_isiU s_isi (by rfl) m_isinstance (by decide +kernel) (za_cons (ze_var rfl (pv 0)) (za_cons (ze_bltn (by rfl) m_bool (by decide +kernel) rfl) (za_nil))))))))⟩
abbrev st_all_integers : Stmt := topS 12
theorem sc_all_integers : FnScope ["present", "value"] ["present"] (defScope st_all_integers) := ⟨rfl, rfl, rfl, by decide +kernel, rfl, by decide +kernel, by decide +kernel⟩
def lb_all_integers_1 : SM := zFg [1] (zIfS 2 (zNotT (zTru (zCall d_is_integer (zCons (zVar 1) (zNil))))) (zRet (zC (.bl false))) (zNx))
def b_all_integers : SM := zSeq (zFor 2 (ziL 2 (zVar 0)) (gN 1) (lb_all_integers_1)) (zRet (zC (.bl true)))
def d_all_integers : List D → Option FR := runP 2 1 b_all_integers
set_option maxHeartbeats 4000000 in
theorem ok_all_integers (h : DefAt K mg "all_integers" st_all_integers) (c_is_integer : Cal P w K mg base 1 "is_integer" (spP K d_is_integer)) : Cal P w K mg base 2 "all_integers" (spP K d_all_integers) := by
  obtain ⟨a, fd, h1, F⟩ := h
  exact ⟨a, fd, _, h1, F.kp, F.binds (ps := ["present"]) fun _ _ _ _ _ _ us hl => match us, hl with | [_], _ => rfl, okP F sc_all_integers fun cdv A outer s0 H E hr =>
    zss_cons (zs_for PassesOwn.never rfl (zi_list (ze_var rfl (pv 0))) (zg_name (i := 1) sc_all_integers.nd rfl (Or.inl rfl)) (zss_fg (vs := [1]) (zss_one (zs_if (zt_not (zt_truth (ze_call (c_is_integer.mono (by decide)) hr (za_cons (ze_var rfl (pv 1)) (za_nil))))) (zss_one (zs_ret (ze_bl))) (zss_nil))))) (zss_one (zs_ret (ze_bl)))⟩
abbrev st_deltas_body : Stmt := topS 15
theorem sc_deltas_body : FnScope ["present", "least", "width", "bits", "k"] ["present"] (defScope st_deltas_body) := ⟨rfl, rfl, rfl, by decide +kernel, rfl, by decide +kernel, by decide +kernel⟩
def b_deltas_body : SM := zSeq (zIfS 5 (zOrT (zTst (zOp eqD (zCallS lenD (zCons (zVar 0) (zNil))) (zC (.int 0)))) (zNotT (zTru (zCall d_all_integers (zCons (zVar 0) (zNil)))))) (zRet (zC .non)) (zNx)) (zSeq (zAsg 5 (zCall d_packed_parts (zCons (zLc (ziR1 (zCons (zOp subD (zCallS lenD (zCons (zVar 0) (zNil))) (zC (.int 1))) (zNil))) (gN 4) (zYes) (zOp subD (zIx (zVar 0) (zOp addS (zVar 4) (zC (.int 1)))) (zIx (zVar 0) (zVar 4))) [4]) (zNil))) (gT 3 (gCons' (gN 1) (gCons' (gN 2) (gCons' (gN 3) (gNil')))))) (zRet (zTup (zCons (zC (.str [100, 101, 108, 116, 97, 115])) (zCons (zIx (zVar 0) (zC (.int 0))) (zCons (zVar 1) (zCons (zCallS lenD (zCons (zVar 0) (zNil))) (zCons (zVar 2) (zCons (zVar 3) (zNil))))))))))
def d_deltas_body : List D → Option FR := runP 5 1 b_deltas_body
set_option maxHeartbeats 4000000 in
theorem ok_deltas_body (h : DefAt K mg "deltas_body" st_deltas_body) (m_len : mg "len" = none) (m_range : mg "range" = none) (c_packed_parts : Cal P w K mg base 2 "packed_parts" (spP K d_packed_parts)) (c_all_integers : Cal P w K mg base 2 "all_integers" (spP K d_all_integers)) : Cal P w K mg base 3 "deltas_body" (spP K d_deltas_body) := by
  obtain ⟨a, fd, h1, F⟩ := h
  exact ⟨a, fd, _, h1, F.kp, F.binds (ps := ["present"]) fun _ _ _ _ _ _ us hl => match us, hl with | [_], _ => rfl, okP F sc_deltas_body fun cdv A outer s0 H E hr =>
    zss_cons (zs_if (zt_w (zw_or (zt_cmp (o_eq hr) s_eq (ze_callB call_len s_len (by rfl) m_len PySem.boot_len (za_cons (ze_var rfl (pv 0)) (za_nil))) (ze_int) (nomark _)) (zw_or1 (zt_not (zt_truth (ze_call (c_all_integers.mono (by decide)) hr (za_cons (ze_var rfl (pv 0)) (za_nil)))))))) (zss_one (zs_ret (ze_non))) (zss_nil)) (zss_cons (zs_asg (ze_call (c_packed_parts.mono (by decide)) hr (za_cons (ze_lc (own := [("k", 4)]) rfl sc_deltas_body.nd (zi_range1 (by rfl) m_range (za_cons (ze_op op_sub s_sub (ze_callB call_len s_len (by rfl) m_len PySem.boot_len (za_cons (ze_var rfl (pv 0)) (za_nil))) (ze_int)) (za_nil))) (blkOk_by (N := ["present", "least", "width", "bits", "k"]) (own := [("k", 4)]) (sc := defScope st_deltas_body) (by decide +kernel)) (fun _ _ _ _ _ => zgw_name (i := 4) sc_deltas_body.nd rfl (Or.inl rfl) (by decide)) (fun _ _ _ _ _ => zts_nil) (fun _ _ _ _ _ => ze_op op_sub s_sub (ze_ix (ze_var rfl (pv 0)) (ze_op o_add s_add (ze_var rfl (pv 4)) (ze_int))) (ze_ix (ze_var rfl (pv 0)) (ze_var rfl (pv 4))))) (za_nil))) (zg_tup rfl (zgs_cons (zg_name (i := 1) sc_deltas_body.nd rfl (Or.inl rfl)) (zgs_cons (zg_name (i := 2) sc_deltas_body.nd rfl (Or.inl rfl)) (zgs_cons (zg_name (i := 3) sc_deltas_body.nd rfl (Or.inl rfl)) (zgs_nil)))))) (zss_one (zs_ret (ze_tup (za_cons (ze_str) (za_cons (ze_ix (ze_var rfl (pv 0)) (ze_int)) (za_cons (ze_var rfl (pv 1)) (za_cons (ze_callB call_len s_len (by rfl) m_len PySem.boot_len (za_cons (ze_var rfl (pv 0)) (za_nil))) (za_cons (ze_var rfl (pv 2)) (za_cons (ze_var rfl (pv 3)) (za_nil)))))))))))⟩
abbrev st_rank : Stmt := topS 6
theorem sc_rank : FnScope ["value"] ["value"] (defScope st_rank) := ⟨rfl, rfl, rfl, by decide +kernel, rfl, by decide +kernel, by decide +kernel⟩
def b_rank : SM := zSeq (zIfS 1 (zTst (zOp isD (zVar 0) (zC .non))) (zRet (zTup (zCons (zC (.int 0)) (zCons (zC (.int 0)) (zNil))))) (zNx)) (zSeq (zIfS 1 (zTru (zCallS isiD (zCons (zVar 0) (zCons (zC (.raw (.ty "bool"))) (zNil))))) (zRet (zTup (zCons (zC (.int 1)) (zCons (zCallS intU (zCons (zVar 0) (zNil))) (zNil))))) (zNx)) (zSeq (zIfS 1 (zTru (zCallS isiD (zCons (zVar 0) (zCons (zC (.raw (.ty "int"))) (zNil))))) (zRet (zTup (zCons (zC (.int 2)) (zCons (zVar 0) (zNil))))) (zNx)) (zRet (zTup (zCons (zC (.int 3)) (zCons (zVar 0) (zNil)))))))
def d_rank : List D → Option FR := runP 1 1 b_rank
set_option maxHeartbeats 4000000 in
theorem ok_rank (h : DefAt K mg "rank" st_rank) (m_bool : mg "bool" = none) (m_int : mg "int" = none) (m_isinstance : mg "isinstance" = none) : Cal P w K mg base 1 "rank" (spP K d_rank) := by
  obtain ⟨a, fd, h1, F⟩ := h
  exact ⟨a, fd, _, h1, F.kp, F.binds (ps := ["value"]) fun _ _ _ _ _ _ us hl => match us, hl with | [_], _ => rfl, okP F sc_rank fun cdv A outer s0 H E hr =>
    zss_cons (zs_if (zt_cmp o_is s_is (ze_var rfl (pv 0)) (ze_non) (nomark _)) (zss_one (zs_ret (ze_tup (za_cons (ze_int) (za_cons (ze_int) (za_nil)))))) (zss_nil)) (zss_cons (zs_if (zt_truth (ze_callB call_isiU s_isi (by rfl) m_isinstance (by decide +kernel) (za_cons (ze_var rfl (pv 0)) (za_cons (ze_bltn (by rfl) m_bool (by decide +kernel) rfl) (za_nil))))) (zss_one (zs_ret (ze_tup (za_cons (ze_int) (za_cons (ze_callTy call_intU s_intU (by rfl) m_int (by decide +kernel) (za_cons (ze_var rfl (pv 0)) (za_nil))) (za_nil)))))) (zss_nil)) (zss_cons (zs_if (zt_truth (ze_callB call_isiU s_isi (by rfl) m_isinstance (by decide +kernel) (za_cons (ze_var rfl (pv 0)) (za_cons (ze_bltn (by rfl) m_int (by decide +kernel) rfl) (za_nil))))) (zss_one (zs_ret (ze_tup (za_cons (ze_int) (za_cons (ze_var rfl (pv 0)) (za_nil)))))) (zss_nil)) (zss_one (zs_ret (ze_tup (za_cons (ze_int) (za_cons (ze_var rfl (pv 0)) (za_nil))))))))⟩
abbrev st_constant_body : Stmt := topS 9
theorem sc_constant_body : FnScope ["present", "value"] ["present"] (defScope st_constant_body) := ⟨rfl, rfl, rfl, by decide +kernel, rfl, by decide +kernel, by decide +kernel⟩
def lb_constant_body_1 : SM := zFg [1] (zIfS 2 (zTst (zOp neqD (zCall d_rank (zCons (zVar 1) (zNil))) (zCall d_rank (zCons (zIx (zVar 0) (zC (.int 0))) (zNil))))) (zRet (zC .non)) (zNx))
def b_constant_body : SM := zSeq (zIfS 2 (zTst (zOp eqD (zCallS lenD (zCons (zVar 0) (zNil))) (zC (.int 0)))) (zRet (zC .non)) (zNx)) (zSeq (zFor 2 (ziL 2 (zVar 0)) (gN 1) (lb_constant_body_1)) (zRet (zTup (zCons (zC (.str [99, 111, 110, 115, 116, 97, 110, 116])) (zCons (zIx (zVar 0) (zC (.int 0))) (zCons (zCallS lenD (zCons (zVar 0) (zNil))) (zNil)))))))
def d_constant_body : List D → Option FR := runP 2 1 b_constant_body
set_option maxHeartbeats 4000000 in
theorem ok_constant_body (h : DefAt K mg "constant_body" st_constant_body) (m_len : mg "len" = none) (c_rank : Cal P w K mg base 1 "rank" (spP K d_rank)) : Cal P w K mg base 2 "constant_body" (spP K d_constant_body) := by
  obtain ⟨a, fd, h1, F⟩ := h
  exact ⟨a, fd, _, h1, F.kp, F.binds (ps := ["present"]) fun _ _ _ _ _ _ us hl => match us, hl with | [_], _ => rfl, okP F sc_constant_body fun cdv A outer s0 H E hr =>
    zss_cons (zs_if (zt_cmp (o_eq hr) s_eq (ze_callB call_len s_len (by rfl) m_len PySem.boot_len (za_cons (ze_var rfl (pv 0)) (za_nil))) (ze_int) (nomark _)) (zss_one (zs_ret (ze_non))) (zss_nil)) (zss_cons (zs_for PassesOwn.never rfl (zi_list (ze_var rfl (pv 0))) (zg_name (i := 1) sc_constant_body.nd rfl (Or.inl rfl)) (zss_fg (vs := [1]) (zss_one (zs_if (zt_cmp (o_ne hr) s_ne (ze_call (c_rank.mono (by decide)) hr (za_cons (ze_var rfl (pv 1)) (za_nil))) (ze_call (c_rank.mono (by decide)) hr (za_cons (ze_ix (ze_var rfl (pv 0)) (ze_int)) (za_nil))) (nomark _)) (zss_one (zs_ret (ze_non))) (zss_nil))))) (zss_one (zs_ret (ze_tup (za_cons (ze_str) (za_cons (ze_ix (ze_var rfl (pv 0)) (ze_int)) (za_cons (ze_callB call_len s_len (by rfl) m_len PySem.boot_len (za_cons (ze_var rfl (pv 0)) (za_nil))) (za_nil))))))))⟩
abbrev st_runs_body : Stmt := topS 10
theorem sc_runs_body : FnScope ["present", "pairs", "value"] ["present"] (defScope st_runs_body) := ⟨rfl, rfl, rfl, by decide +kernel, rfl, by decide +kernel, by decide +kernel⟩
def lb_runs_body_1 : SM := zFg [2] (zIfS 3 (zAndT (zTst (zOp gtD (zCallS lenD (zCons (zVar 1) (zNil))) (zC (.int 0)))) (zTst (zOp eqD (zCall d_rank (zCons (zIx (zIx (zVar 1) (zUn negD (zC (.int 1)))) (zC (.int 0))) (zNil))) (zCall d_rank (zCons (zVar 2) (zNil)))))) (zSto 3 (zVar 1) (zUn negD (zC (.int 1))) (zTup (zCons (zIx (zIx (zVar 1) (zUn negD (zC (.int 1)))) (zC (.int 0))) (zCons (zOp addS (zIx (zIx (zVar 1) (zUn negD (zC (.int 1)))) (zC (.int 1))) (zC (.int 1))) (zNil))))) (zApp 3 (zVar 1) (zTup (zCons (zVar 2) (zCons (zC (.int 1)) (zNil))))))
def b_runs_body : SM := zSeq (zSet 3 1 (zLst (zNil))) (zSeq (zFor 3 (ziL 3 (zVar 0)) (gN 2) (lb_runs_body_1)) (zRet (zTup (zCons (zC (.str [114, 117, 110, 115])) (zCons (z_tuple (zCons (zVar 1) (zNil))) (zNil))))))
def d_runs_body : List D → Option FR := runP 3 1 b_runs_body
set_option maxHeartbeats 4000000 in
theorem ok_runs_body (h : DefAt K mg "runs_body" st_runs_body) (m_len : mg "len" = none) (m_tuple : mg "tuple" = none) (c_rank : Cal P w K mg base 1 "rank" (spP K d_rank)) : Cal P w K mg base 2 "runs_body" (spP K d_runs_body) := by
  obtain ⟨a, fd, h1, F⟩ := h
  exact ⟨a, fd, _, h1, F.kp, F.binds (ps := ["present"]) fun _ _ _ _ _ _ us hl => match us, hl with | [_], _ => rfl, okP F sc_runs_body fun cdv A outer s0 H E hr =>
    zss_cons (zs_set (i := 1) sc_runs_body.nd rfl (Or.inl rfl) (ze_lst (za_nil))) (zss_cons (zs_for PassesOwn.never rfl (zi_list (ze_var rfl (pv 0))) (zg_name (i := 2) sc_runs_body.nd rfl (Or.inl rfl)) (zss_fg (vs := [2]) (zss_one (zs_if (zt_w (zw_and (zt_cmp o_gt s_gt (ze_callB call_len s_len (by rfl) m_len PySem.boot_len (za_cons (ze_var rfl (pv 1)) (za_nil))) (ze_int) (nomark _)) (zw_and1 (zt_cmp (o_eq hr) s_eq (ze_call (c_rank.mono (by decide)) hr (za_cons (ze_ix (ze_ix (ze_var rfl (pv 1)) (ze_un un_neg s_neg (ze_int))) (ze_int)) (za_nil))) (ze_call (c_rank.mono (by decide)) hr (za_cons (ze_var rfl (pv 2)) (za_nil))) (nomark _))))) (zss_one (zs_sto (ze_tup (za_cons (ze_ix (ze_ix (ze_var rfl (pv 1)) (ze_un un_neg s_neg (ze_int))) (ze_int)) (za_cons (ze_op o_add s_add (ze_ix (ze_ix (ze_var rfl (pv 1)) (ze_un un_neg s_neg (ze_int))) (ze_int)) (ze_int)) (za_nil)))) (ze_var rfl (pv 1)) (ze_un un_neg s_neg (ze_int)))) (zss_one (zs_app (ze_var rfl (pv 1)) (ze_tup (za_cons (ze_var rfl (pv 2)) (za_cons (ze_int) (za_nil)))))))))) (zss_one (zs_ret (ze_tup (za_cons (ze_str) (za_cons (ze_tuple hr (by rfl) m_tuple (za_cons (ze_var rfl (pv 1)) (za_nil))) (za_nil)))))))⟩
abbrev st_dictionary_body : Stmt := topS 11
theorem sc_dictionary_body : FnScope ["present", "words", "places", "indexes", "value", "key", "width"] ["present"] (defScope st_dictionary_body) := ⟨rfl, rfl, rfl, by decide +kernel, rfl, by decide +kernel, by decide +kernel⟩
def d_dictionary_body : List D → Option FR := ZN.dictD [100, 105, 99, 116, 105, 111, 110, 97, 114, 121] d_rank d_width_for d_pack
set_option maxHeartbeats 4000000 in
theorem ok_dictionary_body (h : DefAt K mg "dictionary_body" st_dictionary_body) (m_len : mg "len" = none) (m_max : mg "max" = none) (m_tuple : mg "tuple" = none) (c_width_for : Cal P w K mg base 1 "width_for" (spP K d_width_for)) (c_rank : Cal P w K mg base 1 "rank" (spP K d_rank)) (c_pack : Cal P w K mg base 1 "pack" (spP K d_pack)) : Cal P w K mg base 2 "dictionary_body" (spP K d_dictionary_body) := by
  obtain ⟨a, fd, h1, F⟩ := h
  exact ⟨a, fd, _, h1, F.kp, F.binds (ps := ["present"]) fun _ _ _ _ _ _ us hl => match us, hl with | [_], _ => rfl, ZN.okDict F sc_dictionary_body rfl rfl fun cdv A outer s0 H E hr => by
    obtain ⟨fa, fd', ps', c1, c2, c3, c4⟩ := c_rank
    obtain ⟨ga, gd', qs', e1, e2, e3, e4⟩ := c_width_for
    obtain ⟨ha, hd', rs', f1, f2, f3, f4⟩ := c_pack
    exact pss_cons (ps_set sc_dictionary_body.nd rfl (Or.inl rfl) (pe_lst pa_nil)) (pss_cons (ps_set sc_dictionary_body.nd rfl (Or.inl rfl) ZN.pe_ndnew) (pss_cons (ps_set sc_dictionary_body.nd rfl (Or.inl rfl) (pe_lst pa_nil)) (pss_cons (ps_for PassesOwn.never rfl (pi_list (pv 0)) (pg_name sc_dictionary_body.nd rfl (Or.inl rfl)) (pss_cons (ps_set sc_dictionary_body.nd rfl (Or.inl rfl) (pe_call c4 (hr.mono (by decide)) (by rfl) c1 c2 c3 .nil pass0 (pa_cons (pv 4) pa_nil))) (pss_cons (ps_if (pt_cmpR (ZN.or_ndnotin hr.units) (pv 5) (pv 2) (by rfl)) (pss_cons (ZN.ps_ndput hr.units (pv 2) (pv 5) (pe_callB call_len (by rfl) m_len (by decide +kernel) (pa_cons (pv 1) pa_nil))) (pss_one (ps_expr (pe_bm PySem.F.plainAttrs_list PySem.F.slot_list_append PySem.F.type_list_append mt_append (pv 1) (pa_cons (pv 4) pa_nil))))) pss_nil) (pss_one (ps_expr (pe_bm PySem.F.plainAttrs_list PySem.F.slot_list_append PySem.F.type_list_append mt_append (pv 3) (pa_cons (ZN.pe_ndix hr.units (pv 2) (pv 5)) pa_nil))))))) (pss_cons (ps_set sc_dictionary_body.nd rfl (Or.inl rfl) (pe_call e4 (hr.mono (by decide)) (by rfl) e1 e2 e3 .nil pass0 (pa_cons (pe_callB (call_max2 rfl) (by rfl) m_max (by decide +kernel) (pa_cons pe_int (pa_cons (pe_op op_sub (pe_callB call_len (by rfl) m_len (by decide +kernel) (pa_cons (pv 1) pa_nil)) pe_int) pa_nil))) pa_nil))) (pss_one (ps_ret (pe_tup (pa_cons pe_str (pa_cons (pe_tupleOf (by rfl) m_tuple (pv 1)) (pa_cons (pe_callB call_len (by rfl) m_len (by decide +kernel) (pa_cons (pv 0) pa_nil)) (pa_cons (pv 6) (pa_cons (pe_call f4 (hr.mono (by decide)) (by rfl) f1 f2 f3 .nil pass0 (pa_cons (pv 3) (pa_cons (pv 6) pa_nil))) pa_nil))))))))))))⟩
abbrev st_packed_body : Stmt := topS 14
theorem sc_packed_body : FnScope ["present", "least", "width", "bits"] ["present"] (defScope st_packed_body) := ⟨rfl, rfl, rfl, by decide +kernel, rfl, by decide +kernel, by decide +kernel⟩
def b_packed_body : SM := zSeq (zIfS 4 (zNotT (zTru (zCall d_all_integers (zCons (zVar 0) (zNil))))) (zRet (zC .non)) (zNx)) (zSeq (zAsg 4 (zCall d_packed_parts (zCons (zVar 0) (zNil))) (gT 3 (gCons' (gN 1) (gCons' (gN 2) (gCons' (gN 3) (gNil')))))) (zRet (zTup (zCons (zC (.str [112, 97, 99, 107, 101, 100])) (zCons (zVar 1) (zCons (zCallS lenD (zCons (zVar 0) (zNil))) (zCons (zVar 2) (zCons (zVar 3) (zNil)))))))))
def d_packed_body : List D → Option FR := runP 4 1 b_packed_body
set_option maxHeartbeats 4000000 in
theorem ok_packed_body (h : DefAt K mg "packed_body" st_packed_body) (m_len : mg "len" = none) (c_packed_parts : Cal P w K mg base 2 "packed_parts" (spP K d_packed_parts)) (c_all_integers : Cal P w K mg base 2 "all_integers" (spP K d_all_integers)) : Cal P w K mg base 3 "packed_body" (spP K d_packed_body) := by
  obtain ⟨a, fd, h1, F⟩ := h
  exact ⟨a, fd, _, h1, F.kp, F.binds (ps := ["present"]) fun _ _ _ _ _ _ us hl => match us, hl with | [_], _ => rfl, okP F sc_packed_body fun cdv A outer s0 H E hr =>
    zss_cons (zs_if (zt_not (zt_truth (ze_call (c_all_integers.mono (by decide)) hr (za_cons (ze_var rfl (pv 0)) (za_nil))))) (zss_one (zs_ret (ze_non))) (zss_nil)) (zss_cons (zs_asg (ze_call (c_packed_parts.mono (by decide)) hr (za_cons (ze_var rfl (pv 0)) (za_nil))) (zg_tup rfl (zgs_cons (zg_name (i := 1) sc_packed_body.nd rfl (Or.inl rfl)) (zgs_cons (zg_name (i := 2) sc_packed_body.nd rfl (Or.inl rfl)) (zgs_cons (zg_name (i := 3) sc_packed_body.nd rfl (Or.inl rfl)) (zgs_nil)))))) (zss_one (zs_ret (ze_tup (za_cons (ze_str) (za_cons (ze_var rfl (pv 1)) (za_cons (ze_callB call_len s_len (by rfl) m_len PySem.boot_len (za_cons (ze_var rfl (pv 0)) (za_nil))) (za_cons (ze_var rfl (pv 2)) (za_cons (ze_var rfl (pv 3)) (za_nil))))))))))⟩
abbrev st_body_of : Stmt := topS 16
theorem sc_body_of : FnScope ["form", "present"] ["form", "present"] (defScope st_body_of) := ⟨rfl, rfl, rfl, by decide +kernel, rfl, by decide +kernel, by decide +kernel⟩
def b_body_of : SM := zSeq (zIfS 2 (zTst (zOp eqD (zVar 0) (zC (.str [112, 108, 97, 105, 110])))) (zRet (zTup (zCons (zC (.str [112, 108, 97, 105, 110])) (zCons (z_tuple (zCons (zVar 1) (zNil))) (zNil))))) (zNx)) (zSeq (zIfS 2 (zTst (zOp eqD (zVar 0) (zC (.str [99, 111, 110, 115, 116, 97, 110, 116])))) (zRet (zCall d_constant_body (zCons (zVar 1) (zNil)))) (zNx)) (zSeq (zIfS 2 (zTst (zOp eqD (zVar 0) (zC (.str [114, 117, 110, 115])))) (zRet (zCall d_runs_body (zCons (zVar 1) (zNil)))) (zNx)) (zSeq (zIfS 2 (zTst (zOp eqD (zVar 0) (zC (.str [100, 105, 99, 116, 105, 111, 110, 97, 114, 121])))) (zRet (zCall d_dictionary_body (zCons (zVar 1) (zNil)))) (zNx)) (zSeq (zIfS 2 (zTst (zOp eqD (zVar 0) (zC (.str [112, 97, 99, 107, 101, 100])))) (zRet (zCall d_packed_body (zCons (zVar 1) (zNil)))) (zNx)) (zRet (zCall d_deltas_body (zCons (zVar 1) (zNil))))))))
def d_body_of : List D → Option FR := runP 2 2 b_body_of
set_option maxHeartbeats 4000000 in
theorem ok_body_of (h : DefAt K mg "body_of" st_body_of) (m_tuple : mg "tuple" = none) (c_deltas_body : Cal P w K mg base 3 "deltas_body" (spP K d_deltas_body)) (c_constant_body : Cal P w K mg base 2 "constant_body" (spP K d_constant_body)) (c_runs_body : Cal P w K mg base 2 "runs_body" (spP K d_runs_body)) (c_dictionary_body : Cal P w K mg base 2 "dictionary_body" (spP K d_dictionary_body)) (c_packed_body : Cal P w K mg base 3 "packed_body" (spP K d_packed_body)) : Cal P w K mg base 4 "body_of" (spP K d_body_of) := by
  obtain ⟨a, fd, h1, F⟩ := h
  exact ⟨a, fd, _, h1, F.kp, F.binds (ps := ["form", "present"]) fun _ _ _ _ _ _ us hl => match us, hl with | [_, _], _ => rfl, okP F sc_body_of fun cdv A outer s0 H E hr =>
    zss_cons (zs_if (zt_cmp (o_eq hr) s_eq (ze_var rfl (pv 0)) (ze_str) (nomark _)) (zss_one (zs_ret (ze_tup (za_cons (ze_str) (za_cons (ze_tuple hr (by rfl) m_tuple (za_cons (ze_var rfl (pv 1)) (za_nil))) (za_nil)))))) (zss_nil)) (zss_cons (zs_if (zt_cmp (o_eq hr) s_eq (ze_var rfl (pv 0)) (ze_str) (nomark _)) (zss_one (zs_ret (ze_call (c_constant_body.mono (by decide)) hr (za_cons (ze_var rfl (pv 1)) (za_nil))))) (zss_nil)) (zss_cons (zs_if (zt_cmp (o_eq hr) s_eq (ze_var rfl (pv 0)) (ze_str) (nomark _)) (zss_one (zs_ret (ze_call (c_runs_body.mono (by decide)) hr (za_cons (ze_var rfl (pv 1)) (za_nil))))) (zss_nil)) (zss_cons (zs_if (zt_cmp (o_eq hr) s_eq (ze_var rfl (pv 0)) (ze_str) (nomark _)) (zss_one (zs_ret (ze_call (c_dictionary_body.mono (by decide)) hr (za_cons (ze_var rfl (pv 1)) (za_nil))))) (zss_nil)) (zss_cons (zs_if (zt_cmp (o_eq hr) s_eq (ze_var rfl (pv 0)) (ze_str) (nomark _)) (zss_one (zs_ret (ze_call (c_packed_body.mono (by decide)) hr (za_cons (ze_var rfl (pv 1)) (za_nil))))) (zss_nil)) (zss_one (zs_ret (ze_call (c_deltas_body.mono (by decide)) hr (za_cons (ze_var rfl (pv 1)) (za_nil)))))))))⟩
abbrev st_encode_as : Stmt := topS 21
theorem sc_encode_as : FnScope ["form", "column", "body", "mask", "value"] ["form", "column"] (defScope st_encode_as) := ⟨rfl, rfl, rfl, by decide +kernel, rfl, by decide +kernel, by decide +kernel⟩
def b_encode_as : SM := zSeq (zSet 5 2 (zCall d_body_of (zCons (zVar 0) (zCons (zLc (ziL 5 (zVar 1)) (gN 4) (zTst (zOp isntD (zVar 4) (zC .non))) (zVar 4) [4]) (zNil))))) (zSeq (zIfS 5 (zTst (zOp isD (zVar 2) (zC .non))) (zRet (zC .non)) (zNx)) (zSeq (zSet 5 3 (zLc (ziL 5 (zVar 1)) (gN 4) (zYes) (zOp isD (zVar 4) (zC .non)) [4])) (zSeq (zIfS 5 (zNotT (zTru (zCallS anyL (zCons (zVar 3) (zNil))))) (zSet 5 3 (zC .non)) (zNx)) (zRet (zMake "Encoded" fl_Encoded i_Encoded (zCons (zCallS lenD (zCons (zVar 1) (zNil))) (zCons (zVar 3) (zCons (zVar 2) (zNil)))))))))
def d_encode_as : List D → Option FR := runP 5 2 b_encode_as
set_option maxHeartbeats 4000000 in
theorem ok_encode_as (h : DefAt K mg "encode_as" st_encode_as) (m_any : mg "any" = none) (m_len : mg "len" = none) (c_Encoded : ClsK P w K mg base 1 "Encoded" fl_Encoded i_Encoded) (c_body_of : Cal P w K mg base 4 "body_of" (spP K d_body_of)) : Cal P w K mg base 5 "encode_as" (spP K d_encode_as) := by
  obtain ⟨a, fd, h1, F⟩ := h
  exact ⟨a, fd, _, h1, F.kp, F.binds (ps := ["form", "column"]) fun _ _ _ _ _ _ us hl => match us, hl with | [_, _], _ => rfl, okP F sc_encode_as fun cdv A outer s0 H E hr =>
    zss_cons (zs_set (i := 2) sc_encode_as.nd rfl (Or.inl rfl) (ze_call (c_body_of.mono (by decide)) hr (za_cons (ze_var rfl (pv 0)) (za_cons (ze_lc (own := [("value", 4)]) rfl sc_encode_as.nd (zi_list (ze_var rfl (pv 1))) (blkOk_by (N := ["form", "column", "body", "mask", "value"]) (own := [("value", 4)]) (sc := defScope st_encode_as) (by decide +kernel)) (fun _ _ _ _ _ => zgw_name (i := 4) sc_encode_as.nd rfl (Or.inl rfl) (by decide)) (fun _ _ _ _ _ => zts_one (zt_cmp o_isnt s_isnt (ze_var rfl (pv 4)) (ze_non) (nomark _))) (fun _ _ _ _ _ => ze_var rfl (pv 4))) (za_nil))))) (zss_cons (zs_if (zt_cmp o_is s_is (ze_var rfl (pv 2)) (ze_non) (nomark _)) (zss_one (zs_ret (ze_non))) (zss_nil)) (zss_cons (zs_setLc (i := 3) rfl rfl (sw_true rfl rfl rfl (by decide +kernel)) (own := [("value", 4)]) rfl sc_encode_as.nd (zi_list (ze_var rfl (pv 1))) (blkOk_by (N := ["form", "column", "body", "mask", "value"]) (own := [("value", 4)]) (sc := defScope st_encode_as) (by decide +kernel)) (fun _ _ _ _ _ => zgw_name (i := 4) sc_encode_as.nd rfl (Or.inl rfl) (by decide)) (fun _ _ _ _ _ => zts_nil) (fun _ _ _ _ _ => ze_cmp o_is s_is (ze_var rfl (pv 4)) (ze_non) (nomark _))) (zss_cons (zs_if (zt_not (zt_truth (ze_callB (cr_any rfl) s_anyL (by rfl) m_any (by decide +kernel) (za_cons (ze_var rfl (pv 3)) (za_nil))))) (zss_one (zs_set (i := 3) sc_encode_as.nd rfl (Or.inl rfl) (ze_non))) (zss_nil)) (zss_one (zs_ret (ze_make (c_Encoded.mono (by decide)) hr (za_cons (ze_callB call_len s_len (by rfl) m_len PySem.boot_len (za_cons (ze_var rfl (pv 1)) (za_nil))) (za_cons (ze_var rfl (pv 3)) (za_cons (ze_var rfl (pv 2)) (za_nil))))))))))⟩
abbrev st__law_rank : Stmt := topS 27
theorem sc__law_rank : FnScope ["_law_value_here"] ["_law_value_here"] (defScope st__law_rank) := ⟨rfl, rfl, rfl, by decide +kernel, rfl, by decide +kernel, by decide +kernel⟩
def b__law_rank : SM := zSeq (zIfS 1 (zTst (zOp isD (zVar 0) (zC .non))) (zRet (zTup (zCons (zC (.int 0)) (zCons (zC (.int 0)) (zNil))))) (zNx)) (zSeq (zIfS 1 (zTru (zCallS isiD (zCons (zVar 0) (zCons (zC (.raw (.ty "bool"))) (zNil))))) (zRet (zTup (zCons (zC (.int 1)) (zCons (zCallS intU (zCons (zVar 0) (zNil))) (zNil))))) (zNx)) (zSeq (zIfS 1 (zTru (zCallS isiD (zCons (zVar 0) (zCons (zC (.raw (.ty "int"))) (zNil))))) (zRet (zTup (zCons (zC (.int 2)) (zCons (zVar 0) (zNil))))) (zNx)) (zRet (zTup (zCons (zC (.int 3)) (zCons (zVar 0) (zNil)))))))
def d__law_rank : List D → Option FR := runP 1 1 b__law_rank
set_option maxHeartbeats 4000000 in
theorem ok__law_rank (h : DefAt K mg "_law_rank" st__law_rank) (m_bool : mg "bool" = none) (m_int : mg "int" = none) (m_isinstance : mg "isinstance" = none) : Cal P w K mg base 1 "_law_rank" (spP K d__law_rank) := by
  obtain ⟨a, fd, h1, F⟩ := h
  exact ⟨a, fd, _, h1, F.kp, F.binds (ps := ["_law_value_here"]) fun _ _ _ _ _ _ us hl => match us, hl with | [_], _ => rfl, okP F sc__law_rank fun cdv A outer s0 H E hr =>
    zss_cons (zs_if (zt_cmp o_is s_is (ze_var rfl (pv 0)) (ze_non) (nomark _)) (zss_one (zs_ret (ze_tup (za_cons (ze_int) (za_cons (ze_int) (za_nil)))))) (zss_nil)) (zss_cons (zs_if (zt_truth (ze_callB call_isiU s_isi (by rfl) m_isinstance (by decide +kernel) (za_cons (ze_var rfl (pv 0)) (za_cons (ze_bltn (by rfl) m_bool (by decide +kernel) rfl) (za_nil))))) (zss_one (zs_ret (ze_tup (za_cons (ze_int) (za_cons (ze_callTy call_intU s_intU (by rfl) m_int (by decide +kernel) (za_cons (ze_var rfl (pv 0)) (za_nil))) (za_nil)))))) (zss_nil)) (zss_cons (zs_if (zt_truth (ze_callB call_isiU s_isi (by rfl) m_isinstance (by decide +kernel) (za_cons (ze_var rfl (pv 0)) (za_cons (ze_bltn (by rfl) m_int (by decide +kernel) rfl) (za_nil))))) (zss_one (zs_ret (ze_tup (za_cons (ze_int) (za_cons (ze_var rfl (pv 0)) (za_nil)))))) (zss_nil)) (zss_one (zs_ret (ze_tup (za_cons (ze_int) (za_cons (ze_var rfl (pv 0)) (za_nil))))))))⟩
abbrev st__law_possible : Stmt := topS 31
theorem sc__law_possible : FnScope ["_law_form", "_law_present", "_law_integers", "_law_value_here", "_law_v"] ["_law_form", "_law_present"] (defScope st__law_possible) := ⟨rfl, rfl, rfl, by decide +kernel, rfl, by decide +kernel, by decide +kernel⟩
def b__law_possible : SM := zSeq (zIfS 5 (zTst (zOp eqD (zVar 0) (zC (.str [99, 111, 110, 115, 116, 97, 110, 116])))) (zRet (zAndV (zOp gtD (zCallS lenD (zCons (zVar 1) (zNil))) (zC (.int 0))) (zOp eqD (zCallS lenD (zCons (zLc (ziL 5 (zVar 1)) (gN 4) (zTst (zOp neqD (zCall d__law_rank (zCons (zVar 4) (zNil))) (zCall d__law_rank (zCons (zIx (zVar 1) (zC (.int 0))) (zNil))))) (zVar 4) [4]) (zNil))) (zC (.int 0))))) (zNx)) (zSeq (zIfS 5 (zTst (zOp inD (zVar 0) (zTup (zCons (zC (.str [112, 97, 99, 107, 101, 100])) (zCons (zC (.str [100, 101, 108, 116, 97, 115])) (zNil)))))) (zSeq (zSet 5 2 (zOp eqD (zCallS lenD (zCons (zLc (ziL 5 (zVar 1)) (gN 3) (zNotT (zTru (zCall d__law_is_integer (zCons (zVar 3) (zNil))))) (zVar 3) [3]) (zNil))) (zC (.int 0)))) (zRet (zAndV (zVar 2) (zOrV (zOp eqD (zVar 0) (zC (.str [112, 97, 99, 107, 101, 100]))) (zOp gtD (zCallS lenD (zCons (zVar 1) (zNil))) (zC (.int 0))))))) (zNx)) (zRet (zC (.bl true))))
def d__law_possible : List D → Option FR := runP 5 2 b__law_possible
set_option maxHeartbeats 4000000 in
theorem ok__law_possible (h : DefAt K mg "_law_possible" st__law_possible) (m_len : mg "len" = none) (c__law_is_integer : Cal P w K mg base 1 "_law_is_integer" (spP K d__law_is_integer)) (c__law_rank : Cal P w K mg base 1 "_law_rank" (spP K d__law_rank)) : Cal P w K mg base 2 "_law_possible" (spP K d__law_possible) := by
  obtain ⟨a, fd, h1, F⟩ := h
  exact ⟨a, fd, _, h1, F.kp, F.binds (ps := ["_law_form", "_law_present"]) fun _ _ _ _ _ _ us hl => match us, hl with | [_, _], _ => rfl, okP F sc__law_possible fun cdv A outer s0 H E hr =>
    zss_cons (zs_if (zt_cmp (o_eq hr) s_eq (ze_var rfl (pv 0)) (ze_str) (nomark _)) (zss_one (zs_ret (ze_and (ze_cmp o_gt s_gt (ze_callB call_len s_len (by rfl) m_len PySem.boot_len (za_cons (ze_var rfl (pv 1)) (za_nil))) (ze_int) (nomark _)) (ze_one (ze_cmp (o_eq hr) s_eq (ze_callB call_len s_len (by rfl) m_len PySem.boot_len (za_cons (ze_lc (own := [("_law_v", 4)]) rfl sc__law_possible.nd (zi_list (ze_var rfl (pv 1))) (blkOk_by (N := ["_law_form", "_law_present", "_law_integers", "_law_value_here", "_law_v"]) (own := [("_law_v", 4)]) (sc := defScope st__law_possible) (by decide +kernel)) (fun _ _ _ _ _ => zgw_name (i := 4) sc__law_possible.nd rfl (Or.inl rfl) (by decide)) (fun _ _ _ _ _ => zts_one (zt_cmp (o_ne hr) s_ne (ze_call (c__law_rank.mono (by decide)) hr (za_cons (ze_var rfl (pv 4)) (za_nil))) (ze_call (c__law_rank.mono (by decide)) hr (za_cons (ze_ix (ze_var rfl (pv 1)) (ze_int)) (za_nil))) (nomark _))) (fun _ _ _ _ _ => ze_var rfl (pv 4))) (za_nil))) (ze_int) (nomark _)))))) (zss_nil)) (zss_cons (zs_if (zt_cmp (o_in hr) s_in (ze_var rfl (pv 0)) (ze_tup (za_cons (ze_str) (za_cons (ze_str) (za_nil)))) (by rfl)) (zss_cons (zs_set (i := 2) sc__law_possible.nd rfl (Or.inl rfl) (ze_cmp (o_eq hr) s_eq (ze_callB call_len s_len (by rfl) m_len PySem.boot_len (za_cons (ze_lc (own := [("_law_value_here", 3)]) rfl sc__law_possible.nd (zi_list (ze_var rfl (pv 1))) (blkOk_by (N := ["_law_form", "_law_present", "_law_integers", "_law_value_here", "_law_v"]) (own := [("_law_value_here", 3)]) (sc := defScope st__law_possible) (by decide +kernel)) (fun _ _ _ _ _ => zgw_name (i := 3) sc__law_possible.nd rfl (Or.inl rfl) (by decide)) (fun _ _ _ _ _ => zts_one (zt_not (zt_truth (ze_call (c__law_is_integer.mono (by decide)) hr (za_cons (ze_var rfl (pv 3)) (za_nil)))))) (fun _ _ _ _ _ => ze_var rfl (pv 3))) (za_nil))) (ze_int) (nomark _))) (zss_one (zs_ret (ze_and (ze_var rfl (pv 2)) (ze_one (ze_or (ze_cmp (o_eq hr) s_eq (ze_var rfl (pv 0)) (ze_str) (nomark _)) (ze_one (ze_cmp o_gt s_gt (ze_callB call_len s_len (by rfl) m_len PySem.boot_len (za_cons (ze_var rfl (pv 1)) (za_nil))) (ze_int) (nomark _))))))))) (zss_nil)) (zss_one (zs_ret (ze_bl))))⟩
abbrev st__law_turned : Stmt := topS 32
theorem sc__law_turned : FnScope ["_law_values_here", "_law_turned_here", "_law_k"] ["_law_values_here"] (defScope st__law_turned) := ⟨rfl, rfl, rfl, by decide +kernel, rfl, by decide +kernel, by decide +kernel⟩
def lb__law_turned_1 : SM := zFg [2] (zSeq (zIfS 3 (zTst (zOp isD (zIx (zVar 0) (zVar 2)) (zC (.bl true)))) (zSeq (zSto 3 (zVar 1) (zVar 2) (zC (.int 1))) (zRet (zVar 1))) (zNx)) (zIfS 3 (zTst (zOp isD (zIx (zVar 0) (zVar 2)) (zC (.bl false)))) (zSeq (zSto 3 (zVar 1) (zVar 2) (zC (.int 0))) (zRet (zVar 1))) (zNx)))
def b__law_turned : SM := zSeq (zSet 3 1 (z_list (zCons (zVar 0) (zNil)))) (zSeq (zFor 3 (ziR1 (zCons (zCallS lenD (zCons (zVar 0) (zNil))) (zNil))) (gN 2) (lb__law_turned_1)) (zRet (zCatL (zVar 1) (zLst (zCons (zC .non) (zNil))))))
def d__law_turned : List D → Option FR := runP 3 1 b__law_turned
set_option maxHeartbeats 4000000 in
theorem ok__law_turned (h : DefAt K mg "_law_turned" st__law_turned) (m_len : mg "len" = none) (m_list : mg "list" = none) (m_range : mg "range" = none) : Cal P w K mg base 1 "_law_turned" (spP K d__law_turned) := by
  obtain ⟨a, fd, h1, F⟩ := h
  exact ⟨a, fd, _, h1, F.kp, F.binds (ps := ["_law_values_here"]) fun _ _ _ _ _ _ us hl => match us, hl with | [_], _ => rfl, okP F sc__law_turned fun cdv A outer s0 H E hr =>
    zss_cons (zs_set (i := 1) sc__law_turned.nd rfl (Or.inl rfl) (ze_list hr (by rfl) m_list (za_cons (ze_var rfl (pv 0)) (za_nil)))) (zss_cons (zs_for PassesOwn.never rfl (zi_range1 (by rfl) m_range (za_cons (ze_callB call_len s_len (by rfl) m_len PySem.boot_len (za_cons (ze_var rfl (pv 0)) (za_nil))) (za_nil))) (zg_name (i := 2) sc__law_turned.nd rfl (Or.inl rfl)) (zss_fg (vs := [2]) (zss_cons (zs_if (zt_cmp o_is s_is (ze_ix (ze_var rfl (pv 0)) (ze_var rfl (pv 2))) (ze_bl) (nomark _)) (zss_cons (zs_sto (ze_int) (ze_var rfl (pv 1)) (ze_var rfl (pv 2))) (zss_one (zs_ret (ze_var rfl (pv 1))))) (zss_nil)) (zss_one (zs_if (zt_cmp o_is s_is (ze_ix (ze_var rfl (pv 0)) (ze_var rfl (pv 2))) (ze_bl) (nomark _)) (zss_cons (zs_sto (ze_int) (ze_var rfl (pv 1)) (ze_var rfl (pv 2))) (zss_one (zs_ret (ze_var rfl (pv 1))))) (zss_nil)))))) (zss_one (zs_ret (ze_catL (ze_var rfl (pv 1)) (ze_lst (za_cons (ze_non) (za_nil)))))))⟩
abbrev st_added_up : Stmt := topS 17
theorem sc_added_up : FnScope ["first", "steps", "numbers", "step"] ["first", "steps"] (defScope st_added_up) := ⟨rfl, rfl, rfl, by decide +kernel, rfl, by decide +kernel, by decide +kernel⟩
def lb_added_up_1 : SM := zFg [3] (zApp 4 (zVar 2) (zOp addS (zIx (zVar 2) (zUn negD (zC (.int 1)))) (zVar 3)))
def b_added_up : SM := zSeq (zSet 4 2 (zLst (zCons (zVar 0) (zNil)))) (zSeq (zFor 4 (ziL 4 (zVar 1)) (gN 3) (lb_added_up_1)) (zRet (zVar 2)))
def d_added_up : List D → Option FR := runP 4 2 b_added_up
set_option maxHeartbeats 4000000 in
theorem ok_added_up (h : DefAt K mg "added_up" st_added_up) : Cal P w K mg base 1 "added_up" (spP K d_added_up) := by
  obtain ⟨a, fd, h1, F⟩ := h
  exact ⟨a, fd, _, h1, F.kp, F.binds (ps := ["first", "steps"]) fun _ _ _ _ _ _ us hl => match us, hl with | [_, _], _ => rfl, okP F sc_added_up fun cdv A outer s0 H E hr =>
    zss_cons (zs_set (i := 2) sc_added_up.nd rfl (Or.inl rfl) (ze_lst (za_cons (ze_var rfl (pv 0)) (za_nil)))) (zss_cons (zs_for PassesOwn.never rfl (zi_list (ze_var rfl (pv 1))) (zg_name (i := 3) sc_added_up.nd rfl (Or.inl rfl)) (zss_fg (vs := [3]) (zss_one (zs_app (ze_var rfl (pv 2)) (ze_op o_add s_add (ze_ix (ze_var rfl (pv 2)) (ze_un un_neg s_neg (ze_int))) (ze_var rfl (pv 3))))))) (zss_one (zs_ret (ze_var rfl (pv 2)))))⟩
abbrev st_unpack : Stmt := topS 3
theorem sc_unpack : FnScope ["bits", "width", "amount", "mask", "k"] ["bits", "width", "amount"] (defScope st_unpack) := ⟨rfl, rfl, rfl, by decide +kernel, rfl, by decide +kernel, by decide +kernel⟩
def b_unpack : SM := zSeq (zSet 5 3 (zOp subD (zOp shlD (zC (.int 1)) (zVar 1)) (zC (.int 1)))) (zRet (zLc (ziR1 (zCons (zVar 2) (zNil))) (gN 4) (zYes) (zOp andD (zOp shrD (zVar 0) (zOp mulD (zVar 1) (zVar 4))) (zVar 3)) [4]))
def d_unpack : List D → Option FR := runP 5 3 b_unpack
set_option maxHeartbeats 4000000 in
theorem ok_unpack (h : DefAt K mg "unpack" st_unpack) (m_range : mg "range" = none) : Cal P w K mg base 1 "unpack" (spP K d_unpack) := by
  obtain ⟨a, fd, h1, F⟩ := h
  exact ⟨a, fd, _, h1, F.kp, F.binds (ps := ["bits", "width", "amount"]) fun _ _ _ _ _ _ us hl => match us, hl with | [_, _, _], _ => rfl, okP F sc_unpack fun cdv A outer s0 H E hr =>
    zss_cons (zs_set (i := 3) sc_unpack.nd rfl (Or.inr rfl) (ze_op op_sub s_sub (ze_op o_shl s_shl (ze_int) (ze_var rfl (pv 1))) (ze_int))) (zss_one (zs_ret (ze_lc (own := [("k", 4)]) rfl sc_unpack.nd (zi_range1 (by rfl) m_range (za_cons (ze_var rfl (pv 2)) (za_nil))) (blkOk_by (N := ["bits", "width", "amount", "mask", "k"]) (own := [("k", 4)]) (sc := defScope st_unpack) (by decide +kernel)) (fun _ _ _ _ _ => zgw_name (i := 4) sc_unpack.nd rfl (Or.inl rfl) (by decide)) (fun _ _ _ _ _ => zts_nil) (fun _ _ _ _ _ => ze_op op_and s_and (ze_op op_shr s_shr (ze_var rfl (pv 0)) (ze_op o_mul s_mul (ze_var rfl (pv 1)) (ze_var rfl (pv 4)))) (ze_var rfl (pv 3))))))⟩
abbrev st_values_of : Stmt := topS 18
theorem sc_values_of : FnScope ["body", "form", "_", "value", "amount", "index", "number"] ["body"] (defScope st_values_of) := ⟨rfl, rfl, rfl, by decide +kernel, rfl, by decide +kernel, by decide +kernel⟩
def b_values_of : SM := zSeq (zSet 7 1 (zIx (zVar 0) (zC (.int 0)))) (zSeq (zIfS 7 (zTst (zOp eqD (zVar 1) (zC (.str [112, 108, 97, 105, 110])))) (zRet (z_list (zCons (zIx (zVar 0) (zC (.int 1))) (zNil)))) (zNx)) (zSeq (zIfS 7 (zTst (zOp eqD (zVar 1) (zC (.str [99, 111, 110, 115, 116, 97, 110, 116])))) (zRet (zLc (ziR1 (zCons (zIx (zVar 0) (zC (.int 2))) (zNil))) (gN 2) (zYes) (zIx (zVar 0) (zC (.int 1))) [2])) (zNx)) (zSeq (zIfS 7 (zTst (zOp eqD (zVar 1) (zC (.str [114, 117, 110, 115])))) (zRet (zLc2 (ziU 7 (zIx (zVar 0) (zC (.int 1)))) (gT 2 (gCons' (gN 3) (gCons' (gN 4) (gNil')))) (ziR1 (zCons (zVar 4) (zNil))) (gN 2) (zVar 3) [3, 4, 2] [2])) (zNx)) (zSeq (zIfS 7 (zTst (zOp eqD (zVar 1) (zC (.str [100, 105, 99, 116, 105, 111, 110, 97, 114, 121])))) (zRet (zLc (ziL 7 (zCall d_unpack (zCons (zIx (zVar 0) (zC (.int 4))) (zCons (zIx (zVar 0) (zC (.int 3))) (zCons (zIx (zVar 0) (zC (.int 2))) (zNil)))))) (gN 5) (zYes) (zIx (zIx (zVar 0) (zC (.int 1))) (zVar 5)) [5])) (zNx)) (zSeq (zIfS 7 (zTst (zOp eqD (zVar 1) (zC (.str [112, 97, 99, 107, 101, 100])))) (zRet (zLc (ziL 7 (zCall d_unpack (zCons (zIx (zVar 0) (zC (.int 4))) (zCons (zIx (zVar 0) (zC (.int 3))) (zCons (zIx (zVar 0) (zC (.int 2))) (zNil)))))) (gN 6) (zYes) (zOp addS (zIx (zVar 0) (zC (.int 1))) (zVar 6)) [6])) (zNx)) (zRet (zCall d_added_up (zCons (zIx (zVar 0) (zC (.int 1))) (zCons (zLc (ziL 7 (zCall d_unpack (zCons (zIx (zVar 0) (zC (.int 5))) (zCons (zIx (zVar 0) (zC (.int 4))) (zCons (zOp subD (zIx (zVar 0) (zC (.int 3))) (zC (.int 1))) (zNil)))))) (gN 6) (zYes) (zOp addS (zIx (zVar 0) (zC (.int 2))) (zVar 6)) [6]) (zNil))))))))))
def d_values_of : List D → Option FR := runP 7 1 b_values_of
set_option maxHeartbeats 4000000 in
theorem ok_values_of (h : DefAt K mg "values_of" st_values_of) (m_list : mg "list" = none) (m_range : mg "range" = none) (c_added_up : Cal P w K mg base 1 "added_up" (spP K d_added_up)) (c_unpack : Cal P w K mg base 1 "unpack" (spP K d_unpack)) : Cal P w K mg base 2 "values_of" (spP K d_values_of) := by
  obtain ⟨a, fd, h1, F⟩ := h
  exact ⟨a, fd, _, h1, F.kp, F.binds (ps := ["body"]) fun _ _ _ _ _ _ us hl => match us, hl with | [_], _ => rfl, okP F sc_values_of fun cdv A outer s0 H E hr =>
    zss_cons (zs_set (i := 1) sc_values_of.nd rfl (Or.inl rfl) (ze_ix (ze_var rfl (pv 0)) (ze_int))) (zss_cons (zs_if (zt_cmp (o_eq hr) s_eq (ze_var rfl (pv 1)) (ze_str) (nomark _)) (zss_one (zs_ret (ze_list hr (by rfl) m_list (za_cons (ze_ix (ze_var rfl (pv 0)) (ze_int)) (za_nil))))) (zss_nil)) (zss_cons (zs_if (zt_cmp (o_eq hr) s_eq (ze_var rfl (pv 1)) (ze_str) (nomark _)) (zss_one (zs_ret (ze_lc (own := [("_", 2)]) rfl sc_values_of.nd (zi_range1 (by rfl) m_range (za_cons (ze_ix (ze_var rfl (pv 0)) (ze_int)) (za_nil))) (blkOk_by (N := ["body", "form", "_", "value", "amount", "index", "number"]) (own := [("_", 2)]) (sc := defScope st_values_of) (by decide +kernel)) (fun _ _ _ _ _ => zgw_name (i := 2) sc_values_of.nd rfl (Or.inl rfl) (by decide)) (fun _ _ _ _ _ => zts_nil) (fun _ _ _ _ _ => ze_ix (ze_var rfl (pv 0)) (ze_int))))) (zss_nil)) (zss_cons (zs_if (zt_cmp (o_eq hr) s_eq (ze_var rfl (pv 1)) (ze_str) (nomark _)) (zss_one (zs_ret (ze_lc2 (own := [("value", 3), ("amount", 4), ("_", 2)]) (vs1 := [2]) rfl sc_values_of.nd (zi_any (ze_ix (ze_var rfl (pv 0)) (ze_int))) (blkOk_by (N := ["body", "form", "_", "value", "amount", "index", "number"]) (own := [("value", 3), ("amount", 4), ("_", 2)]) (sc := defScope st_values_of) (by decide +kernel)) (by decide) (fun _ _ _ _ _ => zgw_tup rfl (zgws_cons (zgw_name (i := 3) sc_values_of.nd rfl (Or.inl rfl) (by decide)) (zgws_cons (zgw_name (i := 4) sc_values_of.nd rfl (Or.inl rfl) (by decide)) (zgws_nil)))) (fun _ _ _ _ _ => zi_range1 (by rfl) m_range (za_cons (ze_var rfl (pv 4)) (za_nil))) (fun _ _ _ _ _ => zgw_name (i := 2) sc_values_of.nd rfl (Or.inl rfl) (by decide)) (fun _ _ _ _ _ => ze_var rfl (pv 3))))) (zss_nil)) (zss_cons (zs_if (zt_cmp (o_eq hr) s_eq (ze_var rfl (pv 1)) (ze_str) (nomark _)) (zss_one (zs_ret (ze_lc (own := [("index", 5)]) rfl sc_values_of.nd (zi_list (ze_call (c_unpack.mono (by decide)) hr (za_cons (ze_ix (ze_var rfl (pv 0)) (ze_int)) (za_cons (ze_ix (ze_var rfl (pv 0)) (ze_int)) (za_cons (ze_ix (ze_var rfl (pv 0)) (ze_int)) (za_nil)))))) (blkOk_by (N := ["body", "form", "_", "value", "amount", "index", "number"]) (own := [("index", 5)]) (sc := defScope st_values_of) (by decide +kernel)) (fun _ _ _ _ _ => zgw_name (i := 5) sc_values_of.nd rfl (Or.inl rfl) (by decide)) (fun _ _ _ _ _ => zts_nil) (fun _ _ _ _ _ => ze_ix (ze_ix (ze_var rfl (pv 0)) (ze_int)) (ze_var rfl (pv 5)))))) (zss_nil)) (zss_cons (zs_if (zt_cmp (o_eq hr) s_eq (ze_var rfl (pv 1)) (ze_str) (nomark _)) (zss_one (zs_ret (ze_lc (own := [("number", 6)]) rfl sc_values_of.nd (zi_list (ze_call (c_unpack.mono (by decide)) hr (za_cons (ze_ix (ze_var rfl (pv 0)) (ze_int)) (za_cons (ze_ix (ze_var rfl (pv 0)) (ze_int)) (za_cons (ze_ix (ze_var rfl (pv 0)) (ze_int)) (za_nil)))))) (blkOk_by (N := ["body", "form", "_", "value", "amount", "index", "number"]) (own := [("number", 6)]) (sc := defScope st_values_of) (by decide +kernel)) (fun _ _ _ _ _ => zgw_name (i := 6) sc_values_of.nd rfl (Or.inl rfl) (by decide)) (fun _ _ _ _ _ => zts_nil) (fun _ _ _ _ _ => ze_op o_add s_add (ze_ix (ze_var rfl (pv 0)) (ze_int)) (ze_var rfl (pv 6)))))) (zss_nil)) (zss_one (zs_ret (ze_call (c_added_up.mono (by decide)) hr (za_cons (ze_ix (ze_var rfl (pv 0)) (ze_int)) (za_cons (ze_lc (own := [("number", 6)]) rfl sc_values_of.nd (zi_list (ze_call (c_unpack.mono (by decide)) hr (za_cons (ze_ix (ze_var rfl (pv 0)) (ze_int)) (za_cons (ze_ix (ze_var rfl (pv 0)) (ze_int)) (za_cons (ze_op op_sub s_sub (ze_ix (ze_var rfl (pv 0)) (ze_int)) (ze_int)) (za_nil)))))) (blkOk_by (N := ["body", "form", "_", "value", "amount", "index", "number"]) (own := [("number", 6)]) (sc := defScope st_values_of) (by decide +kernel)) (fun _ _ _ _ _ => zgw_name (i := 6) sc_values_of.nd rfl (Or.inl rfl) (by decide)) (fun _ _ _ _ _ => zts_nil) (fun _ _ _ _ _ => ze_op o_add s_add (ze_ix (ze_var rfl (pv 0)) (ze_int)) (ze_var rfl (pv 6)))) (za_nil)))))))))))⟩
abbrev st_Encoded__decoded : Stmt := mtOf (topS 20) 2
theorem sc_Encoded__decoded : FnScope ["self", "present", "found", "at", "missing"] ["self"] (defScope st_Encoded__decoded) := ⟨rfl, rfl, rfl, by decide +kernel, rfl, by decide +kernel, by decide +kernel⟩
def lb_Encoded__decoded_1 : SM := zFg [4] (zIfS 5 (zTru (zVar 4)) (zApp 5 (zVar 2) (zC .non)) (zSeq (zApp 5 (zVar 2) (zIx (zVar 1) (zVar 3))) (zSet 5 3 (zOp addS (zVar 3) (zC (.int 1))))))
def b_Encoded__decoded : SM := zSeq (zSet 5 1 (zCall d_values_of (zCons (zFld "Encoded" fl_Encoded 2 (zVar 0)) (zNil)))) (zSeq (zIfS 5 (zTst (zOp isD (zFld "Encoded" fl_Encoded 1 (zVar 0)) (zC .non))) (zRet (zVar 1)) (zNx)) (zSeq (zSet 5 2 (zLst (zNil))) (zSeq (zSet 5 3 (zC (.int 0))) (zSeq (zFor 5 (ziL 5 (zFld "Encoded" fl_Encoded 1 (zVar 0))) (gN 4) (lb_Encoded__decoded_1)) (zRet (zVar 2))))))
def d_Encoded__decoded : List D → Option FR := runP 5 1 b_Encoded__decoded
set_option maxHeartbeats 4000000 in
theorem ok_Encoded__decoded (h : MthDef K "Encoded" "decoded" "Encoded.decoded" st_Encoded__decoded) (k_Encoded : ClsF K mg "Encoded" fl_Encoded) (c_values_of : Cal P w K mg base 2 "values_of" (spP K d_values_of)) : MthK P w K mg base 3 "Encoded" "decoded" (spP K d_Encoded__decoded) := by
  obtain ⟨C, a, fd, h1, h2, h3, F⟩ := h
  exact ⟨C, a, fd, _, h1, h2, h3, F.binds (ps := ["self"]) fun _ _ _ _ _ _ us hl => match us, hl with | [_], _ => rfl, okP F sc_Encoded__decoded fun cdv A outer s0 H E hr =>
    zss_cons (zs_set (i := 1) sc_Encoded__decoded.nd rfl (Or.inl rfl) (ze_call (c_values_of.mono (by decide)) hr (za_cons (ze_fldF k_Encoded nd_Encoded rfl (ze_var rfl (pv 0))) (za_nil)))) (zss_cons (zs_if (zt_cmp o_is s_is (ze_fldF k_Encoded nd_Encoded rfl (ze_var rfl (pv 0))) (ze_non) (nomark _)) (zss_one (zs_ret (ze_var rfl (pv 1)))) (zss_nil)) (zss_cons (zs_set (i := 2) sc_Encoded__decoded.nd rfl (Or.inl rfl) (ze_lst (za_nil))) (zss_cons (zs_set (i := 3) sc_Encoded__decoded.nd rfl (Or.inl rfl) (ze_int)) (zss_cons (zs_for PassesOwn.never rfl (zi_list (ze_fldF k_Encoded nd_Encoded rfl (ze_var rfl (pv 0)))) (zg_name (i := 4) sc_Encoded__decoded.nd rfl (Or.inl rfl)) (zss_fg (vs := [4]) (zss_one (zs_if (zt_truth (ze_var rfl (pv 4))) (zss_one (zs_app (ze_var rfl (pv 2)) (ze_non))) (zss_cons (zs_app (ze_var rfl (pv 2)) (ze_ix (ze_var rfl (pv 1)) (ze_var rfl (pv 3)))) (zss_one (zs_set (i := 3) sc_Encoded__decoded.nd rfl (Or.inl rfl) (ze_op o_add s_add (ze_var rfl (pv 3)) (ze_int))))))))) (zss_one (zs_ret (ze_var rfl (pv 2))))))))⟩
abbrev st_Encoded__form : Stmt := mtOf (topS 20) 1
theorem sc_Encoded__form : FnScope ["self"] ["self"] (defScope st_Encoded__form) := ⟨rfl, rfl, rfl, by decide +kernel, rfl, by decide +kernel, by decide +kernel⟩
def b_Encoded__form : SM := zRet (zIx (zFld "Encoded" fl_Encoded 2 (zVar 0)) (zC (.int 0)))
def d_Encoded__form : List D → Option FR := runP 1 1 b_Encoded__form
set_option maxHeartbeats 4000000 in
theorem ok_Encoded__form (h : PropDef K "Encoded" "form" "Encoded.form" st_Encoded__form) (k_Encoded : ClsF K mg "Encoded" fl_Encoded) : PropK P w K mg base 1 "Encoded" "form" (spP K d_Encoded__form) := by
  obtain ⟨C, p, a, fd, h1, h2, h3, F⟩ := h
  exact ⟨C, p, a, fd, _, h1, h2, h3, F.binds (ps := ["self"]) fun _ _ _ _ _ _ us hl => match us, hl with | [_], _ => rfl, okP F sc_Encoded__form fun cdv A outer s0 H E hr =>
    zss_one (zs_ret (ze_ix (ze_fldF k_Encoded nd_Encoded rfl (ze_var rfl (pv 0))) (ze_int)))⟩
abbrev st__law_right : Stmt := topS 33
theorem sc__law_right : FnScope ["_law_told", "_law_form", "_law_values_here", "_law_mask", "_law_back", "_law_value_here"] ["_law_told", "_law_form", "_law_values_here"] (defScope st__law_right) := ⟨rfl, rfl, rfl, by decide +kernel, rfl, by decide +kernel, by decide +kernel⟩
def b__law_right : SM := zSeq (zIfS 6 (zOrT (zNotT (zTru (zIsO "Encoded" (zVar 0)))) (zOrT (zTst (zOp neqD (zMth "Encoded" fl_Encoded d_Encoded__form (zVar 0) zNil) (zVar 1))) (zNotT (zTru (zCall d__law_is_integer (zCons (zFld "Encoded" fl_Encoded 0 (zVar 0)) (zNil))))))) (zRet (zC (.bl false))) (zNx)) (zSeq (zSet 6 3 (zLc (ziL 6 (zVar 2)) (gN 5) (zYes) (zOp isD (zVar 5) (zC .non)) [5])) (zSeq (zIfS 6 (zTst (zOp inD (zC (.bl true)) (zVar 3))) (zIfS 6 (zOrT (zNotT (zTru (zCallS isiD (zCons (zFld "Encoded" fl_Encoded 1 (zVar 0)) (zCons (zC (.raw (.ty "list"))) (zNil)))))) (zTst (zOp neqD (zCallS reprB (zCons (zFld "Encoded" fl_Encoded 1 (zVar 0)) (zNil))) (zCallS reprB (zCons (zVar 3) (zNil)))))) (zRet (zC (.bl false))) (zNx)) (zIfS 6 (zTst (zOp isntD (zFld "Encoded" fl_Encoded 1 (zVar 0)) (zC .non))) (zRet (zC (.bl false))) (zNx))) (zSeq (zSet 6 4 (zMth "Encoded" fl_Encoded d_Encoded__decoded (zVar 0) zNil)) (zRet (zAndV (zOp eqD (zFld "Encoded" fl_Encoded 0 (zVar 0)) (zCallS lenD (zCons (zVar 2) (zNil)))) (zAndV (zCallS isiD (zCons (zVar 4) (zCons (zC (.raw (.ty "list"))) (zNil)))) (zOp eqD (zCallS reprB (zCons (zVar 4) (zNil))) (zCallS reprB (zCons (zVar 2) (zNil))))))))))
def d__law_right : List D → Option FR := runP 6 3 b__law_right
set_option maxHeartbeats 4000000 in
theorem ok__law_right (h : DefAt K mg "_law_right" st__law_right) (m_isinstance : mg "isinstance" = none) (m_len : mg "len" = none) (m_list : mg "list" = none) (m_repr : mg "repr" = none) (hnd : base.NoDigits) (k_Encoded : ClsF K mg "Encoded" fl_Encoded) (c_Encoded__decoded : MthK P w K mg base 3 "Encoded" "decoded" (spP K d_Encoded__decoded)) (c_Encoded__form : PropK P w K mg base 1 "Encoded" "form" (spP K d_Encoded__form)) (c__law_is_integer : Cal P w K mg base 1 "_law_is_integer" (spP K d__law_is_integer)) : CalG P w K mg base 4 "_law_right" (spP K d__law_right) :=
  calG_mk (k := 3) (ps := ["_law_told", "_law_form", "_law_values_here"]) h sc__law_right (fun _ _ _ _ _ _ us hl => match us, hl with | [_, _, _], _ => rfl) fun a A hgd cdv outer s0 H E hr =>
    zss_cons (zs_if (zt_w (zw_or (zt_not (zt_truth (ze_isO k_Encoded.isi (by rfl) m_isinstance (ze_var rfl (pv 0))))) (zw_or (zt_cmp (o_ne hr) s_ne (ze_prop c_Encoded__form hr (by decide) (by decide +kernel) (ze_var rfl (pv 0))) (ze_var rfl (pv 1)) (nomark _)) (zw_or1 (zt_not (zt_truth (ze_call (c__law_is_integer.mono (by decide)) hr (za_cons (ze_fldF k_Encoded nd_Encoded rfl (ze_var rfl (pv 0))) (za_nil))))))))) (zss_one (zs_ret (ze_bl))) (zss_nil)) (zss_cons (zs_setLc (i := 3) rfl rfl (sw_true rfl rfl rfl (by decide +kernel)) (own := [("_law_value_here", 5)]) rfl sc__law_right.nd (zi_list (ze_var rfl (pv 2))) (blkOk_by (N := ["_law_told", "_law_form", "_law_values_here", "_law_mask", "_law_back", "_law_value_here"]) (own := [("_law_value_here", 5)]) (sc := defScope st__law_right) (by decide +kernel)) (fun _ _ _ _ _ => zgw_name (i := 5) sc__law_right.nd rfl (Or.inl rfl) (by decide)) (fun _ _ _ _ _ => zts_nil) (fun _ _ _ _ _ => ze_cmp o_is s_is (ze_var rfl (pv 5)) (ze_non) (nomark _))) (zss_cons (zs_if (zt_cmp (o_in hr) s_in (ze_bl) (ze_var rfl (pv 3)) (by rfl)) (zss_one (zs_if (zt_w (zw_or (zt_not (zt_truth (ze_callB call_isiU s_isi (by rfl) m_isinstance (by decide +kernel) (za_cons (ze_fldF k_Encoded nd_Encoded rfl (ze_var rfl (pv 0))) (za_cons (ze_bltn (by rfl) m_list (by decide +kernel) rfl) (za_nil)))))) (zw_or1 (zt_cmp (o_ne hr) s_ne (ze_callB (call_reprB hgd hr hnd) s_reprB (by rfl) m_repr (by decide +kernel) (za_cons (ze_fldF k_Encoded nd_Encoded rfl (ze_var rfl (pv 0))) (za_nil))) (ze_callB (call_reprB hgd hr hnd) s_reprB (by rfl) m_repr (by decide +kernel) (za_cons (ze_var rfl (pv 3)) (za_nil))) (nomark _))))) (zss_one (zs_ret (ze_bl))) (zss_nil))) (zss_one (zs_if (zt_cmp o_isnt s_isnt (ze_fldF k_Encoded nd_Encoded rfl (ze_var rfl (pv 0))) (ze_non) (nomark _)) (zss_one (zs_ret (ze_bl))) (zss_nil)))) (zss_cons (zs_set (i := 4) sc__law_right.nd rfl (Or.inl rfl) (ze_mth0 (c_Encoded__decoded.mono (by decide)) hr (by decide +kernel) (ze_var rfl (pv 0)))) (zss_one (zs_ret (ze_and (ze_cmp (o_eq hr) s_eq (ze_fldF k_Encoded nd_Encoded rfl (ze_var rfl (pv 0))) (ze_callB call_len s_len (by rfl) m_len PySem.boot_len (za_cons (ze_var rfl (pv 2)) (za_nil))) (nomark _)) (ze_and (ze_callB call_isiU s_isi (by rfl) m_isinstance (by decide +kernel) (za_cons (ze_var rfl (pv 4)) (za_cons (ze_bltn (by rfl) m_list (by decide +kernel) rfl) (za_nil)))) (ze_one (ze_cmp (o_eq hr) s_eq (ze_callB (call_reprB hgd hr hnd) s_reprB (by rfl) m_repr (by decide +kernel) (za_cons (ze_var rfl (pv 4)) (za_nil))) (ze_callB (call_reprB hgd hr hnd) s_reprB (by rfl) m_repr (by decide +kernel) (za_cons (ze_var rfl (pv 2)) (za_nil))) (nomark _))))))))))
abbrev st_law : Stmt := topS 34
theorem sc_law : FnScope ["_law_script", "_law_values_here", "_law_present", "_law_made", "_law_form", "_law_given", "_law_told", "_law_value_here", "_law_turned_here", "_law_other"] ["_law_script"] (defScope st_law) := ⟨rfl, rfl, rfl, by decide +kernel, rfl, by decide +kernel, by decide +kernel⟩
def lb_law_1 : SM := zFg [9] (zIfS 10 (zTst (zEqO "Encoded" fl_Encoded d_Encoded____eq__ (zVar 6) (zVar 9))) (zRet (zC (.bl false))) (zNx))
def lb_law_2 : SM := zFg [4, 5, 6, 8, 9] (zSeq (zSet 10 5 (z_list (zCons (zVar 1) (zNil)))) (zSeq (zSet 10 6 (zCall d_encode_as (zCons (zVar 4) (zCons (zVar 5) (zNil))))) (zSeq (zIfS 10 (zTst (zOp neqD (zCallS reprB (zCons (zVar 5) (zNil))) (zCallS reprB (zCons (zVar 1) (zNil))))) (zRet (zC (.bl false))) (zNx)) (zIfS 10 (zNotT (zTru (zCall d__law_possible (zCons (zVar 4) (zCons (zVar 2) (zNil)))))) (zIfS 10 (zTst (zOp isntD (zVar 6) (zC .non))) (zRet (zC (.bl false))) (zNx)) (zSeq (zIfS 10 (zOrT (zNotT (zTru (zCall d__law_right (zCons (zVar 6) (zCons (zVar 4) (zCons (zVar 1) (zNil))))))) (zNotT (zTst (zEqO "Encoded" fl_Encoded d_Encoded____eq__ (zVar 6) (zCall d_encode_as (zCons (zVar 4) (zCons (z_list (zCons (zVar 1) (zNil))) (zNil)))))))) (zRet (zC (.bl false))) (zNx)) (zSeq (zSet 10 8 (zCall d_encode_as (zCons (zVar 4) (zCons (zCall d__law_turned (zCons (zVar 1) (zNil))) (zNil))))) (zSeq (zIfS 10 (zAndT (zTst (zOp isntD (zVar 8) (zC .non))) (zTst (zEqO "Encoded" fl_Encoded d_Encoded____eq__ (zVar 6) (zVar 8)))) (zRet (zC (.bl false))) (zNx)) (zSeq (zFor 10 (ziL 10 (zVar 3)) (gN 9) (lb_law_1)) (zApp 10 (zVar 3) (zVar 6))))))))))
def b_law : SM := zSeq (zSet 10 1 (zCall d__law_values (zCons (zVar 0) (zNil)))) (zSeq (zSet 10 2 (zLc (ziL 10 (zVar 1)) (gN 7) (zTst (zOp isntD (zVar 7) (zC .non))) (zVar 7) [7])) (zSeq (zSet 10 3 (zLst (zNil))) (zSeq (zFor 10 (ziT (zC c_FORMS)) (gN 4) (lb_law_2)) (zRet (zAndV (zOp geD (zCallS lenD (zCons (zVar 3) (zNil))) (zC (.int 3))) (zNotV (zEqO "Encoded" fl_Encoded d_Encoded____eq__ (zIx (zVar 3) (zC (.int 0))) (zC (.int 5)))))))))
def d_law : List D → Option FR := runP 10 1 b_law
set_option maxHeartbeats 4000000 in
theorem ok_law {f : Addr} {fd : FuncData} (F : Fun K "law" "law" st_law f fd) (m_len : mg "len" = none) (m_list : mg "list" = none) (m_repr : mg "repr" = none) (hnd : base.NoDigits) (hc_FORMS : ConstD K mg "FORMS" c_FORMS) (c_Encoded____eq__ : EqoK P w K mg base 1 "Encoded" (spP K d_Encoded____eq__)) (c__law_values : Cal P w K mg base 4 "_law_values" (spP K d__law_values)) (c_encode_as : Cal P w K mg base 5 "encode_as" (spP K d_encode_as)) (c__law_possible : Cal P w K mg base 2 "_law_possible" (spP K d__law_possible)) (c__law_turned : Cal P w K mg base 1 "_law_turned" (spP K d__law_turned)) (c__law_right : CalG P w K mg base 4 "_law_right" (spP K d__law_right)) : FnA P w K mg base callerA f fd ["_law_script"] (spP K d_law) :=
  okA (k := 5) F sc_law ⟨rfl, by decide, by decide⟩ fun cdv outer s0 H E hr =>
    zss_cons (zs_set (i := 1) sc_law.nd rfl (Or.inl rfl) (ze_call (c__law_values.mono (by decide)) hr (za_cons (ze_var rfl (pv 0)) (za_nil)))) (zss_cons (zs_setLc (i := 2) rfl rfl (sw_true rfl rfl rfl (by decide +kernel)) (own := [("_law_value_here", 7)]) rfl sc_law.nd (zi_list (ze_var rfl (pv 1))) (blkOk_by (N := ["_law_script", "_law_values_here", "_law_present", "_law_made", "_law_form", "_law_given", "_law_told", "_law_value_here", "_law_turned_here", "_law_other"]) (own := [("_law_value_here", 7)]) (sc := defScope st_law) (by decide +kernel)) (fun _ _ _ _ _ => zgw_name (i := 7) sc_law.nd rfl (Or.inl rfl) (by decide)) (fun _ _ _ _ _ => zts_one (zt_cmp o_isnt s_isnt (ze_var rfl (pv 7)) (ze_non) (nomark _))) (fun _ _ _ _ _ => ze_var rfl (pv 7))) (zss_cons (zs_set (i := 3) sc_law.nd rfl (Or.inl rfl) (ze_lst (za_nil))) (zss_cons (zs_for PassesOwn.never rfl (zi_tup (ze_cd hc_FORMS)) (zg_name (i := 4) sc_law.nd rfl (Or.inl rfl)) (zss_fg (vs := [4, 5, 6, 8, 9]) (zss_cons (zs_set (i := 5) sc_law.nd rfl (Or.inl rfl) (ze_list hr (by rfl) m_list (za_cons (ze_var rfl (pv 1)) (za_nil)))) (zss_cons (zs_set (i := 6) sc_law.nd rfl (Or.inl rfl) (ze_call (c_encode_as.mono (by decide)) hr (za_cons (ze_var rfl (pv 4)) (za_cons (ze_var rfl (pv 5)) (za_nil))))) (zss_cons (zs_if (zt_cmp (o_ne hr) s_ne (ze_callB (call_reprB rfl hr hnd) s_reprB (by rfl) m_repr (by decide +kernel) (za_cons (ze_var rfl (pv 5)) (za_nil))) (ze_callB (call_reprB rfl hr hnd) s_reprB (by rfl) m_repr (by decide +kernel) (za_cons (ze_var rfl (pv 1)) (za_nil))) (nomark _)) (zss_one (zs_ret (ze_bl))) (zss_nil)) (zss_one (zs_if (zt_not (zt_truth (ze_call (c__law_possible.mono (by decide)) hr (za_cons (ze_var rfl (pv 4)) (za_cons (ze_var rfl (pv 2)) (za_nil)))))) (zss_one (zs_if (zt_cmp o_isnt s_isnt (ze_var rfl (pv 6)) (ze_non) (nomark _)) (zss_one (zs_ret (ze_bl))) (zss_nil))) (zss_cons (zs_if (zt_w (zw_or (zt_not (zt_truth (ze_callG (c__law_right.mono (by decide)) hr (by rfl) (za_cons (ze_var rfl (pv 6)) (za_cons (ze_var rfl (pv 4)) (za_cons (ze_var rfl (pv 1)) (za_nil))))))) (zw_or1 (zt_not (zt_eqO c_Encoded____eq__ (hr.mono (by decide)) (by rfl) (ze_var rfl (pv 6)) (ze_call (c_encode_as.mono (by decide)) hr (za_cons (ze_var rfl (pv 4)) (za_cons (ze_list hr (by rfl) m_list (za_cons (ze_var rfl (pv 1)) (za_nil))) (za_nil))))))))) (zss_one (zs_ret (ze_bl))) (zss_nil)) (zss_cons (zs_set (i := 8) sc_law.nd rfl (Or.inl rfl) (ze_call (c_encode_as.mono (by decide)) hr (za_cons (ze_var rfl (pv 4)) (za_cons (ze_call (c__law_turned.mono (by decide)) hr (za_cons (ze_var rfl (pv 1)) (za_nil))) (za_nil))))) (zss_cons (zs_if (zt_w (zw_and (zt_cmp o_isnt s_isnt (ze_var rfl (pv 8)) (ze_non) (nomark _)) (zw_and1 (zt_eqO c_Encoded____eq__ (hr.mono (by decide)) (by rfl) (ze_var rfl (pv 6)) (ze_var rfl (pv 8)))))) (zss_one (zs_ret (ze_bl))) (zss_nil)) (zss_cons (zs_for PassesOwn.never rfl (zi_list (ze_var rfl (pv 3))) (zg_name (i := 9) sc_law.nd rfl (Or.inl rfl)) (zss_fg (vs := [9]) (zss_one (zs_if (zt_eqO c_Encoded____eq__ (hr.mono (by decide)) (by rfl) (ze_var rfl (pv 6)) (ze_var rfl (pv 9))) (zss_one (zs_ret (ze_bl))) (zss_nil))))) (zss_one (zs_app (ze_var rfl (pv 3)) (ze_var rfl (pv 6))))))))))))))) (zss_one (zs_ret (ze_and (ze_cmp o_ge s_ge (ze_callB call_len s_len (by rfl) m_len PySem.boot_len (za_cons (ze_var rfl (pv 3)) (za_nil))) (ze_int) (nomark _)) (ze_one (ze_not (ze_eqO c_Encoded____eq__ (hr.mono (by decide)) (by rfl) (ze_ix (ze_var rfl (pv 3)) (ze_int)) (ze_int))))))))))
end
local macro_rules | `(tactic| walk_at "e") => `(tactic| first | ((with_reducible apply er_ifT); (walk_at "e"); (walk_at "e")) | ((with_reducible apply er_ifF); (walk_at "e"); (walk_at "e")))
theorem state_ok (c k : Int) : ∃ s, d__law_state [.int c, .int k] = some (.new (.lst [.int s])) := by
  have P : ∃ fr, d__law_state [.int c, .int k] = some fr ∧ ∃ s, fr = .new (.lst [.int s]) := by
    unfold d__law_state b__law_state
    refine runP_post (g := [.dat (.int c), .dat (.int k), .un, .un, .un, .un, .un]) rfl rfl ?_
    walk_at "s"
    · intro _
      walk_at "s"
      exact end_post rfl ⟨_, rfl⟩
    · intro _
      walk_at "s"
      walk_at "s"
      walk_at "s"
      have f1 := Int.emod_nonneg (c * 6364136223 + (k + 1) * 104729 + 77) (show (2305843009213693951 : Int) ≠ 0 by decide)
      have f2 := Int.emod_lt_of_pos (c * 6364136223 + (k + 1) * 104729 + 77) (show (0 : Int) < 2305843009213693951 by decide)
      generalize (c * 6364136223 + (k + 1) * 104729 + 77) % 2305843009213693951 = f at *
      walk_at "s"
      have g1 := Int.emod_nonneg (f * f + 1013 * f + k) (show (2305843009213693951 : Int) ≠ 0 by decide)
      have g2 := Int.emod_lt_of_pos (f * f + 1013 * f + k) (show (0 : Int) < 2305843009213693951 by decide)
      generalize (f * f + 1013 * f + k) % 2305843009213693951 = h at *
      walk_at "s"
      have h1 := Int.emod_nonneg (h * 48271 + f * 31 + 9) (show (2305843009213693951 : Int) ≠ 0 by decide)
      have h2 := Int.emod_lt_of_pos (h * 48271 + f * 31 + 9) (show (0 : Int) < 2305843009213693951 by decide)
      generalize (h * 48271 + f * 31 + 9) % 2305843009213693951 = t at *
      walk_at "s"
      walk_at "s"
      exact end_post rfl ⟨_, rfl⟩
  obtain ⟨fr, h, s, rfl⟩ := P
  exact ⟨s, h⟩
theorem digit_ok (s m : Int) (h0 : 0 < m) (h1 : m < 2 ^ 256) : d__law_digit (.lst [.int s]) [.int m] = some (.dat (.int (s % m)), .lst [.int (s / m)]) := by
  unfold d__law_digit b__law_digit
  refine runM_ap (g := [.own (.lst [.int s]) true false, .dat (.int m), .un]) rfl (Nat.zero_le _) rfl ?_
  walk_at "s"
  walk_at "s"
  walk_at "s"
  exact rfl
theorem cell_ok (ns : List Int) (k : Int) (hk : 0 ≤ k) : ∃ c, d__law_cell [scriptD ns, .int k] = some (.dat (.int c)) := by
  have P : ∃ fr, d__law_cell [scriptD ns, .int k] = some fr ∧ ∃ c, fr = .dat (.int c) := by
    unfold d__law_cell b__law_cell
    refine runP_post (g := [.dat (scriptD ns), .dat (.int k)]) rfl rfl ?_
    walk_at "s"
    · intro q
      have q := of_decide_eq_true q
      rw [List.length_map] at q
      obtain ⟨x, h1, _⟩ := atI_lt (xs := ns) hk q
      have hx : ixD (scriptD ns) k = some (.int x) := atI_map (f := D.int) h1
      walk_at "s"
      exact end_post rfl ⟨_, rfl⟩
    · intro _
      walk_at "s"
      walk_at "s"
      exact end_post rfl ⟨_, rfl⟩
  obtain ⟨fr, h, c, rfl⟩ := P
  exact ⟨c, h⟩
/-- the signs of the law's texts: no quotation mark, no backslash -/
def sg (c : Nat) : Prop := 32 ≤ c ∧ c ≤ 126 ∧ c ≠ 37 ∧ c ≠ 34 ∧ c ≠ 92
instance (c : Nat) : Decidable (sg c) := by unfold sg; exact inferInstance
def DV (v : D) : Prop := match v with
  | .non => True
  | .bl _ => True
  | .int i => i.natAbs < 10 ^ 60
  | .str t => t.length ≤ 200 ∧ ∀ c ∈ t, sg c
  | _ => False
theorem digitOk : DigitOk d__law_digit := fun s m h0 h1 => digit_ok s m h0 h1
theorem dtext_ok (s : Int) : ∃ t s', d__law_text (stZ s) [] = some (.dat (.str t), stZ s') ∧ t.length ≤ 200 ∧ ∀ c ∈ t, sg c := by
  obtain ⟨s', acc, e, hl, hc⟩ := draw_word digitOk [97, 98, 65, 66, 32, 49, 57, 45, 39, 126] (N := 10) (M := 5) rfl (by decide) (by decide) (by decide) (by decide) true s
  refine ⟨acc, s', ?_, by omega, fun c h => by have := hc c h; clear h; revert this; revert c; decide⟩
  unfold d__law_text b__law_text
  refine runM_ap (g := [.own (stZ s) true false, .un, .un]) rfl (Nat.zero_le _) rfl ?_
  walk_at "s"
  exact sr_ret e rfl
theorem dvalue_ok (s : Int) : ∃ v s', d__law_value (stZ s) [] = some (.dat v, stZ s') ∧ DV v ∧ ∀ i, v = .int i → i.natAbs ≤ 10 ^ 15 := by
  have P : ∃ fr c', d__law_value (stZ s) [] = some (fr, c') ∧ ∃ v s', fr = .dat v ∧ c' = stZ s' ∧ DV v ∧ ∀ i, v = .int i → i.natAbs ≤ 10 ^ 15 := by
    obtain ⟨t, s', ht, h1, h2⟩ := dtext_ok (s / 8)
    have g1 := digit_ok s 8 (by decide) (by decide)
    have g2 := digit_ok (s / 8) 2 (by decide) (by decide)
    have g3 := digit_ok (s / 8) 7 (by decide) (by decide)
    have g4 := digit_ok (s / 8 / 2) 1000 (by decide) (by decide)
    unfold d__law_value b__law_value
    refine runM_post (g := [.own (stZ s) true false, .un]) rfl (Nat.zero_le _) rfl ?_
    walk_at "w"
    · exact end_postM rfl ⟨_, _, rfl, rfl, trivial, fun i h => by cases h⟩
    · exact end_postM rfl ⟨_, _, rfl, rfl, trivial, fun i h => by cases h⟩
    · exact end_postM rfl ⟨_, _, rfl, rfl, show (s / 8 % 7 - 3).natAbs < 10 ^ 60 by omega, fun i h => by cases h; omega⟩
    · have big : ((s / 8 % 2 * 2 - 1) * (1000000000000000 - s / 8 / 2 % 1000)).natAbs ≤ 10 ^ 15 := by
        rcases (show s / 8 % 2 = 0 ∨ s / 8 % 2 = 1 by omega) with h | h <;> rw [h] <;> omega
      exact end_postM rfl ⟨_, _, rfl, rfl, show ((s / 8 % 2 * 2 - 1) * (1000000000000000 - s / 8 / 2 % 1000)).natAbs < 10 ^ 60 by omega, fun i h => by cases h; exact big⟩
    · exact end_postM rfl ⟨_, _, rfl, rfl, ⟨h1, h2⟩, fun i h => by cases h⟩
  obtain ⟨fr, c', h, v, s', rfl, rfl, hv, hi⟩ := P
  exact ⟨v, s', h, hv, hi⟩
def CV (v : D) : Prop := DV v ∧ ∀ i, v = .int i → i.natAbs ≤ 10 ^ 15
theorem cv_int {i : Int} (h : i.natAbs ≤ 10 ^ 15) : CV (.int i) := ⟨show i.natAbs < 10 ^ 60 by omega, fun j e => by cases e; exact h⟩
theorem cv_W {v : D} (h : CV v) : VW v := by
  cases v with
  | non => exact trivial
  | bl b => exact trivial
  | int i => exact h.2 i rfl
  | str t =>
    obtain ⟨h1, h2⟩ := (show t.length ≤ 200 ∧ ∀ c ∈ t, sg c from h.1)
    exact ⟨by omega, fun c hc => by have := h2 c hc; unfold sg at this; omega⟩
  | _ => exact h.1.elim
def isIW : D → Bool
  | .int _ => true
  | _ => false
theorem lisint_v (v : D) (h : CV v) : d__law_is_integer [v] = some (.dat (.bl (isIW v))) := by
  cases v with
  | non =>
    unfold d__law_is_integer b__law_is_integer
    refine runP_ap (g := [.dat .non]) rfl rfl ?_
    walk_at "s"
    exact rfl
  | bl b =>
    unfold d__law_is_integer b__law_is_integer
    refine runP_ap (g := [.dat (.bl b)]) rfl rfl ?_
    walk_at "s"
    exact rfl
  | int i =>
    unfold d__law_is_integer b__law_is_integer
    refine runP_ap (g := [.dat (.int i)]) rfl rfl ?_
    walk_at "s"
    exact rfl
  | str t =>
    unfold d__law_is_integer b__law_is_integer
    refine runP_ap (g := [.dat (.str t)]) rfl rfl ?_
    walk_at "s"
    exact rfl
  | _ => exact h.1.elim
def GV (S : D) (kd : Int) (L : List D) : G := [.dat S, .un, .dat (.int kd), .own (.lst L) false false, .un, .un]
def GW (S : D) (s kd : Int) (L : List D) (k : Int) (v : D) : G := [.dat S, .own (stZ s) false false, .dat (.int kd), .own (.lst L) false false, .dat (.int k), .dat v]
local macro_rules | `(tactic| walk_at "c") => `(tactic| first | with_reducible assumption | (simp only [Cn.d]; with_reducible assumption) | ((with_reducible refine digit_ok _ _ ?_ ?_) <;> omega))
abbrev KV (S : D) (kd : Int) (L : List D) : Option (Fl × G) → Prop := fun o => ∃ v, fgK [1, 4, 5] id o = some (.nx, GV S kd (L ++ [v])) ∧ CV v
theorem kv_end {S : D} {kd : Int} {L : List D} {v : D} {o : Option (Fl × G)} (h : fgK [1, 4, 5] id o = some (.nx, GV S kd (L ++ [v]))) (hv : CV v) : ap (KV S kd L) o = True := eq_true ⟨v, h, hv⟩
theorem v_5 (S : D) (s kd : Int) (L : List D) (k : Int) (v : D) (hv : CV v) (hL : L.length ≤ 40) : ap (KV S kd L) ((zApp 6 (zVar 3) (zVar 5)) (GW S s kd L k v)) = True := by
  have hz : L.length < sizeLine := Nat.lt_of_le_of_lt hL (by decide)
  unfold GW
  walk_at "s"
  exact kv_end rfl hv
theorem ix0 {L : List D} (h : 0 < L.length) : ∃ x, ixD (.lst L) 0 = some x ∧ x ∈ L := ⟨L[0], @atI_nat D L 0 _ (List.getElem?_eq_getElem h), List.getElem_mem h⟩
theorem ixm {L : List D} (h : 0 < L.length) : ∃ x, ixD (.lst L) (-1) = some x ∧ x ∈ L := by
  refine ⟨L[L.length - 1], ?_, List.getElem_mem _⟩
  show atI L (-1) = _
  unfold atI ixN
  rw [if_neg (by decide), if_pos (by omega)]
  show L[(_ : Nat)]? = _
  rw [List.getElem?_eq_getElem (by omega)]
  congr 1
  congr 1
  omega
theorem isnt_v {v : D} (hv : CV v) : ∃ b, isntD v .non = some (.bl b) := by
  cases v <;> first | exact ⟨_, rfl⟩ | exact hv.1.elim
theorem v_4 (S : D) (s kd : Int) (L : List D) (k : Int) (v : D) (hv : CV v) (hC : ∀ x ∈ L, CV x) (hL : L.length ≤ 40) : ap (KV S kd L) ((zSeq (zIfS 6 (zAndT (zTst (zOp eqD (zVar 2) (zC (.int 3)))) (zAndT (zTst (zOp gtD (zCallS lenD (zCons (zVar 3) (zNil))) (zC (.int 0)))) (zTst (zOp isntD (zVar 5) (zC .non))))) (zSet 6 5 (zIx (zVar 3) (zC (.int 0)))) (zNx)) (zApp 6 (zVar 3) (zVar 5))) (GW S s kd L k v)) = True := by
  have E := fun v hv => v_5 S s kd L k v hv hL
  have hlen : lenD [.lst L] = some (.int (L.length : Int)) := rfl
  obtain ⟨bn, hn⟩ := isnt_v hv
  by_cases c : kd = 3
  · by_cases c2 : 0 < L.length
    · obtain ⟨x, hx, hm⟩ := ix0 c2
      have hgt : gtD (.int (L.length : Int)) (.int 0) = some (.bl true) := congrArg (fun b => some (D.bl b)) (decide_eq_true (by omega))
      refine sr_if (b := bn) (g1 := GW S s kd L k v) (er_andTT (b1 := true) (g1 := GW S s kd L k v) (by rw [c]; rfl) rfl (er_andTT (b1 := true) (g1 := GW S s kd L k v) (er_tst (er_op (er_callS (ds := [.lst L]) (er_cons rfl er_nil) rfl hlen rfl) er_C rfl rfl hgt rfl)) rfl (er_tst (er_op (r1 := .dat v) (g1 := GW S s kd L k v) rfl er_C rfl rfl hn rfl)))) rfl (fun _ => ?_) (fun _ => sr_nx ?_)
      · unfold GW
        walk_at "s"
        exact E x (hC x hm)
      · exact E v hv
    · have hgt : gtD (.int (L.length : Int)) (.int 0) = some (.bl false) := congrArg (fun b => some (D.bl b)) (decide_eq_false (by omega))
      refine sr_if (b := false) (g1 := GW S s kd L k v) (er_andTT (b1 := true) (g1 := GW S s kd L k v) (by rw [c]; rfl) rfl (er_andTF (b1 := false) (g1 := GW S s kd L k v) (er_tst (er_op (er_callS (ds := [.lst L]) (er_cons rfl er_nil) rfl hlen rfl) er_C rfl rfl hgt rfl)) rfl)) rfl (fun h => by cases h) (fun _ => sr_nx ?_)
      exact E v hv
  · refine sr_if (b := false) (g1 := GW S s kd L k v) (er_andTF (b1 := (kd == 3)) rfl (by simp [c])) rfl (fun h => by cases h) (fun _ => sr_nx ?_)
    exact E v hv
theorem v_3 (S : D) (s kd : Int) (L : List D) (k : Int) (v : D) (hv : CV v) (hC : ∀ x ∈ L, CV x) (hL : L.length ≤ 40) : ap (KV S kd L) ((zSeq (zIfS 6 (zAndT (zTst (zOp eqD (zVar 2) (zC (.int 2)))) (zAndT (zTst (zOp gtD (zCallS lenD (zCons (zVar 3) (zNil))) (zC (.int 0)))) (zTst (zOp gtD (zCallM 0 d__law_digit (zCons (zVar 1) (zCons (zC (.int 3)) (zNil)))) (zC (.int 0)))))) (zSet 6 5 (zIx (zVar 3) (zUn negD (zC (.int 1))))) (zNx)) (zSeq (zIfS 6 (zAndT (zTst (zOp eqD (zVar 2) (zC (.int 3)))) (zAndT (zTst (zOp gtD (zCallS lenD (zCons (zVar 3) (zNil))) (zC (.int 0)))) (zTst (zOp isntD (zVar 5) (zC .non))))) (zSet 6 5 (zIx (zVar 3) (zC (.int 0)))) (zNx)) (zApp 6 (zVar 3) (zVar 5)))) (GW S s kd L k v)) = True := by
  have E := fun s v hv => v_4 S s kd L k v hv hC hL
  have g := digit_ok s 3 (by decide) (by decide)
  have hlen : lenD [.lst L] = some (.int (L.length : Int)) := rfl
  by_cases c : kd = 2
  · by_cases c2 : 0 < L.length
    · obtain ⟨x, hx, hm⟩ := ixm c2
      have hgt : gtD (.int (L.length : Int)) (.int 0) = some (.bl true) := congrArg (fun b => some (D.bl b)) (decide_eq_true (by omega))
      refine sr_if (b := decide (s % 3 > 0)) (g1 := GW S (s / 3) kd L k v) (er_andTT (b1 := true) (g1 := GW S s kd L k v) (by rw [c]; rfl) rfl (er_andTT (b1 := true) (g1 := GW S s kd L k v) (er_tst (er_op (er_callS (ds := [.lst L]) (er_cons rfl er_nil) rfl hlen rfl) er_C rfl rfl hgt rfl)) rfl ?_)) rfl (fun _ => ?_) (fun _ => sr_nx ?_)
      · unfold GW
        apply to_eqR
        walk_at "e"
        exact rfl
      · unfold GW
        walk_at "s"
        exact E _ _ (hC x hm)
      · exact E _ _ hv
    · have hgt : gtD (.int (L.length : Int)) (.int 0) = some (.bl false) := congrArg (fun b => some (D.bl b)) (decide_eq_false (by omega))
      refine sr_if (b := false) (g1 := GW S s kd L k v) (er_andTT (b1 := true) (g1 := GW S s kd L k v) (by rw [c]; rfl) rfl (er_andTF (b1 := false) (g1 := GW S s kd L k v) (er_tst (er_op (er_callS (ds := [.lst L]) (er_cons rfl er_nil) rfl hlen rfl) er_C rfl rfl hgt rfl)) rfl)) rfl (fun h => by cases h) (fun _ => sr_nx ?_)
      exact E _ _ hv
  · refine sr_if (b := false) (g1 := GW S s kd L k v) (er_andTF (b1 := (kd == 2)) rfl (by simp [c])) rfl (fun h => by cases h) (fun _ => sr_nx ?_)
    exact E _ _ hv
theorem v_2 (S : D) (s kd : Int) (L : List D) (k : Int) (v : D) (hv : CV v) (hC : ∀ x ∈ L, CV x) (hL : L.length ≤ 40) : ap (KV S kd L) ((zSeq (zIfS 6 (zAndT (zTst (zOp eqD (zVar 2) (zC (.int 1)))) (zAndT (zNotT (zTru (zCall d__law_is_integer (zCons (zVar 5) (zNil))))) (zTst (zOp isntD (zVar 5) (zC .non))))) (zSet 6 5 (zOp subD (zCallM 0 d__law_digit (zCons (zVar 1) (zCons (zC (.int 9)) (zNil)))) (zC (.int 4)))) (zNx)) (zSeq (zIfS 6 (zAndT (zTst (zOp eqD (zVar 2) (zC (.int 2)))) (zAndT (zTst (zOp gtD (zCallS lenD (zCons (zVar 3) (zNil))) (zC (.int 0)))) (zTst (zOp gtD (zCallM 0 d__law_digit (zCons (zVar 1) (zCons (zC (.int 3)) (zNil)))) (zC (.int 0)))))) (zSet 6 5 (zIx (zVar 3) (zUn negD (zC (.int 1))))) (zNx)) (zSeq (zIfS 6 (zAndT (zTst (zOp eqD (zVar 2) (zC (.int 3)))) (zAndT (zTst (zOp gtD (zCallS lenD (zCons (zVar 3) (zNil))) (zC (.int 0)))) (zTst (zOp isntD (zVar 5) (zC .non))))) (zSet 6 5 (zIx (zVar 3) (zC (.int 0)))) (zNx)) (zApp 6 (zVar 3) (zVar 5))))) (GW S s kd L k v)) = True := by
  have E := fun s v hv => v_3 S s kd L k v hv hC hL
  have g := digit_ok s 9 (by decide) (by decide)
  have hi := lisint_v v hv
  obtain ⟨bn, hn⟩ := isnt_v hv
  by_cases c : kd = 1
  · cases hw : isIW v with
    | true =>
      rw [hw] at hi
      refine sr_if (b := false) (g1 := GW S s kd L k v) (er_andTT (b1 := true) (g1 := GW S s kd L k v) (by rw [c]; rfl) rfl (er_andTF (b1 := false) (g1 := GW S s kd L k v) (er_notT (er_tru (er_call (ds := [v]) (er_cons rfl er_nil) hi) rfl rfl)) rfl)) rfl (fun h => by cases h) (fun _ => sr_nx ?_)
      exact E _ _ hv
    | false =>
      rw [hw] at hi
      refine sr_if (b := bn) (g1 := GW S s kd L k v) (er_andTT (b1 := true) (g1 := GW S s kd L k v) (by rw [c]; rfl) rfl (er_andTT (b1 := true) (g1 := GW S s kd L k v) (er_notT (er_tru (er_call (ds := [v]) (er_cons rfl er_nil) hi) rfl rfl)) rfl (er_tst (er_op (r1 := .dat v) (g1 := GW S s kd L k v) rfl er_C rfl rfl hn rfl)))) rfl (fun _ => ?_) (fun _ => sr_nx ?_)
      · unfold GW
        walk_at "s"
        exact E _ _ (cv_int (by omega))
      · exact E _ _ hv
  · refine sr_if (b := false) (g1 := GW S s kd L k v) (er_andTF (b1 := (kd == 1)) rfl (by simp [c])) rfl (fun h => by cases h) (fun _ => sr_nx ?_)
    exact E _ _ hv
theorem val_turn (ns : List Int) (kd : Int) (L : List D) (k : Nat) (hk0 : k < 100) (hL : L.length ≤ 40) (hC : ∀ v ∈ L, CV v) : ∃ v, lb__law_values_1 [.dat (scriptD ns), .un, .dat (.int kd), .own (.lst L) false false, .dat (.int (k : Int)), .un] = some (.nx, GV (scriptD ns) kd (L ++ [v])) ∧ CV v := by
  obtain ⟨c, hc⟩ := cell_ok ns (1 + (k : Int)) (by omega)
  obtain ⟨s, hs⟩ := state_ok c (k : Int)
  obtain ⟨v, s', hv, d, hi⟩ := dvalue_ok s
  have E := v_2 (scriptD ns) s' kd L (k : Int) v ⟨d, hi⟩ hC hL
  have Q : ap (fun o => ∃ v, o = some (.nx, GV (scriptD ns) kd (L ++ [v])) ∧ CV v) (lb__law_values_1 [.dat (scriptD ns), .un, .dat (.int kd), .own (.lst L) false false, .dat (.int (k : Int)), .un]) = True := by
    unfold lb__law_values_1
    refine ap_fg ?_
    walk_at "s"
    walk_at "s"
    exact E
  exact of_eq_true Q
theorem vals_ok (ns : List Int) (hn : ns.length ≤ 63) : ∃ Vs, d__law_values [scriptD ns] = some (.new (.lst Vs)) ∧ Vs.length ≤ 40 ∧ ∀ v ∈ Vs, CV v := by
  obtain ⟨c, hc⟩ := cell_ok ns 0 (by decide)
  obtain ⟨s, hs⟩ := state_ok c 0
  have g1 := digit_ok s 4 (by decide) (by decide)
  have hl : lenD [scriptD ns] = some (.int (ns.length : Int)) := by
    have : (ns.map D.int).length = ns.length := List.length_map _
    rw [← this]
    rfl
  obtain ⟨m, hm2, hm40⟩ : ∃ m : Nat, (if (ns.length : Int) < 40 then (ns.length : Int) else 40) = (m : Int) ∧ m ≤ 40 := ⟨if ns.length < 40 then ns.length else 40, by split <;> split <;> omega, by split <;> omega⟩
  obtain ⟨g3, e, L, hg, hLl, hC⟩ := forL_inv (st := lb__law_values_1) (tg := gN 4) (L := rgD 0 m) (fun i g => ∃ L, g = GV (scriptD ns) (s % 4) L ∧ L.length = i ∧ (∀ v ∈ L, CV v)) 0 (GV (scriptD ns) (s % 4) []) ⟨[], rfl, rfl, (fun v h => nomatch h)⟩ (fun i d g hd ⟨L, hg, hi, hC⟩ => by
    obtain ⟨hi2, rfl⟩ := rgD_at hd
    subst hg
    obtain ⟨v, e, hv⟩ := val_turn ns (s % 4) L i (by omega) (by omega) hC
    rw [show (0 + (i : Int)) = (i : Int) by omega]
    exact ⟨_, _, rfl, .inl e, _, rfl, by rw [List.length_append]; simp; omega, fun x hx => by
      rcases List.mem_append.mp hx with h | h
      · exact hC x h
      · rw [List.mem_singleton.mp h]; exact hv⟩)
  subst hg
  rw [rgD_len] at hLl
  refine ⟨L, ?_, by omega, hC⟩
  unfold d__law_values b__law_values
  refine runP_ap (g := [.dat (scriptD ns), .un, .un, .un, .un, .un]) rfl rfl ?_
  walk_at "s"
  walk_at "s"
  walk_at "s"
  refine seq_nx (g1 := GV (scriptD ns) (s % 4) L) ?_ ?_
  · refine Eq.trans (if_pos rfl) ?_
    refine for_none (g1 := GV (scriptD ns) (s % 4) []) (L := rgD 0 m) ?_ rfl e
    have := mi_R1 (mr := zCons (zCallS minD (zCons (zC (.int 40)) (zCons (zCallS lenD (zCons (zVar 0) (zNil))) (zNil)))) (zNil)) (g := GV (scriptD ns) (s % 4) []) (g1 := GV (scriptD ns) (s % 4) []) (k := (m : Int)) (by rw [← hm2]; unfold GV; walk_at "e") (rgOk_of (by omega) (by omega))
    rw [Int.toNat_natCast] at this
    exact this
  unfold GV
  walk_at "s"
  exact rfl
local macro_rules | `(tactic| walk_at "e") => `(tactic| first | ((with_reducible apply er_ifT); (walk_at "e"); (walk_at "e")) | ((with_reducible apply er_ifF); (walk_at "e"); (walk_at "e")))
theorem rank_ok (v : D) (h : VW v) : d_rank [v] = some (.dat (rk v)) := by
  cases v with
  | non =>
    unfold d_rank b_rank
    refine runP_ap (g := [.dat .non]) rfl rfl ?_
    walk_at "w"
    exact rfl
  | bl b =>
    unfold d_rank b_rank
    refine runP_ap (g := [.dat (.bl b)]) rfl rfl ?_
    walk_at "w"
    exact rfl
  | int i =>
    unfold d_rank b_rank
    refine runP_ap (g := [.dat (.int i)]) rfl rfl ?_
    walk_at "w"
    exact rfl
  | str t =>
    unfold d_rank b_rank
    refine runP_ap (g := [.dat (.str t)]) rfl rfl ?_
    walk_at "w"
    exact rfl
  | _ => exact h.elim
theorem atI_last {α : Type} {xs : List α} {x : α} (h : xs.getLast? = some x) : atI xs (-1) = some x := by
  have hn : xs ≠ [] := fun z => by rw [z] at h; cases h
  have hp := List.length_pos_iff.mpr hn
  unfold atI ixN
  rw [if_neg (by omega), if_pos (by omega), Option.bind_some]
  rw [List.getLast?_eq_getElem?] at h
  rw [show (-1 + (xs.length : Int)).toNat = xs.length - 1 by omega]
  exact h
theorem same_eq {v w : D} (hv : VW v) (hw : VW w) (h : sameV v w = true) : v = w := by
  rw [sameV_eq] at h
  cases v with
  | non => cases w with
    | non => rfl
    | bl b => simp [kd] at h
    | int i => simp [kd] at h
    | str t => simp [kd] at h
    | _ => exact hw.elim
  | bl b => cases w with
    | bl c => cases b <;> cases c <;> first | rfl | (exfalso; revert h; decide)
    | non => simp [kd] at h
    | int i => simp [kd] at h
    | str t => simp [kd] at h
    | _ => exact hw.elim
  | int i => cases w with
    | int j => simp [kd, kx, D.eqv] at h; rw [h]
    | non => simp [kd] at h
    | bl b => simp [kd] at h
    | str t => simp [kd] at h
    | _ => exact hw.elim
  | str t => cases w with
    | str u => simp [kd, kx, D.eqv] at h; rw [h]
    | non => simp [kd] at h
    | bl b => simp [kd] at h
    | int i => simp [kd] at h
    | _ => exact hw.elim
  | _ => exact hv.elim
abbrev kPL : List Nat := [112, 108, 97, 105, 110]
abbrev kCO : List Nat := [99, 111, 110, 115, 116, 97, 110, 116]
abbrev kRU : List Nat := [114, 117, 110, 115]
abbrev kDI : List Nat := [100, 105, 99, 116, 105, 111, 110, 97, 114, 121]
abbrev kPA : List Nat := [112, 97, 99, 107, 101, 100]
abbrev kDE : List Nat := [100, 101, 108, 116, 97, 115]
def Pr (P : List D) : Prop := (∀ v ∈ P, CV v) ∧ P.length ≤ 40
theorem len_l (P : List D) : lenD [.lst P] = some (.int (P.length : Int)) := rfl
theorem sz {n : Nat} (h : n ≤ 100000) : n ≤ sizeLine := Nat.le_trans h (by decide)
theorem const_vals (v : D) (n : Nat) (hn : n ≤ 40) : d_values_of [.tup [.str kCO, v, .int (n : Int)]] = some (.new (.lst (List.replicate n v))) := by
  have e := er_lc1 (b := fun _ => true) (f := fun _ => v) (tg := gN 2) (tt := zYes) (el := zIx (zVar 0) (zC (.int 1))) (vs := [2]) (base := [.dat (.tup [.str kCO, v, .int (n : Int)]), .dat (.str kCO), .un, .un, .un, .un, .un]) (g := [.dat (.tup [.str kCO, v, .int (n : Int)]), .dat (.str kCO), .un, .un, .un, .un, .un])
    (mi_R1 (mr := zCons (zIx (zVar 0) (zC (.int 2))) zNil) (k := (n : Int)) rfl (rgOk_of (by omega) (by omega))) (fun o => rfl) (fun o => rfl) (sz (by rw [rgD_len]; omega)) (fun d hd => lc_dat (h := [.dat (.tup [.str kCO, v, .int (n : Int)]), .dat (.str kCO), .dat d, .un, .un, .un, .un]) rfl (fun o => rfl) (fun o => rfl) (fun o => rfl) (fun o => rfl) (fun _ o => rfl))
  have z0 : ((rgD 0 ((n : Int)).toNat).filter fun _ => true).map (fun _ => v) = List.replicate n v := by
    rw [List.filter_eq_self.mpr (fun _ _ => rfl), Int.toNat_natCast]
    apply List.ext_getElem
    · rw [List.length_map, rgD_len, List.length_replicate]
    · intro i h1 h2
      rw [List.getElem_map, List.getElem_replicate]
  rw [z0] at e
  unfold d_values_of b_values_of
  refine runP_ap (g := [.dat (.tup [.str kCO, v, .int (n : Int)]), .un, .un, .un, .un, .un, .un]) rfl rfl ?_
  walk_at "s"
  walk_at "s"
  · walk_at "k"
  intro _
  walk_at "s"
  refine sr_if (b := true) (g1 := [.dat (.tup [.str kCO, v, .int (n : Int)]), .dat (.str kCO), .un, .un, .un, .un, .un]) rfl rfl (fun _ => ?_) (fun h => by cases h)
  exact sr_retS e rfl
def rD (q : D × Nat) : D := .tup [q.1, .int (q.2 : Int)]
def expand (Q : List (D × Nat)) : List D := Q.flatMap fun q => List.replicate q.2 q.1
theorem expand_snoc (Q : List (D × Nat)) (q : D × Nat) : expand (Q ++ [q]) = expand Q ++ List.replicate q.2 q.1 := by unfold expand; rw [List.flatMap_append, List.flatMap_singleton]
def QOk (Q : List (D × Nat)) : Prop := ∀ q ∈ Q, CV q.1 ∧ q.2 ≤ 40
theorem ixN_last {n : Nat} (h : 0 < n) : ixN n (-1) = some (n - 1) := by
  unfold ixN
  rw [if_neg (by omega), if_pos (by omega)]
  congr 1
  omega
def exF : D → List D
  | .tup [v, .int n] => List.replicate n.toNat v
  | _ => []
theorem exF_map (Q : List (D × Nat)) : (Q.map rD).flatMap exF = expand Q := by
  unfold expand
  rw [List.flatMap_map]
  congr 1
theorem runs_vals {Q : List (D × Nat)} (hQ : QOk Q) (hl : (expand Q).length ≤ 40) : d_values_of [.tup [.str kRU, .tup (Q.map rD)]] = some (.new (.lst (expand Q))) := by
  have e := er_lc2 (f := exF) (mi := ziU 7 (zIx (zVar 0) (zC (.int 1)))) (tg := gT 2 (gCons' (gN 3) (gCons' (gN 4) (gNil')))) (mi1 := ziR1 (zCons (zVar 4) (zNil))) (tg1 := gN 2) (el := zVar 3) (vs := [3, 4, 2]) (vs1 := [2]) (L := Q.map rD)
    (g := [.dat (.tup [.str kRU, .tup (Q.map rD)]), .dat (.str kRU), .un, .un, .un, .un, .un]) (h := [.dat (.tup [.str kRU, .tup (Q.map rD)]), .dat (.str kRU), .un, .un, .un, .un, .un]) (base := [.dat (.tup [.str kRU, .tup (Q.map rD)]), .dat (.str kRU), .un, .un, .un, .un, .un])
    (mi_UT rfl) rfl rfl (by rw [exF_map]; exact sz (by omega)) (fun x hx => by
      obtain ⟨q, hq, rfl⟩ := List.mem_map.mp hx
      obtain ⟨_, h40⟩ := hQ q hq
      refine ⟨fun acc hz => ?_⟩
      generalize D.tup [.str kRU, .tup (Q.map rD)] = B
      have z0 : ((rgD 0 ((q.2 : Int)).toNat).filter fun _ => true).map (fun _ => q.1) = exF (rD q) := by
        show _ = List.replicate ((q.2 : Int)).toNat q.1
        rw [List.filter_eq_self.mpr (fun _ _ => rfl), Int.toNat_natCast]
        apply List.ext_getElem
        · rw [List.length_map, rgD_len, List.length_replicate]
        · intro i h1 h2
          rw [List.getElem_map, List.getElem_replicate]
      have hz2 : acc.length + (rgD 0 ((q.2 : Int)).toNat).length ≤ sizeLine := by
        have : (exF (rD q)).length = (rgD 0 ((q.2 : Int)).toNat).length := by rw [← z0, List.length_map, List.filter_eq_self.mpr (fun _ _ => rfl)]
        rw [← this]
        exact hz
      obtain ⟨g3, y1, y2⟩ := lcL_fm (tg := gN 2) (tt := zYes) (el := zVar 3) (vs := [2]) (t := 7) (b := fun _ => true) (f := fun _ => q.1) (L := rgD 0 ((q.2 : Int)).toNat) (base := [.dat B, .dat (.str kRU), .un, .dat q.1, .dat (.int (q.2 : Int)), .un, .un]) acc [.dat B, .dat (.str kRU), .un, .dat q.1, .dat (.int (q.2 : Int)), .un, .un] rfl (fun o => rfl) (fun o => rfl) hz2
        (fun d hd => lc_dat (h := [.dat B, .dat (.str kRU), .dat d, .dat q.1, .dat (.int (q.2 : Int)), .un, .un]) rfl (fun o => rfl) (fun o => rfl) (fun o => rfl) (fun o => rfl) (fun _ o => rfl))
      rw [z0] at y2
      refine ⟨[.dat B, .dat (.str kRU), .un, .dat q.1, .dat (.int (q.2 : Int)), .un, .un], [.dat B, .dat (.str kRU), .un, .dat q.1, .dat (.int (q.2 : Int)), .un, .un], _, g3, rfl, rfl, rfl, mi_R1 rfl (rgOk_of (by omega) (by omega)), y1, y2, rfl, rfl⟩)
  rw [exF_map] at e
  unfold d_values_of b_values_of
  refine runP_ap (g := [.dat (.tup [.str kRU, .tup (Q.map rD)]), .un, .un, .un, .un, .un, .un]) rfl rfl ?_
  walk_at "s"
  walk_at "s"
  · walk_at "k"
  intro _
  walk_at "s"
  walk_at "s"
  · walk_at "k"
  intro _
  walk_at "s"
  refine sr_if (b := true) (g1 := [.dat (.tup [.str kRU, .tup (Q.map rD)]), .dat (.str kRU), .un, .un, .un, .un, .un]) rfl rfl (fun _ => ?_) (fun h => by cases h)
  exact sr_retS e rfl
theorem pw_pos (w : Nat) : (0 : Int) < 2 ^ w := Int.pow_pos (by decide)
def packV (w : Nat) : List Int → Int
  | [] => 0
  | n :: r => packV w r * 2 ^ w + n
def Fit (w : Nat) (ns : List Int) : Prop := ∀ n ∈ ns, 0 ≤ n ∧ n < 2 ^ w
theorem pack_bd (w : Nat) : ∀ {ns : List Int}, Fit w ns → 0 ≤ packV w ns ∧ packV w ns < 2 ^ (w * ns.length)
  | [], _ => by simp [packV]
  | n :: r, h => by
    obtain ⟨h1, h2⟩ := pack_bd w (ns := r) fun x hx => h x (List.mem_cons_of_mem _ hx)
    obtain ⟨h3, h4⟩ := h n List.mem_cons_self
    have hp := pw_pos w
    have e : (2 : Int) ^ (w * (n :: r).length) = 2 ^ (w * r.length) * 2 ^ w := by
      rw [List.length_cons, Nat.mul_add, Nat.mul_one, Int.pow_add]
    show 0 ≤ packV w r * 2 ^ w + n ∧ packV w r * 2 ^ w + n < _
    rw [e]
    have a := Int.mul_nonneg h1 (Int.le_of_lt hp)
    have b : (packV w r + 1) * 2 ^ w ≤ 2 ^ (w * r.length) * 2 ^ w := Int.mul_le_mul_of_nonneg_right h2 (Int.le_of_lt hp)
    rw [Int.add_mul, Int.one_mul] at b
    omega
theorem pack_drop (w : Nat) {ns : List Int} {k : Nat} (h : k < ns.length) : packV w (ns.drop k) = packV w (ns.drop (k + 1)) * 2 ^ w + ns[k] := by
  rw [List.drop_eq_getElem_cons h]
  rfl
theorem pack_at (w : Nat) : ∀ {ns : List Int} (k : Nat), Fit w ns → (h : k < ns.length) → packV w ns / 2 ^ (w * k) % 2 ^ w = ns[k]
  | n :: r, 0, hf, _ => by
    obtain ⟨h3, h4⟩ := hf n List.mem_cons_self
    simp only [Nat.mul_zero, Int.pow_zero, Int.ediv_one, List.getElem_cons_zero]
    show (packV w r * 2 ^ w + n) % 2 ^ w = n
    rw [Int.add_comm, Int.add_mul_emod_self_right]
    exact Int.emod_eq_of_lt h3 h4
  | n :: r, k + 1, hf, h => by
    obtain ⟨h3, h4⟩ := hf n List.mem_cons_self
    have ih := pack_at w (ns := r) k (fun x hx => hf x (List.mem_cons_of_mem _ hx)) (by simpa using h)
    rw [List.getElem_cons_succ, ← ih]
    show (packV w r * 2 ^ w + n) / 2 ^ (w * (k + 1)) % 2 ^ w = _
    have hp := pw_pos w
    rw [show w * (k + 1) = w + w * k by rw [Nat.mul_add, Nat.mul_one, Nat.add_comm], Int.pow_add, ← Int.ediv_ediv_of_nonneg (Int.le_of_lt hp)]
    congr 2
    rw [Int.add_comm, Int.add_mul_ediv_right _ _ (by omega), Int.ediv_eq_zero_of_lt h3 h4, Int.zero_add]
theorem pack_ok (ns : List Int) (w : Nat) (hw : w ≤ 70) (hf : Fit w ns) (hl : ns.length ≤ 40) : d_pack [.lst (ns.map D.int), .int w] = some (.dat (.int (packV w ns))) := by
  obtain ⟨g2, e1, b, e2, _⟩ := forL_inv (st := lb_pack_1) (tg := gN 3) (L := (ns.map D.int).reverse) (fun i g => ∃ b, g = [.dat (.lst (ns.map D.int)), .dat (.int w), .dat (.int (packV w (ns.drop (ns.length - i)))), b] ∧ (b = .un ∨ ∃ d, b = .dat d)) 0 _ ⟨.un, rfl, .inl rfl⟩ (fun i d g hd ⟨b, hg, hb⟩ => by
    have hi : i < ns.length := by have := (List.getElem?_eq_some_iff.mp hd).1; simpa using this
    rw [List.getElem?_reverse (by simpa using hi), List.length_map, List.getElem?_map, List.getElem?_eq_getElem (by omega)] at hd
    cases hd
    subst hg
    rw [Nat.zero_add]
    refine ⟨[.dat (.lst (ns.map D.int)), .dat (.int w), .dat (.int (packV w (ns.drop (ns.length - i)))), .dat (.int ns[ns.length - 1 - i])], [.dat (.lst (ns.map D.int)), .dat (.int w), .dat (.int (packV w (ns.drop (ns.length - (i + 1))))), .un], by rcases hb with rfl | ⟨x, rfl⟩ <;> rfl, .inl ?_, _, rfl, .inl rfl⟩
    obtain ⟨p1, p2⟩ := pack_bd w (ns := ns.drop (ns.length - i)) fun x hx => hf x (List.mem_of_mem_drop hx)
    have hB : w * (ns.drop (ns.length - i)).length ≤ 70 * 40 := Nat.mul_le_mul hw (by rw [List.length_drop]; omega)
    have hs : shlD (.int (packV w (ns.drop (ns.length - i)))) (.int w) = some (.int (packV w (ns.drop (ns.length - i)) * 2 ^ w)) := dr_shl (B := w * (ns.drop (ns.length - i)).length) (by
      have : ((packV w (ns.drop (ns.length - i))).natAbs : Int) < ((2 ^ (w * (ns.drop (ns.length - i)).length) : Nat) : Int) := by
        rw [Int.natAbs_of_nonneg p1, Int.natCast_pow]
        exact p2
      exact Int.ofNat_lt.mp this) (Nat.le_trans (Nat.add_le_add hB hw) (by decide))
    have e : packV w (ns.drop (ns.length - (i + 1))) = packV w (ns.drop (ns.length - i)) * 2 ^ w + ns[ns.length - 1 - i] := by
      have := pack_drop w (ns := ns) (k := ns.length - 1 - i) (by omega)
      rw [show ns.length - 1 - i + 1 = ns.length - i by omega] at this
      rw [show ns.length - (i + 1) = ns.length - 1 - i by omega]
      exact this
    rw [e]
    unfold lb_pack_1
    refine of_ap ?_
    walk_at "r"
    exact rfl)
  subst e2
  rw [List.length_reverse, List.length_map, Nat.zero_add, Nat.sub_self, List.drop_zero, Nat.sub_zero, List.drop_length] at e1
  unfold d_pack b_pack
  refine runP_ap (g := [.dat (.lst (ns.map D.int)), .dat (.int w), .un, .un]) rfl rfl ?_
  walk_at "s"
  refine seq_nx (for_none (mi_rev rfl) rfl e1) ?_
  walk_at "s"
  exact rfl
def unpV (bits : Int) (w : Nat) (m : Nat) : List Int := (List.range m).map fun k => bits / 2 ^ (w * k) % 2 ^ w
theorem unpack_ok (bits : Int) (w m : Nat) (hw : w ≤ 70) (hm : m ≤ 40) : d_unpack [.int bits, .int w, .int m] = some (.new (.lst ((unpV bits w m).map D.int))) := by
  obtain ⟨g3, e1, b, e2, _⟩ := lcL_inv (tg := gN 4) (tt := zYes) (el := zOp andD (zOp shrD (zVar 0) (zOp mulD (zVar 1) (zVar 4))) (zVar 3)) (vs := [4]) (t := 5) (L := rgD 0 m)
    (fun i g => ∃ b, g = [.dat (.int bits), .dat (.int w), .dat (.int m), .dat (.int (1 * 2 ^ w - 1)), b, .own (.lst ((unpV bits w i).map D.int)) false false] ∧ (b = .un ∨ ∃ d, b = .dat d) ∧ i ≤ 40) 0 [.dat (.int bits), .dat (.int w), .dat (.int m), .dat (.int (1 * 2 ^ w - 1)), .un, .own (.lst []) false false] ⟨.un, rfl, .inl rfl, by decide⟩ (fun i g ⟨b, hg, hb, _⟩ => by
      subst hg
      rcases hb with rfl | ⟨x, rfl⟩ <;> rfl) (fun i x g hd ⟨b, hg, hb, h40⟩ => by
      obtain ⟨hi, rfl⟩ := rgD_at hd
      subst hg
      rw [Nat.zero_add] at h40 ⊢
      have hz : ((unpV bits w i).map D.int).length < sizeLine := by
        rw [List.length_map, unpV, List.length_map, List.length_range]
        exact Nat.lt_of_le_of_lt h40 (by decide)
      have hsr : shrD (.int bits) (.int ((w : Int) * (0 + (i : Int)))) = some (.int (bits / 2 ^ (w * i))) := by
        rw [show (w : Int) * (0 + (i : Int)) = ((w * i : Nat) : Int) by rw [Int.zero_add, Int.natCast_mul]]
        exact dr_shr
      refine ⟨[.dat (.int bits), .dat (.int w), .dat (.int m), .dat (.int (1 * 2 ^ w - 1)), .dat (.int (0 + (i : Int))), .own (.lst ((unpV bits w (i + 1)).map D.int)) false false], ⟨_, rfl, .inr ⟨_, rfl⟩, by omega⟩, fun xs o k => ?_⟩
      refine lcL_go (g1 := [.dat (.int bits), .dat (.int w), .dat (.int m), .dat (.int (1 * 2 ^ w - 1)), .dat (.int (0 + (i : Int))), .own (.lst ((unpV bits w i).map D.int)) false false]) (by rcases hb with rfl | ⟨x, rfl⟩ <;> rfl) (by rcases hb with rfl | ⟨x, rfl⟩ <;> rfl) rfl (by walk_at "e") rfl rfl hz rfl ?_
      have e : (unpV bits w (i + 1)).map D.int = (unpV bits w i).map D.int ++ [.int (Builtin.bitAnd (bits / 2 ^ (w * i)) (1 * 2 ^ w - 1))] := by
        rw [Int.one_mul, PySem.W.kbt_mask]
        unfold unpV
        rw [List.range_succ, List.map_append, List.map_append]
        rfl
      rw [e] at k
      exact k)
  subst e2
  rw [rgD_len, Nat.zero_add] at e1
  unfold d_unpack b_unpack
  have hs : shlD (.int 1) (.int w) = some (.int (1 * 2 ^ w)) := dr_shl (B := 1) (by decide) (Nat.le_trans (Nat.add_le_add_left hw 1) (by decide))
  refine runP_ap (g := [.dat (.int bits), .dat (.int w), .dat (.int m), .un, .un]) rfl rfl ?_
  walk_at "s"
  refine sr_ret (er_lc (g3 := [.dat (.int bits), .dat (.int w), .dat (.int m), .dat (.int (1 * 2 ^ w - 1)), b, .own (.lst ((unpV bits w m).map D.int)) false false]) (mi_R1 (k := (m : Int)) rfl (rgOk_of (by omega) (by omega))) (by rw [Int.toNat_natCast]; exact e1) rfl) ?_
  exact rfl
theorem width_ok (n : Int) : d_width_for [.int n] = some (.dat (.int (Builtin.Int.intBits n : Nat))) := by
  unfold d_width_for b_width_for
  refine runP_ap (g := [.dat (.int n)]) rfl rfl ?_
  walk_at "s"
  exact rfl
theorem unp_eq {w : Nat} {ns : List Int} (hf : Fit w ns) {m : Nat} (hm : m ≤ ns.length) : unpV (packV w ns) w m = ns.take m := by
  refine List.ext_getElem (by unfold unpV; simp; omega) fun i h1 h2 => ?_
  unfold unpV at h1 ⊢
  rw [List.getElem_map, List.getElem_range, List.getElem_take]
  rw [List.length_map, List.length_range] at h1
  exact pack_at w i hf (by omega)
theorem unp_all {w : Nat} {ns : List Int} (hf : Fit w ns) : unpV (packV w ns) w ns.length = ns := by rw [unp_eq hf (Nat.le_refl _), List.take_length]
theorem bits_fit {m n : Int} (h0 : 0 ≤ n) (h : n ≤ m) : n < 2 ^ (Builtin.Int.intBits m) := by
  obtain ⟨k, rfl⟩ := Int.eq_ofNat_of_zero_le (Int.le_trans h0 h)
  unfold Builtin.Int.intBits
  by_cases z : k = 0
  · subst z
    have : n = 0 := by omega
    subst this
    decide
  · have h1 : (((k : Nat) : Int) == 0) = false := by simp; omega
    rw [h1]
    simp only [Bool.false_eq_true, if_false, Int.natAbs_natCast]
    have := @Nat.lt_log2_self k
    have e : ((2 ^ (Nat.log2 k + 1) : Nat) : Int) = (2 : Int) ^ (Nat.log2 k + 1) := Int.natCast_pow ..
    omega
theorem bits_le {m : Int} (h0 : 0 ≤ m) (h : m < 2 ^ 60) : Builtin.Int.intBits m ≤ 60 := by
  obtain ⟨k, rfl⟩ := Int.eq_ofNat_of_zero_le h0
  unfold Builtin.Int.intBits
  by_cases z : k = 0
  · subst z
    decide
  · have h1 : (((k : Nat) : Int) == 0) = false := by simp; omega
    rw [h1]
    simp only [Bool.false_eq_true, if_false, Int.natAbs_natCast]
    have := (Nat.log2_lt z).mpr (show k < 2 ^ 60 by omega)
    omega
def g3 (v : D) : ZN.G3 := (vN v, [v], [])
theorem words_g (W : List D) : ZN.wordsD (W.map g3) = W := by
  unfold ZN.wordsD
  rw [List.map_map]
  conv => rhs; rw [← List.map_id W]
  rfl
def atJ (W : List D) : D → D
  | .int j => (W[j.toNat]?).getD .non
  | _ => .non
theorem jint (J : List Nat) : (J.map fun j : Nat => (j : Int)).map D.int = J.map fun j : Nat => D.int (j : Int) := by rw [List.map_map]; rfl
theorem dict_vals {P W : List D} {J : List Nat} {w : Nat} (hl : P.length ≤ 40) (hfit : Fit w (J.map fun j : Nat => (j : Int))) (hJl : J.length = P.length) (hw : w ≤ 60) (hJ : J.map (fun j => W[j]?) = P.map some) :
    d_values_of [.tup [.str kDI, .tup W, .int (P.length : Int), .int (w : Int), .int (packV w (J.map fun j : Nat => (j : Int)))]] = some (.new (.lst P)) := by
  have u := unpack_ok (packV w (J.map fun j : Nat => (j : Int))) w P.length (by omega) hl
  have ul := unp_all hfit
  rw [List.length_map, hJl] at ul
  rw [ul, jint] at u
  generalize packV w (J.map fun j : Nat => (j : Int)) = bits at *
  have e := er_lc1 (b := fun _ => true) (f := atJ W) (L := J.map fun j : Nat => D.int (j : Int)) (mi := ziL 7 (zCall d_unpack (zCons (zIx (zVar 0) (zC (.int 4))) (zCons (zIx (zVar 0) (zC (.int 3))) (zCons (zIx (zVar 0) (zC (.int 2))) (zNil)))))) (tg := gN 5) (tt := zYes) (el := zIx (zIx (zVar 0) (zC (.int 1))) (zVar 5)) (vs := [5])
    (g := [.dat (.tup [.str kDI, .tup W, .int (P.length : Int), .int (w : Int), .int bits]), .dat (.str kDI), .un, .un, .un, .un, .un])
    (h := [.dat (.tup [.str kDI, .tup W, .int (P.length : Int), .int (w : Int), .int bits]), .dat (.str kDI), .un, .un, .un, .un, .un, .frz (.lst (J.map fun j : Nat => D.int (j : Int)))])
    (base := [.dat (.tup [.str kDI, .tup W, .int (P.length : Int), .int (w : Int), .int bits]), .dat (.str kDI), .un, .un, .un, .un, .un, .frz (.lst (J.map fun j : Nat => D.int (j : Int)))])
    (mi_Lt (j := 7) (g1 := [.dat (.tup [.str kDI, .tup W, .int (P.length : Int), .int (w : Int), .int bits]), .dat (.str kDI), .un, .un, .un, .un, .un, .own (.lst (J.map fun j : Nat => D.int (j : Int))) false false]) (er_callL (g1 := [.dat (.tup [.str kDI, .tup W, .int (P.length : Int), .int (w : Int), .int bits]), .dat (.str kDI), .un, .un, .un, .un, .un]) (ds := [.int bits, .int (w : Int), .int (P.length : Int)]) rfl u) (Nat.le_of_ble_eq_true rfl) rfl)
    (fun o => rfl) (fun o => rfl) (sz (by rw [List.length_map]; omega)) (fun d hd => by
      obtain ⟨j, hj, rfl⟩ := List.mem_map.mp hd
      obtain ⟨x, hx⟩ : ∃ x, W[j]? = some x := by
        have : W[j]? ∈ P.map some := by rw [← hJ]; exact List.mem_map.mpr ⟨j, hj, rfl⟩
        obtain ⟨x, _, hx⟩ := List.mem_map.mp this
        exact ⟨x, hx.symm⟩
      have hx1 : ixD (.tup W) (j : Int) = some x := atI_nat hx
      have hf : atJ W (.int (j : Int)) = x := by show (W[((j : Int)).toNat]?).getD .non = x; rw [Int.toNat_natCast, hx]; rfl
      rw [hf]
      refine lc_dat (h := [.dat (.tup [.str kDI, .tup W, .int (P.length : Int), .int (w : Int), .int bits]), .dat (.str kDI), .un, .un, .un, .dat (.int (j : Int)), .un, .frz (.lst (J.map fun j : Nat => D.int (j : Int)))]) rfl (fun o => rfl) (fun o => rfl) (fun o => rfl) (fun o => rfl) (fun _ o => ?_)
      exact er_ix (er_ix rfl rfl rfl (show ixD (.tup [.str kDI, .tup W, .int (P.length : Int), .int (w : Int), .int bits]) 1 = some (.tup W) from rfl)) rfl rfl hx1)
  have lists : ((J.map fun j : Nat => D.int (j : Int)).filter fun _ => true).map (atJ W) = P := by
    rw [List.filter_eq_self.mpr (fun _ _ => rfl), List.map_map]
    have q := congrArg (List.map fun o : Option D => o.getD .non) hJ
    rw [List.map_map, List.map_map] at q
    have q2 : P.map ((fun o : Option D => o.getD .non) ∘ some) = P := by
      conv => rhs; rw [← List.map_id P]
      rfl
    rw [q2] at q
    rw [← q]
    apply List.map_congr_left
    intro j hj
    show (W[((j : Int)).toNat]?).getD .non = _
    rw [Int.toNat_natCast]
    rfl
  rw [lists] at e
  unfold d_values_of b_values_of
  refine runP_ap (g := [.dat (.tup [.str kDI, .tup W, .int (P.length : Int), .int (w : Int), .int bits]), .un, .un, .un, .un, .un, .un]) rfl rfl ?_
  walk_at "s"
  refine sr_if (b := false) (g1 := [.dat (.tup [.str kDI, .tup W, .int (P.length : Int), .int (w : Int), .int bits]), .dat (.str kDI), .un, .un, .un, .un, .un]) rfl rfl (fun h => by cases h) (fun _ => sr_nx ?_)
  refine sr_if (b := false) (g1 := [.dat (.tup [.str kDI, .tup W, .int (P.length : Int), .int (w : Int), .int bits]), .dat (.str kDI), .un, .un, .un, .un, .un]) rfl rfl (fun h => by cases h) (fun _ => sr_nx ?_)
  refine sr_if (b := false) (g1 := [.dat (.tup [.str kDI, .tup W, .int (P.length : Int), .int (w : Int), .int bits]), .dat (.str kDI), .un, .un, .un, .un, .un]) rfl rfl (fun h => by cases h) (fun _ => sr_nx ?_)
  refine sr_if (b := true) (g1 := [.dat (.tup [.str kDI, .tup W, .int (P.length : Int), .int (w : Int), .int bits]), .dat (.str kDI), .un, .un, .un, .un, .un]) rfl rfl (fun _ => ?_) (fun h => by cases h)
  exact sr_retS e rfl
def isIV : D → Bool
  | .int _ => true
  | _ => false
theorem isint_v (v : D) (h : CV v) : d_is_integer [v] = some (.dat (.bl (isIV v))) := by
  cases v with
  | non =>
    unfold d_is_integer b_is_integer
    refine runP_ap (g := [.dat .non]) rfl rfl ?_
    walk_at "s"
    exact rfl
  | bl b =>
    unfold d_is_integer b_is_integer
    refine runP_ap (g := [.dat (.bl b)]) rfl rfl ?_
    walk_at "s"
    exact rfl
  | int i =>
    unfold d_is_integer b_is_integer
    refine runP_ap (g := [.dat (.int i)]) rfl rfl ?_
    walk_at "s"
    exact rfl
  | str t =>
    unfold d_is_integer b_is_integer
    refine runP_ap (g := [.dat (.str t)]) rfl rfl ?_
    walk_at "s"
    exact rfl
  | _ => exact h.1.elim
def over (ns : List Int) (l : Int) : List Int := ns.map fun n => n - l
def subI (l : Int) : D → D
  | .int n => .int (n - l)
  | d => d
theorem over_back (ns : List Int) (l : Int) : (over ns l).map (fun n => l + n) = ns := by
  unfold over
  rw [List.map_map]
  conv => rhs; rw [← List.map_id ns]
  apply List.map_congr_left
  intro n _
  show l + (n - l) = n
  omega
theorem over_len (ns : List Int) (l : Int) : (over ns l).length = ns.length := List.length_map _
def addI (l : Int) : D → D
  | .int n => .int (l + n)
  | d => d
theorem addI_back (ns : List Int) (l : Int) : (((over ns l).map D.int).filter fun _ => true).map (addI l) = ns.map D.int := by
  rw [List.filter_eq_self.mpr (fun _ _ => rfl), List.map_map]
  conv => rhs; rw [← over_back ns l]
  rw [List.map_map]
  rfl
def pB (fm : List Nat) (l : Int) (n w : Nat) (bits : Int) : D := .tup [.str fm, .int l, .int (n : Int), .int (w : Int), .int bits]
theorem packed_vals {ns : List Int} {l : Int} {w : Nat} (hl : ns.length ≤ 40) (hf : Fit w (over ns l)) (hw : w ≤ 60) : d_values_of [pB kPA l ns.length w (packV w (over ns l))] = some (.new (.lst (ns.map D.int))) := by
  have u := unpack_ok (packV w (over ns l)) w ns.length (by omega) hl
  have ul := unp_all hf
  rw [over_len] at ul
  rw [ul] at u
  have back := addI_back ns l
  have hol := over_len ns l
  have e := er_lc1 (b := fun _ => true) (f := addI l) (L := (over ns l).map D.int) (mi := ziL 7 (zCall d_unpack (zCons (zIx (zVar 0) (zC (.int 4))) (zCons (zIx (zVar 0) (zC (.int 3))) (zCons (zIx (zVar 0) (zC (.int 2))) (zNil)))))) (tg := gN 6) (tt := zYes) (el := zOp addS (zIx (zVar 0) (zC (.int 1))) (zVar 6)) (vs := [6])
    (g := [.dat (pB kPA l ns.length w (packV w (over ns l))), .dat (.str kPA), .un, .un, .un, .un, .un])
    (h := [.dat (pB kPA l ns.length w (packV w (over ns l))), .dat (.str kPA), .un, .un, .un, .un, .un, .frz (.lst ((over ns l).map D.int))])
    (base := [.dat (pB kPA l ns.length w (packV w (over ns l))), .dat (.str kPA), .un, .un, .un, .un, .un, .frz (.lst ((over ns l).map D.int))])
    (mi_Lt (j := 7) (g1 := [.dat (pB kPA l ns.length w (packV w (over ns l))), .dat (.str kPA), .un, .un, .un, .un, .un, .own (.lst ((over ns l).map D.int)) false false]) (er_callL (g1 := [.dat (pB kPA l ns.length w (packV w (over ns l))), .dat (.str kPA), .un, .un, .un, .un, .un]) (ds := [.int (packV w (over ns l)), .int (w : Int), .int (ns.length : Int)]) rfl u) (Nat.le_of_ble_eq_true rfl) rfl)
    (fun o => rfl) (fun o => rfl) (sz (by rw [List.length_map]; omega)) (fun d hd => by
      obtain ⟨n, hn, rfl⟩ := List.mem_map.mp hd
      exact lc_dat (h := [.dat (pB kPA l ns.length w (packV w (over ns l))), .dat (.str kPA), .un, .un, .un, .un, .dat (.int n), .frz (.lst ((over ns l).map D.int))]) rfl (fun o => rfl) (fun o => rfl) (fun o => rfl) (fun o => rfl) (fun _ o => rfl))
  rw [back] at e
  unfold d_values_of b_values_of
  refine runP_ap (g := [.dat (pB kPA l ns.length w (packV w (over ns l))), .un, .un, .un, .un, .un, .un]) rfl rfl ?_
  refine seq_nx (g1 := [.dat (pB kPA l ns.length w (packV w (over ns l))), .dat (.str kPA), .un, .un, .un, .un, .un]) (set_dat (er_ix rfl rfl rfl rfl) rfl rfl) ?_
  refine sr_if (b := false) (g1 := [.dat (pB kPA l ns.length w (packV w (over ns l))), .dat (.str kPA), .un, .un, .un, .un, .un]) rfl rfl (fun h => by cases h) (fun _ => sr_nx ?_)
  refine sr_if (b := false) (g1 := [.dat (pB kPA l ns.length w (packV w (over ns l))), .dat (.str kPA), .un, .un, .un, .un, .un]) rfl rfl (fun h => by cases h) (fun _ => sr_nx ?_)
  refine sr_if (b := false) (g1 := [.dat (pB kPA l ns.length w (packV w (over ns l))), .dat (.str kPA), .un, .un, .un, .un, .un]) rfl rfl (fun h => by cases h) (fun _ => sr_nx ?_)
  refine sr_if (b := false) (g1 := [.dat (pB kPA l ns.length w (packV w (over ns l))), .dat (.str kPA), .un, .un, .un, .un, .un]) rfl rfl (fun h => by cases h) (fun _ => sr_nx ?_)
  refine sr_if (b := true) (g1 := [.dat (pB kPA l ns.length w (packV w (over ns l))), .dat (.str kPA), .un, .un, .un, .un, .un]) rfl rfl (fun _ => ?_) (fun h => by cases h)
  exact sr_retS e rfl
def diffs (ns : List Int) : List Int := (List.range (ns.length - 1)).map fun k => ns.getD (k + 1) 0 - ns.getD k 0
theorem diffs_len (ns : List Int) : (diffs ns).length = ns.length - 1 := by unfold diffs; rw [List.length_map, List.length_range]
theorem getD_mem {ns : List Int} {k : Nat} (h : k < ns.length) : ns.getD k 0 ∈ ns := by
  rw [List.getD_eq_getElem?_getD, List.getElem?_eq_getElem h]
  exact List.getElem_mem h
theorem diffs_bd {ns : List Int} (hb : ∀ n ∈ ns, n.natAbs ≤ 10 ^ 15) : ∀ d ∈ diffs ns, d.natAbs ≤ 4 * 10 ^ 15 := fun d hd => by
  obtain ⟨k, hk, rfl⟩ := List.mem_map.mp hd
  have hk := List.mem_range.mp hk
  have a := hb _ (getD_mem (ns := ns) (k := k) (by omega))
  have b := hb _ (getD_mem (ns := ns) (k := k + 1) (by omega))
  omega
theorem at_getD {ns : List Int} {k : Nat} (h : k < ns.length) : ns[k]? = some (ns.getD k 0) := by
  rw [List.getD_eq_getElem?_getD, List.getElem?_eq_getElem h]
  rfl
theorem ix_getD {ns : List Int} {k : Nat} (h : k < ns.length) : ixD (.lst (ns.map D.int)) (k : Int) = some (.int (ns.getD k 0)) := by
  show atI (ns.map D.int) (k : Int) = _
  exact atI_map (f := D.int) (atI_nat (at_getD h))
theorem added_ok (ns : List Int) (h : 0 < ns.length) (hl : ns.length ≤ 40) : d_added_up [.int (ns.getD 0 0), .lst ((diffs ns).map D.int)] = some (.new (.lst (ns.map D.int))) := by
  have hdl := diffs_len ns
  obtain ⟨g2, e, rfl⟩ := forL_inv (st := lb_added_up_1) (tg := gN 3) (L := (diffs ns).map D.int) (fun i g => g = [.dat (.int (ns.getD 0 0)), .dat (.lst ((diffs ns).map D.int)), .own (.lst ((ns.take (i + 1)).map D.int)) false false, .un]) 0 [.dat (.int (ns.getD 0 0)), .dat (.lst ((diffs ns).map D.int)), .own (.lst [.int (ns.getD 0 0)]) false false, .un] (by
      rw [Nat.zero_add, List.take_succ, List.take_zero, at_getD h]
      rfl) (fun i d g hd hg => by
    rw [Nat.zero_add] at hg ⊢
    subst hg
    rw [List.getElem?_map, Option.map_eq_some_iff] at hd
    obtain ⟨x, hx, rfl⟩ := hd
    have hi : i < ns.length - 1 := by rw [← hdl]; exact (List.getElem?_eq_some_iff.mp hx).1
    have hxe : x = ns.getD (i + 1) 0 - ns.getD i 0 := by
      unfold diffs at hx
      rw [List.getElem?_map, List.getElem?_range hi] at hx
      exact (Option.some.inj hx).symm
    have hz : ((ns.take (i + 1)).map D.int).length < sizeLine := Nat.lt_of_le_of_lt (show ((ns.take (i + 1)).map D.int).length ≤ 40 by rw [List.length_map, List.length_take]; omega) (by decide)
    have hlast : ixD (.lst ((ns.take (i + 1)).map D.int)) (-1) = some (.int (ns.getD i 0)) := by
      show atI ((ns.take (i + 1)).map D.int) (-1) = _
      refine atI_last ?_
      rw [List.take_succ, at_getD (show i < ns.length by omega), List.map_append]
      simp
    have hnew : (ns.take (i + 1 + 1)).map D.int = (ns.take (i + 1)).map D.int ++ [.int (ns.getD i 0 + x)] := by
      rw [List.take_succ (i := i + 1), at_getD (show i + 1 < ns.length by omega), List.map_append, hxe, show ns.getD i 0 + (ns.getD (i + 1) 0 - ns.getD i 0) = ns.getD (i + 1) 0 by omega]
      rfl
    refine ⟨[.dat (.int (ns.getD 0 0)), .dat (.lst ((diffs ns).map D.int)), .own (.lst ((ns.take (i + 1)).map D.int)) false false, .dat (.int x)], _, rfl, .inl ?_, rfl⟩
    rw [hnew]
    generalize (ns.take (i + 1)).map D.int = T at *
    generalize (diffs ns).map D.int = F at *
    generalize ns.getD 0 0 = a at *
    generalize ns.getD i 0 = b at *
    unfold lb_added_up_1
    refine of_ap ?_
    walk_at "r"
    exact rfl)
  rw [List.length_map, hdl, Nat.zero_add, show ns.length - 1 + 1 = ns.length by omega, List.take_length] at e
  generalize (diffs ns).map D.int = F at *
  generalize ns.getD 0 0 = a at *
  generalize ns.map D.int = N at *
  unfold d_added_up b_added_up
  refine runP_ap (g := [.dat (.int a), .dat (.lst F), .un, .un]) rfl rfl ?_
  walk_at "s"
  refine seq_nx (for_none (mi_Ld rfl) rfl e) ?_
  walk_at "s"
  exact rfl
def dB (a l : Int) (n w : Nat) (bits : Int) : D := .tup [.str kDE, .int a, .int l, .int (n : Int), .int (w : Int), .int bits]
theorem deltas_vals {ns : List Int} {l : Int} {w : Nat} (h : 0 < ns.length) (hl : ns.length ≤ 40) (hf : Fit w (over (diffs ns) l)) (hw : w ≤ 60) : d_values_of [dB (ns.getD 0 0) l ns.length w (packV w (over (diffs ns) l))] = some (.new (.lst (ns.map D.int))) := by
  have hdl := diffs_len ns
  have u := unpack_ok (packV w (over (diffs ns) l)) w (ns.length - 1) (by omega) (by omega)
  have ul := unp_all hf
  rw [over_len, hdl] at ul
  rw [ul] at u
  rw [show ((ns.length - 1 : Nat) : Int) = (ns.length : Int) - 1 by omega] at u
  have back := addI_back (diffs ns) l
  have hol := over_len (diffs ns) l
  have ad := added_ok ns h hl
  generalize hB : dB (ns.getD 0 0) l ns.length w (packV w (over (diffs ns) l)) = B at *
  have x0 : ixD B 0 = some (.str kDE) := by rw [← hB]; rfl
  have x1 : ixD B 1 = some (.int (ns.getD 0 0)) := by rw [← hB]; rfl
  have x2 : ixD B 2 = some (.int l) := by rw [← hB]; rfl
  have x3 : ixD B 3 = some (.int (ns.length : Int)) := by rw [← hB]; rfl
  have x4 : ixD B 4 = some (.int (w : Int)) := by rw [← hB]; rfl
  have x5 : ixD B 5 = some (.int (packV w (over (diffs ns) l))) := by rw [← hB]; rfl
  have e := er_lc1 (b := fun _ => true) (f := addI l) (L := (over (diffs ns) l).map D.int) (mi := ziL 7 (zCall d_unpack (zCons (zIx (zVar 0) (zC (.int 5))) (zCons (zIx (zVar 0) (zC (.int 4))) (zCons (zOp subD (zIx (zVar 0) (zC (.int 3))) (zC (.int 1))) (zNil)))))) (tg := gN 6) (tt := zYes) (el := zOp addS (zIx (zVar 0) (zC (.int 2))) (zVar 6)) (vs := [6])
    (g := [.dat B, .dat (.str kDE), .un, .un, .un, .un, .un])
    (h := [.dat B, .dat (.str kDE), .un, .un, .un, .un, .un, .frz (.lst ((over (diffs ns) l).map D.int))])
    (base := [.dat B, .dat (.str kDE), .un, .un, .un, .un, .un, .frz (.lst ((over (diffs ns) l).map D.int))])
    (mi_Lt (j := 7) (g1 := [.dat B, .dat (.str kDE), .un, .un, .un, .un, .un, .own (.lst ((over (diffs ns) l).map D.int)) false false]) (er_callL (g1 := [.dat B, .dat (.str kDE), .un, .un, .un, .un, .un]) (ds := [.int (packV w (over (diffs ns) l)), .int (w : Int), .int ((ns.length : Int) - 1)]) (er_cons (er_ix rfl rfl rfl x5) (er_cons (er_ix rfl rfl rfl x4) (er_cons (er_op (er_ix rfl rfl rfl x3) er_C rfl rfl rfl rfl) er_nil))) u) (Nat.le_of_ble_eq_true rfl) rfl)
    (fun o => rfl) (fun o => rfl) (sz (by rw [List.length_map]; omega)) (fun d hd => by
      obtain ⟨n, hn, rfl⟩ := List.mem_map.mp hd
      exact lc_dat (h := [.dat B, .dat (.str kDE), .un, .un, .un, .un, .dat (.int n), .frz (.lst ((over (diffs ns) l).map D.int))]) rfl (fun o => rfl) (fun o => rfl) (fun o => rfl) (fun o => rfl) (fun _ o => er_op (er_ix rfl rfl rfl x2) rfl rfl rfl rfl rfl))
  rw [back] at e
  unfold d_values_of b_values_of
  refine runP_ap (g := [.dat B, .un, .un, .un, .un, .un, .un]) rfl rfl ?_
  refine seq_nx (g1 := [.dat B, .dat (.str kDE), .un, .un, .un, .un, .un]) (set_dat (er_ix rfl rfl rfl x0) rfl rfl) ?_
  refine sr_if (b := false) (g1 := [.dat B, .dat (.str kDE), .un, .un, .un, .un, .un]) rfl rfl (fun h => by cases h) (fun _ => sr_nx ?_)
  refine sr_if (b := false) (g1 := [.dat B, .dat (.str kDE), .un, .un, .un, .un, .un]) rfl rfl (fun h => by cases h) (fun _ => sr_nx ?_)
  refine sr_if (b := false) (g1 := [.dat B, .dat (.str kDE), .un, .un, .un, .un, .un]) rfl rfl (fun h => by cases h) (fun _ => sr_nx ?_)
  refine sr_if (b := false) (g1 := [.dat B, .dat (.str kDE), .un, .un, .un, .un, .un]) rfl rfl (fun h => by cases h) (fun _ => sr_nx ?_)
  refine sr_if (b := false) (g1 := [.dat B, .dat (.str kDE), .un, .un, .un, .un, .un]) rfl rfl (fun h => by cases h) (fun _ => sr_nx ?_)
  have hsc : (Cn.lst (ns.map D.int)).scal = true := List.all_eq_true.mpr (fun x hx => by obtain ⟨n, _, rfl⟩ := List.mem_map.mp hx; rfl)
  generalize (over (diffs ns) l).map D.int = O at *
  generalize (diffs ns).map D.int = F at *
  generalize ns.map D.int = N at *
  refine sr_ret (er_callN (rs := [.dat (.int (ns.getD 0 0)), .bor 8]) (ds := [.int (ns.getD 0 0), .lst F]) (g1 := [.dat B, .dat (.str kDE), .un, .un, .un, .un, .un, .frz (.lst O), .own (.lst F) false false]) (er_cons (er_ix rfl rfl rfl x1) (er_cons e er_nil)) rfl ad hsc) ?_
  exact rfl
theorem runs_turn (P : D) (Q : List (D × Nat)) (hQ : QOk Q) (hl : Q.length ≤ 40) (d : D) (hd : CV d) (hz : (expand Q).length ≤ 39) : ∃ Q', lb_runs_body_1 [.dat P, .own (.lst (Q.map rD)) false false, .dat d] = some (.nx, [.dat P, .own (.lst (Q'.map rD)) false false, .un]) ∧ expand Q' = expand Q ++ [d] ∧ QOk Q' ∧ Q'.length ≤ Q.length + 1 := by
  have r2 := rank_ok d (cv_W hd)
  have hzl : (Q.map rD).length < sizeLine := Nat.lt_of_le_of_lt (show (Q.map rD).length ≤ 40 by rw [List.length_map]; exact hl) (by decide)
  have addNew : zApp 3 (zVar 1) (zTup (zCons (zVar 2) (zCons (zC (.int 1)) (zNil)))) [.dat P, .own (.lst (Q.map rD)) false false, .dat d] = some (.nx, [.dat P, .own (.lst ((Q ++ [(d, 1)]).map rD)) false false, .dat d]) := by
    rw [List.map_append]
    exact app_run (j := 1) (ds := Q.map rD) (d := rD (d, 1)) (g2 := [.dat P, .own (.lst (Q.map rD)) false false, .dat d]) rfl rfl (er_tup (ds := [d, .int 1]) (er_cons rfl (er_cons rfl er_nil)) rfl (sz (show 2 ≤ 100000 by decide))) rfl rfl hzl rfl
  have okNew : QOk (Q ++ [(d, 1)]) := fun q hq => by
    rcases List.mem_append.mp hq with h | h
    · exact hQ q h
    · rw [List.mem_singleton.mp h]; exact ⟨hd, show 1 ≤ 40 by decide⟩
  cases hc : Q.getLast? with
  | none =>
    have hn := List.getLast?_eq_none_iff.mp hc
    subst hn
    refine ⟨[(d, 1)], ?_, rfl, okNew, by simp⟩
    unfold lb_runs_body_1
    refine of_ap (ap_fg (sr_if1 (b := false) (g1 := [.dat P, .own (.lst []) false false, .dat d]) (er_andTF (b1 := false) (g1 := [.dat P, .own (.lst []) false false, .dat d]) rfl rfl) rfl (fun h => by cases h) (fun _ => ?_)))
    exact one_nx addNew (fgK_nx rfl rfl rfl)
  | some q =>
    obtain ⟨Q1, rfl⟩ : ∃ Q1, Q = Q1 ++ [q] := by
      obtain ⟨Q1, h⟩ := List.getLast?_eq_some_iff.mp hc
      exact ⟨Q1, h⟩
    obtain ⟨hq1, hq2⟩ := hQ q (List.mem_append_right _ (List.mem_singleton.mpr rfl))
    have r1 := rank_ok q.1 (cv_W hq1)
    have hE := eq_rkW (cv_W hq1) (cv_W hd)
    have hx : ixD (.lst ((Q1 ++ [q]).map rD)) (-1) = some (rD q) := by
      show atI ((Q1 ++ [q]).map rD) (-1) = _
      refine atI_last ?_
      rw [List.map_append]
      simp
    have hlen : lenD [.lst ((Q1 ++ [q]).map rD)] = some (.int (((Q1 ++ [q]).length : Nat) : Int)) := by
      rw [len_l, List.length_map]
    have hgt : gtD (.int (((Q1 ++ [q]).length : Nat) : Int)) (.int 0) = some (.bl true) := by
      have : 0 < (Q1 ++ [q]).length := by simp
      exact congrArg (fun b => some (D.bl b)) (decide_eq_true (by omega))
    have hi : ixN ((Q1 ++ [q]).map rD).length (-1) = some Q1.length := by
      rw [ixN_last (by rw [List.length_map, List.length_append]; simp)]
      congr 1
      rw [List.length_map, List.length_append]
      simp
    have hset : ((Q1 ++ [q]).map rD).set Q1.length (rD (q.1, q.2 + 1)) = (Q1 ++ [(q.1, q.2 + 1)]).map rD := by
      rw [← List.map_set, List.set_append_right _ _ (Nat.le_refl _), Nat.sub_self]
      rfl
    rw [expand_snoc, List.length_append, List.length_replicate] at hz
    generalize hL : (Q1 ++ [q]).map rD = L at *
    have hx1 : ixD (rD q) 0 = some q.1 := rfl
    have hx2 : ixD (rD q) 1 = some (.int (q.2 : Int)) := rfl
    have hT : zAndT (zTst (zOp gtD (zCallS lenD (zCons (zVar 1) (zNil))) (zC (.int 0)))) (zTst (zOp eqD (zCall d_rank (zCons (zIx (zIx (zVar 1) (zUn negD (zC (.int 1)))) (zC (.int 0))) (zNil))) (zCall d_rank (zCons (zVar 2) (zNil))))) [.dat P, .own (.lst L) false false, .dat d] = some (sameV q.1 d, [.dat P, .own (.lst L) false false, .dat d]) := by
      generalize rk q.1 = a at *
      generalize rk d = b at *
      generalize rD q = rq at *
      generalize q.1 = q1 at *
      refine er_andTT (b1 := true) (g1 := [.dat P, .own (.lst L) false false, .dat d]) ?_ rfl ?_
      · walk_at "e"
      · walk_at "e"
    refine Exists.elim (?_ : ∃ b, sameV q.1 d = b) fun b hb => ?_
    · exact ⟨_, rfl⟩
    rw [hb] at hT
    cases b with
    | true =>
      have ed := same_eq (cv_W hq1) (cv_W hd) hb
      refine ⟨Q1 ++ [(q.1, q.2 + 1)], ?_, ?_, fun x hx => ?_, by simp⟩
      · unfold lb_runs_body_1
        refine of_ap (ap_fg (sr_if1 (b := true) (g1 := [.dat P, .own (.lst L) false false, .dat d]) hT rfl (fun _ => ?_) (fun h => by cases h)))
        refine one_nx (g1 := [.dat P, .own (.lst ((Q1 ++ [(q.1, q.2 + 1)]).map rD)) false false, .dat d]) ?_ (fgK_nx rfl rfl rfl)
        rw [← hset]
        have hT2 : zTup (zCons (zIx (zIx (zVar 1) (zUn negD (zC (.int 1)))) (zC (.int 0))) (zCons (zOp addS (zIx (zIx (zVar 1) (zUn negD (zC (.int 1)))) (zC (.int 1))) (zC (.int 1))) (zNil))) [.dat P, .own (.lst L) false false, .dat d] = some (.dat (rD (q.1, q.2 + 1)), [.dat P, .own (.lst L) false false, .dat d]) := by
          rw [show rD (q.1, q.2 + 1) = .tup [q.1, .int ((q.2 : Int) + 1)] from rfl]
          generalize rD q = rq at *
          generalize q.1 = q1 at *
          generalize (q.2 : Int) = q2 at *
          walk_at "e"
        exact sto_run (j := 1) (q := Q1.length) (k := -1) (g3 := [.dat P, .own (.lst L) false false, .dat d]) hT2 rfl rfl rfl hi rfl
      · rw [expand_snoc, expand_snoc, List.append_assoc, ← ed]
        congr 1
        exact List.replicate_succ'
      · rcases List.mem_append.mp hx with h | h
        · exact hQ x (List.mem_append_left _ h)
        · rw [List.mem_singleton.mp h]; exact ⟨hq1, by show q.2 + 1 ≤ 40; omega⟩
    | false =>
      refine ⟨Q1 ++ [q] ++ [(d, 1)], ?_, expand_snoc _ _, okNew, by simp⟩
      unfold lb_runs_body_1
      refine of_ap (ap_fg (sr_if1 (b := false) (g1 := [.dat P, .own (.lst L) false false, .dat d]) hT rfl (fun h => by cases h) (fun _ => ?_)))
      exact one_nx addNew (fgK_nx rfl rfl rfl)
theorem runs_body {P : List D} (h : Pr P) : ∃ Q, QOk Q ∧ Q.length ≤ 40 ∧ expand Q = P ∧ d_runs_body [.lst P] = some (.dat (.tup [.str kRU, .tup (Q.map rD)])) := by
  obtain ⟨hC, hl⟩ := h
  obtain ⟨g2, e, Q, rfl, hE, hQ, hQl⟩ := forL_inv (st := lb_runs_body_1) (tg := gN 2) (L := P) (fun i g => ∃ Q, g = [.dat (.lst P), .own (.lst (Q.map rD)) false false, .un] ∧ expand Q = P.take i ∧ QOk Q ∧ Q.length ≤ i) 0 [.dat (.lst P), .own (.lst []) false false, .un] ⟨[], rfl, rfl, (fun q h => nomatch h), Nat.le_refl _⟩ (fun i d g hd ⟨Q, hg, hE, hQ, hQl⟩ => by
    have hi : i < P.length := (List.getElem?_eq_some_iff.mp hd).1
    rw [Nat.zero_add] at hE hQl ⊢
    subst hg
    obtain ⟨Q', t, e1, e2, e3⟩ := runs_turn (.lst P) Q hQ (by omega) d (hC d (List.mem_of_getElem? hd)) (by rw [hE, List.length_take]; omega)
    refine ⟨_, _, rfl, .inl t, Q', rfl, ?_, e2, by omega⟩
    rw [e1, hE, List.take_succ, hd]
    rfl)
  rw [Nat.zero_add] at hE hQl
  rw [List.take_length] at hE
  refine ⟨Q, hQ, by omega, hE, ?_⟩
  unfold d_runs_body b_runs_body
  refine runP_ap (g := [.dat (.lst P), .un, .un]) rfl rfl ?_
  walk_at "s"
  refine seq_nx (for_none (mi_Ld rfl) rfl e) ?_
  generalize Q.map rD = q at *
  walk_at "s"
  exact rfl
theorem lrank_ok (v : D) (h : VW v) : d__law_rank [v] = some (.dat (rk v)) := by
  cases v with
  | non =>
    unfold d__law_rank b__law_rank
    refine runP_ap (g := [.dat .non]) rfl rfl ?_
    walk_at "w"
    exact rfl
  | bl b =>
    unfold d__law_rank b__law_rank
    refine runP_ap (g := [.dat (.bl b)]) rfl rfl ?_
    cases b <;> walk_at "w" <;> exact rfl
  | int i =>
    unfold d__law_rank b__law_rank
    refine runP_ap (g := [.dat (.int i)]) rfl rfl ?_
    walk_at "w"
    exact rfl
  | str t =>
    unfold d__law_rank b__law_rank
    refine runP_ap (g := [.dat (.str t)]) rfl rfl ?_
    walk_at "w"
    exact rfl
  | _ => exact h.elim
theorem same_self {r : D} (h : VW r) : sameV r r = true := by
  have t := triR_selfW (L := [r]) (fun v hv => by rw [List.mem_singleton.mp hv]; exact h)
  have t : (sameV r r && true) = true := t
  rwa [Bool.and_true] at t
def constP : List D → D
  | [] => .non
  | v :: r => if ((v :: r).all fun d => sameV d v) = true then .tup [.str kCO, v, .int (((v :: r).length : Nat) : Int)] else .non
theorem constP_cons {v : D} {r P : List D} (h : v :: r = P) : constP P = if (P.all fun d => sameV d v) = true then .tup [.str kCO, v, .int ((P.length : Nat) : Int)] else .non := by subst h; rfl
theorem const_body {P : List D} (h : Pr P) : d_constant_body [.lst P] = some (.dat (constP P)) := by
  obtain ⟨hC, hl⟩ := h
  have hlen := len_l P
  match P, hC, hl, hlen with
  | [], hC, hl, hlen =>
    unfold d_constant_body b_constant_body
    refine runP_ap (g := [.dat (.lst []), .un]) rfl rfl ?_
    walk_at "w"
    exact rfl
  | v :: r, hC, hl, hlen =>
    have hv := hC v List.mem_cons_self
    have hx : ixD (.lst (v :: r)) 0 = some v := @atI_nat D (v :: r) 0 v rfl
    have r1 := rank_ok v (cv_W hv)
    have hne0 : 0 < (v :: r).length := Nat.zero_lt_succ _
    generalize hP : v :: r = P at *
    rw [constP_cons hP]
    rcases forL_invB (st := lb_constant_body_1) (tg := gN 1) (L := P) (fun i g => g = [.dat (.lst P), .un] ∧ ∀ (j : Nat) (d : D), j < i → P[j]? = some d → sameV d v = true) (fun _ => False) (fun r _ => r = .dat .non ∧ ∃ d ∈ P, sameV d v = false) 0 [.dat (.lst P), .un] ⟨rfl, fun j d h => by omega⟩ (fun i d g hd ⟨hg, hi⟩ => by
      subst hg
      have hdm : CV d := hC d (List.mem_of_getElem? hd)
      have r2 := rank_ok d (cv_W hdm)
      have hne := ne_rkW (cv_W hdm) (cv_W hv)
      refine ⟨[.dat (.lst P), .dat d], rfl, ?_⟩
      cases hs : sameV d v with
      | true =>
        have e : lb_constant_body_1 [.dat (.lst P), .dat d] = some (.nx, [.dat (.lst P), .un]) := by
          rw [hs] at hne
          unfold lb_constant_body_1
          generalize rk d = a at *
          generalize rk v = b at *
          refine of_ap ?_
          walk_at "s"
          walk_at "s"
          · intro h; cases h
          · intro _
            walk_at "s"
            exact rfl
        rw [e]
        refine ⟨rfl, fun j x hj hx2 => ?_⟩
        rcases Nat.lt_or_ge j (0 + i) with h | h
        · exact hi j x h hx2
        · rw [show j = i by omega, hd] at hx2
          cases hx2
          exact hs
      | false =>
        have e : ∃ g, lb_constant_body_1 [.dat (.lst P), .dat d] = some (.ret (.dat .non), g) := by
          rw [hs] at hne
          refine ⟨[.dat (.lst P), .dat d], ?_⟩
          unfold lb_constant_body_1
          generalize rk d = a at *
          generalize rk v = b at *
          refine of_ap ?_
          walk_at "s"
          walk_at "s"
          · intro _
            walk_at "s"
            exact rfl
          · intro h; cases h
        obtain ⟨g, e⟩ := e
        rw [e]
        exact ⟨rfl, d, List.mem_of_getElem? hd, hs⟩) with ⟨g2, e, ⟨rfl, hall⟩ | h⟩ | ⟨rr, g2, e, rfl, d, hd, hds⟩
    · have ht : (P.all fun d => sameV d v) = true := List.all_eq_true.mpr fun d hd => by
        obtain ⟨i, hi⟩ := List.getElem?_of_mem hd
        exact hall i d (by have := (List.getElem?_eq_some_iff.mp hi).1; omega) hi
      rw [if_pos ht]
      have hp : ¬ (P.length : Int) = 0 := by omega
      unfold d_constant_body b_constant_body
      refine runP_ap (g := [.dat (.lst P), .un]) rfl rfl ?_
      walk_at "s"
      · intro q; exact absurd (by simpa using q) hp
      · intro _
        walk_at "s"
        refine seq_nx (for_none (mi_Ld rfl) rfl e) ?_
        walk_at "s"
        exact rfl
    · exact h.elim
    · have ht : ¬ (P.all fun d => sameV d v) = true := fun z => by
        have := List.all_eq_true.mp z d hd
        rw [hds] at this
        cases this
      rw [if_neg ht]
      have hp : ¬ (P.length : Int) = 0 := by omega
      unfold d_constant_body b_constant_body
      refine runP_ap (g := [.dat (.lst P), .un]) rfl rfl ?_
      walk_at "s"
      · intro q; exact absurd (by simpa using q) hp
      · intro _
        walk_at "s"
        exact seq_ret (for_none (mi_Ld rfl) rfl e) rfl
theorem const_rep {P : List D} {v : D} (hC : ∀ v ∈ P, CV v) (hv : CV v) (h : (P.all fun d => sameV d v) = true) : P = List.replicate P.length v := by
  apply List.ext_getElem
  · rw [List.length_replicate]
  · intro i h1 h2
    rw [List.getElem_replicate]
    have hm := List.getElem_mem h1
    exact same_eq (cv_W (hC _ hm)) (cv_W hv) (List.all_eq_true.mp h _ hm)
theorem constP_vals {P : List D} (h : Pr P) : constP P = .non ∨ (∃ v, CV v ∧ constP P = .tup [.str kCO, v, .int ((P.length : Nat) : Int)]) ∧ d_values_of [constP P] = some (.new (.lst P)) := by
  obtain ⟨hC, hl⟩ := h
  match P, hC, hl with
  | [], _, _ => exact .inl rfl
  | v :: r, hC, hl =>
    have hv := hC v List.mem_cons_self
    generalize hP : v :: r = P at *
    rw [constP_cons hP]
    by_cases c : (P.all fun d => sameV d v) = true
    · right
      rw [if_pos c]
      refine ⟨⟨v, hv, rfl⟩, ?_⟩
      have e := const_vals v P.length hl
      rw [← const_rep hC hv c] at e
      exact e
    · left
      rw [if_neg c]
def fnd (W : List D) (v : D) : Option Nat := W.findIdx? fun u => sameV u v
def wStep (st : List D × List Nat) (v : D) : List D × List Nat := match fnd st.1 v with
  | some i => (st.1, st.2 ++ [i])
  | none => (st.1 ++ [v], st.2 ++ [st.1.length])
theorem idx_fnd {v : D} (hv : CV v) : ∀ (W : List D) (n : Nat), (∀ u ∈ W, CV u) → ZN.idx n (W.map g3) (vN v) = (fnd W v).map fun i => i + n
  | [], n, _ => rfl
  | u :: W, n, hW => by
    have hu := hW u List.mem_cons_self
    have ih := idx_fnd hv W (n + 1) fun x hx => hW x (List.mem_cons_of_mem _ hx)
    have hi := vN_iff (VW.pl (cv_W hu)) (VW.pl (cv_W hv))
    have e : ZN.idx n ((u :: W).map g3) (vN v) = if vN u = vN v then some n else ZN.idx (n + 1) (W.map g3) (vN v) := rfl
    rw [e, ih]
    unfold fnd
    rw [List.findIdx?_cons]
    by_cases c : sameV u v = true
    · rw [if_pos (hi.mpr c), if_pos c]
      simp
    · rw [if_neg fun z => c (hi.mp z), if_neg c, Option.map_map]
      congr 1
      funext i
      show i + (n + 1) = i + 1 + n
      omega
theorem fnd_new {W : List D} {v : D} (hv : CV v) (h : fnd W v = none) : fnd (W ++ [v]) v = some W.length := by
  unfold fnd at *
  rw [List.findIdx?_append, h]
  simp [List.findIdx?_cons, same_self (cv_W hv)]
theorem fnd_at {W : List D} {v : D} {i : Nat} (hW : ∀ u ∈ W, CV u) (hv : CV v) (h : fnd W v = some i) : W[i]? = some v := by
  obtain ⟨h1, h2, _⟩ := List.findIdx?_eq_some_iff_getElem.mp h
  rw [List.getElem?_eq_getElem h1]
  congr 1
  exact same_eq (cv_W (hW _ (List.getElem_mem h1))) (cv_W hv) h2
def iJ (J : List Nat) : List Int := J.map fun j : Nat => (j : Int)
structure WOk (st : List D × List Nat) (done : List D) : Prop where
  cv : ∀ v ∈ st.1, CV v
  len : st.1.length ≤ done.length
  at_ : st.2.map (fun j => st.1[j]?) = done.map some
theorem wstep_ok {st : List D × List Nat} {done : List D} (h : WOk st done) {v : D} (hv : CV v) : WOk (wStep st v) (done ++ [v]) := by
  obtain ⟨W, J⟩ := st
  obtain ⟨h1, h2, h3⟩ := h
  unfold wStep
  cases c : fnd W v with
  | some i =>
    refine ⟨h1, by rw [List.length_append]; exact Nat.le_trans h2 (Nat.le_add_right _ _), ?_⟩
    show (J ++ [i]).map (fun j => W[j]?) = _
    rw [List.map_append, List.map_append, ← h3]
    congr 1
    show [W[i]?] = [some v]
    rw [fnd_at h1 hv c]
  | none =>
    refine ⟨fun u hu => ?_, by show (W ++ [v]).length ≤ _; rw [List.length_append, List.length_append]; exact Nat.add_le_add_right h2 _, ?_⟩
    · rcases List.mem_append.mp hu with m | m
      · exact h1 u m
      · rw [List.mem_singleton.mp m]; exact hv
    · show (J ++ [W.length]).map (fun j => (W ++ [v])[j]?) = _
      rw [List.map_append, List.map_append, ← h3]
      congr 1
      · apply List.map_congr_left
        intro j hj
        have h3 : J.map (fun j => W[j]?) = done.map some := h3
        have : W[j]? ∈ done.map some := by rw [← h3]; exact List.mem_map.mpr ⟨j, hj, rfl⟩
        obtain ⟨x, _, hx⟩ := List.mem_map.mp this
        rw [List.getElem?_append_left (List.getElem?_eq_some_iff.mp hx.symm).1]
      · show [(W ++ [v])[W.length]?] = [some v]
        simp
theorem words_ok : ∀ (R : List D) (st : List D × List Nat) (done : List D), (∀ v ∈ R, CV v) → WOk st done →
    WOk (R.foldl wStep st) (done ++ R) ∧ ZN.wordF d_rank R (st.1.map g3) (iJ st.2) = some ((R.foldl wStep st).1.map g3, iJ (R.foldl wStep st).2)
  | [], st, done, _, h => ⟨by rw [List.append_nil]; exact h, rfl⟩
  | v :: R, st, done, hR, h => by
    have hv := hR v List.mem_cons_self
    have r1 := rank_ok v (cv_W hv)
    have hk := nk_rkP (VW.pl (cv_W hv))
    have hd := vN_depth v
    obtain ⟨a, b⟩ := words_ok R (wStep st v) (done ++ [v]) (fun u hu => hR u (List.mem_cons_of_mem _ hu)) (wstep_ok h hv)
    rw [List.append_assoc] at a
    refine ⟨a, ?_⟩
    have stp : ZN.wordF d_rank (v :: R) (st.1.map g3) (iJ st.2) = ZN.wordF d_rank R (ZN.addG (st.1.map g3) (vN v) [v]) (iJ st.2 ++ [(((ZN.idx 0 (ZN.addG (st.1.map g3) (vN v) [v]) (vN v)).getD 0 : Nat) : Int)]) := by
      have r1 : d_rank [v] = some (.dat (.tup [.int (kd v : Nat), kx v])) := r1
      have hk : ZN.nkD (.tup [.int (kd v : Nat), kx v]) = some (vN v) := hk
      conv => lhs; unfold ZN.wordF
      simp only [r1, hk, hd, if_true]
    rw [stp]
    show _ = some ((R.foldl wStep (wStep st v)).1.map g3, iJ (R.foldl wStep (wStep st v)).2)
    rw [← b]
    obtain ⟨W, J⟩ := st
    obtain ⟨h1, h2, h3⟩ := h
    have i1 := idx_fnd hv W 0 h1
    have e0 : (fnd W v).map (fun i => i + 0) = fnd W v := by cases fnd W v <;> rfl
    rw [e0] at i1
    unfold wStep ZN.addG
    cases c : fnd W v with
    | some i =>
      rw [c] at i1
      show ZN.wordF d_rank R (if (ZN.idx 0 (W.map g3) (vN v)).isSome = true then W.map g3 else _) _ = _
      rw [i1]
      simp only [Option.isSome_some, if_true]
      rw [i1]
      show ZN.wordF d_rank R (W.map g3) (iJ J ++ [((i : Nat) : Int)]) = ZN.wordF d_rank R (W.map g3) (iJ (J ++ [i]))
      unfold iJ
      rw [List.map_append]
      rfl
    | none =>
      rw [c] at i1
      have hW : ∀ u ∈ W ++ [v], CV u := fun u hu => by
        rcases List.mem_append.mp hu with m | m
        · exact h1 u m
        · rw [List.mem_singleton.mp m]; exact hv
      have i2 := idx_fnd hv (W ++ [v]) 0 hW
      rw [fnd_new hv c] at i2
      have em : W.map g3 ++ [(vN v, [v], [])] = (W ++ [v]).map g3 := by rw [List.map_append]; rfl
      show ZN.wordF d_rank R (if (ZN.idx 0 (W.map g3) (vN v)).isSome = true then W.map g3 else W.map g3 ++ [(vN v, [v], [])]) _ = _
      rw [i1]
      simp only [Option.isSome_none, Bool.false_eq_true, if_false]
      rw [em, i2]
      show ZN.wordF d_rank R ((W ++ [v]).map g3) (iJ J ++ [((W.length + 0 : Nat) : Int)]) = ZN.wordF d_rank R ((W ++ [v]).map g3) (iJ (J ++ [W.length]))
      have ej : iJ J ++ [((W.length + 0 : Nat) : Int)] = iJ (J ++ [W.length]) := by
        unfold iJ
        rw [List.map_append]
        rfl
      rw [ej]
def wordsOf (P : List D) : List D × List Nat := P.foldl wStep ([], [])
def topW (W : List D) : Int := if ((W.length : Nat) : Int) - 1 > 0 then ((W.length : Nat) : Int) - 1 else 0
def dictP (P : List D) : D := .tup [.str kDI, .tup (wordsOf P).1, .int (P.length : Int), .int ((Builtin.Int.intBits (topW (wordsOf P).1) : Nat) : Int), .int (packV (Builtin.Int.intBits (topW (wordsOf P).1)) (iJ (wordsOf P).2))]
structure DOk (P : List D) : Prop where
  ok : WOk (wordsOf P) P
  fit : Fit (Builtin.Int.intBits (topW (wordsOf P).1)) (iJ (wordsOf P).2)
  top : 0 ≤ topW (wordsOf P).1 ∧ topW (wordsOf P).1 < 2 ^ 60
  w60 : Builtin.Int.intBits (topW (wordsOf P).1) ≤ 60
  jl : (wordsOf P).2.length = P.length
  lt : ∀ j ∈ (wordsOf P).2, j < (wordsOf P).1.length
theorem dict_ok {P : List D} (h : Pr P) : DOk P := by
  obtain ⟨hC, hl⟩ := h
  obtain ⟨ok, _⟩ := words_ok P ([], []) [] hC ⟨(fun v h => nomatch h), Nat.le_refl _, rfl⟩
  have ok : WOk (wordsOf P) P := ok
  have hx0 : (0 : Int) ≤ topW (wordsOf P).1 := by unfold topW; split <;> omega
  have hx1 : topW (wordsOf P).1 < 2 ^ 60 := by have := ok.len; unfold topW; split <;> omega
  have hlt : ∀ j ∈ (wordsOf P).2, j < (wordsOf P).1.length := fun j hj => by
    have : (wordsOf P).1[j]? ∈ P.map some := by rw [← ok.at_]; exact List.mem_map.mpr ⟨j, hj, rfl⟩
    obtain ⟨x, _, hx⟩ := List.mem_map.mp this
    exact (List.getElem?_eq_some_iff.mp hx.symm).1
  refine ⟨ok, fun n hn => ?_, ⟨hx0, hx1⟩, bits_le hx0 hx1, ?_, hlt⟩
  · obtain ⟨j, hj, rfl⟩ := List.mem_map.mp hn
    have hjl := hlt j hj
    exact ⟨by omega, bits_fit (by omega) (by unfold topW; split <;> omega)⟩
  · have := congrArg List.length ok.at_
    rw [List.length_map, List.length_map] at this
    exact this
theorem dict_p {P : List D} (h : Pr P) : d_dictionary_body [.lst P] = some (.dat (dictP P)) := by
  have k := dict_ok h
  obtain ⟨hC, hl⟩ := h
  obtain ⟨_, e⟩ := words_ok P ([], []) [] hC ⟨(fun v h => nomatch h), Nat.le_refl _, rfl⟩
  have e : ZN.wordF d_rank P [] [] = some ((wordsOf P).1.map g3, iJ (wordsOf P).2) := e
  have e1 := width_ok (topW (wordsOf P).1)
  have e2 := pack_ok (iJ (wordsOf P).2) _ (show Builtin.Int.intBits (topW (wordsOf P).1) ≤ 70 by have := k.w60; omega) k.fit (by unfold iJ; rw [List.length_map, k.jl]; omega)
  unfold topW at e1
  unfold d_dictionary_body ZN.dictD dictP
  simp only [if_pos (show P.length < 1000 by omega), e, List.length_map, e1, words_g]
  show (match d_pack [.lst ((iJ (wordsOf P).2).map D.int), .int ((Builtin.Int.intBits (topW (wordsOf P).1) : Nat) : Int)] with
    | some (.dat (.int b)) => _
    | _ => none) = _
  rw [e2]
  rfl
theorem dictP_vals {P : List D} (h : Pr P) : d_values_of [dictP P] = some (.new (.lst P)) := by
  have k := dict_ok h
  exact dict_vals h.2 k.fit k.jl k.w60 k.ok.at_
def lowI : List Int → Int
  | [] => 0
  | n :: r => minI (n :: r)
def topI : List Int → Int
  | [] => 0
  | n :: r => maxI (n :: r)
theorem lowI_spec {ns : List Int} (B : Nat) (hb : ∀ n ∈ ns, n.natAbs ≤ B) : (lowI ns).natAbs ≤ B ∧ ∀ n ∈ ns, lowI ns ≤ n := by
  cases ns with
  | nil => exact ⟨Nat.zero_le _, fun n h => nomatch h⟩
  | cons n r =>
    obtain ⟨h1, h2⟩ := minI_spec (ns := n :: r) (by simp)
    exact ⟨hb _ h1, h2⟩
theorem topI_spec {ns : List Int} {B : Int} (h0 : 0 ≤ B) (hb : ∀ n ∈ ns, 0 ≤ n ∧ n ≤ B) : 0 ≤ topI ns ∧ topI ns ≤ B ∧ ∀ n ∈ ns, n ≤ topI ns := by
  cases ns with
  | nil => exact ⟨Int.le_refl _, h0, fun n h => nomatch h⟩
  | cons n r =>
    obtain ⟨h1, h2⟩ := maxI_spec (ns := n :: r) (by simp)
    exact ⟨(hb _ h1).1, (hb _ h1).2, h2⟩
theorem min_low (ns : List Int) : minDL [.lst (ns.map D.int), .int 0] = some (.int (lowI ns)) := by
  have e := intsD_map ns
  cases ns with
  | nil => rfl
  | cons n r => simp only [minDL, e]; rfl
theorem max_top (ns : List Int) : maxDL [.lst (ns.map D.int), .int 0] = some (.int (topI ns)) := by
  have e := intsD_map ns
  cases ns with
  | nil => rfl
  | cons n r => simp only [maxDL, e]; rfl
abbrev ov (ns : List Int) : List Int := over ns (lowI ns)
abbrev wd (ns : List Int) : Nat := Builtin.Int.intBits (topI (ov ns))
structure POk (ns : List Int) : Prop where
  low : (lowI ns).natAbs ≤ 4 * 10 ^ 15
  pos : ∀ n ∈ ov ns, 0 ≤ n ∧ n ≤ 8 * 10 ^ 15
  top : 0 ≤ topI (ov ns) ∧ topI (ov ns) ≤ 8 * 10 ^ 15
  w60 : wd ns ≤ 60
  fit : Fit (wd ns) (ov ns)
theorem p_ok {ns : List Int} (hb : ∀ n ∈ ns, n.natAbs ≤ 4 * 10 ^ 15) : POk ns := by
  obtain ⟨a, b⟩ := lowI_spec _ hb
  have hob : ∀ n ∈ ov ns, 0 ≤ n ∧ n ≤ 8 * 10 ^ 15 := fun n hn => by
    obtain ⟨m, hm, rfl⟩ := List.mem_map.mp hn
    have c := hb m hm
    have d := b m hm
    omega
  obtain ⟨t1, t2, t3⟩ := topI_spec (B := 8 * 10 ^ 15) (by decide) hob
  exact ⟨a, hob, ⟨t1, t2⟩, bits_le t1 (by omega), fun n hn => ⟨(hob n hn).1, bits_fit (hob n hn).1 (t3 n hn)⟩⟩
def partsD (ns : List Int) : D := .tup [.int (lowI ns), .int (wd ns : Int), .int (packV (wd ns) (ov ns))]
theorem ov_map (ns : List Int) : (ov ns).map D.int = ((ns.map D.int).filter fun _ => true).map (subI (lowI ns)) := by
  unfold ov over
  rw [List.filter_eq_self.mpr (fun _ _ => rfl), List.map_map, List.map_map]
  rfl
theorem parts_p {ns : List Int} (hb : ∀ n ∈ ns, n.natAbs ≤ 4 * 10 ^ 15) (hl : ns.length ≤ 40) : d_packed_parts [.lst (ns.map D.int)] = some (.dat (partsD ns)) := by
  have k := p_ok hb
  have e1 := width_ok (topI (ov ns))
  have hol : (ov ns).length ≤ 40 := by rw [over_len]; exact hl
  have e2 := pack_ok (ov ns) (wd ns) (by have := k.w60; omega) k.fit hol
  have hmin := min_low ns
  have hmax := max_top (ov ns)
  have lc := er_lc1 (b := fun _ => true) (f := subI (lowI ns)) (L := ns.map D.int) (mi := ziL 5 (zVar 0)) (tg := gN 4) (tt := zYes) (el := zOp subD (zVar 4) (zVar 1)) (vs := [4]) (g := [.dat (.lst (ns.map D.int)), .dat (.int (lowI ns)), .un, .un, .un]) (h := [.dat (.lst (ns.map D.int)), .dat (.int (lowI ns)), .un, .un, .un]) (base := [.dat (.lst (ns.map D.int)), .dat (.int (lowI ns)), .un, .un, .un]) (mi_Ld rfl) (fun o => rfl) (fun o => rfl) (sz (by rw [List.length_map]; omega)) (fun d hd => by
    obtain ⟨n, hn, rfl⟩ := List.mem_map.mp hd
    exact lc_dat (h := [.dat (.lst (ns.map D.int)), .dat (.int (lowI ns)), .un, .un, .dat (.int n)]) rfl (fun o => rfl) (fun o => rfl) (fun o => rfl) (fun o => rfl) (fun _ o => rfl))
  rw [← ov_map] at lc
  unfold partsD
  unfold wd at *
  generalize packV (Builtin.Int.intBits (topI (ov ns))) (ov ns) = bits at *
  generalize Builtin.Int.intBits (topI (ov ns)) = w at *
  generalize topI (ov ns) = mx at *
  generalize (ov ns).map D.int = O at *
  generalize lowI ns = l at *
  generalize ns.map D.int = N at *
  unfold d_packed_parts b_packed_parts
  refine runP_ap (g := [.dat (.lst N), .un, .un, .un, .un]) rfl rfl ?_
  refine seq_nx (g1 := [.dat (.lst N), .dat (.int l), .un, .un, .un]) (set_dat (er_callS (ds := [.lst N, .int 0]) (er_cons rfl (er_cons rfl er_nil)) rfl hmin rfl) rfl rfl) ?_
  refine seq_nx (g1 := [.dat (.lst N), .dat (.int l), .own (.lst O) false false, .un, .un]) (set_own lc (Nat.le_of_ble_eq_true rfl) rfl rfl rfl) ?_
  refine seq_nx (g1 := [.dat (.lst N), .dat (.int l), .own (.lst O) false false, .dat (.int (w : Int)), .un]) (set_dat (er_callV (ds := [.int mx]) (er_cons (er_callS (ds := [.lst O, .int 0]) (er_cons rfl (er_cons rfl er_nil)) rfl hmax rfl) er_nil) rfl e1 rfl) rfl rfl) ?_
  refine sr_ret (er_tup (ds := [.int l, .int (w : Int), .int bits]) (er_cons rfl (er_cons rfl (er_cons (er_callV (ds := [.lst O, .int (w : Int)]) (er_cons rfl (er_cons rfl er_nil)) rfl e2 rfl) er_nil))) rfl (sz (show 3 ≤ 100000 by decide))) rfl
def toI : D → Int
  | .int n => n
  | _ => 0
def intsI (P : List D) : List Int := P.map toI
theorem intsI_map {P : List D} (h : P.all isIV = true) : P = (intsI P).map D.int := by
  unfold intsI
  rw [List.map_map]
  conv => lhs; rw [← List.map_id P]
  apply List.map_congr_left
  intro d hd
  have := List.all_eq_true.mp h d hd
  cases d <;> first | rfl | cases this
theorem intsI_bd {P : List D} (hC : ∀ v ∈ P, CV v) : ∀ n ∈ intsI P, n.natAbs ≤ 10 ^ 15 := fun n hn => by
  obtain ⟨d, hd, rfl⟩ := List.mem_map.mp hn
  cases d with
  | int i => exact (hC _ hd).2 i rfl
  | _ => exact Nat.zero_le _
theorem intsI_len (P : List D) : (intsI P).length = P.length := List.length_map _
theorem isIW_eq (v : D) : isIW v = isIV v := by cases v <;> rfl
theorem allint_p {P : List D} (h : Pr P) : d_all_integers [.lst P] = some (.dat (.bl (P.all isIV))) := by
  obtain ⟨hC, hl⟩ := h
  rcases forL_invB (st := lb_all_integers_1) (tg := gN 1) (L := P) (fun i g => g = [.dat (.lst P), .un] ∧ ∀ (j : Nat) (d : D), j < i → P[j]? = some d → isIV d = true) (fun _ => False) (fun r _ => r = .dat (.bl false) ∧ ∃ d ∈ P, isIV d = false) 0 [.dat (.lst P), .un] ⟨rfl, fun j d h => by omega⟩ (fun i d g hd ⟨hg, hi⟩ => by
    subst hg
    have hdm : CV d := hC d (List.mem_of_getElem? hd)
    have r2 := isint_v d hdm
    refine ⟨[.dat (.lst P), .dat d], rfl, ?_⟩
    cases hs : isIV d with
    | true =>
      rw [hs] at r2
      have e : lb_all_integers_1 [.dat (.lst P), .dat d] = some (.nx, [.dat (.lst P), .un]) := by
        unfold lb_all_integers_1
        refine of_ap (ap_fg (sr_if1 (b := false) (g1 := [.dat (.lst P), .dat d]) ?_ rfl (fun h => by cases h) (fun _ => ?_)))
        · exact er_notT (er_tru (er_call (ds := [d]) (er_cons rfl er_nil) r2) rfl rfl)
        · exact sr_nx1 (fgK_nx rfl rfl rfl)
      rw [e]
      refine ⟨rfl, fun j x hj hx2 => ?_⟩
      rcases Nat.lt_or_ge j (0 + i) with h | h
      · exact hi j x h hx2
      · rw [show j = i by omega, hd] at hx2
        cases hx2
        exact hs
    | false =>
      rw [hs] at r2
      have e : lb_all_integers_1 [.dat (.lst P), .dat d] = some (.ret (.dat (.bl false)), [.dat (.lst P), .dat d]) := by
        unfold lb_all_integers_1
        refine of_ap (ap_fg (sr_if1 (b := true) (g1 := [.dat (.lst P), .dat d]) ?_ rfl (fun _ => ?_) (fun h => by cases h)))
        · exact er_notT (er_tru (er_call (ds := [d]) (er_cons rfl er_nil) r2) rfl rfl)
        · exact sr_ret er_C rfl
      rw [e]
      exact ⟨rfl, d, List.mem_of_getElem? hd, hs⟩) with ⟨g2, e, ⟨rfl, hall⟩ | h⟩ | ⟨rr, g2, e, rfl, d, hd, hds⟩
  · have ht : P.all isIV = true := List.all_eq_true.mpr fun d hd => by
      obtain ⟨i, hi⟩ := List.getElem?_of_mem hd
      exact hall i d (by have := (List.getElem?_eq_some_iff.mp hi).1; omega) hi
    rw [ht]
    unfold d_all_integers b_all_integers
    refine runP_ap (g := [.dat (.lst P), .un]) rfl rfl ?_
    refine seq_nx (for_none (mi_Ld rfl) rfl e) ?_
    walk_at "s"
    exact rfl
  · exact h.elim
  · have ht : P.all isIV = false := Bool.eq_false_iff.mpr fun z => by
      have := List.all_eq_true.mp z d hd
      rw [hds] at this
      cases this
    rw [ht]
    unfold d_all_integers b_all_integers
    refine runP_ap (g := [.dat (.lst P), .un]) rfl rfl ?_
    exact seq_ret (for_none (mi_Ld rfl) rfl e) rfl
def pkB (P : List D) : D := pB kPA (lowI (intsI P)) P.length (wd (intsI P)) (packV (wd (intsI P)) (ov (intsI P)))
def packedP (P : List D) : D := if P.all isIV = true then pkB P else .non
theorem small4 {ns : List Int} (h : ∀ n ∈ ns, n.natAbs ≤ 10 ^ 15) : ∀ n ∈ ns, n.natAbs ≤ 4 * 10 ^ 15 := fun n hn => by have := h n hn; omega
theorem packed_p {P : List D} (h : Pr P) : d_packed_body [.lst P] = some (.dat (packedP P)) := by
  have e := allint_p h
  have hlen := len_l P
  unfold packedP
  by_cases c : P.all isIV = true
  · rw [if_pos c]
    rw [c] at e
    have hm := intsI_map c
    have hb := small4 (intsI_bd h.1)
    have ep := parts_p hb (by rw [intsI_len]; exact h.2)
    rw [← hm] at ep
    unfold partsD at ep
    unfold pkB pB
    generalize packV (wd (intsI P)) (ov (intsI P)) = bits at *
    generalize wd (intsI P) = w at *
    generalize lowI (intsI P) = l at *
    unfold d_packed_body b_packed_body
    refine runP_ap (g := [.dat (.lst P), .un, .un, .un]) rfl rfl ?_
    refine sr_if (b := false) (g1 := [.dat (.lst P), .un, .un, .un]) (er_notT (er_tru (er_call (ds := [.lst P]) (er_cons rfl er_nil) e) rfl rfl)) rfl (fun h => by cases h) (fun _ => sr_nx ?_)
    refine seq_nx (g1 := [.dat (.lst P), .dat (.int l), .dat (.int (w : Int)), .dat (.int bits)]) (asg_run (er_call (ds := [.lst P]) (er_cons rfl er_nil) ep) rfl rfl) ?_
    walk_at "s"
    exact rfl
  · rw [if_neg c]
    rw [Bool.eq_false_iff.mpr c] at e
    unfold d_packed_body b_packed_body
    refine runP_ap (g := [.dat (.lst P), .un, .un, .un]) rfl rfl ?_
    refine sr_if (b := true) (g1 := [.dat (.lst P), .un, .un, .un]) (er_notT (er_tru (er_call (ds := [.lst P]) (er_cons rfl er_nil) e) rfl rfl)) rfl (fun _ => ?_) (fun h => by cases h)
    exact sr_retS er_C rfl
abbrev df (P : List D) : List Int := diffs (intsI P)
def dlB (P : List D) : D := dB ((intsI P).getD 0 0) (lowI (df P)) P.length (wd (df P)) (packV (wd (df P)) (ov (df P)))
def deltasP (P : List D) : D := if P.length = 0 then .non else if P.all isIV = true then dlB P else .non
theorem diff_lists (ns : List Int) : ((rgD 0 (ns.length - 1)).filter fun _ => true).map (fI fun z => ns.getD (z.toNat + 1) 0 - ns.getD z.toNat 0) = (diffs ns).map D.int := by
  rw [List.filter_eq_self.mpr (fun _ _ => rfl)]
  unfold rgD diffs
  rw [List.map_map, List.map_map]
  apply List.map_congr_left
  intro i _
  show D.int (ns.getD ((0 + (i : Int)).toNat + 1) 0 - ns.getD (0 + (i : Int)).toNat 0) = D.int (ns.getD (i + 1) 0 - ns.getD i 0)
  rw [show (0 + (i : Int)).toNat = i by omega]
theorem deltas_p {P : List D} (h : Pr P) : d_deltas_body [.lst P] = some (.dat (deltasP P)) := by
  have e := allint_p h
  have hlen := len_l P
  unfold deltasP
  by_cases c0 : P.length = 0
  · rw [if_pos c0]
    unfold d_deltas_body b_deltas_body
    refine runP_ap (g := [.dat (.lst P), .un, .un, .un, .un]) rfl rfl ?_
    refine sr_if (b := true) (g1 := [.dat (.lst P), .un, .un, .un, .un]) (er_orTt (er_tst (er_op (er_callS (er_cons rfl er_nil) rfl hlen rfl) er_C rfl rfl rfl rfl)) (by rw [c0]; rfl)) rfl (fun _ => ?_) (fun h => by cases h)
    exact sr_retS er_C rfl
  · rw [if_neg c0]
    have hne : ((P.length : Int) == 0) = false := by simp; intro z; exact c0 (by rw [z]; rfl)
    by_cases c : P.all isIV = true
    · rw [if_pos c]
      rw [c] at e
      have hm := intsI_map c
      have hb := intsI_bd h.1
      have hnl := intsI_len P
      have hl := h.2
      have hdl := diffs_len (intsI P)
      have ep := parts_p (ns := df P) (diffs_bd hb) (by rw [hdl, hnl]; omega)
      have hx0 : ixD (.lst P) 0 = some (.int ((intsI P).getD 0 0)) := by
        have := ix_getD (ns := intsI P) (k := 0) (by omega)
        rw [← hm] at this
        exact this
      have lc := er_lc1 (b := fun _ => true) (f := fI fun z => (intsI P).getD (z.toNat + 1) 0 - (intsI P).getD z.toNat 0) (L := rgD 0 ((intsI P).length - 1)) (mi := ziR1 (zCons (zOp subD (zCallS lenD (zCons (zVar 0) (zNil))) (zC (.int 1))) (zNil))) (tg := gN 4) (tt := zYes) (el := zOp subD (zIx (zVar 0) (zOp addS (zVar 4) (zC (.int 1)))) (zIx (zVar 0) (zVar 4))) (vs := [4])
        (g := [.dat (.lst P), .un, .un, .un, .un]) (h := [.dat (.lst P), .un, .un, .un, .un]) (base := [.dat (.lst P), .un, .un, .un, .un])
        (by
          have := mi_R1 (mr := zCons (zOp subD (zCallS lenD (zCons (zVar 0) (zNil))) (zC (.int 1))) (zNil)) (g := [.dat (.lst P), .un, .un, .un, .un]) (k := (P.length : Int) - 1) (er_cons (er_op (er_callS (er_cons rfl er_nil) rfl hlen rfl) er_C rfl rfl rfl rfl) er_nil) (rgOk_of (by omega) (by omega))
          rw [show ((P.length : Int) - 1).toNat = (intsI P).length - 1 by omega] at this
          exact this) (fun o => rfl) (fun o => rfl) (sz (by rw [rgD_len]; omega)) (fun d hd => by
          obtain ⟨i, hi⟩ := List.getElem?_of_mem hd
          obtain ⟨hi2, rfl⟩ := rgD_at hi
          rw [show (0 + (i : Int)) = (i : Int) by omega]
          have y1 := ix_getD (ns := intsI P) (k := i) (by omega)
          have y2 := ix_getD (ns := intsI P) (k := i + 1) (by omega)
          rw [← hm] at y1 y2
          have hf2 : (fI fun z => (intsI P).getD (z.toNat + 1) 0 - (intsI P).getD z.toNat 0) (.int (i : Int)) = .int ((intsI P).getD (i + 1) 0 - (intsI P).getD i 0) := by
            show D.int ((intsI P).getD ((i : Int).toNat + 1) 0 - (intsI P).getD (i : Int).toNat 0) = _
            rw [Int.toNat_natCast]
          rw [hf2]
          refine lc_dat (h := [.dat (.lst P), .un, .un, .un, .dat (.int (i : Int))]) rfl (fun o => rfl) (fun o => rfl) (fun o => rfl) (fun o => rfl) (fun _ o => ?_)
          exact er_op (er_ix rfl (er_op rfl er_C rfl rfl rfl rfl) rfl y2) (er_ix rfl rfl rfl y1) rfl rfl rfl rfl)
      rw [diff_lists] at lc
      unfold partsD at ep
      unfold dlB dB
      generalize packV (wd (df P)) (ov (df P)) = bits at *
      generalize wd (df P) = w at *
      generalize lowI (df P) = l at *
      generalize (diffs (intsI P)).map D.int = F at *
      generalize (intsI P).getD 0 0 = a at *
      unfold d_deltas_body b_deltas_body
      refine runP_ap (g := [.dat (.lst P), .un, .un, .un, .un]) rfl rfl ?_
      refine sr_if (b := false) (g1 := [.dat (.lst P), .un, .un, .un, .un]) (er_orTF (er_tst (er_op (er_callS (er_cons rfl er_nil) rfl hlen rfl) er_C rfl rfl rfl rfl)) hne (er_notT (er_tru (er_call (ds := [.lst P]) (er_cons rfl er_nil) e) rfl rfl))) rfl (fun h => by cases h) (fun _ => sr_nx ?_)
      refine seq_nx (g1 := [.dat (.lst P), .dat (.int l), .dat (.int (w : Int)), .dat (.int bits), .un]) (asg_run (er_callGF (rs := [.bor 5]) (ds := [.lst F]) (g1 := [.dat (.lst P), .un, .un, .un, .un, .own (.lst F) false false]) (er_cons lc er_nil) rfl rfl ep rfl) rfl rfl) ?_
      walk_at "s"
      exact rfl
    · rw [if_neg c]
      rw [Bool.eq_false_iff.mpr c] at e
      unfold d_deltas_body b_deltas_body
      refine runP_ap (g := [.dat (.lst P), .un, .un, .un, .un]) rfl rfl ?_
      refine sr_if (b := true) (g1 := [.dat (.lst P), .un, .un, .un, .un]) (er_orTF (er_tst (er_op (er_callS (er_cons rfl er_nil) rfl hlen rfl) er_C rfl rfl rfl rfl)) hne (er_notT (er_tru (er_call (ds := [.lst P]) (er_cons rfl er_nil) e) rfl rfl))) rfl (fun _ => ?_) (fun h => by cases h)
      exact sr_retS er_C rfl
mutual
def rkB : D → Bool
  | .non => true
  | .bl _ => true
  | .int i => decide (i.natAbs.log2 < 2200)
  | .str s => s.all fun c => decide (c < 1114112)
  | .tup l => rkBA l
  | .lst l => rkBA l
  | _ => false
def rkBA : List D → Bool
  | [] => true
  | d :: l => rkB d && rkBA l
end
mutual
def wB : D → Nat
  | .str s => s.length
  | .int i => i.natAbs.log2 + 1
  | .tup l => wBA l
  | .lst l => wBA l
  | _ => 0
def wBA : List D → Nat
  | [] => 0
  | d :: l => wB d + 1 + wBA l
end
theorem p663 : 2 ^ 2200 < 10 ^ 663 := by decide +kernel
mutual
theorem rkB_lay : ∀ d : D, rkB d = true → d.py.canLay0 = true ∧ showB d.py = true ∧ d.py.intsShort 664 = true ∧ d.py.depth = d.dp ∧ d.py.weight ≤ wB d
  | .non, _ => ⟨rfl, rfl, rfl, rfl, Nat.le_refl _⟩
  | .bl _, _ => ⟨rfl, rfl, rfl, rfl, Nat.le_refl _⟩
  | .int i, h => by
    have h : i.natAbs.log2 < 2200 := of_decide_eq_true h
    refine ⟨rfl, decide_eq_true h, decide_eq_true ?_, rfl, ?_⟩
    · have e := int_text_length_le10 (k := 663) (a := i) (by decide) (Nat.lt_trans (lt_of_log2 h) p663)
      show (Str.ofString (toString i)).length ≤ 664
      rw [PySem.ofString_length]
      exact e
    · show (if (i == 0) = true then 0 else i.natAbs.log2 + 1) ≤ i.natAbs.log2 + 1
      split <;> omega
  | .str s, h => by
    have h : (s.all fun c => decide (c < 1114112)) = true := h
    refine ⟨?_, rfl, rfl, rfl, ?_⟩
    · show PyData.strOk ⟨s.toArray⟩ = true
      simpa [PyData.strOk] using h
    · show s.toArray.size ≤ s.length
      simp
  | .raw _, h => by cases h
  | .dic _ _, h => by cases h
  | .obj _ _ _, h => by cases h
  | .tup l, h => by
    obtain ⟨a, b, c, d, e⟩ := rkB_layA l h
    exact ⟨a, b, c, by show PyData.depthAll _ + 1 = D.dpA l + 1; rw [d], e⟩
  | .lst l, h => by
    obtain ⟨a, b, c, d, e⟩ := rkB_layA l h
    exact ⟨a, b, c, by show PyData.depthAll _ + 1 = D.dpA l + 1; rw [d], e⟩
theorem rkB_layA : ∀ l : List D, rkBA l = true → PyData.canLayAll0 (D.pyA l) = true ∧ showBA (D.pyA l) = true ∧ PyData.intsShortAll 664 (D.pyA l) = true ∧ PyData.depthAll (D.pyA l) = D.dpA l ∧ PyData.weightAll (D.pyA l) ≤ wBA l
  | [], _ => ⟨rfl, rfl, rfl, rfl, Nat.le_refl _⟩
  | d :: l, h => by
    have h : (rkB d && rkBA l) = true := h
    rw [Bool.and_eq_true] at h
    obtain ⟨a1, b1, c1, d1, e1⟩ := rkB_lay d h.1
    obtain ⟨a2, b2, c2, d2, e2⟩ := rkB_layA l h.2
    refine ⟨?_, ?_, ?_, ?_, ?_⟩
    · show (PyData.canLay0 d.py && PyData.canLayAll0 (D.pyA l)) = true
      rw [a1, a2]; rfl
    · show (showB d.py && showBA (D.pyA l)) = true
      rw [b1, b2]; rfl
    · show (PyData.intsShort 664 d.py && PyData.intsShortAll 664 (D.pyA l)) = true
      rw [c1, c2]; rfl
    · show max (PyData.depth d.py) (PyData.depthAll (D.pyA l)) = max d.dp (D.dpA l)
      rw [d1, d2]
    · show PyData.weight d.py + 1 + PyData.weightAll (D.pyA l) ≤ wB d + 1 + wBA l
      omega
end
theorem rkB_repr {d : D} (r : isRef d = true) (h : rkB d = true) (h2 : d.dp ≤ 60) (h3 : wB d ≤ 22000) : reprB [d] = some (.str (shownD d)) := by
  obtain ⟨a, b, c, e, w⟩ := rkB_lay d h
  have s := PyData.shown_le 664 (by decide) d.py (PyData.leavesShort_of_canLay0 664 d.py a c)
  have m : (664 + 2) * d.py.weight ≤ (664 + 2) * 22000 := Nat.mul_le_mul_left _ (by omega)
  have z : (15000000 : Nat) ≤ sizeLine := by decide
  have ok : reprOkB d = true := by
    unfold reprOkB
    rw [r, a, b, decide_eq_true (show d.py.depth ≤ 64 by omega), decide_eq_true (show d.py.shown.length ≤ sizeLine by omega)]
    rfl
  cases d with
  | lst l =>
    show (if reprOkB (.lst l) = true then some (D.str (shownD (.lst l))) else none) = _
    rw [if_pos ok]
  | tup l =>
    show (if reprOkB (.tup l) = true then some (D.str (shownD (.tup l))) else none) = _
    rw [if_pos ok]
  | _ => cases r
structure Sm (d : D) (n : Nat) (w : Nat) : Prop where
  rr : rkB d = true
  dd : d.dp ≤ n
  ww : wB d ≤ w
structure SmA (l : List D) (n : Nat) (w : Nat) : Prop where
  rr : rkBA l = true
  dd : D.dpA l ≤ n
  ww : wBA l ≤ w
theorem sm_nil {n w : Nat} : SmA [] n w := ⟨rfl, Nat.zero_le _, Nat.zero_le _⟩
theorem sm_cons {d : D} {l : List D} {n a b w : Nat} (h : Sm d n a) (k : SmA l n b) (hw : a + 1 + b ≤ w) : SmA (d :: l) n w := by
  refine ⟨?_, ?_, ?_⟩
  · show (rkB d && rkBA l) = true
    rw [h.rr, k.rr]; rfl
  · show max d.dp (D.dpA l) ≤ n
    have := h.dd; have := k.dd; omega
  · show wB d + 1 + wBA l ≤ w
    have := h.ww; have := k.ww; omega
theorem sm_tup {l : List D} {n w : Nat} (h : SmA l n w) : Sm (.tup l) (n + 1) w := ⟨h.rr, by show D.dpA l + 1 ≤ n + 1; have := h.dd; omega, h.ww⟩
theorem sm_lst {l : List D} {n w : Nat} (h : SmA l n w) : Sm (.lst l) (n + 1) w := ⟨h.rr, by show D.dpA l + 1 ≤ n + 1; have := h.dd; omega, h.ww⟩
theorem log_lt {i : Int} {k : Nat} (hk : 0 < k) (h : i.natAbs < 2 ^ k) : i.natAbs.log2 < k := by
  by_cases z : i.natAbs = 0
  · rw [z]; exact hk
  · exact (Nat.log2_lt z).mpr h
theorem sm_int {i : Int} {n k : Nat} (hk0 : 0 < k) (hk : k ≤ 2200) (h : i.natAbs < 2 ^ k) : Sm (.int i) n k := by
  have l := log_lt hk0 h
  exact ⟨decide_eq_true (by omega), Nat.zero_le _, by show i.natAbs.log2 + 1 ≤ k; omega⟩
theorem sm_key {s : List Nat} {n : Nat} (h : (s.all fun c => decide (c < 1114112)) = true) : Sm (.str s) n s.length := ⟨h, Nat.zero_le _, Nat.le_refl _⟩
theorem sm_cv {v : D} (h : CV v) {n : Nat} : Sm v n 200 := by
  cases v with
  | non => exact ⟨rfl, Nat.zero_le _, Nat.zero_le _⟩
  | bl b => exact ⟨rfl, Nat.zero_le _, Nat.zero_le _⟩
  | int i =>
    have := sm_int (i := i) (n := n) (k := 60) (by decide) (by decide) (by have := h.2 i rfl; omega)
    exact ⟨this.rr, this.dd, Nat.le_trans this.ww (by decide)⟩
  | str t =>
    obtain ⟨h1, h2⟩ := (show t.length ≤ 200 ∧ ∀ c ∈ t, sg c from h.1)
    exact ⟨List.all_eq_true.mpr fun c hc => decide_eq_true (by have := h2 c hc; unfold sg at this; omega), Nat.zero_le _, h1⟩
  | _ => exact h.1.elim
theorem sm_cvs {n : Nat} : ∀ {C : List D}, (∀ v ∈ C, CV v) → SmA C n (201 * C.length)
  | [], _ => sm_nil
  | v :: C, h => sm_cons (sm_cv (h v List.mem_cons_self)) (sm_cvs (C := C) fun x hx => h x (List.mem_cons_of_mem _ hx)) (by rw [List.length_cons]; omega)
theorem sm_runs : ∀ {Q : List (D × Nat)}, QOk Q → SmA (Q.map rD) 1 (220 * Q.length)
  | [], _ => sm_nil
  | q :: Q, h => by
    obtain ⟨h1, h2⟩ := h q List.mem_cons_self
    exact sm_cons (a := 209) (sm_tup (n := 0) (sm_cons (sm_cv h1) (sm_cons (a := 7) (b := 0) (w := 8) (sm_int (by decide) (by decide) (by have := h2; rw [Int.natAbs_natCast]; omega)) sm_nil (by decide)) (by decide))) (sm_runs (Q := Q) fun x hx => h x (List.mem_cons_of_mem _ hx)) (by rw [List.length_cons]; omega)
theorem bits_le55 {m : Int} (h0 : 0 ≤ m) (h : m < 2 ^ 55) : Builtin.Int.intBits m ≤ 55 := by
  obtain ⟨k, rfl⟩ := Int.eq_ofNat_of_zero_le h0
  unfold Builtin.Int.intBits
  by_cases z : k = 0
  · subst z
    decide
  · have h1 : (((k : Nat) : Int) == 0) = false := by simp; omega
    rw [h1]
    simp only [Bool.false_eq_true, if_false, Int.natAbs_natCast]
    have := (Nat.log2_lt z).mpr (show k < 2 ^ 55 by omega)
    omega
theorem sm_pack {w n : Nat} {ns : List Int} (hf : Fit w ns) (hw : w ≤ 55) (hn : ns.length ≤ 40) : Sm (.int (packV w ns)) n 2200 := by
  obtain ⟨h1, h2⟩ := pack_bd w hf
  have hk : w * ns.length ≤ 55 * 40 := Nat.mul_le_mul hw hn
  refine sm_int (by decide) (Nat.le_refl _) ?_
  have hp : (2 : Nat) ^ (w * ns.length) ≤ 2 ^ 2200 := Nat.pow_le_pow_right (by decide) hk
  have e : ((2 ^ (w * ns.length) : Nat) : Int) = (2 : Int) ^ (w * ns.length) := Int.natCast_pow ..
  generalize (2 : Int) ^ (w * ns.length) = A at *
  generalize packV w ns = b at *
  generalize (2 : Nat) ^ (w * ns.length) = B at *
  generalize (2 : Nat) ^ 2200 = Z at *
  omega
theorem wd55 {ns : List Int} (k : POk ns) : wd ns ≤ 55 := bits_le55 k.top.1 (by have := k.top.2; omega)
theorem sm_n {n k : Nat} (h : k ≤ 60) : Sm (.int (k : Int)) n 7 := sm_int (by decide) (by decide) (by rw [Int.natAbs_natCast]; omega)
theorem sm_l {l : Int} {n : Nat} (h : l.natAbs ≤ 4 * 10 ^ 15) : Sm (.int l) n 60 := sm_int (by decide) (by decide) (by omega)
theorem plain_vals (P : List D) : d_values_of [.tup [.str kPL, .tup P]] = some (.new (.lst P)) := by
  unfold d_values_of b_values_of
  refine runP_ap (g := [.dat (.tup [.str kPL, .tup P]), .un, .un, .un, .un, .un, .un]) rfl rfl ?_
  walk_at "w"
  exact rfl
theorem ne_str (t : List Nat) : neqD (.str t) (.str t) = some (.bl false) := by
  have : neOk (.str t) (.str t) = true := by
    unfold neOk
    have : D.kin (.str t) (.str t) = true := rfl
    rw [this]
    rfl
  unfold neqD
  rw [if_pos this]
  simp [D.eqv]
mutual
def TX : D → List Nat
  | .non => [78, 111, 110, 101]
  | .bl b => if b then [84, 114, 117, 101] else [70, 97, 108, 115, 101]
  | .int i => if i < 0 then 45 :: TL.numL i.natAbs else TL.numL i.natAbs
  | .str s => (if 39 ∈ s then 34 else 39) :: s ++ [if 39 ∈ s then 34 else 39]
  | .tup l => 40 :: (TXA l ++ (if l.length = 1 then [44, 41] else [41]))
  | _ => []
def TXA : List D → List Nat
  | [] => []
  | d :: l => TX d ++ (match l with | [] => [] | _ :: _ => [44, 32] ++ TXA l)
end
mutual
def GD10 : D → Prop
  | .non => True
  | .bl _ => True
  | .int _ => True
  | .str s => ∀ c ∈ s, c ≠ 34 ∧ c ≠ 92 ∧ 32 ≤ c ∧ c < 127
  | .tup l => GD10A l
  | _ => False
def GD10A : List D → Prop
  | [] => True
  | d :: l => GD10 d ∧ GD10A l
end
theorem tl_app (a b : Str) : (a ++ b).cps.toList = a.cps.toList ++ b.cps.toList := by
  show (a.cps ++ b.cps).toList = _
  simp
theorem ofS_tl (s : String) : (Str.ofString s).cps.toList = s.toList.map Char.toNat := by
  rw [Str.ofString_eq_byList]
  unfold Str.ofStringByList
  simp
theorem ofS_app (a b : String) : Str.ofString (a ++ b) = Str.ofString a ++ Str.ofString b := by
  apply TL.ext_tl
  show (Str.ofString (a ++ b)).cps.toList = (Str.ofString a ++ Str.ofString b).cps.toList
  rw [tl_app, ofS_tl, ofS_tl, ofS_tl]
  simp
theorem tl_int (i : Int) : (Str.ofString (toString i)).cps.toList = TX (.int i) := by
  show _ = if i < 0 then 45 :: TL.numL i.natAbs else TL.numL i.natAbs
  by_cases h : i < 0
  · rw [if_pos h]
    obtain ⟨n, rfl⟩ : ∃ n : Nat, i = Int.negSucc n := by
      cases i with
      | ofNat n => exact absurd h (by simp)
      | negSucc n => exact ⟨n, rfl⟩
    have e : toString (Int.negSucc n) = "-" ++ toString (((n + 1 : Nat) : Int)) := rfl
    rw [e]
    have := TL.tl_num (n + 1)
    have e2 : Str.ofString ("-" ++ toString (((n + 1 : Nat) : Int))) = Str.ofString "-" ++ Str.ofString (toString (((n + 1 : Nat) : Int))) := ofS_app _ _
    rw [e2, tl_app]
    show [45] ++ TL.tl _ = _
    rw [this]
    rfl
  · rw [if_neg h]
    obtain ⟨n, rfl⟩ := Int.eq_ofNat_of_zero_le (Int.not_lt.mp h)
    exact TL.tl_num n
theorem printable : ∀ c : Fin 127, 32 ≤ c.val → PySem.Unicode.isPrintable c.val = true := by decide +kernel
theorem repr_char {q c : Nat} (h : c ≠ q) (h2 : c ≠ 92 ∧ 32 ≤ c ∧ c < 127) : Builtin.Str.reprChar q c = [c] := by
  have hp := printable ⟨c, h2.2.2⟩ h2.2.1
  have hp : PySem.Unicode.isPrintable c = true := hp
  unfold Builtin.Str.reprChar
  have e1 : (c == q) = false := by simpa using h
  have e2 : (c == 92) = false := by simpa using h2.1
  have e3 : (c == 10) = false := by simp; omega
  have e4 : (c == 13) = false := by simp; omega
  have e5 : (c == 9) = false := by simp; omega
  simp only [e1, e2, e3, e4, e5, hp, Bool.or_self, Bool.false_eq_true, if_false, if_true]
theorem fold_repr (q : Nat) : ∀ (s : List Nat) (acc : Array Nat), (∀ c ∈ s, c ≠ q ∧ c ≠ 92 ∧ 32 ≤ c ∧ c < 127) → (s.foldl (fun out c => out ++ (Builtin.Str.reprChar q c).toArray) acc).toList = acc.toList ++ s
  | [], acc, _ => by simp
  | c :: s, acc, h => by
    have hc := h c List.mem_cons_self
    rw [List.foldl_cons, fold_repr q s _ fun x hx => h x (List.mem_cons_of_mem _ hx), repr_char hc.1 hc.2]
    simp
theorem tl_str {s : List Nat} (h : ∀ c ∈ s, c ≠ 34 ∧ c ≠ 92 ∧ 32 ≤ c ∧ c < 127) : (PySem.reprText ⟨s.toArray⟩).cps.toList = TX (.str s) := by
  show _ = (if 39 ∈ s then 34 else 39) :: s ++ [if 39 ∈ s then 34 else 39]
  have h34 : (34 : Nat) ∉ s := fun m => (h 34 m).1 rfl
  have hq : PySem.reprQuote ⟨s.toArray⟩ = if 39 ∈ s then 34 else 39 := by
    unfold PySem.reprQuote
    have e2 : (s.toArray.contains 34) = false := by simp [h34]
    by_cases c : 39 ∈ s
    · have e1 : (s.toArray.contains 39) = true := by simp [c]
      simp [e1, e2, c, h34]
    · have e1 : (s.toArray.contains 39) = false := by simp [c]
      simp [e1, e2, c, h34]
  unfold PySem.reprText
  rw [hq]
  have hall : ∀ c ∈ s, c ≠ (if 39 ∈ s then 34 else 39) ∧ c ≠ 92 ∧ 32 ≤ c ∧ c < 127 := fun c hc => by
    obtain ⟨a, b⟩ := h c hc
    refine ⟨?_, b⟩
    split
    · exact a
    · rename_i n
      intro z
      subst z
      exact n hc
  generalize (if 39 ∈ s then 34 else 39) = q at *
  show ((Array.foldl _ #[q] s.toArray).push q).toList = _
  rw [Array.toList_push, ← Array.foldl_toList, fold_repr q s #[q] hall]
  rfl
mutual
theorem sh_TX : ∀ d : D, GD10 d → d.py.shown.cps.toList = TX d
  | .non, _ => by decide +kernel
  | .bl true, _ => by decide +kernel
  | .bl false, _ => by decide +kernel
  | .int i, _ => tl_int i
  | .str s, h => tl_str h
  | .tup l, h => by
    have e := sh_TXA l h
    have hl : (PyData.shownAll (D.pyA l)).length = l.length := sh_len l
    show (tupleText (PyData.shownAll (D.pyA l))).cps.toList = 40 :: (TXA l ++ (if l.length = 1 then [44, 41] else [41]))
    unfold tupleText
    rw [tl_app, tl_app, e, hl]
    by_cases c : l.length = 1
    · rw [if_pos c]
      have : (l.length == 1) = true := by simp [c]
      rw [this]
      rfl
    · rw [if_neg c]
      have : (l.length == 1) = false := by simp [c]
      rw [this]
      rfl
  | .lst _, h => h.elim
  | .raw _, h => h.elim
  | .dic _ _, h => h.elim
  | .obj _ _ _, h => h.elim
theorem sh_TXA : ∀ l : List D, GD10A l → (Str.join ", " (PyData.shownAll (D.pyA l))).cps.toList = TXA l
  | [], _ => rfl
  | [d], h => by
    show (PyData.shown d.py).cps.toList = TX d ++ []
    rw [sh_TX d h.1, List.append_nil]
  | d :: e :: l, h => by
    have h1 := sh_TX d h.1
    have h2 := sh_TXA (e :: l) h.2
    show (PyData.shown d.py ++ ", " ++ Str.join ", " (PyData.shownAll (D.pyA (e :: l)))).cps.toList = TX d ++ ([44, 32] ++ TXA (e :: l))
    rw [tl_app, tl_app, h1, h2, List.append_assoc]
    rfl
theorem sh_len : ∀ l : List D, (PyData.shownAll (D.pyA l)).length = l.length
  | [] => rfl
  | d :: l => by
    show (PyData.shownAll (D.pyA l)).length + 1 = l.length + 1
    rw [sh_len l]
end
def hk : D → Nat → Prop
  | .non, c => c = 78
  | .bl b, c => c = if b then 84 else 70
  | .int _, c => c = 45 ∨ (48 ≤ c ∧ c ≤ 57)
  | .str _, c => c = 34 ∨ c = 39
  | .tup _, c => c = 40
  | _, _ => False
theorem dg_of {n c : Nat} (h : c ∈ TL.numL n) : 48 ≤ c ∧ c ≤ 57 := by
  have := TL.numL_digits n c h
  exact this
theorem hd_of : ∀ d : D, GD10 d → ∃ c t, TX d = c :: t ∧ hk d c
  | .non, _ => ⟨78, _, rfl, rfl⟩
  | .bl true, _ => ⟨84, _, rfl, rfl⟩
  | .bl false, _ => ⟨70, _, rfl, rfl⟩
  | .int i, _ => by
    show ∃ c t, (if i < 0 then 45 :: TL.numL i.natAbs else TL.numL i.natAbs) = c :: t ∧ _
    by_cases h : i < 0
    · rw [if_pos h]
      exact ⟨45, _, rfl, .inl rfl⟩
    · rw [if_neg h]
      cases e : TL.numL i.natAbs with
      | nil => exact absurd e (TL.numL_ne _)
      | cons c t => exact ⟨c, t, rfl, .inr (dg_of (n := i.natAbs) (by rw [e]; exact List.mem_cons_self))⟩
  | .str s, _ => by
    refine ⟨_, _, rfl, ?_⟩
    show (if 39 ∈ s then 34 else 39) = 34 ∨ (if 39 ∈ s then 34 else 39) = 39
    split
    · exact .inl rfl
    · exact .inr rfl
  | .tup l, _ => ⟨40, _, rfl, rfl⟩
  | .lst _, h => h.elim
  | .raw _, h => h.elim
  | .dic _ _, h => h.elim
  | .obj _ _ _, h => h.elim
def Dl (r : List Nat) : Prop := ∀ c t, r = c :: t → c = 44 ∨ c = 41
theorem dl_44 (r : List Nat) : Dl (44 :: r) := fun c t h => by cases h; exact .inl rfl
theorem dl_41 (r : List Nat) : Dl (41 :: r) := fun c t h => by cases h; exact .inr rfl
theorem split_eq {p : Nat → Prop} : ∀ (a b r s : List Nat), (∀ c ∈ a, p c) → (∀ c ∈ b, p c) → (∀ c t, r = c :: t → ¬ p c) → (∀ c t, s = c :: t → ¬ p c) → a ++ r = b ++ s → a = b ∧ r = s
  | [], [], _, _, _, _, _, _, h => ⟨rfl, h⟩
  | [], y :: b, r, s, _, hb, hr, _, h => absurd (hb y List.mem_cons_self) (hr y _ h)
  | x :: a, [], r, s, ha, _, _, hs, h => absurd (ha x List.mem_cons_self) (hs x _ h.symm)
  | x :: a, y :: b, r, s, ha, hb, hr, hs, h => by
    have h1 := List.cons.inj h
    obtain ⟨e1, e2⟩ := split_eq a b r s (fun c hc => ha c (List.mem_cons_of_mem _ hc)) (fun c hc => hb c (List.mem_cons_of_mem _ hc)) hr hs h1.2
    exact ⟨by rw [h1.1, e1], e2⟩
theorem num_pre {n m : Nat} {r s : List Nat} (hr : Dl r) (hs : Dl s) (h : TL.numL n ++ r = TL.numL m ++ s) : n = m ∧ r = s := by
  obtain ⟨a, b⟩ := split_eq (p := fun c => 48 ≤ c ∧ c ≤ 57) _ _ r s (fun c hc => dg_of hc) (fun c hc => dg_of hc) (fun c t e => by have := hr c t e; omega) (fun c t e => by have := hs c t e; omega) h
  exact ⟨TL.numL_inj a, b⟩
theorem int_pre {i j : Int} {r s : List Nat} (hr : Dl r) (hs : Dl s) (h : TX (.int i) ++ r = TX (.int j) ++ s) : D.int i = D.int j ∧ r = s := by
  have h : (if i < 0 then 45 :: TL.numL i.natAbs else TL.numL i.natAbs) ++ r = (if j < 0 then 45 :: TL.numL j.natAbs else TL.numL j.natAbs) ++ s := h
  have no : ∀ {n : Nat} {t u : List Nat}, TL.numL n ++ t = 45 :: u → False := fun {n t u} e => by
    cases e1 : TL.numL n with
    | nil => exact TL.numL_ne _ e1
    | cons c v =>
      rw [e1] at e
      have := (List.cons.inj e).1
      have := dg_of (n := n) (c := c) (by rw [e1]; exact List.mem_cons_self)
      omega
  by_cases a : i < 0
  · rw [if_pos a] at h
    by_cases b : j < 0
    · rw [if_pos b] at h
      obtain ⟨e1, e2⟩ := num_pre hr hs (List.cons.inj h).2
      exact ⟨by rw [show i = j by omega], e2⟩
    · rw [if_neg b] at h
      exact (no h.symm).elim
  · rw [if_neg a] at h
    by_cases b : j < 0
    · rw [if_pos b] at h
      exact (no h).elim
    · rw [if_neg b] at h
      obtain ⟨e1, e2⟩ := num_pre hr hs h
      exact ⟨by rw [show i = j by omega], e2⟩
theorem str_pre {a b : List Nat} {r s : List Nat} (ha : GD10 (.str a)) (hb : GD10 (.str b)) (h : TX (.str a) ++ r = TX (.str b) ++ s) : D.str a = D.str b ∧ r = s := by
  have h : ((if 39 ∈ a then 34 else 39) :: a ++ [if 39 ∈ a then 34 else 39]) ++ r = ((if 39 ∈ b then 34 else 39) :: b ++ [if 39 ∈ b then 34 else 39]) ++ s := h
  have ha : ∀ c ∈ a, c ≠ 34 ∧ c ≠ 92 ∧ 32 ≤ c ∧ c < 127 := ha
  have hb : ∀ c ∈ b, c ≠ 34 ∧ c ≠ 92 ∧ 32 ≤ c ∧ c < 127 := hb
  have nq : ∀ {x : List Nat}, (∀ c ∈ x, c ≠ 34 ∧ c ≠ 92 ∧ 32 ≤ c ∧ c < 127) → ∀ c ∈ x, c ≠ (if 39 ∈ x then 34 else 39) := fun {x} hx c hc => by
    split
    · exact (hx c hc).1
    · rename_i n
      intro z
      subst z
      exact n hc
  have n1 := nq ha
  have n2 := nq hb
  generalize (if 39 ∈ a then 34 else 39) = q at *
  generalize (if 39 ∈ b then 34 else 39) = q2 at *
  simp only [List.cons_append, List.append_assoc] at h
  obtain ⟨e1, h⟩ := List.cons.inj h
  subst e1
  obtain ⟨e2, e3⟩ := split_eq (p := fun c => c ≠ q) a b ([q] ++ r) ([q] ++ s) n1 n2 (fun c t e => by
    have := (List.cons.inj e).1
    intro z
    exact z this.symm) (fun c t e => by
    have := (List.cons.inj e).1
    intro z
    exact z this.symm) h
  exact ⟨by rw [e2], (List.cons.inj e3).2⟩
theorem tup_text (l : List D) : TX (.tup l) = 40 :: (TXA l ++ (if l.length = 1 then [44, 41] else [41])) := rfl
theorem txa_one (d : D) : TXA [d] = TX d := by show TX d ++ [] = TX d; rw [List.append_nil]
theorem txa_two (d e : D) (l : List D) : TXA (d :: e :: l) = TX d ++ 44 :: 32 :: TXA (e :: l) := rfl
mutual
theorem tx_inj : ∀ (d : D), GD10 d → ∀ (e : D) (r s : List Nat), GD10 e → Dl r → Dl s → TX d ++ r = TX e ++ s → d = e ∧ r = s
  | .non, hd, e, r, s, he, hr, hs, h => by
    obtain ⟨c, t, h1, h2⟩ := hd_of e he
    rw [h1] at h
    have h3 : 78 = c := (List.cons.inj h).1
    cases e with
    | non => exact ⟨rfl, (List.append_right_inj (TX .non)).mp (by rw [h, ← h1])⟩
    | bl b => cases b <;> simp [hk] at h2 <;> omega
    | int i => simp only [hk] at h2; omega
    | str a => simp only [hk] at h2; omega
    | tup l => simp only [hk] at h2; omega
    | _ => exact h2.elim
  | .bl b, hd, e, r, s, he, hr, hs, h => by
    obtain ⟨c, t, h1, h2⟩ := hd_of e he
    obtain ⟨c0, t0, h01, h02⟩ := hd_of (.bl b) hd
    have h3 : c0 = c := by rw [h01, h1] at h; exact (List.cons.inj h).1
    subst h3
    have hb : c0 = 84 ∨ c0 = 70 := by cases b <;> simp [hk] at h02 <;> omega
    cases e with
    | non => simp only [hk] at h2; omega
    | bl b2 =>
      have : b = b2 := by cases b <;> cases b2 <;> first | rfl | (simp [hk] at h02 h2; omega)
      subst this
      exact ⟨rfl, (List.append_right_inj (TX (.bl b))).mp h⟩
    | int i => simp only [hk] at h2; omega
    | str a => simp only [hk] at h2; omega
    | tup l => simp only [hk] at h2; omega
    | _ => exact h2.elim
  | .int i, hd, e, r, s, he, hr, hs, h => by
    obtain ⟨c, t, h1, h2⟩ := hd_of e he
    obtain ⟨c0, t0, h01, h02⟩ := hd_of (.int i) hd
    have h3 : c0 = c := by rw [h01, h1] at h; exact (List.cons.inj h).1
    subst h3
    simp only [hk] at h02
    cases e with
    | non => simp only [hk] at h2; omega
    | bl b => cases b <;> simp [hk] at h2 <;> omega
    | int j => exact int_pre hr hs h
    | str a => simp only [hk] at h2; omega
    | tup l => simp only [hk] at h2; omega
    | _ => exact h2.elim
  | .str a, hd, e, r, s, he, hr, hs, h => by
    obtain ⟨c, t, h1, h2⟩ := hd_of e he
    obtain ⟨c0, t0, h01, h02⟩ := hd_of (.str a) hd
    have h3 : c0 = c := by rw [h01, h1] at h; exact (List.cons.inj h).1
    subst h3
    simp only [hk] at h02
    cases e with
    | non => simp only [hk] at h2; omega
    | bl b => cases b <;> simp [hk] at h2 <;> omega
    | int j => simp only [hk] at h2; omega
    | str b => exact str_pre hd he h
    | tup l => simp only [hk] at h2; omega
    | _ => exact h2.elim
  | .tup l, hd, e, r, s, he, hr, hs, h => by
    obtain ⟨c, t, h1, h2⟩ := hd_of e he
    have h3 : 40 = c := by rw [h1] at h; exact (List.cons.inj h).1
    subst h3
    cases e with
    | non => simp only [hk] at h2; omega
    | bl b => cases b <;> simp [hk] at h2
    | int j => simp only [hk] at h2; omega
    | str b => simp only [hk] at h2; omega
    | tup m =>
      rw [tup_text, tup_text] at h
      have h := (List.cons.inj h).2
      have hm : GD10A m := he
      obtain ⟨a, b⟩ := tup_inj l hd m r s hm hr hs h
      exact ⟨by rw [a], b⟩
    | _ => exact h2.elim
  | .lst _, hd, _, _, _, _, _, _, _ => hd.elim
  | .raw _, hd, _, _, _, _, _, _, _ => hd.elim
  | .dic _ _, hd, _, _, _, _, _, _, _ => hd.elim
  | .obj _ _ _, hd, _, _, _, _, _, _, _ => hd.elim
theorem tup_inj : ∀ (l : List D), GD10A l → ∀ (m : List D) (r s : List Nat), GD10A m → Dl r → Dl s → (TXA l ++ (if l.length = 1 then [44, 41] else [41])) ++ r = (TXA m ++ (if m.length = 1 then [44, 41] else [41])) ++ s → l = m ∧ r = s
  | [], _, m, r, s, hm, hr, hs, h => by
    cases m with
    | nil => exact ⟨rfl, (List.cons.inj h).2⟩
    | cons y m =>
      exfalso
      obtain ⟨c, t, h1, h2⟩ := hd_of y hm.1
      have h3 : 41 = c := by
        obtain ⟨u, e⟩ : ∃ u, TXA (y :: m) = TX y ++ u := ⟨_, rfl⟩
        rw [e, h1] at h
        exact (List.cons.inj h).1
      subst h3
      cases y with
      | bl b => cases b <;> simp [hk] at h2
      | non => simp [hk] at h2
      | int i => simp [hk] at h2
      | str i => simp [hk] at h2
      | tup i => simp [hk] at h2
      | _ => exact h2.elim
  | [x], hl, m, r, s, hm, hr, hs, h => by
    rw [txa_one, if_pos (show [x].length = 1 from rfl), List.append_assoc] at h
    match m, hm, h with
    | [], hm, h =>
      exfalso
      obtain ⟨c, t, h1, h2⟩ := hd_of x hl.1
      have h3 : c = 41 := by
        rw [h1] at h
        exact (List.cons.inj h).1
      subst h3
      cases x with
      | bl b => cases b <;> simp [hk] at h2
      | non => simp [hk] at h2
      | int i => simp [hk] at h2
      | str i => simp [hk] at h2
      | tup i => simp [hk] at h2
      | _ => exact h2.elim
    | [y], hm, h =>
      rw [txa_one, if_pos (show [y].length = 1 from rfl), List.append_assoc] at h
      obtain ⟨a, b⟩ := tx_inj x hl.1 y _ _ hm.1 (dl_44 _) (dl_44 _) h
      exact ⟨by rw [a], (List.cons.inj (List.cons.inj b).2).2⟩
    | y :: z :: t, hm, h =>
      exfalso
      rw [txa_two, List.append_assoc, List.append_assoc] at h
      obtain ⟨a, b⟩ := tx_inj x hl.1 y _ _ hm.1 (dl_44 _) (dl_44 _) h
      have := (List.cons.inj (List.cons.inj b).2).1
      omega
  | x :: x2 :: l, hl, m, r, s, hm, hr, hs, h => by
    have n1 : ¬ (x :: x2 :: l).length = 1 := by simp
    rw [txa_two, if_neg n1, List.append_assoc, List.append_assoc] at h
    match m, hm, h with
    | [], hm, h =>
      exfalso
      obtain ⟨c, t, h1, h2⟩ := hd_of x hl.1
      have h3 : c = 41 := by
        rw [h1] at h
        exact (List.cons.inj h).1
      subst h3
      cases x with
      | bl b => cases b <;> simp [hk] at h2
      | non => simp [hk] at h2
      | int i => simp [hk] at h2
      | str i => simp [hk] at h2
      | tup i => simp [hk] at h2
      | _ => exact h2.elim
    | [y], hm, h =>
      exfalso
      rw [txa_one, if_pos (show [y].length = 1 from rfl), List.append_assoc] at h
      obtain ⟨a, b⟩ := tx_inj x hl.1 y _ _ hm.1 (dl_44 _) (dl_44 _) h
      have := (List.cons.inj (List.cons.inj b).2).1
      omega
    | y :: z :: t, hm, h =>
      have n2 : ¬ (y :: z :: t).length = 1 := by simp
      rw [txa_two, if_neg n2, List.append_assoc, List.append_assoc] at h
      obtain ⟨a, b⟩ := tx_inj x hl.1 y _ _ hm.1 (dl_44 _) (dl_44 _) h
      have b := (List.cons.inj (List.cons.inj b).2).2
      obtain ⟨e1, e2⟩ := txa_inj (x2 :: l) hl.2 (by simp) (z :: t) r s hm.2 (by simp) b
      exact ⟨by rw [a, e1], e2⟩
theorem txa_inj : ∀ (l : List D), GD10A l → l ≠ [] → ∀ (m : List D) (r s : List Nat), GD10A m → m ≠ [] → TXA l ++ ([41] ++ r) = TXA m ++ ([41] ++ s) → l = m ∧ r = s
  | [], _, h, _, _, _, _, _, _ => absurd rfl h
  | [x], hl, _, m, r, s, hm, hn, h => by
    rw [txa_one] at h
    match m, hm, hn, h with
    | [], _, hn, _ => exact absurd rfl hn
    | [y], hm, _, h =>
      rw [txa_one] at h
      obtain ⟨a, b⟩ := tx_inj x hl.1 y _ _ hm.1 (dl_41 _) (dl_41 _) h
      exact ⟨by rw [a], (List.cons.inj b).2⟩
    | y :: z :: t, hm, _, h =>
      exfalso
      rw [txa_two, List.append_assoc] at h
      obtain ⟨a, b⟩ := tx_inj x hl.1 y _ _ hm.1 (dl_41 _) (dl_44 _) h
      have := (List.cons.inj b).1
      omega
  | x :: x2 :: l, hl, _, m, r, s, hm, hn, h => by
    rw [txa_two, List.append_assoc] at h
    match m, hm, hn, h with
    | [], _, hn, _ => exact absurd rfl hn
    | [y], hm, _, h =>
      exfalso
      rw [txa_one] at h
      obtain ⟨a, b⟩ := tx_inj x hl.1 y _ _ hm.1 (dl_44 _) (dl_41 _) h
      have := (List.cons.inj b).1
      omega
    | y :: z :: t, hm, _, h =>
      rw [txa_two, List.append_assoc] at h
      obtain ⟨a, b⟩ := tx_inj x hl.1 y _ _ hm.1 (dl_44 _) (dl_44 _) h
      have b := (List.cons.inj (List.cons.inj b).2).2
      obtain ⟨e1, e2⟩ := txa_inj (x2 :: l) hl.2 (by simp) (z :: t) r s hm.2 (by simp) b
      exact ⟨by rw [a, e1], e2⟩
end
/-- the texts of two data that differ -/
theorem shown_ne {d e : D} (hd : GD10 d) (he : GD10 e) (h : d ≠ e) : shownD d ≠ shownD e := fun z => by
  have z : d.py.shown.cps.toList = e.py.shown.cps.toList := z
  rw [sh_TX d hd, sh_TX e he] at z
  have z : TX d ++ [] = TX e ++ [] := by rw [List.append_nil, List.append_nil]; exact z
  exact h (tx_inj d hd e [] [] he (fun c t h => by cases h) (fun c t h => by cases h) z).1
local macro_rules | `(tactic| walk_at "e") => `(tactic| first | ((with_reducible apply er_ifT); (walk_at "e"); (walk_at "e")) | ((with_reducible apply er_ifF); (walk_at "e"); (walk_at "e")))
def BodyOk (fm : List Nat) (P : List D) (R : D) : Prop := (∃ fs, R = .tup (.str fm :: fs)) ∧ d_values_of [R] = some (.new (.lst P)) ∧ True
abbrev cE : Str := "Encoded"
def enc (n : Nat) (mk R : D) : D := .obj cE fl_Encoded [.int (n : Int), mk, R]
theorem form_ok {fm : List Nat} {R mk : D} {P : List D} {n : Nat} (hB : BodyOk fm P R) : d_Encoded__form [enc n mk R] = some (.dat (.str fm)) := by
  obtain ⟨⟨fs, rfl⟩, _⟩ := hB
  have hx : ixD (.tup (.str fm :: fs)) 0 = some (.str fm) := by
    have := @atI_nat D (.str fm :: fs) 0 (.str fm) rfl
    exact this
  unfold d_Encoded__form b_Encoded__form
  refine runP_ap (g := [.dat (enc n mk (.tup (.str fm :: fs)))]) rfl rfl ?_
  exact sr_ret (er_ix (er_fld rfl rfl) rfl rfl hx) rfl
def nN : D → Bool
  | .non => false
  | _ => true
theorem isnt_cv {v : D} (h : CV v) : isntD v .non = some (.bl (nN v)) := by
  cases v <;> first | rfl | exact h.1.elim
theorem is_cv {v : D} (h : CV v) : isD v .non = some (.bl (!nN v)) := by
  cases v <;> first | rfl | exact h.1.elim
def present (C : List D) : List D := C.filter nN
def maskB (C : List D) : List Bool := C.map fun v => !nN v
theorem pr_of {C : List D} (h : Pr C) : Pr (present C) := ⟨fun v hv => h.1 v (List.mem_filter.mp hv).1, Nat.le_trans (List.length_filter_le _ _) h.2⟩
theorem present_all {C : List D} (h : (maskB C).any id = false) : present C = C := by
  unfold present
  rw [List.filter_eq_self]
  intro v hv
  rw [List.any_eq_false] at h
  have := h (!nN v) (List.mem_map.mpr ⟨v, hv, rfl⟩)
  cases e : nN v with
  | true => rfl
  | false => rw [e] at this; exact absurd rfl this
def mk_ (C : List D) : D := if (maskB C).any id then .lst ((maskB C).map D.bl) else .non
theorem make_ok (n : Nat) (mk R : D) (h : mk = .non ∨ ∃ M, mk = .lst M) : i_Encoded [.int (n : Int), mk, R] = some [.int (n : Int), mk, R] := by
  rcases h with rfl | ⟨M, rfl⟩ <;> rfl
theorem any_ok (C : List D) : anyL [.lst ((maskB C).map D.bl)] = some (.bl ((maskB C).any id)) := dr_any _
def encR (n : Nat) (mk : D) : D → D
  | .non => .non
  | R => enc n mk R
theorem enc_as {C : List D} (h : (∀ v ∈ C, CV v) ∧ C.length ≤ 100) (fm : List Nat) (R : D) (e : d_body_of [.str fm, .lst (present C)] = some (.dat R)) (hR : R = .non ∨ ∃ l, R = .tup l) : d_encode_as [.str fm, .lst C] = some (.dat (encR C.length (mk_ C) R)) := by
  obtain ⟨hC, hl⟩ := h
  have lc1 := er_lc1 (b := nN) (f := fun x => x) (L := C) (mi := ziL 5 (zVar 1)) (tg := gN 4) (tt := zTst (zOp isntD (zVar 4) (zC .non))) (el := zVar 4) (vs := [4]) (g := [.dat (.str fm), .dat (.lst C), .un, .un, .un]) (h := [.dat (.str fm), .dat (.lst C), .un, .un, .un]) (base := [.dat (.str fm), .dat (.lst C), .un, .un, .un]) (mi_Ld rfl) (fun o => rfl) (fun o => rfl) (sz (by omega)) (fun d hd => lc_dat (h := [.dat (.str fm), .dat (.lst C), .un, .un, .dat d]) rfl (fun o => rfl) (fun o => rfl) (fun o => rfl) (fun o => er_tst (er_op rfl er_C rfl rfl (isnt_cv (hC d hd)) rfl)) (fun _ o => rfl))
  rw [List.map_id'] at lc1
  rw [show C.filter nN = present C from rfl] at lc1
  rcases hR with rfl | ⟨l, rfl⟩
  · show _ = some (FR.dat .non)
    generalize present C = P at *
    unfold d_encode_as b_encode_as
    refine runP_ap (g := [.dat (.str fm), .dat (.lst C), .un, .un, .un]) rfl rfl ?_
    refine seq_nx (g1 := [.dat (.str fm), .dat (.lst C), .dat .non, .un, .un]) (set_dat (er_callV (ds := [.str fm, .lst P]) (er_cons rfl (er_cons lc1 er_nil)) rfl e rfl) rfl rfl) ?_
    refine sr_if (b := true) (g1 := [.dat (.str fm), .dat (.lst C), .dat .non, .un, .un]) rfl rfl (fun _ => ?_) (fun h => by cases h)
    exact sr_retS er_C rfl
  · show _ = some (FR.dat (enc C.length (mk_ C) (.tup l)))
    have hi : isD (.tup l) .non = some (.bl false) := rfl
    have lc2 := er_lc1 (b := fun _ => true) (f := fun v => D.bl (!nN v)) (L := C) (mi := ziL 5 (zVar 1)) (tg := gN 4) (tt := zYes) (el := zOp isD (zVar 4) (zC .non)) (vs := [4]) (g := [.dat (.str fm), .dat (.lst C), .dat (.tup l), .un, .un]) (h := [.dat (.str fm), .dat (.lst C), .dat (.tup l), .un, .un]) (base := [.dat (.str fm), .dat (.lst C), .dat (.tup l), .un, .un]) (mi_Ld rfl) (fun o => rfl) (fun o => rfl) (sz (by omega)) (fun d hd => lc_dat (h := [.dat (.str fm), .dat (.lst C), .dat (.tup l), .un, .dat d]) rfl (fun o => rfl) (fun o => rfl) (fun o => rfl) (fun o => rfl) (fun _ o => er_op rfl er_C rfl rfl (is_cv (hC d hd)) rfl))
    rw [List.filter_eq_self.mpr (fun _ _ => rfl), show (C.map fun v => D.bl (!nN v)) = (maskB C).map D.bl by unfold maskB; rw [List.map_map]; rfl] at lc2
    have ha := any_ok C
    have hmk : mk_ C = if (maskB C).any id then .lst ((maskB C).map D.bl) else .non := rfl
    have hlen := len_l C
    have mko := make_ok C.length (mk_ C) (.tup l) (by rw [hmk]; split; exact .inr ⟨_, rfl⟩; exact .inl rfl)
    unfold enc
    generalize present C = P at *
    generalize (maskB C).map D.bl = M at *
    generalize (maskB C).any id = b at *
    generalize mk_ C = mk at *
    subst hmk
    unfold d_encode_as b_encode_as
    refine runP_ap (g := [.dat (.str fm), .dat (.lst C), .un, .un, .un]) rfl rfl ?_
    refine seq_nx (g1 := [.dat (.str fm), .dat (.lst C), .dat (.tup l), .un, .un]) (set_dat (er_callGF (rs := [.dat (.str fm), .bor 5]) (g1 := [.dat (.str fm), .dat (.lst C), .un, .un, .un, .own (.lst P) false false]) (ds := [.str fm, .lst P]) (er_cons rfl (er_cons lc1 er_nil)) rfl rfl e rfl) rfl rfl) ?_
    refine sr_if (b := false) (g1 := [.dat (.str fm), .dat (.lst C), .dat (.tup l), .un, .un]) (er_tst (er_op rfl er_C rfl rfl hi rfl)) rfl (fun h => by cases h) (fun _ => sr_nx ?_)
    refine seq_nx (g1 := [.dat (.str fm), .dat (.lst C), .dat (.tup l), .own (.lst M) false false, .un]) (set_own lc2 (Nat.le_of_ble_eq_true rfl) rfl rfl rfl) ?_
    have ht : zNotT (zTru (zCallS anyL (zCons (zVar 3) (zNil)))) [.dat (.str fm), .dat (.lst C), .dat (.tup l), .own (.lst M) false false, .un] = some (!b, [.dat (.str fm), .dat (.lst C), .dat (.tup l), .own (.lst M) false false, .un]) := er_notT (er_tru (er_callS (ds := [.lst M]) (er_cons rfl er_nil) rfl ha rfl) rfl rfl)
    cases b with
    | true =>
      refine sr_if (b := false) (g1 := [.dat (.str fm), .dat (.lst C), .dat (.tup l), .own (.lst M) false false, .un]) ht rfl (fun h => by cases h) (fun _ => sr_nx ?_)
      refine sr_ret (er_make (rs := [.dat (.int (C.length : Int)), .bor 3, .dat (.tup l)]) (ds := [.int (C.length : Int), .lst M, .tup l]) (g2 := [.dat (.str fm), .dat (.lst C), .dat (.tup l), .frz (.lst M), .un]) (er_cons (er_callS (ds := [.lst C]) (er_cons rfl er_nil) rfl hlen rfl) (er_cons rfl (er_cons rfl er_nil))) rfl mko) ?_
      exact rfl
    | false =>
      refine sr_if (b := true) (g1 := [.dat (.str fm), .dat (.lst C), .dat (.tup l), .own (.lst M) false false, .un]) ht rfl (fun _ => ?_) (fun h => by cases h)
      refine seq_nx (g1 := [.dat (.str fm), .dat (.lst C), .dat (.tup l), .dat .non, .un]) (set_dat er_C rfl rfl) ?_
      refine sr_ret (er_make (rs := [.dat (.int (C.length : Int)), .dat .non, .dat (.tup l)]) (ds := [.int (C.length : Int), .non, .tup l]) (g2 := [.dat (.str fm), .dat (.lst C), .dat (.tup l), .dat .non, .un]) (er_cons (er_callS (ds := [.lst C]) (er_cons rfl er_nil) rfl hlen rfl) (er_cons rfl (er_cons rfl er_nil))) rfl mko) ?_
      exact rfl
theorem pres_at {C : List D} {i : Nat} {v : D} (h : C[i]? = some v) (hv : nN v = true) : (present C)[(present (C.take i)).length]? = some v := by
  have hi : i < C.length := (List.getElem?_eq_some_iff.mp h).1
  have e : C = C.take i ++ v :: C.drop (i + 1) := by
    conv => lhs; rw [← List.take_append_drop i C]
    rw [List.drop_eq_getElem_cons hi]
    congr 2
    exact (List.getElem?_eq_some_iff.mp h).2
  conv => lhs; rw [e]
  unfold present
  rw [List.filter_append, List.filter_cons, hv, if_pos rfl]
  rw [List.take_append_of_le_length (by rw [List.length_take]; omega), List.take_take, Nat.min_self]
  simp
theorem pres_take {C : List D} {i : Nat} {v : D} (h : C[i]? = some v) : (present (C.take (i + 1))).length = (present (C.take i)).length + if nN v then 1 else 0 := by
  unfold present
  rw [List.take_succ, h, List.filter_append, List.length_append]
  congr 1
  show (List.filter nN [v]).length = _
  rw [List.filter_cons]
  cases nN v <;> rfl
theorem dec_ok {C : List D} (h : Pr C) {fm : List Nat} {R : D} (hB : BodyOk fm (present C) R) : d_Encoded__decoded [enc C.length (mk_ C) R] = some (.new (.lst C)) := by
  obtain ⟨hC, hl⟩ := h
  obtain ⟨_, bv, _⟩ := hB
  generalize hX : enc C.length (mk_ C) R = X
  have f2 : ∀ {g g1 : G} {m : ZM}, m g = some (.dat X, g1) → zFld cE fl_Encoded 2 m g = some (.dat R, g1) := fun hm => by rw [← hX] at hm; exact er_fld hm rfl
  have f1 : ∀ {g g1 : G} {m : ZM}, m g = some (.dat X, g1) → zFld cE fl_Encoded 1 m g = some (.dat (mk_ C), g1) := fun hm => by rw [← hX] at hm; exact er_fld hm rfl
  have hmk : mk_ C = if (maskB C).any id then .lst ((maskB C).map D.bl) else .non := rfl
  cases hb : (maskB C).any id with
  | false =>
    rw [hb, if_neg Bool.false_ne_true] at hmk
    rw [hmk] at f1
    rw [present_all hb] at bv
    unfold d_Encoded__decoded b_Encoded__decoded
    refine runP_ap (g := [.dat X, .un, .un, .un, .un]) rfl rfl ?_
    refine seq_nx (g1 := [.dat X, .own (.lst C) false false, .un, .un, .un]) (set_own (er_callL (g1 := [.dat X, .un, .un, .un, .un]) (ds := [R]) (er_cons (f2 rfl) er_nil) bv) (Nat.le_of_ble_eq_true rfl) rfl rfl rfl) ?_
    refine sr_if (b := true) (g1 := [.dat X, .own (.lst C) false false, .un, .un, .un]) (er_tst (er_op (f1 rfl) er_C rfl rfl rfl rfl)) rfl (fun _ => ?_) (fun h => by cases h)
    exact sr_retS rfl rfl
  | true =>
    rw [hb, if_pos rfl] at hmk
    rw [hmk] at f1
    obtain ⟨g2, e, rfl⟩ := forL_inv (st := lb_Encoded__decoded_1) (tg := gN 4) (L := (maskB C).map D.bl) (fun i g => g = [.dat X, .own (.lst (present C)) false false, .own (.lst (C.take i)) false false, .dat (.int ((present (C.take i)).length : Int)), .un]) 0 [.dat X, .own (.lst (present C)) false false, .own (.lst []) false false, .dat (.int 0), .un] rfl (fun i d g hd hg => by
      rw [Nat.zero_add] at hg ⊢
      subst hg
      unfold maskB at hd
      rw [List.map_map, List.getElem?_map, Option.map_eq_some_iff] at hd
      obtain ⟨v, hv, rfl⟩ := hd
      have hi : i < C.length := (List.getElem?_eq_some_iff.mp hv).1
      have hz : (C.take i).length < sizeLine := Nat.lt_of_le_of_lt (show (C.take i).length ≤ 40 by rw [List.length_take]; omega) (by decide)
      have ht : C.take (i + 1) = C.take i ++ [v] := by rw [List.take_succ, hv]; rfl
      have hp := pres_take hv
      refine ⟨[.dat X, .own (.lst (present C)) false false, .own (.lst (C.take i)) false false, .dat (.int ((present (C.take i)).length : Int)), .dat (.bl (!nN v))], _, rfl, .inl ?_, rfl⟩
      rw [hp, ht]
      cases c : nN v with
      | false =>
        have hvn : v = .non := by
          cases v <;> first | rfl | cases c
        subst hvn
        generalize C.take i = T at *
        generalize present C = P at *
        unfold lb_Encoded__decoded_1
        refine of_ap (ap_fg (sr_if1 (b := true) (g1 := [.dat X, .own (.lst P) false false, .own (.lst T) false false, .dat (.int ((present T).length : Int)), .dat (.bl true)]) rfl rfl (fun _ => ?_) (fun h => by cases h)))
        exact one_nx (g1 := [.dat X, .own (.lst P) false false, .own (.lst (T ++ [.non])) false false, .dat (.int ((present T).length : Int)), .dat (.bl true)]) (app_run (j := 2) rfl rfl er_C rfl rfl hz rfl) (fgK_nx rfl rfl rfl)
      | true =>
        have hx : ixD (.lst (present C)) ((present (C.take i)).length : Int) = some v := atI_nat (pres_at hv c)
        generalize C.take i = T at *
        generalize present C = P at *
        unfold lb_Encoded__decoded_1
        refine of_ap (ap_fg (sr_if1 (b := false) (g1 := [.dat X, .own (.lst P) false false, .own (.lst T) false false, .dat (.int ((present T).length : Int)), .dat (.bl false)]) rfl rfl (fun h => by cases h) (fun _ => ?_)))
        refine seq_nx (g1 := [.dat X, .own (.lst P) false false, .own (.lst (T ++ [v])) false false, .dat (.int ((present T).length : Int)), .dat (.bl false)]) (app_run (j := 2) rfl rfl (er_ix rfl rfl rfl hx) rfl rfl hz rfl) ?_
        exact one_nx (g1 := [.dat X, .own (.lst P) false false, .own (.lst (T ++ [v])) false false, .dat (.int (((present T).length + 1 : Nat) : Int)), .dat (.bl false)]) (set_dat (er_op rfl er_C rfl rfl rfl rfl) rfl rfl) (fgK_nx rfl rfl rfl))
    rw [List.length_map, show (maskB C).length = C.length from List.length_map _, Nat.zero_add, List.take_length] at e
    generalize (maskB C).map D.bl = M at *
    generalize present C = P at *
    unfold d_Encoded__decoded b_Encoded__decoded
    refine runP_ap (g := [.dat X, .un, .un, .un, .un]) rfl rfl ?_
    refine seq_nx (g1 := [.dat X, .own (.lst P) false false, .un, .un, .un]) (set_own (er_callL (g1 := [.dat X, .un, .un, .un, .un]) (ds := [R]) (er_cons (f2 rfl) er_nil) bv) (Nat.le_of_ble_eq_true rfl) rfl rfl rfl) ?_
    refine sr_if (b := false) (g1 := [.dat X, .own (.lst P) false false, .un, .un, .un]) (er_tst (er_op (f1 rfl) er_C rfl rfl rfl rfl)) rfl (fun h => by cases h) (fun _ => sr_nx ?_)
    walk_at "s"
    walk_at "s"
    refine seq_nx (for_none (g1 := [.dat X, .own (.lst P) false false, .own (.lst []) false false, .dat (.int 0), .un]) (mi_Ld (f1 rfl)) rfl e) ?_
    walk_at "s"
    exact rfl
local macro_rules | `(tactic| walk_at "e") => `(tactic| first | ((with_reducible apply er_ifT); (walk_at "e"); (walk_at "e")) | ((with_reducible apply er_ifF); (walk_at "e"); (walk_at "e")))
theorem gd_cv {v : D} (h : CV v) : GD10 v := by
  cases v with
  | non => exact trivial
  | bl b => exact trivial
  | int i => exact trivial
  | str t =>
    obtain ⟨_, h2⟩ := (show t.length ≤ 200 ∧ ∀ c ∈ t, sg c from h.1)
    exact fun c hc => by have := h2 c hc; unfold sg at this; omega
  | _ => exact h.1.elim
theorem gd_cvs : ∀ {C : List D}, (∀ v ∈ C, CV v) → GD10A C
  | [], _ => trivial
  | v :: C, h => ⟨gd_cv (h v List.mem_cons_self), gd_cvs (C := C) fun x hx => h x (List.mem_cons_of_mem _ hx)⟩
theorem gd_runs : ∀ {Q : List (D × Nat)}, QOk Q → GD10A (Q.map rD)
  | [], _ => trivial
  | q :: Q, h => ⟨⟨gd_cv (h q List.mem_cons_self).1, trivial, trivial⟩, gd_runs (Q := Q) fun x hx => h x (List.mem_cons_of_mem _ hx)⟩
abbrev FM : List (List Nat) := [kPL, kCO, kRU, kDI, kPA, kDE]
theorem gd_key {fm : List Nat} (hf : fm ∈ FM) : GD10 (.str fm) := by
  simp only [List.mem_cons, List.not_mem_nil, or_false] at hf
  rcases hf with rfl | rfl | rfl | rfl | rfl | rfl <;> (show ∀ c ∈ _, c ≠ 34 ∧ c ≠ 92 ∧ 32 ≤ c ∧ c < 127) <;> decide
structure BI (fm : List Nat) (C : List D) (R : D) : Prop where
  bo : BodyOk fm C R
  rep : reprB [R] = some (.str (shownD R))
  gd : GD10 R
theorem bi_mk {fm : List Nat} {fs C : List D} {w : Nat} (hf : fm ∈ FM) (h : SmA (.str fm :: fs) 2 w) (hw : w ≤ 22000) (g : GD10A fs) (v : d_values_of [.tup (.str fm :: fs)] = some (.new (.lst C))) : BI fm C (.tup (.str fm :: fs)) :=
  ⟨⟨⟨_, rfl⟩, v, trivial⟩, rkB_repr rfl (sm_tup h).rr (by have := (sm_tup h).dd; omega) (by have := (sm_tup h).ww; omega), ⟨gd_key hf, g⟩⟩
def possP (fm : List Nat) (C : List D) : Bool :=
  if fm = kCO then decide (0 < C.length) && C.all (fun d => sameV d (C.headD .non)) else if fm = kPA then C.all isIV else if fm = kDE then C.all isIV && decide (0 < C.length) else true
def FormOk (fm : List Nat) (C : List D) : Prop := ∃ R, d_body_of [.str fm, .lst C] = some (.dat R) ∧ ((R = .non ∧ possP fm C = false) ∨ (possP fm C = true ∧ BI fm C R))
theorem f_plain {C : List D} (h : Pr C) : FormOk kPL C := by
  have hl := h.2
  refine ⟨.tup [.str kPL, .tup C], ?_, .inr ⟨rfl, bi_mk (w := 10000) (by decide) (sm_cons (sm_key (by decide)) (sm_cons (sm_tup (n := 1) (sm_cvs h.1)) (sm_nil (w := 0)) (Nat.le_refl _)) (by show 5 + 1 + (201 * C.length + 1 + 0) ≤ 10000; omega)) (by decide) ⟨gd_cvs h.1, trivial⟩ (plain_vals C)⟩⟩
  unfold d_body_of b_body_of
  refine runP_ap (g := [.dat (.str kPL), .dat (.lst C)]) rfl rfl ?_
  refine sr_if (b := true) (g1 := [.dat (.str kPL), .dat (.lst C)]) rfl rfl (fun _ => ?_) (fun h => by cases h)
  walk_at "s"
  exact rfl
theorem f_const {C : List D} (h : Pr C) : FormOk kCO C := by
  have e : d_body_of [.str kCO, .lst C] = some (.dat (constP C)) := by
    unfold d_body_of b_body_of
    refine runP_ap (g := [.dat (.str kCO), .dat (.lst C)]) rfl rfl ?_
    refine sr_if (b := false) (g1 := [.dat (.str kCO), .dat (.lst C)]) rfl rfl (fun h => by cases h) (fun _ => sr_nx ?_)
    refine sr_if (b := true) (g1 := [.dat (.str kCO), .dat (.lst C)]) rfl rfl (fun _ => ?_) (fun h => by cases h)
    exact sr_retS (er_call (ds := [.lst C]) (er_cons rfl er_nil) (const_body h)) rfl
  refine ⟨_, e, ?_⟩
  have hp : possP kCO C = (decide (0 < C.length) && C.all (fun d => sameV d (C.headD .non))) := rfl
  rw [hp]
  rcases constP_vals h with z | ⟨⟨v, hv, z⟩, z2⟩
  · left
    refine ⟨z, ?_⟩
    cases C with
    | nil => rfl
    | cons v r =>
      rw [constP_cons rfl] at z
      by_cases c : ((v :: r).all fun d => sameV d v) = true
      · rw [if_pos c] at z; cases z
      · show (decide _ && ((v :: r).all fun d => sameV d v)) = false
        rw [Bool.eq_false_iff.mpr c, Bool.and_false]
  · right
    refine ⟨?_, ?_⟩
    · cases C with
      | nil => cases z
      | cons v r =>
        rw [constP_cons rfl] at z
        by_cases c : ((v :: r).all fun d => sameV d v) = true
        · show (decide _ && ((v :: r).all fun d => sameV d v)) = true
          rw [c]
          simp
        · rw [if_neg c] at z; cases z
    · rw [z]
      rw [z] at z2
      exact bi_mk (w := 1000) (by decide) (sm_cons (sm_key (by decide)) (sm_cons (sm_cv hv) (sm_cons (sm_n (by have := h.2; omega)) (sm_nil (w := 0)) (Nat.le_refl _)) (Nat.le_refl _)) (by decide)) (by decide) ⟨gd_cv hv, trivial, trivial⟩ z2
theorem f_runs {C : List D} (h : Pr C) : FormOk kRU C := by
  have hl := h.2
  obtain ⟨Q, q1, q2, q3, q4⟩ := runs_body h
  have v := runs_vals q1 (by rw [q3]; exact hl)
  rw [q3] at v
  refine ⟨.tup [.str kRU, .tup (Q.map rD)], ?_, .inr ⟨rfl, bi_mk (w := 10000) (by decide) (sm_cons (sm_key (by decide)) (sm_cons (sm_tup (n := 1) (sm_runs q1)) (sm_nil (w := 0)) (Nat.le_refl _)) (by show 4 + 1 + (220 * Q.length + 1 + 0) ≤ 10000; omega)) (by decide) ⟨gd_runs q1, trivial⟩ v⟩⟩
  unfold d_body_of b_body_of
  refine runP_ap (g := [.dat (.str kRU), .dat (.lst C)]) rfl rfl ?_
  refine sr_if (b := false) (g1 := [.dat (.str kRU), .dat (.lst C)]) rfl rfl (fun h => by cases h) (fun _ => sr_nx ?_)
  refine sr_if (b := false) (g1 := [.dat (.str kRU), .dat (.lst C)]) rfl rfl (fun h => by cases h) (fun _ => sr_nx ?_)
  refine sr_if (b := true) (g1 := [.dat (.str kRU), .dat (.lst C)]) rfl rfl (fun _ => ?_) (fun h => by cases h)
  exact sr_retS (er_call (ds := [.lst C]) (er_cons rfl er_nil) q4) rfl
theorem f_dict {C : List D} (h : Pr C) : FormOk kDI C := by
  have hl := h.2
  have k := dict_ok h
  have hW := k.ok.len
  have w55 := bits_le55 k.top.1 (by have := k.ok.len; unfold topW; split <;> omega)
  refine ⟨dictP C, ?_, .inr ⟨rfl, bi_mk (w := 20000) (by decide) (sm_cons (sm_key (by decide)) (sm_cons (sm_tup (n := 1) (sm_cvs k.ok.cv)) (sm_cons (sm_n (by omega)) (sm_cons (sm_n (by omega)) (sm_cons (sm_pack k.fit w55 (by unfold iJ; rw [List.length_map, k.jl]; omega)) (sm_nil (w := 0)) (Nat.le_refl _)) (Nat.le_refl _)) (Nat.le_refl _)) (Nat.le_refl _)) (by show 10 + 1 + (201 * (wordsOf C).1.length + 1 + (7 + 1 + (7 + 1 + (2200 + 1 + 0)))) ≤ 20000; omega)) (by decide) ⟨gd_cvs k.ok.cv, trivial, trivial, trivial, trivial⟩ (dictP_vals h)⟩⟩
  unfold d_body_of b_body_of
  refine runP_ap (g := [.dat (.str kDI), .dat (.lst C)]) rfl rfl ?_
  refine sr_if (b := false) (g1 := [.dat (.str kDI), .dat (.lst C)]) rfl rfl (fun h => by cases h) (fun _ => sr_nx ?_)
  refine sr_if (b := false) (g1 := [.dat (.str kDI), .dat (.lst C)]) rfl rfl (fun h => by cases h) (fun _ => sr_nx ?_)
  refine sr_if (b := false) (g1 := [.dat (.str kDI), .dat (.lst C)]) rfl rfl (fun h => by cases h) (fun _ => sr_nx ?_)
  refine sr_if (b := true) (g1 := [.dat (.str kDI), .dat (.lst C)]) rfl rfl (fun _ => ?_) (fun h => by cases h)
  exact sr_retS (er_call (ds := [.lst C]) (er_cons rfl er_nil) (dict_p h)) rfl
theorem f_packed {C : List D} (h : Pr C) : FormOk kPA C := by
  have hl := h.2
  have e : d_body_of [.str kPA, .lst C] = some (.dat (packedP C)) := by
    unfold d_body_of b_body_of
    refine runP_ap (g := [.dat (.str kPA), .dat (.lst C)]) rfl rfl ?_
    refine sr_if (b := false) (g1 := [.dat (.str kPA), .dat (.lst C)]) rfl rfl (fun h => by cases h) (fun _ => sr_nx ?_)
    refine sr_if (b := false) (g1 := [.dat (.str kPA), .dat (.lst C)]) rfl rfl (fun h => by cases h) (fun _ => sr_nx ?_)
    refine sr_if (b := false) (g1 := [.dat (.str kPA), .dat (.lst C)]) rfl rfl (fun h => by cases h) (fun _ => sr_nx ?_)
    refine sr_if (b := false) (g1 := [.dat (.str kPA), .dat (.lst C)]) rfl rfl (fun h => by cases h) (fun _ => sr_nx ?_)
    refine sr_if (b := true) (g1 := [.dat (.str kPA), .dat (.lst C)]) rfl rfl (fun _ => ?_) (fun h => by cases h)
    exact sr_retS (er_call (ds := [.lst C]) (er_cons rfl er_nil) (packed_p h)) rfl
  refine ⟨_, e, ?_⟩
  have hp : possP kPA C = C.all isIV := rfl
  rw [hp]
  unfold packedP
  by_cases c : C.all isIV = true
  · right
    rw [if_pos c]
    have hm := intsI_map c
    have k := p_ok (small4 (intsI_bd h.1))
    have hln := intsI_len C
    have v := packed_vals (ns := intsI C) (l := lowI (intsI C)) (by omega) k.fit k.w60
    rw [← hm, hln] at v
    exact ⟨c, bi_mk (w := 20000) (by decide) (sm_cons (sm_key (by decide)) (sm_cons (sm_l k.low) (sm_cons (sm_n (by omega)) (sm_cons (sm_n (by have := k.w60; omega)) (sm_cons (sm_pack k.fit (wd55 k) (by rw [over_len]; omega)) (sm_nil (w := 0)) (Nat.le_refl _)) (Nat.le_refl _)) (Nat.le_refl _)) (Nat.le_refl _)) (by decide)) (by decide) ⟨trivial, trivial, trivial, trivial, trivial⟩ v⟩
  · left
    rw [if_neg c]
    exact ⟨rfl, Bool.eq_false_iff.mpr c⟩
theorem f_deltas {C : List D} (h : Pr C) : FormOk kDE C := by
  have hl := h.2
  have e : d_body_of [.str kDE, .lst C] = some (.dat (deltasP C)) := by
    unfold d_body_of b_body_of
    refine runP_ap (g := [.dat (.str kDE), .dat (.lst C)]) rfl rfl ?_
    refine sr_if (b := false) (g1 := [.dat (.str kDE), .dat (.lst C)]) rfl rfl (fun h => by cases h) (fun _ => sr_nx ?_)
    refine sr_if (b := false) (g1 := [.dat (.str kDE), .dat (.lst C)]) rfl rfl (fun h => by cases h) (fun _ => sr_nx ?_)
    refine sr_if (b := false) (g1 := [.dat (.str kDE), .dat (.lst C)]) rfl rfl (fun h => by cases h) (fun _ => sr_nx ?_)
    refine sr_if (b := false) (g1 := [.dat (.str kDE), .dat (.lst C)]) rfl rfl (fun h => by cases h) (fun _ => sr_nx ?_)
    refine sr_if (b := false) (g1 := [.dat (.str kDE), .dat (.lst C)]) rfl rfl (fun h => by cases h) (fun _ => sr_nx ?_)
    exact sr_ret (er_call (ds := [.lst C]) (er_cons rfl er_nil) (deltas_p h)) rfl
  refine ⟨_, e, ?_⟩
  have hp : possP kDE C = (C.all isIV && decide (0 < C.length)) := rfl
  rw [hp]
  unfold deltasP
  by_cases c0 : C.length = 0
  · left
    rw [if_pos c0]
    refine ⟨rfl, ?_⟩
    rw [decide_eq_false (by omega), Bool.and_false]
  · rw [if_neg c0]
    by_cases c : C.all isIV = true
    · right
      rw [if_pos c]
      have hm := intsI_map c
      have hb := intsI_bd h.1
      have k := p_ok (ns := df C) (diffs_bd hb)
      have hln := intsI_len C
      have hdl := diffs_len (intsI C)
      have ha := hb _ (getD_mem (ns := intsI C) (k := 0) (by omega))
      have v := deltas_vals (ns := intsI C) (l := lowI (df C)) (by omega) (by omega) k.fit k.w60
      rw [← hm, hln] at v
      refine ⟨by rw [c, decide_eq_true (by omega)]; rfl, ?_⟩
      exact bi_mk (w := 20000) (by decide) (sm_cons (sm_key (by decide)) (sm_cons (sm_l (by omega)) (sm_cons (sm_l k.low) (sm_cons (sm_n (by omega)) (sm_cons (sm_n (by have := k.w60; omega)) (sm_cons (sm_pack k.fit (wd55 k) (by rw [over_len, hdl]; omega)) (sm_nil (w := 0)) (Nat.le_refl _)) (Nat.le_refl _)) (Nat.le_refl _)) (Nat.le_refl _)) (Nat.le_refl _)) (by decide)) (by decide) ⟨trivial, trivial, trivial, trivial, trivial, trivial⟩ v
    · left
      rw [if_neg c]
      refine ⟨rfl, ?_⟩
      rw [Bool.eq_false_iff.mpr c, Bool.false_and]
theorem f_ok {C : List D} (h : Pr C) {fm : List Nat} (hf : fm ∈ FM) : FormOk fm C := by
  simp only [List.mem_cons, List.not_mem_nil, or_false] at hf
  rcases hf with rfl | rfl | rfl | rfl | rfl | rfl
  · exact f_plain h
  · exact f_const h
  · exact f_runs h
  · exact f_dict h
  · exact f_packed h
  · exact f_deltas h
theorem filt_all : ∀ P : List D, ((((P.filter fun v => !isIW v).map fun d => d).length : Nat) == 0) = P.all isIV
  | [] => rfl
  | v :: P => by
    have ih := filt_all P
    rw [List.all_cons, ← ih, ← isIW_eq v, List.filter_cons]
    cases isIW v <;> simp
theorem filt_same (w : D) : ∀ P : List D, ((((P.filter fun v => !sameV v w).map fun d => d).length : Nat) == 0) = P.all fun d => sameV d w
  | [] => rfl
  | v :: P => by
    have ih := filt_same w P
    rw [List.all_cons, ← ih, List.filter_cons]
    cases sameV v w <;> simp
theorem len0 (F : List D) : eqD (.int (F.length : Int)) (.int 0) = some (.bl ((F.length : Nat) == 0)) := by
  refine congrArg (fun b => some (D.bl b)) (show ((F.length : Int) == 0) = (F.length == 0) from ?_)
  cases F with
  | nil => rfl
  | cons x r =>
    have : ((((x :: r).length : Nat) : Int) == 0) = false := by simp; omega
    rw [this]
    rfl
theorem gt0 (n : Nat) : gtD (.int (n : Int)) (.int 0) = some (.bl (decide (0 < n))) := by
  refine congrArg (fun b => some (D.bl b)) (show decide ((n : Int) > 0) = decide (0 < n) from ?_)
  by_cases c : 0 < n
  · rw [decide_eq_true c, decide_eq_true (by omega)]
  · rw [decide_eq_false c, decide_eq_false (by omega)]
theorem poss_ok {C : List D} (h : Pr C) {fm : List Nat} (hf : fm ∈ FM) : d__law_possible [.str fm, .lst C] = some (.dat (.bl (possP fm C))) := by
  obtain ⟨hC, hl⟩ := h
  have hlen := len_l C
  have hg0 := gt0 C.length
  have lcI : ∀ fm, zLc (ziL 5 (zVar 1)) (gN 3) (zNotT (zTru (zCall d__law_is_integer (zCons (zVar 3) (zNil))))) (zVar 3) [3] [.dat (.str fm), .dat (.lst C), .un, .un, .un] = some (.bor 5, [.dat (.str fm), .dat (.lst C), .un, .un, .un, .own (.lst ((C.filter fun v => !isIW v).map fun d => d)) false false]) := fun fm =>
    er_lc1 (b := fun v => !isIW v) (f := fun d => d) (L := C) (g := [.dat (.str fm), .dat (.lst C), .un, .un, .un]) (h := [.dat (.str fm), .dat (.lst C), .un, .un, .un]) (base := [.dat (.str fm), .dat (.lst C), .un, .un, .un]) (mi_Ld rfl) (fun o => rfl) (fun o => rfl) (sz (by omega)) (fun d hd =>
      lc_dat (h := [.dat (.str fm), .dat (.lst C), .un, .dat d, .un]) rfl (fun o => rfl) (fun o => rfl) (fun o => rfl) (fun o => er_notT (er_tru (er_call (ds := [d]) (er_cons rfl er_nil) (lisint_v d (hC d hd))) rfl rfl)) (fun _ o => rfl))
  have fi := filt_all C
  have hInts : ∀ fm, zOp eqD (zCallS lenD (zCons (zLc (ziL 5 (zVar 1)) (gN 3) (zNotT (zTru (zCall d__law_is_integer (zCons (zVar 3) (zNil))))) (zVar 3) [3]) (zNil))) (zC (.int 0)) [.dat (.str fm), .dat (.lst C), .un, .un, .un] = some (.dat (.bl (C.all isIV)), [.dat (.str fm), .dat (.lst C), .un, .un, .un, .own (.lst ((C.filter fun v => !isIW v).map fun d => d)) false false]) := fun fm => by
    have e := len0 ((C.filter fun v => !isIW v).map fun d => d)
    rw [fi] at e
    have l := lcI fm
    generalize (C.filter fun v => !isIW v).map (fun d => d) = F at *
    exact er_op (er_callS (rs := [.bor 5]) (ds := [.lst F]) (er_cons l er_nil) rfl (len_l F) rfl) er_C rfl rfl e rfl
  have toEnd : ∀ fm, (fm = kPL ∨ fm = kRU ∨ fm = kDI) → d__law_possible [.str fm, .lst C] = some (.dat (.bl true)) := fun fm h => by
    unfold d__law_possible b__law_possible
    rcases h with rfl | rfl | rfl
    · refine runP_ap (g := [.dat (.str kPL), .dat (.lst C), .un, .un, .un]) rfl rfl ?_
      refine sr_if (b := false) (g1 := [.dat (.str kPL), .dat (.lst C), .un, .un, .un]) rfl rfl (fun h => by cases h) (fun _ => sr_nx ?_)
      refine sr_if (b := false) (g1 := [.dat (.str kPL), .dat (.lst C), .un, .un, .un]) rfl rfl (fun h => by cases h) (fun _ => sr_nx ?_)
      exact sr_ret er_C rfl
    · refine runP_ap (g := [.dat (.str kRU), .dat (.lst C), .un, .un, .un]) rfl rfl ?_
      refine sr_if (b := false) (g1 := [.dat (.str kRU), .dat (.lst C), .un, .un, .un]) rfl rfl (fun h => by cases h) (fun _ => sr_nx ?_)
      refine sr_if (b := false) (g1 := [.dat (.str kRU), .dat (.lst C), .un, .un, .un]) rfl rfl (fun h => by cases h) (fun _ => sr_nx ?_)
      exact sr_ret er_C rfl
    · refine runP_ap (g := [.dat (.str kDI), .dat (.lst C), .un, .un, .un]) rfl rfl ?_
      refine sr_if (b := false) (g1 := [.dat (.str kDI), .dat (.lst C), .un, .un, .un]) rfl rfl (fun h => by cases h) (fun _ => sr_nx ?_)
      refine sr_if (b := false) (g1 := [.dat (.str kDI), .dat (.lst C), .un, .un, .un]) rfl rfl (fun h => by cases h) (fun _ => sr_nx ?_)
      exact sr_ret er_C rfl
  simp only [List.mem_cons, List.not_mem_nil, or_false] at hf
  rcases hf with rfl | rfl | rfl | rfl | rfl | rfl
  · exact toEnd kPL (.inl rfl)
  · have hp : possP kCO C = (decide (0 < C.length) && C.all (fun d => sameV d (C.headD .non))) := rfl
    rw [hp]
    unfold d__law_possible b__law_possible
    refine runP_ap (g := [.dat (.str kCO), .dat (.lst C), .un, .un, .un]) rfl rfl ?_
    refine sr_if (b := true) (g1 := [.dat (.str kCO), .dat (.lst C), .un, .un, .un]) rfl rfl (fun _ => ?_) (fun h => by cases h)
    by_cases c : 0 < C.length
    · rw [decide_eq_true c] at hg0
      obtain ⟨v, r, hP⟩ : ∃ v r, v :: r = C := by
        cases C with
        | nil => cases c
        | cons v r => exact ⟨v, r, rfl⟩
      have hv : CV v := hC v (by rw [← hP]; exact List.mem_cons_self)
      have hx : ixD (.lst C) 0 = some v := by rw [← hP]; exact @atI_nat D (v :: r) 0 v rfl
      have hh : C.headD .non = v := by rw [← hP]; rfl
      have lc := er_lc1 (b := fun d => !sameV d v) (f := fun d => d) (L := C) (mi := ziL 5 (zVar 1)) (tg := gN 4) (tt := zTst (zOp neqD (zCall d__law_rank (zCons (zVar 4) (zNil))) (zCall d__law_rank (zCons (zIx (zVar 1) (zC (.int 0))) (zNil))))) (el := zVar 4) (vs := [4]) (g := [.dat (.str kCO), .dat (.lst C), .un, .un, .un]) (h := [.dat (.str kCO), .dat (.lst C), .un, .un, .un]) (base := [.dat (.str kCO), .dat (.lst C), .un, .un, .un]) (mi_Ld rfl) (fun o => rfl) (fun o => rfl) (sz (by omega)) (fun d hd =>
        lc_dat (h := [.dat (.str kCO), .dat (.lst C), .un, .un, .dat d]) rfl (fun o => rfl) (fun o => rfl) (fun o => rfl) (fun o => er_tst (er_op (er_call (ds := [d]) (er_cons rfl er_nil) (lrank_ok d (cv_W (hC d hd)))) (er_call (ds := [v]) (er_cons (er_ix rfl rfl rfl hx) er_nil) (lrank_ok v (cv_W hv))) rfl rfl (ne_rkW (cv_W (hC d hd)) (cv_W hv)) rfl)) (fun _ o => rfl))
      have e := len0 ((C.filter fun d => !sameV d v).map fun d => d)
      rw [filt_same v C] at e
      rw [hh, decide_eq_true c, Bool.true_and]
      generalize (C.filter fun d => !sameV d v).map (fun d => d) = F at *
      generalize (C.all fun d => sameV d v) = b at *
      refine sr_retS (er_andVT (b1 := true) (g1 := [.dat (.str kCO), .dat (.lst C), .un, .un, .un]) (er_op (er_callS (ds := [.lst C]) (er_cons rfl er_nil) rfl hlen rfl) er_C rfl rfl hg0 rfl) rfl (er_op (er_callS (rs := [.bor 5]) (ds := [.lst F]) (er_cons lc er_nil) rfl (len_l F) rfl) er_C rfl rfl e rfl)) rfl
    · rw [decide_eq_false c] at hg0
      rw [decide_eq_false c, Bool.false_and]
      exact sr_retS (er_andVF (b1 := false) (g1 := [.dat (.str kCO), .dat (.lst C), .un, .un, .un]) (er_op (er_callS (ds := [.lst C]) (er_cons rfl er_nil) rfl hlen rfl) er_C rfl rfl hg0 rfl) rfl) rfl
  · exact toEnd kRU (.inr (.inl rfl))
  · exact toEnd kDI (.inr (.inr rfl))
  · have hp : possP kPA C = C.all isIV := rfl
    rw [hp]
    have hI := hInts kPA
    generalize (C.filter fun v => !isIW v).map (fun d => d) = F at *
    unfold d__law_possible b__law_possible
    refine runP_ap (g := [.dat (.str kPA), .dat (.lst C), .un, .un, .un]) rfl rfl ?_
    refine sr_if (b := false) (g1 := [.dat (.str kPA), .dat (.lst C), .un, .un, .un]) rfl rfl (fun h => by cases h) (fun _ => sr_nx ?_)
    refine sr_if (b := true) (g1 := [.dat (.str kPA), .dat (.lst C), .un, .un, .un]) rfl rfl (fun _ => ?_) (fun h => by cases h)
    refine sr_assoc ?_
    refine seq_nx (g1 := [.dat (.str kPA), .dat (.lst C), .dat (.bl (C.all isIV)), .un, .un]) (set_dat hI rfl rfl) ?_
    cases c : C.all isIV with
    | true => exact sr_retS (er_andVT (b1 := true) (g1 := [.dat (.str kPA), .dat (.lst C), .dat (.bl true), .un, .un]) rfl rfl (er_orVT (b1 := true) (g1 := [.dat (.str kPA), .dat (.lst C), .dat (.bl true), .un, .un]) rfl rfl)) rfl
    | false => exact sr_retS (er_andVF (b1 := false) (g1 := [.dat (.str kPA), .dat (.lst C), .dat (.bl false), .un, .un]) rfl rfl) rfl
  · have hp : possP kDE C = (C.all isIV && decide (0 < C.length)) := rfl
    rw [hp]
    have hI := hInts kDE
    generalize (C.filter fun v => !isIW v).map (fun d => d) = F at *
    unfold d__law_possible b__law_possible
    refine runP_ap (g := [.dat (.str kDE), .dat (.lst C), .un, .un, .un]) rfl rfl ?_
    refine sr_if (b := false) (g1 := [.dat (.str kDE), .dat (.lst C), .un, .un, .un]) rfl rfl (fun h => by cases h) (fun _ => sr_nx ?_)
    refine sr_if (b := true) (g1 := [.dat (.str kDE), .dat (.lst C), .un, .un, .un]) rfl rfl (fun _ => ?_) (fun h => by cases h)
    refine sr_assoc ?_
    refine seq_nx (g1 := [.dat (.str kDE), .dat (.lst C), .dat (.bl (C.all isIV)), .un, .un]) (set_dat hI rfl rfl) ?_
    cases c : C.all isIV with
    | true => exact sr_retS (er_andVT (b1 := true) (g1 := [.dat (.str kDE), .dat (.lst C), .dat (.bl true), .un, .un]) rfl rfl (er_orVF (b1 := false) (g1 := [.dat (.str kDE), .dat (.lst C), .dat (.bl true), .un, .un]) rfl rfl (er_op (er_callS (ds := [.lst C]) (er_cons rfl er_nil) rfl hlen rfl) er_C rfl rfl hg0 rfl))) rfl
    | false => exact sr_retS (er_andVF (b1 := false) (g1 := [.dat (.str kDE), .dat (.lst C), .dat (.bl false), .un, .un]) rfl rfl) rfl
local macro_rules | `(tactic| walk_at "e") => `(tactic| first | ((with_reducible apply er_ifT); (walk_at "e"); (walk_at "e")) | ((with_reducible apply er_ifF); (walk_at "e"); (walk_at "e")))
theorem is_t {v : D} (hv : CV v) (b : Bool) : isD v (.bl b) = some (.bl (match v with | .bl c => decide (c = b) | _ => false)) := by
  cases v <;> first | rfl | exact hv.1.elim
theorem turn_step {C : List D} (h : Pr C) (i : Nat) (v : D) (hv : C[i]? = some v) :
    ((∀ b, v ≠ .bl b) ∧ lb__law_turned_1 [.dat (.lst C), .own (.lst C) false false, .dat (.int (i : Int))] = some (.nx, [.dat (.lst C), .own (.lst C) false false, .un])) ∨
    ∃ b, v = .bl b ∧ lb__law_turned_1 [.dat (.lst C), .own (.lst C) false false, .dat (.int (i : Int))] = some (.ret (.bor 1), [.dat (.lst C), .own (.lst (C.set i (.int (if b then 1 else 0)))) false false, .dat (.int (i : Int))]) := by
  have hcv := h.1 v (List.mem_of_getElem? hv)
  have hx : ixD (.lst C) (i : Int) = some v := atI_nat hv
  have hil := (List.getElem?_eq_some_iff.mp hv).1
  have hi : ixN C.length (i : Int) = some i := by
    unfold ixN
    rw [if_pos (by omega), Int.toNat_natCast, if_pos (by omega)]
  have t1 := is_t hcv true
  have t2 := is_t hcv false
  have T : ∀ b bb, isD v (.bl b) = some (.bl bb) → zTst (zOp isD (zIx (zVar 0) (zVar 2)) (zC (.bl b))) [.dat (.lst C), .own (.lst C) false false, .dat (.int (i : Int))] = some (bb, [.dat (.lst C), .own (.lst C) false false, .dat (.int (i : Int))]) := fun b bb e => er_tst (er_op (er_ix rfl rfl rfl hx) er_C rfl rfl e rfl)
  by_cases c : ∃ b, v = .bl b
  · obtain ⟨b, rfl⟩ := c
    right
    refine ⟨b, rfl, ?_⟩
    cases b with
    | true =>
      unfold lb__law_turned_1
      refine of_ap (ap_fg (sr_if (b := true) (g1 := [.dat (.lst C), .own (.lst C) false false, .dat (.int (i : Int))]) (T true _ t1) rfl (fun _ => ?_) (fun h => by cases h)))
      refine sr_assoc ?_
      refine seq_nx (g1 := [.dat (.lst C), .own (.lst (C.set i (.int 1))) false false, .dat (.int (i : Int))]) (sto_run (j := 1) (q := i) (k := (i : Int)) (g3 := [.dat (.lst C), .own (.lst C) false false, .dat (.int (i : Int))]) er_C rfl rfl rfl hi rfl) ?_
      exact sr_retS rfl rfl
    | false =>
      unfold lb__law_turned_1
      refine of_ap (ap_fg (sr_if (b := false) (g1 := [.dat (.lst C), .own (.lst C) false false, .dat (.int (i : Int))]) (T true _ t1) rfl (fun h => by cases h) (fun _ => sr_nx ?_)))
      refine sr_if1 (b := true) (g1 := [.dat (.lst C), .own (.lst C) false false, .dat (.int (i : Int))]) (T false _ t2) rfl (fun _ => ?_) (fun h => by cases h)
      refine seq_nx (g1 := [.dat (.lst C), .own (.lst (C.set i (.int 0))) false false, .dat (.int (i : Int))]) (sto_run (j := 1) (q := i) (k := (i : Int)) (g3 := [.dat (.lst C), .own (.lst C) false false, .dat (.int (i : Int))]) er_C rfl rfl rfl hi rfl) ?_
      exact sr_ret rfl rfl
  · left
    have hb : ∀ b, v ≠ .bl b := fun b z => c ⟨b, z⟩
    refine ⟨hb, ?_⟩
    have f1 : isD v (.bl true) = some (.bl false) := by cases v <;> first | rfl | exact absurd rfl (hb _) | exact hcv.1.elim
    have f2 : isD v (.bl false) = some (.bl false) := by cases v <;> first | rfl | exact absurd rfl (hb _) | exact hcv.1.elim
    unfold lb__law_turned_1
    refine of_ap (ap_fg (sr_if (b := false) (g1 := [.dat (.lst C), .own (.lst C) false false, .dat (.int (i : Int))]) (T true _ f1) rfl (fun h => by cases h) (fun _ => sr_nx ?_)))
    refine sr_if1 (b := false) (g1 := [.dat (.lst C), .own (.lst C) false false, .dat (.int (i : Int))]) (T false _ f2) rfl (fun h => by cases h) (fun _ => ?_)
    exact sr_nx1 (fgK_nx rfl rfl rfl)
def Turned (C C' : List D) : Prop := (C' = C ++ [.non]) ∨ (C'.length = C.length ∧ maskB C' = maskB C ∧ C' ≠ C ∧ ∀ v ∈ C', CV v)
theorem turned_ok {C : List D} (h : Pr C) : ∃ C', d__law_turned [.lst C] = some (.new (.lst C')) ∧ Turned C C' := by
  have hlen := len_l C
  have hl := h.2
  have hr : ziR1 (zCons (zCallS lenD (zCons (zVar 0) (zNil))) (zNil)) [.dat (.lst C), .own (.lst C) false false, .un] = some (rgD 0 C.length, none, [.dat (.lst C), .own (.lst C) false false, .un]) := by
    have := mi_R1 (mr := zCons (zCallS lenD (zCons (zVar 0) (zNil))) (zNil)) (g := [.dat (.lst C), .own (.lst C) false false, .un]) (k := (C.length : Int)) (er_cons (er_callS (ds := [.lst C]) (er_cons rfl er_nil) rfl hlen rfl) er_nil) (rgOk_of (by omega) (by omega))
    rw [Int.toNat_natCast] at this
    exact this
  rcases forL_invB (st := lb__law_turned_1) (tg := gN 2) (L := rgD 0 C.length) (fun i g => g = [.dat (.lst C), .own (.lst C) false false, .un]) (fun _ => False) (fun r g => ∃ (i : Nat) (b : Bool), C[i]? = some (.bl b) ∧ r = .bor 1 ∧ g = [.dat (.lst C), .own (.lst (C.set i (.int (if b then 1 else 0)))) false false, .dat (.int (i : Int))]) 0 [.dat (.lst C), .own (.lst C) false false, .un] rfl (fun i d g hd hg => by
    obtain ⟨hi, rfl⟩ := rgD_at hd
    subst hg
    rw [show (0 + (i : Int)) = (i : Int) by omega]
    refine ⟨[.dat (.lst C), .own (.lst C) false false, .dat (.int (i : Int))], rfl, ?_⟩
    have hv := List.getElem?_eq_getElem (l := C) (i := i) (by omega)
    rcases turn_step h i _ hv with ⟨_, e⟩ | ⟨b, hb, e⟩
    · rw [e]
      exact rfl
    · rw [e]
      exact ⟨i, b, by rw [hv, hb], rfl, rfl⟩) with ⟨g2, e, rfl | h9⟩ | ⟨rr, g2, e, i, b, hb, rfl, rfl⟩
  · refine ⟨C ++ [.non], ?_, .inl rfl⟩
    have hz : C.length + [D.non].length ≤ sizeLine := sz (by simp; omega)
    unfold d__law_turned b__law_turned
    refine runP_ap (g := [.dat (.lst C), .un, .un]) rfl rfl ?_
    refine seq_nx (g1 := [.dat (.lst C), .own (.lst C) false false, .un]) (set_own (er_list (g1 := [.dat (.lst C), .un, .un]) (r := .dat (.lst C)) (d := .lst C) (er_cons rfl er_nil) rfl rfl) (Nat.le_of_ble_eq_true rfl) rfl rfl rfl) ?_
    refine seq_nx (for_none hr rfl e) ?_
    refine sr_ret (er_catL (r1 := .bor 1) (r2 := .bor 3) (g1 := [.dat (.lst C), .own (.lst C) false false, .un]) (g2 := [.dat (.lst C), .own (.lst C) false false, .un, .own (.lst [.non]) false false]) rfl rfl rfl rfl hz) ?_
    exact rfl
  · exact h9.elim
  · have hi := (List.getElem?_eq_some_iff.mp hb).1
    refine ⟨C.set i (.int (if b then 1 else 0)), ?_, .inr ⟨List.length_set, ?_, fun z => ?_, fun v hv => ?_⟩⟩
    · unfold d__law_turned b__law_turned
      refine runP_ap (g := [.dat (.lst C), .un, .un]) rfl rfl ?_
      refine seq_nx (g1 := [.dat (.lst C), .own (.lst C) false false, .un]) (set_own (er_list (g1 := [.dat (.lst C), .un, .un]) (r := .dat (.lst C)) (d := .lst C) (er_cons rfl er_nil) rfl rfl) (Nat.le_of_ble_eq_true rfl) rfl rfl rfl) ?_
      exact seq_ret (for_none hr rfl e) rfl
    · unfold maskB
      rw [List.map_set]
      apply List.ext_getElem?
      intro j
      rw [List.getElem?_set]
      split
      · rename_i hij
        subst hij
        rw [List.length_map, if_pos hi, List.getElem?_map, hb]
        rfl
      · rfl
    · have : (C.set i (.int (if b then 1 else 0)))[i]? = some (.bl b) := by rw [z]; exact hb
      rw [List.getElem?_set_self hi] at this
      cases this
    · rcases List.mem_or_eq_of_mem_set hv with m | m
      · exact h.1 v m
      · rw [m]
        exact cv_int (by cases b <;> decide)
theorem ne_n (n : Nat) : neqD (.int (n : Int)) (.int (n : Int)) = some (.bl false) := by rw [dr_neI]; simp
theorem bools_rok : ∀ M : List Bool, D.rokA (M.map D.bl) = true ∧ D.dpA (M.map D.bl) = 0 ∧ D.eqvA (M.map D.bl) (M.map D.bl) = true
  | [] => ⟨rfl, rfl, rfl⟩
  | b :: M => by
    obtain ⟨h1, h2, h3⟩ := bools_rok M
    refine ⟨?_, ?_, ?_⟩
    · show (true && D.rokA (M.map D.bl)) = true
      rw [h1]; rfl
    · show max 0 (D.dpA (M.map D.bl)) = 0
      rw [h2]; rfl
    · show (D.eqv (.bl b) (.bl b) && D.eqvA (M.map D.bl) (M.map D.bl)) = true
      rw [h3, Bool.and_true]
      cases b <;> rfl
theorem mask_ne (C : List D) : neqD (mk_ C) (mk_ C) = some (.bl false) := by
  unfold mk_
  split
  · obtain ⟨h1, h2, h3⟩ := bools_rok (maskB C)
    rw [dr_neR (d := .lst ((maskB C).map D.bl)) (e := .lst ((maskB C).map D.bl)) h1 (show D.dpA ((maskB C).map D.bl) + 1 ≤ 60 by omega) h1 (show D.dpA ((maskB C).map D.bl) + 1 ≤ 60 by omega)]
    show some (D.bl (!(D.eqvA ((maskB C).map D.bl) ((maskB C).map D.bl)))) = _
    rw [h3]
    rfl
  · rfl
theorem eq_int (n : Nat) (mk R : D) : d_Encoded____eq__ [enc n mk R, .int 5] = some (.dat (.bl false)) := by
  unfold d_Encoded____eq__ b_Encoded____eq__
  refine runP_ap (g := [.dat (enc n mk R), .dat (.int 5)]) rfl rfl ?_
  refine sr_if (b := true) (g1 := [.dat (enc n mk R), .dat (.int 5)]) (er_orTt (b := true) (er_notT (b := false) (er_tru (er_isOBf (i := 5) rfl) rfl rfl)) rfl) rfl (fun _ => ?_) (fun h => by cases h)
  exact sr_retS er_C rfl
theorem eq_len {n m : Nat} (mk mk2 R R2 : D) (h : n ≠ m) : d_Encoded____eq__ [enc n mk R, enc m mk2 R2] = some (.dat (.bl false)) := by
  have hne : neqD (.int (n : Int)) (.int (m : Int)) = some (.bl true) := by
    rw [dr_neI]
    have : ((n : Int) == (m : Int)) = false := by simp; omega
    rw [this]; rfl
  unfold d_Encoded____eq__ b_Encoded____eq__
  refine runP_ap (g := [.dat (enc n mk R), .dat (enc m mk2 R2)]) rfl rfl ?_
  refine sr_if (b := true) (g1 := [.dat (enc n mk R), .dat (enc m mk2 R2)]) (er_orTF (b1 := false) (g1 := [.dat (enc n mk R), .dat (enc m mk2 R2)]) (er_notT (b := true) (er_tru (er_isOBt (fl := fl_Encoded) (ds := [.int (m : Int), mk2, R2]) rfl) rfl rfl)) rfl (er_orTt (b := true) (er_tst (er_op (er_fld (d := .int (n : Int)) rfl rfl) (er_fld (d := .int (m : Int)) rfl rfl) rfl rfl hne rfl)) rfl)) rfl (fun _ => ?_) (fun h => by cases h)
  exact sr_retS er_C rfl
theorem eq_body (n : Nat) {mk R R2 : D} {T T2 : List Nat} (hm : neqD mk mk = some (.bl false)) (h1 : reprB [R] = some (.str T)) (h2 : reprB [R2] = some (.str T2)) : d_Encoded____eq__ [enc n mk R, enc n mk R2] = some (.dat (.bl (T == T2))) := by
  have hn := ne_n n
  have he : eqD (.str T) (.str T2) = some (.bl (T == T2)) := dr_eqS
  unfold d_Encoded____eq__ b_Encoded____eq__
  refine runP_ap (g := [.dat (enc n mk R), .dat (enc n mk R2)]) rfl rfl ?_
  refine sr_if (b := false) (g1 := [.dat (enc n mk R), .dat (enc n mk R2)]) (er_orTF (b1 := false) (g1 := [.dat (enc n mk R), .dat (enc n mk R2)]) (er_notT (b := true) (er_tru (er_isOBt (fl := fl_Encoded) (ds := [.int (n : Int), mk, R2]) rfl) rfl rfl)) rfl
    (er_orTF (b1 := false) (g1 := [.dat (enc n mk R), .dat (enc n mk R2)]) (er_tst (er_op (er_fld (d := .int (n : Int)) rfl rfl) (er_fld (d := .int (n : Int)) rfl rfl) rfl rfl hn rfl)) rfl
      (er_tst (er_op (er_fld (d := mk) rfl rfl) (er_fld (d := mk) rfl rfl) rfl rfl hm rfl)))) rfl (fun h => by cases h) (fun _ => sr_nx ?_)
  exact sr_ret (er_op (er_callS (ds := [R]) (er_cons (er_fld (d := R) rfl rfl) er_nil) rfl h1 rfl) (er_callS (ds := [R2]) (er_cons (er_fld (d := R2) rfl rfl) er_nil) rfl h2 rfl) rfl rfl he rfl) rfl
theorem in_mask (C : List D) : inD (.bl true) (.lst ((maskB C).map D.bl)) = some (.bl ((maskB C).any id)) := by
  have p : ((D.bl true).pl && ((maskB C).map D.bl).all D.pl) = true := by
    have : ((maskB C).map D.bl).all D.pl = true := List.all_eq_true.mpr fun x hx => by
      obtain ⟨b, _, rfl⟩ := List.mem_map.mp hx
      rfl
    rw [this]
    rfl
  have e : inL (.bl true) ((maskB C).map D.bl) = (maskB C).any id := by
    unfold inL
    rw [List.any_map]
    congr 1
    funext b
    cases b <;> rfl
  unfold inD inB
  simp only [p, if_true, e]
  rfl
theorem rep_vals {C : List D} (h : Pr C) : reprB [.lst C] = some (.str (shownD (.lst C))) :=
  rkB_repr rfl (sm_lst (sm_cvs (n := 0) h.1)).rr (by have := (sm_lst (sm_cvs (n := 0) h.1)).dd; omega) (by have := (sm_lst (sm_cvs (n := 0) h.1)).ww; have := h.2; omega)
theorem rep_mask {C : List D} (h : Pr C) : ∃ T, reprB [.lst ((maskB C).map D.bl)] = some (.str T) := by
  have hv : ∀ v ∈ (maskB C).map D.bl, CV v := fun v hv => by
    obtain ⟨b, _, rfl⟩ := List.mem_map.mp hv
    exact ⟨trivial, fun i e => by cases e⟩
  exact ⟨_, rep_vals ⟨hv, by unfold maskB; rw [List.length_map, List.length_map]; exact h.2⟩⟩
theorem right_ok {C : List D} (h : Pr C) {fm : List Nat} {R : D} (b : BodyOk fm (present C) R) : d__law_right [enc C.length (mk_ C) R, .str fm, .lst C] = some (.dat (.bl true)) := by
  have hf := form_ok (n := C.length) (mk := mk_ C) b
  have hd := dec_ok h b
  have hli := lisint_v (.int (C.length : Int)) (cv_int (by have := h.2; omega))
  have hin := in_mask C
  have hrep := rep_vals h
  obtain ⟨TM, hTM⟩ := rep_mask h
  have hlen := len_l C
  have hC := h.1
  have hl := h.2
  have hfs : neqD (.str fm) (.str fm) = some (.bl false) := ne_str fm
  have q2 : eqD (.int (C.length : Int)) (.int (C.length : Int)) = some (.bl true) := by rw [dr_eqI]; simp
  have lc2 := er_lc1 (b := fun _ => true) (f := fun v => D.bl (!nN v)) (L := C) (mi := ziL 6 (zVar 2)) (tg := gN 5) (tt := zYes) (el := zOp isD (zVar 5) (zC .non)) (vs := [5]) (g := [.dat (enc C.length (mk_ C) R), .dat (.str fm), .dat (.lst C), .un, .un, .un]) (h := [.dat (enc C.length (mk_ C) R), .dat (.str fm), .dat (.lst C), .un, .un, .un]) (base := [.dat (enc C.length (mk_ C) R), .dat (.str fm), .dat (.lst C), .un, .un, .un]) (mi_Ld rfl) (fun o => rfl) (fun o => rfl) (sz (by omega)) (fun d hd => lc_dat (h := [.dat (enc C.length (mk_ C) R), .dat (.str fm), .dat (.lst C), .un, .un, .dat d]) rfl (fun o => rfl) (fun o => rfl) (fun o => rfl) (fun o => rfl) (fun _ o => er_op rfl er_C rfl rfl (is_cv (hC d hd)) rfl))
  rw [List.filter_eq_self.mpr (fun _ _ => rfl), show (C.map fun v => D.bl (!nN v)) = (maskB C).map D.bl by unfold maskB; rw [List.map_map]; rfl] at lc2
  have hmk : mk_ C = if (maskB C).any id then .lst ((maskB C).map D.bl) else .non := rfl
  have q3 : eqD (.str (shownD (.lst C))) (.str (shownD (.lst C))) = some (.bl true) := by rw [dr_eqS]; simp
  have nTM := ne_str TM
  generalize hX : enc C.length (mk_ C) R = X at *
  have f0 : ∀ {g g1 : G} {m : ZM}, m g = some (.dat X, g1) → zFld "Encoded" fl_Encoded 0 m g = some (.dat (.int (C.length : Int)), g1) := fun hm => by rw [← hX] at hm; exact er_fld hm rfl
  have f1 : ∀ {g g1 : G} {m : ZM}, m g = some (.dat X, g1) → zFld "Encoded" fl_Encoded 1 m g = some (.dat (mk_ C), g1) := fun hm => by rw [← hX] at hm; exact er_fld hm rfl
  have hg : ∀ {g g1 : G} {m : ZM}, m g = some (.dat X, g1) → zGrd "Encoded" fl_Encoded m g = some (.dat X, g1) := fun hm => by rw [← hX] at hm ⊢; exact er_grd hm
  have hO : ∀ {g g1 : G} {m : ZM}, m g = some (.dat X, g1) → zIsO "Encoded" m g = some (.dat (.bl true), g1) := fun hm => by rw [← hX] at hm; exact er_isO hm
  generalize shownD (.lst C) = T at *
  generalize (maskB C).map D.bl = M at *
  unfold d__law_right b__law_right
  refine runP_ap (g := [.dat X, .dat (.str fm), .dat (.lst C), .un, .un, .un]) rfl rfl ?_
  refine sr_if (b := false) (g1 := [.dat X, .dat (.str fm), .dat (.lst C), .un, .un, .un]) (er_orTF (b1 := false) (g1 := [.dat X, .dat (.str fm), .dat (.lst C), .un, .un, .un]) (er_notT (b := true) (er_tru (hO rfl) rfl rfl)) rfl
    (er_orTF (b1 := false) (g1 := [.dat X, .dat (.str fm), .dat (.lst C), .un, .un, .un]) (er_tst (er_op (er_call (ds := [X]) (er_cons (hg rfl) er_nil) hf) rfl rfl rfl hfs rfl)) rfl
      (er_notT (b := true) (er_tru (er_call (ds := [.int (C.length : Int)]) (er_cons (f0 rfl) er_nil) hli) rfl rfl)))) rfl (fun h => by cases h) (fun _ => sr_nx ?_)
  refine seq_nx (g1 := [.dat X, .dat (.str fm), .dat (.lst C), .own (.lst M) false false, .un, .un]) (set_own lc2 (Nat.le_of_ble_eq_true rfl) rfl rfl rfl) ?_
  have tail : ap finK (((zSeq (zSet 6 4 (zMth "Encoded" fl_Encoded d_Encoded__decoded (zVar 0) zNil)) (zRet (zAndV (zOp eqD (zFld "Encoded" fl_Encoded 0 (zVar 0)) (zCallS lenD (zCons (zVar 2) (zNil)))) (zAndV (zCallS isiD (zCons (zVar 4) (zCons (zC (.raw (.ty "list"))) (zNil)))) (zOp eqD (zCallS reprB (zCons (zVar 4) (zNil))) (zCallS reprB (zCons (zVar 2) (zNil))))))))) [.dat X, .dat (.str fm), .dat (.lst C), .own (.lst M) false false, .un, .un]) = some (.dat (.bl true)) := by
    refine seq_nx (g1 := [.dat X, .dat (.str fm), .dat (.lst C), .own (.lst M) false false, .own (.lst C) false false, .un]) (set_own (er_callL (g1 := [.dat X, .dat (.str fm), .dat (.lst C), .own (.lst M) false false, .un, .un]) (ds := [X]) (er_cons (hg rfl) er_nil) hd) (Nat.le_of_ble_eq_true rfl) rfl rfl rfl) ?_
    exact sr_ret (er_andVT (b1 := true) (g1 := [.dat X, .dat (.str fm), .dat (.lst C), .own (.lst M) false false, .own (.lst C) false false, .un]) (er_op (f0 rfl) (er_callS (ds := [.lst C]) (er_cons rfl er_nil) rfl hlen rfl) rfl rfl q2 rfl) rfl
      (er_andVT (b1 := true) (g1 := [.dat X, .dat (.str fm), .dat (.lst C), .own (.lst M) false false, .own (.lst C) false false, .un]) (er_callS (ds := [.lst C, .raw (.ty "list")]) (er_cons rfl (er_cons rfl er_nil)) rfl rfl rfl) rfl
        (er_op (er_callS (ds := [.lst C]) (er_cons rfl er_nil) rfl hrep rfl) (er_callS (ds := [.lst C]) (er_cons rfl er_nil) rfl hrep rfl) rfl rfl q3 rfl))) rfl
  cases hb : (maskB C).any id with
  | true =>
    rw [hb] at hin hmk
    rw [if_pos rfl] at hmk
    rw [hmk] at f1
    refine sr_if (b := true) (g1 := [.dat X, .dat (.str fm), .dat (.lst C), .own (.lst M) false false, .un, .un]) (er_tst (er_op er_C rfl rfl rfl hin rfl)) rfl (fun _ => ?_) (fun h => by cases h)
    refine sr_if (b := false) (g1 := [.dat X, .dat (.str fm), .dat (.lst C), .own (.lst M) false false, .un, .un]) (er_orTF (b1 := false) (g1 := [.dat X, .dat (.str fm), .dat (.lst C), .own (.lst M) false false, .un, .un]) (er_notT (b := true) (er_tru (er_callS (ds := [.lst M, .raw (.ty "list")]) (er_cons (f1 rfl) (er_cons rfl er_nil)) rfl rfl rfl) rfl rfl)) rfl
      (er_tst (er_op (er_callS (ds := [.lst M]) (er_cons (f1 rfl) er_nil) rfl hTM rfl) (er_callS (ds := [.lst M]) (er_cons rfl er_nil) rfl hTM rfl) rfl rfl nTM rfl))) rfl (fun h => by cases h) (fun _ => sr_nx ?_)
    exact tail
  | false =>
    rw [hb] at hin hmk
    rw [if_neg Bool.false_ne_true] at hmk
    rw [hmk] at f1
    refine sr_if (b := false) (g1 := [.dat X, .dat (.str fm), .dat (.lst C), .own (.lst M) false false, .un, .un]) (er_tst (er_op er_C rfl rfl rfl hin rfl)) rfl (fun h => by cases h) (fun _ => ?_)
    refine sr_if (b := false) (g1 := [.dat X, .dat (.str fm), .dat (.lst C), .own (.lst M) false false, .un, .un]) (er_tst (er_op (f1 rfl) er_C rfl rfl (show isntD .non .non = some (.bl false) from rfl) rfl)) rfl (fun h => by cases h) (fun _ => sr_nx ?_)
    exact tail
local macro_rules | `(tactic| walk_at "e") => `(tactic| first | ((with_reducible apply er_ifT); (walk_at "e"); (walk_at "e")) | ((with_reducible apply er_ifF); (walk_at "e"); (walk_at "e")))
theorem txt_ne {fm fm2 : List Nat} {P P2 : List D} {R R2 : D} (h : BI fm P R) (h2 : BI fm2 P2 R2) (hn : R ≠ R2) : (shownD R == shownD R2) = false :=
  beq_eq_false_iff_ne.mpr (shown_ne h.gd h2.gd hn)
theorem form_ne {fm fm2 : List Nat} {P P2 : List D} {R R2 : D} (h : BI fm P R) (h2 : BI fm2 P2 R2) (hn : fm2 ≠ fm) : R ≠ R2 := fun e => by
  obtain ⟨fs, e1⟩ := h.bo.1
  obtain ⟨fs2, e2⟩ := h2.bo.1
  rw [e1, e2] at e
  cases e
  exact hn rfl
theorem eq_self (n : Nat) (C : List D) {fm : List Nat} {P : List D} {R : D} (h : BI fm P R) : d_Encoded____eq__ [enc n (mk_ C) R, enc n (mk_ C) R] = some (.dat (.bl true)) := by
  rw [eq_body n (mask_ne C) h.rep h.rep]
  simp
theorem eq_form (n : Nat) (C : List D) {fm fm2 : List Nat} {P : List D} {R R2 : D} (h : BI fm P R) (h2 : BI fm2 P R2) (hn : fm2 ≠ fm) : d_Encoded____eq__ [enc n (mk_ C) R, enc n (mk_ C) R2] = some (.dat (.bl false)) := by
  rw [eq_body n (mask_ne C) h.rep h2.rep, txt_ne h h2 (form_ne h h2 hn)]
theorem turned_enc {C C' : List D} (h : Pr C) (t : Turned C C') {fm : List Nat} (hf : fm ∈ FM) {R : D} (b : BI fm (present C) R) :
    ∃ X', d_encode_as [.str fm, .lst C'] = some (.dat X') ∧ (X' = .non ∨ ((∃ ds, X' = .obj cE fl_Encoded ds) ∧ d_Encoded____eq__ [enc C.length (mk_ C) R, X'] = some (.dat (.bl false)))) := by
  rcases t with e | ⟨hl, hm, hne, hC'⟩
  · subst e
    have hp : present (C ++ [.non]) = present C := by
      unfold present
      rw [List.filter_append]
      exact List.append_nil _
    obtain ⟨R', eb, hR⟩ := f_ok (pr_of h) hf
    have hv : (∀ v ∈ C ++ [D.non], CV v) ∧ (C ++ [D.non]).length ≤ 100 := ⟨fun v hv => by
      rcases List.mem_append.mp hv with m | m
      · exact h.1 v m
      · rw [List.mem_singleton.mp m]
        exact ⟨trivial, fun i e => by cases e⟩, by
      have := h.2
      rw [List.length_append]
      simp
      omega⟩
    rw [← hp] at eb
    rcases hR with ⟨rfl, _⟩ | ⟨_, hB⟩
    · exact ⟨_, enc_as hv fm .non eb (.inl rfl), .inl rfl⟩
    · obtain ⟨⟨fs, rfl⟩, _⟩ := hB.bo
      refine ⟨_, enc_as hv fm _ eb (.inr ⟨_, rfl⟩), .inr ⟨⟨_, rfl⟩, ?_⟩⟩
      exact eq_len _ _ _ _ (by rw [List.length_append]; simp)
  · have h' : Pr C' := ⟨hC', by rw [hl]; exact h.2⟩
    obtain ⟨R', eb, hR⟩ := f_ok (pr_of h') hf
    have hv : (∀ v ∈ C', CV v) ∧ C'.length ≤ 100 := ⟨hC', by have := h'.2; omega⟩
    rcases hR with ⟨rfl, _⟩ | ⟨_, hB⟩
    · exact ⟨_, enc_as hv fm .non eb (.inl rfl), .inl rfl⟩
    · have hmk : mk_ C' = mk_ C := by
        unfold mk_
        rw [hm]
      have d1 := dec_ok h b.bo
      have d2 := dec_ok h' hB.bo
      have hRR : R ≠ R' := fun e => by
        rw [hmk, hl, ← e, d1] at d2
        have d2 := Option.some.inj d2
        cases d2
        exact hne rfl
      have ef : d_Encoded____eq__ [enc C.length (mk_ C) R, enc C.length (mk_ C) R'] = some (.dat (.bl false)) := by
        rw [eq_body C.length (mask_ne C) b.rep hB.rep, txt_ne b hB hRR]
      obtain ⟨⟨fs, e2⟩, _⟩ := hB.bo
      have ea := enc_as hv fm R' eb (.inr ⟨_, e2⟩)
      rw [hmk, hl] at ea
      subst e2
      exact ⟨_, ea, .inr ⟨⟨_, rfl⟩, ef⟩⟩
def Old (C : List D) (fm : List Nat) (d : D) : Prop := ∃ fm2 R2, fm2 ≠ fm ∧ BI fm2 (present C) R2 ∧ d = enc C.length (mk_ C) R2
abbrev GL (S : D) (C P M : List D) (x4 x5 x6 x8 x9 : Sl) : G := [.dat S, .own (.lst C) false false, .own (.lst P) false false, .own (.lst M) false false, x4, x5, x6, .un, x8, x9]
theorem law_turn (S : D) {C : List D} (h : Pr C) {M : List D} {fm : List Nat} (hM : ∀ d ∈ M, Old C fm d) (hl : M.length ≤ 6) (hf : fm ∈ FM) :
    ∃ M', lb_law_2 (GL S C (present C) M (.dat (.str fm)) .un .un .un .un) = some (.nx, GL S C (present C) M' .un .un .un .un .un) ∧ ((possP fm (present C) = false ∧ M' = M) ∨ (possP fm (present C) = true ∧ ∃ R, BI fm (present C) R ∧ M' = M ++ [enc C.length (mk_ C) R])) := by
  obtain ⟨R, eb, hR⟩ := f_ok (pr_of h) hf
  have hv : (∀ v ∈ C, CV v) ∧ C.length ≤ 100 := ⟨h.1, by have := h.2; omega⟩
  have ep := poss_ok (pr_of h) hf
  have hrep := rep_vals h
  have nC := ne_str (shownD (.lst C))
  have hsc : (Cn.lst C).scal = true := List.all_eq_true.mpr fun x hx => by
    have := h.1 x hx
    cases x <;> first | rfl | exact this.1.elim
  rcases hR with ⟨rfl, hp⟩ | ⟨hp, hB⟩
  · have e1 := enc_as hv fm .non eb (.inl rfl)
    have e1 : d_encode_as [.str fm, .lst C] = some (.dat .non) := e1
    rw [hp] at ep
    refine ⟨M, ?_, .inl ⟨hp, rfl⟩⟩
    generalize present C = P at *
    generalize shownD (.lst C) = T at *
    unfold lb_law_2
    refine of_ap (ap_fg ?_)
    refine seq_nx (g1 := GL S C P M (.dat (.str fm)) (.own (.lst C) false false) .un .un .un) (set_own (er_list (g1 := GL S C P M (.dat (.str fm)) .un .un .un .un) (r := .bor 1) (d := .lst C) (er_cons rfl er_nil) rfl rfl) (Nat.le_of_ble_eq_true rfl) rfl rfl rfl) ?_
    refine seq_nx (g1 := GL S C P M (.dat (.str fm)) (.own (.lst C) false false) (.dat .non) .un .un) (set_dat (er_callV (ds := [.str fm, .lst C]) (er_cons rfl (er_cons rfl er_nil)) rfl e1 rfl) rfl rfl) ?_
    refine sr_if (b := false) (g1 := GL S C P M (.dat (.str fm)) (.own (.lst C) false false) (.dat .non) .un .un) (er_tst (er_op (er_callS (ds := [.lst C]) (er_cons rfl er_nil) rfl hrep rfl) (er_callS (ds := [.lst C]) (er_cons rfl er_nil) rfl hrep rfl) rfl rfl nC rfl)) rfl (fun h => by cases h) (fun _ => sr_nx ?_)
    refine sr_if1 (b := true) (g1 := GL S C P M (.dat (.str fm)) (.own (.lst C) false false) (.dat .non) .un .un) (er_notT (b := false) (er_tru (er_callV (ds := [.str fm, .lst P]) (er_cons rfl (er_cons rfl er_nil)) rfl ep rfl) rfl rfl)) rfl (fun _ => ?_) (fun h => by cases h)
    refine sr_if1 (b := false) (g1 := GL S C P M (.dat (.str fm)) (.own (.lst C) false false) (.dat .non) .un .un) rfl rfl (fun h => by cases h) (fun _ => ?_)
    exact sr_nx1 (fgK_nx rfl rfl rfl)
  · obtain ⟨⟨fs, hfs⟩, _⟩ := hB.bo
    have e1 : d_encode_as [.str fm, .lst C] = some (.dat (enc C.length (mk_ C) R)) := by
      rw [enc_as hv fm R eb (.inr ⟨_, hfs⟩), hfs]
      rfl
    rw [hp] at ep
    refine ⟨M ++ [enc C.length (mk_ C) R], ?_, .inr ⟨hp, R, hB, rfl⟩⟩
    have er := right_ok h hB.bo
    have es := eq_self C.length C hB
    obtain ⟨C', et, ht⟩ := turned_ok h
    obtain ⟨X', eX, hX'⟩ := turned_enc h ht hf hB
    have hsc' : (Cn.lst C').scal = true := List.all_eq_true.mpr fun x hx => by
      have : CV x := by
        rcases ht with z | z
        · rw [z] at hx
          rcases List.mem_append.mp hx with m | m
          · exact h.1 x m
          · rw [List.mem_singleton.mp m]
            exact ⟨trivial, fun i e => by cases e⟩
        · exact z.2.2.2 x hx
      cases x <;> first | rfl | exact this.1.elim
    have hME : ∀ d ∈ M, (∃ ds, d = .obj cE fl_Encoded ds) ∧ d_Encoded____eq__ [enc C.length (mk_ C) R, d] = some (.dat (.bl false)) := fun d hd => by
      obtain ⟨fm2, R2, hn, hB2, e⟩ := hM d hd
      subst e
      exact ⟨⟨_, rfl⟩, eq_form _ C hB hB2 hn⟩
    have hz : M.length < sizeLine := Nat.lt_of_le_of_lt hl (by decide)
    generalize hX : enc C.length (mk_ C) R = X at *
    have hg : ∀ {g g1 : G} {m : ZM}, m g = some (.dat X, g1) → zGrd "Encoded" fl_Encoded m g = some (.dat X, g1) := fun hm => by rw [← hX] at hm ⊢; exact er_grd hm
    have ho : ∀ {g g1 : G} {m : ZM}, m g = some (.dat X, g1) → zOI "Encoded" m g = some (.dat X, g1) := fun hm => by rw [← hX] at hm ⊢; exact er_oiO hm
    have hs : X.scal = false := by rw [← hX]; rfl
    generalize present C = P at *
    generalize shownD (.lst C) = T at *
    have hloop : ∀ x8 : Sl, forL (gN 9) lb_law_1 M [.dat S, .own (.lst C) false false, .own (.lst P) false false, .own (.lst M) false true, .dat (.str fm), .frz (.lst C), .dat X, .un, x8, .un] = some (.nx, [.dat S, .own (.lst C) false false, .own (.lst P) false false, .own (.lst M) false true, .dat (.str fm), .frz (.lst C), .dat X, .un, x8, .un]) := fun x8 => by
      obtain ⟨g2, e, rfl⟩ := forL_inv (st := lb_law_1) (tg := gN 9) (L := M) (fun _ g => g = [.dat S, .own (.lst C) false false, .own (.lst P) false false, .own (.lst M) false true, .dat (.str fm), .frz (.lst C), .dat X, .un, x8, .un]) 0 _ rfl (fun i d g hd hg2 => by
        subst hg2
        obtain ⟨⟨ds, rfl⟩, ef⟩ := hME d (List.mem_of_getElem? hd)
        refine ⟨[.dat S, .own (.lst C) false false, .own (.lst P) false false, .own (.lst M) false true, .dat (.str fm), .frz (.lst C), .dat X, .un, x8, .dat (.obj cE fl_Encoded ds)], _, rfl, .inl ?_, rfl⟩
        unfold lb_law_1
        refine of_ap (ap_fg (sr_if1 (b := false) (g1 := [.dat S, .own (.lst C) false false, .own (.lst P) false false, .own (.lst M) false true, .dat (.str fm), .frz (.lst C), .dat X, .un, x8, .dat (.obj cE fl_Encoded ds)]) (er_tst (er_eqO (hg rfl) (er_oiO rfl) ef)) rfl (fun h => by cases h) (fun _ => ?_)))
        exact sr_nx1 (fgK_nx rfl rfl rfl))
      exact e
    have htn : ∀ x8 : Sl, zCall d__law_turned (zCons (zVar 1) (zNil)) (GL S C P M (.dat (.str fm)) (.frz (.lst C)) (.dat X) x8 .un) = some (.bor 10, GL S C P M (.dat (.str fm)) (.frz (.lst C)) (.dat X) x8 .un ++ [.own (.lst C') false false]) := fun x8 => er_callN (rs := [.bor 1]) (ds := [.lst C]) (g1 := GL S C P M (.dat (.str fm)) (.frz (.lst C)) (.dat X) x8 .un) (er_cons rfl er_nil) rfl et hsc'
    have tail : ∀ X8 : D, ap (fgK [4, 5, 6, 8, 9] id) ((zSeq (zFor 10 (ziL 10 (zVar 3)) (gN 9) (lb_law_1)) (zApp 10 (zVar 3) (zVar 6))) (GL S C P M (.dat (.str fm)) (.frz (.lst C)) (.dat X) (.dat X8) .un)) = some (.nx, GL S C P (M ++ [X]) .un .un .un .un .un) := fun X8 => by
      refine seq_nx (g1 := GL S C P M (.dat (.str fm)) (.frz (.lst C)) (.dat X) (.dat X8) .un) (for_lock (mi := ziL 10 (zVar 3)) (j := 3) (L := M) (c := .lst M) (p := false) (l := false) (g1 := GL S C P M (.dat (.str fm)) (.frz (.lst C)) (.dat X) (.dat X8) .un) (mi_Lb rfl (by decide) rfl) rfl rfl rfl (hloop (.dat X8)) rfl) ?_
      exact one_nx (g1 := GL S C P (M ++ [X]) (.dat (.str fm)) (.frz (.lst C)) (.dat X) (.dat X8) .un) (app_run (j := 3) rfl rfl rfl rfl rfl hz rfl) (fgK_nx rfl rfl rfl)
    unfold lb_law_2
    refine of_ap (ap_fg ?_)
    refine seq_nx (g1 := GL S C P M (.dat (.str fm)) (.own (.lst C) false false) .un .un .un) (set_own (er_list (g1 := GL S C P M (.dat (.str fm)) .un .un .un .un) (r := .bor 1) (d := .lst C) (er_cons rfl er_nil) rfl rfl) (Nat.le_of_ble_eq_true rfl) rfl rfl rfl) ?_
    refine seq_nx (g1 := GL S C P M (.dat (.str fm)) (.frz (.lst C)) (.dat X) .un .un) (set_dat (er_callGF (rs := [.dat (.str fm), .bor 5]) (g1 := GL S C P M (.dat (.str fm)) (.own (.lst C) false false) .un .un .un) (ds := [.str fm, .lst C]) (er_cons rfl (er_cons rfl er_nil)) rfl rfl e1 hs) rfl rfl) ?_
    refine sr_if (b := false) (g1 := GL S C P M (.dat (.str fm)) (.frz (.lst C)) (.dat X) .un .un) (er_tst (er_op (er_callS (ds := [.lst C]) (er_cons rfl er_nil) rfl hrep rfl) (er_callS (ds := [.lst C]) (er_cons rfl er_nil) rfl hrep rfl) rfl rfl nC rfl)) rfl (fun h => by cases h) (fun _ => sr_nx ?_)
    refine sr_if1 (b := false) (g1 := GL S C P M (.dat (.str fm)) (.frz (.lst C)) (.dat X) .un .un) (er_notT (b := true) (er_tru (er_callV (ds := [.str fm, .lst P]) (er_cons rfl (er_cons rfl er_nil)) rfl ep rfl) rfl rfl)) rfl (fun h => by cases h) (fun _ => ?_)
    refine sr_if (b := false) (g1 := GL S C P M (.dat (.str fm)) (.frz (.lst C)) (.dat X) .un .un ++ [.frz (.lst C)]) (er_orTF (b1 := false) (g1 := GL S C P M (.dat (.str fm)) (.frz (.lst C)) (.dat X) .un .un) (er_notT (b := true) (er_tru (er_callV (ds := [X, .str fm, .lst C]) (er_cons rfl (er_cons rfl (er_cons rfl er_nil))) rfl er rfl) rfl rfl)) rfl
      (er_notT (b := true) (er_tst (er_eqO (hg rfl) (ho (er_callGF (rs := [.dat (.str fm), .bor 10]) (g1 := GL S C P M (.dat (.str fm)) (.frz (.lst C)) (.dat X) .un .un ++ [.own (.lst C) false false]) (ds := [.str fm, .lst C]) (er_cons rfl (er_cons (er_list (g1 := GL S C P M (.dat (.str fm)) (.frz (.lst C)) (.dat X) .un .un) (r := .bor 1) (d := .lst C) (er_cons rfl er_nil) rfl rfl) er_nil)) rfl rfl e1 hs)) es)))) rfl (fun h => by cases h) (fun _ => sr_nx ?_)
    rcases hX' with rfl | ⟨⟨ds, rfl⟩, ef⟩
    · refine seq_nx (g1 := GL S C P M (.dat (.str fm)) (.frz (.lst C)) (.dat X) (.dat .non) .un) (set_dat (er_callV (rs := [.dat (.str fm), .bor 10]) (ds := [.str fm, .lst C']) (er_cons rfl (er_cons (htn .un) er_nil)) rfl eX rfl) rfl rfl) ?_
      refine sr_if (b := false) (g1 := GL S C P M (.dat (.str fm)) (.frz (.lst C)) (.dat X) (.dat .non) .un) (er_andTF (b1 := false) rfl rfl) rfl (fun h => by cases h) (fun _ => sr_nx ?_)
      exact tail _
    · refine seq_nx (g1 := GL S C P M (.dat (.str fm)) (.frz (.lst C)) (.dat X) (.dat (.obj cE fl_Encoded ds)) .un) (set_dat (er_callGF (rs := [.dat (.str fm), .bor 10]) (g1 := GL S C P M (.dat (.str fm)) (.frz (.lst C)) (.dat X) .un .un ++ [.own (.lst C') false false]) (ds := [.str fm, .lst C']) (er_cons rfl (er_cons (htn .un) er_nil)) rfl rfl eX rfl) rfl rfl) ?_
      refine sr_if (b := false) (g1 := GL S C P M (.dat (.str fm)) (.frz (.lst C)) (.dat X) (.dat (.obj cE fl_Encoded ds)) .un) (er_andTT (b1 := true) (g1 := GL S C P M (.dat (.str fm)) (.frz (.lst C)) (.dat X) (.dat (.obj cE fl_Encoded ds)) .un) rfl rfl (er_tst (er_eqO (hg rfl) (er_oiO rfl) ef))) rfl (fun h => by cases h) (fun _ => sr_nx ?_)
      exact tail _
def cnt (P : List D) (L : List (List Nat)) : Nat := (L.filter fun fm => possP fm P).length
structure Inv (C : List D) (L : List (List Nat)) (M : List D) : Prop where
  all : ∀ d ∈ M, ∃ fm2 R2, fm2 ∈ L ∧ BI fm2 (present C) R2 ∧ d = enc C.length (mk_ C) R2
  len : M.length = cnt (present C) L
theorem law_loop (S : D) {C : List D} (h : Pr C) : ∀ (L K : List (List Nat)), (∀ fm ∈ L, fm ∈ FM) → (K ++ L).Nodup → (K ++ L).length ≤ 6 → ∀ M, Inv C K M → ∃ M', Inv C (K ++ L) M' ∧ forL (gN 4) lb_law_2 (L.map D.str) (GL S C (present C) M .un .un .un .un .un) = some (.nx, GL S C (present C) M' .un .un .un .un .un)
  | [], K, _, _, _, M, I => ⟨M, by rw [List.append_nil]; exact I, rfl⟩
  | fm :: L, K, hL, hn, hk, M, I => by
    have hfm := hL fm List.mem_cons_self
    have hnk : fm ∉ K := fun z => by
      rw [List.nodup_append] at hn
      exact hn.2.2 fm z fm List.mem_cons_self rfl
    have hl6 : M.length ≤ 6 := by
      have : (K.filter fun fm => possP fm (present C)).length ≤ K.length := List.length_filter_le _ _
      have := I.len
      unfold cnt at this
      rw [List.length_append] at hk
      omega
    obtain ⟨M1, e1, hM⟩ := law_turn S h (M := M) (fm := fm) (fun d hd => by
      obtain ⟨fm2, R2, h1, h2, h3⟩ := I.all d hd
      exact ⟨fm2, R2, fun z => hnk (z ▸ h1), h2, h3⟩) hl6 hfm
    have I1 : Inv C (K ++ [fm]) M1 := by
      rcases hM with ⟨hp, rfl⟩ | ⟨hp, R, hB, rfl⟩
      · refine ⟨fun d hd => ?_, ?_⟩
        · obtain ⟨fm2, R2, h1, h2⟩ := I.all d hd
          exact ⟨fm2, R2, List.mem_append_left _ h1, h2⟩
        · rw [I.len]
          unfold cnt
          rw [List.filter_append]
          simp [hp]
      · refine ⟨fun d hd => ?_, ?_⟩
        · rcases List.mem_append.mp hd with m | m
          · obtain ⟨fm2, R2, h1, h2⟩ := I.all d m
            exact ⟨fm2, R2, List.mem_append_left _ h1, h2⟩
          · rw [List.mem_singleton.mp m]
            exact ⟨fm, R, List.mem_append_right _ (List.mem_singleton.mpr rfl), hB, rfl⟩
        · rw [List.length_append, I.len]
          unfold cnt
          rw [List.filter_append, List.length_append]
          simp [hp]
    have hKL : K ++ fm :: L = (K ++ [fm]) ++ L := by simp
    rw [hKL] at hn hk ⊢
    obtain ⟨M2, I2, e2⟩ := law_loop S h L (K ++ [fm]) (fun x hx => hL x (List.mem_cons_of_mem _ hx)) hn hk M1 I1
    exact ⟨M2, I2, forL_nx (g1 := GL S C (present C) M (.dat (.str fm)) .un .un .un .un) rfl e1 e2⟩
theorem law_true (ns : List Int) (hn : ns.length ≤ 63) : d_law [scriptD ns] = some (.dat (.bl true)) := by
  obtain ⟨C, ec, hl, hC⟩ := vals_ok ns hn
  have h : Pr C := ⟨hC, hl⟩
  obtain ⟨M, I, e2⟩ := law_loop (scriptD ns) h FM [] (fun x hx => hx) (by decide) (by decide) [] ⟨fun d hd => (nomatch hd), rfl⟩
  have lc1 := er_lcO (j := 1) (c := .lst C) (p := false) (l := false) (g1 := [.dat (scriptD ns), .own (.lst C) false false, .un, .un, .un, .un, .un, .un, .un, .un]) (b := nN) (f := fun x => x) (L := C) (mi := ziL 10 (zVar 1)) (tg := gN 7) (tt := zTst (zOp isntD (zVar 7) (zC .non))) (el := zVar 7) (vs := [7]) (g := [.dat (scriptD ns), .own (.lst C) false false, .un, .un, .un, .un, .un, .un, .un, .un]) (h := [.dat (scriptD ns), .own (.lst C) false true, .un, .un, .un, .un, .un, .un, .un, .un]) (base := [.dat (scriptD ns), .own (.lst C) false true, .un, .un, .un, .un, .un, .un, .un, .un]) (mi_Lb (j := 1) (n := 10) (g1 := [.dat (scriptD ns), .own (.lst C) false false, .un, .un, .un, .un, .un, .un, .un, .un]) rfl (by decide) rfl) rfl rfl (fun o => rfl) (fun o => rfl) (sz (by omega)) (fun d hd => lc_dat (h := [.dat (scriptD ns), .own (.lst C) false true, .un, .un, .un, .un, .un, .dat d, .un, .un]) rfl (fun o => rfl) (fun o => rfl) (fun o => rfl) (fun o => er_tst (er_op rfl er_C rfl rfl (isnt_cv (hC d hd)) rfl)) (fun _ o => rfl))
  rw [List.map_id'] at lc1
  rw [show C.filter nN = present C from rfl] at lc1
  have hml : 3 ≤ M.length := by
    have i := I.len
    unfold cnt at i
    have e : ((([] : List (List Nat)) ++ FM).filter fun fm => possP fm (present C)) = [kPL] ++ ([kCO].filter fun fm => possP fm (present C)) ++ [kRU, kDI] ++ ([kPA, kDE].filter fun fm => possP fm (present C)) := by
      show (FM.filter fun fm => possP fm (present C)) = _
      have a : possP kPL (present C) = true := rfl
      have b : possP kRU (present C) = true := rfl
      have c : possP kDI (present C) = true := rfl
      simp only [List.filter_cons, a, b, c, if_true, List.filter_nil]
      split <;> rfl
    rw [e] at i
    simp only [List.length_append, List.length_cons, List.length_nil] at i
    omega
  obtain ⟨R0, M0, hM0⟩ : ∃ R0 M0, M = enc C.length (mk_ C) R0 :: M0 := by
    cases hM : M with
    | nil => rw [hM] at hml; cases hml
    | cons d M0 =>
      obtain ⟨_, R2, _, _, e⟩ := I.all d (by rw [hM]; exact List.mem_cons_self)
      exact ⟨R2, M0, by rw [e]⟩
  have hx : ixD (.lst M) 0 = some (enc C.length (mk_ C) R0) := by rw [hM0]; exact @atI_nat D (_ :: M0) 0 _ rfl
  have hq := eq_int C.length (mk_ C) R0
  have hlen := len_l M
  have hge : geD (.int (M.length : Int)) (.int 3) = some (.bl true) := congrArg (fun b => some (D.bl b)) (decide_eq_true (by omega))
  generalize present C = P at *
  unfold d_law b_law
  refine runP_ap (g := [.dat (scriptD ns), .un, .un, .un, .un, .un, .un, .un, .un, .un]) rfl rfl ?_
  refine seq_nx (g1 := [.dat (scriptD ns), .own (.lst C) false false, .un, .un, .un, .un, .un, .un, .un, .un]) (set_own (er_callL (g1 := [.dat (scriptD ns), .un, .un, .un, .un, .un, .un, .un, .un, .un]) (ds := [scriptD ns]) (er_cons rfl er_nil) ec) (Nat.le_of_ble_eq_true rfl) rfl rfl rfl) ?_
  refine seq_nx (g1 := [.dat (scriptD ns), .own (.lst C) false false, .own (.lst P) false false, .un, .un, .un, .un, .un, .un, .un]) (set_own lc1 (Nat.le_of_ble_eq_true rfl) rfl rfl rfl) ?_
  refine seq_nx (g1 := GL (scriptD ns) C P [] .un .un .un .un .un) (set_own (j := 10) (g1 := [.dat (scriptD ns), .own (.lst C) false false, .own (.lst P) false false, .un, .un, .un, .un, .un, .un, .un, .own (.lst []) false false]) rfl (Nat.le_of_ble_eq_true rfl) rfl rfl rfl) ?_
  refine seq_nx (for_none (g1 := GL (scriptD ns) C P [] .un .un .un .un .un) (L := FM.map D.str) (mi_T er_C) rfl e2) ?_
  refine sr_ret (er_andVT (b1 := true) (g1 := GL (scriptD ns) C P M .un .un .un .un .un) (er_op (er_callS (ds := [.lst M]) (er_cons rfl er_nil) rfl hlen rfl) er_C rfl rfl hge rfl) rfl (er_notV (er_eqO (g1 := GL (scriptD ns) C P M .un .un .un .un .un) (er_grd (er_ix (g1 := GL (scriptD ns) C P M .un .un .un .un .un) (g2 := GL (scriptD ns) C P M .un .un .un .un .un) (r1 := .bor 3) rfl er_C rfl hx)) (er_oiI er_C) hq))) ?_
  exact rfl
end Qk45
end Mac
set_option Elab.async false
set_option linter.all false
set_option maxRecDepth 100000
set_option maxHeartbeats 4000000
namespace Qk45
open PySem PySem.Spec PyProof.Rows L2 Z
theorem kit_int {K : PySem.W.Frag} {C : Addr} (h1 : PySem.W.isClsIn K C = true) (h2 : PySem.W.typeIn K (.ref C) = some (.type "type")) (h3 : PySem.W.subIn K (.type "int") (.ref C) = some false) : PySem.W.kitOne K (.type "int") (.ref C) = some false := by
  unfold PySem.W.kitOne
  rw [if_neg (by simp)]
  have h1' : (PySem.W.clsIn K C).isSome = true := h1
  show (if ((PySem.W.clsIn K C).isSome && PySem.W.typeIn K (.ref C) == some (.type "type")) = true then PySem.W.subIn K (.type "int") (.ref C) else none) = _
  rw [h1', h2, h3]
  rfl
theorem all_mk {P : Program} {w : World} {K : PySem.W.Frag} {h : Heap} {mg : Str → Option Value} {fa : Addr} (X : K.In h) (G : h.Ns mainGlobals mg) (hfa : mg "law" = some (.ref fa))
    {C_Encoded : Addr} (ca_Encoded : PySem.W.nsIn K mainGlobals "Encoded" = some (some (.ref C_Encoded))) (cpg_Encoded : PySem.W.plainGet K C_Encoded Str.empty = true) (chd_Encoded : PySem.W.hasDictIn K C_Encoded = true) (cpo_Encoded : PySem.W.plainOver K C_Encoded = true) (csa_Encoded : PySem.W.findIn K (.ref C_Encoded) "__setattr__" = some (some (.builtin "object.__setattr__"))) (cha_Encoded : PySem.W.findIn K (.ref C_Encoded) "__class__" = some (some (.builtin "object.__class__"))) (chn_Encoded : PySem.W.specialIn K (.builtin "object.__class__") "__get__" = some (some (.builtin "getset_descriptor.__get__"))) (cht_Encoded : PySem.W.takesIn K (.builtin "object.__class__") = some true) (chm_Encoded : PySem.W.mroIn K C_Encoded (.type "object") = some true)
    (cn_Encoded_length : PySem.W.findIn K (.ref C_Encoded) "length" = some none)
    (cn_Encoded_mask : PySem.W.findIn K (.ref C_Encoded) "mask" = some none)
    (cn_Encoded_body : PySem.W.findIn K (.ref C_Encoded) "body" = some none)
    (cic_Encoded : PySem.W.isClsIn K C_Encoded = true) (cty_Encoded : PySem.W.typeIn K (.ref C_Encoded) = some (.type "type")) (csi_Encoded : PySem.W.subIn K (.type "int") (.ref C_Encoded) = some false)
    {cf_Encoded : Addr} {coc_Encoded : Value} {cod_Encoded can_Encoded : Option Addr} {csl_Encoded : Array (Option Value)} {ckV_Encoded cdc_Encoded cpm_Encoded ccd_Encoded cct_Encoded : Value}
    (cmk_Encoded : PySem.W.makesIn K C_Encoded = true) (cin_Encoded : PySem.W.findIn K (.ref C_Encoded) "__init__" = some (some (.ref cf_Encoded))) (cfn_Encoded : PySem.W.isFn K (.ref cf_Encoded) = true) (ckc_Encoded : PySem.W.keepIn K (.ref C_Encoded) = true) (cl_Encoded : K.lookup cf_Encoded = some ⟨coc_Encoded, cod_Encoded, .func (PySem.W.fnOf "__init__" "Encoded.__init__" (defArgs st_Encoded) (defBody st_Encoded) (defScope st_Encoded) .none ckV_Encoded cdc_Encoded cpm_Encoded can_Encoded ccd_Encoded cct_Encoded), csl_Encoded⟩) (cce_Encoded : PySem.W.codeIn K ccd_Encoded "Encoded.__init__" = true) (ckp_Encoded : PySem.W.keepIn K (.ref cf_Encoded) = true)
    {od0 an0 : Option Addr} {sl0 : Array (Option Value)} {oc0 kV0 dc0 pm0 cd0 ct0 : Value} {f0 : Addr}
    (i0 : PySem.W.findIn K (.ref C_Encoded) "__eq__" = some (some (.ref f0))) (fn0 : PySem.W.isFn K (.ref f0) = true) (l0 : K.lookup f0 = some ⟨oc0, od0, .func (PySem.W.fnOf "__eq__" "Encoded.__eq__" (defArgs st_Encoded____eq__) (defBody st_Encoded____eq__) (defScope st_Encoded____eq__) .none kV0 dc0 pm0 an0 cd0 ct0), sl0⟩) (e0 : PySem.W.codeIn K cd0 "Encoded.__eq__" = true) (k0 : PySem.W.keepIn K (.ref f0) = true)
    {od1 an1 : Option Addr} {sl1 : Array (Option Value)} {oc1 kV1 dc1 pm1 cd1 ct1 : Value} {f1 : Addr}
    (a1 : PySem.W.nsIn K mainGlobals "_law_state" = some (some (.ref f1))) (l1 : K.lookup f1 = some ⟨oc1, od1, .func (PySem.W.fnOf "_law_state" "_law_state" (defArgs st__law_state) (defBody st__law_state) (defScope st__law_state) .none kV1 dc1 pm1 an1 cd1 ct1), sl1⟩) (e1 : PySem.W.codeIn K cd1 "_law_state" = true) (k1 : PySem.W.keepIn K (.ref f1) = true)
    {od2 an2 : Option Addr} {sl2 : Array (Option Value)} {oc2 kV2 dc2 pm2 cd2 ct2 : Value} {f2 : Addr}
    (a2 : PySem.W.nsIn K mainGlobals "_law_digit" = some (some (.ref f2))) (l2 : K.lookup f2 = some ⟨oc2, od2, .func (PySem.W.fnOf "_law_digit" "_law_digit" (defArgs st__law_digit) (defBody st__law_digit) (defScope st__law_digit) .none kV2 dc2 pm2 an2 cd2 ct2), sl2⟩) (e2 : PySem.W.codeIn K cd2 "_law_digit" = true) (k2 : PySem.W.keepIn K (.ref f2) = true)
    {od3 an3 : Option Addr} {sl3 : Array (Option Value)} {oc3 kV3 dc3 pm3 cd3 ct3 : Value} {f3 : Addr}
    (a3 : PySem.W.nsIn K mainGlobals "_law_cell" = some (some (.ref f3))) (l3 : K.lookup f3 = some ⟨oc3, od3, .func (PySem.W.fnOf "_law_cell" "_law_cell" (defArgs st__law_cell) (defBody st__law_cell) (defScope st__law_cell) .none kV3 dc3 pm3 an3 cd3 ct3), sl3⟩) (e3 : PySem.W.codeIn K cd3 "_law_cell" = true) (k3 : PySem.W.keepIn K (.ref f3) = true)
    {od4 an4 : Option Addr} {sl4 : Array (Option Value)} {oc4 kV4 dc4 pm4 cd4 ct4 : Value} {f4 : Addr}
    (a4 : PySem.W.nsIn K mainGlobals "_law_text" = some (some (.ref f4))) (l4 : K.lookup f4 = some ⟨oc4, od4, .func (PySem.W.fnOf "_law_text" "_law_text" (defArgs st__law_text) (defBody st__law_text) (defScope st__law_text) .none kV4 dc4 pm4 an4 cd4 ct4), sl4⟩) (e4 : PySem.W.codeIn K cd4 "_law_text" = true) (k4 : PySem.W.keepIn K (.ref f4) = true)
    {od5 an5 : Option Addr} {sl5 : Array (Option Value)} {oc5 kV5 dc5 pm5 cd5 ct5 : Value} {f5 : Addr}
    (a5 : PySem.W.nsIn K mainGlobals "_law_value" = some (some (.ref f5))) (l5 : K.lookup f5 = some ⟨oc5, od5, .func (PySem.W.fnOf "_law_value" "_law_value" (defArgs st__law_value) (defBody st__law_value) (defScope st__law_value) .none kV5 dc5 pm5 an5 cd5 ct5), sl5⟩) (e5 : PySem.W.codeIn K cd5 "_law_value" = true) (k5 : PySem.W.keepIn K (.ref f5) = true)
    {od6 an6 : Option Addr} {sl6 : Array (Option Value)} {oc6 kV6 dc6 pm6 cd6 ct6 : Value} {f6 : Addr}
    (a6 : PySem.W.nsIn K mainGlobals "_law_is_integer" = some (some (.ref f6))) (l6 : K.lookup f6 = some ⟨oc6, od6, .func (PySem.W.fnOf "_law_is_integer" "_law_is_integer" (defArgs st__law_is_integer) (defBody st__law_is_integer) (defScope st__law_is_integer) .none kV6 dc6 pm6 an6 cd6 ct6), sl6⟩) (e6 : PySem.W.codeIn K cd6 "_law_is_integer" = true) (k6 : PySem.W.keepIn K (.ref f6) = true)
    {od7 an7 : Option Addr} {sl7 : Array (Option Value)} {oc7 kV7 dc7 pm7 cd7 ct7 : Value} {f7 : Addr}
    (a7 : PySem.W.nsIn K mainGlobals "_law_values" = some (some (.ref f7))) (l7 : K.lookup f7 = some ⟨oc7, od7, .func (PySem.W.fnOf "_law_values" "_law_values" (defArgs st__law_values) (defBody st__law_values) (defScope st__law_values) .none kV7 dc7 pm7 an7 cd7 ct7), sl7⟩) (e7 : PySem.W.codeIn K cd7 "_law_values" = true) (k7 : PySem.W.keepIn K (.ref f7) = true)
    {od8 an8 : Option Addr} {sl8 : Array (Option Value)} {oc8 kV8 dc8 pm8 cd8 ct8 : Value} {f8 : Addr}
    (a8 : PySem.W.nsIn K mainGlobals "width_for" = some (some (.ref f8))) (l8 : K.lookup f8 = some ⟨oc8, od8, .func (PySem.W.fnOf "width_for" "width_for" (defArgs st_width_for) (defBody st_width_for) (defScope st_width_for) .none kV8 dc8 pm8 an8 cd8 ct8), sl8⟩) (e8 : PySem.W.codeIn K cd8 "width_for" = true) (k8 : PySem.W.keepIn K (.ref f8) = true)
    {od9 an9 : Option Addr} {sl9 : Array (Option Value)} {oc9 kV9 dc9 pm9 cd9 ct9 : Value} {f9 : Addr}
    (a9 : PySem.W.nsIn K mainGlobals "pack" = some (some (.ref f9))) (l9 : K.lookup f9 = some ⟨oc9, od9, .func (PySem.W.fnOf "pack" "pack" (defArgs st_pack) (defBody st_pack) (defScope st_pack) .none kV9 dc9 pm9 an9 cd9 ct9), sl9⟩) (e9 : PySem.W.codeIn K cd9 "pack" = true) (k9 : PySem.W.keepIn K (.ref f9) = true)
    {od10 an10 : Option Addr} {sl10 : Array (Option Value)} {oc10 kV10 dc10 pm10 cd10 ct10 : Value} {f10 : Addr}
    (a10 : PySem.W.nsIn K mainGlobals "packed_parts" = some (some (.ref f10))) (l10 : K.lookup f10 = some ⟨oc10, od10, .func (PySem.W.fnOf "packed_parts" "packed_parts" (defArgs st_packed_parts) (defBody st_packed_parts) (defScope st_packed_parts) .none kV10 dc10 pm10 an10 cd10 ct10), sl10⟩) (e10 : PySem.W.codeIn K cd10 "packed_parts" = true) (k10 : PySem.W.keepIn K (.ref f10) = true)
    {od11 an11 : Option Addr} {sl11 : Array (Option Value)} {oc11 kV11 dc11 pm11 cd11 ct11 : Value} {f11 : Addr}
    (a11 : PySem.W.nsIn K mainGlobals "is_integer" = some (some (.ref f11))) (l11 : K.lookup f11 = some ⟨oc11, od11, .func (PySem.W.fnOf "is_integer" "is_integer" (defArgs st_is_integer) (defBody st_is_integer) (defScope st_is_integer) .none kV11 dc11 pm11 an11 cd11 ct11), sl11⟩) (e11 : PySem.W.codeIn K cd11 "is_integer" = true) (k11 : PySem.W.keepIn K (.ref f11) = true)
    {od12 an12 : Option Addr} {sl12 : Array (Option Value)} {oc12 kV12 dc12 pm12 cd12 ct12 : Value} {f12 : Addr}
    (a12 : PySem.W.nsIn K mainGlobals "all_integers" = some (some (.ref f12))) (l12 : K.lookup f12 = some ⟨oc12, od12, .func (PySem.W.fnOf "all_integers" "all_integers" (defArgs st_all_integers) (defBody st_all_integers) (defScope st_all_integers) .none kV12 dc12 pm12 an12 cd12 ct12), sl12⟩) (e12 : PySem.W.codeIn K cd12 "all_integers" = true) (k12 : PySem.W.keepIn K (.ref f12) = true)
    {od13 an13 : Option Addr} {sl13 : Array (Option Value)} {oc13 kV13 dc13 pm13 cd13 ct13 : Value} {f13 : Addr}
    (a13 : PySem.W.nsIn K mainGlobals "deltas_body" = some (some (.ref f13))) (l13 : K.lookup f13 = some ⟨oc13, od13, .func (PySem.W.fnOf "deltas_body" "deltas_body" (defArgs st_deltas_body) (defBody st_deltas_body) (defScope st_deltas_body) .none kV13 dc13 pm13 an13 cd13 ct13), sl13⟩) (e13 : PySem.W.codeIn K cd13 "deltas_body" = true) (k13 : PySem.W.keepIn K (.ref f13) = true)
    {od14 an14 : Option Addr} {sl14 : Array (Option Value)} {oc14 kV14 dc14 pm14 cd14 ct14 : Value} {f14 : Addr}
    (a14 : PySem.W.nsIn K mainGlobals "rank" = some (some (.ref f14))) (l14 : K.lookup f14 = some ⟨oc14, od14, .func (PySem.W.fnOf "rank" "rank" (defArgs st_rank) (defBody st_rank) (defScope st_rank) .none kV14 dc14 pm14 an14 cd14 ct14), sl14⟩) (e14 : PySem.W.codeIn K cd14 "rank" = true) (k14 : PySem.W.keepIn K (.ref f14) = true)
    {od15 an15 : Option Addr} {sl15 : Array (Option Value)} {oc15 kV15 dc15 pm15 cd15 ct15 : Value} {f15 : Addr}
    (a15 : PySem.W.nsIn K mainGlobals "constant_body" = some (some (.ref f15))) (l15 : K.lookup f15 = some ⟨oc15, od15, .func (PySem.W.fnOf "constant_body" "constant_body" (defArgs st_constant_body) (defBody st_constant_body) (defScope st_constant_body) .none kV15 dc15 pm15 an15 cd15 ct15), sl15⟩) (e15 : PySem.W.codeIn K cd15 "constant_body" = true) (k15 : PySem.W.keepIn K (.ref f15) = true)
    {od16 an16 : Option Addr} {sl16 : Array (Option Value)} {oc16 kV16 dc16 pm16 cd16 ct16 : Value} {f16 : Addr}
    (a16 : PySem.W.nsIn K mainGlobals "runs_body" = some (some (.ref f16))) (l16 : K.lookup f16 = some ⟨oc16, od16, .func (PySem.W.fnOf "runs_body" "runs_body" (defArgs st_runs_body) (defBody st_runs_body) (defScope st_runs_body) .none kV16 dc16 pm16 an16 cd16 ct16), sl16⟩) (e16 : PySem.W.codeIn K cd16 "runs_body" = true) (k16 : PySem.W.keepIn K (.ref f16) = true)
    {od17 an17 : Option Addr} {sl17 : Array (Option Value)} {oc17 kV17 dc17 pm17 cd17 ct17 : Value} {f17 : Addr}
    (a17 : PySem.W.nsIn K mainGlobals "dictionary_body" = some (some (.ref f17))) (l17 : K.lookup f17 = some ⟨oc17, od17, .func (PySem.W.fnOf "dictionary_body" "dictionary_body" (defArgs st_dictionary_body) (defBody st_dictionary_body) (defScope st_dictionary_body) .none kV17 dc17 pm17 an17 cd17 ct17), sl17⟩) (e17 : PySem.W.codeIn K cd17 "dictionary_body" = true) (k17 : PySem.W.keepIn K (.ref f17) = true)
    {od18 an18 : Option Addr} {sl18 : Array (Option Value)} {oc18 kV18 dc18 pm18 cd18 ct18 : Value} {f18 : Addr}
    (a18 : PySem.W.nsIn K mainGlobals "packed_body" = some (some (.ref f18))) (l18 : K.lookup f18 = some ⟨oc18, od18, .func (PySem.W.fnOf "packed_body" "packed_body" (defArgs st_packed_body) (defBody st_packed_body) (defScope st_packed_body) .none kV18 dc18 pm18 an18 cd18 ct18), sl18⟩) (e18 : PySem.W.codeIn K cd18 "packed_body" = true) (k18 : PySem.W.keepIn K (.ref f18) = true)
    {od19 an19 : Option Addr} {sl19 : Array (Option Value)} {oc19 kV19 dc19 pm19 cd19 ct19 : Value} {f19 : Addr}
    (a19 : PySem.W.nsIn K mainGlobals "body_of" = some (some (.ref f19))) (l19 : K.lookup f19 = some ⟨oc19, od19, .func (PySem.W.fnOf "body_of" "body_of" (defArgs st_body_of) (defBody st_body_of) (defScope st_body_of) .none kV19 dc19 pm19 an19 cd19 ct19), sl19⟩) (e19 : PySem.W.codeIn K cd19 "body_of" = true) (k19 : PySem.W.keepIn K (.ref f19) = true)
    {od20 an20 : Option Addr} {sl20 : Array (Option Value)} {oc20 kV20 dc20 pm20 cd20 ct20 : Value} {f20 : Addr}
    (a20 : PySem.W.nsIn K mainGlobals "encode_as" = some (some (.ref f20))) (l20 : K.lookup f20 = some ⟨oc20, od20, .func (PySem.W.fnOf "encode_as" "encode_as" (defArgs st_encode_as) (defBody st_encode_as) (defScope st_encode_as) .none kV20 dc20 pm20 an20 cd20 ct20), sl20⟩) (e20 : PySem.W.codeIn K cd20 "encode_as" = true) (k20 : PySem.W.keepIn K (.ref f20) = true)
    {od21 an21 : Option Addr} {sl21 : Array (Option Value)} {oc21 kV21 dc21 pm21 cd21 ct21 : Value} {f21 : Addr}
    (a21 : PySem.W.nsIn K mainGlobals "_law_rank" = some (some (.ref f21))) (l21 : K.lookup f21 = some ⟨oc21, od21, .func (PySem.W.fnOf "_law_rank" "_law_rank" (defArgs st__law_rank) (defBody st__law_rank) (defScope st__law_rank) .none kV21 dc21 pm21 an21 cd21 ct21), sl21⟩) (e21 : PySem.W.codeIn K cd21 "_law_rank" = true) (k21 : PySem.W.keepIn K (.ref f21) = true)
    {od22 an22 : Option Addr} {sl22 : Array (Option Value)} {oc22 kV22 dc22 pm22 cd22 ct22 : Value} {f22 : Addr}
    (a22 : PySem.W.nsIn K mainGlobals "_law_possible" = some (some (.ref f22))) (l22 : K.lookup f22 = some ⟨oc22, od22, .func (PySem.W.fnOf "_law_possible" "_law_possible" (defArgs st__law_possible) (defBody st__law_possible) (defScope st__law_possible) .none kV22 dc22 pm22 an22 cd22 ct22), sl22⟩) (e22 : PySem.W.codeIn K cd22 "_law_possible" = true) (k22 : PySem.W.keepIn K (.ref f22) = true)
    {od23 an23 : Option Addr} {sl23 : Array (Option Value)} {oc23 kV23 dc23 pm23 cd23 ct23 : Value} {f23 : Addr}
    (a23 : PySem.W.nsIn K mainGlobals "_law_turned" = some (some (.ref f23))) (l23 : K.lookup f23 = some ⟨oc23, od23, .func (PySem.W.fnOf "_law_turned" "_law_turned" (defArgs st__law_turned) (defBody st__law_turned) (defScope st__law_turned) .none kV23 dc23 pm23 an23 cd23 ct23), sl23⟩) (e23 : PySem.W.codeIn K cd23 "_law_turned" = true) (k23 : PySem.W.keepIn K (.ref f23) = true)
    {od24 an24 : Option Addr} {sl24 : Array (Option Value)} {oc24 kV24 dc24 pm24 cd24 ct24 : Value} {f24 : Addr}
    (a24 : PySem.W.nsIn K mainGlobals "added_up" = some (some (.ref f24))) (l24 : K.lookup f24 = some ⟨oc24, od24, .func (PySem.W.fnOf "added_up" "added_up" (defArgs st_added_up) (defBody st_added_up) (defScope st_added_up) .none kV24 dc24 pm24 an24 cd24 ct24), sl24⟩) (e24 : PySem.W.codeIn K cd24 "added_up" = true) (k24 : PySem.W.keepIn K (.ref f24) = true)
    {od25 an25 : Option Addr} {sl25 : Array (Option Value)} {oc25 kV25 dc25 pm25 cd25 ct25 : Value} {f25 : Addr}
    (a25 : PySem.W.nsIn K mainGlobals "unpack" = some (some (.ref f25))) (l25 : K.lookup f25 = some ⟨oc25, od25, .func (PySem.W.fnOf "unpack" "unpack" (defArgs st_unpack) (defBody st_unpack) (defScope st_unpack) .none kV25 dc25 pm25 an25 cd25 ct25), sl25⟩) (e25 : PySem.W.codeIn K cd25 "unpack" = true) (k25 : PySem.W.keepIn K (.ref f25) = true)
    {od26 an26 : Option Addr} {sl26 : Array (Option Value)} {oc26 kV26 dc26 pm26 cd26 ct26 : Value} {f26 : Addr}
    (a26 : PySem.W.nsIn K mainGlobals "values_of" = some (some (.ref f26))) (l26 : K.lookup f26 = some ⟨oc26, od26, .func (PySem.W.fnOf "values_of" "values_of" (defArgs st_values_of) (defBody st_values_of) (defScope st_values_of) .none kV26 dc26 pm26 an26 cd26 ct26), sl26⟩) (e26 : PySem.W.codeIn K cd26 "values_of" = true) (k26 : PySem.W.keepIn K (.ref f26) = true)
    {od27 an27 : Option Addr} {sl27 : Array (Option Value)} {oc27 kV27 dc27 pm27 cd27 ct27 : Value} {f27 : Addr}
    (i27 : PySem.W.findIn K (.ref C_Encoded) "decoded" = some (some (.ref f27))) (fn27 : PySem.W.isFn K (.ref f27) = true) (l27 : K.lookup f27 = some ⟨oc27, od27, .func (PySem.W.fnOf "decoded" "Encoded.decoded" (defArgs st_Encoded__decoded) (defBody st_Encoded__decoded) (defScope st_Encoded__decoded) .none kV27 dc27 pm27 an27 cd27 ct27), sl27⟩) (e27 : PySem.W.codeIn K cd27 "Encoded.decoded" = true) (k27 : PySem.W.keepIn K (.ref f27) = true)
    {od28 an28 : Option Addr} {sl28 : Array (Option Value)} {oc28 kV28 dc28 pm28 cd28 ct28 : Value} {f28 : Addr}
    {p28 : Addr} {ir28 : List Value} (i28 : PySem.W.findIn K (.ref C_Encoded) "form" = some (some (.ref p28))) (ig28 : PySem.W.specialIn K (.ref p28) "__get__" = some (some (.builtin "property.__get__"))) (it28 : PySem.W.takesIn K (.ref p28) = some true) (iq28 : PySem.W.recIn K p28 "property" = some (.ref f28 :: ir28)) (l28 : K.lookup f28 = some ⟨oc28, od28, .func (PySem.W.fnOf "form" "Encoded.form" (defArgs st_Encoded__form) (defBody st_Encoded__form) (defScope st_Encoded__form) .none kV28 dc28 pm28 an28 cd28 ct28), sl28⟩) (e28 : PySem.W.codeIn K cd28 "Encoded.form" = true) (k28 : PySem.W.keepIn K (.ref f28) = true)
    {od29 an29 : Option Addr} {sl29 : Array (Option Value)} {oc29 kV29 dc29 pm29 cd29 ct29 : Value} {f29 : Addr}
    (a29 : PySem.W.nsIn K mainGlobals "_law_right" = some (some (.ref f29))) (l29 : K.lookup f29 = some ⟨oc29, od29, .func (PySem.W.fnOf "_law_right" "_law_right" (defArgs st__law_right) (defBody st__law_right) (defScope st__law_right) .none kV29 dc29 pm29 an29 cd29 ct29), sl29⟩) (e29 : PySem.W.codeIn K cd29 "_law_right" = true) (k29 : PySem.W.keepIn K (.ref f29) = true)
    {od30 an30 : Option Addr} {sl30 : Array (Option Value)} {oc30 kV30 dc30 pm30 cd30 ct30 : Value} {f30 : Addr}
    (a30 : PySem.W.nsIn K mainGlobals "law" = some (some (.ref f30))) (l30 : K.lookup f30 = some ⟨oc30, od30, .func (PySem.W.fnOf "law" "law" (defArgs st_law) (defBody st_law) (defScope st_law) .none kV30 dc30 pm30 an30 cd30 ct30), sl30⟩) (e30 : PySem.W.codeIn K cd30 "law" = true) (k30 : PySem.W.keepIn K (.ref f30) = true)
    (z_any : PySem.W.nsIn K mainGlobals "any" = some none)
    (z_bool : PySem.W.nsIn K mainGlobals "bool" = some none)
    (z_int : PySem.W.nsIn K mainGlobals "int" = some none)
    (z_isinstance : PySem.W.nsIn K mainGlobals "isinstance" = some none)
    (z_len : PySem.W.nsIn K mainGlobals "len" = some none)
    (z_list : PySem.W.nsIn K mainGlobals "list" = some none)
    (z_max : PySem.W.nsIn K mainGlobals "max" = some none)
    (z_min : PySem.W.nsIn K mainGlobals "min" = some none)
    (z_range : PySem.W.nsIn K mainGlobals "range" = some none)
    (z_repr : PySem.W.nsIn K mainGlobals "repr" = some none)
    (z_reversed : PySem.W.nsIn K mainGlobals "reversed" = some none)
    (z_tuple : PySem.W.nsIn K mainGlobals "tuple" = some none)
    {caFORMS : Addr} {ciFORMS : Array Value} {cnFORMS : Nat} {csFORMS : Array (Option Value)} {ddFORMS : Option Addr} (cvFORMS : PySem.W.nsIn K mainGlobals "FORMS" = some (some (.ref caFORMS))) (clFORMS : K.lookup caFORMS = some ⟨.type "tuple", ddFORMS, .seq ciFORMS cnFORMS, csFORMS⟩) (cdFORMS : absPs ciFORMS.toList = some [.str [112, 108, 97, 105, 110], .str [99, 111, 110, 115, 116, 97, 110, 116], .str [114, 117, 110, 115], .str [100, 105, 99, 116, 105, 111, 110, 97, 114, 121], .str [112, 97, 99, 107, 101, 100], .str [100, 101, 108, 116, 97, 115]]) (czFORMS : Nat.ble ciFORMS.size 1000 = true) :
    ∃ fd : FuncData, (∀ (s : Shared) (v : Value), BindsTo s fd ⟨[v], []⟩ [("_law_script", v)]) ∧ ∀ base : Heap, K.In base → base.Ns mainGlobals mg → base.NoDigits → FnA P w K mg base callerA fa fd ["_law_script"] (spP K d_law) := by
  have K_Encoded : Cls K C_Encoded := ⟨cpg_Encoded, chd_Encoded, cpo_Encoded, csa_Encoded⟩
  have N_Encoded : ∀ n ∈ fl_Encoded, NoAttr K C_Encoded n := List.forall_mem_cons.mpr ⟨cn_Encoded_length, List.forall_mem_cons.mpr ⟨cn_Encoded_mask, List.forall_mem_cons.mpr ⟨cn_Encoded_body, fun _ m => (List.not_mem_nil m).elim⟩⟩⟩
  have k_Encoded : ClsF K mg "Encoded" fl_Encoded := ⟨C_Encoded, ca_Encoded, PySem.W.mg_of X G ca_Encoded, N_Encoded, K_Encoded, cha_Encoded, chn_Encoded, cht_Encoded, chm_Encoded, kit_self⟩
  have kb_Encoded : IsiB K mg "Encoded" := ⟨C_Encoded, ca_Encoded, PySem.W.mg_of X G ca_Encoded, ⟨K_Encoded, cha_Encoded, chn_Encoded, cht_Encoded, chm_Encoded, kit_self⟩, kit_int cic_Encoded cty_Encoded csi_Encoded, csi_Encoded⟩
  have D_Encoded : ClsDef K mg "Encoded" fl_Encoded "Encoded.__init__" st_Encoded := ⟨C_Encoded, cf_Encoded, _, ca_Encoded, PySem.W.mg_of X G ca_Encoded, K_Encoded, N_Encoded, ⟨cmk_Encoded, cin_Encoded, cfn_Encoded, ckc_Encoded⟩, fun_mk (st := st_Encoded) cl_Encoded cce_Encoded ckp_Encoded⟩
  have D_Encoded____eq__ : MthDef K "Encoded" "__eq__" "Encoded.__eq__" st_Encoded____eq__ := ⟨C_Encoded, f0, _, ca_Encoded, K_Encoded, ⟨i0, fn0, k0⟩, fun_mk (st := st_Encoded____eq__) l0 e0 k0⟩
  have D__law_state : DefAt K mg "_law_state" st__law_state := ⟨f1, _, PySem.W.mg_of X G a1, fun_mk (st := st__law_state) l1 e1 k1⟩
  have D__law_digit : DefAt K mg "_law_digit" st__law_digit := ⟨f2, _, PySem.W.mg_of X G a2, fun_mk (st := st__law_digit) l2 e2 k2⟩
  have D__law_cell : DefAt K mg "_law_cell" st__law_cell := ⟨f3, _, PySem.W.mg_of X G a3, fun_mk (st := st__law_cell) l3 e3 k3⟩
  have D__law_text : DefAt K mg "_law_text" st__law_text := ⟨f4, _, PySem.W.mg_of X G a4, fun_mk (st := st__law_text) l4 e4 k4⟩
  have D__law_value : DefAt K mg "_law_value" st__law_value := ⟨f5, _, PySem.W.mg_of X G a5, fun_mk (st := st__law_value) l5 e5 k5⟩
  have D__law_is_integer : DefAt K mg "_law_is_integer" st__law_is_integer := ⟨f6, _, PySem.W.mg_of X G a6, fun_mk (st := st__law_is_integer) l6 e6 k6⟩
  have D__law_values : DefAt K mg "_law_values" st__law_values := ⟨f7, _, PySem.W.mg_of X G a7, fun_mk (st := st__law_values) l7 e7 k7⟩
  have D_width_for : DefAt K mg "width_for" st_width_for := ⟨f8, _, PySem.W.mg_of X G a8, fun_mk (st := st_width_for) l8 e8 k8⟩
  have D_pack : DefAt K mg "pack" st_pack := ⟨f9, _, PySem.W.mg_of X G a9, fun_mk (st := st_pack) l9 e9 k9⟩
  have D_packed_parts : DefAt K mg "packed_parts" st_packed_parts := ⟨f10, _, PySem.W.mg_of X G a10, fun_mk (st := st_packed_parts) l10 e10 k10⟩
  have D_is_integer : DefAt K mg "is_integer" st_is_integer := ⟨f11, _, PySem.W.mg_of X G a11, fun_mk (st := st_is_integer) l11 e11 k11⟩
  have D_all_integers : DefAt K mg "all_integers" st_all_integers := ⟨f12, _, PySem.W.mg_of X G a12, fun_mk (st := st_all_integers) l12 e12 k12⟩
  have D_deltas_body : DefAt K mg "deltas_body" st_deltas_body := ⟨f13, _, PySem.W.mg_of X G a13, fun_mk (st := st_deltas_body) l13 e13 k13⟩
  have D_rank : DefAt K mg "rank" st_rank := ⟨f14, _, PySem.W.mg_of X G a14, fun_mk (st := st_rank) l14 e14 k14⟩
  have D_constant_body : DefAt K mg "constant_body" st_constant_body := ⟨f15, _, PySem.W.mg_of X G a15, fun_mk (st := st_constant_body) l15 e15 k15⟩
  have D_runs_body : DefAt K mg "runs_body" st_runs_body := ⟨f16, _, PySem.W.mg_of X G a16, fun_mk (st := st_runs_body) l16 e16 k16⟩
  have D_dictionary_body : DefAt K mg "dictionary_body" st_dictionary_body := ⟨f17, _, PySem.W.mg_of X G a17, fun_mk (st := st_dictionary_body) l17 e17 k17⟩
  have D_packed_body : DefAt K mg "packed_body" st_packed_body := ⟨f18, _, PySem.W.mg_of X G a18, fun_mk (st := st_packed_body) l18 e18 k18⟩
  have D_body_of : DefAt K mg "body_of" st_body_of := ⟨f19, _, PySem.W.mg_of X G a19, fun_mk (st := st_body_of) l19 e19 k19⟩
  have D_encode_as : DefAt K mg "encode_as" st_encode_as := ⟨f20, _, PySem.W.mg_of X G a20, fun_mk (st := st_encode_as) l20 e20 k20⟩
  have D__law_rank : DefAt K mg "_law_rank" st__law_rank := ⟨f21, _, PySem.W.mg_of X G a21, fun_mk (st := st__law_rank) l21 e21 k21⟩
  have D__law_possible : DefAt K mg "_law_possible" st__law_possible := ⟨f22, _, PySem.W.mg_of X G a22, fun_mk (st := st__law_possible) l22 e22 k22⟩
  have D__law_turned : DefAt K mg "_law_turned" st__law_turned := ⟨f23, _, PySem.W.mg_of X G a23, fun_mk (st := st__law_turned) l23 e23 k23⟩
  have D_added_up : DefAt K mg "added_up" st_added_up := ⟨f24, _, PySem.W.mg_of X G a24, fun_mk (st := st_added_up) l24 e24 k24⟩
  have D_unpack : DefAt K mg "unpack" st_unpack := ⟨f25, _, PySem.W.mg_of X G a25, fun_mk (st := st_unpack) l25 e25 k25⟩
  have D_values_of : DefAt K mg "values_of" st_values_of := ⟨f26, _, PySem.W.mg_of X G a26, fun_mk (st := st_values_of) l26 e26 k26⟩
  have D_Encoded__decoded : MthDef K "Encoded" "decoded" "Encoded.decoded" st_Encoded__decoded := ⟨C_Encoded, f27, _, ca_Encoded, K_Encoded, ⟨i27, fn27, k27⟩, fun_mk (st := st_Encoded__decoded) l27 e27 k27⟩
  have D_Encoded__form : PropDef K "Encoded" "form" "Encoded.form" st_Encoded__form := ⟨C_Encoded, p28, f28, _, ca_Encoded, K_Encoded, ⟨i28, ig28, it28, ⟨_, iq28⟩⟩, fun_mk (st := st_Encoded__form) l28 e28 k28⟩
  have D__law_right : DefAt K mg "_law_right" st__law_right := ⟨f29, _, PySem.W.mg_of X G a29, fun_mk (st := st__law_right) l29 e29 k29⟩
  have D_law : DefAt K mg "law" st_law := ⟨f30, _, PySem.W.mg_of X G a30, fun_mk (st := st_law) l30 e30 k30⟩
  have m_any : mg "any" = none := PySem.W.mg_none_of X G z_any
  have m_bool : mg "bool" = none := PySem.W.mg_none_of X G z_bool
  have m_int : mg "int" = none := PySem.W.mg_none_of X G z_int
  have m_isinstance : mg "isinstance" = none := PySem.W.mg_none_of X G z_isinstance
  have m_len : mg "len" = none := PySem.W.mg_none_of X G z_len
  have m_list : mg "list" = none := PySem.W.mg_none_of X G z_list
  have m_max : mg "max" = none := PySem.W.mg_none_of X G z_max
  have m_min : mg "min" = none := PySem.W.mg_none_of X G z_min
  have m_range : mg "range" = none := PySem.W.mg_none_of X G z_range
  have m_repr : mg "repr" = none := PySem.W.mg_none_of X G z_repr
  have m_reversed : mg "reversed" = none := PySem.W.mg_none_of X G z_reversed
  have m_tuple : mg "tuple" = none := PySem.W.mg_none_of X G z_tuple
  have hc_FORMS := (constT X G cvFORMS clFORMS cdFORMS czFORMS : ConstD K mg "FORMS" c_FORMS)
  refine ⟨PySem.W.fnOf "law" "law" (defArgs st_law) (defBody st_law) (defScope st_law) .none kV30 dc30 pm30 an30 cd30 ct30, fun s v => .of_eq rfl, fun base _ _ hnd => ?_⟩
  have c_Encoded := ok_Encoded (P := P) (w := w) (base := base) D_Encoded m_list
  have c_Encoded____eq__ := ok_Encoded____eq__ (P := P) (w := w) (base := base) D_Encoded____eq__ m_isinstance m_repr hnd k_Encoded kb_Encoded
  have c__law_state := ok__law_state (P := P) (w := w) (base := base) D__law_state m_int
  have c__law_digit := ok__law_digit (P := P) (w := w) (base := base) D__law_digit m_int
  have c__law_cell := ok__law_cell (P := P) (w := w) (base := base) D__law_cell m_len
  have c__law_text := ok__law_text (P := P) (w := w) (base := base) D__law_text m_range c__law_digit
  have c__law_value := ok__law_value (P := P) (w := w) (base := base) D__law_value c__law_digit c__law_text
  have c__law_is_integer := ok__law_is_integer (P := P) (w := w) (base := base) D__law_is_integer m_bool m_int m_isinstance
  have c__law_values := ok__law_values (P := P) (w := w) (base := base) D__law_values m_len m_min m_range c__law_state c__law_digit c__law_cell c__law_value c__law_is_integer
  have c_width_for := ok_width_for (P := P) (w := w) (base := base) D_width_for
  have c_pack := ok_pack (P := P) (w := w) (base := base) D_pack m_reversed
  have c_packed_parts := ok_packed_parts (P := P) (w := w) (base := base) D_packed_parts m_max m_min c_width_for c_pack
  have c_is_integer := ok_is_integer (P := P) (w := w) (base := base) D_is_integer m_bool m_int m_isinstance
  have c_all_integers := ok_all_integers (P := P) (w := w) (base := base) D_all_integers c_is_integer
  have c_deltas_body := ok_deltas_body (P := P) (w := w) (base := base) D_deltas_body m_len m_range c_packed_parts c_all_integers
  have c_rank := ok_rank (P := P) (w := w) (base := base) D_rank m_bool m_int m_isinstance
  have c_constant_body := ok_constant_body (P := P) (w := w) (base := base) D_constant_body m_len c_rank
  have c_runs_body := ok_runs_body (P := P) (w := w) (base := base) D_runs_body m_len m_tuple c_rank
  have c_dictionary_body := ok_dictionary_body (P := P) (w := w) (base := base) D_dictionary_body m_len m_max m_tuple c_width_for c_rank c_pack
  have c_packed_body := ok_packed_body (P := P) (w := w) (base := base) D_packed_body m_len c_packed_parts c_all_integers
  have c_body_of := ok_body_of (P := P) (w := w) (base := base) D_body_of m_tuple c_deltas_body c_constant_body c_runs_body c_dictionary_body c_packed_body
  have c_encode_as := ok_encode_as (P := P) (w := w) (base := base) D_encode_as m_any m_len c_Encoded c_body_of
  have c__law_rank := ok__law_rank (P := P) (w := w) (base := base) D__law_rank m_bool m_int m_isinstance
  have c__law_possible := ok__law_possible (P := P) (w := w) (base := base) D__law_possible m_len c__law_is_integer c__law_rank
  have c__law_turned := ok__law_turned (P := P) (w := w) (base := base) D__law_turned m_len m_list m_range
  have c_added_up := ok_added_up (P := P) (w := w) (base := base) D_added_up
  have c_unpack := ok_unpack (P := P) (w := w) (base := base) D_unpack m_range
  have c_values_of := ok_values_of (P := P) (w := w) (base := base) D_values_of m_list m_range c_added_up c_unpack
  have c_Encoded__decoded := ok_Encoded__decoded (P := P) (w := w) (base := base) D_Encoded__decoded k_Encoded c_values_of
  have c_Encoded__form := ok_Encoded__form (P := P) (w := w) (base := base) D_Encoded__form k_Encoded
  have c__law_right := ok__law_right (P := P) (w := w) (base := base) D__law_right m_isinstance m_len m_list m_repr hnd k_Encoded c_Encoded__decoded c_Encoded__form c__law_is_integer
  cases hfa.symm.trans (PySem.W.mg_of X G a30)
  exact ok_law (P := P) (w := w) (base := base) (fun_mk (st := st_law) l30 e30 k30) m_len m_list m_repr hnd hc_FORMS c_Encoded____eq__ c__law_values c_encode_as c__law_possible c__law_turned c__law_right
end Qk45
open PySem PySem.W PyProof.Rows
set_option maxHeartbeats 0 in
theorem PySem.Challenge.cw_stylobate_k45_encoded_columns_holds : PySem.Challenge.rw_stylobate_k45_encoded_columns.Holds := by
  w_on
  refine headZ ?_
  k_fill
  refine Z.walk_ofA (l := PySem.Challenge.rw_stylobate_k45_encoded_columns) (n := 63) (x := "_law_script") (f := Qk45.d_law) rfl (by decide) rfl (fun w h Y => PySem.W.kIn_of Y) ?F (fun ns hl => Qk45.law_true ns hl)
  case F =>
    intro w mg fa h KX G hmg
    refine' Qk45.all_mk KX G hmg ?ca_Encoded ?cpg_Encoded ?chd_Encoded ?cpo_Encoded ?csa_Encoded ?cha_Encoded ?chn_Encoded ?cht_Encoded ?chm_Encoded ?cn_Encoded_length ?cn_Encoded_mask ?cn_Encoded_body ?cic_Encoded ?cty_Encoded ?csi_Encoded ?cmk_Encoded ?cin_Encoded ?cfn_Encoded ?ckc_Encoded ?cl_Encoded ?cce_Encoded ?ckp_Encoded ?i0 ?fn0 ?l0 ?e0 ?k0 ?a1 ?l1 ?e1 ?k1 ?a2 ?l2 ?e2 ?k2 ?a3 ?l3 ?e3 ?k3 ?a4 ?l4 ?e4 ?k4 ?a5 ?l5 ?e5 ?k5 ?a6 ?l6 ?e6 ?k6 ?a7 ?l7 ?e7 ?k7 ?a8 ?l8 ?e8 ?k8 ?a9 ?l9 ?e9 ?k9 ?a10 ?l10 ?e10 ?k10 ?a11 ?l11 ?e11 ?k11 ?a12 ?l12 ?e12 ?k12 ?a13 ?l13 ?e13 ?k13 ?a14 ?l14 ?e14 ?k14 ?a15 ?l15 ?e15 ?k15 ?a16 ?l16 ?e16 ?k16 ?a17 ?l17 ?e17 ?k17 ?a18 ?l18 ?e18 ?k18 ?a19 ?l19 ?e19 ?k19 ?a20 ?l20 ?e20 ?k20 ?a21 ?l21 ?e21 ?k21 ?a22 ?l22 ?e22 ?k22 ?a23 ?l23 ?e23 ?k23 ?a24 ?l24 ?e24 ?k24 ?a25 ?l25 ?e25 ?k25 ?a26 ?l26 ?e26 ?k26 ?i27 ?fn27 ?l27 ?e27 ?k27 ?i28 ?ig28 ?it28 ?iq28 ?l28 ?e28 ?k28 ?a29 ?l29 ?e29 ?k29 ?a30 ?l30 ?e30 ?k30 ?z_any ?z_bool ?z_int ?z_isinstance ?z_len ?z_list ?z_max ?z_min ?z_range ?z_repr ?z_reversed ?z_tuple ?cvFORMS ?clFORMS ?cdFORMS ?czFORMS
    (case ca_Encoded => k_is); (case cpg_Encoded => k_is); (case chd_Encoded => k_is); (case cpo_Encoded => k_is); (case csa_Encoded => k_is); (case cha_Encoded => k_is); (case chn_Encoded => k_is); (case cht_Encoded => k_is); (case chm_Encoded => k_is); (case cn_Encoded_length => k_is); (case cn_Encoded_mask => k_is); (case cn_Encoded_body => k_is); (case cic_Encoded => k_is); (case cty_Encoded => k_is); (case csi_Encoded => k_is); (case cmk_Encoded => k_is); (case cin_Encoded => k_is); (case cfn_Encoded => k_is); (case ckc_Encoded => k_is); (case cl_Encoded => k_is); (case cce_Encoded => k_is); (case ckp_Encoded => k_is); (case i0 => k_is); (case fn0 => k_is); (case l0 => k_is); (case e0 => k_is); (case k0 => k_is); (case a1 => k_is); (case l1 => k_is); (case e1 => k_is); (case k1 => k_is); (case a2 => k_is); (case l2 => k_is); (case e2 => k_is); (case k2 => k_is); (case a3 => k_is); (case l3 => k_is); (case e3 => k_is); (case k3 => k_is); (case a4 => k_is); (case l4 => k_is); (case e4 => k_is); (case k4 => k_is); (case a5 => k_is); (case l5 => k_is); (case e5 => k_is); (case k5 => k_is); (case a6 => k_is); (case l6 => k_is); (case e6 => k_is); (case k6 => k_is); (case a7 => k_is); (case l7 => k_is); (case e7 => k_is); (case k7 => k_is); (case a8 => k_is); (case l8 => k_is); (case e8 => k_is); (case k8 => k_is); (case a9 => k_is); (case l9 => k_is); (case e9 => k_is); (case k9 => k_is); (case a10 => k_is); (case l10 => k_is); (case e10 => k_is); (case k10 => k_is); (case a11 => k_is); (case l11 => k_is); (case e11 => k_is); (case k11 => k_is); (case a12 => k_is); (case l12 => k_is); (case e12 => k_is); (case k12 => k_is); (case a13 => k_is); (case l13 => k_is); (case e13 => k_is); (case k13 => k_is); (case a14 => k_is); (case l14 => k_is); (case e14 => k_is); (case k14 => k_is); (case a15 => k_is); (case l15 => k_is); (case e15 => k_is); (case k15 => k_is); (case a16 => k_is); (case l16 => k_is); (case e16 => k_is); (case k16 => k_is); (case a17 => k_is); (case l17 => k_is); (case e17 => k_is); (case k17 => k_is); (case a18 => k_is); (case l18 => k_is); (case e18 => k_is); (case k18 => k_is); (case a19 => k_is); (case l19 => k_is); (case e19 => k_is); (case k19 => k_is); (case a20 => k_is); (case l20 => k_is); (case e20 => k_is); (case k20 => k_is); (case a21 => k_is); (case l21 => k_is); (case e21 => k_is); (case k21 => k_is); (case a22 => k_is); (case l22 => k_is); (case e22 => k_is); (case k22 => k_is); (case a23 => k_is); (case l23 => k_is); (case e23 => k_is); (case k23 => k_is); (case a24 => k_is); (case l24 => k_is); (case e24 => k_is); (case k24 => k_is); (case a25 => k_is); (case l25 => k_is); (case e25 => k_is); (case k25 => k_is); (case a26 => k_is); (case l26 => k_is); (case e26 => k_is); (case k26 => k_is); (case i27 => k_is); (case fn27 => k_is); (case l27 => k_is); (case e27 => k_is); (case k27 => k_is); (case i28 => k_is); (case ig28 => k_is); (case it28 => k_is); (case iq28 => k_is); (case l28 => k_is); (case e28 => k_is); (case k28 => k_is); (case a29 => k_is); (case l29 => k_is); (case e29 => k_is); (case k29 => k_is); (case a30 => k_is); (case l30 => k_is); (case e30 => k_is); (case k30 => k_is); (case z_any => k_is); (case z_bool => k_is); (case z_int => k_is); (case z_isinstance => k_is); (case z_len => k_is); (case z_list => k_is); (case z_max => k_is); (case z_min => k_is); (case z_range => k_is); (case z_repr => k_is); (case z_reversed => k_is); (case z_tuple => k_is); (case cvFORMS => k_is); (case clFORMS => k_is); (case cdFORMS => exact rfl); (case czFORMS => exact rfl)
#print axioms PySem.Challenge.cw_stylobate_k45_encoded_columns_holds
