import PyProof.Rows.All
import Wide.All
import OpenK.AllK
import Wide.FinOn
import HandS.ForMost
import HandS.Style
import HandS.IsInst
import HandS.Wide
import HandS.Deep
import PyProof.Rows.EqBoolInt
import HandS.WideBits
import HandS.TupAny
import HandS.Comp
import HandS.Iter
import HandS.Replace
import PyProof.ReprRoads
import PyProof.ReprLen
import PyProof.StrBlock2
import HandS.TupLe
import HandS.FStr
import HandS.Small
import KE.KxField
import KE.IntTextLaws
import HandS.StrMore
import HandS.RaiseMore
import HandS.Codes
import PyProof.Rows.StrFirst
import HandS.Dict
import KE.KTab
import PyProof.Rows.StrDigitsNeg
import HandS.SetFor
import HandS.Strs
import HandS.IterVal
import KE.KSortKey
import HandS.SortOrd
import HandS.SortKw
import KE.KeyNested
import HandS.TupSets
import HandS.SetKeys
import HandS.More
import HandS.Flt
import HandS.Conv
import KE.DatumOrd
import HandS.Property
import PySem.Challenge.RW_stylobate_k50_whole_skipped_groups_hold
set_option Elab.async false
set_option linter.all false
def PySem.W.Fast.tw1024712684340189252 : Nat := 0
def PySem.W.Fast.tw5072402346689999092 : Nat := 0
def PySem.W.Fast.tw8094538662176266548 : Nat := 0
def PySem.W.Fast.tw13788936967485373838 : Nat := 0
def PySem.W.Fast.tw4175117027773920373 : Nat := 0
def PySem.W.Fast.tw3400295702279802676 : Nat := 0
def PySem.W.Fast.tw9863431595572887184 : Nat := 0
def PySem.W.Fast.tw18204443968487398264 : Nat := 0
def PySem.W.Fast.tw17018498157769042217 : Nat := 0
def PySem.W.Fast.tw10957372157401337105 : Nat := 0
def PySem.W.Fast.tw5483182092634708788 : Nat := 0
def PySem.W.Fast.tw12086850836147398039 : Nat := 0
def PySem.W.Fast.tw7223475803948039793 : Nat := 0
def PySem.W.Fast.tw17081577312267997389 : Nat := 0
def PySem.W.Fast.tw14601253895603340437 : Nat := 0
def PySem.W.Fast.tw6994354080070675384 : Nat := 0
def PySem.W.Fast.tw10457162952747192620 : Nat := 0
set_option maxRecDepth 100000 in
set_option maxHeartbeats 0 in
open_top headZ for PySem.Challenge.rw_stylobate_k50_whole_skipped_groups_hold
set_option Elab.async false
set_option linter.all false
set_option maxRecDepth 100000
set_option maxHeartbeats 4000000
namespace Z
open PySem PySem.Spec PyProof.Rows L2
inductive D where
  | non | bl (b : Bool) | int (i : Int) | str (s : List Nat) | tup (l : List D) | lst (l : List D) | raw (v : V) | dic (ks : List (List Nat)) (vs : List D) | obj (c : Str) (fs : List Str) (ds : List D)
  deriving Inhabited
/-- a text as a dict's key -/
def kS (s : List Nat) : Key := .inr ⟨s.toArray⟩
mutual
inductive Dz (K : PySem.W.Frag) (H : Hp) : V → D → Prop
  | non : Dz K H .non .non
  | bl (b : Bool) : Dz K H (.bl b) (.bl b)
  | int (i : Int) : Dz K H (.int i) (.int i)
  | str (s : List Nat) : Dz K H (.str ⟨s.toArray⟩) (.str s)
  | tup {a : Addr} {xs : List V} {ds : List D} : SqT K H a xs → DzA K H xs ds → Dz K H (.ref a) (.tup ds)
  | lst {a : Addr} {xs : List V} {ds : List D} : SqL K H a xs → DzA K H xs ds → Dz K H (.ref a) (.lst ds)
  | raw (v : V) : Dz K H v (.raw v)
  | dic {a : Addr} {ks : List (List Nat)} {xs : List V} {ds : List D} : H a = some (.dK ((ks.map kS).zip xs)) → ks.length = xs.length → DzA K H xs ds → Dz K H (.ref a) (.dic ks ds)
  | obj {a C dx : Addr} {c : Str} {fs : List Str} {xs : List V} {ds : List D} : PySem.W.nsIn K mainGlobals c = some (some (.ref C)) → H a = some (.ins C dx (fs.zip xs)) → fs.length = xs.length → DzA K H xs ds → Dz K H (.ref a) (.obj c fs ds)
inductive DzA (K : PySem.W.Frag) (H : Hp) : List V → List D → Prop
  | nil : DzA K H [] []
  | cons {v : V} {vs : List V} {d : D} {ds : List D} : Dz K H v d → DzA K H vs ds → DzA K H (v :: vs) (d :: ds)
end
theorem sameT {K : PySem.W.Frag} {H H' : Hp} {a : Addr} {xs : List V} (e : Same H H') (h : SqT K H a xs) : SqT K H' a xs := by
  rcases h with (h | ⟨o, h⟩) | h
  · exact .inl (.inl (e _ _ h))
  · exact .inl (.inr ⟨o, e _ _ h⟩)
  · exact .inr h
section
variable {K : PySem.W.Frag} {H H' : Hp}
mutual
theorem Dz.mono (e : Same H H') : ∀ {v : V} {d : D}, Dz K H v d → Dz K H' v d
  | _, _, .non => .non
  | _, _, .bl b => .bl b
  | _, _, .int i => .int i
  | _, _, .str s => .str s
  | _, _, .tup s a => .tup (sameT e s) (DzA.mono e a)
  | _, _, .lst s a => .lst (e.seq s) (DzA.mono e a)
  | _, _, .raw v => .raw v
  | _, _, .dic s n a => .dic (e _ _ s) n (DzA.mono e a)
  | _, _, .obj k s n a => .obj k (e _ _ s) n (DzA.mono e a)
theorem DzA.mono (e : Same H H') : ∀ {vs : List V} {ds : List D}, DzA K H vs ds → DzA K H' vs ds
  | _, _, .nil => .nil
  | _, _, .cons h t => .cons (Dz.mono e h) (DzA.mono e t)
end
theorem DzA.length : ∀ {vs : List V} {ds : List D}, DzA K H vs ds → vs.length = ds.length
  | _, _, .nil => rfl
  | _, _, .cons _ t => by rw [List.length_cons, List.length_cons, DzA.length t]
theorem DzA.get : ∀ {vs : List V} {ds : List D} {i : Nat} {d : D}, DzA K H vs ds → ds[i]? = some d → ∃ v, vs[i]? = some v ∧ Dz K H v d
  | _, _, _, _, .nil, e => by simp at e
  | _, _, 0, _, .cons h _, e => by simp at e; subst e; exact ⟨_, rfl, h⟩
  | _, _, i + 1, d, .cons _ t, e => by
    obtain ⟨v, h1, h2⟩ := DzA.get (i := i) t (by simpa using e)
    exact ⟨v, by simpa using h1, h2⟩
theorem DzA.getV : ∀ {vs : List V} {ds : List D} {i : Nat} {v : V}, DzA K H vs ds → vs[i]? = some v → ∃ d, ds[i]? = some d ∧ Dz K H v d
  | _, _, _, _, .nil, e => by simp at e
  | _, _, 0, _, .cons h _, e => by simp at e; subst e; exact ⟨_, rfl, h⟩
  | _, _, i + 1, d, .cons _ t, e => by
    obtain ⟨v, h1, h2⟩ := DzA.getV (i := i) t (by simpa using e)
    exact ⟨v, by simpa using h1, h2⟩
theorem DzA.append : ∀ {vs ws : List V} {ds es : List D}, DzA K H vs ds → DzA K H ws es → DzA K H (vs ++ ws) (ds ++ es)
  | _, _, _, _, .nil, s => s
  | _, _, _, _, .cons h t, s => .cons h (DzA.append t s)
theorem DzA.take : ∀ {vs : List V} {ds : List D} (n : Nat), DzA K H vs ds → DzA K H (vs.take n) (ds.take n)
  | _, _, 0, _ => .nil
  | _, _, _ + 1, .nil => .nil
  | _, _, n + 1, .cons h t => .cons h (DzA.take n t)
theorem DzA.drop : ∀ {vs : List V} {ds : List D} (n : Nat), DzA K H vs ds → DzA K H (vs.drop n) (ds.drop n)
  | _, _, 0, r => r
  | _, _, _ + 1, .nil => .nil
  | _, _, n + 1, .cons _ t => DzA.drop n t
theorem DzA.set {v : V} {d : D} (r : Dz K H v d) : ∀ {vs : List V} {ds : List D} (i : Nat), DzA K H vs ds → DzA K H (vs.set i v) (ds.set i d)
  | _, _, _, .nil => .nil
  | _, _, 0, .cons _ t => .cons r t
  | _, _, i + 1, .cons q t => .cons q (DzA.set r i t)
end
/-- no reference within: true in any heap -/
def D.scal : D → Bool
  | .non => true | .bl _ => true | .int _ => true | .str _ => true | .raw _ => true
  | _ => false
theorem Dz.any {K : PySem.W.Frag} {H H' : Hp} {v : V} {d : D} (s : d.scal = true) (h : Dz K H v d) : Dz K H' v d := by
  cases h with
  | non => exact .non
  | bl b => exact .bl b
  | int i => exact .int i
  | str z => exact .str z
  | raw v => exact .raw v
  | dic _ _ _ => exact absurd s (by simp [D.scal])
  | obj _ _ _ _ => exact absurd s (by simp [D.scal])
  | tup _ _ => exact absurd s (by simp [D.scal])
  | lst _ _ => exact absurd s (by simp [D.scal])
theorem DzA.any {K : PySem.W.Frag} {H H' : Hp} : ∀ {vs : List V} {ds : List D}, ds.all D.scal = true → DzA K H vs ds → DzA K H' vs ds
  | _, _, _, .nil => .nil
  | _, _, s, .cons h t => by
    rw [List.all_cons, Bool.and_eq_true] at s
    exact .cons (h.any s.1) (DzA.any s.2 t)
/-- what a container of the def's own holds -/
inductive Cn where
  | lst (l : List D)
  deriving Inhabited
def CnOk (K : PySem.W.Frag) (Hs : Hp) : Cn → HO → Prop
  | .lst ds, .lst vs => DzA K Hs vs ds
  | _, _ => False
def Cn.d : Cn → D
  | .lst l => .lst l
def Cn.scal : Cn → Bool
  | .lst l => l.all D.scal
theorem CnOk.mono {K : PySem.W.Frag} {H H' : Hp} (e : Same H H') {c : Cn} {o : HO} (h : CnOk K H c o) : CnOk K H' c o := by
  cases c with
  | lst l =>
    cases o with
    | lst vs => exact DzA.mono e (show DzA K H vs l from h)
    | _ => exact (show False from h).elim
theorem CnOk.any {K : PySem.W.Frag} {H H' : Hp} {c : Cn} {o : HO} (s : c.scal = true) (h : CnOk K H c o) : CnOk K H' c o := by
  cases c with
  | lst l =>
    cases o with
    | lst vs => exact DzA.any s (show DzA K H vs l from h)
    | _ => exact (show False from h).elim
theorem CnOk.dz {K : PySem.W.Frag} {H : Hp} {c : Cn} {o : HO} {a : Addr} (h : CnOk K H c o) (e : H a = some o) : Dz K H (.ref a) c.d := by
  cases c with
  | lst l =>
    cases o with
    | lst vs => exact .lst (SqL.of e) (show DzA K H vs l from h)
    | _ => exact (show False from h).elim
/-- a slot: nothing known; data; a container of the def's own (pin: a parameter's; lock: walked now); a container that is data from now on -/
inductive Sl where
  | un | dat (d : D) | own (c : Cn) (pin lock : Bool) | frz (d : D) | rws (l : List (List D))
  deriving Inhabited
/-- an expression's value: data, or the container at a slot -/
inductive R where
  | dat (d : D) | bor (j : Nat)
  deriving Inhabited
/-- of a def: its names' number, the heap and the known heap at the entry, its parameters that it may change -/
structure Ct where
  K : PySem.W.Frag
  n : Nat
  H0 : Hp
  Hs0 : Hp
  pins : List (Nat × Addr)
  locks : List (Nat × Addr × Cn)
  plt : ∀ q ∈ pins, q.1 < n
  llt : ∀ q ∈ locks, q.1 < n
def kidsOf : Option HO → List Addr
  | some (.lst vs) => vs.filterMap fun v => match v with
    | .ref b => some b
    | _ => none
  | _ => []
theorem kidsOf_refs (ks : List Addr) : kidsOf (some (.lst (ks.map V.ref))) = ks := by
  show (ks.map V.ref).filterMap _ = ks
  induction ks with
  | nil => rfl
  | cons k ks ih => rw [List.map_cons, List.filterMap_cons]; simp only; rw [ih]
def KdOk (K : PySem.W.Frag) (Hs H : Hp) : List Addr → List (List D) → Prop
  | [], [] => True
  | b :: bs, l :: ls => (∃ us, H b = some (.lst us) ∧ DzA K Hs us l) ∧ KdOk K Hs H bs ls
  | _, _ => False
theorem KdOk.live {K : PySem.W.Frag} {Hs H : Hp} : ∀ {ks : List Addr} {ls : List (List D)}, KdOk K Hs H ks ls → ∀ x ∈ ks, ∃ o, H x = some o
  | [], [], _, _, m => (List.not_mem_nil m).elim
  | b :: bs, l :: ls, h, x, m => by
    rcases List.mem_cons.mp m with rfl | m
    · obtain ⟨us, e, _⟩ := h.1
      exact ⟨_, e⟩
    · exact KdOk.live h.2 x m
  | [], _ :: _, h, _, _ => h.elim
  | _ :: _, [], h, _, _ => h.elim
theorem KdOk.move {K : PySem.W.Frag} {Hs Hs' H H' : Hp} (s : Same Hs Hs') : ∀ {ks : List Addr} {ls : List (List D)}, KdOk K Hs H ks ls → (∀ x ∈ ks, ∀ o, H x = some o → H' x = some o) → KdOk K Hs' H' ks ls
  | [], [], _, _ => trivial
  | b :: bs, l :: ls, h, m => by
    obtain ⟨us, e, z⟩ := h.1
    exact ⟨⟨us, m b List.mem_cons_self _ e, z.mono s⟩, KdOk.move s h.2 fun x hx => m x (List.mem_cons_of_mem _ hx)⟩
  | [], _ :: _, h, _ => h.elim
  | _ :: _, [], h, _ => h.elim
theorem KdOk.len {K : PySem.W.Frag} {Hs H : Hp} : ∀ {ks : List Addr} {ls : List (List D)}, KdOk K Hs H ks ls → ks.length = ls.length
  | [], [], _ => rfl
  | _ :: _, _ :: _, h => by rw [List.length_cons, List.length_cons, KdOk.len h.2]
  | [], _ :: _, h => h.elim
  | _ :: _, [], h => h.elim
/-- as data -/
theorem KdOk.dz {K : PySem.W.Frag} {Hs H : Hp} (s : Same Hs H) : ∀ {ks : List Addr} {ls : List (List D)}, KdOk K Hs H ks ls → DzA K H (ks.map V.ref) (ls.map D.lst)
  | [], [], _ => .nil
  | b :: bs, l :: ls, h => by
    obtain ⟨us, e, z⟩ := h.1
    exact .cons (.lst (SqL.of e) (z.mono s)) (KdOk.dz s h.2)
  | [], _ :: _, h => h.elim
  | _ :: _, [], h => h.elim
structure Kd (K : PySem.W.Frag) (Hs H0 H : Hp) (a : Addr) (ks : List Addr) (ls : List (List D)) : Prop where
  hd : H a = some (.lst (ks.map V.ref))
  nd : (a :: ks).Nodup
  fr : ∀ x ∈ a :: ks, Hs x = none ∧ H0 x = none
  kd : KdOk K Hs H ks ls
theorem Kd.live {K : PySem.W.Frag} {Hs H0 H : Hp} {a : Addr} {ks : List Addr} {ls : List (List D)} (k : Kd K Hs H0 H a ks ls) : ∀ x ∈ a :: ks, ∃ o, H x = some o := fun x m => by
  rcases List.mem_cons.mp m with rfl | m
  · exact ⟨_, k.hd⟩
  · exact k.kd.live x m
def RwOk (C : Ct) (Hs : Hp) (A : List Addr) (g : List Sl) (σ : L2.St) (H : Hp) : Prop := ∀ (i : Nat) (ls : List (List D)), g[i]? = some (.rws ls) → ∃ a ks, A[i]? = some a ∧ (i < C.n → σ[i]? = some (some (.ref a))) ∧ Kd C.K Hs C.H0 H a ks ls ∧
  (∀ (j : Nat) (c : Cn) (p l : Bool) (b : Addr), g[j]? = some (.own c p l) → A[j]? = some b → b ∉ a :: ks) ∧
  (∀ (j : Nat) (ms : List (List D)) (b x : Addr), g[j]? = some (.rws ms) → A[j]? = some b → x ∈ b :: kidsOf (H b) → x ∈ a :: ks → j = i)
theorem RwOk.step {C C' : Ct} {Hs Hs' : Hp} {A A' : List Addr} {g g' : List Sl} {σ σ' : L2.St} {H H' : Hp} (w : RwOk C Hs A g σ H) (hK : C'.K = C.K) (hn : C'.n = C.n) (s : Same Hs Hs')
    (hx : ∀ x o, H x = some o → Hs x = none → C.H0 x = none → (∀ (j : Nat) (c : Cn) (p l : Bool), g[j]? = some (.own c p l) → A[j]? ≠ some x) → H' x = some o ∧ Hs' x = none ∧ C'.H0 x = none)
    (hg : ∀ (i : Nat) (ls : List (List D)), g'[i]? = some (.rws ls) → g[i]? = some (.rws ls) ∧ A'[i]? = A[i]? ∧ (i < C.n → σ'[i]? = σ[i]?))
    (ho : ∀ (j : Nat) (c : Cn) (p l : Bool) (b : Addr), g'[j]? = some (.own c p l) → A'[j]? = some b → (∃ (k : Nat) (c : Cn) (p l : Bool), g[k]? = some (.own c p l) ∧ A[k]? = some b) ∨ H b = none) : RwOk C' Hs' A' g' σ' H' := by
  have good : ∀ (i : Nat) (ls : List (List D)), g[i]? = some (.rws ls) → ∀ a ks, Kd C.K Hs C.H0 H a ks ls → (∀ (j : Nat) (c : Cn) (p l : Bool) (b : Addr), g[j]? = some (.own c p l) → A[j]? = some b → b ∉ a :: ks) → ∀ x ∈ a :: ks, ∀ o, H x = some o → H' x = some o ∧ Hs' x = none ∧ C'.H0 x = none := fun i ls e a ks k no x m o ex =>
    hx x o ex (k.fr x m).1 (k.fr x m).2 fun j c p l hj z => no j c p l x hj z m
  intro i ls e
  obtain ⟨e1, eA, eσ⟩ := hg i ls e
  obtain ⟨a, ks, q1, q2, q3, q4, q5⟩ := w i ls e1
  have gd := good i ls e1 a ks q3 q4
  refine ⟨a, ks, eA.trans q1, fun h => by rw [eσ (hn ▸ h)]; exact q2 (hn ▸ h), ⟨(gd a List.mem_cons_self _ q3.hd).1, q3.nd, fun x m => ?_, ?_⟩, fun j c p l b ej ab m => ?_, fun j ms b x ej ab m1 m2 => ?_⟩
  · obtain ⟨o, ho⟩ := q3.live x m
    exact (gd x m o ho).2
  · rw [hK]
    exact q3.kd.move s fun x m o h => (gd x (List.mem_cons_of_mem _ m) o h).1
  · rcases ho j c p l b ej ab with ⟨k, c', p', l', z1, z2⟩ | z
    · exact q4 k c' p' l' b z1 z2 m
    · obtain ⟨o, h⟩ := q3.live b m
      rw [z] at h; cases h
  · obtain ⟨f1, fA, _⟩ := hg j ms ej
    obtain ⟨b', ks', r1, _, r3, r4, _⟩ := w j ms f1
    rw [fA] at ab
    rw [ab] at r1
    have eb : b = b' := Option.some.inj r1
    subst eb
    rw [(good j ms f1 b ks' r3 r4 b List.mem_cons_self _ r3.hd).1, ← r3.hd] at m1
    exact q5 j ms b x f1 ab m1 m2
structure Ok (C : Ct) (Hs : Hp) (A : List Addr) (g : List Sl) (σ : L2.St) (H : Hp) : Prop where
  ln : σ.length = C.n
  lg : C.n ≤ g.length
  la : A.length = g.length
  base : Same C.Hs0 Hs
  same : Same Hs H
  dat : ∀ (i : Nat) (d : D), g[i]? = some (.dat d) → ∃ v, σ[i]? = some (some v) ∧ Dz C.K Hs v d
  frz : ∀ (i : Nat) (d : D), g[i]? = some (.frz d) → ∃ a, A[i]? = some a ∧ (i < C.n → σ[i]? = some (some (.ref a))) ∧ Dz C.K Hs (.ref a) d
  own : ∀ (i : Nat) (c : Cn) (p l : Bool), g[i]? = some (.own c p l) → ∃ a o, A[i]? = some a ∧ (i < C.n → σ[i]? = some (some (.ref a))) ∧ Hs a = none ∧ H a = some o ∧ CnOk C.K Hs c o ∧ (p = false → C.H0 a = none)
  inj : ∀ (i j : Nat) (c : Cn) (p l : Bool) (c' : Cn) (p' l' : Bool) (a : Addr), g[i]? = some (.own c p l) → g[j]? = some (.own c' p' l') → A[i]? = some a → A[j]? = some a → i = j
  grow : ∀ b o, Hs b = some o → C.Hs0 b = some o ∨ C.H0 b = none
  keep : ∀ b o, C.H0 b = some o → (∀ q ∈ C.pins, q.2 ≠ b) → H b = some o
  pinned : ∀ q ∈ C.pins, ∃ c l, g[q.1]? = some (.own c true l) ∧ A[q.1]? = some q.2
  pin1 : ∀ (i : Nat) (c : Cn) (l : Bool) (a : Addr), g[i]? = some (.own c true l) → A[i]? = some a → (i, a) ∈ C.pins
  locked : ∀ q ∈ C.locks, ∃ p, g[q.1]? = some (.own q.2.2 p true) ∧ A[q.1]? = some q.2.1
  rws : RwOk C Hs A g σ H
def RelR (K : PySem.W.Frag) (Hs : Hp) (A : List Addr) (v : V) : R → Prop
  | .dat d => Dz K Hs v d
  | .bor j => ∃ a, A[j]? = some a ∧ v = .ref a
def Pre (A A' : List Addr) : Prop := ∀ (j : Nat) (a : Addr), A[j]? = some a → A'[j]? = some a
theorem Pre.refl (A : List Addr) : Pre A A := fun _ _ h => h
theorem Pre.trans {A B C : List Addr} (a : Pre A B) (b : Pre B C) : Pre A C := fun j x h => b j x (a j x h)
theorem Pre.app (A B : List Addr) : Pre A (A ++ B) := fun j a h => by
  have hj := (List.getElem?_eq_some_iff.mp h).1
  rw [List.getElem?_append_left hj]
  exact h
theorem RelR.mono {K : PySem.W.Frag} {Hs Hs' : Hp} {A A' : List Addr} {v : V} {r : R} (s : Same Hs Hs') (p : Pre A A') (h : RelR K Hs A v r) : RelR K Hs' A' v r := by
  cases r with
  | dat d => exact Dz.mono s (show Dz K Hs v d from h)
  | bor j =>
    obtain ⟨a, h1, h2⟩ := (show ∃ a, A[j]? = some a ∧ v = .ref a from h)
    exact ⟨a, p j a h1, h2⟩
/-- what a value is as data -/
def rd (g : List Sl) : R → Option D
  | .dat d => some d
  | .bor j => match g[j]? with
    | some (.own c _ _) => some c.d
    | some (.frz d) => some d
    | _ => none
/-- .. of a list of own lists too (what is known of the present heap only) -/
def rdX (g : List Sl) : R → Option D
  | .dat d => some d
  | .bor j => match g[j]? with
    | some (.own c _ _) => some c.d
    | some (.frz d) => some d
    | some (.rws ls) => some (.lst (ls.map D.lst))
    | _ => none
section
variable {C : Ct} {Hs : Hp} {A : List Addr} {g : List Sl} {σ : L2.St} {H : Hp}
theorem Ok.rd (ok : Ok C Hs A g σ H) {v : V} {r : R} {d : D} (h : RelR C.K Hs A v r) (e : Z.rd g r = some d) : Dz C.K H v d := by
  cases r with
  | dat d' =>
    have e' : d' = d := Option.some.inj e
    subst e'
    exact Dz.mono ok.same (show Dz C.K Hs v d' from h)
  | bor j =>
    obtain ⟨a, h1, rfl⟩ := (show ∃ a, A[j]? = some a ∧ v = .ref a from h)
    have e : (match g[j]? with
      | some (.own c _ _) => some c.d
      | some (.frz d) => some d
      | _ => none) = some d := e
    split at e
    · rename_i c p l hg
      obtain ⟨a', o, ha, _, _, ho, hc, _⟩ := ok.own j c p l hg
      rw [h1] at ha
      have e1 : a = a' := Option.some.inj ha
      subst e1
      have e2 : c.d = d := Option.some.inj e
      subst e2
      exact (hc.mono ok.same).dz ho
    · rename_i d' hg
      obtain ⟨a', ha, _, hd⟩ := ok.frz j d' hg
      rw [h1] at ha
      have e1 : a = a' := Option.some.inj ha
      subst e1
      have e2 : d' = d := Option.some.inj e
      subst e2
      exact hd.mono ok.same
    · cases e
theorem Ok.rdX (ok : Ok C Hs A g σ H) {v : V} {r : R} {d : D} (h : RelR C.K Hs A v r) (e : Z.rdX g r = some d) : Dz C.K H v d := by
  cases r with
  | dat d' => exact ok.rd h e
  | bor j =>
    have e0 : (match g[j]? with
      | some (.own c _ _) => some c.d
      | some (.frz d) => some d
      | some (.rws ls) => some (.lst (ls.map D.lst))
      | _ => none) = some d := e
    split at e0
    · rename_i c p l hg
      exact ok.rd h (by show (match g[j]? with | some (.own c _ _) => some c.d | some (.frz d) => some d | _ => none) = some d; rw [hg]; exact e0)
    · rename_i d' hg
      exact ok.rd h (by show (match g[j]? with | some (.own c _ _) => some c.d | some (.frz d) => some d | _ => none) = some d; rw [hg]; exact e0)
    · rename_i ls hg
      obtain ⟨a, h1, rfl⟩ := (show ∃ a, A[j]? = some a ∧ v = .ref a from h)
      obtain ⟨a', ks, ha, _, hk, _⟩ := ok.rws j ls hg
      rw [h1] at ha
      have e1 : a = a' := Option.some.inj ha
      subst e1
      have e2 : D.lst (ls.map D.lst) = d := Option.some.inj e0
      subst e2
      exact .lst (SqL.of hk.hd) (hk.kd.dz ok.same)
    · cases e0
theorem Ok.fresh0 (ok : Ok C Hs A g σ H) {a : Addr} (h : H a = none) : Hs a = none ∧ C.H0 a = none := by
  constructor
  · cases q : Hs a with
    | none => rfl
    | some o => rw [ok.same a o q] at h; cases h
  · cases q : C.H0 a with
    | none => rfl
    | some o =>
      have : H a = some o := by
        refine ok.keep a o q fun p hp e => ?_
        obtain ⟨c, l, h1, h2⟩ := ok.pinned p hp
        obtain ⟨a', o', ha, _, _, ho, _⟩ := ok.own _ _ _ _ h1
        rw [h2] at ha
        have e1 : p.2 = a' := Option.some.inj ha
        rw [← e1, e] at ho
        rw [ho] at h; cases h
      rw [this] at h; cases h
/-- a new container, held aside -/
theorem Ok.tmp (ok : Ok C Hs A g σ H) {a : Addr} {o : HO} {c : Cn} (h : H a = none) (hc : CnOk C.K Hs c o) : Ok C Hs (A ++ [a]) (g ++ [.own c false false]) σ (upd H a o) := by
  obtain ⟨f1, f2⟩ := ok.fresh0 h
  have old : ∀ (i : Nat) (s : Sl), (g ++ [Sl.own c false false])[i]? = some s → g[i]? = some s ∨ (i = g.length ∧ s = .own c false false) := fun i s e => by
    by_cases hi : i < g.length
    · rw [List.getElem?_append_left hi] at e; exact .inl e
    · rw [List.getElem?_append_right (by omega)] at e
      have : i - g.length = 0 := by
        have := (List.getElem?_eq_some_iff.mp e).1
        simp at this; omega
      rw [this] at e
      exact .inr ⟨by omega, (Option.some.inj e).symm⟩
  have neA : ∀ (i : Nat) (c' : Cn) (p l : Bool) (a' : Addr), g[i]? = some (.own c' p l) → A[i]? = some a' → a' ≠ a := fun i c' p l a' e ha z => by
    obtain ⟨a2, o2, ha2, _, _, ho, _⟩ := ok.own i c' p l e
    rw [ha] at ha2
    have := Option.some.inj ha2
    rw [← this, z, h] at ho; cases ho
  have pre := Pre.app A [a]
  have last : (A ++ [a])[g.length]? = some a := by rw [← ok.la]; simp
  have alt : ∀ (i : Nat), i < g.length → (A ++ [a])[i]? = A[i]? := fun i hi => List.getElem?_append_left (by rw [ok.la]; exact hi)
  refine ⟨ok.ln, by rw [List.length_append]; have := ok.lg; omega, by simp [ok.la], ok.base, fun b o' e => ?_, fun i d e => ?_, fun i d e => ?_, fun i c' p l e => ?_, fun i j c1 p1 l1 c2 p2 l2 a' e1 e2 h1 h2 => ?_, ok.grow, fun b o' e k => ?_, fun q hq => ?_, fun i c' l a' e ha => ?_, fun q hq => ?_, ?_⟩
  · rw [upd_ne (fun z => by rw [z, f1] at e; cases e)]
    exact ok.same b o' e
  · rcases old i _ e with e | ⟨_, e⟩
    · exact ok.dat i d e
    · cases e
  · rcases old i _ e with e | ⟨_, e⟩
    · obtain ⟨a', q1, q2, q3⟩ := ok.frz i d e
      exact ⟨a', pre _ _ q1, q2, q3⟩
    · cases e
  · rcases old i _ e with e | ⟨ei, e⟩
    · obtain ⟨a', o', q1, q2, q3, q4, q5, q6⟩ := ok.own i c' p l e
      exact ⟨a', o', pre _ _ q1, q2, q3, by rw [upd_ne (neA _ _ _ _ _ e q1)]; exact q4, q5, q6⟩
    · cases e
      subst ei
      exact ⟨a, o, last, fun hi => absurd hi (by have := ok.lg; omega), f1, upd_same, hc, fun _ => f2⟩
  · rcases old i _ e1 with e1 | ⟨ei, e1⟩ <;> rcases old j _ e2 with e2 | ⟨ej, e2⟩
    · have hi := (List.getElem?_eq_some_iff.mp e1).1
      have hj := (List.getElem?_eq_some_iff.mp e2).1
      rw [alt i hi] at h1
      rw [alt j hj] at h2
      exact ok.inj i j _ _ _ _ _ _ a' e1 e2 h1 h2
    · have hi := (List.getElem?_eq_some_iff.mp e1).1
      rw [alt i hi] at h1
      subst ej
      rw [last] at h2
      exact absurd (Option.some.inj h2).symm (neA _ _ _ _ _ e1 h1)
    · have hj := (List.getElem?_eq_some_iff.mp e2).1
      rw [alt j hj] at h2
      subst ei
      rw [last] at h1
      exact absurd (Option.some.inj h1).symm (neA _ _ _ _ _ e2 h2)
    · omega
  · rw [upd_ne (fun z => by rw [z, f2] at e; cases e)]
    exact ok.keep b o' e k
  · obtain ⟨c', l, h1, h2⟩ := ok.pinned q hq
    have hi := (List.getElem?_eq_some_iff.mp h1).1
    exact ⟨c', l, by rw [List.getElem?_append_left hi]; exact h1, pre _ _ h2⟩
  · rcases old i _ e with e | ⟨ei, e⟩
    · have hi := (List.getElem?_eq_some_iff.mp e).1
      rw [alt i hi] at ha
      exact ok.pin1 i c' l a' e ha
    · cases e
  · obtain ⟨p, h1, h2⟩ := ok.locked q hq
    have hi := (List.getElem?_eq_some_iff.mp h1).1
    exact ⟨p, by rw [List.getElem?_append_left hi]; exact h1, pre _ _ h2⟩
  · refine RwOk.step ok.rws rfl rfl (Same.refl _) (fun x u ex n1 n2 _ => ⟨by rw [upd_ne (fun z => by rw [z, h] at ex; cases ex)]; exact ex, n1, n2⟩) (fun i ls e => ?_) (fun i c' p l b e hb => ?_)
    · rcases old i _ e with e | ⟨_, e⟩
      · exact ⟨e, alt i (List.getElem?_eq_some_iff.mp e).1, fun _ => rfl⟩
      · cases e
    · rcases old i _ e with e | ⟨ei, e⟩
      · rw [alt i (List.getElem?_eq_some_iff.mp e).1] at hb
        exact .inl ⟨i, c', p, l, e, hb⟩
      · subst ei
        rw [last] at hb
        cases hb
        exact .inr h
/-- a new object that is data from now on -/
theorem Ok.lay (ok : Ok C Hs A g σ H) {a : Addr} {o : HO} (h : H a = none) : Ok C (upd Hs a o) A g σ (upd H a o) ∧ Same Hs (upd Hs a o) := by
  obtain ⟨f1, f2⟩ := ok.fresh0 h
  have sm : Same Hs (upd Hs a o) := fun b o' e => by
    rw [upd_ne (fun z => by rw [z, f1] at e; cases e)]
    exact e
  refine ⟨⟨ok.ln, ok.lg, ok.la, ok.base.trans sm, fun b o' e => ?_, fun i d e => ?_, fun i d e => ?_, fun i c' p l e => ?_, ok.inj, fun b o' e => ?_, fun b o' e k => ?_, ok.pinned, ok.pin1, ok.locked, ?_⟩, sm⟩
  · by_cases z : b = a
    · subst z
      rw [upd_same] at e ⊢
      exact e
    · rw [upd_ne z] at e ⊢
      exact ok.same b o' e
  · obtain ⟨v, q1, q2⟩ := ok.dat i d e
    exact ⟨v, q1, q2.mono sm⟩
  · obtain ⟨v, q1, q2, q3⟩ := ok.frz i d e
    exact ⟨v, q1, q2, q3.mono sm⟩
  · obtain ⟨a', o', q1, q2, q3, q4, q5, q6⟩ := ok.own i c' p l e
    have ne : a' ≠ a := fun z => by rw [z, h] at q4; cases q4
    exact ⟨a', o', q1, q2, by rw [upd_ne ne]; exact q3, by rw [upd_ne ne]; exact q4, q5.mono sm, q6⟩
  · by_cases z : b = a
    · subst z; exact .inr f2
    · rw [upd_ne z] at e; exact ok.grow b o' e
  · rw [upd_ne (fun z => by rw [z, f2] at e; cases e)]
    exact ok.keep b o' e k
  · refine RwOk.step ok.rws rfl rfl sm (fun x u ex n1 n2 _ => ?_) (fun i ls e => ⟨e, rfl, fun _ => rfl⟩) (fun i c' p l b e hb => .inl ⟨i, c', p, l, e, hb⟩)
    have ne : x ≠ a := fun z => by rw [z, h] at ex; cases ex
    exact ⟨by rw [upd_ne ne]; exact ex, by rw [upd_ne ne]; exact n1, n2⟩
/-- the heap grew by things that nobody knows -/
theorem Ok.more (ok : Ok C Hs A g σ H) {H' : Hp} (s : Same H H') : Ok C Hs A g σ H' :=
  ⟨ok.ln, ok.lg, ok.la, ok.base, ok.same.trans s, ok.dat, ok.frz, fun i c p l e => by
    obtain ⟨a, o, q1, q2, q3, q4, q5, q6⟩ := ok.own i c p l e
    exact ⟨a, o, q1, q2, q3, s _ _ q4, q5, q6⟩, ok.inj, ok.grow, fun b o e k => s _ _ (ok.keep b o e k), ok.pinned, ok.pin1, ok.locked,
    RwOk.step ok.rws rfl rfl (Same.refl _) (fun x u ex n1 n2 _ => ⟨s _ _ ex, n1, n2⟩) (fun i ls e => ⟨e, rfl, fun _ => rfl⟩) (fun i c' p l b e hb => .inl ⟨i, c', p, l, e, hb⟩)⟩
/-- .. and by known things -/
theorem Ok.moreS (ok : Ok C Hs A g σ H) {Hs' H' : Hp} (s : Same H H') (s1 : Same Hs Hs') (s2 : Same Hs' H') (gr : ∀ b o, Hs' b = some o → Hs b = some o ∨ H b = none) : Ok C Hs' A g σ H' := by
  refine ⟨ok.ln, ok.lg, ok.la, ok.base.trans s1, s2, fun i d e => ?_, fun i d e => ?_, fun i c p l e => ?_, ok.inj, fun b o e => ?_, fun b o e k => s _ _ (ok.keep b o e k), ok.pinned, ok.pin1, ok.locked, ?_⟩
  · obtain ⟨v, q1, q2⟩ := ok.dat i d e
    exact ⟨v, q1, q2.mono s1⟩
  · obtain ⟨v, q1, q2, q3⟩ := ok.frz i d e
    exact ⟨v, q1, q2, q3.mono s1⟩
  · obtain ⟨a, o, q1, q2, q3, q4, q5, q6⟩ := ok.own i c p l e
    refine ⟨a, o, q1, q2, ?_, s _ _ q4, q5.mono s1, q6⟩
    cases z : Hs' a with
    | none => rfl
    | some o' =>
      rcases gr a o' z with w | w
      · rw [q3] at w; cases w
      · rw [q4] at w; cases w
  · rcases gr b o e with w | w
    · exact ok.grow b o w
    · exact .inr (ok.fresh0 w).2
  · refine RwOk.step ok.rws rfl rfl s1 (fun x u ex n1 n2 _ => ⟨s _ _ ex, ?_, n2⟩) (fun i ls e => ⟨e, rfl, fun _ => rfl⟩) (fun i c' p l b e hb => .inl ⟨i, c', p, l, e, hb⟩)
    cases z : Hs' x with
    | none => rfl
    | some o' =>
      rcases gr x o' z with w | w
      · rw [n1] at w; cases w
      · rw [ex] at w; cases w
end
/-- the container at slot j becomes data -/
def frzAt (j : Nat) (g : List Sl) : Option (D × List Sl) := match g[j]? with
  | some (.own c false false) => some (c.d, g.set j (.frz c.d))
  | some (.frz d) => some (d, g)
  | some (.rws ls) => some (.lst (ls.map D.lst), g.set j (.frz (.lst (ls.map D.lst))))
  | _ => none
def frzR (r : R) (g : List Sl) : Option (D × List Sl) := match r with
  | .dat d => some (d, g)
  | .bor j => frzAt j g
section
variable {C : Ct} {Hs : Hp} {A : List Addr} {g g' : List Sl} {σ : L2.St} {H : Hp} {j : Nat} {d : D} {v : V} {r : R}
/-- slots are changed one by one: a helper -/
theorem set_some {α : Type} {g : List α} {i j : Nat} {s t : α} (e : (g.set j t)[i]? = some s) : (i = j ∧ s = t ∧ j < g.length) ∨ (i ≠ j ∧ g[i]? = some s) := by
  by_cases h : i = j
  · subst h
    by_cases hl : i < g.length
    · rw [List.getElem?_set_self hl] at e
      exact .inl ⟨rfl, (Option.some.inj e).symm, hl⟩
    · have := (List.getElem?_eq_some_iff.mp e).1
      rw [List.length_set] at this
      exact absurd this hl
  · rw [List.getElem?_set_ne (Ne.symm h)] at e
    exact .inr ⟨h, e⟩
theorem Ok.frzAt (ok : Ok C Hs A g σ H) (e : frzAt j g = some (d, g')) : ∃ Hs' a, Same Hs Hs' ∧ Ok C Hs' A g' σ H ∧ A[j]? = some a ∧ Dz C.K Hs' (.ref a) d := by
  unfold Z.frzAt at e
  split at e
  · rename_i c hg
    cases e
    obtain ⟨a, o, q1, q2, q3, q4, q5, q6⟩ := ok.own j c _ _ hg
    have sm : Same Hs (upd Hs a o) := fun b o' e => by
      rw [upd_ne (fun z => by rw [z, q3] at e; cases e)]
      exact e
    have dz : Dz C.K (upd Hs a o) (.ref a) c.d := (q5.mono sm).dz upd_same
    refine ⟨upd Hs a o, a, sm, ⟨ok.ln, by rw [List.length_set]; exact ok.lg, by rw [List.length_set]; exact ok.la, ok.base.trans sm, fun b o' e => ?_, fun i d e => ?_, fun i d e => ?_, fun i c' p l e => ?_, fun i k c1 p1 l1 c2 p2 l2 a' e1 e2 h1 h2 => ?_, fun b o' e => ?_, ok.keep, fun q hq => ?_, fun i c' l a' e ha => ?_, fun q hq => ?_, ?_⟩, q1, dz⟩
    · by_cases z : b = a
      · subst z
        rw [upd_same] at e; cases e; exact q4
      · rw [upd_ne z] at e
        exact ok.same b o' e
    · rcases set_some e with ⟨_, e, _⟩ | ⟨_, e⟩
      · cases e
      · obtain ⟨v, w1, w2⟩ := ok.dat i d e
        exact ⟨v, w1, w2.mono sm⟩
    · rcases set_some e with ⟨ei, e, _⟩ | ⟨_, e⟩
      · cases e
        subst ei
        exact ⟨a, q1, q2, dz⟩
      · obtain ⟨v, w1, w2, w3⟩ := ok.frz i d e
        exact ⟨v, w1, w2, w3.mono sm⟩
    · rcases set_some e with ⟨_, e, _⟩ | ⟨ne, e⟩
      · cases e
      · obtain ⟨a', o', w1, w2, w3, w4, w5, w6⟩ := ok.own i c' p l e
        have na : a' ≠ a := fun z => by
          subst z
          exact ne (ok.inj i j _ _ _ _ _ _ a' e hg w1 q1)
        exact ⟨a', o', w1, w2, by rw [upd_ne na]; exact w3, w4, w5.mono sm, w6⟩
    · rcases set_some e1 with ⟨_, e1, _⟩ | ⟨_, e1⟩
      · cases e1
      · rcases set_some e2 with ⟨_, e2, _⟩ | ⟨_, e2⟩
        · cases e2
        · exact ok.inj i k _ _ _ _ _ _ a' e1 e2 h1 h2
    · by_cases z : b = a
      · subst z; exact .inr (q6 rfl)
      · rw [upd_ne z] at e; exact ok.grow b o' e
    · obtain ⟨c', l, h1, h2⟩ := ok.pinned q hq
      refine ⟨c', l, ?_, h2⟩
      rw [List.getElem?_set_ne]
      · exact h1
      · intro z
        subst z
        rw [hg] at h1; cases h1
    · rcases set_some e with ⟨_, e, _⟩ | ⟨_, e⟩
      · cases e
      · exact ok.pin1 i c' l a' e ha
    · obtain ⟨p, h1, h2⟩ := ok.locked q hq
      refine ⟨p, ?_, h2⟩
      rw [List.getElem?_set_ne]
      · exact h1
      · intro z
        subst z
        rw [hg] at h1; cases h1
    · refine RwOk.step ok.rws rfl rfl sm (fun x u ex n1 n2 no => ⟨ex, ?_, n2⟩) (fun i ls e => ?_) (fun i c' p l b e hb => ?_)
      · rw [upd_ne (fun z => no j c _ _ hg (by rw [z]; exact q1))]; exact n1
      · rcases set_some e with ⟨_, e, _⟩ | ⟨_, e⟩
        · cases e
        · exact ⟨e, rfl, fun _ => rfl⟩
      · rcases set_some e with ⟨_, e, _⟩ | ⟨_, e⟩
        · cases e
        · exact .inl ⟨i, c', p, l, e, hb⟩
  · rename_i d' hg
    cases e
    obtain ⟨a, q1, q2, q3⟩ := ok.frz j d hg
    exact ⟨Hs, a, Same.refl _, ok, q1, q3⟩
  · rename_i ls hg
    cases e
    obtain ⟨a, ks, q1, q2, q3, q4, q5⟩ := ok.rws j ls hg
    have dec : ∀ x, Decidable (x ∈ a :: ks) := fun x => inferInstance
    have hin : ∀ x, x ∈ a :: ks → (fun b => if b ∈ a :: ks then H b else Hs b : Hp) x = H x := fun x m => if_pos m
    have hout : ∀ x, x ∉ a :: ks → (fun b => if b ∈ a :: ks then H b else Hs b : Hp) x = Hs x := fun x m => if_neg m
    generalize (fun b => if b ∈ a :: ks then H b else Hs b : Hp) = Hn at hin hout
    have sm : Same Hs Hn := fun b o' e => by
      by_cases m : b ∈ a :: ks
      · rw [(q3.fr b m).1] at e; cases e
      · rw [hout b m]; exact e
    have sn : Same Hn H := fun b o' e => by
      by_cases m : b ∈ a :: ks
      · rw [hin b m] at e; exact e
      · rw [hout b m] at e; exact ok.same b o' e
    have dz : Dz C.K Hn (.ref a) (.lst (ls.map D.lst)) := by
      refine .lst (SqL.of ((hin a List.mem_cons_self).trans q3.hd)) ?_
      have k2 : KdOk C.K Hn Hn ks ls := q3.kd.move sm fun x m o h => (hin x (List.mem_cons_of_mem _ m)).trans h
      exact k2.dz (Same.refl _)
    refine ⟨Hn, a, sm, ⟨ok.ln, by rw [List.length_set]; exact ok.lg, by rw [List.length_set]; exact ok.la, ok.base.trans sm, sn, fun i d e => ?_, fun i d e => ?_, fun i c' p l e => ?_, fun i k c1 p1 l1 c2 p2 l2 a' e1 e2 h1 h2 => ?_, fun b o' e => ?_, ok.keep, fun q hq => ?_, fun i c' l a' e ha => ?_, fun q hq => ?_, fun i ms e => ?_⟩, q1, dz⟩
    · rcases set_some e with ⟨_, e, _⟩ | ⟨_, e⟩
      · cases e
      · obtain ⟨v, w1, w2⟩ := ok.dat i d e
        exact ⟨v, w1, w2.mono sm⟩
    · rcases set_some e with ⟨ei, e, _⟩ | ⟨_, e⟩
      · cases e
        subst ei
        exact ⟨a, q1, q2, dz⟩
      · obtain ⟨v, w1, w2, w3⟩ := ok.frz i d e
        exact ⟨v, w1, w2, w3.mono sm⟩
    · rcases set_some e with ⟨_, e, _⟩ | ⟨ne, e⟩
      · cases e
      · obtain ⟨a', o', w1, w2, w3, w4, w5, w6⟩ := ok.own i c' p l e
        exact ⟨a', o', w1, w2, by rw [hout a' (q4 i c' p l a' e w1)]; exact w3, w4, w5.mono sm, w6⟩
    · rcases set_some e1 with ⟨_, e1, _⟩ | ⟨_, e1⟩
      · cases e1
      · rcases set_some e2 with ⟨_, e2, _⟩ | ⟨_, e2⟩
        · cases e2
        · exact ok.inj i k _ _ _ _ _ _ a' e1 e2 h1 h2
    · by_cases m : b ∈ a :: ks
      · exact .inr (q3.fr b m).2
      · rw [hout b m] at e; exact ok.grow b o' e
    · obtain ⟨c', l, h1, h2⟩ := ok.pinned q hq
      refine ⟨c', l, ?_, h2⟩
      rw [List.getElem?_set_ne]
      · exact h1
      · intro z
        subst z
        rw [hg] at h1; cases h1
    · rcases set_some e with ⟨_, e, _⟩ | ⟨_, e⟩
      · cases e
      · exact ok.pin1 i c' l a' e ha
    · obtain ⟨p, h1, h2⟩ := ok.locked q hq
      refine ⟨p, ?_, h2⟩
      rw [List.getElem?_set_ne]
      · exact h1
      · intro z
        subst z
        rw [hg] at h1; cases h1
    · rcases set_some e with ⟨_, e, _⟩ | ⟨ne, e⟩
      · cases e
      · obtain ⟨b, bs, r1, r2, r3, r4, r5⟩ := ok.rws i ms e
        refine ⟨b, bs, r1, r2, ⟨r3.hd, r3.nd, fun x m => ⟨?_, (r3.fr x m).2⟩, r3.kd.move sm fun _ _ _ h => h⟩, fun k c p l y ek => ?_, fun k ns y x ek => ?_⟩
        · rw [hout x (fun z => ne (q5 i ms b x e r1 (by rw [r3.hd, kidsOf_refs]; exact m) z))]
          exact (r3.fr x m).1
        · rcases set_some ek with ⟨_, ek, _⟩ | ⟨_, ek⟩
          · cases ek
          · exact r4 k c p l y ek
        · rcases set_some ek with ⟨_, ek, _⟩ | ⟨_, ek⟩
          · cases ek
          · exact r5 k ns y x ek
  · cases e
theorem Ok.frzR (ok : Ok C Hs A g σ H) (h : RelR C.K Hs A v r) (e : frzR r g = some (d, g')) : ∃ Hs', Same Hs Hs' ∧ Ok C Hs' A g' σ H ∧ Dz C.K Hs' v d := by
  cases r with
  | dat d' =>
    have e' : some (d', g) = some (d, g') := e
    cases e'
    exact ⟨Hs, Same.refl _, ok, h⟩
  | bor j =>
    obtain ⟨a, h1, rfl⟩ := (show ∃ a, A[j]? = some a ∧ v = .ref a from h)
    obtain ⟨Hs', a', s, ok', h2, dz⟩ := ok.frzAt e
    rw [h1] at h2
    have e1 : a = a' := Option.some.inj h2
    subst e1
    exact ⟨Hs', s, ok', dz⟩
/-- the slot j may be overwritten -/
def freeAt (j : Nat) (g : List Sl) : Bool := match g[j]? with
  | some (.own _ true _) => false
  | some (.own _ _ true) => false
  | some _ => true
  | none => false
def setDat (i : Nat) (d : D) (g : List Sl) : Option (List Sl) := if freeAt i g = true then some (g.set i (.dat d)) else none
theorem freeAt_lt (e : freeAt j g = true) : j < g.length := by
  unfold freeAt at e
  by_cases h : j < g.length
  · exact h
  · rw [List.getElem?_eq_none_iff.mpr (by omega)] at e
    cases e
theorem freeAt_pin (e : freeAt j g = true) {c : Cn} {l : Bool} (h : g[j]? = some (.own c true l)) : False := by
  unfold freeAt at e
  rw [h] at e
  cases e
theorem freeAt_lock (e : freeAt j g = true) {c : Cn} {p : Bool} (h : g[j]? = some (.own c p true)) : False := by
  unfold freeAt at e
  rw [h] at e
  cases p <;> cases e
/-- a slot forgotten, or filled with data; σ may change there -/
theorem Ok.put (ok : Ok C Hs A g σ H) {s : Sl} {σ' : L2.St} (hf : freeAt j g = true) (hl : σ'.length = σ.length) (hσ : ∀ (i : Nat), i ≠ j → σ'[i]? = σ[i]?) (hs : s = .un ∨ ∃ d v, s = .dat d ∧ σ'[j]? = some (some v) ∧ Dz C.K Hs v d) : Ok C Hs A (g.set j s) σ' H := by
  have no : ∀ {i : Nat} {c : Cn} {p l : Bool}, (g.set j s)[i]? = some (.own c p l) → i ≠ j ∧ g[i]? = some (.own c p l) := fun {i c p l} e => by
    rcases set_some e with ⟨_, e, _⟩ | ⟨ne, e⟩
    · rcases hs with z | ⟨_, _, z, _⟩ <;> rw [z] at e <;> cases e
    · exact ⟨ne, e⟩
  refine ⟨hl.trans ok.ln, by rw [List.length_set]; exact ok.lg, by rw [List.length_set]; exact ok.la, ok.base, ok.same, fun i d e => ?_, fun i d e => ?_, fun i c' p l e => ?_, fun i k c1 p1 l1 c2 p2 l2 a' e1 e2 h1 h2 => ok.inj i k _ _ _ _ _ _ a' (no e1).2 (no e2).2 h1 h2, ok.grow, ok.keep, fun q hq => ?_, fun i c' l a' e ha => ok.pin1 i c' l a' (no e).2 ha, fun q hq => ?_, ?_⟩
  · rcases set_some e with ⟨ei, e3, _⟩ | ⟨ne, e3⟩
    · subst ei
      rcases hs with z | ⟨d', v, z, w1, w2⟩
      · rw [z] at e3; cases e3
      · rw [z] at e3; cases e3; exact ⟨v, w1, w2⟩
    · rw [hσ i ne]; exact ok.dat i d e3
  · rcases set_some e with ⟨ei, e3, _⟩ | ⟨ne, e3⟩
    · rcases hs with z | ⟨d', v, z, w1, w2⟩ <;> rw [z] at e3 <;> cases e3
    · rw [hσ i ne]; exact ok.frz i d e3
  · obtain ⟨ne, e⟩ := no e
    rw [hσ i ne]; exact ok.own i c' p l e
  · obtain ⟨c', l, h1, h2⟩ := ok.pinned q hq
    refine ⟨c', l, ?_, h2⟩
    rw [List.getElem?_set_ne]
    · exact h1
    · intro z
      subst z
      exact freeAt_pin hf h1
  · obtain ⟨p, h1, h2⟩ := ok.locked q hq
    refine ⟨p, ?_, h2⟩
    rw [List.getElem?_set_ne]
    · exact h1
    · intro z
      subst z
      exact freeAt_lock hf h1
  · refine RwOk.step ok.rws rfl rfl (Same.refl _) (fun x u ex n1 n2 _ => ⟨ex, n1, n2⟩) (fun i ls e => ?_) (fun i c' p l b e hb => .inl ⟨i, c', p, l, (no e).2, hb⟩)
    rcases set_some e with ⟨_, e, _⟩ | ⟨ne, e⟩
    · rcases hs with z | ⟨_, _, z, _⟩ <;> rw [z] at e <;> cases e
    · exact ⟨e, rfl, fun _ => hσ i ne⟩
theorem Ok.set (ok : Ok C Hs A g σ H) (e : setDat j d g = some g') (hj : j < C.n) (h : Dz C.K Hs v d) : Ok C Hs A g' (σ.set j (some v)) H := by
  unfold setDat at e
  split at e
  · rename_i hf
    cases e
    refine ok.put hf (by rw [List.length_set]) (fun i ne => List.getElem?_set_ne (Ne.symm ne)) (.inr ⟨d, v, rfl, ?_, h⟩)
    exact List.getElem?_set_self (by rw [ok.ln]; exact hj)
  · cases e
/-- a container held aside becomes the slot's own -/
theorem Ok.move (ok : Ok C Hs A g σ H) {t : Nat} {c : Cn} {a : Addr} (hf : freeAt j g = true) (hj : j < C.n) (ht : C.n ≤ t) (e : g[t]? = some (.own c false false)) (ha : A[t]? = some a) :
    Ok C Hs (A.set j a) ((g.set j (.own c false false)).set t .un) (σ.set j (some (.ref a))) H := by
  have htl := (List.getElem?_eq_some_iff.mp e).1
  have hjl := freeAt_lt hf
  have jt : j ≠ t := by omega
  have oc : ∀ {i : Nat} {s : Sl}, ((g.set j (.own c false false)).set t .un)[i]? = some s → (i = t ∧ s = .un) ∨ (i = j ∧ s = .own c false false) ∨ (i ≠ t ∧ i ≠ j ∧ g[i]? = some s) := fun {i s} e => by
    rcases set_some e with ⟨ei, e, _⟩ | ⟨ne, e⟩
    · exact .inl ⟨ei, e⟩
    · rcases set_some e with ⟨ei, e, _⟩ | ⟨ne2, e⟩
      · exact .inr (.inl ⟨ei, e⟩)
      · exact .inr (.inr ⟨ne, ne2, e⟩)
  have A1 : (A.set j a)[j]? = some a := List.getElem?_set_self (by rw [ok.la]; exact hjl)
  have A2 : ∀ (i : Nat), i ≠ j → (A.set j a)[i]? = A[i]? := fun i ne => List.getElem?_set_ne (Ne.symm ne)
  have S2 : ∀ (i : Nat), i ≠ j → (σ.set j (some (V.ref a)))[i]? = σ[i]? := fun i ne => List.getElem?_set_ne (Ne.symm ne)
  obtain ⟨a0, o, q1, q2, q3, q4, q5, q6⟩ := ok.own t c _ _ e
  rw [ha] at q1
  have ea : a = a0 := Option.some.inj q1
  subst ea
  have neo : ∀ {i : Nat} {c' : Cn} {p l : Bool} {a' : Addr}, i ≠ t → g[i]? = some (.own c' p l) → A[i]? = some a' → a' ≠ a := fun {i c' p l a'} ne e' h z => by
    subst z
    exact ne (ok.inj i t _ _ _ _ _ _ a' e' e h ha)
  refine ⟨by rw [List.length_set]; exact ok.ln, by rw [List.length_set, List.length_set]; exact ok.lg, by rw [List.length_set, List.length_set, List.length_set]; exact ok.la, ok.base, ok.same, fun i d e => ?_, fun i d e => ?_, fun i c' p l e => ?_, fun i k c1 p1 l1 c2 p2 l2 a' e1' e2' h1 h2 => ?_, ok.grow, ok.keep, fun q hq => ?_, fun i c' l a' e ha => ?_, fun q hq => ?_, ?_⟩
  · rcases oc e with ⟨_, e⟩ | ⟨_, e⟩ | ⟨_, ne, e⟩
    · cases e
    · cases e
    · rw [S2 i ne]; exact ok.dat i d e
  · rcases oc e with ⟨_, e⟩ | ⟨_, e⟩ | ⟨_, ne, e⟩
    · cases e
    · cases e
    · rw [S2 i ne, A2 i ne]; exact ok.frz i d e
  · rcases oc e with ⟨_, e⟩ | ⟨ei, e⟩ | ⟨_, ne, e⟩
    · cases e
    · cases e
      subst ei
      exact ⟨a, o, A1, fun _ => List.getElem?_set_self (by rw [ok.ln]; exact hj), q3, q4, q5, fun _ => q6 rfl⟩
    · rw [S2 i ne, A2 i ne]; exact ok.own i c' p l e
  · rcases oc e1' with ⟨_, e1⟩ | ⟨ei, e1⟩ | ⟨nt, ne, e1⟩
    · cases e1
    · rcases oc e2' with ⟨_, e2⟩ | ⟨ek, e2⟩ | ⟨nt2, ne2, e2⟩
      · cases e2
      · omega
      · subst ei
        rw [A1] at h1
        rw [A2 k ne2] at h2
        exact absurd (Option.some.inj h1).symm (neo nt2 e2 h2)
    · rcases oc e2' with ⟨_, e2⟩ | ⟨ek, e2⟩ | ⟨nt2, ne2, e2⟩
      · cases e2
      · subst ek
        rw [A1] at h2
        rw [A2 i ne] at h1
        exact absurd (Option.some.inj h2).symm (neo nt e1 h1)
      · rw [A2 i ne] at h1
        rw [A2 k ne2] at h2
        exact ok.inj i k _ _ _ _ _ _ a' e1 e2 h1 h2
  · obtain ⟨c', l, h1, h2⟩ := ok.pinned q hq
    have n1 : q.1 ≠ j := fun z => by rw [z] at h1; exact freeAt_pin hf h1
    have n2 : q.1 ≠ t := fun z => by rw [z, e] at h1; cases h1
    refine ⟨c', l, ?_, by rw [A2 _ n1]; exact h2⟩
    rw [List.getElem?_set_ne (Ne.symm n2), List.getElem?_set_ne (Ne.symm n1)]
    exact h1
  · rcases oc e with ⟨_, e⟩ | ⟨ei, e⟩ | ⟨_, ne, e⟩
    · cases e
    · cases e
    · rw [A2 i ne] at ha
      exact ok.pin1 i c' l a' e ha
  · obtain ⟨p, h1, h2⟩ := ok.locked q hq
    have n1 : q.1 ≠ j := fun z => by rw [z] at h1; exact freeAt_lock hf h1
    have n2 : q.1 ≠ t := fun z => by rw [z, e] at h1; cases h1
    refine ⟨p, ?_, by rw [A2 _ n1]; exact h2⟩
    rw [List.getElem?_set_ne (Ne.symm n2), List.getElem?_set_ne (Ne.symm n1)]
    exact h1
  · refine RwOk.step ok.rws rfl rfl (Same.refl _) (fun x u ex n1 n2 _ => ⟨ex, n1, n2⟩) (fun i ls e => ?_) (fun i c' p l b e2 hb => ?_)
    · rcases oc e with ⟨_, e⟩ | ⟨_, e⟩ | ⟨_, ne, e⟩
      · cases e
      · cases e
      · exact ⟨e, A2 i ne, fun _ => S2 i ne⟩
    · rcases oc e2 with ⟨_, e2⟩ | ⟨ei, e2⟩ | ⟨_, ne, e2⟩
      · cases e2
      · subst ei
        rw [A1] at hb
        exact .inl ⟨t, _, _, _, e, ha.trans hb⟩
      · rw [A2 i ne] at hb
        exact .inl ⟨i, c', p, l, e2, hb⟩
/-- what was held aside is dropped -/
theorem Ok.cut (ok : Ok C Hs A g σ H) : Ok C Hs (A.take C.n) (g.take C.n) σ H := by
  have tk : ∀ {α : Type} {l : List α} {i : Nat} {s : α}, (l.take C.n)[i]? = some s → i < C.n ∧ l[i]? = some s := fun {α l i s} e => by
    by_cases h : i < C.n
    · rw [List.getElem?_take_of_lt h] at e; exact ⟨h, e⟩
    · have := (List.getElem?_eq_some_iff.mp e).1
      rw [List.length_take] at this; omega
  have kt : ∀ {α : Type} {l : List α} {i : Nat} {s : α}, i < C.n → l[i]? = some s → (l.take C.n)[i]? = some s := fun {α l i s} h e => by
    rw [List.getElem?_take_of_lt h]; exact e
  refine ⟨ok.ln, by rw [List.length_take]; have := ok.lg; omega, by rw [List.length_take, List.length_take, ok.la], ok.base, ok.same, fun i d e => ok.dat i d (tk e).2, fun i d e => ?_, fun i c' p l e => ?_, fun i k c1 p1 l1 c2 p2 l2 a' e1 e2 h1 h2 => ok.inj i k _ _ _ _ _ _ a' (tk e1).2 (tk e2).2 (tk h1).2 (tk h2).2, ok.grow, ok.keep, fun q hq => ?_, fun i c' l a' e ha => ok.pin1 i c' l a' (tk e).2 (tk ha).2, fun q hq => ?_, ?_⟩
  · obtain ⟨a, q1, q2⟩ := ok.frz i d (tk e).2
    exact ⟨a, kt (tk e).1 q1, q2⟩
  · obtain ⟨a, o, q1, q2⟩ := ok.own i c' p l (tk e).2
    exact ⟨a, o, kt (tk e).1 q1, q2⟩
  · obtain ⟨c', l, h1, h2⟩ := ok.pinned q hq
    exact ⟨c', l, kt (C.plt q hq) h1, kt (C.plt q hq) h2⟩
  · obtain ⟨p, h1, h2⟩ := ok.locked q hq
    exact ⟨p, kt (C.llt q hq) h1, kt (C.llt q hq) h2⟩
  · exact RwOk.step ok.rws rfl rfl (Same.refl _) (fun x u ex n1 n2 _ => ⟨ex, n1, n2⟩) (fun i ls e => ⟨(tk e).2, List.getElem?_take_of_lt (tk e).1, fun _ => rfl⟩) (fun i c' p l b e hb => .inl ⟨i, c', p, l, (tk e).2, (tk hb).2⟩)
/-- the container at j is written -/
theorem Ok.wr (ok : Ok C Hs A g σ H) {c c' : Cn} {p : Bool} {a : Addr} {o : HO} (e : g[j]? = some (.own c p false)) (ha : A[j]? = some a) (hc : CnOk C.K Hs c' o) : Ok C Hs A (g.set j (.own c' p false)) σ (upd H a o) := by
  obtain ⟨a0, o0, q1, q2, q3, q4, q5, q6⟩ := ok.own j c _ _ e
  rw [ha] at q1
  have ea : a = a0 := Option.some.inj q1
  subst ea
  have hj := (List.getElem?_eq_some_iff.mp e).1
  have oc : ∀ {i : Nat} {s : Sl}, (g.set j (.own c' p false))[i]? = some s → (i = j ∧ s = .own c' p false) ∨ (i ≠ j ∧ g[i]? = some s) := fun {i s} e => by
    rcases set_some e with ⟨ei, e, _⟩ | ⟨ne, e⟩
    · exact .inl ⟨ei, e⟩
    · exact .inr ⟨ne, e⟩
  have ow : ∀ {i : Nat} {c1 : Cn} {p1 l1 : Bool}, (g.set j (.own c' p false))[i]? = some (.own c1 p1 l1) → ∃ c2, g[i]? = some (.own c2 p1 l1) := fun {i c1 p1 l1} e' => by
    rcases oc e' with ⟨ei, e'⟩ | ⟨_, e'⟩
    · cases e'; subst ei; exact ⟨c, e⟩
    · exact ⟨c1, e'⟩
  refine ⟨ok.ln, by rw [List.length_set]; exact ok.lg, by rw [List.length_set]; exact ok.la, ok.base, fun b o' e => ?_, fun i d e => ?_, fun i d e => ?_, fun i c1 p1 l1 e1 => ?_, fun i k c1 p1 l1 c2 p2 l2 a' e1 e2 h1 h2 => ?_, ok.grow, fun b o' e2 k => ?_, fun q hq => ?_, fun i c1 l1 a' e1 ha' => ?_, fun q hq => ?_, ?_⟩
  · rw [upd_ne (fun z => by rw [z, q3] at e; cases e)]
    exact ok.same b o' e
  · rcases oc e with ⟨_, e⟩ | ⟨_, e⟩
    · cases e
    · exact ok.dat i d e
  · rcases oc e with ⟨_, e⟩ | ⟨_, e⟩
    · cases e
    · exact ok.frz i d e
  · rcases oc e1 with ⟨ei, e1⟩ | ⟨ne, e1⟩
    · cases e1
      subst ei
      exact ⟨a, o, ha, q2, q3, upd_same, hc, q6⟩
    · obtain ⟨a', o', w1, w2, w3, w4, w5, w6⟩ := ok.own i c1 p1 l1 e1
      have na : a' ≠ a := fun z => by
        subst z
        exact ne (ok.inj i j _ _ _ _ _ _ a' e1 e w1 ha)
      exact ⟨a', o', w1, w2, w3, by rw [upd_ne na]; exact w4, w5, w6⟩
  · obtain ⟨x, hx⟩ := ow e1
    obtain ⟨y, hy⟩ := ow e2
    exact ok.inj i k _ _ _ _ _ _ a' hx hy h1 h2
  · have nb : b ≠ a := fun z => by
      subst z
      cases p with
      | true => exact k _ (ok.pin1 j c false b e ha) rfl
      | false => rw [q6 rfl] at e2; cases e2
    rw [upd_ne nb]
    exact ok.keep b o' e2 k
  · obtain ⟨c1, l, h1, h2⟩ := ok.pinned q hq
    by_cases z : q.1 = j
    · rw [z, e] at h1
      cases h1
      exact ⟨c', false, by rw [z]; exact List.getElem?_set_self hj, h2⟩
    · exact ⟨c1, l, by rw [List.getElem?_set_ne (Ne.symm z)]; exact h1, h2⟩
  · rcases oc e1 with ⟨ei, e1⟩ | ⟨ne, e1⟩
    · cases e1
      subst ei
      exact ok.pin1 i c false a' e ha'
    · exact ok.pin1 i c1 l1 a' e1 ha'
  · obtain ⟨p', h1, h2⟩ := ok.locked q hq
    have n1 : q.1 ≠ j := fun z => by rw [z, e] at h1; cases h1
    exact ⟨p', by rw [List.getElem?_set_ne (Ne.symm n1)]; exact h1, h2⟩
  · refine RwOk.step ok.rws rfl rfl (Same.refl _) (fun x u ex n1 n2 no => ⟨by rw [upd_ne (fun z => no j c _ _ e (by rw [z]; exact ha))]; exact ex, n1, n2⟩) (fun i ls e => ?_) (fun i c1 p1 l1 b e1 hb => ?_)
    · rcases oc e with ⟨_, e⟩ | ⟨_, e⟩
      · cases e
      · exact ⟨e, rfl, fun _ => rfl⟩
    · obtain ⟨x, hx⟩ := ow e1
      exact .inl ⟨i, _, _, _, hx, hb⟩
/-- locked and unlocked: C' has other locks -/
theorem Ok.lk {C' : Ct} (ok : Ok C Hs A g σ H) {c : Cn} {p l l' : Bool} (e : g[j]? = some (.own c p l)) (hK : C'.K = C.K) (hn : C'.n = C.n) (h0 : C'.H0 = C.H0) (hs0 : C'.Hs0 = C.Hs0) (hp : C'.pins = C.pins)
    (hl : ∀ q ∈ C'.locks, (q.1 = j ∧ q.2.2 = c ∧ l' = true ∧ A[j]? = some q.2.1) ∨ (q.1 ≠ j ∧ q ∈ C.locks)) : Ok C' Hs A (g.set j (.own c p l')) σ H := by
  have hj := (List.getElem?_eq_some_iff.mp e).1
  have oc : ∀ {i : Nat} {s : Sl}, (g.set j (.own c p l'))[i]? = some s → (i = j ∧ s = .own c p l') ∨ (i ≠ j ∧ g[i]? = some s) := fun {i s} e => by
    rcases set_some e with ⟨ei, e, _⟩ | ⟨ne, e⟩
    · exact .inl ⟨ei, e⟩
    · exact .inr ⟨ne, e⟩
  have ow : ∀ {i : Nat} {c1 : Cn} {p1 l1 : Bool}, (g.set j (.own c p l'))[i]? = some (.own c1 p1 l1) → ∃ l2, g[i]? = some (.own c1 p1 l2) := fun {i c1 p1 l1} e' => by
    rcases oc e' with ⟨ei, e'⟩ | ⟨_, e'⟩
    · cases e'; subst ei; exact ⟨l, e⟩
    · exact ⟨l1, e'⟩
  refine ⟨by rw [hn]; exact ok.ln, by rw [List.length_set, hn]; exact ok.lg, by rw [List.length_set]; exact ok.la, by rw [hs0]; exact ok.base, ok.same, fun i d e => ?_, fun i d e => ?_, fun i c1 p1 l1 e1 => ?_, fun i k c1 p1 l1 c2 p2 l2 a' e1 e2 h1 h2 => ?_, by rw [hs0, h0]; exact ok.grow, by rw [h0, hp]; exact ok.keep, fun q hq => ?_, fun i c1 l1 a' e1 ha => ?_, fun q hq => ?_, ?_⟩
  · rcases oc e with ⟨_, e⟩ | ⟨_, e⟩
    · cases e
    · rw [hK]; exact ok.dat i d e
  · rcases oc e with ⟨_, e⟩ | ⟨_, e⟩
    · cases e
    · rw [hK, hn]; exact ok.frz i d e
  · obtain ⟨l2, h⟩ := ow e1
    rw [hK, hn, h0]
    exact ok.own i c1 p1 l2 h
  · obtain ⟨x, hx⟩ := ow e1
    obtain ⟨y, hy⟩ := ow e2
    exact ok.inj i k _ _ _ _ _ _ a' hx hy h1 h2
  · obtain ⟨c1, l1, h1, h2⟩ := ok.pinned q (by rw [← hp]; exact hq)
    by_cases z : q.1 = j
    · rw [z, e] at h1
      cases h1
      exact ⟨c, l', by rw [z]; exact List.getElem?_set_self hj, h2⟩
    · exact ⟨c1, l1, by rw [List.getElem?_set_ne (Ne.symm z)]; exact h1, h2⟩
  · obtain ⟨l2, h⟩ := ow e1
    rw [hp]
    exact ok.pin1 i c1 l2 a' h ha
  · rcases hl q hq with ⟨e1, e2, e3, e4⟩ | ⟨ne, hq⟩
    · exact ⟨p, by rw [e1, List.getElem?_set_self hj, e2, e3], by rw [e1]; exact e4⟩
    · obtain ⟨p', h1, h2⟩ := ok.locked q hq
      exact ⟨p', by rw [List.getElem?_set_ne (Ne.symm ne)]; exact h1, h2⟩
  · refine RwOk.step ok.rws hK hn (Same.refl _) (fun x u ex n1 n2 _ => ⟨ex, n1, by rw [h0]; exact n2⟩) (fun i ls e => ?_) (fun i c1 p1 l1 b e1 hb => ?_)
    · rcases oc e with ⟨_, e⟩ | ⟨_, e⟩
      · cases e
      · exact ⟨e, rfl, fun _ => rfl⟩
    · obtain ⟨l2, h⟩ := ow e1
      exact .inl ⟨i, _, _, _, h, hb⟩
theorem Kd.low {K : PySem.W.Frag} {Hs H0 H1 H : Hp} {a : Addr} {ks : List Addr} {ls : List (List D)} (k : Kd K Hs H1 H a ks ls) (h : ∀ x ∈ a :: ks, H0 x = none) : Kd K Hs H0 H a ks ls :=
  ⟨k.hd, k.nd, fun x m => ⟨(k.fr x m).1, h x m⟩, k.kd⟩
theorem Ok.deadO (ok : Ok C Hs A g σ H) {c : Cn} {p l : Bool} {b : Addr} (e1 : g[j]? = some (.own c p l)) (e2 : A[j]? = some b) (h : H b = none) : False := by
  obtain ⟨a', o, ha, _, _, ho, _⟩ := ok.own j c p l e1
  rw [e2] at ha
  cases ha
  rw [h] at ho; cases ho
theorem Ok.deadR (ok : Ok C Hs A g σ H) {ms : List (List D)} {b x : Addr} (e1 : g[j]? = some (.rws ms)) (e2 : A[j]? = some b) (m : x ∈ b :: kidsOf (H b)) (h : H x = none) : False := by
  obtain ⟨a', ks, ha, _, k, _⟩ := ok.rws j ms e1
  rw [e2] at ha
  cases ha
  rw [k.hd, kidsOf_refs] at m
  obtain ⟨o, ho⟩ := k.live x m
  rw [h] at ho; cases ho
/-- a list of lists of its own, held aside -/
theorem Ok.addR (ok : Ok C Hs A g σ H) {a : Addr} {ks : List Addr} {ls : List (List D)} (k0 : Kd C.K Hs C.H0 H a ks ls)
    (hno : ∀ (j : Nat) (c : Cn) (p l : Bool) (b : Addr), g[j]? = some (.own c p l) → A[j]? = some b → b ∉ a :: ks)
    (hnr : ∀ (j : Nat) (ms : List (List D)) (b x : Addr), g[j]? = some (.rws ms) → A[j]? = some b → x ∈ b :: kidsOf (H b) → x ∈ a :: ks → False) : Ok C Hs (A ++ [a]) (g ++ [.rws ls]) σ H := by
  have old : ∀ (i : Nat) (s : Sl), (g ++ [Sl.rws ls])[i]? = some s → (i < g.length ∧ g[i]? = some s) ∨ (i = g.length ∧ s = .rws ls) := fun i s e => by
    by_cases hi : i < g.length
    · rw [List.getElem?_append_left hi] at e; exact .inl ⟨hi, e⟩
    · rw [List.getElem?_append_right (by omega)] at e
      have : i - g.length = 0 := by
        have := (List.getElem?_eq_some_iff.mp e).1
        simp at this; omega
      rw [this] at e
      exact .inr ⟨by omega, (Option.some.inj e).symm⟩
  have pre := Pre.app A [a]
  have last : (A ++ [a])[g.length]? = some a := by rw [← ok.la]; simp
  have alt : ∀ {i : Nat}, i < g.length → (A ++ [a])[i]? = A[i]? := fun {i} hi => List.getElem?_append_left (by rw [ok.la]; exact hi)
  refine ⟨ok.ln, by rw [List.length_append]; have := ok.lg; omega, by simp [ok.la], ok.base, ok.same, fun i d e => ?_, fun i d e => ?_, fun i c' p l e => ?_, fun i j c1 p1 l1 c2 p2 l2 a' e1 e2 h1 h2 => ?_, ok.grow, ok.keep, fun q hq => ?_, fun i c' l a' e ha => ?_, fun q hq => ?_, fun i ms e => ?_⟩
  · rcases old i _ e with ⟨_, e⟩ | ⟨_, e⟩
    · exact ok.dat i d e
    · cases e
  · rcases old i _ e with ⟨_, e⟩ | ⟨_, e⟩
    · obtain ⟨a', q1, q2, q3⟩ := ok.frz i d e
      exact ⟨a', pre _ _ q1, q2, q3⟩
    · cases e
  · rcases old i _ e with ⟨_, e⟩ | ⟨_, e⟩
    · obtain ⟨a', o', q1, q2⟩ := ok.own i c' p l e
      exact ⟨a', o', pre _ _ q1, q2⟩
    · cases e
  · rcases old i _ e1 with ⟨hi, e1⟩ | ⟨_, e1⟩
    · rcases old j _ e2 with ⟨hj, e2⟩ | ⟨_, e2⟩
      · rw [alt hi] at h1
        rw [alt hj] at h2
        exact ok.inj i j _ _ _ _ _ _ a' e1 e2 h1 h2
      · cases e2
    · cases e1
  · obtain ⟨c', l, h1, h2⟩ := ok.pinned q hq
    have hi := (List.getElem?_eq_some_iff.mp h1).1
    exact ⟨c', l, by rw [List.getElem?_append_left hi]; exact h1, pre _ _ h2⟩
  · rcases old i _ e with ⟨hi, e⟩ | ⟨_, e⟩
    · rw [alt hi] at ha
      exact ok.pin1 i c' l a' e ha
    · cases e
  · obtain ⟨p, h1, h2⟩ := ok.locked q hq
    have hi := (List.getElem?_eq_some_iff.mp h1).1
    exact ⟨p, by rw [List.getElem?_append_left hi]; exact h1, pre _ _ h2⟩
  · rcases old i _ e with ⟨hi, e⟩ | ⟨ei, e⟩
    · obtain ⟨b, bs, r1, r2, r3, r4, r5⟩ := ok.rws i ms e
      refine ⟨b, bs, pre _ _ r1, r2, r3, fun k c p l y ek ay m => ?_, fun k ns y x ek ay m1 m2 => ?_⟩
      · rcases old k _ ek with ⟨hk, ek⟩ | ⟨_, ek⟩
        · rw [alt hk] at ay
          exact r4 k c p l y ek ay m
        · cases ek
      · rcases old k _ ek with ⟨hk, ek⟩ | ⟨ek', ek⟩
        · rw [alt hk] at ay
          exact r5 k ns y x ek ay m1 m2
        · subst ek'
          rw [last] at ay
          cases ay
          rw [k0.hd, kidsOf_refs] at m1
          exact (hnr i ms b x e r1 (by rw [r3.hd, kidsOf_refs]; exact m2) m1).elim
    · cases e
      subst ei
      refine ⟨a, ks, last, fun hi => absurd hi (by have := ok.lg; omega), k0, fun k c p l y ek ay m => ?_, fun k ns y x ek ay m1 m2 => ?_⟩
      · rcases old k _ ek with ⟨hk, ek⟩ | ⟨_, ek⟩
        · rw [alt hk] at ay
          exact hno k c p l y ek ay m
        · cases ek
      · rcases old k _ ek with ⟨hk, ek⟩ | ⟨ek', _⟩
        · rw [alt hk] at ay
          exact (hnr k ns y x ek ay m1 m2).elim
        · exact ek'
/-- .. becomes the slot's own -/
theorem Ok.moveR (ok : Ok C Hs A g σ H) {t : Nat} {ls : List (List D)} {a : Addr} (hf : freeAt j g = true) (hj : j < C.n) (ht : C.n ≤ t) (e0 : g[t]? = some (.rws ls)) (ha0 : A[t]? = some a) :
    Ok C Hs (A.set j a) ((g.set j (.rws ls)).set t .un) (σ.set j (some (.ref a))) H := by
  have htl := (List.getElem?_eq_some_iff.mp e0).1
  have hjl := freeAt_lt hf
  have jt : j ≠ t := by omega
  have oc : ∀ {i : Nat} {s : Sl}, ((g.set j (.rws ls)).set t .un)[i]? = some s → (i = t ∧ s = .un) ∨ (i = j ∧ s = .rws ls) ∨ (i ≠ t ∧ i ≠ j ∧ g[i]? = some s) := fun {i s} e => by
    rcases set_some e with ⟨ei, e, _⟩ | ⟨ne, e⟩
    · exact .inl ⟨ei, e⟩
    · rcases set_some e with ⟨ei, e, _⟩ | ⟨ne2, e⟩
      · exact .inr (.inl ⟨ei, e⟩)
      · exact .inr (.inr ⟨ne, ne2, e⟩)
  have A1 : (A.set j a)[j]? = some a := List.getElem?_set_self (by rw [ok.la]; exact hjl)
  have A2 : ∀ (i : Nat), i ≠ j → (A.set j a)[i]? = A[i]? := fun i ne => List.getElem?_set_ne (Ne.symm ne)
  have S2 : ∀ (i : Nat), i ≠ j → (σ.set j (some (V.ref a)))[i]? = σ[i]? := fun i ne => List.getElem?_set_ne (Ne.symm ne)
  obtain ⟨a0, ks, q1, q2, q3, q4, q5⟩ := ok.rws t ls e0
  rw [ha0] at q1
  have ea : a = a0 := Option.some.inj q1
  subst ea
  refine ⟨by rw [List.length_set]; exact ok.ln, by rw [List.length_set, List.length_set]; exact ok.lg, by rw [List.length_set, List.length_set, List.length_set]; exact ok.la, ok.base, ok.same, fun i d e => ?_, fun i d e => ?_, fun i c' p l e => ?_, fun i k c1 p1 l1 c2 p2 l2 a' e1' e2' h1 h2 => ?_, ok.grow, ok.keep, fun q hq => ?_, fun i c' l a' e ha => ?_, fun q hq => ?_, fun i ms e => ?_⟩
  · rcases oc e with ⟨_, e⟩ | ⟨_, e⟩ | ⟨_, ne, e⟩
    · cases e
    · cases e
    · rw [S2 i ne]; exact ok.dat i d e
  · rcases oc e with ⟨_, e⟩ | ⟨_, e⟩ | ⟨_, ne, e⟩
    · cases e
    · cases e
    · rw [S2 i ne, A2 i ne]; exact ok.frz i d e
  · rcases oc e with ⟨_, e⟩ | ⟨ei, e⟩ | ⟨_, ne, e⟩
    · cases e
    · cases e
    · rw [S2 i ne, A2 i ne]; exact ok.own i c' p l e
  · rcases oc e1' with ⟨_, e1⟩ | ⟨ei, e1⟩ | ⟨nt, ne, e1⟩
    · cases e1
    · cases e1
    · rcases oc e2' with ⟨_, e2⟩ | ⟨ek, e2⟩ | ⟨nt2, ne2, e2⟩
      · cases e2
      · cases e2
      · rw [A2 i ne] at h1
        rw [A2 k ne2] at h2
        exact ok.inj i k _ _ _ _ _ _ a' e1 e2 h1 h2
  · obtain ⟨c', l, h1, h2⟩ := ok.pinned q hq
    have n1 : q.1 ≠ j := fun z => by rw [z] at h1; exact freeAt_pin hf h1
    have n2 : q.1 ≠ t := fun z => by rw [z, e0] at h1; cases h1
    refine ⟨c', l, ?_, by rw [A2 _ n1]; exact h2⟩
    rw [List.getElem?_set_ne (Ne.symm n2), List.getElem?_set_ne (Ne.symm n1)]
    exact h1
  · rcases oc e with ⟨_, e⟩ | ⟨ei, e⟩ | ⟨_, ne, e⟩
    · cases e
    · cases e
    · rw [A2 i ne] at ha
      exact ok.pin1 i c' l a' e ha
  · obtain ⟨p, h1, h2⟩ := ok.locked q hq
    have n1 : q.1 ≠ j := fun z => by rw [z] at h1; exact freeAt_lock hf h1
    have n2 : q.1 ≠ t := fun z => by rw [z, e0] at h1; cases h1
    refine ⟨p, ?_, by rw [A2 _ n1]; exact h2⟩
    rw [List.getElem?_set_ne (Ne.symm n2), List.getElem?_set_ne (Ne.symm n1)]
    exact h1
  · rcases oc e with ⟨_, e⟩ | ⟨ei, e⟩ | ⟨nt, ne, e⟩
    · cases e
    · cases e
      subst ei
      refine ⟨a, ks, A1, fun _ => List.getElem?_set_self (by rw [ok.ln]; exact hj), q3, fun k c p l b ek ab => ?_, fun k ns b x ek ab m1 m2 => ?_⟩
      · rcases oc ek with ⟨_, ek⟩ | ⟨_, ek⟩ | ⟨_, nk, ek⟩
        · cases ek
        · cases ek
        · rw [A2 k nk] at ab
          exact q4 k c p l b ek ab
      · rcases oc ek with ⟨_, ek⟩ | ⟨ek', _⟩ | ⟨nt2, nk, ek⟩
        · cases ek
        · exact ek'
        · rw [A2 k nk] at ab
          exact absurd (q5 k ns b x ek ab m1 m2) nt2
    · obtain ⟨b, bs, r1, r2, r3, r4, r5⟩ := ok.rws i ms e
      refine ⟨b, bs, by rw [A2 i ne]; exact r1, by rw [S2 i ne]; exact r2, r3, fun k c p l y ek ay => ?_, fun k ns y x ek ay m1 m2 => ?_⟩
      · rcases oc ek with ⟨_, ek⟩ | ⟨_, ek⟩ | ⟨_, nk, ek⟩
        · cases ek
        · cases ek
        · rw [A2 k nk] at ay
          exact r4 k c p l y ek ay
      · rcases oc ek with ⟨_, ek⟩ | ⟨ek', ek⟩ | ⟨_, nk, ek⟩
        · cases ek
        · subst ek'
          rw [A1] at ay
          cases ay
          exact absurd (r5 t ls a x e0 ha0 m1 m2).symm nt
        · rw [A2 k nk] at ay
          exact r5 k ns y x ek ay m1 m2
end
end Z
set_option Elab.async false
set_option linter.all false
set_option maxRecDepth 100000
set_option maxHeartbeats 4000000
namespace Z
open PySem PySem.Spec PyProof.Rows L2
abbrev G := List Sl
abbrev ZM := G → Option (R × G)
abbrev ZT := G → Option (Bool × G)
abbrev ZAr := G → Option (List R × G)
def RelRs (K : PySem.W.Frag) (Hs : Hp) (A : List Addr) : List V → List R → Prop
  | [], [] => True
  | v :: vs, r :: rs => RelR K Hs A v r ∧ RelRs K Hs A vs rs
  | _, _ => False
theorem RelRs.mono {K : PySem.W.Frag} {Hs Hs' : Hp} {A A' : List Addr} (s : Same Hs Hs') (p : Pre A A') : ∀ {vs : List V} {rs : List R}, RelRs K Hs A vs rs → RelRs K Hs' A' vs rs
  | [], [], _ => trivial
  | _ :: _, _ :: _, h => ⟨h.1.mono s p, RelRs.mono s p h.2⟩
  | [], _ :: _, h => h.elim
  | _ :: _, [], h => h.elim
/-- readings by data: n the number of the def's names -/
def tZ (K : PySem.W.Frag) (n : Nat) (m : ZM) : TE := fun σ H Q => ∃ (C : Ct) (Hs : Hp) (A : List Addr) (g : G) (r : R) (g' : G), C.K = K ∧ C.n = n ∧ Ok C Hs A g σ H ∧ m g = some (r, g') ∧
  ∀ (Hs' : Hp) (A' : List Addr) (v : V) (H' : Hp), Same Hs Hs' → Pre A A' → Ok C Hs' A' g' σ H' → RelR C.K Hs' A' v r → Q v H'
def tZT (K : PySem.W.Frag) (n : Nat) (m : ZT) : TT := fun σ H Q => ∃ (C : Ct) (Hs : Hp) (A : List Addr) (g : G) (b : Bool) (g' : G), C.K = K ∧ C.n = n ∧ Ok C Hs A g σ H ∧ m g = some (b, g') ∧
  ∀ (Hs' : Hp) (A' : List Addr) (H' : Hp), Same Hs Hs' → Pre A A' → Ok C Hs' A' g' σ H' → Q b H'
def tZA (K : PySem.W.Frag) (n : Nat) (m : ZAr) : TA := fun σ H Q => ∃ (C : Ct) (Hs : Hp) (A : List Addr) (g : G) (rs : List R) (g' : G), C.K = K ∧ C.n = n ∧ Ok C Hs A g σ H ∧ m g = some (rs, g') ∧
  ∀ (Hs' : Hp) (A' : List Addr) (vs : List V) (H' : Hp), Same Hs Hs' → Pre A A' → Ok C Hs' A' g' σ H' → RelRs C.K Hs' A' vs rs → Q vs H'
theorem PE.of {X : Cx} {e : Expr} {t t' : TE} (h : PE X e t) (w : ∀ σ H Q, t' σ H Q → t σ H Q) : PE X e t' := ⟨fun pins s σ H Q I q => h.run pins s σ H Q I (w σ H Q q)⟩
theorem PT.of {X : Cx} {e : Expr} {t t' : TT} (h : PT X e t) (w : ∀ σ H Q, t' σ H Q → t σ H Q) : PT X e t' := ⟨fun pins s σ H Q I q => h.run pins s σ H Q I (w σ H Q q)⟩
theorem PW.of {X : Cx} {e : Expr} {t t' : TT} (h : PW X e t) (w : ∀ σ H Q, t' σ H Q → t σ H Q) : PW X e t' := ⟨fun wh pins s σ H Q I q => h.run wh pins s σ H Q I (w σ H Q q)⟩
theorem PA.of {X : Cx} {es : List Expr} {t t' : TA} (h : PA X es t) (w : ∀ σ H Q, t' σ H Q → t σ H Q) : PA X es t' := ⟨fun pos pins s σ H Q I q => h.run pos pins s σ H Q I (w σ H Q q)⟩
theorem PS.of {X : Cx} {st : Stmt} {t t' : TS} (h : PS X st t) (w : ∀ D σ H, t' D σ H → t D σ H) : PS X st t' := ⟨fun pins s σ H D I q => h.run pins s σ H D I (w D σ H q)⟩
theorem PSs.of {X : Cx} {st : List Stmt} {t t' : TS} (h : PSs X st t) (w : ∀ D σ H, t' D σ H → t D σ H) : PSs X st t' := ⟨fun pins s σ H D I q => h.run pins s σ H D I (w D σ H q)⟩
abbrev ZE (X : Cx) (e : Expr) (m : ZM) : Prop := PE X e (tZ X.K X.N.length m)
abbrev ZTe (X : Cx) (e : Expr) (m : ZT) : Prop := PT X e (tZT X.K X.N.length m)
abbrev ZW (X : Cx) (e : Expr) (m : ZT) : Prop := PW X e (tZT X.K X.N.length m)
abbrev ZAs (X : Cx) (es : List Expr) (m : ZAr) : Prop := PA X es (tZA X.K X.N.length m)
def D.v : D → V
  | .non => .non | .bl b => .bl b | .int i => .int i | .str s => .str ⟨s.toArray⟩ | .raw v => v
  | _ => .non
theorem D.vz {K : PySem.W.Frag} {H : Hp} {z : D} (h : z.scal = true) : Dz K H z.v z := by
  cases z with
  | non => exact .non
  | bl b => exact .bl b
  | int i => exact .int i
  | str s => exact .str s
  | raw v => exact .raw v
  | dic _ _ => exact absurd h (by simp [D.scal])
  | obj _ _ _ => exact absurd h (by simp [D.scal])
  | tup _ => exact absurd h (by simp [D.scal])
  | lst _ => exact absurd h (by simp [D.scal])
theorem Dz.v {K : PySem.W.Frag} {H : Hp} {v : V} {z : D} (s : z.scal = true) (h : Dz K H v z) : v = z.v := by
  cases h with
  | non => rfl
  | bl b => rfl
  | int i => rfl
  | str z => rfl
  | raw v => rfl
  | dic _ _ _ => exact absurd s (by simp [D.scal])
  | obj _ _ _ _ => exact absurd s (by simp [D.scal])
  | tup _ _ => exact absurd s (by simp [D.scal])
  | lst _ _ => exact absurd s (by simp [D.scal])
def zVar (i : Nat) : ZM := fun g => match g[i]? with
  | some (.dat d) => some (.dat d, g)
  | some (.frz d) => some (.dat d, g)
  | some (.own _ _ _) => some (.bor i, g)
  | some (.rws _) => some (.bor i, g)
  | _ => none
def zC (d : D) : ZM := fun g => some (.dat d, g)
section
variable {X : Cx} {pos : Pos}
theorem ze_var {i : Nat} {x : Str} (hN : X.N[i]? = some x) (h : PE X (.Name x pos) (tVar i)) : ZE X (.Name x pos) (zVar i) := by
  refine PE.of h fun σ H Q ⟨C, Hs, A, g, r, g', hK, hn, ok, e, q⟩ => ?_
  have hi : i < C.n := by rw [hn]; exact (List.getElem?_eq_some_iff.mp hN).1
  unfold zVar at e
  split at e
  · rename_i d hg
    cases e
    obtain ⟨v, h1, h2⟩ := ok.dat i d hg
    exact ⟨v, h1, q Hs A v H (Same.refl _) (Pre.refl _) ok h2⟩
  · rename_i d hg
    cases e
    obtain ⟨a, h1, h2, h3⟩ := ok.frz i d hg
    exact ⟨_, h2 hi, q Hs A _ H (Same.refl _) (Pre.refl _) ok h3⟩
  · rename_i c p l hg
    cases e
    obtain ⟨a, o, h1, h2, _⟩ := ok.own i c p l hg
    exact ⟨_, h2 hi, q Hs A _ H (Same.refl _) (Pre.refl _) ok ⟨a, h1, rfl⟩⟩
  · rename_i ls hg
    cases e
    obtain ⟨a, ks, h1, h2, _⟩ := ok.rws i ls hg
    exact ⟨_, h2 hi, q Hs A _ H (Same.refl _) (Pre.refl _) ok ⟨a, h1, rfl⟩⟩
  · cases e
theorem ze_const {e : Expr} {v : V} {d : D} (h : PE X e (tC v)) (hd : ∀ H, Dz X.K H v d) : ZE X e (zC d) := by
  refine PE.of h fun σ H Q ⟨C, Hs, A, g, r, g', hK, hn, ok, e, q⟩ => ?_
  cases e
  exact q Hs A v H (Same.refl _) (Pre.refl _) ok (by rw [hK]; exact hd Hs)
theorem ze_int {i j} : ZE X (.Constant (.int i) j pos) (zC (.int i)) := ze_const pe_int fun _ => .int i
theorem ze_bl {b j} : ZE X (.Constant (.bool b) j pos) (zC (.bl b)) := ze_const pe_bl fun _ => .bl b
theorem ze_non {j} : ZE X (.Constant .none j pos) (zC .non) := ze_const pe_non fun _ => .non
theorem ze_str {x j} {s : List Nat} (hs : x = (⟨s.toArray⟩ : Str) := by decide +kernel) : ZE X (.Constant (.str x) j pos) (zC (.str s)) := by
  subst hs
  exact ze_const pe_str fun _ => .str s
/-- a name of the module -/
theorem ze_glob {x : Str} {u : Value} {v : V} {d : D} (hg : Gl X x) (hm : X.mg x = some u) (r : RelV v u) (hd : ∀ H, Dz X.K H v d) (hdb : (x == ("__debug__" : Str)) = false := by decide) : ZE X (.Name x pos) (zC d) := ze_const (pe_glob hg hm r hdb) hd
theorem ze_bltn {x : Str} {u : Value} {v : V} (hg : Gl X x) (hm : X.mg x = none) (hv : bootBuiltins x = some u) (r : RelV v u) (hn : x ≠ "__name__" := by decide) (hdb : (x == ("__debug__" : Str)) = false := by decide) : ZE X (.Name x pos) (zC (.raw v)) :=
  ze_const (pe_bltn hg hm hv r hn hdb) fun _ => .raw v
/-- r does on values what f does on data -/
def OpS (K : PySem.W.Frag) (r : R2) (f : D → D → Option D) : Prop := ∀ (H : Hp) (x y : V) (d e z : D) (Q : VK), Dz K H x d → Dz K H y e → f d e = some z → Q z.v H → r x y H Q
def zOp (f : D → D → Option D) (ma mb : ZM) : ZM := fun g => do
  let (r1, g1) ← ma g
  let (r2, g2) ← mb g1
  let d ← rd g2 r1
  let e ← rd g2 r2
  let z ← f d e
  if z.scal = true then some (.dat z, g2) else none
theorem zOp_some {f : D → D → Option D} {ma mb : ZM} {g g' : G} {r : R} (e : zOp f ma mb g = some (r, g')) :
    ∃ r1 g1 r2 d1 d2 z, ma g = some (r1, g1) ∧ mb g1 = some (r2, g') ∧ rd g' r1 = some d1 ∧ rd g' r2 = some d2 ∧ f d1 d2 = some z ∧ z.scal = true ∧ r = .dat z := by
  unfold zOp at e
  simp only [Option.bind_eq_bind, Option.bind_eq_some_iff] at e
  obtain ⟨⟨r1, g1⟩, h1, ⟨r2, g2⟩, h2, d1, h3, d2, h4, z, h5, e⟩ := e
  split at e
  · rename_i hs
    cases e
    exact ⟨r1, g1, r2, d1, d2, z, h1, h2, h3, h4, h5, hs, rfl⟩
  · cases e
variable {a b c : Expr} {ma mb mc : ZM}
/-- two in a row, then what is done with both -/
theorem tZ2 {σ : L2.St} {H : Hp} {K : PySem.W.Frag} {n : Nat} {R2' : V → V → Hp → Prop} {C : Ct} {Hs : Hp} {A : List Addr} {g g1 g2 : G} {r1 r2 : R} (hK : C.K = K) (hn : C.n = n) (ok : Ok C Hs A g σ H) (e1 : ma g = some (r1, g1)) (e2 : mb g1 = some (r2, g2))
    (q : ∀ Hs2 A2 v1 v2 H2, Same Hs Hs2 → Pre A A2 → Ok C Hs2 A2 g2 σ H2 → RelR C.K Hs2 A2 v1 r1 → RelR C.K Hs2 A2 v2 r2 → R2' v1 v2 H2) : tZ K n ma σ H fun x H1 => tZ K n mb σ H1 fun y H2 => R2' x y H2 :=
  ⟨C, Hs, A, g, r1, g1, hK, hn, ok, e1, fun Hs1 A1 v1 H1 s1 p1 ok1 rel1 => ⟨C, Hs1, A1, g1, r2, g2, hK, hn, ok1, e2, fun Hs2 A2 v2 H2 s2 p2 ok2 rel2 => q Hs2 A2 v1 v2 H2 (s1.trans s2) (p1.trans p2) ok2 (rel1.mono s2 p2) rel2⟩⟩
theorem zop_of {r : R2} {f : D → D → Option D} {e : Expr} (h : PE X e (tOp r (tZ X.K X.N.length ma) (tZ X.K X.N.length mb))) (hf : OpS X.K r f) : ZE X e (zOp f ma mb) := by
  refine PE.of h fun σ H Q ⟨C, Hs, A, g, r, g', hK, hn, ok, e, q⟩ => ?_
  obtain ⟨r1, g1, r2, d1, d2, z, h1, h2, h3, h4, h5, h6, rfl⟩ := zOp_some e
  refine tZ2 hK hn ok h1 h2 fun Hs2 A2 v1 v2 H2 s p ok2 w1 w2 => ?_
  have x1 := ok2.rd w1 h3
  have x2 := ok2.rd w2 h4
  rw [hK] at x1 x2
  exact hf H2 v1 v2 d1 d2 z Q x1 x2 h5 (q Hs2 A2 z.v H2 s p ok2 (D.vz h6))
theorem ze_op {op : Operator} {r : R2} {f : D → D → Option D} (ho : OpR X (binaryOp op) r) (hf : OpS X.K r f) (ha : ZE X a ma) (hb : ZE X b mb) : ZE X (.BinOp a op b pos) (zOp f ma mb) := zop_of (pe_op ho ha hb) hf
theorem ze_cmp {op : CmpOp} {r : R2} {f : D → D → Option D} (ho : OpR X (compareOp op) r) (hf : OpS X.K r f) (ha : ZE X a ma) (hb : ZE X b mb) (hm : behindInMarks op b = false) : ZE X (.Compare a [op] [b] pos) (zOp f ma mb) := zop_of (pe_cmpR ho ha hb hm) hf
def isB : R → Option Bool
  | .dat (.bl b) => some b
  | _ => none
theorem isB_some {r : R} {b : Bool} (h : isB r = some b) : r = .dat (.bl b) := by
  unfold isB at h
  split at h
  · cases h; rfl
  · cases h
/-- a value that is a bool, as a test -/
def zTst (m : ZM) : ZT := fun g => do
  let (r, g1) ← m g
  let b ← isB r
  some (b, g1)
theorem zTst_some {m : ZM} {g g' : G} {b : Bool} (e : zTst m g = some (b, g')) : m g = some (.dat (.bl b), g') := by
  unfold zTst at e
  simp only [Option.bind_eq_bind, Option.bind_eq_some_iff] at e
  obtain ⟨⟨r, g1⟩, h1, b', h2, e⟩ := e
  cases e
  have h3 : r = .dat (.bl b) := isB_some h2
  rw [h3] at h1
  exact h1
theorem tst_of {m : ZM} {σ : L2.St} {H : Hp} {K : PySem.W.Frag} {n : Nat} {Q : Bool → Hp → Prop} (h : tZT K n (zTst m) σ H Q) : tZ K n m σ H fun x H1 => ∃ k, x = .bl k ∧ Q k H1 := by
  obtain ⟨C, Hs, A, g, b, g', hK, hn, ok, e, q⟩ := h
  refine ⟨C, Hs, A, g, _, _, hK, hn, ok, zTst_some e, fun Hs1 A1 v1 H1 s1 p1 ok1 rel1 => ?_⟩
  have e1 : v1 = .bl b := (show Dz C.K Hs1 v1 (.bl b) from rel1).v rfl
  exact ⟨b, e1, q Hs1 A1 H1 s1 p1 ok1⟩
theorem zt_cmp {op : CmpOp} {r : R2} {f : D → D → Option D} (ho : OpR X (compareOp op) r) (hf : OpS X.K r f) (ha : ZE X a ma) (hb : ZE X b mb) (hm : behindInMarks op b = false) : ZTe X (.Compare a [op] [b] pos) (zTst (zOp f ma mb)) := by
  refine PT.of (pt_cmpR (r := fun x y H Q => r x y H Q) ho ha hb hm) fun σ H Q h => ?_
  have h2 := tst_of h
  obtain ⟨C, Hs, A, g, r, g', hK, hn, ok, e, q⟩ := h2
  obtain ⟨r1, g1, r2, d1, d2, z, h1, h2, h3, h4, h5, h6, rfl⟩ := zOp_some e
  refine tZ2 (R2' := fun x y H2 => _) hK hn ok h1 h2 fun Hs2 A2 v1 v2 H2 s p ok2 w1 w2 => ?_
  have x1 := ok2.rd w1 h3
  have x2 := ok2.rd w2 h4
  rw [hK] at x1 x2
  exact hf H2 v1 v2 d1 d2 z _ x1 x2 h5 (q Hs2 A2 z.v H2 s p ok2 (D.vz h6))
def tru : D → Option Bool
  | .non => some false
  | .bl b => some b
  | .int i => some (i != 0)
  | .str s => if s.length ≤ sizeLine then some ((s.length : Int) != 0) else none
  | .lst l => some (!l.isEmpty)
  | .tup l => some (!l.isEmpty)
  | .raw _ => none
  | .dic _ _ => none
  | .obj _ _ _ => none
theorem DzA.empty {K : PySem.W.Frag} {H : Hp} {vs : List V} {ds : List D} (h : DzA K H vs ds) : vs.isEmpty = ds.isEmpty := by cases h <;> rfl
theorem tru_of {K : PySem.W.Frag} {H : Hp} {v : V} {d : D} {b : Bool} (h : Dz K H v d) (e : tru d = some b) : TruV K v H b := by
  cases h with
  | non => cases e; rfl
  | bl c => cases e; rfl
  | int i => cases e; rfl
  | str s =>
    have e : (if s.length ≤ sizeLine then some ((s.length : Int) != 0) else none) = some b := e
    split at e
    · rename_i hs
      cases e
      exact ⟨by simpa [Str.length] using hs, by simp [Str.length]⟩
    · cases e
  | lst hs ha => cases e; exact .inl ⟨_, hs, by rw [ha.empty]⟩
  | tup hs ha => cases e; exact .inr (.inl ⟨_, hs, by rw [ha.empty]⟩)
  | raw v => cases e
  | dic _ _ _ => cases e
  | obj _ _ _ _ => cases e
def zTru (m : ZM) : ZT := fun g => do
  let (r, g1) ← m g
  let d ← rd g1 r
  let b ← tru d
  some (b, g1)
theorem zt_truth {e : Expr} {m : ZM} (h : ZE X e m) (he : ∀ whole, isTrue e X.env whole = (do let v ← whole; standAt e.pos; holding [v] (truthy v)) := by intro _; rfl) : ZTe X e (zTru m) := by
  refine PT.of (pt_truth h he) fun σ H Q ⟨C, Hs, A, g, b, g', hK, hn, ok, e, q⟩ => ?_
  unfold zTru at e
  simp only [Option.bind_eq_bind, Option.bind_eq_some_iff] at e
  obtain ⟨⟨r, g1⟩, h1, d, h2, b', h3, e⟩ := e
  cases e
  refine ⟨C, Hs, A, g, _, _, hK, hn, ok, h1, fun Hs1 A1 v1 H1 s1 p1 ok1 rel1 => ?_⟩
  have x := ok1.rd rel1 h2
  rw [hK] at x
  exact ⟨b, tru_of x h3, q Hs1 A1 H1 s1 p1 ok1⟩
def zAndT (s t : ZT) : ZT := fun g => do
  let (b, g1) ← s g
  if b = true then t g1 else some (false, g1)
def zOrT (s t : ZT) : ZT := fun g => do
  let (b, g1) ← s g
  if b = true then some (true, g1) else t g1
def zNotT (s : ZT) : ZT := fun g => do
  let (b, g1) ← s g
  some (!b, g1)
variable {sA sB : ZT} {rest : List Expr}
theorem zw_and1 (ha : ZTe X a sA) : ZW X (.BoolOp .And [a] pos) sA := pw_and1 ha
theorem zw_or1 (ha : ZTe X a sA) : ZW X (.BoolOp .Or [a] pos) sA := pw_or1 ha
theorem zw_and (ha : ZTe X a sA) (hb : ZW X (.BoolOp .And (b :: rest) pos) sB) : ZW X (.BoolOp .And (a :: b :: rest) pos) (zAndT sA sB) := by
  refine PW.of (pw_and ha hb) fun σ H Q ⟨C, Hs, A, g, b, g', hK, hn, ok, e, q⟩ => ?_
  unfold zAndT at e
  simp only [Option.bind_eq_bind, Option.bind_eq_some_iff] at e
  obtain ⟨⟨b1, g1⟩, h1, e⟩ := e
  refine ⟨C, Hs, A, g, b1, g1, hK, hn, ok, h1, fun Hs1 A1 H1 s1 p1 ok1 => ?_⟩
  cases b1 with
  | true => exact ⟨C, Hs1, A1, g1, b, g', hK, hn, ok1, e, fun Hs2 A2 H2 s2 p2 ok2 => q Hs2 A2 H2 (s1.trans s2) (p1.trans p2) ok2⟩
  | false =>
    cases e
    exact q Hs1 A1 H1 s1 p1 ok1
theorem zw_or (ha : ZTe X a sA) (hb : ZW X (.BoolOp .Or (b :: rest) pos) sB) : ZW X (.BoolOp .Or (a :: b :: rest) pos) (zOrT sA sB) := by
  refine PW.of (pw_or ha hb) fun σ H Q ⟨C, Hs, A, g, b, g', hK, hn, ok, e, q⟩ => ?_
  unfold zOrT at e
  simp only [Option.bind_eq_bind, Option.bind_eq_some_iff] at e
  obtain ⟨⟨b1, g1⟩, h1, e⟩ := e
  refine ⟨C, Hs, A, g, b1, g1, hK, hn, ok, h1, fun Hs1 A1 H1 s1 p1 ok1 => ?_⟩
  cases b1 with
  | false => exact ⟨C, Hs1, A1, g1, b, g', hK, hn, ok1, e, fun Hs2 A2 H2 s2 p2 ok2 => q Hs2 A2 H2 (s1.trans s2) (p1.trans p2) ok2⟩
  | true =>
    cases e
    exact q Hs1 A1 H1 s1 p1 ok1
theorem zt_w {e : Expr} (h : ZW X e sA) : ZTe X e sA := h.pt
theorem zt_not (ha : ZTe X a sA) : ZTe X (.UnaryOp .Not a pos) (zNotT sA) := by
  refine PT.of (pt_not ha) fun σ H Q ⟨C, Hs, A, g, b, g', hK, hn, ok, e, q⟩ => ?_
  unfold zNotT at e
  simp only [Option.bind_eq_bind, Option.bind_eq_some_iff] at e
  obtain ⟨⟨b1, g1⟩, h1, e⟩ := e
  cases e
  exact ⟨C, Hs, A, g, b1, _, hK, hn, ok, h1, fun Hs1 A1 H1 s1 p1 ok1 => q Hs1 A1 H1 s1 p1 ok1⟩
/-- .. as values -/
def zAndV (ma mb : ZM) : ZM := fun g => do
  let (r, g1) ← ma g
  let b ← isB r
  if b = true then mb g1 else some (.dat (.bl false), g1)
def zOrV (ma mb : ZM) : ZM := fun g => do
  let (r, g1) ← ma g
  let b ← isB r
  if b = true then some (.dat (.bl true), g1) else mb g1
def zNotV (ma : ZM) : ZM := fun g => do
  let (r, g1) ← ma g
  let b ← isB r
  some (.dat (.bl (!b)), g1)
theorem ze_one {op} (h : ZE X a ma) : ZE X (.BoolOp op [a] pos) ma := pe_one h
theorem ze_and (ha : ZE X a ma) (hb : ZE X (.BoolOp .And (b :: rest) pos) mb) : ZE X (.BoolOp .And (a :: b :: rest) pos) (zAndV ma mb) := by
  refine PE.of (pe_and ha hb) fun σ H Q ⟨C, Hs, A, g, r, g', hK, hn, ok, e, q⟩ => ?_
  unfold zAndV at e
  simp only [Option.bind_eq_bind, Option.bind_eq_some_iff] at e
  obtain ⟨⟨r1, g1⟩, h1, b1, h2, e⟩ := e
  have := isB_some h2
  subst this
  refine ⟨C, Hs, A, g, _, g1, hK, hn, ok, h1, fun Hs1 A1 v1 H1 s1 p1 ok1 rel1 => ⟨b1, (show Dz C.K Hs1 v1 (.bl b1) from rel1).v rfl, ?_⟩⟩
  cases b1 with
  | true => exact ⟨C, Hs1, A1, g1, r, g', hK, hn, ok1, e, fun Hs2 A2 v2 H2 s2 p2 ok2 => q Hs2 A2 v2 H2 (s1.trans s2) (p1.trans p2) ok2⟩
  | false =>
    cases e
    exact q Hs1 A1 _ H1 s1 p1 ok1 (.bl false)
theorem ze_or (ha : ZE X a ma) (hb : ZE X (.BoolOp .Or (b :: rest) pos) mb) : ZE X (.BoolOp .Or (a :: b :: rest) pos) (zOrV ma mb) := by
  refine PE.of (pe_or ha hb) fun σ H Q ⟨C, Hs, A, g, r, g', hK, hn, ok, e, q⟩ => ?_
  unfold zOrV at e
  simp only [Option.bind_eq_bind, Option.bind_eq_some_iff] at e
  obtain ⟨⟨r1, g1⟩, h1, b1, h2, e⟩ := e
  have := isB_some h2
  subst this
  refine ⟨C, Hs, A, g, _, g1, hK, hn, ok, h1, fun Hs1 A1 v1 H1 s1 p1 ok1 rel1 => ⟨b1, (show Dz C.K Hs1 v1 (.bl b1) from rel1).v rfl, ?_⟩⟩
  cases b1 with
  | false => exact ⟨C, Hs1, A1, g1, r, g', hK, hn, ok1, e, fun Hs2 A2 v2 H2 s2 p2 ok2 => q Hs2 A2 v2 H2 (s1.trans s2) (p1.trans p2) ok2⟩
  | true =>
    cases e
    exact q Hs1 A1 _ H1 s1 p1 ok1 (.bl true)
theorem ze_not (ha : ZE X a ma) : ZE X (.UnaryOp .Not a pos) (zNotV ma) := by
  refine PE.of (pe_not ha) fun σ H Q ⟨C, Hs, A, g, r, g', hK, hn, ok, e, q⟩ => ?_
  unfold zNotV at e
  simp only [Option.bind_eq_bind, Option.bind_eq_some_iff] at e
  obtain ⟨⟨r1, g1⟩, h1, b1, h2, e⟩ := e
  have := isB_some h2
  subst this
  cases e
  exact ⟨C, Hs, A, g, _, _, hK, hn, ok, h1, fun Hs1 A1 v1 H1 s1 p1 ok1 rel1 => ⟨b1, (show Dz C.K Hs1 v1 (.bl b1) from rel1).v rfl, q Hs1 A1 _ H1 s1 p1 ok1 (.bl (!b1))⟩⟩
/-- a if t else b -/
def zIf (t : ZT) (ma mb : ZM) : ZM := fun g => do
  let (b, g1) ← t g
  if b = true then ma g1 else mb g1
theorem ze_if (hc : ZTe X c sA) (ha : ZE X a ma) (hb : ZE X b mb) : ZE X (.IfExp c a b pos) (zIf sA ma mb) := by
  refine PE.of (pe_ifExp hc ha hb) fun σ H Q ⟨C, Hs, A, g, r, g', hK, hn, ok, e, q⟩ => ?_
  unfold zIf at e
  simp only [Option.bind_eq_bind, Option.bind_eq_some_iff] at e
  obtain ⟨⟨b1, g1⟩, h1, e⟩ := e
  refine ⟨C, Hs, A, g, b1, g1, hK, hn, ok, h1, fun Hs1 A1 H1 s1 p1 ok1 => ?_⟩
  cases b1 with
  | true => exact ⟨C, Hs1, A1, g1, r, g', hK, hn, ok1, e, fun Hs2 A2 v2 H2 s2 p2 ok2 => q Hs2 A2 v2 H2 (s1.trans s2) (p1.trans p2) ok2⟩
  | false => exact ⟨C, Hs1, A1, g1, r, g', hK, hn, ok1, e, fun Hs2 A2 v2 H2 s2 p2 ok2 => q Hs2 A2 v2 H2 (s1.trans s2) (p1.trans p2) ok2⟩
/-- a one-place operation -/
def zUn (f : D → Option D) (ma : ZM) : ZM := fun g => do
  let (r1, g1) ← ma g
  let d ← rd g1 r1
  let z ← f d
  if z.scal = true then some (.dat z, g1) else none
def UnS (K : PySem.W.Frag) (r : V → Hp → VK → Prop) (f : D → Option D) : Prop := ∀ (H : Hp) (x : V) (d z : D) (Q : VK), Dz K H x d → f d = some z → Q z.v H → r x H Q
theorem ze_un {op : UnaryOp} {r : V → Hp → VK → Prop} {f : D → Option D} (ho : UnR X (unaryOp op) r) (hf : UnS X.K r f) (ha : ZE X a ma) : ZE X (.UnaryOp op a pos) (zUn f ma) := by
  refine PE.of (pe_un ho ha) fun σ H Q ⟨C, Hs, A, g, r, g', hK, hn, ok, e, q⟩ => ?_
  unfold zUn at e
  simp only [Option.bind_eq_bind, Option.bind_eq_some_iff] at e
  obtain ⟨⟨r1, g1⟩, h1, d, h2, z, h3, e⟩ := e
  split at e
  · rename_i hs
    cases e
    refine ⟨C, Hs, A, g, r1, _, hK, hn, ok, h1, fun Hs1 A1 v1 H1 s1 p1 ok1 rel1 => ?_⟩
    have x := ok1.rd rel1 h2
    rw [hK] at x
    exact hf H1 v1 d z Q x h3 (q Hs1 A1 z.v H1 s1 p1 ok1 (D.vz hs))
  · cases e
/-- a op1 b op2 c -/
def zChain (f f' : D → D → Option D) (ma mb mc : ZM) : ZM := fun g => do
  let (r1, g1) ← ma g
  let (r2, g2) ← mb g1
  let d ← rd g2 r1
  let e ← rd g2 r2
  let z ← f d e
  match z with
  | .bl true => do
    let (r3, g3) ← mc g2
    let e2 ← rd g3 r2
    let h ← rd g3 r3
    let z2 ← f' e2 h
    if z2.scal = true then some (.dat z2, g3) else none
  | .bl false => some (.dat (.bl false), g2)
  | _ => none
theorem chain_of {r r' : R2} {f f' : D → D → Option D} (hf : OpS X.K r f) (hf' : OpS X.K r' f') {σ : L2.St} {H : Hp} {Q : VK} (h : tZ X.K X.N.length (zChain f f' ma mb mc) σ H Q) :
    tChain r r' (tZ X.K X.N.length ma) (tZ X.K X.N.length mb) (tZ X.K X.N.length mc) σ H Q := by
  obtain ⟨C, Hs, A, g, r, g', hK, hn, ok, e, q⟩ := h
  unfold zChain at e
  simp only [Option.bind_eq_bind, Option.bind_eq_some_iff] at e
  obtain ⟨⟨r1, g1⟩, h1, ⟨r2, g2⟩, h2, d1, h3, d2, h4, z, h5, e⟩ := e
  refine tZ2 hK hn ok h1 h2 fun Hs2 A2 v1 v2 H2 s p ok2 w1 w2 => ?_
  have x1 := ok2.rd w1 h3
  have x2 := ok2.rd w2 h4
  rw [hK] at x1 x2
  refine hf H2 v1 v2 d1 d2 z _ x1 x2 h5 ?_
  split at e
  · simp only [Option.bind_eq_bind, Option.bind_eq_some_iff] at e
    obtain ⟨⟨r3, g3⟩, h6, e2, h7, h, h8, z2, h9, e⟩ := e
    split at e
    · rename_i hs
      cases e
      refine ⟨true, rfl, ?_⟩
      rw [if_pos rfl]
      refine ⟨C, Hs2, A2, g2, r3, _, hK, hn, ok2, h6, fun Hs3 A3 v3 H3 s3 p3 ok3 w3 => ?_⟩
      have y1 := ok3.rd (w2.mono s3 p3) h7
      have y2 := ok3.rd w3 h8
      rw [hK] at y1 y2
      exact hf' H3 v2 v3 e2 h z2 Q y1 y2 h9 (q Hs3 A3 z2.v H3 (s.trans s3) (p.trans p3) ok3 (D.vz hs))
    · cases e
  · cases e
    refine ⟨false, rfl, ?_⟩
    rw [if_neg Bool.false_ne_true]
    exact q Hs2 A2 _ H2 s p ok2 (.bl false)
  · cases e
theorem ze_chain {op op' : CmpOp} {r r' : R2} {f f' : D → D → Option D} (ho : OpR X (compareOp op) r) (hf : OpS X.K r f) (ho' : OpR X (compareOp op') r') (hf' : OpS X.K r' f') (ha : ZE X a ma) (hb : ZE X b mb) (hc : ZE X c mc)
    (hm : lastMarks [op, op'] [b, c] = false := by with_unfolding_all rfl) : ZE X (.Compare a [op, op'] [b, c] pos) (zChain f f' ma mb mc) :=
  PE.of (pe_chain ho ho' ha hb hc hm) fun σ H Q h => chain_of hf hf' h
theorem zt_chain {op op' : CmpOp} {r r' : R2} {f f' : D → D → Option D} (ho : OpR X (compareOp op) r) (hf : OpS X.K r f) (ho' : OpR X (compareOp op') r') (hf' : OpS X.K r' f') (ha : ZE X a ma) (hb : ZE X b mb) (hc : ZE X c mc)
    (hm : lastMarks [op, op'] [b, c] = false := by with_unfolding_all rfl) : ZTe X (.Compare a [op, op'] [b, c] pos) (zTst (zChain f f' ma mb mc)) :=
  PT.of (pt_chain ho ho' ha hb hc hm) fun σ H Q h => chain_of hf hf' (tst_of h)
def zNil : ZAr := fun g => some ([], g)
def zCons (ma : ZM) (mr : ZAr) : ZAr := fun g => do
  let (r, g1) ← ma g
  let (rs, g2) ← mr g1
  some (r :: rs, g2)
theorem za_nil : ZAs X [] zNil := by
  refine PA.of pa_nil fun σ H Q ⟨C, Hs, A, g, rs, g', hK, hn, ok, e, q⟩ => ?_
  cases e
  exact q Hs A [] H (Same.refl _) (Pre.refl _) ok trivial
variable {es : List Expr} {mr : ZAr}
theorem za_cons (ha : ZE X a ma) (hr : ZAs X es mr) (hs : starEach (a :: es) X.env = (false, eval a X.env) :: starEach es X.env := by rfl) : ZAs X (a :: es) (zCons ma mr) := by
  refine PA.of (pa_cons ha hr hs) fun σ H Q ⟨C, Hs, A, g, rs, g', hK, hn, ok, e, q⟩ => ?_
  unfold zCons at e
  simp only [Option.bind_eq_bind, Option.bind_eq_some_iff] at e
  obtain ⟨⟨r1, g1⟩, h1, ⟨rs2, g2⟩, h2, e⟩ := e
  cases e
  exact ⟨C, Hs, A, g, r1, g1, hK, hn, ok, h1, fun Hs1 A1 v1 H1 s1 p1 ok1 rel1 => ⟨C, Hs1, A1, g1, rs2, _, hK, hn, ok1, h2, fun Hs2 A2 vs H2 s2 p2 ok2 rel2 =>
    q Hs2 A2 (v1 :: vs) H2 (s1.trans s2) (p1.trans p2) ok2 ⟨rel1.mono s2 p2, rel2⟩⟩⟩
/-- all are read as data -/
def rdAll (g : G) : List R → Option (List D)
  | [] => some []
  | r :: rs => do
    let d ← rdX g r
    let ds ← rdAll g rs
    some (d :: ds)
theorem rdAll_ok {C : Ct} {Hs : Hp} {A : List Addr} {g : G} {σ : L2.St} {H : Hp} (ok : Ok C Hs A g σ H) : ∀ {vs : List V} {rs : List R} {ds : List D}, RelRs C.K Hs A vs rs → rdAll g rs = some ds → DzA C.K H vs ds
  | [], [], ds, _, e => by cases e; exact .nil
  | v :: vs, r :: rs, ds, h, e => by
    unfold rdAll at e
    simp only [Option.bind_eq_bind, Option.bind_eq_some_iff] at e
    obtain ⟨d, h1, ds', h2, e⟩ := e
    cases e
    exact .cons (ok.rdX h.1 h1) (rdAll_ok ok h.2 h2)
  | [], _ :: _, _, h, _ => h.elim
  | _ :: _, [], _, h, _ => h.elim
/-- all become data -/
def frzAll : List R → G → Option (List D × G)
  | [], g => some ([], g)
  | r :: rs, g => do
    let (d, g1) ← frzR r g
    let (ds, g2) ← frzAll rs g1
    some (d :: ds, g2)
theorem frzAll_ok {C : Ct} {A : List Addr} {σ : L2.St} {H : Hp} : ∀ {g g' : G} {Hs : Hp} {vs : List V} {rs : List R} {ds : List D}, Ok C Hs A g σ H → RelRs C.K Hs A vs rs → frzAll rs g = some (ds, g') → ∃ Hs', Same Hs Hs' ∧ Ok C Hs' A g' σ H ∧ DzA C.K Hs' vs ds
  | g, g', Hs, [], [], ds, ok, _, e => by cases e; exact ⟨Hs, Same.refl _, ok, .nil⟩
  | g, g', Hs, v :: vs, r :: rs, ds, ok, h, e => by
    unfold frzAll at e
    simp only [Option.bind_eq_bind, Option.bind_eq_some_iff] at e
    obtain ⟨⟨d, g1⟩, h1, ⟨ds', g2⟩, h2, e⟩ := e
    cases e
    obtain ⟨Hs1, s1, ok1, z1⟩ := ok.frzR h.1 h1
    obtain ⟨Hs2, s2, ok2, z2⟩ := frzAll_ok ok1 (h.2.mono s1 (Pre.refl _)) h2
    exact ⟨Hs2, s1.trans s2, ok2, .cons (z1.mono s2) z2⟩
  | _, _, _, [], _ :: _, _, _, h, _ => h.elim
  | _, _, _, _ :: _, [], _, _, h, _ => h.elim
def zTup (ma : ZAr) : ZM := fun g => do
  let (rs, g1) ← ma g
  let (ds, g2) ← frzAll rs g1
  if ds.length ≤ sizeLine then some (.dat (.tup ds), g2) else none
def zLst (ma : ZAr) : ZM := fun g => do
  let (rs, g1) ← ma g
  let (ds, g2) ← frzAll rs g1
  if ds.length ≤ sizeLine then some (.bor g2.length, g2 ++ [.own (.lst ds) false false]) else none
theorem ze_tup {x1} {mr : ZAr} (h : ZAs X es mr) : ZE X (.Tuple es x1 pos) (zTup mr) := by
  refine PE.of (pe_tup h) fun σ H Q ⟨C, Hs, A, g, r, g', hK, hn, ok, e, q⟩ => ?_
  unfold zTup at e
  simp only [Option.bind_eq_bind, Option.bind_eq_some_iff] at e
  obtain ⟨⟨rs, g1⟩, h1, ⟨ds, g2⟩, h2, e⟩ := e
  split at e
  · rename_i hz
    cases e
    refine ⟨C, Hs, A, g, rs, g1, hK, hn, ok, h1, fun Hs1 A1 vs H1 s1 p1 ok1 rel1 => ?_⟩
    obtain ⟨Hs2, s2, ok2, z2⟩ := frzAll_ok ok1 rel1 h2
    refine ⟨by rw [z2.length]; exact hz, fun p hp => ?_⟩
    obtain ⟨ok3, s3⟩ := ok2.lay (o := .tup vs) hp
    exact q _ A1 (.ref p) _ ((s1.trans s2).trans s3) p1 ok3 (.tup (SqT.of upd_same) (z2.mono s3))
  · cases e
theorem Ok.tmpR {C : Ct} {Hs : Hp} {A : List Addr} {g : G} {σ : L2.St} {H : Hp} (ok : Ok C Hs A g σ H) (p : Addr) : RelR C.K Hs (A ++ [p]) (.ref p) (.bor g.length) := ⟨p, by rw [← ok.la]; simp, rfl⟩
theorem ze_lst {mr : ZAr} (h : ZAs X es mr) : ZE X (.List es pos) (zLst mr) := by
  refine PE.of (pe_lst h) fun σ H Q ⟨C, Hs, A, g, r, g', hK, hn, ok, e, q⟩ => ?_
  unfold zLst at e
  simp only [Option.bind_eq_bind, Option.bind_eq_some_iff] at e
  obtain ⟨⟨rs, g1⟩, h1, ⟨ds, g2⟩, h2, e⟩ := e
  split at e
  · rename_i hz
    cases e
    refine ⟨C, Hs, A, g, rs, g1, hK, hn, ok, h1, fun Hs1 A1 vs H1 s1 p1 ok1 rel1 => ?_⟩
    obtain ⟨Hs2, s2, ok2, z2⟩ := frzAll_ok ok1 rel1 h2
    refine ⟨by rw [z2.length]; exact hz, fun p hp => ?_⟩
    exact q _ (A1 ++ [p]) (.ref p) _ (s1.trans s2) (p1.trans (Pre.app _ _)) (ok2.tmp (o := .lst vs) (c := .lst ds) hp z2) (ok2.tmpR p)
  · cases e
def CallS (K : PySem.W.Frag) (r : List V → Hp → VK → Prop) (f : List D → Option D) : Prop := ∀ (H : Hp) (vs : List V) (ds : List D) (z : D) (Q : VK), DzA K H vs ds → f ds = some z → Q z.v H → r vs H Q
def zCallS (f : List D → Option D) (ma : ZAr) : ZM := fun g => do
  let (rs, g1) ← ma g
  let ds ← rdAll g1 rs
  let z ← f ds
  if z.scal = true then some (.dat z, g1) else none
theorem zcallS_of {r : List V → Hp → VK → Prop} {f : List D → Option D} {mr : ZAr} {e : Expr} (h : PE X e (tCB r (tZA X.K X.N.length mr))) (hf : CallS X.K r f) : ZE X e (zCallS f mr) := by
  refine PE.of h fun σ H Q ⟨C, Hs, A, g, r, g', hK, hn, ok, e, q⟩ => ?_
  unfold zCallS at e
  simp only [Option.bind_eq_bind, Option.bind_eq_some_iff] at e
  obtain ⟨⟨rs, g1⟩, h1, ds, h2, z, h3, e⟩ := e
  split at e
  · rename_i hs
    cases e
    refine ⟨C, Hs, A, g, rs, _, hK, hn, ok, h1, fun Hs1 A1 vs H1 s1 p1 ok1 rel1 => ?_⟩
    have x := rdAll_ok ok1 rel1 h2
    rw [hK] at x
    exact hf H1 vs ds z Q x h3 (q Hs1 A1 z.v H1 s1 p1 ok1 (D.vz hs))
  · cases e
theorem ze_callB {x : Str} {p : Pos} {id : String} {r : List V → Hp → VK → Prop} {f : List D → Option D} {mr : ZAr} (hc : CallR X (.builtin id) r) (hf : CallS X.K r f) (hg : Gl X x) (hm : X.mg x = none) (hv : bootBuiltins x = some (.builtin id)) (ha : ZAs X (a :: es) mr)
    (hn : x ≠ "__name__" := by decide) (hdb : (x == ("__debug__" : Str)) = false := by decide) (he : starEach (a :: es) X.env = (false, eval a X.env) :: starEach es X.env := by rfl) (hpl : (backTo pos (starEach es X.env)).any (·.1) = false := by rfl) :
    ZE X (.Call (.Name x p) (a :: es) [] pos) (zCallS f mr) := zcallS_of (pe_callB hc hg hm hv ha hn hdb he hpl) hf
theorem ze_callTy {x : Str} {p : Pos} {T : String} {r : List V → Hp → VK → Prop} {f : List D → Option D} {mr : ZAr} (hc : CallR X (.type T) r) (hf : CallS X.K r f) (hg : Gl X x) (hm : X.mg x = none) (hv : bootBuiltins x = some (.type T)) (ha : ZAs X (a :: es) mr)
    (hn : x ≠ "__name__" := by decide) (hdb : (x == ("__debug__" : Str)) = false := by decide) (he : starEach (a :: es) X.env = (false, eval a X.env) :: starEach es X.env := by rfl) (hpl : (backTo pos (starEach es X.env)).any (·.1) = false := by rfl) :
    ZE X (.Call (.Name x p) (a :: es) [] pos) (zCallS f mr) := zcallS_of (pe_callTy hc hg hm hv ha hn hdb he hpl) hf
/-- methods of texts with a plain answer -/
def MtS (K : PySem.W.Frag) (r : V → List V → Hp → VK → Prop) (f : D → List D → Option D) : Prop := ∀ (H : Hp) (x : V) (vs : List V) (d : D) (ds : List D) (z : D) (Q : VK), Dz K H x d → DzA K H vs ds → f d ds = some z → Q z.v H → r x vs H Q
def tyD (T : String) : D → Bool
  | .str _ => T == "str"
  | .int _ => T == "int"
  | .lst _ => T == "list"
  | _ => false
theorem tyD_of {K : PySem.W.Frag} {H : Hp} {T : String} {x : V} {d : D} (h : Dz K H x d) (e : tyD T d = true) : tyV K T x H := by
  cases h with
  | str s => exact (beq_iff_eq.mp e : T = "str")
  | int i => exact (beq_iff_eq.mp e : T = "int")
  | lst hs ha => exact .inl ⟨beq_iff_eq.mp e, _, hs⟩
  | non => exact absurd e (by simp [tyD])
  | bl _ => exact absurd e (by simp [tyD])
  | tup _ _ => exact absurd e (by simp [tyD])
  | raw _ => exact absurd e (by simp [tyD])
  | dic _ _ _ => exact absurd e (by simp [tyD])
  | obj _ _ _ _ => exact absurd e (by simp [tyD])
def zMt (T : String) (f : D → List D → Option D) (mo : ZM) (ma : ZAr) : ZM := fun g => do
  let (r, g1) ← mo g
  let d ← rd g1 r
  if tyD T d = true then do
    let (rs, g2) ← ma g1
    let d2 ← rd g2 r
    let ds ← rdAll g2 rs
    let z ← f d2 ds
    if z.scal = true then some (.dat z, g2) else none
  else none
theorem zmt_of {T : String} {r : V → List V → Hp → VK → Prop} {f : D → List D → Option D} {mo : ZM} {mr : ZAr} (hf : MtS X.K r f) {σ : L2.St} {H : Hp} {Q : VK} (h : tZ X.K X.N.length (zMt T f mo mr) σ H Q) :
    tBM X.K T r (tZ X.K X.N.length mo) (tZA X.K X.N.length mr) σ H Q := by
  obtain ⟨C, Hs, A, g, r, g', hK, hn, ok, e, q⟩ := h
  unfold zMt at e
  simp only [Option.bind_eq_bind, Option.bind_eq_some_iff] at e
  obtain ⟨⟨r1, g1⟩, h1, d, h2, e⟩ := e
  split at e
  · rename_i ht
    simp only [Option.bind_eq_some_iff] at e
    obtain ⟨⟨rs, g2⟩, h3, d2, h4, ds, h5, z, h6, e⟩ := e
    split at e
    · rename_i hs
      cases e
      refine ⟨C, Hs, A, g, r1, g1, hK, hn, ok, h1, fun Hs1 A1 v1 H1 s1 p1 ok1 rel1 => ?_⟩
      have x := ok1.rd rel1 h2
      rw [hK] at x
      refine ⟨tyD_of x ht, C, Hs1, A1, g1, rs, _, hK, hn, ok1, h3, fun Hs2 A2 vs H2 s2 p2 ok2 rel2 => ?_⟩
      have y := ok2.rd (rel1.mono s2 p2) h4
      have w := rdAll_ok ok2 rel2 h5
      rw [hK] at y w
      exact hf H2 v1 vs d2 ds z Q y w h6 (q Hs2 A2 z.v H2 (s1.trans s2) (p1.trans p2) ok2 (D.vz hs))
    · cases e
  · cases e
theorem ze_mt {o : Expr} {name : Str} {apos : Pos} {T id : String} {r : V → List V → Hp → VK → Prop} {f : D → List D → Option D} {mo : ZM} {mr : ZAr} (pa : PlainAttrs T) (slot : Slot T name id) (hty : typeOf (.builtin id) = pure (.type "method_descriptor")) (hm : MtR X id r) (hf : MtS X.K r f)
    (ho : ZE X o mo) (ha : ZAs X (a :: es) mr)
    (hbase : attributeBase o name X.env (eval o X.env) = eval o X.env := by rfl)
    (hfew : ((backTo pos (starEach (a :: es) X.env)).all (fun x => !x.1) && (backToKw pos (keywordEach [] X.env)).all (fun x => x.1.isSome)
      && decide ((a :: es).length + ([] : List Keyword).length + (if ([] : List Keyword).isEmpty then 0 else 1) < 30)) = true := by rfl)
    (hline : (apos.endLine == pos.line) = true := by rfl) (hs : starEach (a :: es) X.env = (false, eval a X.env) :: starEach es X.env := by rfl) (hplain : (backTo pos (starEach es X.env)).any (·.1) = false := by rfl) :
    ZE X (.Call (.Attribute o name apos) (a :: es) [] pos) (zMt T f mo mr) :=
  PE.of (pe_bm pa slot hty hm ho ha hbase hfew hline hs hplain) fun σ H Q h => zmt_of hf h
end
end Z
set_option Elab.async false
set_option linter.all false
set_option maxRecDepth 100000
set_option maxHeartbeats 4000000
namespace Z
open PySem PySem.Spec PyProof.Rows L2
theorem relB {K : PySem.W.Frag} {Hs : Hp} {A : List Addr} {a : Addr} {j : Nat} (h : A[j]? = some a) : RelR K Hs A (.ref a) (.bor j) := ⟨a, h, rfl⟩
inductive Fl where
  | nx | ret (r : R) | bk | ct
  deriving Inhabited
abbrev SM := G → Option (Fl × G)
def FlP (C : Ct) (Hs : Hp) (g' : G) (D : Ends) : Fl → Prop
  | .nx => ∀ (Hs' : Hp) (A' : List Addr) (σ' : L2.St) (H' : Hp), Same Hs Hs' → Ok C Hs' A' g' σ' H' → D.nx σ' H'
  | .bk => ∀ (Hs' : Hp) (A' : List Addr) (σ' : L2.St) (H' : Hp), Same Hs Hs' → Ok C Hs' A' g' σ' H' → D.bk σ' H'
  | .ct => ∀ (Hs' : Hp) (A' : List Addr) (σ' : L2.St) (H' : Hp), Same Hs Hs' → Ok C Hs' A' g' σ' H' → D.ct σ' H'
  | .ret r => ∀ (Hs' : Hp) (A' : List Addr) (σ' : L2.St) (H' : Hp) (v : V), Same Hs Hs' → Ok C Hs' A' g' σ' H' → RelR C.K Hs' A' v r → D.rt v H'
theorem FlP.mono {C : Ct} {Hs Hs1 : Hp} {g' : G} {D : Ends} {fl : Fl} (s : Same Hs Hs1) (h : FlP C Hs g' D fl) : FlP C Hs1 g' D fl := by
  cases fl with
  | nx => exact fun Hs' A' σ' H' s1 ok => h Hs' A' σ' H' (s.trans s1) ok
  | bk => exact fun Hs' A' σ' H' s1 ok => h Hs' A' σ' H' (s.trans s1) ok
  | ct => exact fun Hs' A' σ' H' s1 ok => h Hs' A' σ' H' (s.trans s1) ok
  | ret r => exact fun Hs' A' σ' H' v s1 ok => h Hs' A' σ' H' v (s.trans s1) ok
def tZS (K : PySem.W.Frag) (n : Nat) (s : SM) : TS := fun D σ H => ∃ (C : Ct) (Hs : Hp) (A : List Addr) (g : G) (fl : Fl) (g' : G), C.K = K ∧ C.n = n ∧ Ok C Hs A g σ H ∧ s g = some (fl, g') ∧ FlP C Hs g' D fl
abbrev ZS (X : Cx) (st : Stmt) (s : SM) : Prop := PS X st (tZS X.K X.N.length s)
abbrev ZSs (X : Cx) (st : List Stmt) (s : SM) : Prop := PSs X st (tZS X.K X.N.length s)
def zNx : SM := fun g => some (.nx, g)
def zBk : SM := fun g => some (.bk, g)
def zCt : SM := fun g => some (.ct, g)
def zSeq (s t : SM) : SM := fun g => do
  let (fl, g1) ← s g
  match fl with
  | .nx => t g1
  | fl => some (fl, g1)
def zRet (m : ZM) : SM := fun g => do
  let (r, g1) ← m g
  some (.ret r, g1)
def zIfS (n : Nat) (t : ZT) (s1 s2 : SM) : SM := fun g => do
  let (b, g1) ← t g
  if b = true then s1 (g1.take n) else s2 (g1.take n)
/-- a value goes to the slot i -/
def setR (n i : Nat) (r : R) (g : G) : Option G := match r with
  | .dat d => setDat i d g
  | .bor j => if n ≤ j then
      match g[j]? with
      | some (.own c false false) => if freeAt i g = true then some ((g.set i (.own c false false)).set j .un) else none
      | some (.frz d) => setDat i d g
      | some (.rws ls) => if freeAt i g = true then some ((g.set i (.rws ls)).set j .un) else none
      | _ => none
    else do
      let (d, g1) ← frzAt j g
      setDat i d g1
def zSet (n i : Nat) (m : ZM) : SM := fun g => do
  let (r, g1) ← m g
  let g2 ← setR n i r g1
  some (.nx, g2.take n)
section
variable {X : Cx} {pos : Pos} {st : Stmt} {rest : List Stmt} {s t : SM} {m : ZM}
theorem zss_nil : ZSs X [] zNx := by
  refine PSs.of pss_nil fun D σ H ⟨C, Hs, A, g, fl, g', hK, hn, ok, e, q⟩ => ?_
  cases e
  exact q Hs A σ H (Same.refl _) ok
theorem seq_of {D : Ends} {σ : L2.St} {H : Hp} {K : PySem.W.Frag} {n : Nat} (h : tZS K n (zSeq s t) D σ H) : tSeq (tZS K n s) (tZS K n t) D σ H := by
  obtain ⟨C, Hs, A, g, fl, g', hK, hn, ok, e, q⟩ := h
  unfold zSeq at e
  simp only [Option.bind_eq_bind, Option.bind_eq_some_iff] at e
  obtain ⟨⟨fl1, g1⟩, h1, e⟩ := e
  refine ⟨C, Hs, A, g, fl1, g1, hK, hn, ok, h1, ?_⟩
  cases fl1 with
  | nx => exact fun Hs' A' σ' H' s1 ok1 => ⟨C, Hs', A', g1, fl, g', hK, hn, ok1, e, q.mono s1⟩
  | bk => cases e; exact q
  | ct => cases e; exact q
  | ret r => cases e; exact q
theorem zss_cons (h1 : ZS X st s) (h2 : ZSs X rest t) : ZSs X (st :: rest) (zSeq s t) := PSs.of (pss_cons h1 h2) fun D σ H h => seq_of h
theorem zss_one (h1 : ZS X st s) : ZSs X [st] s := pss_one h1
theorem zs_ret {e : Expr} (he : ZE X e m) : ZS X (.Return (some e) pos) (zRet m) := by
  refine PS.of (ps_ret he) fun D σ H ⟨C, Hs, A, g, fl, g', hK, hn, ok, e, q⟩ => ?_
  unfold zRet at e
  simp only [Option.bind_eq_bind, Option.bind_eq_some_iff] at e
  obtain ⟨⟨r1, g1⟩, h1, e⟩ := e
  cases e
  exact ⟨C, Hs, A, g, r1, _, hK, hn, ok, h1, fun Hs1 A1 v1 H1 s1 p1 ok1 rel1 => q Hs1 A1 σ H1 v1 s1 ok1 rel1⟩
theorem zs_if {c : Expr} {a b : List Stmt} {tc : ZT} (hc : ZTe X c tc) (ha : ZSs X a s) (hb : ZSs X b t) : ZS X (.If c a b pos) (zIfS X.N.length tc s t) := by
  refine PS.of (ps_if hc ha hb) fun D σ H ⟨C, Hs, A, g, fl, g', hK, hn, ok, e, q⟩ => ?_
  unfold zIfS at e
  simp only [Option.bind_eq_bind, Option.bind_eq_some_iff] at e
  obtain ⟨⟨b1, g1⟩, h1, e⟩ := e
  refine ⟨C, Hs, A, g, b1, g1, hK, hn, ok, h1, fun Hs1 A1 H1 s1 p1 ok1 => ?_⟩
  have ok2 := ok1.cut
  rw [hn] at ok2
  cases b1 with
  | true => exact ⟨C, Hs1, _, _, fl, g', hK, hn, ok2, e, q.mono s1⟩
  | false => exact ⟨C, Hs1, _, _, fl, g', hK, hn, ok2, e, q.mono s1⟩
theorem Ok.setR {C : Ct} {Hs : Hp} {A : List Addr} {g g' : G} {σ : L2.St} {H : Hp} {i : Nat} {v : V} {r : R} (ok : Ok C Hs A g σ H) (hi : i < C.n) (h : RelR C.K Hs A v r) (e : setR C.n i r g = some g') :
    ∃ Hs' A', Same Hs Hs' ∧ Ok C Hs' A' g' (σ.set i (some v)) H := by
  unfold Z.setR at e
  cases r with
  | dat d => exact ⟨Hs, A, Same.refl _, ok.set e hi h⟩
  | bor j =>
    obtain ⟨a, ha, rfl⟩ := (show ∃ a, A[j]? = some a ∧ v = .ref a from h)
    simp only at e
    split at e
    · rename_i hj
      split at e
      · rename_i c hg
        split at e
        · rename_i hf
          cases e
          exact ⟨Hs, _, Same.refl _, ok.move hf hi hj hg ha⟩
        · cases e
      · rename_i d hg
        obtain ⟨a', h1, _, h3⟩ := ok.frz j d hg
        rw [ha] at h1
        have e1 : a = a' := Option.some.inj h1
        subst e1
        exact ⟨Hs, A, Same.refl _, ok.set e hi h3⟩
      · rename_i ls hg
        split at e
        · rename_i hf
          cases e
          exact ⟨Hs, _, Same.refl _, ok.moveR hf hi hj hg ha⟩
        · cases e
      · cases e
    · simp only [Option.bind_eq_bind, Option.bind_eq_some_iff] at e
      obtain ⟨⟨d, g1⟩, h1, e⟩ := e
      obtain ⟨Hs', a', s, ok', h2, dz⟩ := ok.frzAt h1
      rw [ha] at h2
      have e1 : a = a' := Option.some.inj h2
      subst e1
      exact ⟨Hs', A, s, ok'.set e hi dz⟩
theorem set_of {i : Nat} {D : Ends} {σ : L2.St} {H : Hp} {K : PySem.W.Frag} {n : Nat} (hi : i < n) (h : tZS K n (zSet n i m) D σ H) : tAsg (tZ K n m) (gName i) D σ H := by
  obtain ⟨C, Hs, A, g, fl, g', hK, hn, ok, e, q⟩ := h
  unfold zSet at e
  simp only [Option.bind_eq_bind, Option.bind_eq_some_iff] at e
  obtain ⟨⟨r1, g1⟩, h1, g2, h2, e⟩ := e
  cases e
  refine ⟨C, Hs, A, g, r1, g1, hK, hn, ok, h1, fun Hs1 A1 v1 H1 s1 p1 ok1 rel1 => ?_⟩
  rw [← hn] at h2
  obtain ⟨Hs2, A2, s2, ok2⟩ := ok1.setR (by rw [hn]; exact hi) rel1 h2
  have ok3 := ok2.cut
  rw [hn] at ok3
  exact q Hs2 _ _ H1 (s1.trans s2) ok3
/-- name = value -/
theorem zs_set {i : Nat} {x : Str} {e : Expr} {pos' : Pos} (hN : X.N.Nodup) (hi : X.N[i]? = some x) (hx : Loc X.env.scope x) (he : ZE X e m) (hs : swapsWith e (some (.Name x pos')) pos.line X.env = pure false := by rfl) (hf : X.fn x = true ∨ X.env.scope.names.lookup x = some .local := by first | exact .inl rfl | exact .inr rfl | assumption) :
    ZS X (.Assign [.Name x pos'] e pos) (zSet X.N.length i m) :=
  PS.of (ps_set hN hi hx he hs hf) fun D σ H h => set_of (List.getElem?_eq_some_iff.mp hi).1 h
def zAug (n i : Nat) (f : D → D → Option D) (m : ZM) : SM := fun g => do
  let (r0, _) ← zVar i g
  let d ← rd g r0
  if d.scal = true then do
    let (r, g1) ← m g
    let e ← rd g1 r
    let z ← f d e
    if z.scal = true then do
      let g2 ← setDat i z g1
      some (.nx, g2.take n)
    else none
  else none
abbrev TD := D → G → Option G
def tZG (K : PySem.W.Frag) (n : Nat) (tg : TD) : TG := fun v σ H Q => ∃ (C : Ct) (Hs : Hp) (A : List Addr) (g : G) (d : D) (g' : G), C.K = K ∧ C.n = n ∧ Ok C Hs A g σ H ∧ Dz K Hs v d ∧ tg d g = some g' ∧
  ∀ (σ' : L2.St), Ok C Hs A g' σ' H → Q σ' H
abbrev ZG (X : Cx) (e : Expr) (tg : TD) : Prop := PG X e (tZG X.K X.N.length tg)
theorem PG.of {e : Expr} {t t' : TG} (h : PG X e t) (w : ∀ v σ H Q, t' v σ H Q → t v σ H Q) : PG X e t' := ⟨fun pins s σ H v u Q I r q => h.run pins s σ H v u Q I r (w v σ H Q q)⟩
theorem PGs.of {es : List Expr} {t t' : TGs} (h : PGs X es t) (w : ∀ v σ H Q, t' v σ H Q → t v σ H Q) : PGs X es t' := ⟨fun pins s σ H v u Q I r q => h.run pins s σ H v u Q I r (w v σ H Q q)⟩
def gN (i : Nat) : TD := fun d g => setDat i d g
theorem zg_name {i : Nat} {x : Str} (hN : X.N.Nodup) (hi : X.N[i]? = some x) (hx : Loc X.env.scope x) (hf : X.fn x = true ∨ X.env.scope.names.lookup x = some .local := by first | exact .inl rfl | exact .inr rfl | assumption) : ZG X (.Name x pos) (gN i) := by
  refine PG.of (pg_name hN hi hx hf) fun v σ H Q ⟨C, Hs, A, g, d, g', hK, hn, ok, hd, e, q⟩ => ?_
  rw [← hK] at hd
  exact q _ (ok.set e (by rw [hn]; exact (List.getElem?_eq_some_iff.mp hi).1) hd)
/-- target = value -/
def zAsg (n : Nat) (m : ZM) (tg : TD) : SM := fun g => do
  let (r, g1) ← m g
  let (d, g2) ← frzR r g1
  let g3 ← tg d g2
  some (.nx, g3.take n)
def zApp (n : Nat) (mo me : ZM) : SM := fun g => do
  let (ro, g1) ← mo g
  match ro with
  | .bor j => match g1[j]? with
    | some (.own (.lst _) _ _) => do
      let (re, g2) ← me g1
      let (d, g3) ← frzR re g2
      match g3[j]? with
      | some (.own (.lst ds) p false) => if ds.length < sizeLine then some (.nx, (g3.set j (.own (.lst (ds ++ [d])) p false)).take n) else none
      | _ => none
    | _ => none
  | _ => none
theorem CnOk.lst_inv {K : PySem.W.Frag} {H : Hp} {ds : List D} {o : HO} (h : CnOk K H (.lst ds) o) : ∃ vs, o = .lst vs ∧ DzA K H vs ds := by
  cases o with
  | lst vs => exact ⟨vs, rfl, h⟩
  | _ => exact (show False from h).elim
/-- what stands at a borrowed list -/
theorem Ok.bor {C : Ct} {Hs : Hp} {A : List Addr} {g : G} {σ : L2.St} {H : Hp} {v : V} {j : Nat} {ds : List D} {p l : Bool} (ok : Ok C Hs A g σ H) (h : RelR C.K Hs A v (.bor j)) (e : g[j]? = some (.own (.lst ds) p l)) :
    ∃ a vs, v = .ref a ∧ A[j]? = some a ∧ H a = some (.lst vs) ∧ DzA C.K Hs vs ds := by
  obtain ⟨a, ha, rfl⟩ := (show ∃ a, A[j]? = some a ∧ v = .ref a from h)
  obtain ⟨a', o, w1, _, _, w4, w5, _⟩ := ok.own j _ _ _ e
  rw [ha] at w1
  have e1 : a = a' := Option.some.inj w1
  subst e1
  obtain ⟨vs, rfl, z⟩ := w5.lst_inv
  exact ⟨a, vs, rfl, ha, w4, z⟩
theorem zs_app {o e : Expr} {apos cpos : Pos} {mo me : ZM} (ho : ZE X o mo) (he : ZE X e me)
    (hbase : attributeBase o "append" X.env (eval o X.env) = eval o X.env := by rfl)
    (hfew : ((backTo cpos (starEach [e] X.env)).all (fun x => !x.1) && (backToKw cpos (keywordEach [] X.env)).all (fun x => x.1.isSome)
      && decide ([e].length + ([] : List Keyword).length + (if ([] : List Keyword).isEmpty then 0 else 1) < 30)) = true := by rfl)
    (hline : (apos.endLine == cpos.line) = true := by rfl) (hs : starEach [e] X.env = (false, eval e X.env) :: starEach [] X.env := by rfl) (hplain : (backTo cpos (starEach [] X.env)).any (·.1) = false := by rfl)
    (hsw : swapsWith (.Call (.Attribute o "append" apos) [e] [] cpos) none pos.line X.env = pure false := by rfl) :
    ZS X (.Expr (.Call (.Attribute o "append" apos) [e] [] cpos) pos) (zApp X.N.length mo me) := by
  refine PS.of (ps_expr (pe_bm PySem.F.plainAttrs_list PySem.F.slot_list_append PySem.F.type_list_append mt_append ho (pa_cons he pa_nil hs) hbase hfew hline hs hplain) hsw) fun D σ H ⟨C, Hs, A, g, fl, g', hK, hn, ok, e, q⟩ => ?_
  unfold zApp at e
  simp only [Option.bind_eq_bind, Option.bind_eq_some_iff] at e
  obtain ⟨⟨ro, g1⟩, h1, e⟩ := e
  cases ro with
  | dat d => cases e
  | bor j =>
    simp only at e
    split at e
    · rename_i ds0 p0 l0 hg0
      simp only [Option.bind_eq_some_iff] at e
      obtain ⟨⟨re, g2⟩, h2, ⟨d, g3⟩, h3, e⟩ := e
      split at e
      · rename_i ds p hg
        split at e
        · rename_i hz
          cases e
          refine ⟨C, Hs, A, g, _, g1, hK, hn, ok, h1, fun Hs1 A1 v1 H1 s1 p1 ok1 rel1 => ?_⟩
          obtain ⟨a, ys, ev, _, hH, _⟩ := ok1.bor rel1 hg0
          subst ev
          refine ⟨.inl ⟨rfl, ys, SqL.of hH⟩, C, Hs1, A1, g1, re, g2, hK, hn, ok1, h2, fun Hs2 A2 v2 H2 s2 p2 ok2 rel2 => ?_⟩
          obtain ⟨Hs3, s3, ok3, dz⟩ := ok2.frzR rel2 h3
          obtain ⟨a', vs, ea, hA, hH3, hz3⟩ := ok3.bor (rel1.mono (s2.trans s3) p2) hg
          cases ea
          refine ⟨a, vs, v2, rfl, rfl, hH3, by rw [hz3.length]; exact hz, ?_⟩
          have ok4 := (ok3.wr (o := .lst (vs ++ [v2])) (c' := .lst (ds ++ [d])) hg hA (show DzA C.K Hs3 (vs ++ [v2]) (ds ++ [d]) from hz3.append (.cons dz .nil))).cut
          rw [hn] at ok4
          exact q Hs3 _ σ _ ((s1.trans s2).trans s3) ok4
        · cases e
      · cases e
    · cases e
def isI : R → Option Int
  | .dat (.int i) => some i
  | _ => none
theorem isI_some {r : R} {b : Int} (h : isI r = some b) : r = .dat (.int b) := by
  unfold isI at h
  split at h
  · cases h; rfl
  · cases h
/-- xs[i] = e -/
def zSto (n : Nat) (mo mi me : ZM) : SM := fun g => do
  let (re, g1) ← me g
  let (d, g2) ← frzR re g1
  let (ro, g3) ← mo g2
  match ro with
  | .bor j => do
    let (ri, g4) ← mi g3
    let k ← isI ri
    match g4[j]? with
    | some (.own (.lst ds) p false) => match ixN ds.length k with
      | some m => some (.nx, (g4.set j (.own (.lst (ds.set m d)) p false)).take n)
      | none => none
    | _ => none
  | _ => none
theorem zs_sto {o i e : Expr} {tpos : Pos} {mo mi me : ZM} (he : ZE X e me) (ho : ZE X o mo) (hi : ZE X i mi)
    (ha : ∀ v, assign (.Subscript o i tpos) X.env v = (do
      let ov ← holding [v] (eval o X.env)
      let iv ← holding [v, ov] (eval i X.env)
      standAt tpos
      holding [v, ov, iv] (setItem ov iv v)
      release [v, ov, iv] []) := by intro _; rfl)
    (hs : swapsWithSole [.Subscript o i tpos] e pos.line X.env = pure false := by rfl) (hw : swappedStores [.Subscript o i tpos] e X.env = pure none := by rfl)
    (h1 : (assignEach [.Subscript o i tpos] X.env).map (·.2) = [assign (.Subscript o i tpos) X.env] := by rfl) : ZS X (.Assign [.Subscript o i tpos] e pos) (zSto X.N.length mo mi me) := by
  refine PS.of (ps_asg he (pg_sub ho hi set_list ha) hs hw h1) fun W σ H ⟨C, Hs, A, g, fl, g', hK, hn, ok, e, q⟩ => ?_
  unfold zSto at e
  simp only [Option.bind_eq_bind, Option.bind_eq_some_iff] at e
  obtain ⟨⟨re, g1⟩, h1, ⟨d, g2⟩, h2, ⟨ro, g3⟩, h3, e⟩ := e
  cases ro with
  | dat d => cases e
  | bor j =>
    simp only [Option.bind_eq_some_iff] at e
    obtain ⟨⟨ri, g4⟩, h4, k, hk, e⟩ := e
    have ei : ri = .dat (.int k) := isI_some hk
    subst ei
    split at e
    · rename_i ds p hg
      split at e
      · rename_i m hm
        cases e
        refine ⟨C, Hs, A, g, re, g1, hK, hn, ok, h1, fun Hs1 A1 v1 H1 s1 p1 ok1 rel1 => ?_⟩
        obtain ⟨Hs2, s2, ok2, dz⟩ := ok1.frzR rel1 h2
        refine ⟨C, Hs2, A1, g2, _, g3, hK, hn, ok2, h3, fun Hs3 A3 v3 H3 s3 p3 ok3 rel3 => ?_⟩
        refine ⟨C, Hs3, A3, g3, _, _, hK, hn, ok3, h4, fun Hs4 A4 v4 H4 s4 p4 ok4 rel4 => ?_⟩
        have ek : v4 = .int k := (show Dz C.K Hs4 v4 (.int k) from rel4).v rfl
        subst ek
        obtain ⟨a, vs, ev, hA, hH, hz⟩ := ok4.bor (rel3.mono s4 p4) hg
        subst ev
        refine ⟨a, vs, k, m, rfl, rfl, hH, by rw [hz.length]; exact hm, ?_⟩
        have ok5 := (ok4.wr (o := .lst (vs.set m v1)) (c' := .lst (ds.set m d)) hg hA (show DzA C.K Hs4 (vs.set m v1) (ds.set m d) from DzA.set ((dz.mono s3).mono s4) m hz)).cut
        rw [hn] at ok5
        exact q Hs4 _ σ _ (((s1.trans s2).trans s3).trans s4) ok5
      · cases e
    · cases e
end
end Z
set_option Elab.async false
set_option linter.all false
set_option maxRecDepth 100000
set_option maxHeartbeats 4000000
namespace Z
open PySem PySem.Spec PyProof.Rows L2
/-- the source of a walk still stands -/
def Src (K : PySem.W.Frag) (Hs0 : Hp) : Option (Addr × Cn) → Hp → Hp → Prop
  | none, Hs, H => Same Hs0 Hs ∧ Same Hs H
  | some (a, c), Hs, H => ∃ o, H a = some o ∧ CnOk K Hs c o
structure JW (K : PySem.W.Frag) (J : It) (L : List D) (St : Hp → Hp → Prop) : Prop where
  stop : ∀ Hs H (i : Nat), St Hs H → L.length ≤ i → J.stop i H
  go : ∀ Hs H (i : Nat), St Hs H → i < L.length → J.go i H
  yld : ∀ (C : Ct) (Hs : Hp) (A : List Addr) (g : G) (σ : L2.St) (H : Hp) (i : Nat) (x : V) (H' : Hp), C.K = K → Ok C Hs A g σ H → St Hs H → i < L.length → J.yld i H x H' →
    ∃ d Hs', L[i]? = some d ∧ Same Hs Hs' ∧ Ok C Hs' A g σ H' ∧ Dz K Hs' x d
def LkOk (n : Nat) (A : List Addr) (g : G) : Option Nat → Option (Addr × Cn) → Prop
  | none, none => True
  | some j, some (a, c) => A[j]? = some a ∧ (∃ p l, g[j]? = some (.own c p l)) ∧ j < n
  | _, _ => False
abbrev MI := G → Option (List D × Option Nat × G)
def tZI (K : PySem.W.Frag) (n : Nat) (mi : MI) : TI := fun σ H Rr => ∃ (C : Ct) (Hs : Hp) (A : List Addr) (g : G) (L : List D) (lk : Option Nat) (g' : G), C.K = K ∧ C.n = n ∧ Ok C Hs A g σ H ∧ mi g = some (L, lk, g') ∧
  ∀ (Hs' : Hp) (A' : List Addr) (H' : Hp) (J : It) (lk' : Option (Addr × Cn)), Same Hs Hs' → Pre A A' → Ok C Hs' A' g' σ H' → LkOk n A' g' lk lk' → JW K J L (Src K Hs' lk') → Rr J H'
abbrev ZI (X : Cx) (tg iter : Expr) (mi : MI) : Prop := PI X tg iter (tZI X.K X.N.length mi)
theorem PI.of {X : Cx} {tg iter : Expr} {t t' : TI} (h : PI X tg iter t) (w : ∀ σ H Rr, t' σ H Rr → t σ H Rr) : PI X tg iter t' := ⟨fun pins s σ H Rr I q => h.run pins s σ H Rr I (w σ H Rr q)⟩
def ziB (n j : Nat) (g1 : G) : Option (List D × Option Nat × G) := if j < n then
    (match g1[j]? with
    | some (.own (.lst L) _ _) => some (L, some j, g1)
    | some (.frz (.lst L)) => some (L, none, g1)
    | some (.rws ls) => some (ls.map D.lst, none, g1.set j (.frz (.lst (ls.map D.lst))))
    | _ => none)
  else (match frzAt j g1 with
    | some (.lst L, g2) => some (L, none, g2)
    | _ => none)
def ziL (n : Nat) (m : ZM) : MI := fun g => do
  let (r, g1) ← m g
  match r with
  | .dat (.lst L) => some (L, none, g1)
  | .bor j => ziB n j g1
  | _ => none
theorem jw_list {K : PySem.W.Frag} {Hs0 : Hp} {a : Addr} {vs : List V} {L : List D} (h : SqL K Hs0 a vs) (hz : DzA K Hs0 vs L) : JW K (Itl K a) L (Src K Hs0 none) where
  stop := fun Hs H i st hi => ⟨vs, (st.1.trans st.2).seq h, by rw [hz.length]; exact hi⟩
  go := fun Hs H i st hi => by
    have hv : i < vs.length := by rw [hz.length]; exact hi
    exact ⟨vs, vs[i], (st.1.trans st.2).seq h, List.getElem?_eq_getElem hv⟩
  yld := fun C Hs A g σ H i x H' hK ok st hi y => by
    obtain ⟨rfl, y⟩ := y
    obtain ⟨d, h1, h2⟩ := (hz.mono st.1).getV (y vs ((st.1.trans st.2).seq h))
    exact ⟨d, Hs, h1, Same.refl _, ok, h2⟩
theorem jw_own {K : PySem.W.Frag} {Hs0 : Hp} {a : Addr} {L : List D} : JW K (Itl K a) L (Src K Hs0 (some (a, .lst L))) where
  stop := fun Hs H i st hi => by
    obtain ⟨o, h1, h2⟩ := st
    obtain ⟨vs, rfl, hz⟩ := h2.lst_inv
    exact ⟨vs, SqL.of h1, by rw [hz.length]; exact hi⟩
  go := fun Hs H i st hi => by
    obtain ⟨o, h1, h2⟩ := st
    obtain ⟨vs, rfl, hz⟩ := h2.lst_inv
    have hv : i < vs.length := by rw [hz.length]; exact hi
    exact ⟨vs, vs[i], SqL.of h1, List.getElem?_eq_getElem hv⟩
  yld := fun C Hs A g σ H i x H' hK ok st hi y => by
    obtain ⟨o, h1, h2⟩ := st
    obtain ⟨vs, rfl, hz⟩ := h2.lst_inv
    obtain ⟨rfl, y⟩ := y
    obtain ⟨d, w1, w2⟩ := hz.getV (y vs (SqL.of h1))
    exact ⟨d, Hs, w1, Same.refl _, ok, w2⟩
section
variable {X : Cx} {pos : Pos} {tg : Expr} {m : ZM}
theorem zi_list {l : Expr} (hl : ZE X l m) : ZI X tg l (ziL X.N.length m) := by
  refine PI.of (pi_list hl) fun σ H Rr ⟨C, Hs, A, g, L, lk, g', hK, hn, ok, e, q⟩ => ?_
  unfold ziL at e
  simp only [Option.bind_eq_bind, Option.bind_eq_some_iff] at e
  obtain ⟨⟨r, g1⟩, h1, e⟩ := e
  refine ⟨C, Hs, A, g, r, g1, hK, hn, ok, h1, fun Hs1 A1 v1 H1 s1 p1 ok1 rel1 => ?_⟩
  cases r with
  | dat d =>
    cases d with
    | lst L' =>
      cases e
      have hd : Dz C.K Hs1 v1 (.lst L) := rel1
      rw [hK] at hd
      cases hd with
      | lst hs ha => exact ⟨_, rfl, ⟨_, ok1.same.seq hs⟩, q Hs1 A1 H1 _ none s1 p1 ok1 trivial (jw_list hs ha)⟩
    | _ => cases e
  | bor j =>
    obtain ⟨a, ha, rfl⟩ := (show ∃ a, A1[j]? = some a ∧ v1 = .ref a from rel1)
    simp only [ziB] at e
    split at e
    · rename_i hj
      split at e
      · rename_i L' p l hg
        cases e
        obtain ⟨a', vs, ev, hA, hH, hz⟩ := ok1.bor rel1 hg
        cases ev
        refine ⟨a, rfl, ⟨vs, SqL.of hH⟩, q Hs1 A1 H1 _ (some (a, .lst L)) s1 p1 ok1 ⟨ha, ⟨p, l, hg⟩, hj⟩ jw_own⟩
      · rename_i L' hg
        cases e
        obtain ⟨a', w1, _, hd⟩ := ok1.frz j _ hg
        rw [ha] at w1
        cases w1
        rw [hK] at hd
        cases hd with
        | lst hs hz => exact ⟨a, rfl, ⟨_, ok1.same.seq hs⟩, q Hs1 A1 H1 _ none s1 p1 ok1 trivial (jw_list hs hz)⟩
      · rename_i ls hg
        cases e
        obtain ⟨Hs2, a', s2, ok2, w1, hd⟩ := ok1.frzAt (d := .lst (ls.map D.lst)) (g' := g1.set j (.frz (.lst (ls.map D.lst)))) (by unfold Z.frzAt; rw [hg])
        rw [ha] at w1
        cases w1
        rw [hK] at hd
        cases hd with
        | lst hs hz => exact ⟨a, rfl, ⟨_, ok2.same.seq hs⟩, q Hs2 A1 H1 _ none (s1.trans s2) p1 ok2 trivial (jw_list hs hz)⟩
      · cases e
    · split at e
      · rename_i L' g2 h2
        cases e
        obtain ⟨Hs2, a', s2, ok2, w1, hd⟩ := ok1.frzAt h2
        rw [ha] at w1
        cases w1
        rw [hK] at hd
        cases hd with
        | lst hs hz => exact ⟨a, rfl, ⟨_, ok2.same.seq hs⟩, q Hs2 A1 H1 _ none (s1.trans s2) p1 ok2 trivial (jw_list hs hz)⟩
      · cases e
def ziT (m : ZM) : MI := fun g => do
  let (r, g1) ← m g
  match r with
  | .dat (.tup L) => some (L, none, g1)
  | _ => none
theorem zi_tup {l : Expr} (hl : ZE X l m) : ZI X tg l (ziT m) := by
  refine PI.of (pi_tup hl) fun σ H Rr ⟨C, Hs, A, g, L, lk, g', hK, hn, ok, e, q⟩ => ?_
  unfold ziT at e
  simp only [Option.bind_eq_bind, Option.bind_eq_some_iff] at e
  obtain ⟨⟨r, g1⟩, h1, e⟩ := e
  refine ⟨C, Hs, A, g, r, g1, hK, hn, ok, h1, fun Hs1 A1 v1 H1 s1 p1 ok1 rel1 => ?_⟩
  cases r with
  | bor j => cases e
  | dat d =>
    cases d with
    | tup L' =>
      cases e
      have hd : Dz C.K Hs1 v1 (.tup L) := rel1
      rw [hK] at hd
      cases hd with
      | tup hs ha =>
        rename_i a vs
        refine ⟨a, rfl, ⟨vs, sameT ok1.same hs⟩, q Hs1 A1 H1 _ none s1 p1 ok1 trivial ⟨fun Hs H i st hi => ⟨vs, sameT (st.1.trans st.2) hs, by rw [ha.length]; exact hi⟩, fun Hs H i st hi => ?_, fun C Hs A g σ H i x H' hK ok st hi y => ?_⟩⟩
        · have hv : i < vs.length := by rw [ha.length]; exact hi
          exact ⟨vs, vs[i], sameT (st.1.trans st.2) hs, List.getElem?_eq_getElem hv⟩
        · obtain ⟨rfl, y⟩ := y
          obtain ⟨d, h1, h2⟩ := (ha.mono st.1).getV (y vs (sameT (st.1.trans st.2) hs))
          exact ⟨d, Hs, h1, Same.refl _, ok, h2⟩
    | _ => cases e
/-- lo, lo + 1, .. -/
def rgD (lo : Int) (n : Nat) : List D := (List.range n).map fun (i : Nat) => D.int (lo + (i : Int))
theorem rgD_len (lo : Int) (n : Nat) : (rgD lo n).length = n := by simp [rgD]
theorem rgD_get {lo : Int} {n i : Nat} (h : i < n) : (rgD lo n)[i]? = some (.int (lo + (i : Int))) := by simp [rgD, h]
theorem jw_range {K : PySem.W.Frag} {lo : Int} {n : Nat} {St : Hp → Hp → Prop} : JW K (Itr lo n) (rgD lo n) St where
  stop := fun Hs H i _ hi => by rw [rgD_len] at hi; exact hi
  go := fun Hs H i _ hi => by rw [rgD_len] at hi; exact hi
  yld := fun C Hs A g σ H i x H' hK ok st hi y => by
    rw [rgD_len] at hi
    obtain ⟨rfl, rfl⟩ := y
    exact ⟨_, Hs, rgD_get hi, Same.refl _, ok, .int _⟩
def rgOk (i : Int) : Bool := decide (-(2 ^ 62) ≤ i) && decide (i < 2 ^ 62)
def ziR1 (ma : ZAr) : MI := fun g => do
  let (rs, g1) ← ma g
  match rs with
  | [.dat (.int j)] => if rgOk j = true then some (rgD 0 j.toNat, none, g1) else none
  | _ => none
theorem rgOk_ok {i : Int} (h : rgOk i = true) : -(2 ^ 62) ≤ i ∧ i < 2 ^ 62 := by
  unfold rgOk at h
  rw [Bool.and_eq_true] at h
  exact ⟨of_decide_eq_true h.1, of_decide_eq_true h.2⟩
theorem relRs1 {K : PySem.W.Frag} {Hs : Hp} {A : List Addr} {vs : List V} {r : R} (h : RelRs K Hs A vs [r]) : ∃ v, vs = [v] ∧ RelR K Hs A v r := by
  cases vs with
  | nil => exact h.elim
  | cons v vs =>
    cases vs with
    | nil => exact ⟨v, rfl, h.1⟩
    | cons _ _ => exact h.2.elim
variable {a b : Expr} {ma : ZAr} {p : Pos}
theorem zi_range1 (hg : Gl X "range") (hm : X.mg "range" = none) (ha : ZAs X [a] ma) (hs : starEach [a] X.env = [(false, eval a X.env)] := by rfl) : ZI X tg (.Call (.Name "range" p) [a] [] pos) (ziR1 ma) := by
  refine PI.of (pi_range1 hg hm ha hs) fun σ H Rr ⟨C, Hs, A, g, L, lk, g', hK, hn, ok, e, q⟩ => ?_
  unfold ziR1 at e
  simp only [Option.bind_eq_bind, Option.bind_eq_some_iff] at e
  obtain ⟨⟨rs, g1⟩, h1, e⟩ := e
  refine ⟨C, Hs, A, g, rs, g1, hK, hn, ok, h1, fun Hs1 A1 vs H1 s1 p1 ok1 rel1 => ?_⟩
  simp only at e
  split at e
  · rename_i j
    split at e
    · rename_i hj
      cases e
      obtain ⟨v, rfl, w⟩ := relRs1 rel1
      have ev : v = .int j := (show Dz C.K Hs1 v (.int j) from w).v rfl
      subst ev
      exact ⟨j, rfl, (rgOk_ok hj).1, (rgOk_ok hj).2, q Hs1 A1 H1 _ none s1 p1 ok1 trivial jw_range⟩
    · cases e
  · cases e
def forL (tg : TD) (body : SM) : List D → SM
  | [], g => some (.nx, g)
  | x :: xs, g => do
    let g1 ← tg x g
    let (fl, g2) ← body g1
    match fl with
    | .nx => forL tg body xs g2
    | .ct => forL tg body xs g2
    | .bk => some (.nx, g2)
    | .ret r => some (.ret r, g2)
def unlk (j : Nat) (l : Bool) (g : G) : G := match g[j]? with
  | some (.own c p _) => g.set j (.own c p l)
  | _ => g
def zFor (n : Nat) (mi : MI) (tg : TD) (body : SM) : SM := fun g => do
  let (L, lk, g1) ← mi g
  match lk with
  | none => forL tg body L (g1.take n)
  | some j => match (g1.take n)[j]? with
    | some (.own c p l) => do
      let (fl, g3) ← forL tg body L ((g1.take n).set j (.own c p true))
      some (fl, unlk j l g3)
    | _ => none
def Ct.lock (C : Ct) (q : Nat × Addr × Cn) (h : q.1 < C.n) : Ct := { C with
  locks := q :: C.locks
  llt := fun r hr => by
    rcases List.mem_cons.mp hr with rfl | hr
    · exact h
    · exact C.llt r hr }
/-- the walk itself -/
theorem for_of {tgd : TD} {body : SM} {W : Ends} {C : Ct} {Hs1 : Hp} {A1 : List Addr} {g2 g3 : G} {σ : L2.St} {H1 : Hp} {L : List D} {J : It} {lk' : Option (Addr × Cn)} {fl : Fl} {K : PySem.W.Frag} {n : Nat} (hK : C.K = K) (hn : C.n = n)
    (ok : Ok C Hs1 A1 g2 σ H1) (jw : JW K J L (Src K Hs1 lk')) (hl : ∀ a c, lk' = some (a, c) → ∃ j, (j, a, c) ∈ C.locks) (e : forL tgd body L g2 = some (fl, g3)) (q : FlP C Hs1 g3 W fl) :
    ∃ Wi : Nat → Nat → L2.St → Hp → Prop, (∃ m, Wi 0 m σ H1) ∧ ∀ i m σ H, Wi i m σ H →
      (J.stop i H ∧ W.nx σ H) ∨ (J.go i H ∧ ∃ N : L2.St → Hp → Prop, (∀ σ' H', N σ' H' → ∃ m', m' < m ∧ Wi (i + 1) m' σ' H') ∧ ∀ x H', J.yld i H x H' → tZG K n tgd x σ H' fun σ2 H2 => tZS K n body { W with nx := N, ct := N, bk := W.nx } σ2 H2) := by
  have src : ∀ {Hs A g σ H}, Same Hs1 Hs → Ok C Hs A g σ H → Src K Hs1 lk' Hs H := fun {Hs A g σ H} s ok => by
    cases lk' with
    | none => exact ⟨s, ok.same⟩
    | some ac =>
      obtain ⟨a, c⟩ := ac
      obtain ⟨j, hj⟩ := hl a c rfl
      obtain ⟨p, h1, h2⟩ := ok.locked _ hj
      obtain ⟨a', o, w1, _, _, w4, w5, _⟩ := ok.own j c p true h1
      have : some a = some a' := h2.symm.trans w1
      cases this
      exact ⟨o, w4, by rw [← hK]; exact w5⟩
  refine ⟨fun i m σ H => m = L.length - i ∧ i ≤ L.length ∧ ∃ Hs A g, Same Hs1 Hs ∧ Ok C Hs A g σ H ∧ forL tgd body (L.drop i) g = some (fl, g3), ⟨L.length, by simp, Nat.zero_le _, Hs1, A1, g2, Same.refl _, ok, by simpa using e⟩, ?_⟩
  rintro i m σ H ⟨rfl, hi, Hs, A, g, s, ok, e⟩
  by_cases hlt : i < L.length
  · refine .inr ⟨jw.go Hs H i (src s ok) hlt, ?_⟩
    rw [List.drop_eq_getElem_cons hlt] at e
    simp only [forL, Option.bind_eq_bind, Option.bind_eq_some_iff] at e
    obtain ⟨ga, e1, ⟨flb, gb⟩, e2, e3⟩ := e
    have fin : ∀ (N : L2.St → Hp → Prop), (∀ Hs', Same Hs Hs' → FlP C Hs' gb { W with nx := N, ct := N, bk := W.nx } flb) → ∀ x H', J.yld i H x H' → tZG K n tgd x σ H' fun σ2 H2 => tZS K n body { W with nx := N, ct := N, bk := W.nx } σ2 H2 := fun N hf x H' y => by
      obtain ⟨d, Hs', hd, s', ok', dz⟩ := jw.yld C Hs A g σ H i x H' hK ok (src s ok) hlt y
      rw [List.getElem?_eq_getElem hlt] at hd
      cases hd
      exact ⟨C, Hs', A, g, _, ga, hK, hn, ok', dz, e1, fun σ2 ok2 => ⟨C, Hs', A, ga, flb, gb, hK, hn, ok2, e2, hf Hs' s'⟩⟩
    cases flb with
    | nx =>
      refine ⟨fun σ' H' => ∃ Hs' A', Same Hs1 Hs' ∧ Ok C Hs' A' gb σ' H', fun σ' H' ⟨Hs', A', s', ok'⟩ => ⟨L.length - (i + 1), by omega, rfl, hlt, Hs', A', gb, s', ok', e3⟩, fin _ fun Hs' s' => ?_⟩
      exact fun Hs2 A2 σ2 H2 s2 ok2 => ⟨Hs2, A2, (s.trans s').trans s2, ok2⟩
    | ct =>
      refine ⟨fun σ' H' => ∃ Hs' A', Same Hs1 Hs' ∧ Ok C Hs' A' gb σ' H', fun σ' H' ⟨Hs', A', s', ok'⟩ => ⟨L.length - (i + 1), by omega, rfl, hlt, Hs', A', gb, s', ok', e3⟩, fin _ fun Hs' s' => ?_⟩
      exact fun Hs2 A2 σ2 H2 s2 ok2 => ⟨Hs2, A2, (s.trans s').trans s2, ok2⟩
    | bk =>
      refine ⟨fun _ _ => False, fun _ _ z => z.elim, fin _ fun Hs' s' => ?_⟩
      cases e3
      exact fun Hs2 A2 σ2 H2 s2 ok2 => q Hs2 A2 σ2 H2 ((s.trans s').trans s2) ok2
    | ret r =>
      refine ⟨fun _ _ => False, fun _ _ z => z.elim, fin _ fun Hs' s' => ?_⟩
      cases e3
      exact fun Hs2 A2 σ2 H2 v s2 ok2 => q Hs2 A2 σ2 H2 v ((s.trans s').trans s2) ok2
  · have ei : i = L.length := by omega
    subst ei
    rw [List.drop_length] at e
    cases e
    exact .inl ⟨jw.stop Hs H _ (src s ok) (Nat.le_refl _), q Hs A σ H s ok⟩
theorem FlP.of {C C' : Ct} {Hs : Hp} {g g' : G} {W : Ends} {fl : Fl} (hK : C'.K = C.K) (h : ∀ Hs' A' σ' H', Ok C' Hs' A' g' σ' H' → Ok C Hs' A' g σ' H') (q : FlP C Hs g W fl) : FlP C' Hs g' W fl := by
  cases fl with
  | nx => exact fun Hs' A' σ' H' s ok => q Hs' A' σ' H' s (h _ _ _ _ ok)
  | bk => exact fun Hs' A' σ' H' s ok => q Hs' A' σ' H' s (h _ _ _ _ ok)
  | ct => exact fun Hs' A' σ' H' s ok => q Hs' A' σ' H' s (h _ _ _ _ ok)
  | ret r => exact fun Hs' A' σ' H' v s ok rel => q Hs' A' σ' H' v s (h _ _ _ _ ok) (by rw [← hK]; exact rel)
theorem zs_for {iter : Expr} {body : List Stmt} {mi : MI} {g : TD} {s : SM} (hp : PassesOwn (model X.prog X.w) X.A X.env X.xe) (hc : X.calm = true) (hi : ZI X tg iter mi) (hg : ZG X tg g) (hb : ZSs X body s)
    (hs : ∀ x, foldedSetIterable iter X.env x = pure x := by intro _; rfl) : ZS X (.For tg iter body [] pos) (zFor X.N.length mi g s) := by
  refine PS.of (ps_for hp hc hi hg hb hs) fun W σ H ⟨C, Hs, A, g, fl, g', hK, hn, ok, e, q⟩ => ?_
  unfold zFor at e
  simp only [Option.bind_eq_bind, Option.bind_eq_some_iff] at e
  obtain ⟨⟨L, lk, g1⟩, h1, e⟩ := e
  refine ⟨C, Hs, A, g, L, lk, g1, hK, hn, ok, h1, fun Hs1 A1 H1 J lk' s1 _p1 ok1 hl jw => ?_⟩
  have okc := ok1.cut
  rw [hn] at okc
  cases lk with
  | none =>
    cases lk' with
    | some _ => exact hl.elim
    | none =>
      exact for_of hK hn okc jw (fun _ _ z => by cases z) e (q.mono s1)
  | some j =>
    cases lk' with
    | none => exact hl.elim
    | some ac =>
      obtain ⟨a, c⟩ := ac
      obtain ⟨ha, ⟨p0, l0, hgj⟩, hj⟩ := hl
      simp only at e
      split at e
      · rename_i c' p l hg2
        rw [List.getElem?_take_of_lt hj, hgj] at hg2
        cases hg2
        simp only [Option.bind_eq_some_iff] at e
        obtain ⟨⟨fl1, g3⟩, e1, e2⟩ := e
        cases e2
        have hgc : (g1.take X.N.length)[j]? = some (.own c p0 l0) := by rw [List.getElem?_take_of_lt hj]; exact hgj
        have hac : (A1.take X.N.length)[j]? = some a := by rw [List.getElem?_take_of_lt hj]; exact ha
        have hjn : j < C.n := by rw [hn]; exact hj
        have okl : Ok (C.lock (j, a, c) hjn) Hs1 (A1.take X.N.length) ((g1.take X.N.length).set j (.own c p0 true)) σ H1 := by
          refine okc.lk hgc rfl rfl rfl rfl rfl fun r hr => ?_
          rcases List.mem_cons.mp hr with rfl | hr
          · exact .inl ⟨rfl, rfl, rfl, hac⟩
          · by_cases z : r.1 = j
            · obtain ⟨p', w1, w2⟩ := okc.locked r hr
              rw [z, hgc] at w1
              cases w1
              rw [z] at w2
              exact .inl ⟨z, rfl, rfl, w2⟩
            · exact .inr ⟨z, hr⟩
        refine for_of (C := C.lock (j, a, c) hjn) hK hn okl jw (fun a' c' z => ⟨j, by cases z; exact List.mem_cons_self⟩) e1 ?_
        refine (q.mono s1).of (C := C) rfl fun Hs' A' σ' H' ok' => ?_
        obtain ⟨p', w1, w2⟩ := ok'.locked (j, a, c) List.mem_cons_self
        unfold unlk
        rw [show g3[j]? = some (.own c p' true) from w1]
        refine ok'.lk (C' := C) w1 rfl rfl rfl rfl rfl fun r hr => ?_
        by_cases z : r.1 = j
        · obtain ⟨p2, y1, y2⟩ := okc.locked r hr
          rw [z, hgc] at y1
          have e3 : some (Sl.own c p0 l0) = some (.own r.2.2 p2 true) := y1
          cases e3
          obtain ⟨p3, x1, x2⟩ := ok'.locked r (List.mem_cons_of_mem _ hr)
          rw [z] at x2
          exact .inl ⟨z, rfl, rfl, x2⟩
        · exact .inr ⟨z, List.mem_cons_of_mem _ hr⟩
      · cases e
end
end Z
set_option Elab.async false
set_option linter.all false
set_option maxRecDepth 100000
set_option maxHeartbeats 4000000
namespace Z
open PySem PySem.Spec PyProof.Rows L2
/-- what a def hands back: data, or a new container -/
inductive FR where
  | dat (d : D) | new (c : Cn) | newR (ls : List (List D))
  deriving Inhabited
def RelF (K : PySem.W.Frag) (Hs' H H' : Hp) (v : V) : FR → Prop
  | .dat d => Dz K Hs' v d
  | .new c => ∃ a o, v = .ref a ∧ H a = none ∧ Hs' a = none ∧ H' a = some o ∧ CnOk K Hs' c o
  | .newR ls => ∃ a ks, v = .ref a ∧ Kd K Hs' H H' a ks ls
/-- the promise of a def that changes nothing -/
def spP (K : PySem.W.Frag) (f : List D → Option FR) : Sp := fun vs H Q _ => ∃ (Hs : Hp) (ds : List D) (fr : FR), Same Hs H ∧ DzA K Hs vs ds ∧ f ds = some fr ∧
  ∀ (v : V) (Hs' H' : Hp), Same Hs Hs' → Same H H' → Same Hs' H' → (∀ b o, Hs' b = some o → Hs b = some o ∨ H b = none) → RelF K Hs' H H' v fr → Q v H'
/-- .. of one that changes its k-th argument, a container -/
def spM (K : PySem.W.Frag) (k : Nat) (f : Cn → List D → Option (FR × Cn)) : Sp := fun vs H Q _ => ∃ (Hs : Hp) (ds : List D) (c c' : Cn) (a : Addr) (o : HO) (fr : FR), Same Hs H ∧ vs[k]? = some (.ref a) ∧ DzA K Hs (vs.eraseIdx k) ds ∧ Hs a = none ∧ H a = some o ∧ CnOk K Hs c o ∧ f c ds = some (fr, c') ∧
  ∀ (v : V) (Hs' H' : Hp) (o' : HO), Same Hs Hs' → (∀ b u, b ≠ a → H b = some u → H' b = some u) → Same Hs' H' → (∀ b o, Hs' b = some o → Hs b = some o ∨ H b = none) → Hs' a = none → H' a = some o' → CnOk K Hs' c' o' → RelF K Hs' H H' v fr → Q v H'
def fin (g : G) : R → Option FR
  | .dat d => some (.dat d)
  | .bor j => match g[j]? with
    | some (.own c false false) => some (.new c)
    | some (.frz d) => some (.dat d)
    | some (.rws ls) => some (.newR ls)
    | _ => none
def start0 (n : Nat) (ds : List D) : G := ds.map Sl.dat ++ List.replicate (n - ds.length) .un
def runP (n np : Nat) (s : SM) : List D → Option FR := fun ds => if ds.length = np then
    (match s (start0 n ds) with
    | some (.ret r, g) => fin g r
    | some (.nx, _) => some (.dat .non)
    | _ => none)
  else none
theorem start_len {N : List Str} {vs : List V} (h : vs.length ≤ N.length) : (L2.start N vs).length = N.length := by
  unfold L2.start
  rw [List.length_append, List.length_map, List.length_replicate]
  omega
theorem ok_start {K : PySem.W.Frag} {N : List Str} {Hs H : Hp} {vs : List V} {ds : List D} (h : ds.length ≤ N.length) (s : Same Hs H) (hz : DzA K Hs vs ds) :
    Ok { K := K, n := N.length, H0 := H, Hs0 := Hs, pins := [], locks := [], plt := fun _ h => (List.not_mem_nil h).elim, llt := fun _ h => (List.not_mem_nil h).elim } Hs (List.replicate N.length 0) (start0 N.length ds) (L2.start N vs) H := by
  have hvl := hz.length
  have old : ∀ (i : Nat) (t : Sl), (start0 N.length ds)[i]? = some t → (∃ d, ds[i]? = some d ∧ t = .dat d) ∨ t = .un := fun i t e => by
    unfold start0 at e
    by_cases hi : i < ds.length
    · rw [List.getElem?_append_left (by simpa using hi), List.getElem?_map] at e
      rw [List.getElem?_eq_getElem hi] at e
      exact .inl ⟨ds[i], List.getElem?_eq_getElem hi, (Option.some.inj e).symm⟩
    · rw [List.getElem?_append_right (by simpa using hi), List.getElem?_replicate] at e
      split at e
      · exact .inr (Option.some.inj e).symm
      · cases e
  refine ⟨start_len (by omega), by unfold start0; simp; omega, by unfold start0; simp; omega, Same.refl _, s, fun i d e => ?_, fun i d e => ?_, fun i c p l e => ?_, fun i j c p l c' p' l' a e _ _ _ => ?_, fun b o e => .inl e, fun b o e _ => e, fun _ h => (List.not_mem_nil h).elim, fun i c l a e _ => ?_, fun _ h => (List.not_mem_nil h).elim, fun i ls e => ?_⟩
  · rcases old i _ e with ⟨d', h1, h2⟩ | z
    · cases h2
      obtain ⟨v, w1, w2⟩ := hz.get h1
      refine ⟨v, ?_, w2⟩
      have hi := (List.getElem?_eq_some_iff.mp w1).1
      unfold L2.start
      rw [List.getElem?_append_left (by simpa using hi), List.getElem?_map, w1]
      rfl
    · cases z
  · rcases old i _ e with ⟨d', h1, h2⟩ | z
    · cases h2
    · cases z
  · rcases old i _ e with ⟨d', h1, h2⟩ | z
    · cases h2
    · cases z
  · rcases old i _ e with ⟨d', h1, h2⟩ | z
    · cases h2
    · cases z
  · rcases old i _ e with ⟨d', h1, h2⟩ | z
    · cases h2
    · cases z
  · rcases old i _ e with ⟨d', h1, h2⟩ | z
    · cases h2
    · cases z
theorem fin_ok {C : Ct} {Hs H' : Hp} {A : List Addr} {g : G} {σ : L2.St} {v : V} {r : R} {fr : FR} (ok : Ok C Hs A g σ H') (h : RelR C.K Hs A v r) (e : fin g r = some fr) : RelF C.K Hs C.H0 H' v fr := by
  cases r with
  | dat d => cases e; exact h
  | bor j =>
    obtain ⟨a, ha, rfl⟩ := (show ∃ a, A[j]? = some a ∧ v = .ref a from h)
    simp only [fin] at e
    split at e
    · rename_i c hg
      cases e
      obtain ⟨a', o, w1, _, w3, w4, w5, w6⟩ := ok.own j _ _ _ hg
      rw [ha] at w1
      cases w1
      exact ⟨a, o, rfl, w6 rfl, w3, w4, w5⟩
    · rename_i d hg
      cases e
      obtain ⟨a', w1, _, w3⟩ := ok.frz j _ hg
      rw [ha] at w1
      cases w1
      exact w3
    · rename_i ls hg
      cases e
      obtain ⟨a', ks, w1, _, w3, _⟩ := ok.rws j _ hg
      rw [ha] at w1
      cases w1
      exact ⟨a, ks, rfl, w3⟩
    · cases e
section
variable {P : Program} {w : World} {K : PySem.W.Frag} {mg : Str → Option Value} {base : Heap}
/-- THE RULE for a def that changes nothing -/
theorem okP {x qual : Str} {st : Stmt} {f : Addr} {fd : FuncData} {N ps : List Str} {k : Nat} {s : SM} (F : Fun K x qual st f fd) (S : FnScope N ps (defScope st))
    (hbody : ∀ (cdv : Value) (A : Around) (outer : List Env) (s0 : Shared) (H : Hp) (E : XK), Room k (A.deeper (envOfC qual (defScope st) s0.heap.objs.size f cdv)) →
      ZSs (cxOf CX0 P w K mg base N qual (defScope st) f cdv A outer s0 H E).nox (defBody st) s) : FnOk P w K mg base CX0 (k + 1) f fd ps (spP K (runP N.length ps.length s)) := by
  have arity : ∀ vs H Q E, spP K (runP N.length ps.length s) vs H Q E → vs.length = ps.length := fun vs H Q E ⟨Hs, ds, fr, _, hz, e, _⟩ => by
    unfold runP at e
    split at e
    · rename_i h
      rw [hz.length]
      exact h
    · cases e
  refine F.ok S arity (fun cdv A outer s0 H vs Q E hr h => ⟨_, hbody cdv A outer s0 H E hr, ?_⟩)
  have hal := arity vs H Q E h
  obtain ⟨Hs, ds, fr, sm, hz, e, q⟩ := h
  have hpl : ps.length ≤ N.length := by
    have := congrArg List.length S.pre
    rw [List.length_take] at this
    omega
  have hdl : ds.length ≤ N.length := by rw [← hz.length]; omega
  unfold runP at e
  rw [if_pos (by rw [← hz.length]; exact hal)] at e
  split at e
  · rename_i r g' hs
    refine ⟨_, Hs, _, start0 N.length ds, .ret r, g', rfl, rfl, ok_start hdl sm hz, hs, ?_⟩
    exact fun Hs' A' σ' H' v s1 ok1 rel1 => q v Hs' H' s1 (fun b o e => ok1.keep b o e (fun _ h => (List.not_mem_nil h).elim)) ok1.same ok1.grow (fin_ok ok1 rel1 e)
  · rename_i g' hs
    cases e
    refine ⟨_, Hs, _, start0 N.length ds, .nx, g', rfl, rfl, ok_start hdl sm hz, hs, ?_⟩
    exact fun Hs' A' σ' H' s1 ok1 => q .non Hs' H' s1 (fun b o e => ok1.keep b o e (fun _ h => (List.not_mem_nil h).elim)) ok1.same ok1.grow .non
  · cases e
/-- the def that the module's name x holds keeps a promise, by at most level k -/
def Cal (P : Program) (w : World) (K : PySem.W.Frag) (mg : Str → Option Value) (base : Heap) (k : Nat) (x : Str) (sp : Sp) : Prop :=
  ∃ (f : Addr) (fd : FuncData) (ps : List Str), mg x = some (.ref f) ∧ PySem.W.keepIn K (.ref f) = true ∧ Binds K fd ps [] ∧ FnOk P w K mg base CX0 k f fd ps sp
theorem Cal.mono {j k : Nat} {x : Str} {sp : Sp} (c : Cal P w K mg base j x sp) (h : j ≤ k) : Cal P w K mg base k x sp :=
  let ⟨f, fd, ps, h1, h2, h3, h4⟩ := c
  ⟨f, fd, ps, h1, h2, h3, h4.mono h⟩
end
theorem Ok.adopt {C : Ct} {Hs : Hp} {A : List Addr} {g : G} {σ : L2.St} {H H' : Hp} (ok : Ok C Hs A g σ H) {a : Addr} {o : HO} {c : Cn} (h : H a = none) (s : Same H H') (e : H' a = some o) (hc : CnOk C.K Hs c o) : Ok C Hs (A ++ [a]) (g ++ [.own c false false]) σ H' :=
  (ok.tmp h hc).more fun b u q => by
    by_cases z : b = a
    · subst z
      rw [upd_same] at q
      cases q
      exact e
    · rw [upd_ne z] at q
      exact s b u q
/-- .. where the known things grew too -/
theorem Ok.adoptS {C : Ct} {Hs Hs' : Hp} {A : List Addr} {g : G} {σ : L2.St} {H H' : Hp} (ok : Ok C Hs A g σ H) (s : Same H H') (s1 : Same Hs Hs') (s2 : Same Hs' H') (gr : ∀ b o, Hs' b = some o → Hs b = some o ∨ H b = none) {a : Addr} {o : HO} {c : Cn} (h : H a = none) (ha : Hs' a = none) (e : H' a = some o) (hc : CnOk C.K Hs' c o) :
    Ok C Hs' (A ++ [a]) (g ++ [.own c false false]) σ H' := by
  -- first without a
  have ok1 : Ok C Hs' A g σ (fun b => if b = a then none else H' b) := by
    refine ok.moreS (fun b u q => ?_) s1 (fun b u q => ?_) gr
    · have z : b ≠ a := fun z => by rw [z, h] at q; cases q
      show (if b = a then none else H' b) = some u
      rw [if_neg z]
      exact s b u q
    · have z : b ≠ a := fun z => by rw [z, ha] at q; cases q
      show (if b = a then none else H' b) = some u
      rw [if_neg z]
      exact s2 b u q
  refine (ok1.adopt (H' := H') (a := a) (o := o) (by show (if a = a then none else H' a) = none; rw [if_pos rfl]) (fun b u q => ?_) e hc)
  have q' : (if b = a then none else H' b) = some u := q
  split at q'
  · cases q'
  · exact q'
def zCall (f : List D → Option FR) (ma : ZAr) : ZM := fun g => do
  let (rs, g1) ← ma g
  let ds ← rdAll g1 rs
  let fr ← f ds
  match fr with
  | .dat d => if d.scal = true then some (.dat d, g1) else do
    let (ds2, g2) ← frzAll rs g1
    let fr2 ← f ds2
    match fr2 with
    | .dat d2 => some (.dat d2, g2)
    | _ => none
  | .new c => if c.scal = true then some (.bor g1.length, g1 ++ [.own c false false]) else do
    let (ds2, g2) ← frzAll rs g1
    let fr2 ← f ds2
    match fr2 with
    | .new c2 => some (.bor g2.length, g2 ++ [.own c2 false false])
    | _ => none
  | .newR _ => do
    let (ds2, g2) ← frzAll rs g1
    let fr2 ← f ds2
    match fr2 with
    | .newR ls => some (.bor g2.length, g2 ++ [.rws ls])
    | _ => none
section
variable {X : Cx} {f : List D → Option FR} {ma : ZAr}
theorem call_of {σ : L2.St} {H : Hp} {Q : VK} {E : XK} (h : tZ X.K X.N.length (zCall f ma) σ H Q) : tCall (spP X.K f) [] E (tZA X.K X.N.length ma) σ H Q := by
  obtain ⟨C, Hs, A, g, r, g', hK, hn, ok, e, q⟩ := h
  unfold zCall at e
  simp only [Option.bind_eq_bind, Option.bind_eq_some_iff] at e
  obtain ⟨⟨rs, g1⟩, h1, ds, h2, fr, h3, e⟩ := e
  refine ⟨C, Hs, A, g, rs, g1, hK, hn, ok, h1, fun Hs1 A1 vs H1 s1 p1 ok1 rel1 => ?_⟩
  show spP X.K f (vs ++ []) H1 Q E
  rw [List.append_nil]
  have plain : DzA X.K H1 vs ds := by
    have x := rdAll_ok ok1 rel1 h2
    rw [hK] at x
    exact x
  cases fr with
  | dat d =>
    simp only at e
    split at e
    · rename_i hs
      cases e
      refine ⟨H1, ds, .dat d, Same.refl _, plain, h3, fun v Hs' H' _ sH _ _ rf => ?_⟩
      exact q Hs1 A1 v H' s1 p1 (ok1.more sH) (show Dz C.K Hs1 v d from by rw [hK]; exact (show Dz X.K Hs' v d from rf).any hs)
    · simp only [Option.bind_eq_some_iff] at e
      obtain ⟨⟨ds2, g2⟩, h4, fr2, h5, e⟩ := e
      obtain ⟨Hs2, s2, ok2, z2⟩ := frzAll_ok ok1 rel1 h4
      cases fr2 with
      | new _ => cases e
      | newR _ => cases e
      | dat d2 =>
        cases e
        refine ⟨Hs2, ds2, .dat d2, ok2.same, by rw [← hK]; exact z2, h5, fun v Hs' H' sS sH sP gr rf => ?_⟩
        exact q Hs' A1 v H' ((s1.trans s2).trans sS) p1 (ok2.moreS sH sS sP gr) (show Dz C.K Hs' v d2 from by rw [hK]; exact rf)
  | new c =>
    simp only at e
    split at e
    · rename_i hs
      cases e
      refine ⟨H1, ds, .new c, Same.refl _, plain, h3, fun v Hs' H' _ sH _ _ rf => ?_⟩
      obtain ⟨a, o, rfl, w1, w2, w3, w4⟩ := rf
      have w5 : CnOk C.K Hs1 c o := by rw [hK]; exact w4.any hs
      exact q Hs1 (A1 ++ [a]) _ H' s1 (p1.trans (Pre.app _ _)) (ok1.adopt w1 sH w3 w5) (ok1.tmpR a)
    · simp only [Option.bind_eq_some_iff] at e
      obtain ⟨⟨ds2, g2⟩, h4, fr2, h5, e⟩ := e
      obtain ⟨Hs2, s2, ok2, z2⟩ := frzAll_ok ok1 rel1 h4
      cases fr2 with
      | dat _ => cases e
      | newR _ => cases e
      | new c2 =>
        cases e
        refine ⟨Hs2, ds2, .new c2, ok2.same, by rw [← hK]; exact z2, h5, fun v Hs' H' sS sH sP gr rf => ?_⟩
        obtain ⟨a, o, rfl, w1, w2, w3, w4⟩ := rf
        exact q Hs' (A1 ++ [a]) _ H' ((s1.trans s2).trans sS) (p1.trans (Pre.app _ _)) (ok2.adoptS sH sS sP gr w1 w2 w3 (by rw [hK]; exact w4)) (ok2.tmpR a)
  | newR _ =>
    simp only [Option.bind_eq_some_iff] at e
    obtain ⟨⟨ds2, g2⟩, h4, fr2, h5, e⟩ := e
    obtain ⟨Hs2, s2, ok2, z2⟩ := frzAll_ok ok1 rel1 h4
    cases fr2 with
    | dat _ => cases e
    | new _ => cases e
    | newR ls =>
      cases e
      refine ⟨Hs2, ds2, .newR ls, ok2.same, by rw [← hK]; exact z2, h5, fun v Hs' H' sS sH sP gr rf => ?_⟩
      obtain ⟨a, ks, rfl, w⟩ := rf
      rw [← hK] at w
      exact q Hs' (A1 ++ [a]) _ H' ((s1.trans s2).trans sS) (p1.trans (Pre.app _ _)) ((ok2.moreS sH sS sP gr).addR (w.low fun x m => (ok2.fresh0 (w.fr x m).2).2) (fun j c p l b e1 e2 m => ok2.deadO e1 e2 (w.fr b m).2) (fun j ms b x e1 e2 m1 m2 => ok2.deadR e1 e2 (by
        obtain ⟨a2, ks2, r1, _, r3, _⟩ := ok2.rws j ms e1
        rw [e2] at r1
        cases r1
        rw [sH _ _ r3.hd, ← r3.hd] at m1
        exact m1) (w.fr x m2).2)) (ok2.tmpR a)
theorem ze_call {k : Nat} {x : Str} {p pos : Pos} {e : Expr} {es : List Expr} (c : Cal X.prog X.w X.K X.mg X.base k x (spP X.K f)) (hr : Room k X.A) (ha : ZAs X (e :: es) ma) (hg : Gl X x := by rfl)
    (hdb : (x == ("__debug__" : Str)) = false := by decide) (he : starEach (e :: es) X.env = (false, eval e X.env) :: starEach es X.env := by rfl) (hpl : (backTo pos (starEach es X.env)).any (·.1) = false := by rfl) :
    ZE X (.Call (.Name x p) (e :: es) [] pos) (zCall f ma) := by
  obtain ⟨fa, fd, ps, h1, h2, h3, h4⟩ := c
  exact PE.of (pe_call (E := E0) h4 hr hg h1 h2 h3 .nil pass0 ha hdb he hpl) fun σ H Q h => call_of h
end
end Z
set_option Elab.async false
set_option linter.all false
set_option maxRecDepth 100000
set_option maxHeartbeats 4000000
namespace Z
open PySem PySem.Spec PyProof.Rows L2
theorem OpR.or {X : Cx} {f : Value → Value → Sem Value} {r r' : R2} (h : OpR X f r) (h' : OpR X f r') : OpR X f (fun x y H Q => r x y H Q ∨ r' x y H Q) := by
  intro pins s σ H x y v u Q I rx ry q
  rcases q with q | q
  · exact h pins s σ H x y v u Q I rx ry q
  · exact h' pins s σ H x y v u Q I rx ry q
theorem OpR.of {X : Cx} {f : Value → Value → Sem Value} {r r' : R2} (h : OpR X f r) (w : ∀ x y H Q, r' x y H Q → r x y H Q) : OpR X f r' := fun pins s σ H x y v u Q I rx ry q => h pins s σ H x y v u Q I rx ry (w _ _ _ _ q)
def subD : D → D → Option D
  | .int i, .int j => some (.int (i - j))
  | _, _ => none
theorem s_int {K : PySem.W.Frag} {g : Int → Int → D} {f : D → D → Option D} (hg : ∀ i j, (g i j).scal = true) (hf : ∀ d e z, f d e = some z → ∃ i j, d = .int i ∧ e = .int j ∧ z = g i j) : OpS K (rI0 fun i j => (g i j).v) f := by
  intro H x y d e z Q hx hy e1 q
  obtain ⟨i, j, rfl, rfl, rfl⟩ := hf d e z e1
  cases hx
  cases hy
  exact ⟨i, j, rfl, rfl, q⟩
theorem s_intC {K : PySem.W.Frag} {C : Int → Int → Prop} {g : Int → Int → D} {f : D → D → Option D} (hf : ∀ d e z, f d e = some z → ∃ i j, d = .int i ∧ e = .int j ∧ C i j ∧ z = g i j) : OpS K (rI C fun i j => (g i j).v) f := by
  intro H x y d e z Q hx hy e1 q
  obtain ⟨i, j, rfl, rfl, hc, rfl⟩ := hf d e z e1
  cases hx
  cases hy
  exact ⟨i, j, rfl, rfl, hc, q⟩
theorem s_sub {K : PySem.W.Frag} : OpS K (rI0 fun i j => .int (i - j)) subD := s_int (g := fun i j => .int (i - j)) (fun _ _ => rfl) fun d e z h => by
  unfold subD at h
  split at h
  · cases h; exact ⟨_, _, rfl, rfl, rfl⟩
  · cases h
/-- the product of two ints that the model reckons -/
def mulOk (i j : Int) : Bool := decide (i.natAbs < 2 ^ 64) || decide (j.natAbs < 2 ^ 64) || decide (i.natAbs.log2 + j.natAbs.log2 < 1000000)
theorem mulOk_ok {i j : Int} (h : mulOk i j = true) : IntMulOk i j := by
  unfold mulOk at h
  rw [Bool.or_eq_true, Bool.or_eq_true] at h
  rcases h with (h | h) | h
  · exact (show CMul i j from .inl (by have := of_decide_eq_true h; omega)).ok
  · exact (show CMul i j from .inr (by have := of_decide_eq_true h; omega)).ok
  · have h2 : i.natAbs.log2 + j.natAbs.log2 < 1000000 := of_decide_eq_true h
    exact CMulW.ok h2
def mulD : D → D → Option D
  | .int i, .int j => if mulOk i j = true then some (.int (i * j)) else none
  | _, _ => none
theorem o_mul {X : Cx} : OpR X (binaryOp .Mult) (rI (fun i j => mulOk i j = true) fun i j => .int (i * j)) := opI fun _ _ _ _ _ _ _ hc q => mul_int q (mulOk_ok hc)
theorem s_mul {K : PySem.W.Frag} : OpS K (rI (fun i j => mulOk i j = true) fun i j => .int (i * j)) mulD := s_intC (g := fun i j => .int (i * j)) fun d e z h => by
  unfold mulD at h
  split at h
  · split at h
    · cases h; exact ⟨_, _, rfl, rfl, by assumption, rfl⟩
    · cases h
  · cases h
def divOk (j : Int) : Bool := decide (j ≠ 0) && decide (j.natAbs.log2 < 9000)
def fdivV (i j : Int) : Int := if 0 < j then i / j else i.fdiv j
def fmodV (i j : Int) : Int := if 0 < j then i % j else i.fmod j
theorem fdivV_eq (i j : Int) : fdivV i j = i.fdiv j := by
  unfold fdivV
  split
  · rw [Int.fdiv_eq_ediv_of_nonneg i (by omega)]
  · rfl
theorem fmodV_eq (i j : Int) : fmodV i j = i.fmod j := by
  unfold fmodV
  split
  · rw [Int.fmod_eq_emod_of_nonneg i (by omega)]
  · rfl
def divD : D → D → Option D
  | .int i, .int j => if divOk j = true then some (.int (fdivV i j)) else none
  | _, _ => none
theorem o_div {X : Cx} : OpR X (binaryOp .FloorDiv) (rI (fun _ j => divOk j = true) fun i j => .int (fdivV i j)) := opI fun i j _ _ _ _ _ hc q => by
  have h : divOk j = true := hc
  unfold divOk at h
  rw [Bool.and_eq_true] at h
  exact floordiv_int (of_decide_eq_true h.1) (by rw [← fdivV_eq]; exact q) (.inl (PyProof.noPylong_of_log2 (of_decide_eq_true h.2)))
theorem s_div {K : PySem.W.Frag} : OpS K (rI (fun _ j => divOk j = true) fun i j => .int (fdivV i j)) divD := s_intC (g := fun i j => .int (fdivV i j)) fun d e z h => by
  unfold divD at h
  split at h
  · split at h
    · cases h; exact ⟨_, _, rfl, rfl, by assumption, rfl⟩
    · cases h
  · cases h
def modD : D → D → Option D
  | .int i, .int j => if j ≠ 0 then some (.int (fmodV i j)) else none
  | _, _ => none
theorem o_mod {X : Cx} : OpR X (binaryOp .Mod) (rI (fun _ j => j ≠ 0) fun i j => .int (fmodV i j)) := opI fun i j _ _ _ _ _ hc q => mod_int' hc (by rw [← fmodV_eq]; exact q)
theorem s_mod {K : PySem.W.Frag} : OpS K (rI (fun _ j => j ≠ 0) fun i j => .int (fmodV i j)) modD := s_intC (g := fun i j => .int (fmodV i j)) fun d e z h => by
  unfold modD at h
  split at h
  · split at h
    · cases h; exact ⟨_, _, rfl, rfl, by assumption, rfl⟩
    · cases h
  · cases h
def negD : D → Option D
  | .int i => some (.int (-i))
  | _ => none
theorem s_neg {K : PySem.W.Frag} : UnS K (rU fun i => .int (-i)) negD := by
  intro H x d z Q hx e q
  cases hx with
  | int i => cases e; exact ⟨i, rfl, q⟩
  | _ => cases e
def ltD : D → D → Option D
  | .int i, .int j => some (.bl (decide (i < j)))
  | .str a, .str b => some (.bl (decide (a < b)))
  | _, _ => none
def rLtU : R2 := fun x y H Q => (∃ i j, x = .int i ∧ y = .int j ∧ Q (.bl (decide (i < j))) H) ∨ (∃ i j, x = .str i ∧ y = .str j ∧ Q (.bl (decide (i.cps.toList < j.cps.toList))) H)
theorem o_lt {X : Cx} : OpR X (compareOp .Lt) rLtU := OpR.or op_lt op_lt_str
theorem s_lt {K : PySem.W.Frag} : OpS K rLtU ltD := by
  intro H x y d e z Q hx hy e1 q
  unfold ltD at e1
  split at e1
  · cases e1; cases hx; cases hy; exact .inl ⟨_, _, rfl, rfl, q⟩
  · cases e1; cases hx; cases hy; exact .inr ⟨_, _, rfl, rfl, q⟩
  · cases e1
def leD : D → D → Option D
  | .int i, .int j => some (.bl (decide (i ≤ j)))
  | .str a, .str b => some (.bl (!decide (b < a)))
  | _, _ => none
def rLeU : R2 := fun x y H Q => (∃ i j, x = .int i ∧ y = .int j ∧ Q (.bl (decide (i ≤ j))) H) ∨ (∃ i j, x = .str i ∧ y = .str j ∧ Q (.bl (!decide (j.cps.toList < i.cps.toList))) H)
theorem o_le {X : Cx} : OpR X (compareOp .LtE) rLeU := OpR.or op_le op_le_str
theorem s_le {K : PySem.W.Frag} : OpS K rLeU leD := by
  intro H x y d e z Q hx hy e1 q
  unfold leD at e1
  split at e1
  · cases e1; cases hx; cases hy; exact .inl ⟨_, _, rfl, rfl, q⟩
  · cases e1; cases hx; cases hy; exact .inr ⟨_, _, rfl, rfl, q⟩
  · cases e1
def gtD : D → D → Option D
  | .int i, .int j => some (.bl (decide (j < i)))
  | .str a, .str b => some (.bl (decide (b < a)))
  | _, _ => none
def rGtU : R2 := fun x y H Q => (∃ i j, x = .int i ∧ y = .int j ∧ Q (.bl (decide (j < i))) H) ∨ (∃ i j, x = .str i ∧ y = .str j ∧ Q (.bl (decide (j.cps.toList < i.cps.toList))) H)
theorem o_gt {X : Cx} : OpR X (compareOp .Gt) rGtU := OpR.or op_gt op_gt_str
theorem s_gt {K : PySem.W.Frag} : OpS K rGtU gtD := by
  intro H x y d e z Q hx hy e1 q
  unfold gtD at e1
  split at e1
  · cases e1; cases hx; cases hy; exact .inl ⟨_, _, rfl, rfl, q⟩
  · cases e1; cases hx; cases hy; exact .inr ⟨_, _, rfl, rfl, q⟩
  · cases e1
def geD : D → D → Option D
  | .int i, .int j => some (.bl (decide (j ≤ i)))
  | .str a, .str b => some (.bl (!decide (a < b)))
  | _, _ => none
def rGeU : R2 := fun x y H Q => (∃ i j, x = .int i ∧ y = .int j ∧ Q (.bl (decide (j ≤ i))) H) ∨ (∃ i j, x = .str i ∧ y = .str j ∧ Q (.bl (!decide (i.cps.toList < j.cps.toList))) H)
theorem o_ge {X : Cx} : OpR X (compareOp .GtE) rGeU := OpR.or op_ge op_ge_str
theorem s_ge {K : PySem.W.Frag} : OpS K rGeU geD := by
  intro H x y d e z Q hx hy e1 q
  unfold geD at e1
  split at e1
  · cases e1; cases hx; cases hy; exact .inl ⟨_, _, rfl, rfl, q⟩
  · cases e1; cases hx; cases hy; exact .inr ⟨_, _, rfl, rfl, q⟩
  · cases e1
mutual
def D.eqv : D → D → Bool
  | .non, .non => true
  | .bl a, .bl b => a == b
  | .bl a, .int j => (if a then 1 else 0) == j
  | .int i, .bl b => i == (if b then 1 else 0)
  | .int i, .int j => i == j
  | .str a, .str b => a == b
  | .tup a, .tup b => D.eqvA a b
  | .lst a, .lst b => D.eqvA a b
  | _, _ => false
def D.eqvA : List D → List D → Bool
  | [], [] => true
  | x :: xs, y :: ys => D.eqv x y && D.eqvA xs ys
  | _, _ => false
end
mutual
def D.py : D → PyData
  | .non => .none | .bl b => .bool b | .int i => .int i | .str s => .str ⟨s.toArray⟩
  | .tup l => .tuple (D.pyA l) | .lst l => .list (D.pyA l) | .raw _ => .dict [] | .dic _ _ => .dict [] | .obj _ _ _ => .dict []
def D.pyA : List D → List PyData
  | [] => []
  | x :: xs => x.py :: D.pyA xs
end
theorem str_beq (a b : List Nat) : ((⟨a.toArray⟩ : Str) == ⟨b.toArray⟩) = (a == b) := by
  rw [Bool.eq_iff_iff]
  simp
mutual
theorem D.py_eqv : ∀ d e : D, PyData.eqv d.py e.py = D.eqv d e
  | .non, e => by cases e <;> simp [D.py, D.eqv, PyData.eqv]
  | .bl b, e => by cases e <;> simp [D.py, D.eqv, PyData.eqv]
  | .int i, e => by cases e <;> simp [D.py, D.eqv, PyData.eqv]
  | .str s, e => by
    cases e with
    | str t => simp only [D.py, D.eqv, PyData.eqv, str_beq]
    | _ => simp [D.py, D.eqv, PyData.eqv]
  | .tup l, e => by
    cases e with
    | tup m => simp only [D.py, D.eqv, PyData.eqv]; exact D.py_eqvA l m
    | _ => simp [D.py, D.eqv, PyData.eqv]
  | .lst l, e => by
    cases e with
    | lst m => simp only [D.py, D.eqv, PyData.eqv]; exact D.py_eqvA l m
    | _ => simp [D.py, D.eqv, PyData.eqv]
  | .raw v, e => by cases e <;> simp [D.py, D.eqv, PyData.eqv]
  | .dic _ _, e => by cases e <;> simp [D.py, D.eqv, PyData.eqv]
  | .obj _ _ _, e => by cases e <;> simp [D.py, D.eqv, PyData.eqv]
theorem D.py_eqvA : ∀ l m : List D, PyData.eqvAll (D.pyA l) (D.pyA m) = D.eqvA l m
  | [], [] => rfl
  | [], _ :: _ => rfl
  | _ :: _, [] => rfl
  | x :: xs, y :: ys => by simp only [D.pyA, PyData.eqvAll, D.eqvA, D.py_eqv x y, D.py_eqvA xs ys]
end
/-- what == can look through -/
def D.shp (d : D) : Bool := SeqAt.shaped d.py
mutual
theorem Dz.dp {K : PySem.W.Frag} {H : Hp} : ∀ {v : V} {d : D}, Dz K H v d → d.py.canLay0 = true → Dp K H v d.py
  | _, _, .non, _ => .non
  | _, _, .bl b, _ => .bl b
  | _, _, .int i, _ => .int i
  | _, _, .str s, _ => .str _
  | _, _, .tup hs ha, h => .tup hs (DzA.dp ha (by simpa [D.py, PyData.canLay0] using h))
  | _, _, .lst hs ha, h => .lst hs (DzA.dp ha (by simpa [D.py, PyData.canLay0] using h))
  | _, _, .raw v, h => by simp [D.py, PyData.canLay0] at h
  | _, _, .dic _ _ _, h => by simp [D.py, PyData.canLay0] at h
  | _, _, .obj _ _ _ _, h => by simp [D.py, PyData.canLay0] at h
theorem DzA.dp {K : PySem.W.Frag} {H : Hp} : ∀ {vs : List V} {ds : List D}, DzA K H vs ds → PyData.canLayAll0 (D.pyA ds) = true → DpAll K H vs (D.pyA ds)
  | _, _, .nil, _ => .nil
  | _, _, .cons h t, q => by
    simp only [D.pyA, PyData.canLayAll0, Bool.and_eq_true] at q
    exact .cons (Dz.dp h q.1) (DzA.dp t q.2)
end
/-- plain and no object -/
def D.pl : D → Bool
  | .non => true | .bl _ => true | .int _ => true | .str _ => true
  | _ => false
def eqOk (d e : D) : Bool := (d.pl && e.pl) || (d.shp && e.shp)
def eqD (d e : D) : Option D := if eqOk d e = true then some (.bl (D.eqv d e)) else none
def rEqU (K : PySem.W.Frag) : R2 := fun x y H Q => rEq x y H Q ∨ ((∃ b j, x = .bl b ∧ y = .int j ∧ Q (.bl ((if b then 1 else 0) == j)) H) ∨ ((∃ i b, x = .int i ∧ y = .bl b ∧ Q (.bl (i == (if b then 1 else 0))) H) ∨ rEqD K x y H Q))
theorem o_eq {X : Cx} {k : Nat} (hr : Room k X.A) : OpR X (compareOp .Eq) (rEqU X.K) := by
  refine OpR.or op_eq (OpR.or ?_ (OpR.or ?_ (op_eqD hr.units)))
  · intro pins s σ H x y v u Q I rx ry h
    obtain ⟨b, j, rfl, rfl, q⟩ := h
    cases rx
    obtain ⟨t, rfl⟩ := ry
    exact PySem.EqBoolInt.eq_bool_int (fin_bl I q rfl)
  · intro pins s σ H x y v u Q I rx ry h
    obtain ⟨i, b, rfl, rfl, q⟩ := h
    obtain ⟨t, rfl⟩ := rx
    cases ry
    exact PySem.EqBoolInt.eq_int_bool (fin_bl I q rfl)
theorem s_eq {K : PySem.W.Frag} : OpS K (rEqU K) eqD := by
  intro H x y d e z Q hx hy e1 q
  unfold eqD at e1
  split at e1
  · rename_i ho
    cases e1
    unfold eqOk at ho
    rw [Bool.or_eq_true, Bool.and_eq_true, Bool.and_eq_true] at ho
    rcases ho with ⟨p1, p2⟩ | ⟨p1, p2⟩
    · cases hx <;> cases hy <;> simp [D.pl] at p1 p2
      · exact .inl ⟨rfl, q⟩
      · exact .inl ⟨rfl, q⟩
      · exact .inl ⟨rfl, q⟩
      · exact .inl ⟨rfl, q⟩
      · exact .inl ⟨rfl, q⟩
      · exact .inl ⟨rfl, by rw [dec_bl]; exact q⟩
      · exact .inr (.inl ⟨_, _, rfl, rfl, q⟩)
      · exact .inl ⟨rfl, q⟩
      · exact .inl ⟨rfl, q⟩
      · exact .inr (.inr (.inl ⟨_, _, rfl, rfl, q⟩))
      · exact .inl ⟨rfl, by rw [dec_int]; exact q⟩
      · exact .inl ⟨rfl, q⟩
      · exact .inl ⟨rfl, q⟩
      · exact .inl ⟨rfl, q⟩
      · exact .inl ⟨rfl, q⟩
      · exact .inl ⟨rfl, by rw [dec_str, str_beq]; exact q⟩
    · refine .inr (.inr (.inr ⟨d.py, e.py, hx.dp (SeqAt.canLay_of_shaped p1), hy.dp (SeqAt.canLay_of_shaped p2), p1, p2, ?_⟩))
      rw [D.py_eqv]
      exact q
  · cases e1
def rNeU (K : PySem.W.Frag) : R2 := fun x y H Q => rNe x y H Q ∨ rNeD K x y H Q
theorem o_ne {X : Cx} {k : Nat} (hr : Room k X.A) : OpR X (compareOp .NotEq) (rNeU X.K) := OpR.or op_ne (op_neD hr.units)
/-- != asks for plain values of kinds that are told apart, or for shaped data -/
def D.kin : D → D → Bool
  | .bl _, .int _ => false
  | .int _, .bl _ => false
  | _, _ => true
def neOk (d e : D) : Bool := (d.pl && e.pl && D.kin d e) || (d.shp && e.shp)
def neqD (d e : D) : Option D := if neOk d e = true then some (.bl (!D.eqv d e)) else none
theorem s_ne {K : PySem.W.Frag} : OpS K (rNeU K) neqD := by
  intro H x y d e z Q hx hy e1 q
  unfold neqD at e1
  split at e1
  · rename_i ho
    cases e1
    unfold neOk at ho
    rw [Bool.or_eq_true, Bool.and_eq_true, Bool.and_eq_true, Bool.and_eq_true] at ho
    rcases ho with ⟨⟨p1, p2⟩, p3⟩ | ⟨p1, p2⟩
    · cases hx <;> cases hy <;> simp [D.pl, D.kin] at p1 p2 p3
      · exact .inl ⟨rfl, q⟩
      · exact .inl ⟨rfl, q⟩
      · exact .inl ⟨rfl, q⟩
      · exact .inl ⟨rfl, q⟩
      · exact .inl ⟨rfl, q⟩
      · exact .inl ⟨rfl, by rw [dec_bl]; exact q⟩
      · exact .inl ⟨rfl, q⟩
      · exact .inl ⟨rfl, q⟩
      · exact .inl ⟨rfl, by rw [dec_int]; exact q⟩
      · exact .inl ⟨rfl, q⟩
      · exact .inl ⟨rfl, q⟩
      · exact .inl ⟨rfl, q⟩
      · exact .inl ⟨rfl, q⟩
      · exact .inl ⟨rfl, by rw [dec_str, str_beq]; exact q⟩
    · refine .inr ⟨d.py, e.py, hx.dp (SeqAt.canLay_of_shaped p1), hy.dp (SeqAt.canLay_of_shaped p2), p1, p2, ?_⟩
      rw [D.py_eqv]
      exact q
  · cases e1
def isD : D → D → Option D
  | d, .non => (match d with
    | .non => some (.bl true)
    | .raw _ => none
    | _ => some (.bl false))
  | d, .bl b => (match d with
    | .bl c => some (.bl (decide (c = b)))
    | .raw _ => none
    | _ => some (.bl false))
  | _, _ => none
def isntD (d e : D) : Option D := match isD d e with
  | some (.bl b) => some (.bl (!b))
  | _ => none
def rIsU (neg : Bool) : R2 := fun x y H Q => (y = .non ∧ Q (.bl (if neg then !decide (x = .non) else decide (x = .non))) H) ∨ ∃ b, y = .bl b ∧ Q (.bl (if neg then !decide (x = .bl b) else decide (x = .bl b))) H
theorem RelV.ne_bl {x : V} {v : Value} {b : Bool} (r : RelV x v) (h : x ≠ .bl b) : v ≠ Value.bool b := by
  intro z
  subst z
  cases x with
  | bl c => cases r; exact h rfl
  | non => cases r
  | int _ => obtain ⟨t, e⟩ := r; cases e
  | str _ => obtain ⟨t, e⟩ := r; cases e
  | byt _ => obtain ⟨t, e⟩ := r; cases e
  | flt _ => obtain ⟨t, e⟩ := r; cases e
  | ref _ => cases r
  | ty _ => cases r
theorem plainB {x : V} {v : Value} {b : Bool} (r : RelV x v) : plainIs v (.bool b) = true := by
  cases x with
  | bl c => cases r; rfl
  | non => cases r; rfl
  | int _ => obtain ⟨t, e⟩ := r; subst e; rfl
  | str _ => obtain ⟨t, e⟩ := r; subst e; rfl
  | byt _ => obtain ⟨t, e⟩ := r; subst e; rfl
  | flt _ => obtain ⟨t, e⟩ := r; subst e; rfl
  | ref _ => cases r; rfl
  | ty _ => cases r; rfl
theorem o_is {X : Cx} : OpR X (compareOp .Is) (rIsU false) := by
  intro pins s σ H x y v u Q I rx ry h
  rcases h with h | ⟨b, rfl, q⟩
  · exact op_isN pins s σ H x y v u Q I rx ry h
  · cases ry
    have q' : Q (.bl (decide (x = .bl b))) H := q
    by_cases e : x = .bl b
    · subst e
      cases rx
      exact wpAny_is_self rfl ⟨.bl true, H, I, rfl, by simpa using q'⟩
    · exact wpAny_is_other (plainB rx) (RelV.ne_bl rx e) ⟨.bl false, H, I, rfl, by simpa [e] using q'⟩
theorem o_isnt {X : Cx} : OpR X (compareOp .IsNot) (rIsU true) := by
  intro pins s σ H x y v u Q I rx ry h
  rcases h with h | ⟨b, rfl, q⟩
  · exact op_notN pins s σ H x y v u Q I rx ry h
  · cases ry
    have q' : Q (.bl (!decide (x = .bl b))) H := q
    by_cases e : x = .bl b
    · subst e
      cases rx
      exact wpAny_isNot_self rfl ⟨.bl false, H, I, rfl, by simpa using q'⟩
    · exact wpAny_isNot_other (plainB rx) (RelV.ne_bl rx e) ⟨.bl true, H, I, rfl, by simpa [e] using q'⟩
theorem isD_ok {K : PySem.W.Frag} {H : Hp} {x : V} {d e : D} {b : Bool} (hx : Dz K H x d) (h : isD d e = some (.bl b)) : (e = .non ∧ b = decide (x = .non)) ∨ ∃ c, e = .bl c ∧ b = decide (x = .bl c) := by
  cases e with
  | non =>
    refine .inl ⟨rfl, ?_⟩
    cases hx <;> simp [isD] at h ⊢ <;> exact h
  | bl c =>
    refine .inr ⟨c, rfl, ?_⟩
    cases hx <;> simp [isD] at h ⊢ <;> first | exact h | exact h.symm
  | _ => cases d <;> simp [isD] at h
theorem isD_bl {d e z : D} (h : isD d e = some z) : ∃ b, z = .bl b := by
  unfold isD at h
  split at h
  · split at h <;> cases h <;> exact ⟨_, rfl⟩
  · split at h <;> cases h <;> exact ⟨_, rfl⟩
  · cases h
theorem s_is {K : PySem.W.Frag} : OpS K (rIsU false) isD := by
  intro H x y d e z Q hx hy e1 q
  obtain ⟨b, rfl⟩ := isD_bl e1
  rcases isD_ok hx e1 with ⟨rfl, rfl⟩ | ⟨c, rfl, rfl⟩
  · cases hy; exact .inl ⟨rfl, q⟩
  · cases hy; exact .inr ⟨c, rfl, q⟩
theorem s_isnt {K : PySem.W.Frag} : OpS K (rIsU true) isntD := by
  intro H x y d e z Q hx hy e1 q
  unfold isntD at e1
  split at e1
  · rename_i b e2
    cases e1
    rcases isD_ok hx e2 with ⟨rfl, rfl⟩ | ⟨c, rfl, rfl⟩
    · cases hy; exact .inl ⟨rfl, q⟩
    · cases hy; exact .inr ⟨c, rfl, q⟩
  · cases e1
end Z
set_option Elab.async false
set_option linter.all false
set_option maxRecDepth 100000
set_option maxHeartbeats 4000000
namespace Z
open PySem PySem.Spec PyProof.Rows L2
/-- a list or tuple by what is read of it -/
theorem Ok.rdL {C : Ct} {Hs : Hp} {A : List Addr} {g : G} {σ : L2.St} {H : Hp} (ok : Ok C Hs A g σ H) {v : V} {r : R} {ds : List D} (h : RelR C.K Hs A v r) (e : Z.rd g r = some (.lst ds)) : ∃ a vs, v = .ref a ∧ SqL C.K H a vs ∧ DzA C.K Hs vs ds := by
  cases r with
  | dat d =>
    cases e
    have hd : Dz C.K Hs v (.lst ds) := h
    cases hd with
    | lst hs ha => exact ⟨_, _, rfl, ok.same.seq hs, ha⟩
  | bor j =>
    obtain ⟨a, h1, rfl⟩ := (show ∃ a, A[j]? = some a ∧ v = .ref a from h)
    have e : (match g[j]? with
      | some (.own c _ _) => some c.d
      | some (.frz d) => some d
      | _ => none) = some (.lst ds) := e
    split at e
    · rename_i c p l hg
      cases c with
      | lst L =>
        cases e
        obtain ⟨a', vs, ev, w1, w2, w3⟩ := ok.bor (relB h1) hg
        cases ev
        exact ⟨a, vs, rfl, SqL.of w2, w3⟩
    · rename_i d hg
      cases e
      obtain ⟨a', w1, _, hd⟩ := ok.frz j _ hg
      rw [h1] at w1
      cases w1
      cases hd with
      | lst hs ha => exact ⟨_, _, rfl, ok.same.seq hs, ha⟩
    · cases e
theorem Ok.rdT {C : Ct} {Hs : Hp} {A : List Addr} {g : G} {σ : L2.St} {H : Hp} (ok : Ok C Hs A g σ H) {v : V} {r : R} {ds : List D} (h : RelR C.K Hs A v r) (e : Z.rd g r = some (.tup ds)) : ∃ a vs, v = .ref a ∧ SqT C.K Hs a vs ∧ DzA C.K Hs vs ds := by
  cases r with
  | dat d =>
    cases e
    have hd : Dz C.K Hs v (.tup ds) := h
    cases hd with
    | tup hs ha => exact ⟨_, _, rfl, hs, ha⟩
  | bor j =>
    obtain ⟨a, h1, rfl⟩ := (show ∃ a, A[j]? = some a ∧ v = .ref a from h)
    have e : (match g[j]? with
      | some (.own c _ _) => some c.d
      | some (.frz d) => some d
      | _ => none) = some (.tup ds) := e
    split at e
    · rename_i c p l hg
      cases c with
      | lst L => cases e
    · rename_i d hg
      cases e
      obtain ⟨a', w1, _, hd⟩ := ok.frz j _ hg
      rw [h1] at w1
      cases w1
      cases hd with
      | tup hs ha => exact ⟨_, _, rfl, hs, ha⟩
    · cases e
def catOk (n m : Nat) : Bool := decide (n + m ≤ sizeLine)
def addS : D → D → Option D
  | .int i, .int j => some (.int (i + j))
  | .int i, .bl b => some (.int (i + b2i b))
  | .str a, .str b => if catOk a.length b.length = true then some (.str (a ++ b)) else none
  | _, _ => none
def rAddS : R2 := fun x y H Q => rI0 (fun i j => .int (i + j)) x y H Q ∨ (∃ i k, x = .int i ∧ y = .bl k ∧ Q (.int (i + b2i k)) H) ∨ (∃ i j, x = .str i ∧ y = .str j ∧ i.length + j.length ≤ sizeLine ∧ Q (.str (i ++ j)) H)
theorem o_add {X : Cx} : OpR X (binaryOp .Add) rAddS := OpR.or op_add (OpR.or op_add_ib op_add_str)
theorem str_app (a b : List Nat) : (⟨a.toArray⟩ : Str) ++ ⟨b.toArray⟩ = ⟨(a ++ b).toArray⟩ := by
  show Str.append _ _ = _
  simp [Str.append]
theorem s_add {K : PySem.W.Frag} : OpS K rAddS addS := by
  intro H x y d e z Q hx hy e1 q
  unfold addS at e1
  split at e1
  · cases e1; cases hx; cases hy; exact .inl ⟨_, _, rfl, rfl, q⟩
  · cases e1; cases hx; cases hy; exact .inr (.inl ⟨_, _, rfl, rfl, q⟩)
  · split at e1
    · rename_i h
      cases e1; cases hx; cases hy
      exact .inr (.inr ⟨_, _, rfl, rfl, by have := of_decide_eq_true h; simpa [Str.length] using this, by rw [str_app]; exact q⟩)
    · cases e1
  · cases e1
/-- o[i] -/
def ixD (d : D) (k : Int) : Option D := match d with
  | .lst l => atI l k
  | .tup l => atI l k
  | .str s => if s.length ≤ sizeLine then (atI s k).map fun c => .str [c] else none
  | _ => none
def zIx (ma mb : ZM) : ZM := fun g => do
  let (r1, g1) ← ma g
  let (r2, g2) ← mb g1
  let d ← rd g2 r1
  let k ← isI r2
  let z ← ixD d k
  some (.dat z, g2)
theorem atI_dz {K : PySem.W.Frag} {H : Hp} {vs : List V} {ds : List D} {k : Int} {z : D} (h : DzA K H vs ds) (e : atI ds k = some z) : ∃ v, atI vs k = some v ∧ Dz K H v z := by
  unfold atI at e ⊢
  rw [h.length]
  cases q : ixN ds.length k with
  | none => rw [q] at e; cases e
  | some j =>
    rw [q] at e
    obtain ⟨v, h1, h2⟩ := h.get (show ds[j]? = some z from e)
    exact ⟨v, h1, h2⟩
section
variable {X : Cx} {pos : Pos} {a b : Expr} {ma mb : ZM}
theorem ze_ix (ha : ZE X a ma) (hb : ZE X b mb) (hs : PlainIx b := by exact fun _ _ => rfl) : ZE X (.Subscript a b pos) (zIx ma mb) := by
  refine PE.of (pe_ix ix_seq ha hb hs) fun σ H Q ⟨C, Hs, A, g, r, g', hK, hn, ok, e, q⟩ => ?_
  unfold zIx at e
  simp only [Option.bind_eq_bind, Option.bind_eq_some_iff] at e
  obtain ⟨⟨r1, g1⟩, h1, ⟨r2, g2⟩, h2, d, h3, k, h4, z, h5, e⟩ := e
  cases e
  have er : r2 = .dat (.int k) := isI_some h4
  subst er
  refine tZ2 hK hn ok h1 h2 fun Hs2 A2 v1 v2 H2 s p ok2 w1 w2 => ?_
  have e2 : v2 = .int k := (show Dz C.K Hs2 v2 (.int k) from w2).v rfl
  subst e2
  cases d with
  | lst l =>
    obtain ⟨a', vs, rfl, y1, y2⟩ := ok2.rdL w1 h3
    obtain ⟨v, x1, x2⟩ := atI_dz y2 h5
    exact .inl ⟨a', vs, k, v, rfl, rfl, by rw [← hK]; exact y1, x1, q Hs2 A2 v H2 s p ok2 x2⟩
  | tup l =>
    obtain ⟨a', vs, rfl, y1, y2⟩ := ok2.rdT w1 h3
    obtain ⟨v, x1, x2⟩ := atI_dz y2 h5
    exact .inr (.inl ⟨a', vs, k, v, rfl, rfl, by rw [← hK]; exact sameT ok2.same y1, x1, q Hs2 A2 v H2 s p ok2 x2⟩)
  | str t =>
    have hd := ok2.rd w1 h3
    cases hd
    simp only [ixD] at h5
    split at h5
    · rename_i hl
      cases ec : atI t k with
      | none => rw [ec] at h5; cases h5
      | some c =>
        rw [ec] at h5
        cases h5
        exact .inr (.inr ⟨_, k, c, rfl, rfl, by simpa [Str.length] using hl, by simpa using ec, q Hs2 A2 _ H2 s p ok2 (.str [c])⟩)
    · cases h5
  | _ => cases h5
theorem len_codes (t : List Nat) : (⟨t.toArray⟩ : Str).length = t.length := by simp [Str.length]
def lenD : List D → Option D
  | [.lst l] => some (.int l.length)
  | [.tup l] => some (.int l.length)
  | [.str s] => if s.length ≤ sizeLine then some (.int s.length) else none
  | _ => none
def rLen (K : PySem.W.Frag) : List V → Hp → VK → Prop := fun xs H Q => ∃ x n, xs = [x] ∧ LenV K x H n ∧ Q (.int n) H
theorem s_len {K : PySem.W.Frag} : CallS K (rLen K) lenD := by
  intro H vs ds z Q hz e q
  unfold lenD at e
  split at e
  · cases e
    cases hz with
    | cons h t =>
      cases t
      cases h with
      | lst hs ha => exact ⟨_, _, rfl, .inl ⟨_, hs, rfl⟩, by rw [ha.length]; exact q⟩
  · cases e
    cases hz with
    | cons h t =>
      cases t
      cases h with
      | tup hs ha => exact ⟨_, _, rfl, .inr ⟨_, hs, rfl⟩, by rw [ha.length]; exact q⟩
  · split at e
    · rename_i hl
      cases e
      cases hz with
      | cons h t =>
        cases t
        cases h with
        | str s => exact ⟨_, _, rfl, ⟨by simpa [Str.length] using hl, rfl⟩, by rw [len_codes]; exact q⟩
    · cases e
  · cases e
def absD : List D → Option D
  | [.int i] => some (.int (if i < 0 then -i else i))
  | _ => none
theorem s_abs {K : PySem.W.Frag} : CallS K (fun xs H Q => ∃ i, xs = [.int i] ∧ Q (.int (if i < 0 then -i else i)) H) absD := by
  intro H vs ds z Q hz e q
  unfold absD at e
  split at e
  · cases e
    cases hz with
    | cons h t =>
      cases t
      cases h
      exact ⟨_, rfl, q⟩
  · cases e
def minD : List D → Option D
  | [.int i, .int j] => some (.int (if j < i then j else i))
  | _ => none
theorem s_min {K : PySem.W.Frag} : CallS K (fun xs H Q => ∃ i j, xs = [.int i, .int j] ∧ Q (.int (if j < i then j else i)) H) minD := by
  intro H vs ds z Q hz e q
  unfold minD at e
  split at e
  · cases e
    cases hz with
    | cons h t =>
      cases t with
      | cons h2 t =>
        cases t
        cases h
        cases h2
        exact ⟨_, _, rfl, q⟩
  · cases e
def maxD : List D → Option D
  | [.int i, .int j] => some (.int (if j > i then j else i))
  | _ => none
theorem s_max {K : PySem.W.Frag} : CallS K (fun xs H Q => ∃ i j, xs = [.int i, .int j] ∧ Q (.int (if j > i then j else i)) H) maxD := by
  intro H vs ds z Q hz e q
  unfold maxD at e
  split at e
  · cases e
    cases hz with
    | cons h t =>
      cases t with
      | cons h2 t =>
        cases t
        cases h
        cases h2
        exact ⟨_, _, rfl, q⟩
  · cases e
/-- the texts of a list -/
def txsD : List D → Option (List (List Nat))
  | [] => some []
  | .str s :: r => do
    let t ← txsD r
    some (s :: t)
  | _ :: _ => none
theorem strs_map : ∀ {ds : List D} {ts : List (List Nat)}, txsD ds = some ts → ds = ts.map D.str
  | [], ts, e => by cases e; rfl
  | d :: r, ts, e => by
    cases d with
    | str s =>
      simp only [txsD, Option.bind_eq_bind, Option.bind_eq_some_iff] at e
      obtain ⟨t, h1, e⟩ := e
      cases e
      rw [strs_map h1]
      rfl
    | _ => cases e
theorem dzA_strs {K : PySem.W.Frag} {H : Hp} : ∀ {vs : List V} {ts : List (List Nat)}, DzA K H vs (ts.map D.str) → vs = (ts.map fun t => (⟨t.toArray⟩ : Str)).map V.str
  | [], [], _ => rfl
  | _ :: _, [], h => by cases h
  | [], _ :: _, h => by cases h
  | v :: vs, t :: ts, h => by
    cases h with
    | cons h1 h2 =>
      cases h1
      rw [dzA_strs h2]
      rfl
def joinD : D → List D → Option D
  | .str sep, [.lst l] => do
    let ts ← txsD l
    if (ts.map List.length).sum + ts.length * sep.length ≤ 16777216 then some (.str (TL.joinL sep ts)) else none
  | .str sep, [.tup l] => do
    let ts ← txsD l
    if (ts.map List.length).sum + ts.length * sep.length ≤ 16777216 then some (.str (TL.joinL sep ts)) else none
  | _, _ => none
def rJoin (K : PySem.W.Frag) : V → List V → Hp → VK → Prop := fun x xs H Q => ∃ a p, ∃ ys : List Str, x = .str a ∧ xs = [.ref p] ∧ (SqL K H p (ys.map V.str) ∨ SqT K H p (ys.map V.str)) ∧
    (ys.map (·.length)).sum + ys.length * a.length ≤ 16777216 ∧ Q (.str (Txt.join a ys)) H
theorem join_codes (sep : List Nat) (ts : List (List Nat)) : Txt.join ⟨sep.toArray⟩ (ts.map fun t => (⟨t.toArray⟩ : Str)) = ⟨(TL.joinL sep ts).toArray⟩ := by
  refine TL.ext_tl ?_
  rw [TL.join_eq, TL.tl_join]
  show TL.joinL (TL.tl ⟨sep.toArray⟩) ((ts.map fun t => (⟨t.toArray⟩ : Str)).map TL.tl) = TL.joinL sep ts
  rw [List.map_map, TL.tl_mk]
  congr 1
  exact List.map_id' ts
theorem s_join {K : PySem.W.Frag} : MtS K (rJoin K) joinD := by
  intro H x vs d ds z Q hx hz e q
  unfold joinD at e
  have key : ∀ (sep : List Nat) (ts : List (List Nat)), (ts.map List.length).sum + ts.length * sep.length ≤ 16777216 → ((ts.map fun t => (⟨t.toArray⟩ : Str)).map (·.length)).sum + (ts.map fun t => (⟨t.toArray⟩ : Str)).length * (⟨sep.toArray⟩ : Str).length ≤ 16777216 := fun sep ts h => by
    rw [List.map_map, List.length_map]
    have e1 : ((fun x : Str => x.length) ∘ fun t : List Nat => (⟨t.toArray⟩ : Str)) = List.length := by funext t; simp [Str.length]
    rw [e1]
    simpa [Str.length] using h
  split at e
  · simp only [Option.bind_eq_bind, Option.bind_eq_some_iff] at e
    obtain ⟨ts, h1, e⟩ := e
    split at e
    · rename_i hl
      cases e
      cases hx
      cases hz with
      | cons h t =>
        cases t
        cases h with
        | lst hs ha =>
          rw [strs_map h1] at ha
          have ev := dzA_strs ha
          subst ev
          exact ⟨_, _, _, rfl, rfl, .inl hs, key _ _ hl, by rw [join_codes]; exact q⟩
    · cases e
  · simp only [Option.bind_eq_bind, Option.bind_eq_some_iff] at e
    obtain ⟨ts, h1, e⟩ := e
    split at e
    · rename_i hl
      cases e
      cases hx
      cases hz with
      | cons h t =>
        cases t
        cases h with
        | tup hs ha =>
          rw [strs_map h1] at ha
          have ev := dzA_strs ha
          subst ev
          exact ⟨_, _, _, rfl, rfl, .inr hs, key _ _ hl, by rw [join_codes]; exact q⟩
    · cases e
  · cases e
end
end Z
set_option Elab.async false
set_option linter.all false
set_option maxRecDepth 100000
set_option maxHeartbeats 4000000
namespace Z
open PySem PySem.Spec PyProof.Rows L2
/-- a def of the top stands at its name -/
def DefAt (K : PySem.W.Frag) (mg : Str → Option Value) (x : Str) (st : Stmt) : Prop := ∃ (a : Addr) (fd : FuncData), mg x = some (.ref a) ∧ Fun K x x st a fd
/-- a constant of the top -/
def ConstAt (K : PySem.W.Frag) (mg : Str → Option Value) (x : Str) (v : V) (d : D) : Prop := (∃ u, mg x = some u ∧ RelV v u) ∧ ∀ H, Dz K H v d
theorem ze_gc {X : Cx} {pos : Pos} {x : Str} {v : V} {d : D} (h : ConstAt X.K X.mg x v d) (hg : Gl X x := by rfl) (hdb : (x == ("__debug__" : Str)) = false := by decide) : ZE X (.Name x pos) (zC d) := by
  obtain ⟨⟨u, h1, h2⟩, h3⟩ := h
  exact ze_glob hg h1 h2 h3 hdb
/-- int(x): of an int, a bool, a text -/
def intU : List D → Option D
  | [.int i] => some (.int i)
  | [.bl b] => some (.int (if b then 1 else 0))
  | [.str s] => match PySem.intText? ⟨s.toArray⟩ with
    | some n => if s.length ≤ 640 then some (.int n) else none
    | none => none
  | _ => none
def rIntU : List V → Hp → VK → Prop := fun xs H Q => ((∃ i, xs = [.int i] ∧ Q (.int i) H) ∨ ∃ k, xs = [.bl k] ∧ Q (.int (if k then 1 else 0)) H) ∨ (∃ a n, xs = [.str a] ∧ PySem.intText? a = some n ∧ a.length ≤ 640 ∧ Q (.int n) H)
theorem call_intU {X : Cx} : CallR X (.type "int") rIntU := CallR.or call_int1 call_int_str
theorem s_intU {K : PySem.W.Frag} : CallS K rIntU intU := by
  intro H vs ds z Q hz e q
  unfold intU at e
  split at e
  · cases e
    cases hz with
    | cons h t =>
      cases t
      cases h
      exact .inl (.inl ⟨_, rfl, q⟩)
  · cases e
    cases hz with
    | cons h t =>
      cases t
      cases h
      exact .inl (.inr ⟨_, rfl, q⟩)
  · split at e
    · rename_i n hn
      split at e
      · rename_i hl
        cases e
        cases hz with
        | cons h t =>
          cases t
          cases h
          exact .inr ⟨_, n, rfl, hn, by rw [len_codes]; exact hl, q⟩
      · cases e
    · cases e
  · cases e
/-- the script as data -/
def scriptD (ns : List Int) : D := .lst (ns.map .int)
theorem dzA_ints {K : PySem.W.Frag} {H : Hp} : ∀ ns : List Int, DzA K H (ns.map V.int) (ns.map D.int)
  | [] => .nil
  | n :: r => .cons (.int n) (dzA_ints r)
/-- the law's promise from its function -/
theorem law_sp {K : PySem.W.Frag} {H : Hp} {a : Addr} {ns : List Int} {f : List D → Option FR} (h : SqL K H a (ns.map V.int)) (e : f [scriptD ns] = some (.dat (.bl true))) : spP K f [.ref a] H (fun v _ => v = .bl true) fun _ _ _ => False := by
  refine ⟨H, [scriptD ns], .dat (.bl true), Same.refl _, .cons (.lst h (dzA_ints ns)) .nil, e, fun v Hs' H' _ _ _ _ rf => ?_⟩
  exact (show Dz K Hs' v (.bl true) from rf).v rfl
end Z
set_option Elab.async false
set_option linter.all false
set_option maxRecDepth 100000
set_option maxHeartbeats 4000000
namespace Z
open PySem PySem.Spec PyProof.Rows L2
section
variable {g g1 g2 g3 : G} {r r1 r2 : R} {d e z : D} {ma mb mc m : ZM} {mr : ZAr} {rs : List R} {ds : List D} {b b1 b2 : Bool} {t s : ZT} {n i j : Nat}
theorem er_op {f : D → D → Option D} (h1 : ma g = some (r1, g1)) (h2 : mb g1 = some (r2, g2)) (h3 : rd g2 r1 = some d) (h4 : rd g2 r2 = some e) (h5 : f d e = some z) (h6 : z.scal = true) : zOp f ma mb g = some (.dat z, g2) := by
  unfold zOp; simp only [h1, h2, h3, h4, h5, h6, Option.bind_eq_bind, Option.bind_some, if_true]
theorem er_un {f : D → Option D} (h1 : ma g = some (r1, g1)) (h3 : rd g1 r1 = some d) (h5 : f d = some z) (h6 : z.scal = true) : zUn f ma g = some (.dat z, g1) := by
  unfold zUn; simp only [h1, h3, h5, h6, Option.bind_eq_bind, Option.bind_some, if_true]
theorem er_chain {f f' : D → D → Option D} {r3 : R} {h : D} (h1 : ma g = some (r1, g1)) (h2 : mb g1 = some (r2, g)) (h3 : rd g r1 = some d) (h4 : rd g r2 = some e) (h5 : f d e = some (.bl b1)) (h6 : b1 = true → mc g = some (r3, g)) (h7 : rd g r3 = some h) (h8 : f' e h = some (.bl b2)) :
    zChain f f' ma mb mc g = some (.dat (.bl (b1 && b2)), g) := by
  unfold zChain; simp only [h1, h2, h3, h4, h5, Option.bind_eq_bind, Option.bind_some]
  cases b1 with
  | true => simp only [h6 rfl, h4, h7, h8, Option.bind_some, D.scal, if_true, Bool.true_and]
  | false => rfl
theorem er_tst (h1 : m g = some (.dat (.bl b), g1)) : zTst m g = some (b, g1) := by
  unfold zTst; simp only [h1, isB, Option.bind_eq_bind, Option.bind_some]
theorem er_tru (h1 : m g = some (r, g1)) (h2 : rd g1 r = some d) (h3 : tru d = some b) : zTru m g = some (b, g1) := by
  unfold zTru; simp only [h1, h2, h3, Option.bind_eq_bind, Option.bind_some]
theorem er_andT (h1 : s g = some (b1, g)) (h2 : b1 = true → t g = some (b2, g)) : zAndT s t g = some (b1 && b2, g) := by
  unfold zAndT; simp only [h1, Option.bind_eq_bind, Option.bind_some]
  cases b1 with
  | true => simp only [h2 rfl, if_true, Bool.true_and]
  | false => rfl
theorem er_orT (h1 : s g = some (b1, g)) (h2 : b1 = false → t g = some (b2, g)) : zOrT s t g = some (b1 || b2, g) := by
  unfold zOrT; simp only [h1, Option.bind_eq_bind, Option.bind_some]
  cases b1 with
  | true => rfl
  | false =>
    rw [if_neg Bool.false_ne_true, h2 rfl]
    rfl
theorem er_notT (h1 : s g = some (b, g1)) : zNotT s g = some (!b, g1) := by
  unfold zNotT; simp only [h1, Option.bind_eq_bind, Option.bind_some]
theorem er_andV (h1 : ma g = some (.dat (.bl b1), g)) (h2 : b1 = true → mb g = some (.dat (.bl b2), g)) : zAndV ma mb g = some (.dat (.bl (b1 && b2)), g) := by
  unfold zAndV; simp only [h1, isB, Option.bind_eq_bind, Option.bind_some]
  cases b1 with
  | true => simp only [h2 rfl, if_true, Bool.true_and]
  | false => rfl
theorem er_orV (h1 : ma g = some (.dat (.bl b1), g)) (h2 : b1 = false → mb g = some (.dat (.bl b2), g)) : zOrV ma mb g = some (.dat (.bl (b1 || b2)), g) := by
  unfold zOrV; simp only [h1, isB, Option.bind_eq_bind, Option.bind_some]
  cases b1 with
  | true => rfl
  | false =>
    rw [if_neg Bool.false_ne_true, h2 rfl]
    rfl
theorem er_notV (h1 : ma g = some (.dat (.bl b), g1)) : zNotV ma g = some (.dat (.bl (!b)), g1) := by
  unfold zNotV; simp only [h1, isB, Option.bind_eq_bind, Option.bind_some]
theorem er_ifT (h1 : t g = some (true, g1)) (h2 : ma g1 = some (r, g2)) : zIf t ma mb g = some (r, g2) := by
  unfold zIf; simp only [h1, h2, Option.bind_eq_bind, Option.bind_some, if_true]
theorem er_ifF (h1 : t g = some (false, g1)) (h2 : mb g1 = some (r, g2)) : zIf t ma mb g = some (r, g2) := by
  unfold zIf; simp only [h1, Option.bind_eq_bind, Option.bind_some]
  rw [if_neg Bool.false_ne_true]
  exact h2
theorem er_cons (h1 : ma g = some (r, g1)) (h2 : mr g1 = some (rs, g2)) : zCons ma mr g = some (r :: rs, g2) := by
  unfold zCons; simp only [h1, h2, Option.bind_eq_bind, Option.bind_some]
theorem er_callS {f : List D → Option D} (h1 : mr g = some (rs, g1)) (h2 : rdAll g1 rs = some ds) (h3 : f ds = some z) (h4 : z.scal = true) : zCallS f mr g = some (.dat z, g1) := by
  unfold zCallS; simp only [h1, h2, h3, h4, Option.bind_eq_bind, Option.bind_some, if_true]
theorem er_callV {f : List D → Option FR} (h1 : mr g = some (rs, g1)) (h2 : rdAll g1 rs = some ds) (h3 : f ds = some (.dat d)) (h4 : d.scal = true) : zCall f mr g = some (.dat d, g1) := by
  unfold zCall; simp only [h1, h2, h3, h4, Option.bind_eq_bind, Option.bind_some, if_true]
theorem er_callN {f : List D → Option FR} {c : Cn} (h1 : mr g = some (rs, g1)) (h2 : rdAll g1 rs = some ds) (h3 : f ds = some (.new c)) (h4 : c.scal = true) : zCall f mr g = some (.bor g1.length, g1 ++ [.own c false false]) := by
  unfold zCall; simp only [h1, h2, h3, h4, Option.bind_eq_bind, Option.bind_some, if_true]
theorem frzAll_dat : ∀ (ds : List D) (g : G), frzAll (ds.map R.dat) g = some (ds, g)
  | [], _ => rfl
  | d :: ds, g => by
    simp only [List.map_cons, frzAll, frzR, frzAll_dat ds g, Option.bind_eq_bind, Option.bind_some]
/-- all arguments data: no matter what comes back -/
theorem rdAll_dat : ∀ (ds : List D) (g : G), rdAll g (ds.map R.dat) = some ds
  | [], _ => rfl
  | d :: ds, g => by
    simp only [List.map_cons, rdAll, rdX, rd, rdAll_dat ds g, Option.bind_eq_bind, Option.bind_some]
theorem er_callL {f : List D → Option FR} {c : Cn} (h1 : mr g = some (ds.map R.dat, g1)) (h3 : f ds = some (.new c)) : zCall f mr g = some (.bor g1.length, g1 ++ [.own c false false]) := by
  unfold zCall; simp only [h1, rdAll_dat, frzAll_dat, h3, Option.bind_eq_bind, Option.bind_some]
  split
  · rfl
  · rfl
/-- a call whose arguments are data, or whose answer is plain -/
theorem er_callG {f : List D → Option FR} (h1 : mr g = some (rs, g1)) (h2 : rdAll g1 rs = some ds) (h2' : frzAll rs g1 = some (ds, g2)) (h3 : f ds = some (.dat d)) (h4 : g2 = g1) : zCall f mr g = some (.dat d, g1) := by
  subst h4
  unfold zCall; simp only [h1, h2, h2', h3, Option.bind_eq_bind, Option.bind_some]
  split
  · rfl
  · rfl
theorem er_callH {f : List D → Option FR} {c : Cn} (h1 : mr g = some (rs, g1)) (h2 : rdAll g1 rs = some ds) (h2' : frzAll rs g1 = some (ds, g2)) (h3 : f ds = some (.new c)) (h4 : g2 = g1) : zCall f mr g = some (.bor g1.length, g1 ++ [.own c false false]) := by
  subst h4
  unfold zCall; simp only [h1, h2, h2', h3, Option.bind_eq_bind, Option.bind_some]
  split
  · rfl
  · rfl
theorem er_ix {k : Int} (h1 : ma g = some (r1, g1)) (h2 : mb g1 = some (.dat (.int k), g2)) (h3 : rd g2 r1 = some d) (h4 : ixD d k = some z) : zIx ma mb g = some (.dat z, g2) := by
  unfold zIx; simp only [h1, h2, h3, h4, isI, Option.bind_eq_bind, Option.bind_some]
theorem er_mt {T : String} {f : D → List D → Option D} (h1 : ma g = some (r, g1)) (h2 : rd g1 r = some d) (h3 : tyD T d = true) (h4 : mr g1 = some (rs, g2)) (h5 : rd g2 r = some e) (h6 : rdAll g2 rs = some ds) (h7 : f e ds = some z) (h8 : z.scal = true) : zMt T f ma mr g = some (.dat z, g2) := by
  unfold zMt; simp only [h1, h2, h3, h4, h5, h6, h7, h8, Option.bind_eq_bind, Option.bind_some, if_true]
theorem er_tup (h1 : mr g = some (rs, g1)) (h2 : frzAll rs g1 = some (ds, g2)) (h3 : ds.length ≤ sizeLine) : zTup mr g = some (.dat (.tup ds), g2) := by
  unfold zTup; simp only [h1, h2, h3, Option.bind_eq_bind, Option.bind_some, if_true]
theorem er_lst (h1 : mr g = some (rs, g1)) (h2 : frzAll rs g1 = some (ds, g2)) (h3 : ds.length ≤ sizeLine) : zLst mr g = some (.bor g2.length, g2 ++ [.own (.lst ds) false false]) := by
  unfold zLst; simp only [h1, h2, h3, Option.bind_eq_bind, Option.bind_some, if_true]
def ap {β : Type} (kk : Option (Fl × G) → β) (o : Option (Fl × G)) : β := kk o
variable {β : Type} {kk : Option (Fl × G) → β} {OUT : β} {st st1 st2 rest : SM} {c : Cn}
theorem sr_nx (k : ap kk (rest g) = OUT) : ap kk (zSeq zNx rest g) = OUT := k
theorem sr_assoc {s1 s2 s3 : SM} (k : ap kk (zSeq s1 (zSeq s2 s3) g) = OUT) : ap kk (zSeq (zSeq s1 s2) s3 g) = OUT := by
  have e : zSeq (zSeq s1 s2) s3 g = zSeq s1 (zSeq s2 s3) g := by
    unfold zSeq
    simp only [Option.bind_eq_bind]
    cases s1 g with
    | none => rfl
    | some o =>
      obtain ⟨fl, g1⟩ := o
      cases fl <;> rfl
  rw [e]; exact k
theorem set_dat (h1 : m g = some (.dat d, g1)) (hf : freeAt i g1 = true) (hg : (g1.set i (.dat d)).take n = g2) : zSet n i m g = some (.nx, g2) := by
  unfold zSet; simp only [h1, setR, setDat, hf, hg, Option.bind_eq_bind, Option.bind_some, if_true]
theorem set_own (h1 : m g = some (.bor j, g1)) (hj : n ≤ j) (ho : g1[j]? = some (.own c false false)) (hf : freeAt i g1 = true) (hg : ((g1.set i (.own c false false)).set j .un).take n = g2) : zSet n i m g = some (.nx, g2) := by
  unfold zSet; simp only [h1, setR, if_pos hj, ho, hf, hg, Option.bind_eq_bind, Option.bind_some, if_true]
theorem app_run (h1 : ma g = some (.bor j, g1)) {ds0 : List D} {p0 l0 p : Bool} (h0 : g1[j]? = some (.own (.lst ds0) p0 l0)) (h2 : mb g1 = some (r, g2)) (h3 : frzR r g2 = some (d, g3)) (h4 : g3[j]? = some (.own (.lst ds) p false)) (hz : ds.length < sizeLine) {g4 : G} (hg : (g3.set j (.own (.lst (ds ++ [d])) p false)).take n = g4) :
    zApp n ma mb g = some (.nx, g4) := by
  unfold zApp; simp only [h1, h0, h2, h3, h4, if_pos hz, hg, Option.bind_eq_bind, Option.bind_some]
theorem seq_nx (h : st g = some (.nx, g1)) (k : ap kk (rest g1) = OUT) : ap kk (zSeq st rest g) = OUT := by
  unfold zSeq; simp only [h, Option.bind_eq_bind, Option.bind_some]; exact k
theorem one_nx (h : st g = some (.nx, g1)) (k : ap kk (some (.nx, g1)) = OUT) : ap kk (st g) = OUT := by rw [h]; exact k
theorem sr_if (h1 : t g = some (b, g1)) (hg : g1.take n = g2) (k1 : b = true → ap kk (zSeq st1 rest g2) = OUT) (k2 : b = false → ap kk (zSeq st2 rest g2) = OUT) : ap kk (zSeq (zIfS n t st1 st2) rest g) = OUT := by
  have e : zSeq (zIfS n t st1 st2) rest g = if b = true then zSeq st1 rest g2 else zSeq st2 rest g2 := by
    unfold zSeq zIfS
    simp only [h1, hg, Option.bind_eq_bind, Option.bind_some]
    cases b with
    | true => rfl
    | false => rfl
  rw [e]
  cases b with
  | true => exact k1 rfl
  | false => exact k2 rfl
theorem sr_if1 (h1 : t g = some (b, g1)) (hg : g1.take n = g2) (k1 : b = true → ap kk (st1 g2) = OUT) (k2 : b = false → ap kk (st2 g2) = OUT) : ap kk (zIfS n t st1 st2 g) = OUT := by
  have e : zIfS n t st1 st2 g = if b = true then st1 g2 else st2 g2 := by
    unfold zIfS
    simp only [h1, hg, Option.bind_eq_bind, Option.bind_some]
  rw [e]
  cases b with
  | true => exact k1 rfl
  | false => exact k2 rfl
theorem sr_ret (h : m g = some (r, g1)) (k : ap kk (some (.ret r, g1)) = OUT) : ap kk (zRet m g) = OUT := by
  unfold zRet; simp only [h, Option.bind_eq_bind, Option.bind_some]; exact k
theorem sr_retS (h : m g = some (r, g1)) (k : ap kk (some (.ret r, g1)) = OUT) : ap kk (zSeq (zRet m) rest g) = OUT := by
  unfold zSeq zRet; simp only [h, Option.bind_eq_bind, Option.bind_some]; exact k
/-- what runP does with the end -/
def finK : Option (Fl × G) → Option FR
  | some (.ret r, g) => fin g r
  | some (.nx, _) => some (.dat .non)
  | _ => none
theorem runP_ap {np : Nat} {s : SM} {OUT : Option FR} (hl : ds.length = np) (hg : start0 n ds = g) (k : ap finK (s g) = OUT) : runP n np s ds = OUT := by
  unfold runP
  rw [if_pos hl, hg]
  exact k
/-- .. where only something is said of what comes back -/
theorem runP_post {np : Nat} {s : SM} {post : FR → Prop} (hl : ds.length = np) (hg : start0 n ds = g) (k : ap (fun o => ∃ fr, finK o = some fr ∧ post fr) (s g) = True) : ∃ fr, runP n np s ds = some fr ∧ post fr := by
  have h : ∃ fr, finK (s g) = some fr ∧ post fr := by
    have h1 : (∃ fr, finK (s g) = some fr ∧ post fr) = True := k
    rw [h1]
    trivial
  obtain ⟨fr, h1, h2⟩ := h
  exact ⟨fr, runP_ap hl hg h1, h2⟩
theorem end_post {post : FR → Prop} {o : Option (Fl × G)} {fr : FR} (h : finK o = some fr) (h2 : post fr) : ap (fun o => ∃ fr, finK o = some fr ∧ post fr) o = True := eq_true ⟨fr, h, h2⟩
/-- loops -/
theorem for_none {mi : MI} {tg : TD} {L : List D} (h1 : mi g = some (L, none, g1)) (hg : g1.take n = g2) {o : Option (Fl × G)} (h2 : forL tg st L g2 = o) : zFor n mi tg st g = o := by
  unfold zFor; simp only [h1, hg, h2, Option.bind_eq_bind, Option.bind_some]
theorem for_lock {mi : MI} {tg : TD} {L : List D} {p l : Bool} {fl : Fl} (h1 : mi g = some (L, some j, g1)) (hg : g1.take n = g2) (h2 : g2[j]? = some (.own c p l)) (hg3 : g2.set j (.own c p true) = g3) {g4 g5 : G} (h3 : forL tg st L g3 = some (fl, g4)) (hu : unlk j l g4 = g5) : zFor n mi tg st g = some (fl, g5) := by
  unfold zFor; simp only [h1, hg, h2, hg3, h3, hu, Option.bind_eq_bind, Option.bind_some]
theorem mi_R1 {k : Int} (h1 : mr g = some ([.dat (.int k)], g1)) (h2 : rgOk k = true) : ziR1 mr g = some (rgD 0 k.toNat, none, g1) := by
  unfold ziR1; simp only [h1, h2, Option.bind_eq_bind, Option.bind_some, if_true]
theorem mi_Ld {L : List D} (h1 : m g = some (.dat (.lst L), g1)) : ziL n m g = some (L, none, g1) := by
  unfold ziL; simp only [h1, Option.bind_eq_bind, Option.bind_some]
theorem mi_Lb {L : List D} {p l : Bool} (h1 : m g = some (.bor j, g1)) (hj : j < n) (h2 : g1[j]? = some (.own (.lst L) p l)) : ziL n m g = some (L, some j, g1) := by
  unfold ziL; simp only [h1, ziB, if_pos hj, h2, Option.bind_eq_bind, Option.bind_some]
/-- a loop by an invariant that only says something of the slots -/
theorem forL_inv {tg : TD} : ∀ {L : List D} (I : Nat → G → Prop) (k : Nat) (g : G), I k g → (∀ i d g, L[i]? = some d → I (k + i) g → ∃ g1 g2, tg d g = some g1 ∧ (st g1 = some (.nx, g2) ∨ st g1 = some (.ct, g2)) ∧ I (k + i + 1) g2) → ∃ g2, forL tg st L g = some (.nx, g2) ∧ I (k + L.length) g2
  | [], I, k, g, h0, _ => ⟨g, rfl, h0⟩
  | d :: L, I, k, g, h0, h => by
    obtain ⟨g1, g2, h1, h2, h3⟩ := h 0 d g rfl h0
    obtain ⟨g3, e3, i3⟩ := forL_inv (L := L) I (k + 1) g2 h3 fun i d' g' hd hi => by
      have := h (i + 1) d' g' (by simpa using hd) (by rw [show k + (i + 1) = k + 1 + i by omega]; exact hi)
      rw [show k + (i + 1) = k + 1 + i by omega] at this
      exact this
    refine ⟨g3, ?_, by rw [show k + (d :: L).length = k + 1 + L.length by simp; omega]; exact i3⟩
    simp only [forL, Option.bind_eq_bind]
    rw [h1]
    simp only [Option.bind_some]
    rcases h2 with h2 | h2
    · rw [h2]; exact e3
    · rw [h2]; exact e3
/-- the size of a number -/
def iabs (i : Int) : Int := if i < 0 then -i else i
theorem dr_div {i j : Int} (h : 0 < j) (h2 : j.natAbs.log2 < 9000) : divD (.int i) (.int j) = some (.int (i / j)) := by
  have h0 : j ≠ 0 := by omega
  simp [divD, divOk, fdivV, h, h0, h2]
theorem dr_divB {i j : Int} (h : 0 < j) (h2 : j < 2 ^ 256) : divD (.int i) (.int j) = some (.int (i / j)) := by
  refine dr_div h (Nat.lt_of_lt_of_le (PySem.Flt.log2_lt_of (k := 256) (by decide) (by omega)) (by decide))
theorem dr_mod {i j : Int} (h : 0 < j) : modD (.int i) (.int j) = some (.int (i % j)) := by
  have h0 : j ≠ 0 := by omega
  simp [modD, fmodV, h, h0]
theorem dr_mulr {i j : Int} (h : decide (j.natAbs < 2 ^ 64) = true) : mulD (.int i) (.int j) = some (.int (i * j)) := by
  simp only [mulD, mulOk, h, Bool.or_true, Bool.true_or, if_true]
theorem dr_mull {i j : Int} (h : decide (i.natAbs < 2 ^ 64) = true) : mulD (.int i) (.int j) = some (.int (i * j)) := by
  simp only [mulD, mulOk, h, Bool.or_true, Bool.true_or, if_true]
theorem dr_mulrB {i j : Int} (h : -(2 ^ 64) < j) (h2 : j < 2 ^ 64) : mulD (.int i) (.int j) = some (.int (i * j)) := dr_mulr (decide_eq_true (by omega))
theorem dr_mullB {i j : Int} (h : -(2 ^ 64) < i) (h2 : i < 2 ^ 64) : mulD (.int i) (.int j) = some (.int (i * j)) := dr_mull (decide_eq_true (by omega))
theorem dr_mulC {i j : Int} (h : -(2 ^ 256) < i) (h2 : i < 2 ^ 256) (h3 : -(2 ^ 256) < j) (h4 : j < 2 ^ 256) : mulD (.int i) (.int j) = some (.int (i * j)) := by
  have a : i.natAbs.log2 < 256 := PySem.Flt.log2_lt_of (by decide) (by omega)
  have b : j.natAbs.log2 < 256 := PySem.Flt.log2_lt_of (by decide) (by omega)
  have c : i.natAbs.log2 + j.natAbs.log2 < 1000000 := by omega
  simp only [mulD, mulOk, decide_eq_true c, Bool.or_true, if_true]
theorem dr_neB {a b : Bool} : neqD (.bl a) (.bl b) = some (.bl (!(a == b))) := rfl
theorem dr_eqB {a b : Bool} : eqD (.bl a) (.bl b) = some (.bl (a == b)) := rfl
theorem dr_abs {i : Int} : absD [.int i] = some (.int (iabs i)) := rfl
theorem dr_eqI {i j : Int} : eqD (.int i) (.int j) = some (.bl (i == j)) := rfl
theorem dr_eqS {a b : List Nat} : eqD (.str a) (.str b) = some (.bl (a == b)) := rfl
theorem dr_neI {i j : Int} : neqD (.int i) (.int j) = some (.bl (!(i == j))) := rfl
theorem dr_neS {a b : List Nat} : neqD (.str a) (.str b) = some (.bl (!(a == b))) := rfl
theorem dr_cat {a b : List Nat} (h : a.length + b.length ≤ sizeLine) : addS (.str a) (.str b) = some (.str (a ++ b)) := by
  simp only [addS, catOk, decide_eq_true h, if_true]
theorem dr_lenS {a : List Nat} (h : a.length ≤ sizeLine) : lenD [.str a] = some (.int a.length) := by
  simp only [lenD, if_pos h]
theorem dr_ixS {a : List Nat} {k : Int} {c : Nat} (h : a.length ≤ sizeLine) (h2 : atI a k = some c) : ixD (.str a) k = some (.str [c]) := by
  unfold ixD
  simp only [if_pos h, h2, Option.map_some]
end
theorem rgD_at {lo : Int} {n i : Nat} {d : D} (h : (rgD lo n)[i]? = some d) : i < n ∧ d = .int (lo + (i : Int)) := by
  have hi := (List.getElem?_eq_some_iff.mp h).1
  rw [rgD_len] at hi
  rw [rgD_get hi] at h
  exact ⟨hi, (Option.some.inj h).symm⟩
theorem atI_lt {α : Type} {xs : List α} {k : Int} (h0 : 0 ≤ k) (h1 : k < xs.length) : ∃ x, atI xs k = some x ∧ x ∈ xs := by
  have hk : k.toNat < xs.length := by omega
  refine ⟨xs[k.toNat], ?_, List.getElem_mem hk⟩
  have := atI_nat (xs := xs) (j := k.toNat) (List.getElem?_eq_getElem hk)
  rw [Int.toNat_of_nonneg h0] at this
  exact this
theorem atI_map {α β : Type} {f : α → β} {xs : List α} {k : Int} {x : α} (h : atI xs k = some x) : atI (xs.map f) k = some (f x) := by
  unfold atI at h ⊢
  rw [List.length_map]
  cases e : ixN xs.length k with
  | none => rw [e] at h; cases h
  | some j =>
    rw [e] at h
    show (xs.map f)[j]? = _
    rw [List.getElem?_map, show xs[j]? = some x from h]
    rfl
theorem rgOk_of {k : Int} (h : -(2 ^ 62) ≤ k) (h2 : k < 2 ^ 62) : rgOk k = true := by
  unfold rgOk
  rw [decide_eq_true h, decide_eq_true h2]
  rfl
end Z
set_option Elab.async false
set_option linter.all false
set_option maxRecDepth 100000
set_option maxHeartbeats 4000000
namespace Z
open PySem PySem.Spec PyProof.Rows L2
def tyNm : D → Option String
  | .non => some "NoneType" | .bl _ => some "bool" | .int _ => some "int" | .str _ => some "str" | .lst _ => some "list" | .tup _ => some "tuple" | .raw _ => none | .dic _ _ => none | .obj _ _ _ => none
theorem tyNm_ok {K : PySem.W.Frag} {H : Hp} {v : V} {d : D} {t : String} (h : Dz K H v d) (e : tyNm d = some t) : TyX K H v (.type t) := by
  cases h with
  | non => cases e; exact .base .non
  | bl b => cases e; exact .base (.bl b)
  | int i => cases e; exact .base (.int i)
  | str s => cases e; exact .base (.str _)
  | lst hs ha =>
    cases e
    rcases hs with (hs | ⟨o, hs⟩) | ⟨o, its, n, h1, h2, _⟩
    · exact .base (.lst hs)
    · exact .base (.frz hs)
    · exact .kList h1 h2
  | tup hs ha =>
    cases e
    rcases hs with (hs | ⟨o, hs⟩) | ⟨o, its, n, h1, h2, _⟩
    · exact .base (.tup hs)
    · exact .fTuple hs
    · exact .kTuple h1 h2
  | raw v => cases e
  | dic _ _ _ => cases e
  | obj _ _ _ _ => cases e
def isiD : List D → Option D
  | [d, .raw (.ty n)] => do
    let t ← tyNm d
    let b ← kitB t n
    some (.bl b)
  | _ => none
theorem call_isiU {X : Cx} : CallR X (.builtin "isinstance") (rIsi X.K) := call_isi
theorem s_isi {K : PySem.W.Frag} : CallS K (rIsi K) isiD := by
  intro H vs ds z Q hz e q
  unfold isiD at e
  split at e
  · rename_i d n
    simp only [Option.bind_eq_bind, Option.bind_eq_some_iff] at e
    obtain ⟨t, h1, b, h2, e⟩ := e
    cases e
    cases hz with
    | cons h r =>
      cases r with
      | cons h3 r =>
        cases r
        cases h3
        exact ⟨_, .ty n, .type t, .type n, b, rfl, .ty n, tyNm_ok h h1, kit_ty h2, q⟩
  · cases e
theorem isi_of {d : D} {t n : String} {b : Bool} (h : tyNm d = some t) (h2 : kitB t n = some b) : isiD [d, .raw (.ty n)] = some (.bl b) := by
  simp only [isiD, h, h2, Option.bind_eq_bind, Option.bind_some]
theorem kb_int_int : kitB "int" "int" = some true := by decide +kernel
theorem kb_int_bool : kitB "int" "bool" = some false := by decide +kernel
theorem kb_bool_bool : kitB "bool" "bool" = some true := by decide +kernel
theorem kb_bool_int : kitB "bool" "int" = some true := by decide +kernel
theorem kb_str_int : kitB "str" "int" = some false := by decide +kernel
theorem kb_str_bool : kitB "str" "bool" = some false := by decide +kernel
theorem kb_str_str : kitB "str" "str" = some true := by decide +kernel
theorem kb_int_str : kitB "int" "str" = some false := by decide +kernel
theorem kb_bool_str : kitB "bool" "str" = some false := by decide +kernel
theorem kb_non_int : kitB "NoneType" "int" = some false := by decide +kernel
theorem kb_non_bool : kitB "NoneType" "bool" = some false := by decide +kernel
theorem kb_non_str : kitB "NoneType" "str" = some false := by decide +kernel
theorem kb_list_list : kitB "list" "list" = some true := by decide +kernel
theorem kb_tuple_tuple : kitB "tuple" "tuple" = some true := by decide +kernel
theorem kb_list_tuple : kitB "list" "tuple" = some false := by decide +kernel
theorem kb_tuple_list : kitB "tuple" "list" = some false := by decide +kernel
end Z
set_option Elab.async false
set_option linter.all false
set_option maxRecDepth 100000
set_option maxHeartbeats 4000000
namespace Z
open PySem PySem.Spec PyProof.Rows L2
def absP : Value → Option D
  | .none => some .non
  | .bool b => some (.bl b)
  | .int i _ => some (.int i)
  | .str x _ => some (.str x.cps.toList)
  | _ => none
theorem absP_ok {u : Value} {d : D} (h : absP u = some d) : ∃ v, RelV v u ∧ ∀ (K : PySem.W.Frag) (H : Hp), Dz K H v d := by
  cases u with
  | none => cases h; exact ⟨.non, rfl, fun _ _ => .non⟩
  | bool b => cases h; exact ⟨.bl b, rfl, fun _ _ => .bl b⟩
  | int i t => cases h; exact ⟨.int i, ⟨t, rfl⟩, fun _ _ => .int i⟩
  | str x t =>
    cases h
    refine ⟨.str x, ⟨t, rfl⟩, fun K H => ?_⟩
    have : x = ⟨x.cps.toList.toArray⟩ := by cases x; simp
    conv => arg 3; rw [this]
    exact .str _
  | _ => cases h
section
variable {K : PySem.W.Frag} {h : Heap} {mg : Str → Option Value} {x : Str}
def ConstD (K : PySem.W.Frag) (mg : Str → Option Value) (x : Str) (d : D) : Prop := ∃ v, ConstAt K mg x v d
theorem constP {u : Value} {d : D} (X : K.In h) (G : h.Ns mainGlobals mg) (e : PySem.W.nsIn K mainGlobals x = some (some u)) (hd : absP u = some d) : ConstD K mg x d := by
  obtain ⟨v, r, z⟩ := absP_ok hd
  exact ⟨v, ⟨_, PySem.W.mg_of X G e, r⟩, z K⟩
theorem ze_cd {X : Cx} {pos : Pos} {x : Str} {d : D} (h : ConstD X.K X.mg x d) (hg : Gl X x := by rfl) (hdb : (x == ("__debug__" : Str)) = false := by decide) : ZE X (.Name x pos) (zC d) := by
  obtain ⟨v, h⟩ := h
  exact ze_gc h hg hdb
end
def inL (x : D) (l : List D) : Bool := l.any fun y => D.eqv y x
def inB (x y : D) : Option Bool := match y with
  | .lst l => if (x.pl && l.all D.pl) = true then some (inL x l) else if (x.shp && (D.lst l).shp) = true then some (inL x l) else none
  | .tup l => if (x.pl && l.all D.pl) = true then some (inL x l) else if (x.shp && (D.tup l).shp) = true then some (inL x l) else none
  | .str t => match x with
    | .str [c] => some (decide (c ∈ t))
    | _ => none
  | _ => none
def inD (x y : D) : Option D := (inB x y).map D.bl
def rInT (K : PySem.W.Frag) (neg : Bool) : R2 := fun x y H Q => ∃ d ds, Dp K H x d ∧ Dp K H y (.tuple ds) ∧ SeqAt.shaped d = true ∧ SeqAt.shaped (.tuple ds) = true ∧ Q (.bl (if neg then !(ds.any fun z => PyData.eqv z d) else ds.any fun z => PyData.eqv z d)) H
theorem op_inT {X : Cx} (hu : X.A.units + 65 < cLine) : OpR X (compareOp .In) (rInT X.K false) := by
  intro pins s σ H x y v u Q I rx ry h
  obtain ⟨d, ds, hd, he, sd, se, q⟩ := h
  obtain ⟨as, r1⟩ := Dp.reads I d x v hd rx
  obtain ⟨bs, r2⟩ := Dp.reads I (.tuple ds) y u he ry
  exact SeqAt.in_tuple_reads r2 r1 (SeqAt.canLay_of_shaped se) (SeqAt.canLay_of_shaped sd) (room_in_shaped sd hu) ⟨.bl _, H, I, rfl, q⟩
def rInU (K : PySem.W.Frag) : R2 := fun x y H Q => rIn K false x y H Q ∨ rInD K x y H Q ∨ rInT K false x y H Q ∨ (∃ (c : Nat) (z : Str), x = .str ⟨#[c]⟩ ∧ y = .str z ∧ Q (.bl (decide (c ∈ z.cps.toList))) H)
theorem o_in {X : Cx} {k : Nat} (hr : Room k X.A) : OpR X (compareOp .In) (rInU X.K) := OpR.or op_in_seq (OpR.or (op_inD (by have := hr.un; omega)) (OpR.or (op_inT (by have := hr.un; omega)) op_in_sign))
theorem eqV_eqv {K : PySem.W.Frag} {H : Hp} {v w : V} {d e : D} (h : Dz K H v d) (h' : Dz K H w e) (p : d.pl = true) (q : e.pl = true) : eqV v w = D.eqv d e := by
  cases h <;> cases h' <;> simp [D.pl] at p q <;> simp [eqV, D.eqv, str_beq]
theorem flat_pl {K : PySem.W.Frag} {H : Hp} {v : V} {d : D} (h : Dz K H v d) (p : d.pl = true) : flatV v = true := by
  cases h <;> simp [D.pl] at p <;> rfl
theorem flats_pl {K : PySem.W.Frag} {H : Hp} : ∀ {vs : List V} {ds : List D}, DzA K H vs ds → ds.all D.pl = true → vs.all flatV = true
  | _, _, .nil, _ => rfl
  | _, _, .cons h t, p => by
    rw [List.all_cons, Bool.and_eq_true] at p
    rw [List.all_cons, flat_pl h p.1, flats_pl t p.2]
    rfl
theorem inV_inL {K : PySem.W.Frag} {H : Hp} {v : V} {d : D} (h : Dz K H v d) (p : d.pl = true) : ∀ {vs : List V} {ds : List D}, DzA K H vs ds → ds.all D.pl = true → inV v vs = inL d ds
  | _, _, .nil, _ => rfl
  | _, _, .cons h2 t, q => by
    rw [List.all_cons, Bool.and_eq_true] at q
    unfold inV inL
    rw [List.any_cons, List.any_cons, eqV_eqv h2 h q.1 p]
    have := inV_inL h p t q.2
    unfold inV inL at this
    rw [this]
theorem pyA_map : ∀ l : List D, D.pyA l = l.map D.py
  | [] => rfl
  | d :: l => by rw [D.pyA, List.map_cons, pyA_map l]
theorem shp_lay {d : D} (h : d.shp = true) : d.py.canLay0 = true := SeqAt.canLay_of_shaped h
theorem s_in {K : PySem.W.Frag} : OpS K (rInU K) inD := by
  intro H x y d e z Q hx hy e1 q
  unfold inD at e1
  rw [Option.map_eq_some_iff] at e1
  obtain ⟨b, e1, rfl⟩ := e1
  have deep : ∀ {l : List D}, d.shp = true → (D.lst l).shp = true → Dz K H y (.lst l) → b = inL d l → rInD K x y H Q := fun {l} p1 p2 hy eb => by
    have hl : Dp K H y (PyData.list (D.pyA l)) := Dz.dp hy (shp_lay p2)
    refine ⟨d.py, D.pyA l, Dz.dp hx (shp_lay p1), hl, p1, p2, ?_⟩
    rw [pyA_map, List.any_map]
    have : ((fun z => PyData.eqv z d.py) ∘ D.py) = fun y => D.eqv y d := by funext y; exact D.py_eqv y d
    rw [this]
    rw [eb] at q
    exact q
  have deepT : ∀ {l : List D}, d.shp = true → (D.tup l).shp = true → Dz K H y (.tup l) → b = inL d l → rInT K false x y H Q := fun {l} p1 p2 hy eb => by
    have hl : Dp K H y (PyData.tuple (D.pyA l)) := Dz.dp hy (shp_lay p2)
    refine ⟨d.py, D.pyA l, Dz.dp hx (shp_lay p1), hl, p1, p2, ?_⟩
    rw [if_neg Bool.false_ne_true, pyA_map, List.any_map]
    have : ((fun z => PyData.eqv z d.py) ∘ D.py) = fun y => D.eqv y d := by funext y; exact D.py_eqv y d
    rw [this]
    rw [eb] at q
    exact q
  cases e with
  | lst l =>
    simp only [inB] at e1
    split at e1
    · rename_i hp
      cases e1
      rw [Bool.and_eq_true] at hp
      cases hy with
      | lst hs ha => exact .inl ⟨_, _, rfl, .inl hs, flat_pl hx hp.1, flats_pl ha hp.2, by rw [if_neg Bool.false_ne_true, inV_inL hx hp.1 ha hp.2]; exact q⟩
    · split at e1
      · rename_i hp
        cases e1
        rw [Bool.and_eq_true] at hp
        exact .inr (.inl (deep hp.1 hp.2 hy rfl))
      · cases e1
  | tup l =>
    simp only [inB] at e1
    split at e1
    · rename_i hp
      cases e1
      rw [Bool.and_eq_true] at hp
      cases hy with
      | tup hs ha => exact .inl ⟨_, _, rfl, .inr hs, flat_pl hx hp.1, flats_pl ha hp.2, by rw [if_neg Bool.false_ne_true, inV_inL hx hp.1 ha hp.2]; exact q⟩
    · split at e1
      · rename_i hp
        cases e1
        rw [Bool.and_eq_true] at hp
        exact .inr (.inr (.inl (deepT hp.1 hp.2 hy rfl)))
      · cases e1
  | str t =>
    simp only [inB] at e1
    split at e1
    · rename_i c
      cases e1
      cases hx
      cases hy
      exact .inr (.inr (.inr ⟨c, _, rfl, rfl, q⟩))
    · cases e1
  | _ => cases e1
/-- the items of a list or a tuple -/
def seqD : D → Option (List D)
  | .lst l => some l
  | .tup l => some l
  | _ => none
def z_list (ma : ZAr) : ZM := fun g => do
  let (rs, g1) ← ma g
  match rs with
  | [r] => do
    let d ← rd g1 r
    let l ← seqD d
    some (.bor g1.length, g1 ++ [.own (.lst l) false false])
  | _ => none
def z_tuple (ma : ZAr) : ZM := fun g => do
  let (rs, g1) ← ma g
  match rs with
  | [r] => do
    let d ← rd g1 r
    match d with
    | .lst l => some (.dat (.tup l), g1)
    | .tup l => match r with
      | .dat _ => some (.dat (.tup l), g1)
      | _ => none
    | _ => none
  | _ => none
section
variable {X : Cx} {pos : Pos} {a b : Expr} {ma mb : ZM} {mr : ZAr} {es : List Expr}
abbrev ZO := G → Option (Option Int × G)
def tZO (K : PySem.W.Frag) (n : Nat) (m : ZO) : TO := fun σ H Q => ∃ (C : Ct) (Hs : Hp) (A : List Addr) (g : G) (o : Option Int) (g' : G), C.K = K ∧ C.n = n ∧ Ok C Hs A g σ H ∧ m g = some (o, g') ∧
  ∀ (Hs' : Hp) (A' : List Addr) (H' : Hp), Same Hs Hs' → Pre A A' → Ok C Hs' A' g' σ H' → Q o H'
abbrev ZPo (X : Cx) (e : Option Expr) (m : ZO) : Prop := PO X e (tZO X.K X.N.length m)
theorem PO.of {X : Cx} {e : Option Expr} {t t' : TO} (h : PO X e t) (w : ∀ σ H Q, t' σ H Q → t σ H Q) : PO X e t' := ⟨fun pins s σ H Q I q => h.run pins s σ H Q I (w σ H Q q)⟩
def zoN : ZO := fun g => some (none, g)
def zoS (m : ZM) : ZO := fun g => do
  let (r, g1) ← m g
  let k ← isI r
  some (some k, g1)
theorem zo_none : ZPo X none zoN := PO.of po_none fun σ H Q ⟨C, Hs, A, g, o, g', hK, hn, ok, e, q⟩ => by
  cases e
  exact q Hs A H (Same.refl _) (Pre.refl _) ok
theorem zo_some {e : Expr} {m : ZM} (h : ZE X e m) : ZPo X (some e) (zoS m) := by
  refine PO.of (po_some h) fun σ H Q ⟨C, Hs, A, g, o, g', hK, hn, ok, e, q⟩ => ?_
  unfold zoS at e
  simp only [Option.bind_eq_bind, Option.bind_eq_some_iff] at e
  obtain ⟨⟨r, g1⟩, h1, k, h2, e⟩ := e
  cases e
  have er := isI_some h2
  subst er
  refine ⟨C, Hs, A, g, _, _, hK, hn, ok, h1, fun Hs1 A1 v1 H1 s1 p1 ok1 rel1 => ?_⟩
  have ev : v1 = .int k := (show Dz C.K Hs1 v1 (.int k) from rel1).v rfl
  exact ⟨k, ev, q Hs1 A1 H1 s1 p1 ok1⟩
/-- the part of a list -/
def cutL {α : Type} (xs : List α) (lo hi : Option Int) : List α := (xs.drop (HT.sIx xs.length 0 lo)).take (HT.sIx xs.length xs.length hi - HT.sIx xs.length 0 lo)
theorem cutL_dz {K : PySem.W.Frag} {H : Hp} {vs : List V} {ds : List D} (h : DzA K H vs ds) (lo hi : Option Int) : DzA K H (cutV vs lo hi) (cutL ds lo hi) := by
  unfold cutV cutL
  rw [h.length]
  exact (h.drop _).take _
theorem cutL_whole {vs : List V} {ds : List D} {lo hi : Option Int} (hl : vs.length = ds.length) (e1 : HT.sIx vs.length 0 lo = 0) (e2 : HT.sIx vs.length vs.length hi = vs.length) : cutL ds lo hi = ds := by
  unfold cutL
  rw [← hl, e1, e2, hl]
  simp
def zSl (ma : ZM) (ml mh : ZO) : ZM := fun g => do
  let (r, g1) ← ma g
  let (lo, g2) ← ml g1
  let (hi, g3) ← mh g2
  let d ← rd g3 r
  match d with
  | .lst l => some (.bor g3.length, g3 ++ [.own (.lst (cutL l lo hi)) false false])
  | .str t => if t.length ≤ sizeLine then some (.dat (.str (cutL t lo hi)), g3) else none
  | .tup l => match r with
    | .dat _ => some (.dat (.tup (cutL l lo hi)), g3)
    | _ => none
  | _ => none
def rSlU (K : PySem.W.Frag) : V → Option Int → Option Int → Hp → VK → Prop := fun x lo hi H Q => rSlL K x lo hi H Q ∨ rSlS x lo hi H Q ∨ rSlA K x lo hi H Q
theorem sl_U : SlR X (rSlU X.K) := SlR.or sl_list (SlR.or sl_str sl_tupA)
theorem cutS_codes (t : List Nat) (lo hi : Option Int) : cutS ⟨t.toArray⟩ lo hi = ⟨(cutL t lo hi).toArray⟩ := by
  unfold cutS cutL
  simp [Str.length]
theorem ze_sl {lo hi : Option Expr} {p2 : Pos} {ml mh : ZO} (ha : ZE X a ma) (hl : ZPo X lo ml) (hh : ZPo X hi mh) : ZE X (.Subscript a (.Slice lo hi none p2) pos) (zSl ma ml mh) := by
  refine PE.of (pe_slice sl_U ha hl hh) fun σ H Q ⟨C, Hs, A, g, r, g', hK, hn, ok, e, q⟩ => ?_
  unfold zSl at e
  simp only [Option.bind_eq_bind, Option.bind_eq_some_iff] at e
  obtain ⟨⟨r1, g1⟩, h1, ⟨lo', g2⟩, h2, ⟨hi', g3⟩, h3, d, h4, e⟩ := e
  refine ⟨C, Hs, A, g, r1, g1, hK, hn, ok, h1, fun Hs1 A1 v1 H1 s1 p1 ok1 rel1 => ?_⟩
  refine ⟨C, Hs1, A1, g1, lo', g2, hK, hn, ok1, h2, fun Hs2 A2 H2 s2 p2 ok2 => ?_⟩
  refine ⟨C, Hs2, A2, g2, hi', g3, hK, hn, ok2, h3, fun Hs3 A3 H3 s3 p3 ok3 => ?_⟩
  have rel3 := rel1.mono (s2.trans s3) (p2.trans p3)
  have S := (s1.trans s2).trans s3
  have PP := (p1.trans p2).trans p3
  dsimp only at e h4
  split at e
  · cases e
    obtain ⟨a, xs, rfl, y1, y2⟩ := ok3.rdL rel3 h4
    exact .inl ⟨a, xs, rfl, by rw [← hK]; exact y1, fun p hp => q Hs3 (A3 ++ [p]) _ _ S (PP.trans (Pre.app _ _)) (ok3.tmp (o := .lst (cutV xs lo' hi')) (c := .lst (cutL _ lo' hi')) hp (cutL_dz y2 lo' hi')) (ok3.tmpR p)⟩
  · split at e
    · rename_i hz
      cases e
      have hd := ok3.rd rel3 h4
      cases hd
      exact .inr (.inl ⟨_, rfl, by simpa [Str.length] using hz, by rw [cutS_codes]; exact q Hs3 A3 _ H3 S PP ok3 (.str _)⟩)
    · cases e
  · split at e
    · cases e
      cases h4
      have w' : Dz C.K Hs3 v1 (.tup _) := rel3
      cases w' with
      | tup hs hz =>
        rename_i a xs
        refine .inr (.inr ⟨a, xs, rfl, by rw [← hK]; exact sameT ok3.same hs, fun ee => ?_, fun _ p hp => ?_⟩)
        · obtain ⟨e1, e2⟩ := ee
          refine q Hs3 A3 _ H3 S PP ok3 (.tup hs ?_)
          have : cutL _ lo' hi' = _ := cutL_whole hz.length e1 e2
          rw [this]
          exact hz
        · obtain ⟨ok4, s4⟩ := ok3.lay (o := .tup (cutV xs lo' hi')) hp
          exact q _ A3 (.ref p) _ (S.trans s4) PP ok4 (.tup (SqT.of upd_same) ((cutL_dz hz lo' hi').mono s4))
    · cases e
  · cases e
end
end Z
set_option Elab.async false
set_option linter.all false
set_option maxRecDepth 100000
set_option maxHeartbeats 4000000
namespace Z
open PySem PySem.Spec PyProof.Rows L2
section
variable {g g1 g2 g3 : G} {r r1 r2 : R} {d e z : D} {ma mb mc m : ZM} {mr : ZAr} {rs : List R} {ds : List D} {b b1 b2 : Bool} {n i j : Nat}
theorem asg_run {tg : TD} (h1 : m g = some (.dat d, g1)) (h2 : tg d g1 = some g2) (hg : g2.take n = g3) : zAsg n m tg g = some (.nx, g3) := by
  unfold zAsg; simp only [h1, frzR, h2, hg, Option.bind_eq_bind, Option.bind_some]
theorem aug_run {f : D → D → Option D} (h0 : zVar i g = some (.dat d, g)) (hs : d.scal = true) (h1 : m g = some (r, g1)) (h2 : rd g1 r = some e) (h3 : f d e = some z) (hz : z.scal = true) (hf : freeAt i g1 = true) (hg : (g1.set i (.dat z)).take n = g2) : zAug n i f m g = some (.nx, g2) := by
  have h00 : rd g (.dat d) = some d := rfl
  have h4 : setDat i z g1 = some (g1.set i (.dat z)) := by unfold setDat; rw [if_pos hf]
  unfold zAug
  simp only [h0, h00, hs, h1, h2, h3, hz, h4, hg, Option.bind_eq_bind, Option.bind_some, if_true]
theorem sto_run {k : Int} {q : Nat} {p : Bool} (h1 : mc g = some (.dat d, g1)) (h2 : ma g1 = some (.bor j, g2)) (h3 : mb g2 = some (.dat (.int k), g3)) (h4 : g3[j]? = some (.own (.lst ds) p false)) (h5 : ixN ds.length k = some q) {g4 : G} (hg : (g3.set j (.own (.lst (ds.set q d)) p false)).take n = g4) : zSto n ma mb mc g = some (.nx, g4) := by
  unfold zSto; simp only [h1, h2, h3, h4, h5, hg, frzR, isI, Option.bind_eq_bind, Option.bind_some]
theorem er_list {l : List D} (h1 : mr g = some ([r], g1)) (h2 : rd g1 r = some d) (h3 : seqD d = some l) : z_list mr g = some (.bor g1.length, g1 ++ [.own (.lst l) false false]) := by
  unfold z_list; simp only [h1, h2, h3, Option.bind_eq_bind, Option.bind_some]
theorem er_tupL {l : List D} (h1 : mr g = some ([r], g1)) (h2 : rd g1 r = some (.lst l)) : z_tuple mr g = some (.dat (.tup l), g1) := by
  unfold z_tuple; simp only [h1, h2, Option.bind_eq_bind, Option.bind_some]
theorem er_zoN : zoN g = some (none, g) := rfl
theorem er_zoS {k : Int} (h : m g = some (.dat (.int k), g1)) : zoS m g = some (some k, g1) := by
  unfold zoS; simp only [h, isI, Option.bind_eq_bind, Option.bind_some]
theorem er_slS {ml mh : ZO} {lo hi : Option Int} {t : List Nat} (h1 : ma g = some (r, g1)) (h2 : ml g1 = some (lo, g2)) (h3 : mh g2 = some (hi, g3)) (h4 : rd g3 r = some (.str t)) (hz : t.length ≤ sizeLine) : zSl ma ml mh g = some (.dat (.str (cutL t lo hi)), g3) := by
  unfold zSl; simp only [h1, h2, h3, h4, if_pos hz, Option.bind_eq_bind, Option.bind_some]
theorem er_slL {ml mh : ZO} {lo hi : Option Int} {l : List D} (h1 : ma g = some (r, g1)) (h2 : ml g1 = some (lo, g2)) (h3 : mh g2 = some (hi, g3)) (h4 : rd g3 r = some (.lst l)) : zSl ma ml mh g = some (.bor g3.length, g3 ++ [.own (.lst (cutL l lo hi)) false false]) := by
  unfold zSl; simp only [h1, h2, h3, h4, Option.bind_eq_bind, Option.bind_some]
theorem er_C : zC d g = some (.dat d, g) := rfl
theorem er_nil : zNil g = some ([], g) := rfl
theorem er_varD (h : g[i]? = some (.dat d)) : zVar i g = some (.dat d, g) := by unfold zVar; rw [h]
theorem er_varO {c : Cn} {p l : Bool} (h : g[i]? = some (.own c p l)) : zVar i g = some (.bor i, g) := by unfold zVar; rw [h]
theorem er_varF (h : g[i]? = some (.frz d)) : zVar i g = some (.dat d, g) := by unfold zVar; rw [h]
theorem mi_T {L : List D} (h1 : m g = some (.dat (.tup L), g1)) : ziT m g = some (L, none, g1) := by
  unfold ziT; simp only [h1, Option.bind_eq_bind, Option.bind_some]
end
end Z
set_option Elab.async false
set_option linter.all false
set_option maxRecDepth 100000
set_option maxHeartbeats 4000000
namespace Z
open PySem PySem.Spec PyProof.Rows L2
def startM (n k : Nat) (c : Cn) (ds : List D) : G := (start0 (n - 1) ds).insertIdx k (.own c true false)
def finM (k : Nat) : Option (Fl × G) → Option (FR × Cn)
  | some (.ret r, g) => match g[k]? with
    | some (.own c' true _) => (fin g r).map fun fr => (fr, c')
    | _ => none
  | some (.nx, g) => match g[k]? with
    | some (.own c' true _) => some (.dat .non, c')
    | _ => none
  | _ => none
def runM (n np k : Nat) (s : SM) : Cn → List D → Option (FR × Cn) := fun c ds => if ds.length + 1 = np ∧ k ≤ ds.length then finM k (s (startM n k c ds)) else none
theorem start0_old {n : Nat} {ds : List D} {i : Nat} {t : Sl} (e : (start0 n ds)[i]? = some t) : (∃ d, ds[i]? = some d ∧ t = .dat d) ∨ t = .un := by
  unfold start0 at e
  by_cases hi : i < ds.length
  · rw [List.getElem?_append_left (by simpa using hi), List.getElem?_map] at e
    rw [List.getElem?_eq_getElem hi] at e
    exact .inl ⟨ds[i], List.getElem?_eq_getElem hi, (Option.some.inj e).symm⟩
  · rw [List.getElem?_append_right (by simpa using hi), List.getElem?_replicate] at e
    split at e
    · exact .inr (Option.some.inj e).symm
    · cases e
theorem start0_len {n : Nat} {ds : List D} (h : ds.length ≤ n) : (start0 n ds).length = n := by
  unfold start0
  rw [List.length_append, List.length_map, List.length_replicate]
  omega
theorem startM_old {n k : Nat} {c : Cn} {ds : List D} {i : Nat} {t : Sl} (hk : k ≤ ds.length) (hn : ds.length + 1 ≤ n) (e : (startM n k c ds)[i]? = some t) :
    (i = k ∧ t = .own c true false) ∨ (i ≠ k ∧ ((∃ d, ds[if i < k then i else i - 1]? = some d ∧ t = .dat d) ∨ t = .un)) := by
  unfold startM at e
  have hl := start0_len (n := n - 1) (ds := ds) (by omega)
  rw [List.getElem?_insertIdx] at e
  split at e
  · rename_i h
    refine .inr ⟨by omega, ?_⟩
    rw [if_pos h]
    exact start0_old e
  · rename_i h
    split at e
    · rename_i h2
      rw [if_pos (by omega)] at e
      exact .inl ⟨h2, (Option.some.inj e).symm⟩
    · rename_i h2
      refine .inr ⟨h2, ?_⟩
      rw [if_neg h]
      exact start0_old e
theorem ok_startM {K : PySem.W.Frag} {N : List Str} {Hs H : Hp} {vs : List V} {ds : List D} {k : Nat} {c : Cn} {a : Addr} {o : HO} (h : vs.length ≤ N.length) (hvd : vs.length = ds.length + 1) (hk : k ≤ ds.length) (s : Same Hs H) (hv : vs[k]? = some (.ref a)) (hz : DzA K Hs (vs.eraseIdx k) ds) (ha : Hs a = none) (hH : H a = some o) (hc : CnOk K Hs c o) :
    Ok { K := K, n := N.length, H0 := H, Hs0 := Hs, pins := [(k, a)], locks := [], plt := fun q h => by rw [List.mem_singleton.mp h]; show k < N.length; omega, llt := fun _ h => (List.not_mem_nil h).elim } Hs (List.replicate N.length a) (startM N.length k c ds) (L2.start N vs) H := by
  have hl : (startM N.length k c ds).length = N.length := by
    unfold startM
    have := start0_len (n := N.length - 1) (ds := ds) (by omega)
    rw [List.length_insertIdx, if_pos (by omega), this]
    omega
  have old := fun {i : Nat} {t : Sl} => startM_old (c := c) (i := i) (t := t) hk (show ds.length + 1 ≤ N.length by omega)
  have self : (startM N.length k c ds)[k]? = some (.own c true false) := by
    unfold startM
    have := start0_len (n := N.length - 1) (ds := ds) (by omega)
    rw [List.getElem?_insertIdx, if_neg (by omega), if_pos rfl, if_pos (by omega)]
  have A1 : ∀ {i : Nat}, i < N.length → (List.replicate N.length a)[i]? = some a := fun {i} hi => by rw [List.getElem?_replicate, if_pos hi]
  have st : ∀ {i : Nat} {v : V}, vs[i]? = some v → (L2.start N vs)[i]? = some (some v) := fun {i v} w => by
    have hi := (List.getElem?_eq_some_iff.mp w).1
    unfold L2.start
    rw [List.getElem?_append_left (by simpa using hi), List.getElem?_map, w]
    rfl
  refine ⟨start_len h, by rw [hl]; exact Nat.le_refl _, by rw [hl, List.length_replicate], Same.refl _, s, fun i d e => ?_, fun i d e => ?_, fun i c' p l e => ?_, fun i j c1 p1 l1 c2 p2 l2 a' e1 e2 _ _ => ?_, fun b o e => .inl e, fun b o e _ => e, fun q hq => ?_, fun i c' l a' e ha' => ?_, fun _ h => (List.not_mem_nil h).elim, fun i ls e => ?_⟩
  · rcases old e with ⟨_, z⟩ | ⟨ne, ⟨d', h1, h2⟩ | z⟩
    · cases z
    · cases h2
      obtain ⟨v, w1, w2⟩ := hz.get h1
      refine ⟨v, st ?_, w2⟩
      rw [List.getElem?_eraseIdx] at w1
      by_cases q : i < k
      · simp only [if_pos q] at w1
        exact w1
      · simp only [if_neg q] at w1
        rw [if_neg (by omega), show i - 1 + 1 = i by omega] at w1
        exact w1
    · cases z
  · rcases old e with ⟨_, z⟩ | ⟨_, ⟨d', _, z⟩ | z⟩ <;> cases z
  · rcases old e with ⟨ei, z⟩ | ⟨_, ⟨d', _, z⟩ | z⟩
    · cases z
      subst ei
      exact ⟨a, o, A1 (by omega), fun _ => st hv, ha, hH, hc, fun z => by cases z⟩
    · cases z
    · cases z
  · rcases old e1 with ⟨ei, _⟩ | ⟨_, ⟨d', _, z⟩ | z⟩
    · rcases old e2 with ⟨ej, _⟩ | ⟨_, ⟨d', _, z⟩ | z⟩
      · omega
      · cases z
      · cases z
    · cases z
    · cases z
  · have eq : q = (k, a) := List.mem_singleton.mp hq
    subst eq
    exact ⟨c, false, self, A1 (by show k < N.length; omega)⟩
  · rcases old e with ⟨ei, z⟩ | ⟨_, ⟨d', _, z⟩ | z⟩
    · cases z
      subst ei
      rw [A1 (by omega)] at ha'
      cases ha'
      exact List.mem_singleton.mpr rfl
    · cases z
    · cases z
  · rcases old e with ⟨_, z⟩ | ⟨_, ⟨d', _, z⟩ | z⟩ <;> cases z
section
variable {P : Program} {w : World} {K : PySem.W.Frag} {mg : Str → Option Value} {base : Heap}
/-- THE RULE for a def that changes its kk-th argument -/
theorem okM {x qual : Str} {st : Stmt} {f : Addr} {fd : FuncData} {N ps : List Str} {k kk : Nat} {s : SM} (F : Fun K x qual st f fd) (S : FnScope N ps (defScope st))
    (hbody : ∀ (cdv : Value) (A : Around) (outer : List Env) (s0 : Shared) (H : Hp) (E : XK), Room k (A.deeper (envOfC qual (defScope st) s0.heap.objs.size f cdv)) →
      ZSs (cxOf CX0 P w K mg base N qual (defScope st) f cdv A outer s0 H E).nox (defBody st) s) : FnOk P w K mg base CX0 (k + 1) f fd ps (spM K kk (runM N.length ps.length kk s)) := by
  have arity : ∀ vs H Q E, spM K kk (runM N.length ps.length kk s) vs H Q E → vs.length = ps.length := fun vs H Q E ⟨Hs, ds, c, c', a, o, fr, _, hv, hz, _, _, _, e, _⟩ => by
    unfold runM at e
    split at e
    · rename_i h
      have h2 := hz.length
      have hi := (List.getElem?_eq_some_iff.mp hv).1
      rw [List.length_eraseIdx, if_pos hi] at h2
      omega
    · cases e
  refine F.ok S arity (fun cdv A outer s0 H vs Q E hr h => ⟨_, hbody cdv A outer s0 H E hr, ?_⟩)
  have hal := arity vs H Q E h
  obtain ⟨Hs, ds, c, c', a, o, fr, sm, hv, hz, ha, hH, hc, e, q⟩ := h
  have hpl : ps.length ≤ N.length := by
    have := congrArg List.length S.pre
    rw [List.length_take] at this
    omega
  unfold runM at e
  split at e
  · rename_i hlk
    have ok := ok_startM (N := N) (by omega) (by omega) hlk.2 sm hv hz ha hH hc
    have done : ∀ {Hs' A' g' σ' H'}, Ok { K := K, n := N.length, H0 := H, Hs0 := Hs, pins := [(kk, a)], locks := [], plt := fun q h => by rw [List.mem_singleton.mp h]; show kk < N.length; omega, llt := fun _ h => (List.not_mem_nil h).elim } Hs' A' g' σ' H' → ∀ {c1 : Cn} {l1 : Bool}, g'[kk]? = some (.own c1 true l1) →
        (∀ b u, b ≠ a → H b = some u → H' b = some u) ∧ Same Hs' H' ∧ (∀ b o, Hs' b = some o → Hs b = some o ∨ H b = none) ∧ Hs' a = none ∧ ∃ o', H' a = some o' ∧ CnOk K Hs' c1 o' := fun {Hs' A' g' σ' H'} ok1 {c1 l1} hg => by
      refine ⟨fun b u ne e => ok1.keep b u e (fun q hq => by rw [List.mem_singleton.mp hq]; exact Ne.symm ne), ok1.same, ok1.grow, ?_⟩
      obtain ⟨c2, l2, w1, w2⟩ := ok1.pinned (kk, a) (List.mem_singleton.mpr rfl)
      obtain ⟨a', o', x1, _, x3, x4, x5, _⟩ := ok1.own _ _ _ _ hg
      have w2 : A'[kk]? = some a := w2
      rw [w2] at x1
      cases x1
      exact ⟨x3, o', x4, x5⟩
    revert e
    generalize hs : s (startM N.length kk c ds) = out
    intro e
    unfold finM at e
    split at e
    · rename_i r g'
      split at e
      · rename_i c1 l1 hg
        rw [Option.map_eq_some_iff] at e
        obtain ⟨fr1, hf, e⟩ := e
        cases e
        refine ⟨_, Hs, _, startM N.length kk c ds, .ret r, g', rfl, rfl, ok, hs, ?_⟩
        intro Hs' A' σ' H' v s1 ok1 rel1
        obtain ⟨z1, z2, z3, z4, o', z5, z6⟩ := done ok1 hg
        exact q v Hs' H' o' s1 z1 z2 z3 z4 z5 z6 (fin_ok ok1 rel1 hf)
      · cases e
    · rename_i g'
      split at e
      · rename_i c1 l1 hg
        cases e
        refine ⟨_, Hs, _, startM N.length kk c ds, .nx, g', rfl, rfl, ok, hs, ?_⟩
        intro Hs' A' σ' H' s1 ok1
        obtain ⟨z1, z2, z3, z4, o', z5, z6⟩ := done ok1 hg
        exact q .non Hs' H' o' s1 z1 z2 z3 z4 z5 z6 .non
      · cases e
    · cases e
  · cases e
end
def FR.scal : FR → Bool
  | .dat d => d.scal
  | .new c => c.scal
  | .newR _ => false
def noB (j : Nat) : R → Bool
  | .bor i => i != j
  | .dat _ => true
/-- what comes back, put by -/
def putFR (fr : FR) (g : G) : R × G := match fr with
  | .dat d => (.dat d, g)
  | .new c => (.bor g.length, g ++ [.own c false false])
  | .newR ls => (.bor g.length, g ++ [.rws ls])
def zCallM (kk : Nat) (f : Cn → List D → Option (FR × Cn)) (ma : ZAr) : ZM := fun g => do
  let (rs, g1) ← ma g
  match rs[kk]? with
  | some (.bor j) => match g1[j]? with
    | some (.own c p false) =>
      if (rs.eraseIdx kk).all (noB j) = true then do
        let ds ← rdAll g1 (rs.eraseIdx kk)
        let (fr, c') ← f c ds
        if (c'.scal && fr.scal) = true then some (putFR fr (g1.set j (.own c' p false))) else do
          let (ds2, g2) ← frzAll (rs.eraseIdx kk) g1
          match g2[j]? with
          | some (.own c2 p2 false) => do
            let (fr2, c2') ← f c2 ds2
            some (putFR fr2 (g2.set j (.own c2' p2 false)))
          | _ => none
      else none
    | _ => none
  | _ => none
/-- the heap without a -/
def Hp.no (H : Hp) (a : Addr) : Hp := fun b => if b = a then none else H b
theorem Hp.no_ne {H : Hp} {a b : Addr} (h : b ≠ a) : Hp.no H a b = H b := by unfold Hp.no; rw [if_neg h]
theorem Hp.no_self {H : Hp} {a : Addr} : Hp.no H a a = none := by unfold Hp.no; rw [if_pos rfl]
theorem rdAll_no {C : Ct} {Hs : Hp} {A : List Addr} {g : G} {σ : L2.St} {H : Hp} {j : Nat} {c : Cn} {p l : Bool} {a : Addr} (ok : Ok C Hs A g σ H) (hg : g[j]? = some (.own c p l)) (ha : A[j]? = some a) : ∀ {vs : List V} {rs : List R} {ds : List D}, RelRs C.K Hs A vs rs → rs.all (noB j) = true → rdAll g rs = some ds → DzA C.K (Hp.no H a) vs ds
  | [], [], ds, _, _, e => by cases e; exact .nil
  | v :: vs, r :: rs, ds, h, nb, e => by
    unfold rdAll at e
    simp only [Option.bind_eq_bind, Option.bind_eq_some_iff] at e
    obtain ⟨d, h1, ds', h2, e⟩ := e
    cases e
    rw [List.all_cons, Bool.and_eq_true] at nb
    obtain ⟨a0, o0, q1, q2, q3, q4, q5, q6⟩ := ok.own j c _ _ hg
    rw [ha] at q1
    cases q1
    have sm : Same Hs (Hp.no H a) := fun b o e => by
      rw [Hp.no_ne (fun z => by rw [z, q3] at e; cases e)]
      exact ok.same b o e
    refine .cons ?_ (rdAll_no ok hg ha h.2 nb.2 h2)
    cases r with
    | dat d' =>
      cases h1
      exact Dz.mono sm (show Dz C.K Hs v d from h.1)
    | bor i =>
      obtain ⟨a1, h3, rfl⟩ := (show ∃ a, A[i]? = some a ∧ v = .ref a from h.1)
      have h1 : (match g[i]? with
        | some (.own c _ _) => some c.d
        | some (.frz d) => some d
        | some (.rws ls) => some (.lst (ls.map D.lst))
        | _ => none) = some d := h1
      split at h1
      · rename_i c1 p1 l1 hg1
        cases h1
        obtain ⟨a2, o2, w1, _, w3, w4, w5, _⟩ := ok.own i c1 p1 l1 hg1
        rw [h3] at w1
        cases w1
        have ne : a1 ≠ a := fun z => by
          subst z
          have := ok.inj i j _ _ _ _ _ _ a1 hg1 hg h3 ha
          have nb1 : (i != j) = true := nb.1
          rw [this] at nb1
          simp at nb1
        exact (w5.mono sm).dz (by rw [Hp.no_ne ne]; exact w4)
      · rename_i d1 hg1
        cases h1
        obtain ⟨a2, w1, _, w3⟩ := ok.frz i _ hg1
        rw [h3] at w1
        cases w1
        exact w3.mono sm
      · rename_i ls hg1
        cases h1
        obtain ⟨a2, ks, w1, _, w3, w4, _⟩ := ok.rws i _ hg1
        rw [h3] at w1
        cases w1
        have nm := w4 j c p l a hg ha
        have nx : ∀ x ∈ a1 :: ks, x ≠ a := fun x m z => nm (z ▸ m)
        exact .lst (SqL.of (by rw [Hp.no_ne (nx a1 List.mem_cons_self)]; exact w3.hd)) (KdOk.dz sm (w3.kd.move (Same.refl _) fun x m o h => by rw [Hp.no_ne (nx x (List.mem_cons_of_mem _ m))]; exact h))
      · cases h1
  | [], _ :: _, _, h, _, _ => h.elim
  | _ :: _, [], _, h, _, _ => h.elim
theorem RelRs.get {K : PySem.W.Frag} {Hs : Hp} {A : List Addr} : ∀ {vs : List V} {rs : List R} {i : Nat} {r : R}, RelRs K Hs A vs rs → rs[i]? = some r → ∃ v, vs[i]? = some v ∧ RelR K Hs A v r
  | [], [], _, _, _, e => by simp at e
  | v :: vs, r :: rs, 0, _, h, e => by simp at e; subst e; exact ⟨v, rfl, h.1⟩
  | v :: vs, r :: rs, i + 1, _, h, e => by
    obtain ⟨x, h1, h2⟩ := RelRs.get (i := i) h.2 (by simpa using e)
    exact ⟨x, by simpa using h1, h2⟩
  | [], _ :: _, _, _, h, _ => h.elim
  | _ :: _, [], _, _, h, _ => h.elim
theorem RelRs.erase {K : PySem.W.Frag} {Hs : Hp} {A : List Addr} : ∀ {vs : List V} {rs : List R} (i : Nat), RelRs K Hs A vs rs → RelRs K Hs A (vs.eraseIdx i) (rs.eraseIdx i)
  | [], [], _, _ => trivial
  | v :: vs, r :: rs, 0, h => h.2
  | v :: vs, r :: rs, i + 1, h => ⟨h.1, RelRs.erase i h.2⟩
  | [], _ :: _, _, h => h.elim
  | _ :: _, [], _, h => h.elim
/-- the container at j was changed by a call, things were laid -/
theorem Ok.wrS {C : Ct} {Hs Hs' : Hp} {A : List Addr} {g : G} {σ : L2.St} {H H' : Hp} {j : Nat} {c c' : Cn} {p : Bool} {a : Addr} {o' : HO} (ok : Ok C Hs A g σ H) (hg : g[j]? = some (.own c p false)) (ha : A[j]? = some a)
    (s1 : Same Hs Hs') (kp : ∀ b u, b ≠ a → H b = some u → H' b = some u) (s2 : ∀ b u, b ≠ a → Hs' b = some u → H' b = some u) (gr : ∀ b o, Hs' b = some o → Hs b = some o ∨ H b = none) (hn : Hs' a = none) (e : H' a = some o') (hc : CnOk C.K Hs' c' o') : Ok C Hs' A (g.set j (.own c' p false)) σ H' := by
  obtain ⟨a0, o, q1, q2, q3, q4, q5, q6⟩ := ok.own j c _ _ hg
  rw [ha] at q1
  cases q1
  have ok1 : Ok C Hs' A g σ (upd H' a o) := by
    refine ok.moreS (fun b u q => ?_) s1 (fun b u q => ?_) gr
    · by_cases z : b = a
      · subst z; rw [upd_same, ← q, q4]
      · rw [upd_ne z]; exact kp b u z q
    · have z : b ≠ a := fun z => by rw [z, hn] at q; cases q
      rw [upd_ne z]
      exact s2 b u z q
  have ok2 := ok1.wr (o := o') hg ha hc
  have : upd (upd H' a o) a o' = H' := by
    funext b
    by_cases z : b = a
    · subst z; rw [upd_same, e]
    · rw [upd_ne z, upd_ne z]
  rw [this] at ok2
  exact ok2
theorem putFR_ok {C : Ct} {Hs Hs' : Hp} {A : List Addr} {g : G} {σ : L2.St} {H H' : Hp} {j : Nat} {c c' : Cn} {p : Bool} {a : Addr} {o' : HO} {fr : FR} {v : V} {r : R} {g' : G} (ok : Ok C Hs A g σ H) (hg : g[j]? = some (.own c p false)) (ha : A[j]? = some a)
    (s1 : Same Hs Hs') (kp : ∀ b u, b ≠ a → H b = some u → H' b = some u) (s2 : Same Hs' H') (gr : ∀ b o, Hs' b = some o → Hs b = some o ∨ H b = none) (hn : Hs' a = none) (e : H' a = some o') (hc : CnOk C.K Hs' c' o') (hf : RelF C.K Hs' H H' v fr) (hp : putFR fr (g.set j (.own c' p false)) = (r, g')) :
    ∃ A', Pre A A' ∧ Ok C Hs' A' g' σ H' ∧ RelR C.K Hs' A' v r := by
  cases fr with
  | dat d =>
    cases hp
    exact ⟨A, Pre.refl _, ok.wrS hg ha s1 kp (fun b u _ q => s2 b u q) gr hn e hc, hf⟩
  | new c2 =>
    cases hp
    obtain ⟨a2, o2, rfl, w1, w2, w3, w4⟩ := hf
    obtain ⟨a0, o, q1, q2, q3, q4, q5, q6⟩ := ok.own j c _ _ hg
    rw [ha] at q1
    cases q1
    have ne : a2 ≠ a := fun z => by rw [z, q4] at w1; cases w1
    have ok1 : Ok C Hs' A (g.set j (.own c' p false)) σ (Hp.no H' a2) := ok.wrS hg ha s1 (fun b u nb q => by rw [Hp.no_ne (fun z => by rw [z, w1] at q; cases q)]; exact kp b u nb q) (fun b u _ q => by rw [Hp.no_ne (fun z => by rw [z, w2] at q; cases q)]; exact s2 b u q) gr hn (by rw [Hp.no_ne (Ne.symm ne)]; exact e) hc
    refine ⟨A ++ [a2], Pre.app _ _, ok1.adopt (H' := H') (a := a2) Hp.no_self (fun b u q => ?_) w3 w4, ok1.tmpR a2⟩
    by_cases z : b = a2
    · rw [z, Hp.no_self] at q; cases q
    · rw [Hp.no_ne z] at q; exact q
  | newR ls =>
    cases hp
    obtain ⟨a2, ks, rfl, w⟩ := hf
    have ok1 : Ok C Hs' A (g.set j (.own c' p false)) σ H' := ok.wrS hg ha s1 kp (fun b u _ q => s2 b u q) gr hn e hc
    refine ⟨A ++ [a2], Pre.app _ _, ok1.addR (w.low fun x m => (ok.fresh0 (w.fr x m).2).2) (fun k c2 p2 l2 b e1 e2 m => ?_) (fun k ms b x e1 e2 m1 m2 => ?_), ok1.tmpR a2⟩
    · rcases set_some e1 with ⟨ek, _, _⟩ | ⟨_, e1⟩
      · subst ek
        exact ok.deadO hg e2 (w.fr b m).2
      · exact ok.deadO e1 e2 (w.fr b m).2
    · rcases set_some e1 with ⟨_, e1, _⟩ | ⟨_, e1⟩
      · cases e1
      · refine ok.deadR e1 e2 ?_ (w.fr x m2).2
        obtain ⟨a3, ks3, r1, _, r3, r4, _⟩ := ok.rws k ms e1
        rw [e2] at r1
        cases r1
        have ne : b ≠ a := fun z => r4 j c p false a hg ha (by rw [z]; exact List.mem_cons_self)
        rw [kp _ _ ne r3.hd, ← r3.hd] at m1
        exact m1
section
variable {X : Cx} {kk : Nat} {f : Cn → List D → Option (FR × Cn)} {ma : ZAr}
theorem callM_of {σ : L2.St} {H : Hp} {Q : VK} {E : XK} (h : tZ X.K X.N.length (zCallM kk f ma) σ H Q) : tCall (spM X.K kk f) [] E (tZA X.K X.N.length ma) σ H Q := by
  obtain ⟨C, Hs, A, g, r, g', hK, hn, ok, e, q⟩ := h
  unfold zCallM at e
  simp only [Option.bind_eq_bind, Option.bind_eq_some_iff] at e
  obtain ⟨⟨rs, g1⟩, h1, e⟩ := e
  refine ⟨C, Hs, A, g, rs, g1, hK, hn, ok, h1, fun Hs1 A1 vs H1 s1 p1 ok1 rel1 => ?_⟩
  show spM X.K kk f (vs ++ []) H1 Q E
  rw [List.append_nil]
  dsimp only at e
  split at e
  · rename_i j hj
    split at e
    · rename_i c p hg
      split at e
      · rename_i hnb
        simp only [Option.bind_eq_some_iff] at e
        obtain ⟨ds, h2, ⟨fr, c'⟩, h3, e⟩ := e
        obtain ⟨v, hv, rv⟩ := rel1.get hj
        obtain ⟨a, hA, rfl⟩ := (show ∃ a, A1[j]? = some a ∧ v = .ref a from rv)
        obtain ⟨a0, o, q1, q2, q3, q4, q5, q6⟩ := ok1.own j c _ _ hg
        rw [hA] at q1
        cases q1
        have sm : Same Hs1 (Hp.no H1 a) := fun b o e => by
          rw [Hp.no_ne (fun z => by rw [z, q3] at e; cases e)]
          exact ok1.same b o e
        dsimp only at e
        split at e
        · rename_i hsc
          rw [Bool.and_eq_true] at hsc
          have hz := rdAll_no ok1 hg hA (rel1.erase kk) hnb h2
          refine ⟨Hp.no H1 a, ds, c, c', a, o, fr, fun b u q => ?_, hv, by rw [← hK]; exact hz, Hp.no_self, q4, by rw [← hK]; exact q5.mono sm, h3, fun v Hs' H' o' sS kp sP gr hn' he hc hf => ?_⟩
          · by_cases z : b = a
            · rw [z, Hp.no_self] at q; cases q
            · rw [Hp.no_ne z] at q; exact q
          · have hc1 : CnOk C.K Hs1 c' o' := by rw [hK]; exact hc.any hsc.1
            have hf1 : RelF C.K Hs1 H1 H' v fr := by
              cases fr with
              | dat d => exact (show Dz C.K Hs' v d by rw [hK]; exact hf).any hsc.2
              | new c2 =>
                obtain ⟨a2, o2, w0, w1, w2, w3, w4⟩ := hf
                refine ⟨a2, o2, w0, w1, ?_, w3, by rw [hK]; exact w4.any hsc.2⟩
                cases z : Hs1 a2 with
                | none => rfl
                | some u => have := ok1.same a2 u z; rw [w1] at this; cases this
              | newR _ => exact absurd hsc.2 (by simp [FR.scal])
            have s11 : ∀ b u, Hs1 b = some u → H' b = some u := fun b u q => kp b u (fun z => by rw [z, q3] at q; cases q) (ok1.same b u q)
            cases hp : putFR fr (g1.set j (.own c' p false)) with
            | mk r2 g2 =>
            rw [hp] at e
            cases e
            obtain ⟨A2, pre, ok2, rel2⟩ := putFR_ok ok1 hg hA (Same.refl _) kp s11 (fun b o e => .inl e) q3 he hc1 hf1 hp
            exact q Hs1 A2 v H' s1 (p1.trans pre) ok2 rel2
        · simp only [Option.bind_eq_some_iff] at e
          obtain ⟨⟨ds2, g2⟩, h4, e⟩ := e
          obtain ⟨Hs2, s2, ok2, z2⟩ := frzAll_ok ok1 (rel1.erase kk) h4
          dsimp only at e
          split at e
          · rename_i c2 p2 hg2
            simp only [Option.bind_eq_some_iff] at e
            obtain ⟨⟨fr2, c2'⟩, h5, e⟩ := e
            obtain ⟨a0, o2, y1, y2, y3, y4, y5, y6⟩ := ok2.own j c2 _ _ hg2
            rw [hA] at y1
            cases y1
            refine ⟨Hs2, ds2, c2, c2', a, o2, fr2, ok2.same, hv, by rw [← hK]; exact z2, y3, y4, by rw [← hK]; exact y5, h5, fun v Hs' H' o' sS kp sP gr hn' he hc hf => ?_⟩
            dsimp only at e
            cases hp : putFR fr2 (g2.set j (.own c2' p2 false)) with
            | mk r3 g3 =>
            rw [hp] at e
            cases e
            obtain ⟨A3, pre, ok3, rel3⟩ := putFR_ok ok2 hg2 hA sS kp sP gr hn' he (by rw [hK]; exact hc) (by rw [hK]; exact hf) hp
            exact q Hs' A3 v H' ((s1.trans s2).trans sS) (p1.trans pre) ok3 rel3
          · cases e
      · cases e
    · cases e
  · cases e
theorem ze_callM {k : Nat} {x : Str} {p pos : Pos} {e : Expr} {es : List Expr} (c : Cal X.prog X.w X.K X.mg X.base k x (spM X.K kk f)) (hr : Room k X.A) (ha : ZAs X (e :: es) ma) (hg : Gl X x := by rfl)
    (hdb : (x == ("__debug__" : Str)) = false := by decide) (he : starEach (e :: es) X.env = (false, eval e X.env) :: starEach es X.env := by rfl) (hpl : (backTo pos (starEach es X.env)).any (·.1) = false := by rfl) :
    ZE X (.Call (.Name x p) (e :: es) [] pos) (zCallM kk f ma) := by
  obtain ⟨fa, fd, ps, h1, h2, h3, h4⟩ := c
  exact PE.of (pe_call (E := E0) h4 hr hg h1 h2 h3 .nil pass0 ha hdb he hpl) fun σ H Q h => callM_of h
end
end Z
set_option Elab.async false
set_option linter.all false
set_option maxRecDepth 100000
set_option maxHeartbeats 4000000
namespace Z
open PySem PySem.Spec PyProof.Rows L2
theorem wipe_get (σ : L2.St) : ∀ (vs : List Nat) (i : Nat), (wipe σ vs)[i]? = if i ∈ vs ∧ i < σ.length then some none else σ[i]?
  | [], i => by simp [wipe]
  | v :: vs, i => by
    unfold wipe
    by_cases h : i = v
    · subst h
      by_cases hl : i < σ.length
      · rw [List.getElem?_set_self (by rw [wipe_length]; exact hl), if_pos ⟨List.mem_cons_self, hl⟩]
      · rw [List.getElem?_eq_none (by rw [List.length_set, wipe_length]; omega), if_neg (by omega), List.getElem?_eq_none (by omega)]
    · rw [List.getElem?_set_ne (Ne.symm h), wipe_get σ vs i]
      have : (i ∈ v :: vs) ↔ i ∈ vs := by simp [h]
      simp only [this]
theorem wipe_set {σ : L2.St} {vs : List Nat} {i : Nat} {x : Option V} (h : i ∈ vs) : wipe (σ.set i x) vs = wipe σ vs := by
  refine List.ext_getElem? fun j => ?_
  rw [wipe_get, wipe_get, List.length_set]
  by_cases hj : j ∈ vs ∧ j < σ.length
  · rw [if_pos hj, if_pos hj]
  · rw [if_neg hj, if_neg hj]
    by_cases e : i = j
    · subst e
      have : ¬ i < σ.length := fun z => hj ⟨h, z⟩
      rw [List.getElem?_eq_none (by rw [List.length_set]; omega), List.getElem?_eq_none (by omega)]
    · rw [List.getElem?_set_ne e]
theorem wipe_out {σ : L2.St} {vs : List Nat} {i : Nat} (h : i ∉ vs) : (wipe σ vs)[i]? = σ[i]? := by rw [wipe_get, if_neg (fun z => h z.1)]
def wipeG (g : G) : List Nat → G
  | [] => g
  | v :: vs => (wipeG g vs).set v .un
theorem wipeG_len (g : G) : ∀ vs : List Nat, (wipeG g vs).length = g.length
  | [] => rfl
  | v :: vs => by unfold wipeG; rw [List.length_set, wipeG_len g vs]
theorem wipeG_some {g : G} : ∀ {vs : List Nat} {i : Nat} {s : Sl}, (wipeG g vs)[i]? = some s → s = .un ∨ (i ∉ vs ∧ g[i]? = some s)
  | [], i, s, h => .inr ⟨by simp, h⟩
  | v :: vs, i, s, h => by
    unfold wipeG at h
    rcases set_some h with ⟨_, e, _⟩ | ⟨ne, h⟩
    · exact .inl e
    · rcases wipeG_some h with e | ⟨e1, e2⟩
      · exact .inl e
      · exact .inr ⟨by simp [ne, e1], e2⟩
theorem wipeG_out {g : G} : ∀ {vs : List Nat} {i : Nat}, i ∉ vs → (wipeG g vs)[i]? = g[i]?
  | [], i, _ => rfl
  | v :: vs, i, h => by
    unfold wipeG
    simp only [List.mem_cons, not_or] at h
    rw [List.getElem?_set_ne (Ne.symm h.1), wipeG_out h.2]
def freeAll (g : G) (vs : List Nat) : Bool := vs.all fun v => freeAt v g
theorem freeAll_at {g : G} {vs : List Nat} (h : freeAll g vs = true) {v : Nat} (hv : v ∈ vs) : freeAt v g = true := List.all_eq_true.mp h v hv
/-- slots forgotten; σ may change there -/
theorem Ok.puts {C : Ct} {Hs : Hp} {A : List Addr} {g : G} {σ σ' : L2.St} {H : Hp} {vs : List Nat} (ok : Ok C Hs A g σ H) (hf : freeAll g vs = true) (hl : σ'.length = σ.length) (hσ : ∀ i, i ∉ vs → σ'[i]? = σ[i]?) : Ok C Hs A (wipeG g vs) σ' H := by
  have no : ∀ {i : Nat} {c : Cn} {p l : Bool}, (wipeG g vs)[i]? = some (.own c p l) → i ∉ vs ∧ g[i]? = some (.own c p l) := fun {i c p l} e => by
    rcases wipeG_some e with z | z
    · cases z
    · exact z
  refine ⟨hl.trans ok.ln, by rw [wipeG_len]; exact ok.lg, by rw [wipeG_len]; exact ok.la, ok.base, ok.same, fun i d e => ?_, fun i d e => ?_, fun i c p l e => ?_, fun i k c1 p1 l1 c2 p2 l2 a' e1 e2 h1 h2 => ok.inj i k _ _ _ _ _ _ a' (no e1).2 (no e2).2 h1 h2, ok.grow, ok.keep, fun q hq => ?_, fun i c' l a' e ha => ok.pin1 i c' l a' (no e).2 ha, fun q hq => ?_, ?_⟩
  · rcases wipeG_some e with z | ⟨z1, z2⟩
    · cases z
    · rw [hσ i z1]; exact ok.dat i d z2
  · rcases wipeG_some e with z | ⟨z1, z2⟩
    · cases z
    · rw [hσ i z1]; exact ok.frz i d z2
  · obtain ⟨z1, z2⟩ := no e
    rw [hσ i z1]; exact ok.own i c p l z2
  · obtain ⟨c', l, h1, h2⟩ := ok.pinned q hq
    refine ⟨c', l, ?_, h2⟩
    rw [wipeG_out (fun z => freeAt_pin (freeAll_at hf z) h1)]
    exact h1
  · obtain ⟨p, h1, h2⟩ := ok.locked q hq
    refine ⟨p, ?_, h2⟩
    rw [wipeG_out (fun z => freeAt_lock (freeAll_at hf z) h1)]
    exact h1
  · refine RwOk.step ok.rws rfl rfl (Same.refl _) (fun x u ex n1 n2 _ => ⟨ex, n1, n2⟩) (fun i ls e => ?_) (fun i c' p l b e hb => .inl ⟨i, c', p, l, (no e).2, hb⟩)
    rcases wipeG_some e with z | ⟨z1, z2⟩
    · cases z
    · exact ⟨z2, rfl, fun _ => hσ i z1⟩
/-- what was held aside beyond m is dropped -/
theorem Ok.cutM {C : Ct} {Hs : Hp} {A : List Addr} {g : G} {σ : L2.St} {H : Hp} {m : Nat} (ok : Ok C Hs A g σ H) (hm : C.n ≤ m) : Ok C Hs (A.take m) (g.take m) σ H := by
  have tk : ∀ {α : Type} {l : List α} {i : Nat} {s : α}, (l.take m)[i]? = some s → i < m ∧ l[i]? = some s := fun {α l i s} e => by
    by_cases h : i < m
    · rw [List.getElem?_take_of_lt h] at e; exact ⟨h, e⟩
    · have := (List.getElem?_eq_some_iff.mp e).1
      rw [List.length_take] at this; omega
  have kt : ∀ {α : Type} {l : List α} {i : Nat} {s : α}, i < m → l[i]? = some s → (l.take m)[i]? = some s := fun {α l i s} h e => by
    rw [List.getElem?_take_of_lt h]; exact e
  refine ⟨ok.ln, by rw [List.length_take]; have := ok.lg; omega, by rw [List.length_take, List.length_take, ok.la], ok.base, ok.same, fun i d e => ok.dat i d (tk e).2, fun i d e => ?_, fun i c' p l e => ?_, fun i k c1 p1 l1 c2 p2 l2 a' e1 e2 h1 h2 => ok.inj i k _ _ _ _ _ _ a' (tk e1).2 (tk e2).2 (tk h1).2 (tk h2).2, ok.grow, ok.keep, fun q hq => ?_, fun i c' l a' e ha => ok.pin1 i c' l a' (tk e).2 (tk ha).2, fun q hq => ?_, RwOk.step ok.rws rfl rfl (Same.refl _) (fun x u ex n1 n2 _ => ⟨ex, n1, n2⟩) (fun i ls e => ⟨(tk e).2, List.getElem?_take_of_lt (tk e).1, fun _ => rfl⟩) (fun i c' p l b e hb => .inl ⟨i, c', p, l, (tk e).2, (tk hb).2⟩)⟩
  · obtain ⟨a, q1, q2⟩ := ok.frz i d (tk e).2
    exact ⟨a, kt (tk e).1 q1, q2⟩
  · obtain ⟨a, o, q1, q2⟩ := ok.own i c' p l (tk e).2
    exact ⟨a, o, kt (tk e).1 q1, q2⟩
  · obtain ⟨c', l, h1, h2⟩ := ok.pinned q hq
    have := C.plt q hq
    exact ⟨c', l, kt (by omega) h1, kt (by omega) h2⟩
  · obtain ⟨p, h1, h2⟩ := ok.locked q hq
    have := C.llt q hq
    exact ⟨p, kt (by omega) h1, kt (by omega) h2⟩
def tZGw (K : PySem.W.Frag) (n : Nat) (vs : List Nat) (tg : TD) : TG := fun v σ H Q => ∃ (C : Ct) (Hs : Hp) (A : List Addr) (g : G) (d : D) (g' : G), C.K = K ∧ C.n = n ∧ Ok C Hs A g σ H ∧ Dz K Hs v d ∧ tg d g = some g' ∧
  ∀ (σ' : L2.St), wipe σ' vs = wipe σ vs → Ok C Hs A g' σ' H → Q σ' H
abbrev ZGw (X : Cx) (vs : List Nat) (e : Expr) (tg : TD) : Prop := PG X e (tZGw X.K X.N.length vs tg)
section
variable {X : Cx} {pos : Pos} {vs : List Nat}
theorem zgw_name {i : Nat} {x : Str} (hN : X.N.Nodup) (hi : X.N[i]? = some x) (hx : Loc X.env.scope x) (hv : i ∈ vs) (hf : X.fn x = true ∨ X.env.scope.names.lookup x = some .local := by first | exact .inl rfl | exact .inr rfl | assumption) : ZGw X vs (.Name x pos) (gN i) := by
  refine PG.of (pg_name hN hi hx hf) fun v σ H Q ⟨C, Hs, A, g, d, g', hK, hn, ok, hd, e, q⟩ => ?_
  rw [← hK] at hd
  exact q _ (wipe_set hv) (ok.set e (by rw [hn]; exact (List.getElem?_eq_some_iff.mp hi).1) hd)
def zYes : ZT := fun g => some (true, g)
abbrev ZTs (X : Cx) (es : List Expr) (m : ZT) : Prop := PTs X es (tZT X.K X.N.length m)
theorem zts_nil : ZTs X [] zYes := ⟨fun pins s σ H Q I ⟨C, Hs, A, g, b, g', hK, hn, ok, e, q⟩ => pts_nil.run pins s σ H Q I (by
  cases e
  exact q Hs A H (Same.refl _) (Pre.refl _) ok)⟩
theorem zts_one {c : Expr} {t : ZT} (h : ZTe X c t) : ZTs X [c] t := ⟨fun pins s σ H Q I q => (pts_one h).run pins s σ H Q I q⟩
end
def lcL (tg : TD) (tt : ZT) (el : ZM) (vs : List Nat) (t : Nat) : List D → G → Option G
  | [], g => if freeAll g vs = true then some g else none
  | x :: xs, g => if freeAll g vs = true then do
      let g1 ← tg x (wipeG g vs)
      let (b, g2) ← tt g1
      if b = true then do
        let (r, g3) ← el g2
        let (d, g4) ← frzR r g3
        match g4[t]? with
        | some (.own (.lst acc) false false) => if acc.length < sizeLine then lcL tg tt el vs t xs ((g4.set t (.own (.lst (acc ++ [d])) false false)).take (t + 1)) else none
        | _ => none
      else lcL tg tt el vs t xs (g2.take (t + 1))
    else none
def zLc (mi : MI) (tg : TD) (tt : ZT) (el : ZM) (vs : List Nat) : ZM := fun g => do
  let (L, lk, g1) ← mi g
  match lk with
  | none => do
    let g3 ← lcL tg tt el vs g1.length L (g1 ++ [Sl.own (.lst []) false false])
    some (.bor g1.length, wipeG g3 vs)
  | some j => match g1[j]? with
    | some (.own c p l) => do
      let g3 ← lcL tg tt el vs g1.length L ((g1 ++ [Sl.own (.lst []) false false]).set j (.own c p true))
      some (.bor g1.length, unlk j l (wipeG g3 vs))
    | _ => none
theorem lc_of {tgd : TD} {tt : ZT} {el : ZM} {vs : List Nat} {C : Ct} {Hs1 : Hp} {A1 : List Addr} {g1 g3 : G} {σ : L2.St} {H1 : Hp} {L : List D} {J : It} {lk' : Option (Addr × Cn)} {K : PySem.W.Frag} {n t : Nat} {D0 : Addr} {Qd : Hp → Prop} (hK : C.K = K) (hn : C.n = n) (ht : C.n ≤ t)
    (ok : Ok C Hs1 A1 g1 σ H1) (hA : A1[t]? = some D0) (hAl : A1.length = t + 1) (jw : JW K J L (Src K Hs1 lk')) (hl : ∀ a c, lk' = some (a, c) → ∃ j, (j, a, c) ∈ C.locks) (e : lcL tgd tt el vs t L g1 = some g3)
    (q : ∀ Hs A H, Same Hs1 Hs → Ok C Hs A (wipeG g3 vs) σ H → Pre A1 A → Qd H) :
    ∃ W : Nat → Nat → Hp → Prop, (∃ m, W 0 m H1) ∧ ∀ i m H, W i m H → (J.stop i H ∧ Qd H) ∨ (J.go i H ∧ ∃ Nx : Hp → Prop, (∀ H', Nx H' → ∃ m', m' < m ∧ W (i + 1) m' H') ∧ ∀ x H', J.yld i H x H' → tZGw K n vs tgd x (wipe σ vs) H' fun σ2 H2 => wipe σ2 vs = wipe σ vs ∧ tZT K n tt σ2 H2 fun b H3 =>
      if b = true then tZ K n el σ2 H3 fun y H4 => ∃ acc, H4 D0 = some (.lst acc) ∧ acc.length < sizeLine ∧ Nx (upd H4 D0 (.lst (acc ++ [y]))) else Nx H3) := by
  have src : ∀ {Hs A g σ H}, Same Hs1 Hs → Ok C Hs A g σ H → Src K Hs1 lk' Hs H := fun {Hs A g σ H} s ok => by
    cases lk' with
    | none => exact ⟨s, ok.same⟩
    | some ac =>
      obtain ⟨a, c⟩ := ac
      obtain ⟨j, hj⟩ := hl a c rfl
      obtain ⟨p, h1, h2⟩ := ok.locked _ hj
      obtain ⟨a', o, w1, _, _, w4, w5, _⟩ := ok.own j c p true h1
      have : some a = some a' := h2.symm.trans w1
      cases this
      exact ⟨o, w4, by rw [← hK]; exact w5⟩
  have ptk : ∀ {A : List Addr}, Pre A1 A → Pre A1 (A.take (t + 1)) := fun {A} h j a e => by
    have := (List.getElem?_eq_some_iff.mp e).1
    rw [List.getElem?_take_of_lt (by omega)]
    exact h j a e
  refine ⟨fun i m H => m = L.length - i ∧ i ≤ L.length ∧ ∃ Hs A g σ', wipe σ' vs = wipe σ vs ∧ σ'.length = σ.length ∧ Same Hs1 Hs ∧ Ok C Hs A g σ' H ∧ Pre A1 A ∧ lcL tgd tt el vs t (L.drop i) g = some g3, ⟨L.length, by simp, Nat.zero_le _, Hs1, A1, g1, σ, rfl, rfl, Same.refl _, ok, Pre.refl _, by simpa using e⟩, ?_⟩
  rintro i m H ⟨rfl, hi, Hs, A, g, σ', hw, hlen, s, ok, hP, e⟩
  by_cases hlt : i < L.length
  · refine .inr ⟨jw.go Hs H i (src s ok) hlt, ?_⟩
    rw [List.drop_eq_getElem_cons hlt] at e
    simp only [lcL] at e
    split at e
    · rename_i hfr
      simp only [Option.bind_eq_bind, Option.bind_eq_some_iff] at e
      obtain ⟨ga, e1, ⟨b, gb⟩, e2, e3⟩ := e
      have okw : Ok C Hs A (wipeG g vs) (wipe σ vs) H := ok.puts hfr (by rw [wipe_length, hlen]) (fun i hi => by rw [← hw]; exact wipe_out hi)
      refine ⟨fun H' => ∃ Hs' A' g' σ2, wipe σ2 vs = wipe σ vs ∧ σ2.length = σ.length ∧ Same Hs1 Hs' ∧ Ok C Hs' A' g' σ2 H' ∧ Pre A1 A' ∧ lcL tgd tt el vs t (L.drop (i + 1)) g' = some g3, fun H' ⟨Hs', A', g', σ2, w1, w2, w3, w4, w5, w6⟩ => ⟨L.length - (i + 1), by omega, rfl, hlt, Hs', A', g', σ2, w1, w2, w3, w4, w5, w6⟩, fun x H' y => ?_⟩
      obtain ⟨d, Hs', hd, s', ok', dz⟩ := jw.yld C Hs A _ _ H i x H' hK okw (src s ok) hlt y
      rw [List.getElem?_eq_getElem hlt] at hd
      cases hd
      refine ⟨C, Hs', A, _, _, ga, hK, hn, ok', dz, e1, fun σ2 hw2 ok2 => ?_⟩
      have hw3 : wipe σ2 vs = wipe σ vs := by
        rw [hw2]
        refine List.ext_getElem? fun j => ?_
        rw [wipe_get, wipe_get, wipe_length]
        by_cases hj : j ∈ vs ∧ j < σ.length
        · simp only [if_pos hj]
        · simp only [if_neg hj]
      have hl2 : σ2.length = σ.length := by have := ok2.ln; have := ok.ln; omega
      refine ⟨hw3, C, Hs', A, ga, b, gb, hK, hn, ok2, e2, fun Hs3 A3 H3 s3 p3 ok3 => ?_⟩
      cases b with
      | false =>
        show if false = true then _ else _
        rw [if_neg Bool.false_ne_true]
        have e3 : lcL tgd tt el vs t (L.drop (i + 1)) (gb.take (t + 1)) = some g3 := e3
        exact ⟨Hs3, A3.take (t + 1), _, σ2, hw3, hl2, (s.trans s').trans s3, ok3.cutM (by omega), ptk (hP.trans p3), e3⟩
      | true =>
        show if true = true then _ else _
        rw [if_pos rfl]
        simp only [if_true, Option.bind_eq_some_iff] at e3
        obtain ⟨⟨r, gc⟩, e4, ⟨dd, gd⟩, e5, e6⟩ := e3
        refine ⟨C, Hs3, A3, gb, r, gc, hK, hn, ok3, e4, fun Hs4 A4 v4 H4 s4 p4 ok4 rel4 => ?_⟩
        obtain ⟨Hs5, s5, ok5, dz5⟩ := ok4.frzR rel4 e5
        dsimp only at e6
        split at e6
        · rename_i acc hgt
          split at e6
          · rename_i hsz
            have hA4 : A4[t]? = some D0 := p4 _ _ (p3 _ _ (hP _ _ hA))
            obtain ⟨a', vs', ev, w1, w2, w3⟩ := ok5.bor (relB hA4) hgt
            cases ev
            refine ⟨vs', w2, by rw [w3.length]; exact hsz, Hs5, A4.take (t + 1), _, σ2, hw3, hl2, (((s.trans s').trans s3).trans s4).trans s5, (ok5.wr (o := .lst (vs' ++ [v4])) (c' := .lst (acc ++ [dd])) hgt hA4 (show DzA C.K Hs5 (vs' ++ [v4]) (acc ++ [dd]) from w3.append (.cons dz5 .nil))).cutM (by omega), ptk ((hP.trans p3).trans p4), e6⟩
          · cases e6
        · cases e6
    · cases e
  · have ei : i = L.length := by omega
    subst ei
    rw [List.drop_length] at e
    simp only [lcL] at e
    split at e
    · rename_i hfr
      cases e
      refine .inl ⟨jw.stop Hs H _ (src s ok) (Nat.le_refl _), q Hs A H s (ok.puts hfr hlen.symm fun i hi => ?_) hP⟩
      have h1 := wipe_out (σ := σ') hi
      have h2 := wipe_out (σ := σ) hi
      rw [← h1, hw, h2]
    · cases e
section
variable {X : Cx} {pos : Pos}
theorem zlc_of {mi : MI} {tgd : TD} {tt : ZT} {el : ZM} {vs : List Nat} {σ : L2.St} {H : Hp} {Q : VK} (h : tZ X.K X.N.length (zLc mi tgd tt el vs) σ H Q) :
    tLc (tZI X.K X.N.length mi) (tZGw X.K X.N.length vs tgd) (tZT X.K X.N.length tt) (tZ X.K X.N.length el) vs σ H Q := by
  obtain ⟨C, Hs, A, g, r, g', hK, hn, ok, e, q⟩ := h
  unfold zLc at e
  simp only [Option.bind_eq_bind, Option.bind_eq_some_iff] at e
  obtain ⟨⟨L, lk, g1⟩, h1, e⟩ := e
  refine ⟨C, Hs, A, g, L, lk, g1, hK, hn, ok, h1, fun Hs1 A1 H1 J lk' s1 PRE ok1 hl jw D0 hD => ?_⟩
  have ok2 := ok1.tmp (a := D0) (o := .lst []) (c := .lst []) hD (show DzA C.K Hs1 [] [] from .nil)
  have hA2 : (A1 ++ [D0])[g1.length]? = some D0 := by rw [← ok1.la]; simp
  have hAl : (A1 ++ [D0]).length = g1.length + 1 := by rw [List.length_append, ok1.la]; rfl
  cases lk with
  | none =>
    cases lk' with
    | some _ => exact hl.elim
    | none =>
      simp only [Option.bind_eq_some_iff] at e
      obtain ⟨g3, e1, e2⟩ := e
      cases e2
      exact lc_of hK hn ok1.lg ok2 hA2 hAl jw (fun _ _ z => by cases z) e1 fun Hs2 A2 H2 s2 ok3 pre => q Hs2 A2 (.ref D0) H2 (s1.trans s2) (fun j a h => pre j a (Pre.app _ _ j a (PRE j a h))) ok3 ⟨D0, pre _ _ hA2, rfl⟩
  | some j =>
    cases lk' with
    | none => exact hl.elim
    | some ac =>
      obtain ⟨a, c⟩ := ac
      obtain ⟨ha, ⟨p0, l0, hgj⟩, hj⟩ := hl
      simp only at e
      split at e
      · rename_i c' p l hg2
        rw [hgj] at hg2
        cases hg2
        simp only [Option.bind_eq_some_iff] at e
        obtain ⟨g3, e1, e2⟩ := e
        cases e2
        have hjl := (List.getElem?_eq_some_iff.mp hgj).1
        have hgc : (g1 ++ [Sl.own (.lst []) false false])[j]? = some (.own c p0 l0) := by rw [List.getElem?_append_left hjl]; exact hgj
        have hac : (A1 ++ [D0])[j]? = some a := Pre.app _ _ _ _ ha
        have hjn : j < C.n := by rw [hn]; exact hj
        have okl : Ok (C.lock (j, a, c) hjn) Hs1 (A1 ++ [D0]) ((g1 ++ [Sl.own (.lst []) false false]).set j (.own c p0 true)) σ (upd H1 D0 (.lst [])) := by
          refine ok2.lk hgc rfl rfl rfl rfl rfl fun r hr => ?_
          rcases List.mem_cons.mp hr with rfl | hr
          · exact .inl ⟨rfl, rfl, rfl, hac⟩
          · by_cases z : r.1 = j
            · obtain ⟨p', w1, w2⟩ := ok2.locked r hr
              rw [z, hgc] at w1
              cases w1
              rw [z] at w2
              exact .inl ⟨z, rfl, rfl, w2⟩
            · exact .inr ⟨z, hr⟩
        refine lc_of (C := C.lock (j, a, c) hjn) hK hn ok1.lg okl hA2 hAl jw (fun a' c' z => ⟨j, by cases z; exact List.mem_cons_self⟩) e1 fun Hs2 A2 H2 s2 ok' pre => ?_
        have okU : Ok C Hs2 A2 (unlk j l0 (wipeG g3 vs)) σ H2 := by
          obtain ⟨p', w1, w2⟩ := ok'.locked (j, a, c) List.mem_cons_self
          unfold unlk
          rw [show (wipeG g3 vs)[j]? = some (.own c p' true) from w1]
          refine ok'.lk (C' := C) w1 rfl rfl rfl rfl rfl fun r hr => ?_
          by_cases z : r.1 = j
          · obtain ⟨p2, y1, y2⟩ := ok2.locked r hr
            rw [z, hgc] at y1
            have e3 : some (Sl.own c p0 l0) = some (.own r.2.2 p2 true) := y1
            cases e3
            obtain ⟨p3, x1, x2⟩ := ok'.locked r (List.mem_cons_of_mem _ hr)
            rw [z] at x2
            exact .inl ⟨z, rfl, rfl, x2⟩
          · exact .inr ⟨z, List.mem_cons_of_mem _ hr⟩
        exact q Hs2 A2 (.ref D0) H2 (s1.trans s2) (fun j a h => pre j a (Pre.app _ _ j a (PRE j a h))) okU ⟨D0, pre _ _ hA2, rfl⟩
      · cases e
theorem ze_lc {elt tg iter : Expr} {ifs : List Expr} {scope : Scope} {own : List (Str × Nat)} {mi : MI} {g : TD} {tt : ZT} {el : ZM} (hc : X.calm = true) (hN : X.N.Nodup) (hi : ZI X tg iter mi) (ok : BlkOk X.N X.env.scope scope own)
    (hg : ∀ (s : Shared) (H : Hp) (C : Addr) (cl : List (Str × Addr)) (fp : List Addr), ZGw (X.blk s H scope (compEnvC scope cl C X.env) fp) (own.map (·.2)) tg g) (ht : ∀ (s : Shared) (H : Hp) (C : Addr) (cl : List (Str × Addr)) (fp : List Addr), ZTs (X.blk s H scope (compEnvC scope cl C X.env) fp) ifs tt)
    (he : ∀ (s : Shared) (H : Hp) (C : Addr) (cl : List (Str × Addr)) (fp : List Addr), ZE (X.blk s H scope (compEnvC scope cl C X.env) fp) elt el) (hs : ∀ x, foldedSetIterable iter X.env x = pure x := by intro _; rfl) :
    ZE X (.ListComp elt [⟨tg, iter, ifs, 0⟩] scope pos) (zLc mi g tt el (own.map (·.2))) :=
  PE.of (pe_lc hc hN hi ok hg ht he hs) fun σ H Q h => zlc_of h
theorem zs_setLc {i : Nat} {y : Str} {py spos : Pos} {elt tg iter : Expr} {ifs : List Expr} {scope : Scope} {own : List (Str × Nat)} {mi : MI} {g : TD} {tt : ZT} {el : ZM} (hy : X.N[i]? = some y) (hyl : X.env.scope.names.lookup y = some .local)
    (hsw : swapsWith (.ListComp elt [⟨tg, iter, ifs, 0⟩] scope pos) (some (.Name y py)) spos.line X.env = pure true) (hc : X.calm = true) (hN : X.N.Nodup) (hi : ZI X tg iter mi) (ok : BlkOk X.N X.env.scope scope own)
    (hg : ∀ (s : Shared) (H : Hp) (C : Addr) (cl : List (Str × Addr)) (fp : List Addr), ZGw (X.blk s H scope (compEnvC scope cl C X.env) fp) (own.map (·.2)) tg g) (ht : ∀ (s : Shared) (H : Hp) (C : Addr) (cl : List (Str × Addr)) (fp : List Addr), ZTs (X.blk s H scope (compEnvC scope cl C X.env) fp) ifs tt)
    (he : ∀ (s : Shared) (H : Hp) (C : Addr) (cl : List (Str × Addr)) (fp : List Addr), ZE (X.blk s H scope (compEnvC scope cl C X.env) fp) elt el) (hs : ∀ x, foldedSetIterable iter X.env x = pure x := by intro _; rfl) :
    ZS X (.Assign [.Name y py] (.ListComp elt [⟨tg, iter, ifs, 0⟩] scope pos) spos) (zSet X.N.length i (zLc mi g tt el (own.map (·.2)))) := by
  refine PS.of (ps_setLc (te := tZ X.K X.N.length el) (tt := tZT X.K X.N.length tt) (g := tZGw X.K X.N.length (own.map (·.2)) g) hc hN hy hyl hsw hi ok hg ht he hs) fun D σ H h => ?_
  obtain ⟨C, Hs, A, g, fl, g', hK, hn, ok, e, q⟩ := h
  have hin := (List.getElem?_eq_some_iff.mp hy).1
  have h2 := set_of (i := i) (D := D) hin ⟨C, Hs, A, g, fl, g', hK, hn, ok, e, q⟩
  exact zlc_of h2
end
end Z
set_option Elab.async false
set_option linter.all false
set_option maxRecDepth 100000
set_option maxHeartbeats 4000000
namespace Z
open PySem PySem.Spec PyProof.Rows L2
section
variable {X : Cx} {pos : Pos} {tg : Expr} {m : ZM} {ma : ZAr} {a b c : Expr} {p : Pos}
variable {ma' mb : ZM}
def zCatL (ma mb : ZM) : ZM := fun g => do
  let (r1, g1) ← ma g
  let (r2, g2) ← mb g1
  let d ← rd g2 r1
  let e ← rd g2 r2
  match d, e with
  | .lst l, .lst k => if l.length + k.length ≤ sizeLine then some (.bor g2.length, g2 ++ [.own (.lst (l ++ k)) false false]) else none
  | _, _ => none
end
section
variable {g g1 g2 g3 : G} {r r1 r2 : R} {d e z : D} {ma mb mc m : ZM} {mr : ZAr} {rs : List R} {ds : List D} {b b1 b2 : Bool} {n i j : Nat}
theorem er_catL {l k : List D} (h1 : ma g = some (r1, g1)) (h2 : mb g1 = some (r2, g2)) (h3 : rd g2 r1 = some (.lst l)) (h4 : rd g2 r2 = some (.lst k)) (hz : l.length + k.length ≤ sizeLine) : zCatL ma mb g = some (.bor g2.length, g2 ++ [.own (.lst (l ++ k)) false false]) := by
  unfold zCatL; simp only [h1, h2, h3, h4, if_pos hz, Option.bind_eq_bind, Option.bind_some]
/-- a call that changes its kk-th argument, the others data -/
theorem er_callM {kk : Nat} {f : Cn → List D → Option (FR × Cn)} {c c' : Cn} {p : Bool} (h1 : mr g = some (rs, g1)) (h2 : rs[kk]? = some (.bor j)) (h3 : g1[j]? = some (.own c p false)) (h4 : (rs.eraseIdx kk).all (noB j) = true) (h5 : rdAll g1 (rs.eraseIdx kk) = some ds) (h6 : frzAll (rs.eraseIdx kk) g1 = some (ds, g2)) (h8 : f c ds = some (.dat d, c')) (h7 : g2 = g1) :
    zCallM kk f mr g = some (.dat d, g1.set j (.own c' p false)) := by
  subst h7
  unfold zCallM
  simp only [h1, h2, h3, h4, h5, h6, h8, Option.bind_eq_bind, Option.bind_some, if_true]
  split
  · rfl
  · rfl
theorem runM_ap {np k : Nat} {s : SM} {c : Cn} {OUT : Option (FR × Cn)} (hl : ds.length + 1 = np) (hk : k ≤ ds.length) (hg : startM n k c ds = g) (kx : ap (finM k) (s g) = OUT) : runM n np k s c ds = OUT := by
  unfold runM
  rw [if_pos ⟨hl, hk⟩, hg]
  exact kx
end
end Z
set_option Elab.async false
set_option linter.all false
set_option maxRecDepth 100000
set_option maxHeartbeats 4000000
namespace Z
open PySem PySem.Spec PyProof.Rows L2
/-- plain, and a text that can stand in a shaped thing -/
def D.okp : D → Bool
  | .str s => PyData.strOk ⟨s.toArray⟩
  | d => d.pl
theorem pl_lay {d : D} (h : d.okp = true) : d.py.canLay0 = true ∧ d.py.depth = 0 := by
  cases d with
  | str s => exact ⟨h, rfl⟩
  | non => exact ⟨rfl, rfl⟩
  | bl b => exact ⟨rfl, rfl⟩
  | int i => exact ⟨rfl, rfl⟩
  | _ => exact absurd h (by simp [D.okp, D.pl])
theorem pls_lay : ∀ {l : List D}, l.all D.okp = true → PyData.canLayAll0 (D.pyA l) = true ∧ PyData.depthAll (D.pyA l) = 0
  | [], _ => ⟨rfl, rfl⟩
  | d :: l, h => by
    rw [List.all_cons, Bool.and_eq_true] at h
    obtain ⟨a1, a2⟩ := pl_lay h.1
    obtain ⟨b1, b2⟩ := pls_lay h.2
    simp [D.pyA, PyData.canLayAll0, PyData.depthAll, a1, a2, b1, b2]
theorem shp_flat {l : List D} (h : l.all D.okp = true) : (D.lst l).shp = true := by
  obtain ⟨b1, b2⟩ := pls_lay h
  show ((D.lst l).py.canLay0 && decide ((D.lst l).py.depth ≤ 64)) = true
  have e1 : (D.lst l).py.canLay0 = true := by show PyData.canLay0 (.list (D.pyA l)) = true; simpa [PyData.canLay0] using b1
  have e2 : (D.lst l).py.depth ≤ 64 := by show PyData.depth (.list (D.pyA l)) ≤ 64; simp [PyData.depth, b2]
  rw [e1, decide_eq_true e2]
  rfl
theorem pl_ints (a : List Int) : (a.map D.int).all D.okp = true := by simp [D.okp, D.pl]
theorem eqvA_ints : ∀ a b : List Int, D.eqvA (a.map D.int) (b.map D.int) = (a == b)
  | [], [] => rfl
  | [], _ :: _ => rfl
  | _ :: _, [] => rfl
  | x :: a, y :: b => by
    show (D.eqv (.int x) (.int y) && D.eqvA (a.map D.int) (b.map D.int)) = _
    rw [eqvA_ints a b]
    rfl
theorem dr_neL (a b : List Int) : neqD (.lst (a.map D.int)) (.lst (b.map D.int)) = some (.bl (!(a == b))) := by
  have : neOk (.lst (a.map D.int)) (.lst (b.map D.int)) = true := by simp [neOk, shp_flat (pl_ints a), shp_flat (pl_ints b)]
  unfold neqD
  rw [if_pos this]
  show some (D.bl (!D.eqvA _ _)) = _
  rw [eqvA_ints]
/-- one turn of a comprehension that takes its item -/
theorem lcL_go {tg : TD} {tt : ZT} {el : ZM} {vs : List Nat} {t : Nat} {x : D} {xs : List D} {g g1 g2 g3 g4 g5 : G} {r : R} {d : D} {acc : List D} {o : Option G} (h0 : freeAll g vs = true) (h1 : tg x (wipeG g vs) = some g1) (h2 : tt g1 = some (true, g2)) (h3 : el g2 = some (r, g3)) (h4 : frzR r g3 = some (d, g4)) (h5 : g4[t]? = some (.own (.lst acc) false false)) (hz : acc.length < sizeLine)
    (hg : (g4.set t (.own (.lst (acc ++ [d])) false false)).take (t + 1) = g5) (k : lcL tg tt el vs t xs g5 = o) : lcL tg tt el vs t (x :: xs) g = o := by
  simp only [lcL, h0, h1, h2, h3, h4, h5, hz, hg, if_true, Option.bind_eq_bind, Option.bind_some]
  exact k
theorem lcL_no {tg : TD} {tt : ZT} {el : ZM} {vs : List Nat} {t : Nat} {x : D} {xs : List D} {g g1 g2 g5 : G} {o : Option G} (h0 : freeAll g vs = true) (h1 : tg x (wipeG g vs) = some g1) (h2 : tt g1 = some (false, g2)) (hg : g2.take (t + 1) = g5) (k : lcL tg tt el vs t xs g5 = o) : lcL tg tt el vs t (x :: xs) g = o := by
  simp only [lcL, h0, h1, h2, hg, if_true, Option.bind_eq_bind, Option.bind_some]
  exact k
theorem lcL_end {tg : TD} {tt : ZT} {el : ZM} {vs : List Nat} {t : Nat} {g : G} (h0 : freeAll g vs = true) : lcL tg tt el vs t [] g = some g := by
  simp only [lcL, h0, if_true]
/-- by an invariant -/
theorem lcL_inv {tg : TD} {tt : ZT} {el : ZM} {vs : List Nat} {t : Nat} : ∀ {L : List D} (I : Nat → G → Prop) (k : Nat) (g : G), I k g → (∀ i g, I i g → freeAll g vs = true) →
    (∀ i x g, L[i]? = some x → I (k + i) g → ∃ g5, I (k + i + 1) g5 ∧ ∀ (xs : List D) (o : Option G), lcL tg tt el vs t xs g5 = o → lcL tg tt el vs t (x :: xs) g = o) → ∃ g2, lcL tg tt el vs t L g = some g2 ∧ I (k + L.length) g2
  | [], I, k, g, h0, hf, _ => ⟨g, lcL_end (hf k g h0), h0⟩
  | x :: L, I, k, g, h0, hf, h => by
    obtain ⟨g5, h1, h2⟩ := h 0 x g rfl h0
    obtain ⟨g2, e, i2⟩ := lcL_inv (L := L) I (k + 1) g5 h1 hf fun i x' g' hx hi => by
      have := h (i + 1) x' g' (by simpa using hx) (by rw [show k + (i + 1) = k + 1 + i by omega]; exact hi)
      rw [show k + (i + 1) = k + 1 + i by omega] at this
      exact this
    exact ⟨g2, h2 L _ e, by rw [show k + (x :: L).length = k + 1 + L.length by simp; omega]; exact i2⟩
theorem er_lc {mi : MI} {tg : TD} {tt : ZT} {el : ZM} {vs : List Nat} {g g1 g3 g4 : G} {L : List D} (h1 : mi g = some (L, none, g1)) (h2 : lcL tg tt el vs g1.length L (g1 ++ [Sl.own (.lst []) false false]) = some g3) (hg : wipeG g3 vs = g4) : zLc mi tg tt el vs g = some (.bor g1.length, g4) := by
  unfold zLc
  simp only [h1, h2, hg, Option.bind_eq_bind, Option.bind_some]
theorem er_orTF {s t : ZT} {g g1 g2 : G} {b1 b2 : Bool} (h1 : s g = some (b1, g1)) (hb : b1 = false) (h2 : t g1 = some (b2, g2)) : zOrT s t g = some (b2, g2) := by
  subst hb
  unfold zOrT; simp only [h1, Option.bind_eq_bind, Option.bind_some]
  rw [if_neg Bool.false_ne_true]
  exact h2
theorem er_andTT {s t : ZT} {g g1 g2 : G} {b1 b2 : Bool} (h1 : s g = some (b1, g1)) (hb : b1 = true) (h2 : t g1 = some (b2, g2)) : zAndT s t g = some (b2, g2) := by
  subst hb
  unfold zAndT; simp only [h1, Option.bind_eq_bind, Option.bind_some, if_true]
  exact h2
theorem sr_bk {β : Type} {kk : Option (Fl × G) → β} {OUT : β} {rest : SM} {g : G} (k : ap kk (some (.bk, g)) = OUT) : ap kk (zSeq zBk rest g) = OUT := k
end Z
set_option Elab.async false
set_option linter.all false
set_option maxRecDepth 100000
set_option maxHeartbeats 4000000
namespace Z
open PySem PySem.Spec PyProof.Rows L2
end Z
set_option Elab.async false
set_option linter.all false
set_option maxRecDepth 100000
set_option maxHeartbeats 4000000
namespace Z
open PySem PySem.Spec PyProof.Rows L2
def zFg (vs : List Nat) (s : SM) : SM := fun g => do
  let (fl, g1) ← s g
  match fl with
  | .ret r => some (.ret r, g1)
  | fl => if freeAll g1 vs = true then some (fl, wipeG g1 vs) else none
def zFgB (vs : List Nat) (s : SM) : SM := fun g => if freeAll g vs = true then s (wipeG g vs) else none
section
variable {X : Cx} {st : Stmt} {sts : List Stmt} {s : SM} {vs : List Nat}
theorem fg_of {D : Ends} {σ : L2.St} {H : Hp} {K : PySem.W.Frag} {n : Nat} (h : tZS K n (zFg vs s) D σ H) : tZS K n s D σ H := by
  obtain ⟨C, Hs, A, g, fl, g', hK, hn, ok, e, q⟩ := h
  unfold zFg at e
  simp only [Option.bind_eq_bind, Option.bind_eq_some_iff] at e
  obtain ⟨⟨fl1, g1⟩, h1, e⟩ := e
  refine ⟨C, Hs, A, g, fl1, g1, hK, hn, ok, h1, ?_⟩
  cases fl1 with
  | ret r => cases e; exact q
  | nx =>
    simp only at e
    split at e
    · rename_i hf; cases e; exact fun Hs' A' σ' H' s1 ok1 => q Hs' A' σ' H' s1 (ok1.puts hf rfl (fun _ _ => rfl))
    · cases e
  | bk =>
    simp only at e
    split at e
    · rename_i hf; cases e; exact fun Hs' A' σ' H' s1 ok1 => q Hs' A' σ' H' s1 (ok1.puts hf rfl (fun _ _ => rfl))
    · cases e
  | ct =>
    simp only at e
    split at e
    · rename_i hf; cases e; exact fun Hs' A' σ' H' s1 ok1 => q Hs' A' σ' H' s1 (ok1.puts hf rfl (fun _ _ => rfl))
    · cases e
theorem fgB_of {D : Ends} {σ : L2.St} {H : Hp} {K : PySem.W.Frag} {n : Nat} (h : tZS K n (zFgB vs s) D σ H) : tZS K n s D σ H := by
  obtain ⟨C, Hs, A, g, fl, g', hK, hn, ok, e, q⟩ := h
  unfold zFgB at e
  split at e
  · rename_i hf
    exact ⟨C, Hs, A, wipeG g vs, fl, g', hK, hn, ok.puts hf rfl (fun _ _ => rfl), e, q⟩
  · cases e
theorem zss_fg (h : ZSs X sts s) : ZSs X sts (zFg vs s) := PSs.of h fun D σ H h => fg_of h
theorem zs_fgB (h : ZS X st s) : ZS X st (zFgB vs s) := PS.of h fun D σ H h => fgB_of h
end
section
variable {g g1 g2 : G} {st s rest : SM} {r : R} {vs : List Nat}
theorem fg_nx (h : s g = some (.nx, g1)) (hf : freeAll g1 vs = true) (hg : wipeG g1 vs = g2) : zFg vs s g = some (.nx, g2) := by
  unfold zFg; simp only [h, hf, hg, if_true, Option.bind_eq_bind, Option.bind_some]
/-- what follows a forgetting, told as one's end -/
def fgK {β : Type} (vs : List Nat) (kk : Option (Fl × G) → β) : Option (Fl × G) → β := fun o => kk (o.bind fun q => match q.1 with
  | .ret r => some (.ret r, q.2)
  | fl => if freeAll q.2 vs = true then some (fl, wipeG q.2 vs) else none)
theorem ap_fg {β : Type} {kk : Option (Fl × G) → β} {OUT : β} (k : ap (fgK vs kk) (s g) = OUT) : ap kk (zFg vs s g) = OUT := by
  have e : zFg vs s g = (s g).bind fun q => match q.1 with
    | .ret r => some (.ret r, q.2)
    | fl => if freeAll q.2 vs = true then some (fl, wipeG q.2 vs) else none := by
    unfold zFg
    cases s g with
    | none => rfl
    | some q => rfl
  rw [e]; exact k
theorem fgK_nx {β : Type} {kk : Option (Fl × G) → β} {OUT : β} (hf : freeAll g vs = true) (hg : wipeG g vs = g2) (k : kk (some (.nx, g2)) = OUT) : ap (fgK vs kk) (some (.nx, g)) = OUT := by
  show kk (if freeAll g vs = true then some (.nx, wipeG g vs) else none) = OUT
  rw [if_pos hf, hg]; exact k
theorem fgK_ct {β : Type} {kk : Option (Fl × G) → β} {OUT : β} (hf : freeAll g vs = true) (hg : wipeG g vs = g2) (k : kk (some (.ct, g2)) = OUT) : ap (fgK vs kk) (some (.ct, g)) = OUT := by
  show kk (if freeAll g vs = true then some (.ct, wipeG g vs) else none) = OUT
  rw [if_pos hf, hg]; exact k
theorem fgK_bk {β : Type} {kk : Option (Fl × G) → β} {OUT : β} (hf : freeAll g vs = true) (hg : wipeG g vs = g2) (k : kk (some (.bk, g2)) = OUT) : ap (fgK vs kk) (some (.bk, g)) = OUT := by
  show kk (if freeAll g vs = true then some (.bk, wipeG g vs) else none) = OUT
  rw [if_pos hf, hg]; exact k
theorem fgK_ret {β : Type} {kk : Option (Fl × G) → β} {OUT : β} (k : kk (some (.ret r, g)) = OUT) : ap (fgK vs kk) (some (.ret r, g)) = OUT := k
theorem fgB_run (hf : freeAll g vs = true) (hg : wipeG g vs = g1) {o : Option (Fl × G)} (h : s g1 = o) : zFgB vs s g = o := by
  unfold zFgB; rw [if_pos hf, hg]; exact h
theorem sr_ct {β : Type} {kk : Option (Fl × G) → β} {OUT : β} {rest : SM} {g : G} (k : ap kk (some (.ct, g)) = OUT) : ap kk (zSeq zCt rest g) = OUT := k
theorem sr_bk1 {β : Type} {kk : Option (Fl × G) → β} {OUT : β} {g : G} (k : ap kk (some (.bk, g)) = OUT) : ap kk (zBk g) = OUT := k
theorem sr_ct1 {β : Type} {kk : Option (Fl × G) → β} {OUT : β} {g : G} (k : ap kk (some (.ct, g)) = OUT) : ap kk (zCt g) = OUT := k
theorem sr_nx1 {β : Type} {kk : Option (Fl × G) → β} {OUT : β} {g : G} (k : ap kk (some (.nx, g)) = OUT) : ap kk (zNx g) = OUT := k
theorem wipeG_nil (g : G) : wipeG g [] = g := rfl
theorem wipeG_cons (g : G) (v : Nat) (vs : List Nat) : wipeG g (v :: vs) = (wipeG g vs).set v .un := rfl
theorem er_andVT {ma mb : ZM} {g3 : G} {b1 b2 : Bool} (h1 : ma g = some (.dat (.bl b1), g1)) (hb : b1 = true) (h2 : mb g1 = some (.dat (.bl b2), g3)) : zAndV ma mb g = some (.dat (.bl b2), g3) := by
  subst hb
  unfold zAndV; simp only [h1, isB, h2, if_true, Option.bind_eq_bind, Option.bind_some]
theorem er_andVF {ma mb : ZM} {b1 : Bool} (h1 : ma g = some (.dat (.bl b1), g1)) (hb : b1 = false) : zAndV ma mb g = some (.dat (.bl false), g1) := by
  subst hb
  unfold zAndV; simp only [h1, isB, Option.bind_eq_bind, Option.bind_some]
  rfl
theorem er_orVF {ma mb : ZM} {g3 : G} {b1 b2 : Bool} (h1 : ma g = some (.dat (.bl b1), g1)) (hb : b1 = false) (h2 : mb g1 = some (.dat (.bl b2), g3)) : zOrV ma mb g = some (.dat (.bl b2), g3) := by
  subst hb
  unfold zOrV; simp only [h1, isB, Option.bind_eq_bind, Option.bind_some]
  rw [if_neg Bool.false_ne_true]
  exact h2
/-- a call that hands out data with references within: what was handed in becomes data -/
theorem er_callGF {f : List D → Option FR} {mr : ZAr} {rs : List R} {ds : List D} {d : D} (h1 : mr g = some (rs, g1)) (h2 : rdAll g1 rs = some ds) (h2' : frzAll rs g1 = some (ds, g2)) (h3 : f ds = some (.dat d)) (hs : d.scal = false) : zCall f mr g = some (.dat d, g2) := by
  unfold zCall; simp only [h1, h2, h2', h3, hs, Option.bind_eq_bind, Option.bind_some]
  rfl
theorem er_callHF {f : List D → Option FR} {mr : ZAr} {rs : List R} {ds : List D} {c : Cn} (h1 : mr g = some (rs, g1)) (h2 : rdAll g1 rs = some ds) (h2' : frzAll rs g1 = some (ds, g2)) (h3 : f ds = some (.new c)) (hs : c.scal = false) : zCall f mr g = some (.bor g2.length, g2 ++ [.own c false false]) := by
  unfold zCall; simp only [h1, h2, h2', h3, hs, Option.bind_eq_bind, Option.bind_some]
  rfl
theorem er_orTt {s t : ZT} {b : Bool} (h1 : s g = some (b, g1)) (hb : b = true) : zOrT s t g = some (true, g1) := by
  subst hb
  unfold zOrT; simp only [h1, Option.bind_eq_bind, Option.bind_some, if_true]
/-- what an item does: b whether it is taken, f what it becomes; base the slots without the new list -/
structure LcItem (tg : TD) (tt : ZT) (el : ZM) (vs : List Nat) (t : Nat) (base : G) (x : D) (b : Bool) (y : D) : Prop where
  run : ∀ acc : List D, ∃ h : G, h.length = t ∧ freeAll (h ++ [.own (.lst acc) false false]) vs = true ∧ (∀ o : Sl, wipeG (h ++ [o]) vs = base ++ [o]) ∧ (∀ o : Sl, freeAll (h ++ [o]) vs = true) ∧ tg x (base ++ [.own (.lst acc) false false]) = some (h ++ [.own (.lst acc) false false]) ∧
    tt (h ++ [.own (.lst acc) false false]) = some (b, h ++ [.own (.lst acc) false false]) ∧
    (b = true → ∃ r g3 g4, el (h ++ [.own (.lst acc) false false]) = some (r, g3) ∧ frzR r g3 = some (y, g4) ∧ g4[t]? = some (.own (.lst acc) false false) ∧ ∀ o : Sl, (g4.set t o).take (t + 1) = h ++ [o])
theorem lcL_fm {tg : TD} {tt : ZT} {el : ZM} {vs : List Nat} {t : Nat} {base : G} {b : D → Bool} {f : D → D} : ∀ {L : List D} (acc : List D) (h : G), h.length = t → (∀ o : Sl, wipeG (h ++ [o]) vs = base ++ [o]) → (∀ o : Sl, freeAll (h ++ [o]) vs = true) → acc.length + L.length ≤ sizeLine → (∀ x ∈ L, LcItem tg tt el vs t base x (b x) (f x)) →
    ∃ g3, lcL tg tt el vs t L (h ++ [.own (.lst acc) false false]) = some g3 ∧ wipeG g3 vs = base ++ [.own (.lst (acc ++ (L.filter b).map f)) false false]
  | [], acc, h, hl, hw, hf, _, _ => ⟨_, lcL_end (hf _), by rw [hw]; simp⟩
  | x :: L, acc, h, hl, hw, hf, hz, hx => by
    obtain ⟨h', q1, q2, q3, q4, q5, q6, q7⟩ := (hx x List.mem_cons_self).run acc
    have hx' : ∀ x ∈ L, LcItem tg tt el vs t base x (b x) (f x) := fun x h => hx x (List.mem_cons_of_mem _ h)
    simp only [List.length_cons] at hz
    cases hb : b x with
    | true =>
      obtain ⟨r, g3, g4, w1, w2, w3, w4⟩ := q7 hb
      obtain ⟨g5, x1, x2⟩ := lcL_fm (L := L) (acc ++ [f x]) h' q1 q3 q4 (by simp; omega) hx'
      refine ⟨g5, lcL_go (hf _) (by rw [hw]; exact q5) (by rw [q6, hb]) w1 w2 w3 (by omega) (w4 _) x1, ?_⟩
      rw [x2, List.filter_cons, hb, if_pos rfl]
      simp
    | false =>
      obtain ⟨g5, x1, x2⟩ := lcL_fm (L := L) acc h' q1 q3 q4 (by omega) hx'
      refine ⟨g5, lcL_no (hf _) (by rw [hw]; exact q5) (by rw [q6, hb]) (by rw [List.take_of_length_le (by simp [q1])]) x1, ?_⟩
      rw [x2, List.filter_cons, hb, if_neg Bool.false_ne_true]
/-- an item whose value is data -/
theorem lc_dat {tg : TD} {tt : ZT} {el : ZM} {vs : List Nat} {t : Nat} {base h : G} {x : D} {b : Bool} {y : D} (hl : h.length = t) (hw : ∀ o : Sl, wipeG (h ++ [o]) vs = base ++ [o]) (hf : ∀ o : Sl, freeAll (h ++ [o]) vs = true) (h1 : ∀ o : Sl, tg x (base ++ [o]) = some (h ++ [o])) (h2 : ∀ o : Sl, tt (h ++ [o]) = some (b, h ++ [o]))
    (h3 : b = true → ∀ o : Sl, el (h ++ [o]) = some (.dat y, h ++ [o])) : LcItem tg tt el vs t base x b y :=
  ⟨fun acc => ⟨h, hl, hf _, hw, hf, h1 _, h2 _, fun hb => ⟨_, _, _, h3 hb _, rfl, by rw [← hl]; simp, fun o => by rw [← hl, List.set_append_right _ _ (Nat.le_refl _)]; simp [List.take_of_length_le]⟩⟩⟩
theorem er_lc1 {mi : MI} {tg : TD} {tt : ZT} {el : ZM} {vs : List Nat} {g : G} {L : List D} {base h : G} {b : D → Bool} {f : D → D} (h1 : mi g = some (L, none, h)) (hw : ∀ o : Sl, wipeG (h ++ [o]) vs = base ++ [o]) (hf : ∀ o : Sl, freeAll (h ++ [o]) vs = true) (hz : L.length ≤ sizeLine) (hx : ∀ x ∈ L, LcItem tg tt el vs h.length base x (b x) (f x)) :
    zLc mi tg tt el vs g = some (.bor h.length, base ++ [.own (.lst ((L.filter b).map f)) false false]) := by
  obtain ⟨g3, x1, x2⟩ := lcL_fm (L := L) [] h rfl hw hf (by simpa using hz) hx
  rw [List.nil_append] at x2
  exact er_lc h1 x1 x2
theorem er_lcO {mi : MI} {tg : TD} {tt : ZT} {el : ZM} {vs : List Nat} {g g1 : G} {L : List D} {base h : G} {b : D → Bool} {f : D → D} {j : Nat} {c : Cn} {p l : Bool} (h1 : mi g = some (L, some j, g1)) (hj : g1[j]? = some (.own c p l)) (hh : g1.set j (.own c p true) = h) (hw : ∀ o : Sl, wipeG (h ++ [o]) vs = base ++ [o]) (hf : ∀ o : Sl, freeAll (h ++ [o]) vs = true) (hz : L.length ≤ sizeLine) (hx : ∀ x ∈ L, LcItem tg tt el vs h.length base x (b x) (f x)) :
    zLc mi tg tt el vs g = some (.bor h.length, unlk j l (base ++ [.own (.lst ((L.filter b).map f)) false false])) := by
  have hjl := (List.getElem?_eq_some_iff.mp hj).1
  obtain ⟨g3, x1, x2⟩ := lcL_fm (L := L) [] h rfl hw hf (by simpa using hz) hx
  rw [List.nil_append] at x2
  unfold zLc
  have e : (g1 ++ [Sl.own (.lst []) false false]).set j (.own c p true) = h ++ [Sl.own (.lst []) false false] := by
    rw [List.set_append, if_pos hjl, hh]
  have el : g1.length = h.length := by rw [← hh, List.length_set]
  simp only [h1, hj, Option.bind_eq_bind, Option.bind_some]
  rw [e, el, x1]
  simp only [Option.bind_some, x2]
end
theorem inL_ints (n : Int) : ∀ R : List Int, inL (.int n) (R.map D.int) = decide (n ∈ R)
  | [] => rfl
  | z :: R => by
    have := inL_ints n R
    unfold inL at this ⊢
    rw [List.map_cons, List.any_cons, this]
    show ((z == n) || _) = _
    by_cases h : z = n
    · subst h; simp
    · have : ¬ n = z := fun e => h e.symm
      simp [h, this]
theorem in_ints (n : Int) (R : List Int) : inD (.int n) (.lst (R.map D.int)) = some (.bl (decide (n ∈ R))) := by
  unfold inD
  show Option.map D.bl (if _ then _ else _) = _
  rw [if_pos (by simp [D.pl]), inL_ints]
  rfl
end Z
set_option Elab.async false
set_option linter.all false
set_option maxRecDepth 100000
set_option maxHeartbeats 4000000
namespace Z
open PySem PySem.Spec PyProof.Rows L2
structure FnA (P : Program) (w : World) (K : PySem.W.Frag) (mg : Str → Option Value) (base : Heap) (A : Around) (f : Addr) (fd : FuncData) (ps : List Str) (sp : Sp) : Prop where
  run : ∀ (out : List Env) (s : Shared) (H : Hp) (ar : Args) (us : List Value) (vs : List V) (Q : VK) (E : XK), Env0 P w K mg base A out s H → BindsTo s fd ar (ps.zip us) → Vals vs us → sp vs H Q E →
    codeAny (model P w) A (.call (.ref f) ar) (CR CX0 out P w H s Q E) s
section
variable {P : Program} {w : World} {K : PySem.W.Frag} {mg : Str → Option Value} {base : Heap}
/-- the reading of a body by runP, wherever it is called -/
theorem runP_reads {N ps : List Str} {s : SM} {vs : List V} {H : Hp} {Q : VK} {E : XK} (hp : ps.length ≤ N.length) (hs : spP K (runP N.length ps.length s) vs H Q E) : tZS K N.length s { nx := fun _ H' => Q .non H', rt := Q } (L2.start N vs) H ∧ vs.length = ps.length := by
  obtain ⟨Hs, ds, fr, sm, hz, e, q⟩ := hs
  unfold runP at e
  split at e
  · rename_i hl
    have hd : ds.length ≤ N.length := by omega
    refine ⟨?_, by rw [hz.length]; exact hl⟩
    split at e
    · rename_i r g' hr
      refine ⟨_, Hs, _, start0 N.length ds, .ret r, g', rfl, rfl, ok_start hd sm hz, hr, ?_⟩
      exact fun Hs' A' σ' H' v s1 ok1 rel1 => q v Hs' H' s1 (fun b o e => ok1.keep b o e (fun _ h => (List.not_mem_nil h).elim)) ok1.same ok1.grow (fin_ok ok1 rel1 e)
    · rename_i g' hr
      cases e
      refine ⟨_, Hs, _, start0 N.length ds, .nx, g', rfl, rfl, ok_start hd sm hz, hr, ?_⟩
      exact fun Hs' A' σ' H' s1 ok1 => q .non Hs' H' s1 (fun b o e => ok1.keep b o e (fun _ h => (List.not_mem_nil h).elim)) ok1.same ok1.grow .non
    · cases e
  · cases e
theorem okA {x qual : Str} {st : Stmt} {f : Addr} {fd : FuncData} {N ps : List Str} {k : Nat} {s : SM} {A : Around} (F : Fun K x qual st f fd) (S : FnScope N ps (defScope st)) (hA : Room (k + 1) A)
    (body : ∀ (cdv : Value) (out : List Env) (s0 : Shared) (H : Hp) (E : XK), Room k (A.deeper (envOfC qual (defScope st) s0.heap.objs.size f cdv)) → ZSs (cxOf CX0 P w K mg base N qual (defScope st) f cdv A out s0 H E).nox (defBody st) s) :
    FnA P w K mg base A f fd ps (spP K (runP N.length ps.length s)) := by
  obtain ⟨oc, od, kV, doc, pm, an, cdv, ct, osl, rfl, atf, hcode⟩ := F.ex
  have hpN : ps.length ≤ N.length := by
    have := congrArg List.length S.pre
    rw [List.length_take] at this
    omega
  constructor
  intro out s0 H ar us vs Q E e0 hbd rel hs
  obtain ⟨reads, lv⟩ := runP_reads hpN hs
  have inK : K.In s0.heap := e0.mod.kin.keeps fun c u z => (e0.bs c u z).1
  have noL : s0.heap.NoLimit := e0.mod.nolimit.keeps fun c u z => (e0.bs c u z).1
  have kinds : ∀ y ∈ ps.zip us, (defScope st).names.lookup y.1 = some .local ∨ ((defScope st).names.lookup y.1 = some .cell ∧ ((cellsFrom (s0.heap.objs.size + 1) (defScope st).names []).lookup y.1).isSome = true) := by
    rintro ⟨n, u⟩ hy
    exact (S.par n (List.of_mem_zip hy).1).imp id fun c => ⟨c, PySem.W.cellsFrom_some _ _ _ (.inl c)⟩
  apply codeAny_call_function hA.depth (inK _ _ atf) rfl S.co S.gen rfl (PySem.W.codeRec_of inK hcode)
  apply hbd
  apply wpAny_newFunctionEnv_cells S.kind kinds
  rintro env rfl s1 new
  refine ⟨noL.keeps new.toInCall.keep, ?_⟩
  apply codeAny_func
  have I0 : Inv (cxOf CX0 P w K mg base N qual (defScope st) f cdv A out s0 H E) [] (L2.start N vs) H s1 := inv_start S hA.hd e0 lv rel new
  have B := (body cdv out s0 H E (hA.deeper _)).nox
  apply wpAny_mono (B.run [] s1 (L2.start N vs) H _ I0 reads)
  · intro fl s2 hfl
    cases fl with
    | ret u =>
      obtain ⟨v, σ2, H2, J, rv, q⟩ := hfl
      exact ⟨v, H2, J.os, J.bare, J.base, J.hok, rv, q⟩
    | next =>
      obtain ⟨σ2, H2, J, q⟩ := hfl
      exact ⟨V.non, H2, J.os, J.bare, J.base, J.hok, rfl, q⟩
    | brk => obtain ⟨_, _, _, q⟩ := hfl; cases q
    | cont => obtain ⟨_, _, _, q⟩ := hfl; cases q
  · exact fun e s2 z => z
end
theorem law_callA {P : Program} {w : World} {K : PySem.W.Frag} {mg mb : Str → Option Value} {fa a : Addr} {fd : FuncData} {x : Str} {f : List D → Option FR} {s1 : Shared} {vs : List Value} {ns : List Int}
    (kin : K.In s1.heap) (gns : s1.heap.Ns mainGlobals mg) (bns : s1.heap.Ns builtinsNs mb) (bbo : ∀ y : Str, y ≠ "__name__" → mb y = bootBuiltins y) (nol : s1.heap.NoLimit) (gens : s1.gens = #[])
    (obj : s1.heap.get? a = some { cls := .type "list", data := .seq vs.toArray }) (hint : IntsAre vs ns) (small : ns.length ≤ sizeLine)
    (nod : s1.heap.NoDigits) (F : ∀ base : Heap, K.In base → base.Ns mainGlobals mg → base.NoDigits → FnA P w K mg base callerA fa fd [x] (spP K f)) (bnd : ∀ (s : Shared) (u : Value), BindsTo s fd ⟨[u], []⟩ [(x, u)])
    (good : f [scriptD ns] = some (.dat (.bl true))) :
    codeAny (model P w) callerA (.call (.ref fa) ⟨[.ref a], []⟩) (fun r s2 => r = .ok (.ret (.bool true)) ∧ OldK s1.heap s2.heap ∧ s2.os = s1.os ∧ AllBare s2.gens) s1 := by
  have relV := vals_ints hint
  -- the heap that is known: nothing, or the script
  obtain ⟨H, only, seq, hok, atA, notK⟩ : ∃ H : Hp, Only H ∧ SqL K H a (ns.map V.int) ∧ HOk P w H s1.heap ∧ (∀ b, H b ≠ none → b = a) ∧ (H a ≠ none → K.lookup a = none) := by
    cases look : K.lookup a with
    | some o =>
      have same := kin a o look
      rw [obj] at same
      cases same
      exact ⟨fun _ => none, fun _ => .inl rfl, .inr ⟨_, vs.toArray, _, look, rfl, rfl, rfl, by rw [List.size_toArray, hint.length]; exact small, by simpa using relV⟩, fun b u z => by simp at z, fun b z => absurd rfl z, fun z => absurd rfl z⟩
    | none =>
      refine ⟨upd (fun _ => none) a (.frz { cls := .type "list", data := .seq vs.toArray } (.lst (ns.map V.int))), fun b => ?_, .inl (.inr ⟨_, upd_same⟩), fun b u z => ?_, fun b z => ?_, fun _ => rfl⟩
      · by_cases e : b = a
        · subst e; exact .inr ⟨_, _, upd_same⟩
        · exact .inl (upd_ne e)
      · by_cases e : b = a
        · subst e
          rw [upd_same] at z
          cases z
          exact ⟨obj, by rw [List.length_map]; exact small, vs, _, relV, obj⟩
        · rw [upd_ne e] at z; cases z
      · by_cases e : b = a
        · exact e
        · exact absurd (upd_ne e) z
  have stays : ∀ {b : Addr} {m : Str → Option Value}, s1.heap.Ns b m → (hidT s1.heap H).Ns b m := by
    rintro b m ⟨o, es, ep, e, d, r⟩
    refine ⟨o, es, ep, hidT_get e ?_, d, r⟩
    cases q : H b with
    | none => rfl
    | some u =>
      have := atA b (by simp [q])
      subst this
      rw [obj] at e
      cases e
      cases d
  have kin0 : K.In (hidT s1.heap H) := by
    intro b o e
    refine hidT_get (kin b o e) ?_
    cases q : H b with
    | none => rfl
    | some u =>
      have := atA b (by simp [q])
      subst this
      rw [notK (by simp [q])] at e
      cases e
  obtain ⟨ml, l1, l2⟩ := nol
  have env : Env0 P w K mg (hidT s1.heap H) callerA [] s1 H :=
    ⟨rfl, ⟨kin0, stays gns, ⟨mb, stays bns, bbo⟩, ⟨ml, stays l1, l2⟩⟩, fun b o e => of_hidT e, Nat.le_of_eq (hidT_size _ _), trivial, fun b hb => absurd (show b ∈ ([] : List Addr) from hb) List.not_mem_nil, hok, .of_eq gens⟩
  obtain ⟨md, d1, d2⟩ := nod
  have ran := (F _ kin0 (stays gns) ⟨md, stays d1, d2⟩).run [] s1 H ⟨[.ref a], []⟩ [.ref a] [.ref a] _ _ env (bnd s1 (.ref a)) (.cons rfl .nil) (law_sp seq good)
  apply codeAny_mono ran
  intro r s2 end2
  match r, end2 with
  | .ok (.ret u), end2 =>
    obtain ⟨v, H2, os, bare, un, hok2, rv, q⟩ := end2
    have ev : v = .bl true := q
    subst ev
    have eu : u = Value.bool true := rv
    subst eu
    refine ⟨rfl, OldK.of_keep ?_, os, bare⟩
    intro b o e
    rcases only b with z | ⟨ob, xs, z⟩
    · exact un.keep b o e z (fun y => absurd (show b ∈ ([] : List Addr) from y) List.not_mem_nil) List.not_mem_nil
    · obtain ⟨e1, _⟩ := hok b _ z
      obtain ⟨e2, _⟩ := hok2 b _ (un.frzs b ob _ z)
      rw [e] at e1
      cases e1
      exact e2
  | .ok .next, z => exact z.elim
  | .ok .brk, z => exact z.elim
  | .ok .cont, z => exact z.elim
  | .error e, z => exact z.elim
theorem walk_ofA {l : PySem.W.OpenLaw} {n : Nat} {q : Program} {loose : List Str} {XP : (Str → Option Value) → Heap → Prop} {YP : World → Heap → Prop} {d : DefRec} {K : Params → PySem.W.Frag} {f : List D → Option FR} {x : Str}
    (most : l.most = some n) (small : n ≤ sizeLine) (plain : d.params.defaults = []) (hY : ∀ (w : World) (h : Heap), YP w h → (K w.params).In h)
    (F : ∀ (w : World) (mg : Str → Option Value) (fa : Addr) (h : Heap), (K w.params).In h → h.Ns mainGlobals mg → mg d.name = some (.ref fa) →
      ∃ fd : FuncData, (∀ (s : Shared) (u : Value), BindsTo s fd ⟨[u], []⟩ [(x, u)]) ∧ ∀ base : Heap, (K w.params).In base → base.Ns mainGlobals mg → base.NoDigits → FnA l.prog w (K w.params) mg base callerA fa fd [x] (spP (K w.params) f))
    (good : ∀ ns : List Int, ns.length ≤ n → f [scriptD ns] = some (.dat (.bl true))) :
    PySem.W.WalkO q loose XP YP l.row.toRowW d [] (fun f vs => PySem.call f vs) := by
  apply Att.attach_call most plain
  intro w s0 s1 mg mb fa o pm cd doc a vs ns Gr Y ho hd hcd hmg hobj hints hlen hg
  obtain ⟨fd, hb, hF⟩ := F w mg fa _ (hY w _ Y) Gr.T.g hmg
  exact law_callA (hY w _ Y) Gr.T.g Gr.T.b Gr.T.builtins Gr.T.nolimit hg hobj hints (Nat.le_trans hlen small) Gr.T.nodigits hF hb (good ns hlen)
def isRef : D → Bool
  | .lst _ => true
  | .tup _ => true
  | _ => false
end Z
section Mac
local macro_rules | `(tactic| walk_at "l") => `(tactic| first | (simp only [Z.wipeG_nil, Z.wipeG_cons, List.set_cons_succ, List.set_cons_zero, List.take_succ_cons, List.take_zero, List.take_nil, List.cons_append, List.nil_append, List.length_cons, List.length_nil, List.set_nil, List.getElem?_cons_zero, List.getElem?_cons_succ, Nat.zero_add, Nat.reduceAdd]; first | done | exact rfl) | exact rfl)
local macro_rules | `(tactic| walk_at "d") => `(tactic| first
  | with_reducible assumption
  | (with_reducible apply Z.dr_div) <;> decide
  | (with_reducible apply Z.dr_mod) <;> decide
  | (with_reducible apply Z.dr_mulr); decide
  | (with_reducible apply Z.dr_mull); decide
  | (with_reducible apply Z.dr_divB) <;> omega
  | (with_reducible apply Z.dr_mulrB) <;> omega
  | (with_reducible apply Z.dr_mullB) <;> omega
  | (with_reducible apply Z.dr_mulC) <;> omega
  | (with_reducible apply Z.dr_mod) <;> omega
  | (with_reducible refine Z.isi_of ?_ ?_); (exact rfl); (first | exact Z.kb_int_int | exact Z.kb_int_bool | exact Z.kb_bool_bool | exact Z.kb_bool_int | exact Z.kb_str_int | exact Z.kb_str_bool | exact Z.kb_str_str | exact Z.kb_int_str | exact Z.kb_bool_str | exact Z.kb_non_int | exact Z.kb_non_bool | exact Z.kb_non_str | exact Z.kb_list_list | exact Z.kb_tuple_tuple | exact Z.kb_list_tuple | exact Z.kb_tuple_list)
  | with_reducible exact Z.dr_abs
  | (with_reducible exact Z.dr_neL _ _)
  | (simp only [Z.Cn.d]; with_reducible assumption)
  | (simp only [Z.Cn.d]; with_reducible exact Z.dr_neL _ _)
  | with_reducible exact Z.in_ints _ _
  | (simp only [Z.Cn.d]; with_reducible exact Z.in_ints _ _)
  | ((with_reducible apply Z.dr_cat); (try simp only [List.length_append, List.length_cons, List.length_nil]); omega)
  | with_reducible exact Z.dr_eqI
  | with_reducible exact Z.dr_eqB
  | with_reducible exact Z.dr_neB
  | with_reducible exact Z.dr_eqS
  | with_reducible exact Z.dr_neI
  | with_reducible exact Z.dr_neS
  | exact rfl)
local macro_rules | `(tactic| walk_at "c") => `(tactic| first | with_reducible assumption | (simp only [Z.Cn.d]; with_reducible assumption))
local macro_rules | `(tactic| walk_at "e") => `(tactic| first
  | with_reducible exact Z.er_C
  | with_reducible exact Z.er_nil
  | (with_reducible apply Z.er_varD); exact rfl
  | (with_reducible apply Z.er_varO); exact rfl
  | (with_reducible apply Z.er_varF); exact rfl
  | (with_reducible apply Z.er_op); walk_at "e"; walk_at "e"; exact rfl; exact rfl; walk_at "d"; exact rfl
  | (with_reducible apply Z.er_chain); walk_at "e"; walk_at "e"; exact rfl; exact rfl; walk_at "d"; (intro _h; walk_at "e"); exact rfl; walk_at "d"
  | (with_reducible apply Z.er_slS); walk_at "e"; walk_at "o"; walk_at "o"; exact rfl; walk_at "z"
  | (with_reducible apply Z.er_slL); walk_at "e"; walk_at "o"; walk_at "o"; exact rfl
  | (with_reducible apply Z.er_list); walk_at "e"; exact rfl; exact rfl
  | (with_reducible apply Z.er_tupL); walk_at "e"; exact rfl
  | (with_reducible apply Z.er_un); walk_at "e"; exact rfl; exact rfl; exact rfl
  | (with_reducible apply Z.er_tst); walk_at "e"
  | (with_reducible apply Z.er_tru); walk_at "e"; exact rfl; exact rfl
  | (with_reducible apply Z.er_andT); walk_at "e"; (intro _h; walk_at "e")
  | (with_reducible apply Z.er_orT); walk_at "e"; (intro _h; walk_at "e")
  | (with_reducible apply Z.er_andTT); walk_at "e"; exact rfl; walk_at "e"
  | (with_reducible apply Z.er_orTF); walk_at "e"; exact rfl; walk_at "e"
  | (with_reducible apply Z.er_notT); walk_at "e"
  | (with_reducible apply Z.er_andV); walk_at "e"; (intro _h; walk_at "e")
  | (with_reducible apply Z.er_orV); walk_at "e"; (intro _h; walk_at "e")
  | (with_reducible apply Z.er_notV); walk_at "e"
  | (with_reducible apply Z.er_andVT); walk_at "e"; exact rfl; walk_at "e"
  | (with_reducible apply Z.er_orVF); walk_at "e"; exact rfl; walk_at "e"
  | (with_reducible apply Z.er_ix); walk_at "e"; walk_at "e"; exact rfl; walk_at "x"
  | (with_reducible apply Z.er_callS); walk_at "e"; exact rfl; walk_at "d"; exact rfl
  | (with_reducible apply Z.er_cons); walk_at "e"; walk_at "e"
  | (with_reducible apply Z.er_callG); walk_at "e"; exact rfl; exact rfl; walk_at "c"; exact rfl
  | (with_reducible apply Z.er_callH); walk_at "e"; exact rfl; exact rfl; walk_at "c"; exact rfl
  | (with_reducible apply Z.er_callV); walk_at "e"; exact rfl; walk_at "c"; exact rfl
  | (with_reducible apply Z.er_callGF); walk_at "e"; exact rfl; exact rfl; walk_at "c"; exact rfl
  | (with_reducible apply Z.er_callHF); walk_at "e"; exact rfl; exact rfl; walk_at "c"; exact rfl
  | (with_reducible apply Z.er_callM); walk_at "e"; exact rfl; exact rfl; exact rfl; exact rfl; exact rfl; walk_at "c"; exact rfl
  | (with_reducible apply Z.er_catL); walk_at "e"; walk_at "e"; exact rfl; exact rfl; walk_at "z"
  | (with_reducible apply Z.er_mt); walk_at "e"; exact rfl; exact rfl; walk_at "e"; exact rfl; exact rfl; walk_at "m"; exact rfl
  | (with_reducible apply Z.er_tup); walk_at "e"; exact rfl; walk_at "z" 
  | (with_reducible apply Z.er_lst); walk_at "e"; exact rfl; walk_at "z")
local macro_rules | `(tactic| walk_at "o") => `(tactic| first | exact Z.er_zoN | ((with_reducible apply Z.er_zoS); walk_at "e"))
local macro_rules | `(tactic| walk_at "x") => `(tactic| first | with_reducible assumption | (simp only [Z.Cn.d]; with_reducible assumption) | exact rfl)
local macro_rules | `(tactic| walk_at "m") => `(tactic| first | with_reducible assumption | (simp only [Z.Cn.d]; with_reducible assumption) | exact rfl)
local macro_rules | `(tactic| walk_at "st") => `(tactic| first
  | ((with_reducible apply Z.set_dat); (walk_at "e"); (exact rfl); walk_at "l")
  | ((with_reducible apply Z.set_own); (walk_at "e"); (exact Nat.le_of_ble_eq_true rfl); (exact rfl); (exact rfl); walk_at "l")
  | ((with_reducible apply Z.asg_run); (walk_at "e"); (exact rfl); walk_at "l")
  | ((with_reducible apply Z.aug_run); (exact rfl); (exact rfl); (walk_at "e"); (exact rfl); (walk_at "d"); (exact rfl); (exact rfl); walk_at "l")
  | ((with_reducible apply Z.sto_run); (walk_at "e"); (walk_at "e"); (walk_at "e"); (exact rfl); (walk_at "x"); walk_at "l")
  | ((with_reducible apply Z.app_run); (walk_at "e"); (exact rfl); (walk_at "e"); (exact rfl); (exact rfl); (walk_at "z"); walk_at "l"))
local macro_rules | `(tactic| walk_at "z") => `(tactic| first | assumption | exact Nat.le_of_ble_eq_true rfl | (simp; omega))
local macro_rules | `(tactic| walk_at "s") => `(tactic| first
  | with_reducible apply Z.sr_nx
  | with_reducible apply Z.sr_assoc
  | with_reducible apply Z.ap_fg
  | ((with_reducible apply Z.fgK_nx); (exact rfl); (walk_at "l"); skip)
  | ((with_reducible apply Z.fgK_ct); (exact rfl); (walk_at "l"); skip)
  | ((with_reducible apply Z.fgK_bk); (exact rfl); (walk_at "l"); skip)
  | with_reducible apply Z.fgK_ret
  | with_reducible apply Z.sr_bk1
  | with_reducible apply Z.sr_ct1
  | with_reducible apply Z.sr_nx1
  | with_reducible apply Z.sr_ct
  | with_reducible apply Z.sr_bk
  | (with_reducible apply Z.sr_retS); (walk_at "e"); skip
  | (with_reducible apply Z.sr_ret); (walk_at "e"); skip
  | (with_reducible apply Z.sr_if); (walk_at "e"); (walk_at "l")
  | (with_reducible apply Z.sr_if1); (walk_at "e"); (walk_at "l")
  | (with_reducible apply Z.seq_nx); (walk_at "st")
  | (with_reducible apply Z.one_nx); (walk_at "st"))
local macro_rules | `(tactic| walk_at "r") => `(tactic| repeat' (first | (intro _) | walk_at "s"))
local macro_rules | `(tactic| walk_at "k") => `(tactic| (intro q; (try simp only [decide_eq_true_eq, decide_eq_false_iff_not, beq_iff_eq, beq_eq_false_iff_ne, ne_eq, Bool.not_eq_true', Bool.not_eq_false', Bool.and_eq_true, Bool.or_eq_true, Bool.and_eq_false_iff, Bool.or_eq_false_iff, Int.not_lt, Int.not_le, List.cons.injEq, and_true, reduceCtorEq, beq_self_eq_true, Bool.not_true, Bool.not_false, Bool.or_false, Bool.false_or, Bool.or_true, Bool.true_or, Bool.and_false, Bool.false_and, Bool.and_true, Bool.true_and, not_true_eq_false, Bool.false_eq_true] at q) <;> (try (exfalso; first | (cases q; done) | omega | contradiction))))
local macro_rules | `(tactic| walk_at "w") => `(tactic| repeat' (first | (walk_at "k") | walk_at "s"))
set_option Elab.async false
set_option linter.all false
set_option maxRecDepth 100000
set_option maxHeartbeats 4000000
namespace Z
open PySem PySem.Spec PyProof.Rows L2
mutual
def D.rok : D → Bool
  | .non => true
  | .bl _ => true
  | .int i => decide (i.natAbs < 10 ^ 60)
  | .str s => s.all fun c => decide (c < 1114112)
  | .raw _ => false
  | .dic _ _ => false
  | .obj _ _ _ => false
  | .tup l => D.rokA l
  | .lst l => D.rokA l
def D.rokA : List D → Bool
  | [] => true
  | d :: l => d.rok && D.rokA l
end
mutual
def D.wt : D → Nat
  | .str s => s.length
  | .int _ => 200
  | .tup l => D.wtA l
  | .lst l => D.wtA l
  | _ => 0
def D.wtA : List D → Nat
  | [] => 0
  | d :: l => d.wt + 1 + D.wtA l
end
mutual
def D.dp : D → Nat
  | .tup l => D.dpA l + 1
  | .lst l => D.dpA l + 1
  | _ => 0
def D.dpA : List D → Nat
  | [] => 0
  | d :: l => max d.dp (D.dpA l)
end
theorem big60 {i : Int} (h : i.natAbs < 10 ^ 60) : i.natAbs.log2 < 200 := by
  by_cases z : i.natAbs = 0
  · rw [z]; decide
  · rw [Nat.log2_lt z]
    exact Nat.lt_trans h (by decide)
mutual
theorem rok_lay : ∀ d : D, d.rok = true → d.py.canLay0 = true ∧ d.py.showable = true ∧ d.py.intsShort 61 = true ∧ d.py.depth = d.dp ∧ d.py.weight ≤ d.wt
  | .non, _ => ⟨rfl, rfl, rfl, rfl, Nat.le_refl _⟩
  | .bl _, _ => ⟨rfl, rfl, rfl, rfl, Nat.le_refl _⟩
  | .int i, h => by
    have h : i.natAbs < 10 ^ 60 := of_decide_eq_true h
    have l := big60 h
    refine ⟨rfl, decide_eq_true (by omega), decide_eq_true ?_, rfl, ?_⟩
    · have e := int_text_length_le10 (k := 60) (by decide) h
      show (Str.ofString (toString i)).length ≤ 61
      rw [PySem.ofString_length]
      exact e
    · show (if (i == 0) = true then 0 else i.natAbs.log2 + 1) ≤ 200
      split <;> omega
  | .str s, h => by
    have h : (s.all fun c => decide (c < 1114112)) = true := h
    refine ⟨?_, rfl, rfl, rfl, ?_⟩
    · show PyData.strOk ⟨s.toArray⟩ = true
      simpa [PyData.strOk] using h
    · show s.toArray.size ≤ s.length
      simp
  | .raw _, h => by cases h
  | .dic _ _, h => by cases h
  | .obj _ _ _, h => by cases h
  | .tup l, h => by
    obtain ⟨a, b, c, d, e⟩ := rok_layA l h
    exact ⟨a, b, c, by show PyData.depthAll _ + 1 = D.dpA l + 1; rw [d], e⟩
  | .lst l, h => by
    obtain ⟨a, b, c, d, e⟩ := rok_layA l h
    exact ⟨a, b, c, by show PyData.depthAll _ + 1 = D.dpA l + 1; rw [d], e⟩
theorem rok_layA : ∀ l : List D, D.rokA l = true → PyData.canLayAll0 (D.pyA l) = true ∧ PyData.showableAll (D.pyA l) = true ∧ PyData.intsShortAll 61 (D.pyA l) = true ∧ PyData.depthAll (D.pyA l) = D.dpA l ∧ PyData.weightAll (D.pyA l) ≤ D.wtA l
  | [], _ => ⟨rfl, rfl, rfl, rfl, Nat.le_refl _⟩
  | d :: l, h => by
    have h : (d.rok && D.rokA l) = true := h
    rw [Bool.and_eq_true] at h
    obtain ⟨a1, b1, c1, d1, e1⟩ := rok_lay d h.1
    obtain ⟨a2, b2, c2, d2, e2⟩ := rok_layA l h.2
    refine ⟨?_, ?_, ?_, ?_, ?_⟩
    · show (PyData.canLay0 d.py && PyData.canLayAll0 (D.pyA l)) = true
      rw [a1, a2]; rfl
    · show (PyData.showable d.py && PyData.showableAll (D.pyA l)) = true
      rw [b1, b2]; rfl
    · show (PyData.intsShort 61 d.py && PyData.intsShortAll 61 (D.pyA l)) = true
      rw [c1, c2]; rfl
    · show max (PyData.depth d.py) (PyData.depthAll (D.pyA l)) = max d.dp (D.dpA l)
      rw [d1, d2]
    · show PyData.weight d.py + 1 + PyData.weightAll (D.pyA l) ≤ d.wt + 1 + D.wtA l
      omega
end
theorem rok_shp {d : D} (h : d.rok = true) (h2 : d.dp ≤ 60) : d.shp = true := by
  obtain ⟨a, _, _, e, _⟩ := rok_lay d h
  show (d.py.canLay0 && decide (d.py.depth ≤ 64)) = true
  rw [a, e, decide_eq_true (by omega)]
  rfl
/-- equal shapes compare -/
theorem dr_eqR {d e : D} (h : d.rok = true) (h2 : d.dp ≤ 60) (k : e.rok = true) (k2 : e.dp ≤ 60) : eqD d e = some (.bl (D.eqv d e)) := by
  unfold eqD eqOk
  rw [rok_shp h h2, rok_shp k k2]
  simp
theorem dr_neR {d e : D} (h : d.rok = true) (h2 : d.dp ≤ 60) (k : e.rok = true) (k2 : e.dp ≤ 60) : neqD d e = some (.bl (!D.eqv d e)) := by
  unfold neqD neOk
  rw [rok_shp h h2, rok_shp k k2]
  simp
/-- flat lists -/
def D.flat (d : D) : Prop := d.rok = true ∧ d.scal = true ∧ d.wt ≤ 200
abbrev stZ (s : Int) : Cn := .lst [.int s]
theorem to_eq {α : Type} {o : Option (α × G)} {r : α} {g g' : G} (h : o = some (r, g)) (e : g = g') : o = some (r, g') := by rw [h, e]
def DigitOk (F : Cn → List D → Option (FR × Cn)) : Prop := ∀ s m : Int, 0 < m → m < 2 ^ 256 → F (stZ s) [.int m] = some (.dat (.int (s % m)), stZ (s / m))
theorem sign_at {signs : List Nat} {s N : Int} (hN : N = signs.length) (h0 : 0 < N) (hz : signs.length ≤ sizeLine) : ∃ c, ixD (.str signs) (s % N) = some (.str [c]) ∧ c ∈ signs := by
  obtain ⟨c, h1, h2⟩ := atI_lt (xs := signs) (Int.emod_nonneg s (show N ≠ 0 by omega)) (by rw [← hN]; exact Int.emod_lt_of_pos s h0)
  exact ⟨c, dr_ixS hz h1, h2⟩
/-- [signs[digit(state, N)] for k in range(m)] in a def of three names: the state, the signs, k -/
theorem draw_signs {F : Cn → List D → Option (FR × Cn)} (hF : DigitOk F) (signs : List Nat) {N : Int} (hN : N = signs.length) (h0 : 0 < N) (hz : signs.length ≤ 1000) (p : Bool) (s : Int) (m : Nat) (hm : m ≤ 100000) :
    ∃ (s' : Int) (acc : List Nat) (g3 : G), lcL (gN 2) zYes (zIx (zVar 1) (zCallM 0 F (zCons (zVar 0) (zCons (zC (.int N)) zNil)))) [2] 3 (rgD 0 m) [.own (stZ s) p false, .dat (.str signs), .un, .own (.lst []) false false] = some g3 ∧
      wipeG g3 [2] = [.own (stZ s') p false, .dat (.str signs), .un, .own (.lst (acc.map fun c => D.str [c])) false false] ∧ acc.length = m ∧ ∀ c ∈ acc, c ∈ signs := by
  have hzz : signs.length ≤ sizeLine := Nat.le_trans hz (by decide)
  have hmz : (100000 : Nat) < sizeLine := by decide
  obtain ⟨g3, e, s', acc, x, hg, hl, hc, hx⟩ := lcL_inv (tg := gN 2) (tt := zYes) (el := zIx (zVar 1) (zCallM 0 F (zCons (zVar 0) (zCons (zC (.int N)) zNil)))) (vs := [2]) (t := 3) (L := rgD 0 m)
    (fun i g => ∃ s' acc x, g = [.own (stZ s') p false, .dat (.str signs), x, .own (.lst (acc.map fun c => D.str [c])) false false] ∧ acc.length = i ∧ (∀ c ∈ acc, c ∈ signs) ∧ (x = .un ∨ ∃ d, x = .dat d)) 0
    [.own (stZ s) p false, .dat (.str signs), .un, .own (.lst []) false false] ⟨s, [], .un, rfl, rfl, fun _ h => (List.not_mem_nil h).elim, .inl rfl⟩
    (fun i g ⟨s', acc, x, hg, _, _, hx⟩ => by subst hg; rcases hx with rfl | ⟨d, rfl⟩ <;> rfl)
    (fun i d g hd ⟨s', acc, x, hg, hl, hc, hx⟩ => by
      obtain ⟨hi, rfl⟩ := rgD_at hd
      subst hg
      obtain ⟨c, hix, hcs⟩ := sign_at (s := s') hN h0 hzz
      have hdg := hF s' N h0 (by omega)
      refine ⟨[.own (stZ (s' / N)) p false, .dat (.str signs), .dat (.int (0 + (i : Int))), .own (.lst ((acc ++ [c]).map fun c => D.str [c])) false false], ⟨_, acc ++ [c], _, rfl, by simp; omega, fun y hy => ?_, .inr ⟨_, rfl⟩⟩, fun xs o k => ?_⟩
      · rcases List.mem_append.mp hy with h | h
        · exact hc y h
        · rw [List.mem_singleton.mp h]; exact hcs
      · have w : wipeG [.own (stZ s') p false, .dat (.str signs), x, .own (.lst (acc.map fun c => D.str [c])) false false] [2] = [.own (stZ s') p false, .dat (.str signs), .un, .own (.lst (acc.map fun c => D.str [c])) false false] := rfl
        refine lcL_go (by rcases hx with rfl | ⟨d, rfl⟩ <;> rfl) rfl rfl (el := zIx (zVar 1) (zCallM 0 F (zCons (zVar 0) (zCons (zC (.int N)) zNil)))) (r := .dat (.str [c])) (g3 := [.own (stZ (s' / N)) p false, .dat (.str signs), .dat (.int (0 + (i : Int))), .own (.lst (acc.map fun c => D.str [c])) false false]) ?_ rfl rfl (by rw [List.length_map]; omega) rfl (by rw [List.map_append] at k; exact k)
        apply to_eq
        walk_at "e"
        exact rfl)
  subst hg
  rw [rgD_len] at hl
  exact ⟨s', acc, _, e, rfl, by omega, hc⟩
theorem txs_signs' : ∀ acc : List Nat, txsD (acc.map fun c => D.str [c]) = some (acc.map fun c => [c])
  | [] => rfl
  | c :: r => by simp only [List.map_cons, txsD, txs_signs' r, Option.bind_eq_bind, Option.bind_some]
theorem join_signs' : ∀ acc : List Nat, TL.joinL [] (acc.map fun c => [c]) = acc
  | [] => rfl
  | [c] => rfl
  | c :: d :: r => by
    have := join_signs' (d :: r)
    simp only [List.map_cons, TL.joinL, List.nil_append] at this ⊢
    rw [this]
    rfl
theorem sum_signs' : ∀ acc : List Nat, ((acc.map fun c => [c]).map List.length).sum = acc.length
  | [] => rfl
  | c :: r => by
    have := sum_signs' r
    simp only [List.map_cons, List.sum_cons, List.length_cons, List.length_nil] at this ⊢
    omega
theorem dr_joinS (acc : List Nat) (h : acc.length ≤ 100000) : joinD (.str []) [.lst (acc.map fun c => D.str [c])] = some (.str acc) := by
  have : (100000 : Nat) ≤ sizeLine := by decide
  simp only [joinD, txs_signs', Option.bind_eq_bind, Option.bind_some, sum_signs', join_signs', List.length_nil, Nat.mul_zero, Nat.add_zero]
  rw [if_pos (by omega)]
/-- ''.join([signs[digit(state, N)] for k in range(digit(state, M))]) -/
theorem draw_word {F : Cn → List D → Option (FR × Cn)} (hF : DigitOk F) (signs : List Nat) {N M : Int} (hN : N = signs.length) (h0 : 0 < N) (hz : signs.length ≤ 1000) (hM : 0 < M) (hM2 : M ≤ 1000) (p : Bool) (s : Int) :
    ∃ (s' : Int) (acc : List Nat), zMt "str" joinD (zC (.str [])) (zCons (zLc (ziR1 (zCons (zCallM 0 F (zCons (zVar 0) (zCons (zC (.int M)) zNil))) zNil)) (gN 2) zYes (zIx (zVar 1) (zCallM 0 F (zCons (zVar 0) (zCons (zC (.int N)) zNil)))) [2]) zNil) [.own (stZ s) p false, .dat (.str signs), .un] =
      some (.dat (.str acc), [.own (stZ s') p false, .dat (.str signs), .un, .own (.lst (acc.map fun c => D.str [c])) false false]) ∧ (acc.length : Int) = s % M ∧ ∀ c ∈ acc, c ∈ signs := by
  obtain ⟨m, hm⟩ := Int.eq_ofNat_of_zero_le (Int.emod_nonneg s (show M ≠ 0 by omega))
  have hm2 := Int.emod_lt_of_pos s hM
  have hdg := hF s M hM (by omega)
  obtain ⟨s', acc, g3, e1, e2, e3, e4⟩ := draw_signs hF signs hN h0 hz p (s / M) m (by omega)
  refine ⟨s', acc, ?_, by rw [hm, e3], e4⟩
  have j := dr_joinS acc (by omega)
  have hr : (zCons (zCallM 0 F (zCons (zVar 0) (zCons (zC (.int M)) zNil))) zNil) [.own (stZ s) p false, .dat (.str signs), .un] = some ([.dat (.int (s % M))], [.own (stZ (s / M)) p false, .dat (.str signs), .un]) := by
    apply to_eq
    walk_at "e"
    exact rfl
  have q := er_lc (mi_R1 hr (rgOk_of (by omega) (by omega))) (show lcL (gN 2) zYes (zIx (zVar 1) (zCallM 0 F (zCons (zVar 0) (zCons (zC (.int N)) zNil)))) [2] 3 (rgD 0 (s % M).toNat) [.own (stZ (s / M)) p false, .dat (.str signs), .un, .own (.lst []) false false] = some g3 by rw [hm, Int.toNat_natCast]; exact e1) e2
  have q : zLc (ziR1 (zCons (zCallM 0 F (zCons (zVar 0) (zCons (zC (.int M)) zNil))) zNil)) (gN 2) zYes (zIx (zVar 1) (zCallM 0 F (zCons (zVar 0) (zCons (zC (.int N)) zNil)))) [2] [.own (stZ s) p false, .dat (.str signs), .un] = some (.bor 3, [.own (stZ s') p false, .dat (.str signs), .un, .own (.lst (acc.map fun c => D.str [c])) false false]) := q
  refine er_mt er_C rfl rfl (er_cons q er_nil) rfl rfl ?_ rfl
  exact j
theorem runM_post {n np k : Nat} {s : SM} {c : Cn} {ds : List D} {g : G} {post : FR → Cn → Prop} (hl : ds.length + 1 = np) (hk : k ≤ ds.length) (hg : startM n k c ds = g) (kx : ap (fun o => ∃ fr c', finM k o = some (fr, c') ∧ post fr c') (s g) = True) : ∃ fr c', runM n np k s c ds = some (fr, c') ∧ post fr c' := by
  unfold runM
  rw [if_pos ⟨hl, hk⟩, hg]
  exact of_eq_true kx
theorem end_postM {k : Nat} {post : FR → Cn → Prop} {o : Option (Fl × G)} {fr : FR} {c : Cn} (h : finM k o = some (fr, c)) (h2 : post fr c) : ap (fun o => ∃ fr c', finM k o = some (fr, c') ∧ post fr c') o = True := eq_true ⟨fr, c, h, h2⟩
/-- a sign from the blank to the tilde, but not the percent sign -/
def sg (c : Nat) : Prop := 32 ≤ c ∧ c ≤ 126 ∧ c ≠ 37
instance (c : Nat) : Decidable (sg c) := by unfold sg; exact inferInstance
/-- a drawn value: None, a bool, an int, a text of such signs -/
def DV (v : D) : Prop := match v with
  | .non => True
  | .bl _ => True
  | .int i => i.natAbs < 10 ^ 60
  | .str t => t.length ≤ 200 ∧ ∀ c ∈ t, sg c
  | _ => False
theorem DV.flat {v : D} (h : DV v) : D.flat v := by
  cases v with
  | non => exact ⟨rfl, rfl, by decide⟩
  | bl b => exact ⟨rfl, rfl, by simp [D.wt]⟩
  | int i => exact ⟨decide_eq_true h, rfl, Nat.le_refl _⟩
  | str t =>
    obtain ⟨h1, h2⟩ := (show t.length ≤ 200 ∧ ∀ c ∈ t, sg c from h)
    refine ⟨?_, rfl, h1⟩
    show (t.all fun c => decide (c < 1114112)) = true
    rw [List.all_eq_true]
    intro c hc
    have := h2 c hc
    unfold sg at this
    exact decide_eq_true (by omega)
  | tup _ => exact h.elim
  | lst _ => exact h.elim
  | raw _ => exact h.elim
  | dic _ _ => exact h.elim
  | obj _ _ _ => exact h.elim
end Z
set_option Elab.async false
set_option linter.all false
set_option maxRecDepth 100000
set_option maxHeartbeats 4000000
namespace Z
open PySem PySem.Spec PyProof.Rows L2
end Z
set_option Elab.async false
set_option linter.all false
set_option maxRecDepth 100000
set_option maxHeartbeats 4000000
namespace Z
open PySem PySem.Spec PyProof.Rows L2
section
open PySem.SeqAt PySem.MeetsSeq PySem.MeetsSeq2 PySem.MeetsSeq3 Ob
open PySem.AutoSeq1 (wpAny_loadPart')
theorem tup_meet (p q : Addr) (us ws : Array Value) (n m : Nat) (c1 c2 : Option Addr) (t1 t2 : Array (Option Value)) (e r : Nat → Bool) :
    Meets (Builtin.«tuple.__lt__» ⟨[.ref p, .ref q], []⟩)
      (fun A R s => s.heap.get? p = some { cls := .type "tuple", dict := c1, data := .seq us n, slots := t1 } ∧ s.heap.get? q = some { cls := .type "tuple", dict := c2, data := .seq ws m, slots := t2 } ∧
        (∀ j (h1 : j < us.size) (h2 : j < ws.size), EqAt A.in1 s us[j] ws[j] (e j)) ∧
        (∀ j (h1 : j < us.size) (h2 : j < ws.size), (∀ i, i < j → e i = true) → e j = false → Ob.RcOp .Lt A.in1 s us[j] ws[j] (r j)) ∧
        R (.ok (.ret (.bool (lexAt e r (decide (us.size < ws.size)) 0 (min us.size ws.size))))) s) := by
  refine .of_wp fun prog w A R s hyp => ?_
  obtain ⟨hp, gg, dd, tk, os⟩ := s
  obtain ⟨atp, atq, eqs, lts, goal⟩ := hyp
  have subs := AutoSeq1.sub_tuple_tuple
  have zl : (us.toList.zip ws.toList).length = min us.size ws.size := by simp
  wp_walk using wpAny_loadPart' atp, wpAny_loadPart' atq, wpAny_forIn_list _ (fun left acc st => acc.1 = none ∧ st = ⟨hp, gg, dd, tk, os⟩ ∧ ∃ k, left = (us.toList.zip ws.toList).drop k ∧ (∀ i, i < k → e i = true) ∧
    R (.ok (.ret (.bool (lexAt e r (decide (us.size < ws.size)) k (min us.size ws.size - k))))) ⟨hp, gg, dd, tk, os⟩) _
  case turn =>
    rintro ⟨u1, w1⟩ left acc st ⟨_, rfl, k, hz, before, hR⟩
    have hk : k < (us.toList.zip ws.toList).length := by
      by_cases c : k < (us.toList.zip ws.toList).length
      · exact c
      · rw [List.drop_of_length_le (by omega)] at hz
        cases hz
    have hm : k < min us.size ws.size := zl ▸ hk
    have k1 : k < us.size := by omega
    have k2 : k < ws.size := by omega
    rw [List.drop_eq_getElem_cons hk] at hz
    injection hz with pair others
    have eu : u1 = us[k] := by simpa using congrArg Prod.fst pair
    have ew : w1 = ws[k] := by simpa using congrArg Prod.snd pair
    subst eu ew
    rw [show min us.size ws.size - k = (min us.size ws.size - (k + 1)) + 1 by omega, lexAt_succ] at hR
    refine wpAny_bind (eqs k k1 k2 prog w _ _ ?_)
    cases hek : e k with
    | true =>
      rw [hek, if_pos rfl] at hR
      wp_walk
      refine ⟨rfl, rfl, k + 1, others, fun i hi => ?_, hR⟩
      by_cases c : i = k
      · rw [c]; exact hek
      · exact before i (by omega)
    | false =>
      rw [hek, if_neg Bool.false_ne_true] at hR
      have now := lts k k1 k2 before hek prog w
      wp_walk using now
      exact ⟨_, rfl, by simpa using hR⟩
  case fin =>
    rintro ⟨a1, a2⟩ st ⟨ha, rfl, k, hz, _, hR⟩
    simp only at ha
    subst ha
    have over : min us.size ws.size ≤ k := by
      by_cases c : k < (us.toList.zip ws.toList).length
      · rw [List.drop_eq_getElem_cons c] at hz
        cases hz
      · omega
    rw [Nat.sub_eq_zero_of_le over, lexAt_zero] at hR
    wp_walk
    exact ⟨_, rfl, by simpa [Builtin.Tuple.tupleCompareSizes] using hR⟩
  case h =>
    exact ⟨rfl, rfl, 0, rfl, fun i hi => absurd hi (Nat.not_lt_zero i), by simpa using goal⟩
theorem tup_lt {A : Around} {s : Shared} {p q : Addr} {us ws : Array Value} {e r : Nat → Bool} (atp : s.heap.IsTuple p us) (atq : s.heap.IsTuple q ws) (room : A.units < cLine)
    (eqs : ∀ j (h1 : j < us.size) (h2 : j < ws.size), EqAt A.in1 s us[j] ws[j] (e j))
    (lts : ∀ j (h1 : j < us.size) (h2 : j < ws.size), (∀ i, i < j → e i = true) → e j = false → Ob.RcOp .Lt A.in1 s us[j] ws[j] (r j)) :
    Ob.RcOp .Lt A s (.ref p) (.ref q) (lexAt e r (decide (us.size < ws.size)) 0 (min us.size ws.size)) := by
  intro prog w E Q h
  obtain ⟨⟨k1, c1, d1, t1⟩, o1, rfl, n, rfl⟩ := id atp
  obtain ⟨⟨k2, c2, d2, t2⟩, o2, rfl, m, rfl⟩ := id atq
  exact richCompare_meets_room (op := .Lt) ⟨_, o1, rfl⟩ ⟨_, o2, rfl⟩ F.slot_tuple_lt F.entry_tuple_lt (F.args_tuple_lt_2 _ _) (tup_meet p q us ws n m c1 c2 t1 t2 e r) ⟨o1, o2, eqs, lts, ⟨nofun, h⟩⟩ room
mutual
def ltP : PyData → PyData → Option Bool
  | .int a, .int b => some (decide (a < b))
  | .str x, .str y => some (decide (x.cps.toList < y.cps.toList))
  | .tuple xs, .tuple ys => ltPs xs ys
  | _, _ => none
def ltPs : List PyData → List PyData → Option Bool
  | [], [] => some false
  | [], _ :: _ => some true
  | _ :: _, [] => some false
  | x :: xs, y :: ys => if PyData.eqv x y = true then ltPs xs ys else ltP x y
end
theorem reads_get {h : Heap} : ∀ {vs : List Value} {ds : List PyData} {as : List Addr}, ReadsAll h vs ds as → ∀ {j : Nat} (h1 : j < vs.length) (h2 : j < ds.length), ∃ bs, Reads h vs[j] ds[j] bs
  | _, _, _, .nil, j, h1, _ => absurd h1 (Nat.not_lt_zero j)
  | _, _, _, .cons r _, 0, _, _ => ⟨_, r⟩
  | _, _, _, .cons _ t, j + 1, h1, h2 => reads_get t (Nat.lt_of_succ_lt_succ h1) (Nat.lt_of_succ_lt_succ h2)
theorem reads_len {h : Heap} : ∀ {vs : List Value} {ds : List PyData} {as : List Addr}, ReadsAll h vs ds as → vs.length = ds.length
  | _, _, _, .nil => rfl
  | _, _, _, .cons _ t => congrArg Nat.succ (reads_len t)
theorem first_ne {b : Bool} : ∀ {xs ys : List PyData} {j : Nat} (h1 : j < xs.length) (h2 : j < ys.length), ltPs xs ys = some b → (∀ i (i1 : i < xs.length) (i2 : i < ys.length), i < j → PyData.eqv xs[i] ys[i] = true) → PyData.eqv xs[j] ys[j] = false → ltP xs[j] ys[j] = some b
  | x :: xs, y :: ys, 0, _, _, h, _, ne => by
    have ne : PyData.eqv x y = false := ne
    simp only [ltPs, ne, Bool.false_eq_true, if_false] at h
    exact h
  | x :: xs, y :: ys, j + 1, h1, h2, h, eqs, ne => by
    have e0 : PyData.eqv x y = true := eqs 0 (by simp) (by simp) (by omega)
    simp only [ltPs, e0, if_true] at h
    exact first_ne (xs := xs) (ys := ys) (j := j) (Nat.lt_of_succ_lt_succ h1) (Nat.lt_of_succ_lt_succ h2) h (fun i i1 i2 hi => eqs (i + 1) (Nat.succ_lt_succ i1) (Nat.succ_lt_succ i2) (by omega)) ne
theorem all_eq : ∀ {xs ys : List PyData}, (∀ i (i1 : i < xs.length) (i2 : i < ys.length), PyData.eqv xs[i] ys[i] = true) → ltPs xs ys = some (decide (xs.length < ys.length))
  | [], [], _ => rfl
  | [], _ :: _, _ => by simp [ltPs]
  | _ :: _, [], _ => by simp [ltPs]
  | x :: xs, y :: ys, eqs => by
    have e0 : PyData.eqv x y = true := eqs 0 (by simp) (by simp)
    have ih := all_eq (xs := xs) (ys := ys) fun i i1 i2 => eqs (i + 1) (Nat.succ_lt_succ i1) (Nat.succ_lt_succ i2)
    simp only [ltPs, e0, if_true, ih]
    simp
theorem lexAt_const {e : Nat → Bool} {z b : Bool} : ∀ (k i : Nat), (z = b ∨ ∃ j, i ≤ j ∧ j < i + k ∧ e j = false) → lexAt e (fun _ => b) z i k = b
  | 0, i, h => by
    rcases h with h | ⟨j, h1, h2, _⟩
    · exact h
    · omega
  | k + 1, i, h => by
    rw [lexAt_succ]
    cases he : e i with
    | false => rfl
    | true =>
      rw [if_pos rfl]
      refine lexAt_const k (i + 1) (h.imp id fun ⟨j, h1, h2, h3⟩ => ⟨j, ?_, by omega, h3⟩)
      have : j ≠ i := fun z => by rw [z, he] at h3; cases h3
      omega
theorem depth_mem {x : PyData} : ∀ {xs : List PyData} {j : Nat} (h : j < xs.length), xs[j].depth ≤ PyData.depthAll xs
  | y :: ys, 0, _ => by show PyData.depth y ≤ max (PyData.depth y) (PyData.depthAll ys); omega
  | y :: ys, j + 1, h => by
    have := depth_mem (x := x) (xs := ys) (j := j) (Nat.lt_of_succ_lt_succ h)
    show (ys[j]'(Nat.lt_of_succ_lt_succ h)).depth ≤ max (PyData.depth y) (PyData.depthAll ys)
    omega
theorem lay_mem : ∀ {xs : List PyData} {j : Nat} (h : j < xs.length), PyData.canLayAll0 xs = true → xs[j].canLay0 = true
  | y :: ys, 0, _, hl => by
    have hl : (PyData.canLay0 y && PyData.canLayAll0 ys) = true := hl
    exact (Bool.and_eq_true_iff.mp hl).1
  | y :: ys, j + 1, h, hl => by
    have hl : (PyData.canLay0 y && PyData.canLayAll0 ys) = true := hl
    exact lay_mem (xs := ys) (Nat.lt_of_succ_lt_succ h) (Bool.and_eq_true_iff.mp hl).2
theorem rc_lt : ∀ (n : Nat) (d e : PyData) (b : Bool) (A : Around) (s : Shared) (u v : Value) (as bs : List Addr), d.depth ≤ n → ltP d e = some b → Reads s.heap u d as → Reads s.heap v e bs → d.canLay0 = true → e.canLay0 = true → A.units + n < cLine → Ob.RcOp .Lt A s u v b := by
  intro n
  induction n with
  | zero =>
    intro d e b A s u v as bs hn h ru rv ld le room
    cases ru with
    | int i t =>
      cases rv with
      | int j t' => cases h; exact .lt_int i j t t'
      | _ => cases h
    | str x t =>
      cases rv with
      | str y t' => cases h; exact fun prog w E Q q => PySem.P.lt_str q
      | _ => cases h
    | tuple _ _ _ _ =>
      have hn : PyData.depthAll _ + 1 ≤ 0 := hn
      omega
    | _ => cases rv <;> cases h
  | succ n ih =>
    intro d e b A s u v as bs hn h ru rv ld le room
    cases ru with
    | int i t =>
      cases rv with
      | int j t' => cases h; exact .lt_int i j t t'
      | _ => cases h
    | str x t =>
      cases rv with
      | str y t' => cases h; exact fun prog w E Q q => PySem.P.lt_str q
      | _ => cases h
    | tuple h1 h2 h3 h4 =>
      rename_i p o vs n1 xs
      cases rv with
      | tuple g1 g2 g3 g4 =>
        rename_i q o' ws n2 ys
        have h : ltPs xs ys = some b := h
        have hn : PyData.depthAll xs + 1 ≤ n + 1 := hn
        have ld : PyData.canLayAll0 xs = true := by simpa only [PyData.canLay0] using ld
        have le : PyData.canLayAll0 ys = true := by simpa only [PyData.canLay0] using le
        have lx : vs.size = xs.length := by rw [← reads_len h4, Array.length_toList]
        have ly : ws.size = ys.length := by rw [← reads_len g4, Array.length_toList]
        have tp : s.heap.IsTuple p vs := ⟨o, h1, h2, n1, h3⟩
        have tq : s.heap.IsTuple q ws := ⟨o', g1, g2, n2, g3⟩
        have key := tup_lt (A := A) (s := s) (e := fun j => PyData.eqv (xs[j]?.getD .none) (ys[j]?.getD .none)) (r := fun _ => b) tp tq (by omega) (fun j j1 j2 => by
          have a1 : j < xs.length := by omega
          have a2 : j < ys.length := by omega
          obtain ⟨r1, w1⟩ := reads_get h4 (j := j) (by rw [Array.length_toList]; exact j1) a1
          obtain ⟨r2, w2⟩ := reads_get g4 (j := j) (by rw [Array.length_toList]; exact j2) a2
          have dep := depth_mem (x := .none) a1
          simp only [List.getElem?_eq_getElem a1, List.getElem?_eq_getElem a2, Option.getD_some]
          rw [Array.getElem_toList] at w1 w2
          exact eqAt_reads _ _ _ _ _ _ _ _ w1 w2 (lay_mem a1 ld) (lay_mem a2 le) (by show A.units + 1 + _ < cLine; omega)) (fun j j1 j2 bef ne => by
          have a1 : j < xs.length := by omega
          have a2 : j < ys.length := by omega
          obtain ⟨r1, w1⟩ := reads_get h4 (j := j) (by rw [Array.length_toList]; exact j1) a1
          obtain ⟨r2, w2⟩ := reads_get g4 (j := j) (by rw [Array.length_toList]; exact j2) a2
          have dep := depth_mem (x := .none) a1
          rw [Array.getElem_toList] at w1 w2
          simp only [List.getElem?_eq_getElem a1, List.getElem?_eq_getElem a2, Option.getD_some] at ne
          have lt := first_ne a1 a2 h (fun i i1 i2 hi => by
            have := bef i hi
            simpa only [List.getElem?_eq_getElem i1, List.getElem?_eq_getElem i2, Option.getD_some] using this) ne
          exact ih _ _ b _ _ _ _ _ _ (by omega) lt w1 w2 (lay_mem a1 ld) (lay_mem a2 le) (by show A.units + 1 + n < cLine; omega))
        have val : lexAt (fun j => PyData.eqv (xs[j]?.getD .none) (ys[j]?.getD .none)) (fun _ => b) (decide (vs.size < ws.size)) 0 (min vs.size ws.size) = b := by
          apply lexAt_const
          by_cases c : ∀ i (i1 : i < xs.length) (i2 : i < ys.length), PyData.eqv xs[i] ys[i] = true
          · left
            rw [lx, ly]
            have := all_eq c
            rw [h] at this
            exact (Option.some.inj this).symm
          · right
            simp only [Classical.not_forall] at c
            obtain ⟨i, i1, i2, c⟩ := c
            exact ⟨i, Nat.zero_le _, by omega, by simp only [List.getElem?_eq_getElem i1, List.getElem?_eq_getElem i2, Option.getD_some]; exact Bool.eq_false_iff.mpr c⟩
        rw [val] at key
        exact key
      | _ => cases h
    | _ => cases rv <;> cases h
end
mutual
def ltT : D → D → Option Bool
  | .int a, .int b => some (decide (a < b))
  | .str x, .str y => some (decide (x < y))
  | .tup xs, .tup ys => ltTs xs ys
  | _, _ => none
def ltTs : List D → List D → Option Bool
  | [], [] => some false
  | [], _ :: _ => some true
  | _ :: _, [] => some false
  | x :: xs, y :: ys => if D.eqv x y = true then ltTs xs ys else ltT x y
end
mutual
theorem ltT_py : ∀ d e : D, ∀ b, ltT d e = some b → ltP d.py e.py = some b
  | .int a, .int b, _, h => h
  | .str x, .str y, _, h => h
  | .tup xs, .tup ys, b, h => ltTs_py xs ys b h
  | .int _, .non, _, h | .int _, .bl _, _, h | .int _, .str _, _, h | .int _, .tup _, _, h | .int _, .lst _, _, h | .int _, .raw _, _, h | .int _, .dic _ _, _, h | .int _, .obj _ _ _, _, h => by cases h
  | .str _, .non, _, h | .str _, .bl _, _, h | .str _, .int _, _, h | .str _, .tup _, _, h | .str _, .lst _, _, h | .str _, .raw _, _, h | .str _, .dic _ _, _, h | .str _, .obj _ _ _, _, h => by cases h
  | .tup _, .non, _, h | .tup _, .bl _, _, h | .tup _, .int _, _, h | .tup _, .str _, _, h | .tup _, .lst _, _, h | .tup _, .raw _, _, h | .tup _, .dic _ _, _, h | .tup _, .obj _ _ _, _, h => by cases h
  | .non, _, _, h | .bl _, _, _, h | .lst _, _, _, h | .raw _, _, _, h | .dic _ _, _, _, h | .obj _ _ _, _, _, h => by cases h
theorem ltTs_py : ∀ l m : List D, ∀ b, ltTs l m = some b → ltPs (D.pyA l) (D.pyA m) = some b
  | [], [], _, h => h
  | [], _ :: _, _, h => h
  | _ :: _, [], _, h => h
  | x :: xs, y :: ys, b, h => by
    show (if PyData.eqv x.py y.py = true then ltPs (D.pyA xs) (D.pyA ys) else ltP x.py y.py) = some b
    rw [D.py_eqv]
    simp only [ltTs] at h
    split at h
    · rename_i c; rw [if_pos c]; exact ltTs_py xs ys b h
    · rename_i c; rw [if_neg c]; exact ltT_py x y b h
end
def ltX (d e : D) : Option D := match d, e with
  | .int i, .int j => some (.bl (decide (i < j)))
  | .str i, .str j => some (.bl (decide (i < j)))
  | .tup l, .tup m => if ((D.tup l).shp && (D.tup m).shp) = true then (ltTs l m).map D.bl else none
  | _, _ => none
def rLtD (K : PySem.W.Frag) : R2 := fun x y H Q => ∃ d e b, Dp K H x d ∧ Dp K H y e ∧ SeqAt.shaped d = true ∧ SeqAt.shaped e = true ∧ ltP d e = some b ∧ Q (.bl b) H
theorem op_ltD {X : Cx} (room : X.A.units + 64 < cLine) : OpR X (compareOp .Lt) (rLtD X.K) := by
  intro pins s σ H x y v u Q I rx ry h
  obtain ⟨d, e, b, hd, he, sd, se, lt, q⟩ := h
  obtain ⟨as, r1⟩ := Dp.reads I d x v hd rx
  obtain ⟨bs, r2⟩ := Dp.reads I e y u he ry
  have key := rc_lt 64 d e b X.A s _ _ _ _ (SeqAt.depth_of_shaped sd) lt r1 r2 (SeqAt.canLay_of_shaped sd) (SeqAt.canLay_of_shaped se) room
  exact key X.prog X.w _ _ ⟨.bl _, H, I, rfl, q⟩
theorem o_ltX {X : Cx} {k : Nat} (hr : Room k X.A) : OpR X (compareOp .Lt) (fun x y H Q => rLtU x y H Q ∨ rLtD X.K x y H Q) := OpR.or o_lt (op_ltD hr.units)
theorem s_ltX {K : PySem.W.Frag} : OpS K (fun x y H Q => rLtU x y H Q ∨ rLtD K x y H Q) ltX := by
  intro H x y d e z Q hx hy h q
  unfold ltX at h
  split at h
  · rename_i i j
    exact .inl (s_lt H x y _ _ z Q hx hy (show ltD (.int i) (.int j) = some z from h) q)
  · rename_i i j
    exact .inl (s_lt H x y _ _ z Q hx hy (show ltD (.str i) (.str j) = some z from h) q)
  · rename_i l m
    split at h
    · rename_i c
      rw [Bool.and_eq_true] at c
      rw [Option.map_eq_some_iff] at h
      obtain ⟨b, hb, rfl⟩ := h
      exact .inr ⟨_, _, b, hx.dp (SeqAt.canLay_of_shaped c.1), hy.dp (SeqAt.canLay_of_shaped c.2), c.1, c.2, ltTs_py l m b hb, q⟩
    · cases h
  · cases h
end Z
set_option Elab.async false
set_option linter.all false
set_option maxRecDepth 100000
set_option maxHeartbeats 4000000
namespace Z
open PySem PySem.Spec PyProof.Rows L2
def VD (v : D) : Prop := match v with
  | .non => True
  | .bl _ => True
  | .int i => i.natAbs < 10 ^ 60
  | .str t => t.length ≤ 200 ∧ ∀ c ∈ t, c < 1114112
  | _ => False
theorem VD.flat {v : D} (h : VD v) : D.flat v := by
  cases v with
  | non => exact ⟨rfl, rfl, by decide⟩
  | bl b => exact ⟨rfl, rfl, by simp [D.wt]⟩
  | int i => exact ⟨decide_eq_true h, rfl, Nat.le_refl _⟩
  | str t =>
    obtain ⟨h1, h2⟩ := (show t.length ≤ 200 ∧ ∀ c ∈ t, c < 1114112 from h)
    refine ⟨?_, rfl, h1⟩
    show (t.all fun c => decide (c < 1114112)) = true
    rw [List.all_eq_true]
    intro c hc
    exact decide_eq_true (h2 c hc)
  | tup _ => exact h.elim
  | lst _ => exact h.elim
  | raw _ => exact h.elim
  | dic _ _ => exact h.elim
  | obj _ _ _ => exact h.elim
theorem DV.vd {v : D} (h : DV v) : VD v := by
  cases v with
  | str t =>
    obtain ⟨h1, h2⟩ := (show t.length ≤ 200 ∧ ∀ c ∈ t, sg c from h)
    exact ⟨h1, fun c hc => by have := h2 c hc; unfold sg at this; omega⟩
  | _ => exact h
def kd : D → Nat
  | .non => 0
  | .bl _ => 1
  | .int _ => 2
  | _ => 3
def kx : D → D
  | .non => .int 0
  | .bl b => .int (if b then 1 else 0)
  | d => d
def rk (v : D) : D := .tup [.int (kd v : Nat), kx v]
theorem rk_rok {v : D} (h : VD v) : (rk v).rok = true ∧ (rk v).dp = 1 ∧ (rk v).wt ≤ 402 := by
  cases v with
  | non => exact ⟨by decide, rfl, by decide⟩
  | bl b => cases b <;> exact ⟨by decide, rfl, by decide⟩
  | int i =>
    refine ⟨?_, rfl, Nat.le_refl 402⟩
    show (decide ((2 : Int).natAbs < 10 ^ 60) && (decide (i.natAbs < 10 ^ 60) && true)) = true
    rw [decide_eq_true (show i.natAbs < 10 ^ 60 from h), decide_eq_true (by decide)]; rfl
  | str t =>
    have f := VD.flat h
    refine ⟨?_, rfl, ?_⟩
    · show (decide ((3 : Int).natAbs < 10 ^ 60) && ((D.str t).rok && true)) = true
      rw [f.1, decide_eq_true (by decide)]; rfl
    · show 200 + 1 + (t.length + 1 + 0) ≤ 402
      have := f.2.2
      have : t.length ≤ 200 := this
      omega
  | tup _ => exact h.elim
  | lst _ => exact h.elim
  | raw _ => exact h.elim
  | dic _ _ => exact h.elim
  | obj _ _ _ => exact h.elim
theorem natL_tri : ∀ x y : List Nat, (x = y ↔ ¬ x < y ∧ ¬ y < x)
  | [], [] => by simp
  | [], b :: y => by simp
  | a :: x, [] => by simp
  | a :: x, b :: y => by
    have ih := natL_tri x y
    rw [List.cons_lt_cons_iff, List.cons_lt_cons_iff, List.cons.injEq, ih]
    constructor
    · rintro ⟨rfl, h1, h2⟩
      exact ⟨fun h => h.elim (fun h => absurd h (Nat.lt_irrefl _)) fun h => h1 h.2, fun h => h.elim (fun h => absurd h (Nat.lt_irrefl _)) fun h => h2 h.2⟩
    · rintro ⟨h1, h2⟩
      have e : a = b := by
        rcases Nat.lt_trichotomy a b with h | h | h
        · exact absurd (Or.inl h) h1
        · exact h
        · exact absurd (Or.inl h) h2
      subst e
      exact ⟨rfl, fun h => h1 (.inr ⟨rfl, h⟩), fun h => h2 (.inr ⟨rfl, h⟩)⟩
def sameV (v w : D) : Bool := D.eqv (rk v) (rk w)
theorem sameV_eq (v w : D) : sameV v w = (decide (kd v = kd w) && D.eqv (kx v) (kx w)) := by
  show ((((kd v : Nat) : Int) == ((kd w : Nat) : Int)) && (D.eqv (kx v) (kx w) && true)) = _
  rw [Bool.and_true]
  congr 1
  rw [Bool.eq_iff_iff]
  simp
  omega
def ltV (v w : D) : Bool := if kd v = kd w then (match kx v, kx w with
  | .int i, .int j => decide (i < j)
  | .str x, .str y => decide (x < y)
  | _, _ => false) else decide (kd v < kd w)
/-- both of one kind: the second parts compare -/
theorem kx_same {v w : D} (hv : VD v) (hw : VD w) (h : kd v = kd w) : (∃ i j, kx v = .int i ∧ kx w = .int j) ∨ ∃ x y, kx v = .str x ∧ kx w = .str y := by
  cases v <;> cases w <;> first
    | exact hv.elim
    | exact hw.elim
    | exact .inl ⟨_, _, rfl, rfl⟩
    | exact .inr ⟨_, _, rfl, rfl⟩
    | cases h
theorem ltT_rk {v w : D} (hv : VD v) (hw : VD w) (ne : sameV v w = false) : ltT (rk v) (rk w) = some (ltV v w) := by
  rw [sameV_eq] at ne
  show ltTs [.int (kd v : Nat), kx v] [.int (kd w : Nat), kx w] = _
  unfold ltV
  by_cases c : kd v = kd w
  · rw [if_pos c]
    rw [decide_eq_true c, Bool.true_and] at ne
    have e0 : D.eqv (.int (kd v : Nat)) (.int (kd w : Nat)) = true := by rw [c]; exact beq_self_eq_true _
    simp only [ltTs, e0, if_true, ne, Bool.false_eq_true, if_false]
    rcases kx_same hv hw c with ⟨i, j, e1, e2⟩ | ⟨i, j, e1, e2⟩
    · rw [e1, e2]; rfl
    · rw [e1, e2]; rfl
  · rw [if_neg c]
    have e0 : D.eqv (.int (kd v : Nat)) (.int (kd w : Nat)) = false := by
      show (((kd v : Nat) : Int) == ((kd w : Nat) : Int)) = false
      rw [beq_eq_false_iff_ne]
      omega
    simp only [ltTs, e0, Bool.false_eq_true, if_false]
    show some (decide (((kd v : Nat) : Int) < ((kd w : Nat) : Int))) = some (decide (kd v < kd w))
    congr 1
    rw [Bool.eq_iff_iff]
    simp
theorem triV {v w : D} (hv : VD v) (hw : VD w) : sameV v w = (!ltV v w && !ltV w v) := by
  rw [sameV_eq]
  unfold ltV
  by_cases c : kd v = kd w
  · rw [if_pos c, if_pos c.symm, decide_eq_true c, Bool.true_and]
    rcases kx_same hv hw c with ⟨i, j, e1, e2⟩ | ⟨i, j, e1, e2⟩
    · rw [e1, e2]
      show (i == j) = (!decide (i < j) && !decide (j < i))
      rw [Bool.eq_iff_iff]
      simp
      omega
    · rw [e1, e2]
      show (i == j) = (!decide (i < j) && !decide (j < i))
      rw [Bool.eq_iff_iff]
      have := natL_tri i j
      simp only [beq_iff_eq, Bool.and_eq_true, Bool.not_eq_true', decide_eq_false_iff_not]
      exact this
  · rw [if_neg c, if_neg (fun h => c h.symm), decide_eq_false c, Bool.false_and]
    rcases Nat.lt_or_gt_of_ne c with h | h
    · rw [decide_eq_true h]; rfl
    · rw [decide_eq_true (show kd w < kd v from h), Bool.not_true, Bool.and_false]
def ltR : List D → List D → Bool
  | [], [] => false
  | [], _ :: _ => true
  | _ :: _, [] => false
  | x :: xs, y :: ys => if sameV x y = true then ltR xs ys else ltV x y
theorem lt_rk {v w : D} (hv : VD v) (hw : VD w) : ltX (rk v) (rk w) = some (.bl (ltR [v] [w])) := by
  obtain ⟨a1, b1, _⟩ := rk_rok hv
  obtain ⟨a2, b2, _⟩ := rk_rok hw
  have s1 := rok_shp a1 (by omega)
  have s2 := rok_shp a2 (by omega)
  show (if ((rk v).shp && (rk w).shp) = true then (ltT (rk v) (rk w)).map D.bl else none) = _
  rw [s1, s2, if_pos (show (true && true) = true from rfl)]
  show (ltT (rk v) (rk w)).map D.bl = some (.bl (if sameV v w = true then false else ltV v w))
  by_cases c : sameV v w = true
  · rw [if_pos c]
    have c2 := c
    rw [sameV_eq, Bool.and_eq_true] at c2
    have e0 : D.eqv (.int (kd v : Nat)) (.int (kd w : Nat)) = true := by rw [of_decide_eq_true c2.1]; exact beq_self_eq_true _
    show (ltTs [.int (kd v : Nat), kx v] [.int (kd w : Nat), kx w]).map D.bl = _
    simp only [ltTs, e0, if_true, c2.2]
    rfl
  · rw [if_neg c, ltT_rk hv hw (Bool.eq_false_iff.mpr c)]; rfl
end Z
set_option Elab.async false
set_option linter.all false
set_option maxRecDepth 100000
set_option maxHeartbeats 4000000
namespace Z
open PySem PySem.Spec PyProof.Rows L2
def isS : R → Option (List Nat)
  | .dat (.str t) => some t
  | _ => none
theorem isS_some {r : R} {t : List Nat} (h : isS r = some t) : r = .dat (.str t) := by
  unfold isS at h
  split at h
  · cases h; rfl
  · cases h
end Z
set_option Elab.async false
set_option linter.all false
set_option maxRecDepth 100000
set_option maxHeartbeats 4000000
namespace Z
open PySem PySem.Spec PyProof.Rows L2
end Z
set_option Elab.async false
set_option linter.all false
set_option maxRecDepth 100000
set_option maxHeartbeats 4000000
namespace Z
open PySem PySem.Spec PyProof.Rows L2
end Z
set_option Elab.async false
set_option linter.all false
set_option maxRecDepth 100000
set_option maxHeartbeats 4000000
namespace Z
open PySem PySem.Spec PyProof.Rows L2
end Z
set_option Elab.async false
set_option linter.all false
set_option maxRecDepth 100000
set_option maxHeartbeats 4000000
namespace Z
open PySem PySem.Spec PyProof.Rows L2
end Z
set_option Elab.async false
set_option linter.all false
set_option maxRecDepth 100000
set_option maxHeartbeats 4000000
namespace Z
open PySem PySem.Spec PyProof.Rows L2
section
variable {P : Program} {w : World} {K : PySem.W.Frag} {mg : Str → Option Value} {base : Heap}
theorem okN {k : Nat} {f : Addr} {fd : FuncData} {ps : List Str} : FnOk P w K mg base CX0 k f fd ps (spP K fun _ => none) :=
  ⟨fun _ _ _ _ ⟨_, _, _, _, _, e, _⟩ => (by cases e), fun _ _ _ _ _ _ _ _ _ _ _ _ _ ⟨_, _, _, _, _, e, _⟩ => (by cases e)⟩
theorem okNM {k kk : Nat} {f : Addr} {fd : FuncData} {ps : List Str} : FnOk P w K mg base CX0 k f fd ps (spM K kk fun _ _ => none) :=
  ⟨fun _ _ _ _ ⟨_, _, _, _, _, _, _, _, _, _, _, _, _, e, _⟩ => (by cases e), fun _ _ _ _ _ _ _ _ _ _ _ _ _ ⟨_, _, _, _, _, _, _, _, _, _, _, _, _, e, _⟩ => (by cases e)⟩
end
end Z
set_option Elab.async false
set_option linter.all false
set_option maxRecDepth 100000
set_option maxHeartbeats 4000000
namespace Z
open PySem PySem.Spec PyProof.Rows L2
abbrev Tab := List (List Nat × (List D → Option FR))
def look : Tab → List Nat → Option (List D → Option FR)
  | [], _ => none
  | (k, F) :: t, s => if k = s then some F else look t s
def inE (es : Array DictEntry) (s : Str) : Option Value := findBy (fun k v => v.isStr k) es s
section
variable (P : Program) (w : World) (K : PySem.W.Frag) (mg : Str → Option Value) (base : Heap)
def FnAt (k : Nat) (f : Addr) (sp : Sp) : Prop := ∃ (fd : FuncData) (ps : List Str), PySem.W.keepIn K (.ref f) = true ∧ Binds K fd ps [] ∧ FnOk P w K mg base CX0 k f fd ps sp
def TabIn (k : Nat) (es : Array DictEntry) (tab : Tab) : Prop := ∀ s F, look tab s = some F → ∃ f, inE es ⟨s.toArray⟩ = some (.ref f) ∧ FnAt P w K mg base k f (spP K F)
def TabOk (k : Nat) (x : Str) (tab : Tab) : Prop := ∃ (a : Addr) (es : Array DictEntry) (ep : Nat) (sl : Array (Option Value)),
  mg x = some (.ref a) ∧ K.lookup a = some ⟨.type "dict", none, .dict es ep, sl⟩ ∧ (es.all fun e => isExactStrKey e.key) = true ∧ TabIn P w K mg base k es tab
end
section
variable {P : Program} {w : World} {K : PySem.W.Frag} {mg : Str → Option Value} {base : Heap}
theorem FnAt.mono {j k : Nat} {f : Addr} {sp : Sp} (h : FnAt P w K mg base j f sp) (le : j ≤ k) : FnAt P w K mg base k f sp :=
  let ⟨fd, ps, a, b, c⟩ := h
  ⟨fd, ps, a, b, c.mono le⟩
theorem Cal.at {k : Nat} {x : Str} {sp : Sp} {f : Addr} (c : Cal P w K mg base k x sp) (hm : mg x = some (.ref f)) : FnAt P w K mg base k f sp := by
  obtain ⟨g, fd, ps, h1, h2, h3, h4⟩ := c
  rw [h1] at hm
  cases hm
  exact ⟨fd, ps, h2, h3, h4⟩
theorem tab_all {es : Array DictEntry} (h : (es.toList.all fun e => isExactStrKey e.key) = true) : (es.all fun e => isExactStrKey e.key) = true := by
  rw [← Array.all_toList]
  exact h
theorem tab_nil {k : Nat} {es : Array DictEntry} : TabIn P w K mg base k es [] := fun _ _ h => by cases h
theorem tab_cons {j k : Nat} {es : Array DictEntry} {x : Str} {s : List Nat} {F : List D → Option FR} {f : Addr} {t : Tab} (c : Cal P w K mg base j x (spP K F)) (le : j ≤ k) (hm : mg x = some (.ref f)) (he : inE es ⟨s.toArray⟩ = some (.ref f)) (h : TabIn P w K mg base k es t) : TabIn P w K mg base k es ((s, F) :: t) := fun s' F' e => by
  unfold look at e
  split at e
  · rename_i q
    cases e
    subst q
    exact ⟨f, he, (c.at hm).mono le⟩
  · exact h s' F' e
end
section
variable {X : Cx}
/-- what stands in the module's dict behind a text -/
theorem pe_fn {x : Str} {a : Addr} {es : Array DictEntry} {ep : Nat} {sl : Array (Option Value)} {p pos : Pos} {i : Expr} {ti : TE} (hx : X.mg x = some (.ref a)) (hl : X.K.lookup a = some ⟨.type "dict", none, .dict es ep, sl⟩)
    (hall : (es.all fun e => isExactStrKey e.key) = true) (hi : PE X i ti) (hg : Gl X x := by rfl) (hs : NoSl i := by intro _ _; rfl) (hdb : (x == ("__debug__" : Str)) = false := by decide) :
    PE X (.Subscript (.Name x p) i pos) (fun σ H Q => ti σ H fun y H1 => ∃ st f, y = .str st ∧ inE es st = some (.ref f) ∧ Q (.ref f) H1) := by
  refine ⟨fun pins s σ H Q I h => ?_⟩
  refine subD_of PySem.F.slot_dict_getitem.lookup hs (thn ((pe_glob (v := .ref a) (pos := p) hg hx rfl hdb).run pins s σ H (fun v H1 => v = .ref a ∧ H1 = H) I ⟨rfl, rfl⟩) fun u s1 ⟨x0, H1, I1, rx, q1⟩ => ?_)
  obtain ⟨rfl, rfl⟩ := q1
  cases rx
  refine thn (hi.run pins s1 σ H1 _ I1 h) fun iv s2 ⟨y, H2, I2, ry, st, f, ey, hf, q2⟩ => ?_
  subst ey
  obtain ⟨t, rfl⟩ : ∃ t, iv = Value.str st t := ry
  have ho := I2.kIn _ _ hl
  have ty : s2.TypeIs (.ref a) "dict" := ⟨_, ho, rfl⟩
  refine ⟨ty, ?_⟩
  unfold getItem
  try with_reducible refine wpAny_holding ?_
  refine wpAny_bind (wpAny_sequenceKey ty (by decide) ?_)
  refine wpAny_bind (wpAny_callSpecial?_slot (name := Str.ofString "__getitem__") ty PySem.F.slot_dict_getitem (wpAny_call_entry PySem.F.slot_dict_getitem ty PySem.F.entry_dict_getitem ?_ (PySem.args_dict_getitem _ _)))
  show wpAny _ _ (dictGet a (.str st t) >>= _) _ _ s2
  refine wpAny_bind ?_
  unfold dictGet
  try with_reducible refine wpAny_holding ?_
  refine wpAny_bind (wpAny_pyHash_str (wpAny_bind (KTD.kt_dictFind_strs (s := { s2 with toks := s2.toks + 1 }) ho rfl hall ?_)))
  unfold inE at hf
  rw [findBy_of_findIdx?] at hf
  have done : wpAny (model X.prog X.w) X.A (pure (Value.ref f)) (EP X pins σ Q) X.xe { s2 with toks := s2.toks + 1 } := wpAny_pure ⟨.ref f, H2, I2.tok _, rfl, q2⟩
  cases e : es.findIdx? fun e => e.key.isStr st with
  | none => rw [e] at hf; cases hf
  | some j =>
    rw [e] at hf
    refine wpAny_bind (wpAny_dictEntries (s := { s2 with toks := s2.toks + 1 }) ho rfl ?_)
    dsimp only at hf ⊢
    rw [hf]
    exact wpAny_pure (wpAny_pure ⟨_, rfl, done⟩)
/-- a local name that holds a def, called -/
theorem pe_cf {i j : Nat} {x : Str} {e : Expr} {es : List Expr} {t : TA} {p pos : Pos} (hr : Room j X.A) (hN : X.N[i]? = some x) (hv : Vis X.env.scope x) (ha : PA X (e :: es) t)
    (hd : (x == ("__debug__" : Str)) = false := by decide) (hcd : (x == ("__classdict__" : Str)) = false := by decide)
    (he : starEach (e :: es) X.env = (false, eval e X.env) :: starEach es X.env := by rfl) (hpl : (backTo pos (starEach es X.env)).any (·.1) = false := by rfl) :
    PE X (.Call (.Name x p) (e :: es) [] pos) (fun σ H Q => ∃ f sp, σ[i]? = some (some (.ref f)) ∧ FnAt X.prog X.w X.K X.mg X.base j f sp ∧ t σ H fun vs H1 => sp vs H1 Q E0) := by
  refine ⟨fun pins s σ H Q I ⟨f, sp, hσ, ⟨fd, ps, kp, b, F⟩, ht⟩ => ?_⟩
  refine wpAny_Call_Name_kw (thn ((pe_var (pos := p) hN hv hd hcd).run pins s σ H (fun v H1 => v = .ref f ∧ H1 = H) I ⟨.ref f, hσ, rfl, rfl⟩) fun u s1 ⟨v, H1, I1, r1, q1⟩ => ?_)
  obtain ⟨e1, e2⟩ := q1
  subst e1 e2
  cases r1
  refine PySem.W.callWith_K (h₀ := X.base) I.ok.mod.kin kp (thn (ha.run pos pins s1 σ _ _ I1 ht) fun us s2 ⟨vs, H2, I2, r, q⟩ => ⟨I2.kIn, ?_⟩) he hpl
  exact run_fn F hr b .nil pass0 I2 r (by rw [List.append_nil]; exact q)
end
/-- action = DEEDS[name]; return action(..) -/
def zDeed (i : Nat) (tab : Tab) (mk : ZM) (mr : ZAr) : SM := fun g => do
  let (rk, g1) ← mk g
  let s ← isS rk
  let F ← look tab s
  if freeAt i g1 = true then zRet (zCall F mr) (g1.set i .un) else none
section
variable {X : Cx}
theorem zss_deed {i j : Nat} {x act : Str} {tab : Tab} {mk : ZM} {mr : ZAr} {ke e : Expr} {es : List Expr} {p1 p2 p3 p4 p5 p6 p7 : Pos} (hT : TabOk X.prog X.w X.K X.mg X.base j x tab) (hr : Room j X.A)
    (hN : X.N.Nodup) (hi : X.N[i]? = some act) (hx : Loc X.env.scope act) (hv : Vis X.env.scope act) (hk : ZE X ke mk) (ha : ZAs X (e :: es) mr)
    (hg : Gl X x := by rfl) (hs : NoSl ke := by intro _ _; rfl) (hdb : (x == ("__debug__" : Str)) = false := by decide)
    (hsw : swapsWith (.Subscript (.Name x p2) ke p3) (some (.Name act p1)) p4.line X.env = pure false := by rfl) (hf : X.fn act = true ∨ X.env.scope.names.lookup act = some .local := by first | exact .inl rfl | exact .inr rfl | assumption)
    (hd : (act == ("__debug__" : Str)) = false := by decide) (hcd : (act == ("__classdict__" : Str)) = false := by decide)
    (he : starEach (e :: es) X.env = (false, eval e X.env) :: starEach es X.env := by rfl) (hpl : (backTo p6 (starEach es X.env)).any (·.1) = false := by rfl) :
    ZSs X [.Assign [.Name act p1] (.Subscript (.Name x p2) ke p3) p4, .Return (some (.Call (.Name act p5) (e :: es) [] p6)) p7] (zDeed i tab mk mr) := by
  obtain ⟨a, ds, ep, sl, hm, hl, hall, hin⟩ := hT
  refine PSs.of (pss_cons (ps_set hN hi hx (pe_fn hm hl hall hk hg hs hdb) hsw hf) (pss_one (ps_ret (pe_cf hr hi hv ha hd hcd he hpl)))) fun D σ H ⟨C, Hs, A, g, fl, g', hK, hn, ok, ev, q⟩ => ?_
  unfold zDeed at ev
  simp only [Option.bind_eq_bind, Option.bind_eq_some_iff] at ev
  obtain ⟨⟨rk, g1⟩, h1, s, h2, F, h3, ev⟩ := ev
  have er := isS_some h2
  subst er
  split at ev
  · rename_i hfree
    obtain ⟨f, hf1, hf2⟩ := hin s F h3
    refine ⟨C, Hs, A, g, _, g1, hK, hn, ok, h1, fun Hs1 A1 v1 H1 s1 p1 ok1 rel1 => ?_⟩
    have e1 : v1 = .str ⟨s.toArray⟩ := (show Dz C.K Hs1 v1 (.str s) from rel1).v rfl
    refine ⟨_, f, e1, hf1, ?_⟩
    have hil : i < σ.length := by rw [ok1.ln, hn]; exact (List.getElem?_eq_some_iff.mp hi).1
    have ok2 : Ok C Hs1 A1 (g1.set i .un) (σ.set i (some (.ref f))) H1 := ok1.put hfree (by rw [List.length_set]) (fun k ne => List.getElem?_set_ne (Ne.symm ne)) (.inl rfl)
    show ∃ f sp, _
    refine ⟨f, spP X.K F, List.getElem?_set_self hil, hf2, ?_⟩
    unfold zRet at ev
    simp only [Option.bind_eq_bind, Option.bind_eq_some_iff] at ev
    obtain ⟨⟨r2, g2⟩, h4, ev⟩ := ev
    cases ev
    have hc : tZ X.K X.N.length (zCall F mr) (σ.set i (some (.ref f))) H1 D.rt := ⟨C, Hs1, A1, _, r2, _, hK, hn, ok2, h4, fun Hs2 A2 v2 H2 s2 p2 ok3 rel3 => q Hs2 A2 _ H2 v2 (s1.trans s2) ok3 rel3⟩
    have hcall := call_of (E := E0) hc
    obtain ⟨C', Hs', A', g3, rs, g4, k1, k2, k3, k4, k5⟩ := hcall
    refine ⟨C', Hs', A', g3, rs, g4, k1, k2, k3, k4, fun Hs2 A2 vs H2 z1 z2 z3 z4 => ?_⟩
    have this : spP X.K F (vs ++ []) H2 D.rt E0 := k5 Hs2 A2 vs H2 z1 z2 z3 z4
    rw [List.append_nil] at this
    exact this
  · cases ev
end
section
variable {g g1 : G}
theorem deed_run {i : Nat} {tab : Tab} {mk : ZM} {mr : ZAr} {s : List Nat} {F : List D → Option FR} {o : Option (Fl × G)} (h1 : mk g = some (.dat (.str s), g1)) (h2 : look tab s = some F) (h3 : freeAt i g1 = true) (h4 : zRet (zCall F mr) (g1.set i .un) = o) : zDeed i tab mk mr g = o := by
  simp only [zDeed, h1, isS, h2, h3, if_true, Option.bind_eq_bind, Option.bind_some]
  exact h4
end
end Z
set_option Elab.async false
set_option linter.all false
set_option maxRecDepth 100000
set_option maxHeartbeats 4000000
namespace Z
open PySem PySem.Spec PyProof.Rows L2
section
open PySem.SeqAt PySem.MeetsSeq PySem.MeetsSeq2 PySem.MeetsSeq3 Ob
open PySem.AutoSeq1 (wpAny_loadPart')
theorem tup_meetE (p q : Addr) (us ws : Array Value) (n m : Nat) (c1 c2 : Option Addr) (t1 t2 : Array (Option Value)) (e r : Nat → Bool) :
    Meets (Builtin.«tuple.__le__» ⟨[.ref p, .ref q], []⟩)
      (fun A R s => s.heap.get? p = some { cls := .type "tuple", dict := c1, data := .seq us n, slots := t1 } ∧ s.heap.get? q = some { cls := .type "tuple", dict := c2, data := .seq ws m, slots := t2 } ∧
        (∀ j (h1 : j < us.size) (h2 : j < ws.size), EqAt A.in1 s us[j] ws[j] (e j)) ∧
        (∀ j (h1 : j < us.size) (h2 : j < ws.size), (∀ i, i < j → e i = true) → e j = false → Ob.RcOp .LtE A.in1 s us[j] ws[j] (r j)) ∧
        R (.ok (.ret (.bool (lexAt e r (decide (us.size ≤ ws.size)) 0 (min us.size ws.size))))) s) := by
  refine .of_wp fun prog w A R s hyp => ?_
  obtain ⟨hp, gg, dd, tk, os⟩ := s
  obtain ⟨atp, atq, eqs, lts, goal⟩ := hyp
  have subs := AutoSeq1.sub_tuple_tuple
  have zl : (us.toList.zip ws.toList).length = min us.size ws.size := by simp
  wp_walk using wpAny_loadPart' atp, wpAny_loadPart' atq, wpAny_forIn_list _ (fun left acc st => acc.1 = none ∧ st = ⟨hp, gg, dd, tk, os⟩ ∧ ∃ k, left = (us.toList.zip ws.toList).drop k ∧ (∀ i, i < k → e i = true) ∧
    R (.ok (.ret (.bool (lexAt e r (decide (us.size ≤ ws.size)) k (min us.size ws.size - k))))) ⟨hp, gg, dd, tk, os⟩) _
  case turn =>
    rintro ⟨u1, w1⟩ left acc st ⟨_, rfl, k, hz, before, hR⟩
    have hk : k < (us.toList.zip ws.toList).length := by
      by_cases c : k < (us.toList.zip ws.toList).length
      · exact c
      · rw [List.drop_of_length_le (by omega)] at hz
        cases hz
    have hm : k < min us.size ws.size := zl ▸ hk
    have k1 : k < us.size := by omega
    have k2 : k < ws.size := by omega
    rw [List.drop_eq_getElem_cons hk] at hz
    injection hz with pair others
    have eu : u1 = us[k] := by simpa using congrArg Prod.fst pair
    have ew : w1 = ws[k] := by simpa using congrArg Prod.snd pair
    subst eu ew
    rw [show min us.size ws.size - k = (min us.size ws.size - (k + 1)) + 1 by omega, lexAt_succ] at hR
    refine wpAny_bind (eqs k k1 k2 prog w _ _ ?_)
    cases hek : e k with
    | true =>
      rw [hek, if_pos rfl] at hR
      wp_walk
      refine ⟨rfl, rfl, k + 1, others, fun i hi => ?_, hR⟩
      by_cases c : i = k
      · rw [c]; exact hek
      · exact before i (by omega)
    | false =>
      rw [hek, if_neg Bool.false_ne_true] at hR
      have now := lts k k1 k2 before hek prog w
      wp_walk using now
      exact ⟨_, rfl, by simpa using hR⟩
  case fin =>
    rintro ⟨a1, a2⟩ st ⟨ha, rfl, k, hz, _, hR⟩
    simp only at ha
    subst ha
    have over : min us.size ws.size ≤ k := by
      by_cases c : k < (us.toList.zip ws.toList).length
      · rw [List.drop_eq_getElem_cons c] at hz
        cases hz
      · omega
    rw [Nat.sub_eq_zero_of_le over, lexAt_zero] at hR
    wp_walk
    exact ⟨_, rfl, by simpa [Builtin.Tuple.tupleCompareSizes] using hR⟩
  case h =>
    exact ⟨rfl, rfl, 0, rfl, fun i hi => absurd hi (Nat.not_lt_zero i), by simpa using goal⟩
theorem tup_le {A : Around} {s : Shared} {p q : Addr} {us ws : Array Value} {e r : Nat → Bool} (atp : s.heap.IsTuple p us) (atq : s.heap.IsTuple q ws) (room : A.units < cLine)
    (eqs : ∀ j (h1 : j < us.size) (h2 : j < ws.size), EqAt A.in1 s us[j] ws[j] (e j))
    (lts : ∀ j (h1 : j < us.size) (h2 : j < ws.size), (∀ i, i < j → e i = true) → e j = false → Ob.RcOp .LtE A.in1 s us[j] ws[j] (r j)) :
    Ob.RcOp .LtE A s (.ref p) (.ref q) (lexAt e r (decide (us.size ≤ ws.size)) 0 (min us.size ws.size)) := by
  intro prog w E Q h
  obtain ⟨⟨k1, c1, d1, t1⟩, o1, rfl, n, rfl⟩ := id atp
  obtain ⟨⟨k2, c2, d2, t2⟩, o2, rfl, m, rfl⟩ := id atq
  exact richCompare_meets_room (op := .LtE) ⟨_, o1, rfl⟩ ⟨_, o2, rfl⟩ F.slot_tuple_le F.entry_tuple_le (F.args_tuple_le_2 _ _) (tup_meetE p q us ws n m c1 c2 t1 t2 e r) ⟨o1, o2, eqs, lts, ⟨nofun, h⟩⟩ room
mutual
def leP : PyData → PyData → Option Bool
  | .int a, .int b => some (decide (a ≤ b))
  | .str x, .str y => some (!decide (y.cps.toList < x.cps.toList))
  | .tuple xs, .tuple ys => lePs xs ys
  | _, _ => none
def lePs : List PyData → List PyData → Option Bool
  | [], [] => some true
  | [], _ :: _ => some true
  | _ :: _, [] => some false
  | x :: xs, y :: ys => if PyData.eqv x y = true then lePs xs ys else leP x y
end
theorem first_neE {b : Bool} : ∀ {xs ys : List PyData} {j : Nat} (h1 : j < xs.length) (h2 : j < ys.length), lePs xs ys = some b → (∀ i (i1 : i < xs.length) (i2 : i < ys.length), i < j → PyData.eqv xs[i] ys[i] = true) → PyData.eqv xs[j] ys[j] = false → leP xs[j] ys[j] = some b
  | x :: xs, y :: ys, 0, _, _, h, _, ne => by
    have ne : PyData.eqv x y = false := ne
    simp only [lePs, ne, Bool.false_eq_true, if_false] at h
    exact h
  | x :: xs, y :: ys, j + 1, h1, h2, h, eqs, ne => by
    have e0 : PyData.eqv x y = true := eqs 0 (by simp) (by simp) (by omega)
    simp only [lePs, e0, if_true] at h
    exact first_neE (xs := xs) (ys := ys) (j := j) (Nat.lt_of_succ_lt_succ h1) (Nat.lt_of_succ_lt_succ h2) h (fun i i1 i2 hi => eqs (i + 1) (Nat.succ_lt_succ i1) (Nat.succ_lt_succ i2) (by omega)) ne
theorem all_eqE : ∀ {xs ys : List PyData}, (∀ i (i1 : i < xs.length) (i2 : i < ys.length), PyData.eqv xs[i] ys[i] = true) → lePs xs ys = some (decide (xs.length ≤ ys.length))
  | [], [], _ => rfl
  | [], _ :: _, _ => by simp [lePs]
  | _ :: _, [], _ => by simp [lePs]
  | x :: xs, y :: ys, eqs => by
    have e0 : PyData.eqv x y = true := eqs 0 (by simp) (by simp)
    have ih := all_eqE (xs := xs) (ys := ys) fun i i1 i2 => eqs (i + 1) (Nat.succ_lt_succ i1) (Nat.succ_lt_succ i2)
    simp only [lePs, e0, if_true, ih]
    simp
theorem rc_le : ∀ (n : Nat) (d e : PyData) (b : Bool) (A : Around) (s : Shared) (u v : Value) (as bs : List Addr), d.depth ≤ n → leP d e = some b → Reads s.heap u d as → Reads s.heap v e bs → d.canLay0 = true → e.canLay0 = true → A.units + n < cLine → Ob.RcOp .LtE A s u v b := by
  intro n
  induction n with
  | zero =>
    intro d e b A s u v as bs hn h ru rv ld le room
    cases ru with
    | int i t =>
      cases rv with
      | int j t' => cases h; exact .le_int i j t t'
      | _ => cases h
    | str x t =>
      cases rv with
      | str y t' => cases h; exact fun prog w E Q q => PySem.P.le_str q
      | _ => cases h
    | tuple _ _ _ _ =>
      have hn : PyData.depthAll _ + 1 ≤ 0 := hn
      omega
    | _ => cases rv <;> cases h
  | succ n ih =>
    intro d e b A s u v as bs hn h ru rv ld le room
    cases ru with
    | int i t =>
      cases rv with
      | int j t' => cases h; exact .le_int i j t t'
      | _ => cases h
    | str x t =>
      cases rv with
      | str y t' => cases h; exact fun prog w E Q q => PySem.P.le_str q
      | _ => cases h
    | tuple h1 h2 h3 h4 =>
      rename_i p o vs n1 xs
      cases rv with
      | tuple g1 g2 g3 g4 =>
        rename_i q o' ws n2 ys
        have h : lePs xs ys = some b := h
        have hn : PyData.depthAll xs + 1 ≤ n + 1 := hn
        have ld : PyData.canLayAll0 xs = true := by simpa only [PyData.canLay0] using ld
        have le : PyData.canLayAll0 ys = true := by simpa only [PyData.canLay0] using le
        have lx : vs.size = xs.length := by rw [← reads_len h4, Array.length_toList]
        have ly : ws.size = ys.length := by rw [← reads_len g4, Array.length_toList]
        have tp : s.heap.IsTuple p vs := ⟨o, h1, h2, n1, h3⟩
        have tq : s.heap.IsTuple q ws := ⟨o', g1, g2, n2, g3⟩
        have key := tup_le (A := A) (s := s) (e := fun j => PyData.eqv (xs[j]?.getD .none) (ys[j]?.getD .none)) (r := fun _ => b) tp tq (by omega) (fun j j1 j2 => by
          have a1 : j < xs.length := by omega
          have a2 : j < ys.length := by omega
          obtain ⟨r1, w1⟩ := reads_get h4 (j := j) (by rw [Array.length_toList]; exact j1) a1
          obtain ⟨r2, w2⟩ := reads_get g4 (j := j) (by rw [Array.length_toList]; exact j2) a2
          have dep := depth_mem (x := .none) a1
          simp only [List.getElem?_eq_getElem a1, List.getElem?_eq_getElem a2, Option.getD_some]
          rw [Array.getElem_toList] at w1 w2
          exact eqAt_reads _ _ _ _ _ _ _ _ w1 w2 (lay_mem a1 ld) (lay_mem a2 le) (by show A.units + 1 + _ < cLine; omega)) (fun j j1 j2 bef ne => by
          have a1 : j < xs.length := by omega
          have a2 : j < ys.length := by omega
          obtain ⟨r1, w1⟩ := reads_get h4 (j := j) (by rw [Array.length_toList]; exact j1) a1
          obtain ⟨r2, w2⟩ := reads_get g4 (j := j) (by rw [Array.length_toList]; exact j2) a2
          have dep := depth_mem (x := .none) a1
          rw [Array.getElem_toList] at w1 w2
          simp only [List.getElem?_eq_getElem a1, List.getElem?_eq_getElem a2, Option.getD_some] at ne
          have lt := first_neE a1 a2 h (fun i i1 i2 hi => by
            have := bef i hi
            simpa only [List.getElem?_eq_getElem i1, List.getElem?_eq_getElem i2, Option.getD_some] using this) ne
          exact ih _ _ b _ _ _ _ _ _ (by omega) lt w1 w2 (lay_mem a1 ld) (lay_mem a2 le) (by show A.units + 1 + n < cLine; omega))
        have val : lexAt (fun j => PyData.eqv (xs[j]?.getD .none) (ys[j]?.getD .none)) (fun _ => b) (decide (vs.size ≤ ws.size)) 0 (min vs.size ws.size) = b := by
          apply lexAt_const
          by_cases c : ∀ i (i1 : i < xs.length) (i2 : i < ys.length), PyData.eqv xs[i] ys[i] = true
          · left
            rw [lx, ly]
            have := all_eqE c
            rw [h] at this
            exact (Option.some.inj this).symm
          · right
            simp only [Classical.not_forall] at c
            obtain ⟨i, i1, i2, c⟩ := c
            exact ⟨i, Nat.zero_le _, by omega, by simp only [List.getElem?_eq_getElem i1, List.getElem?_eq_getElem i2, Option.getD_some]; exact Bool.eq_false_iff.mpr c⟩
        rw [val] at key
        exact key
      | _ => cases h
    | _ => cases rv <;> cases h
end
mutual
def leT : D → D → Option Bool
  | .int a, .int b => some (decide (a ≤ b))
  | .str x, .str y => some (!decide (y < x))
  | .tup xs, .tup ys => leTs xs ys
  | _, _ => none
def leTs : List D → List D → Option Bool
  | [], [] => some true
  | [], _ :: _ => some true
  | _ :: _, [] => some false
  | x :: xs, y :: ys => if D.eqv x y = true then leTs xs ys else leT x y
end
mutual
theorem leT_py : ∀ d e : D, ∀ b, leT d e = some b → leP d.py e.py = some b
  | .int a, .int b, _, h => h
  | .str x, .str y, _, h => h
  | .tup xs, .tup ys, b, h => leTs_py xs ys b h
  | .int _, .non, _, h | .int _, .bl _, _, h | .int _, .str _, _, h | .int _, .tup _, _, h | .int _, .lst _, _, h | .int _, .raw _, _, h | .int _, .dic _ _, _, h | .int _, .obj _ _ _, _, h => by cases h
  | .str _, .non, _, h | .str _, .bl _, _, h | .str _, .int _, _, h | .str _, .tup _, _, h | .str _, .lst _, _, h | .str _, .raw _, _, h | .str _, .dic _ _, _, h | .str _, .obj _ _ _, _, h => by cases h
  | .tup _, .non, _, h | .tup _, .bl _, _, h | .tup _, .int _, _, h | .tup _, .str _, _, h | .tup _, .lst _, _, h | .tup _, .raw _, _, h | .tup _, .dic _ _, _, h | .tup _, .obj _ _ _, _, h => by cases h
  | .non, _, _, h | .bl _, _, _, h | .lst _, _, _, h | .raw _, _, _, h | .dic _ _, _, _, h | .obj _ _ _, _, _, h => by cases h
theorem leTs_py : ∀ l m : List D, ∀ b, leTs l m = some b → lePs (D.pyA l) (D.pyA m) = some b
  | [], [], _, h => h
  | [], _ :: _, _, h => h
  | _ :: _, [], _, h => h
  | x :: xs, y :: ys, b, h => by
    show (if PyData.eqv x.py y.py = true then lePs (D.pyA xs) (D.pyA ys) else leP x.py y.py) = some b
    rw [D.py_eqv]
    simp only [leTs] at h
    split at h
    · rename_i c; rw [if_pos c]; exact leTs_py xs ys b h
    · rename_i c; rw [if_neg c]; exact leT_py x y b h
end
def leX (d e : D) : Option D := match d, e with
  | .int i, .int j => some (.bl (decide (i ≤ j)))
  | .str i, .str j => some (.bl (!decide (j < i)))
  | .tup l, .tup m => if ((D.tup l).shp && (D.tup m).shp) = true then (leTs l m).map D.bl else none
  | _, _ => none
def rLeD (K : PySem.W.Frag) : R2 := fun x y H Q => ∃ d e b, Dp K H x d ∧ Dp K H y e ∧ SeqAt.shaped d = true ∧ SeqAt.shaped e = true ∧ leP d e = some b ∧ Q (.bl b) H
theorem op_leD {X : Cx} (room : X.A.units + 64 < cLine) : OpR X (compareOp .LtE) (rLeD X.K) := by
  intro pins s σ H x y v u Q I rx ry h
  obtain ⟨d, e, b, hd, he, sd, se, lt, q⟩ := h
  obtain ⟨as, r1⟩ := Dp.reads I d x v hd rx
  obtain ⟨bs, r2⟩ := Dp.reads I e y u he ry
  have key := rc_le 64 d e b X.A s _ _ _ _ (SeqAt.depth_of_shaped sd) lt r1 r2 (SeqAt.canLay_of_shaped sd) (SeqAt.canLay_of_shaped se) room
  exact key X.prog X.w _ _ ⟨.bl _, H, I, rfl, q⟩
theorem o_leX {X : Cx} {k : Nat} (hr : Room k X.A) : OpR X (compareOp .LtE) (fun x y H Q => rLeU x y H Q ∨ rLeD X.K x y H Q) := OpR.or o_le (op_leD hr.units)
theorem s_leX {K : PySem.W.Frag} : OpS K (fun x y H Q => rLeU x y H Q ∨ rLeD K x y H Q) leX := by
  intro H x y d e z Q hx hy h q
  unfold leX at h
  split at h
  · rename_i i j
    exact .inl (s_le H x y _ _ z Q hx hy (show leD (.int i) (.int j) = some z from h) q)
  · rename_i i j
    exact .inl (s_le H x y _ _ z Q hx hy (show leD (.str i) (.str j) = some z from h) q)
  · rename_i l m
    split at h
    · rename_i c
      rw [Bool.and_eq_true] at c
      rw [Option.map_eq_some_iff] at h
      obtain ⟨b, hb, rfl⟩ := h
      exact .inr ⟨_, _, b, hx.dp (SeqAt.canLay_of_shaped c.1), hy.dp (SeqAt.canLay_of_shaped c.2), c.1, c.2, leTs_py l m b hb, q⟩
    · cases h
  · cases h
end Z
set_option Elab.async false
set_option linter.all false
set_option maxRecDepth 100000
set_option maxHeartbeats 4000000
namespace Z
open PySem PySem.Spec PyProof.Rows L2
end Z
set_option Elab.async false
set_option linter.all false
set_option maxRecDepth 100000
set_option maxHeartbeats 4000000
namespace Z
open PySem PySem.Spec PyProof.Rows L2
def VW (v : D) : Prop := match v with
  | .non => True
  | .bl _ => True
  | .int i => i.natAbs ≤ 10 ^ 15
  | .str t => t.length ≤ 10000 ∧ ∀ c ∈ t, c < 128
  | _ => False
theorem VW.scal {v : D} (h : VW v) : v.scal = true := by cases v <;> first | exact h.elim | rfl
theorem VW.rok {v : D} (h : VW v) : v.rok = true ∧ v.dp = 0 := by
  cases v with
  | non => exact ⟨rfl, rfl⟩
  | bl b => exact ⟨rfl, rfl⟩
  | int i => exact ⟨decide_eq_true (Nat.lt_of_le_of_lt (show i.natAbs ≤ 10 ^ 15 from h) (by decide)), rfl⟩
  | str t =>
    obtain ⟨h1, h2⟩ := (show t.length ≤ 10000 ∧ ∀ c ∈ t, c < 128 from h)
    refine ⟨?_, rfl⟩
    show (t.all fun c => decide (c < 1114112)) = true
    rw [List.all_eq_true]
    intro c hc
    exact decide_eq_true (Nat.lt_trans (h2 c hc) (by decide))
  | tup _ => exact h.elim
  | lst _ => exact h.elim
  | raw _ => exact h.elim
  | dic _ _ => exact h.elim
  | obj _ _ _ => exact h.elim
theorem rk_rokW {v : D} (h : VW v) : (rk v).rok = true ∧ (rk v).dp = 1 ∧ True := by
  have f := h.rok
  cases v with
  | non => exact ⟨by decide, rfl, trivial⟩
  | bl b => cases b <;> exact ⟨by decide, rfl, trivial⟩
  | int i =>
    refine ⟨?_, rfl, trivial⟩
    show (decide ((2 : Int).natAbs < 10 ^ 60) && ((D.int i).rok && true)) = true
    rw [f.1, decide_eq_true (by decide)]; rfl
  | str t =>
    refine ⟨?_, rfl, trivial⟩
    show (decide ((3 : Int).natAbs < 10 ^ 60) && ((D.str t).rok && true)) = true
    rw [f.1, decide_eq_true (by decide)]; rfl
  | tup _ => exact h.elim
  | lst _ => exact h.elim
  | raw _ => exact h.elim
  | dic _ _ => exact h.elim
  | obj _ _ _ => exact h.elim
theorem kx_sameW {v w : D} (hv : VW v) (hw : VW w) (h : kd v = kd w) : (∃ i j, kx v = .int i ∧ kx w = .int j) ∨ ∃ x y, kx v = .str x ∧ kx w = .str y := by
  cases v <;> cases w <;> first
    | exact hv.elim
    | exact hw.elim
    | exact .inl ⟨_, _, rfl, rfl⟩
    | exact .inr ⟨_, _, rfl, rfl⟩
    | cases h
theorem ltT_rkW {v w : D} (hv : VW v) (hw : VW w) (ne : sameV v w = false) : ltT (rk v) (rk w) = some (ltV v w) := by
  rw [sameV_eq] at ne
  show ltTs [.int (kd v : Nat), kx v] [.int (kd w : Nat), kx w] = _
  unfold ltV
  by_cases c : kd v = kd w
  · rw [if_pos c]
    rw [decide_eq_true c, Bool.true_and] at ne
    have e0 : D.eqv (.int (kd v : Nat)) (.int (kd w : Nat)) = true := by rw [c]; exact beq_self_eq_true _
    simp only [ltTs, e0, if_true, ne, Bool.false_eq_true, if_false]
    rcases kx_sameW hv hw c with ⟨i, j, e1, e2⟩ | ⟨i, j, e1, e2⟩
    · rw [e1, e2]; rfl
    · rw [e1, e2]; rfl
  · rw [if_neg c]
    have e0 : D.eqv (.int (kd v : Nat)) (.int (kd w : Nat)) = false := by
      show (((kd v : Nat) : Int) == ((kd w : Nat) : Int)) = false
      rw [beq_eq_false_iff_ne]
      omega
    simp only [ltTs, e0, Bool.false_eq_true, if_false]
    show some (decide (((kd v : Nat) : Int) < ((kd w : Nat) : Int))) = some (decide (kd v < kd w))
    congr 1
    rw [Bool.eq_iff_iff]
    simp
theorem triVW {v w : D} (hv : VW v) (hw : VW w) : sameV v w = (!ltV v w && !ltV w v) := by
  rw [sameV_eq]
  unfold ltV
  by_cases c : kd v = kd w
  · rw [if_pos c, if_pos c.symm, decide_eq_true c, Bool.true_and]
    rcases kx_sameW hv hw c with ⟨i, j, e1, e2⟩ | ⟨i, j, e1, e2⟩
    · rw [e1, e2]
      show (i == j) = (!decide (i < j) && !decide (j < i))
      rw [Bool.eq_iff_iff]
      simp
      omega
    · rw [e1, e2]
      show (i == j) = (!decide (i < j) && !decide (j < i))
      rw [Bool.eq_iff_iff]
      have := natL_tri i j
      simp only [beq_iff_eq, Bool.and_eq_true, Bool.not_eq_true', decide_eq_false_iff_not]
      exact this
  · rw [if_neg c, if_neg (fun h => c h.symm), decide_eq_false c, Bool.false_and]
    rcases Nat.lt_or_gt_of_ne c with h | h
    · rw [decide_eq_true h]; rfl
    · rw [decide_eq_true (show kd w < kd v from h), Bool.not_true, Bool.and_false]
theorem eq_rkW {v w : D} (hv : VW v) (hw : VW w) : eqD (rk v) (rk w) = some (.bl (sameV v w)) := by
  obtain ⟨a1, b1, _⟩ := rk_rokW hv
  obtain ⟨a2, b2, _⟩ := rk_rokW hw
  exact dr_eqR a1 (by omega) a2 (by omega)
theorem lt_rkW {v w : D} (hv : VW v) (hw : VW w) : ltX (rk v) (rk w) = some (.bl (ltR [v] [w])) := by
  obtain ⟨a1, b1, _⟩ := rk_rokW hv
  obtain ⟨a2, b2, _⟩ := rk_rokW hw
  have s1 := rok_shp a1 (by omega)
  have s2 := rok_shp a2 (by omega)
  show (if ((rk v).shp && (rk w).shp) = true then (ltT (rk v) (rk w)).map D.bl else none) = _
  rw [s1, s2, if_pos (show (true && true) = true from rfl)]
  show (ltT (rk v) (rk w)).map D.bl = some (.bl (if sameV v w = true then false else ltV v w))
  by_cases c : sameV v w = true
  · rw [if_pos c]
    have c2 := c
    rw [sameV_eq, Bool.and_eq_true] at c2
    have e0 : D.eqv (.int (kd v : Nat)) (.int (kd w : Nat)) = true := by rw [of_decide_eq_true c2.1]; exact beq_self_eq_true _
    show (ltTs [.int (kd v : Nat), kx v] [.int (kd w : Nat), kx w]).map D.bl = _
    simp only [ltTs, e0, if_true, c2.2]
    rfl
  · rw [if_neg c, ltT_rkW hv hw (Bool.eq_false_iff.mpr c)]; rfl
theorem ltR1W {v w : D} (hv : VW v) (hw : VW w) : ltR [v] [w] = ltV v w := by
  show (if sameV v w = true then false else ltV v w) = _
  have t := triVW hv hw
  cases h : sameV v w with
  | true =>
    rw [h] at t
    have := (Bool.and_eq_true _ _ ▸ t.symm).1
    rw [if_pos rfl]
    simpa using this.symm
  | false => rw [if_neg Bool.false_ne_true]
end Z
set_option Elab.async false
set_option linter.all false
set_option maxRecDepth 100000
set_option maxHeartbeats 4000000
namespace Z
open PySem PySem.Spec PyProof.Rows L2
end Z
set_option Elab.async false
set_option linter.all false
set_option maxRecDepth 100000
set_option maxHeartbeats 4000000
namespace Z
open PySem PySem.Spec PyProof.Rows L2
section
variable {mo me ma mb : ZM} {mr : ZAr} {g g1 g2 : G} {r : R} {rs : List R} {n : Nat}
theorem er_slT {ml mh : ZO} {lo hi : Option Int} {l : List D} {g3 : G} (h1 : ma g = some (.dat (.tup l), g1)) (h2 : ml g1 = some (lo, g2)) (h3 : mh g2 = some (hi, g3)) : zSl ma ml mh g = some (.dat (.tup (cutL l lo hi)), g3) := by
  unfold zSl; simp only [h1, h2, h3, rd, Option.bind_eq_bind, Option.bind_some]
end
end Z
set_option Elab.async false
set_option linter.all false
set_option maxRecDepth 100000
set_option maxHeartbeats 4000000
namespace Z
open PySem PySem.Spec PyProof.Rows L2
end Z
set_option Elab.async false
set_option linter.all false
set_option maxRecDepth 100000
set_option maxHeartbeats 4000000
namespace Z
open PySem PySem.Spec PyProof.Rows L2
end Z
set_option Elab.async false
set_option linter.all false
set_option maxRecDepth 100000
set_option maxHeartbeats 4000000
namespace Z
open PySem PySem.Spec PyProof.Rows L2
end Z
set_option Elab.async false
set_option linter.all false
set_option maxRecDepth 100000
set_option maxHeartbeats 4000000
namespace PySem
open Sem (wp)
end PySem
namespace Z
open PySem PySem.Spec PyProof.Rows L2
end Z
set_option Elab.async false
set_option linter.all false
set_option maxRecDepth 100000
set_option maxHeartbeats 4000000
namespace Z
open PySem PySem.Spec PyProof.Rows L2
end Z
namespace Z
open PySem PySem.Spec PyProof.Rows L2
end Z
set_option Elab.async false
set_option linter.all false
set_option maxRecDepth 100000
set_option maxHeartbeats 4000000
namespace Z
open PySem PySem.Spec PyProof.Rows L2
end Z
set_option Elab.async false
set_option linter.all false
set_option maxRecDepth 100000
set_option maxHeartbeats 4000000
namespace Z
open PySem PySem.Spec PyProof.Rows L2
section
variable {C : Ct} {Hs : Hp} {A : List Addr} {g g' : List Sl} {σ : L2.St} {H H' : Hp} {j : Nat}
theorem KdOk.at {K : PySem.W.Frag} {Hs H : Hp} : ∀ {ks : List Addr} {ls : List (List D)} {k : Nat} {b : Addr}, KdOk K Hs H ks ls → ks[k]? = some b → ∃ l us, ls[k]? = some l ∧ H b = some (.lst us) ∧ DzA K Hs us l
  | b :: bs, l :: ls, 0, _, h, e => by
    cases e
    obtain ⟨us, h1, h2⟩ := h.1
    exact ⟨l, us, rfl, h1, h2⟩
  | b :: bs, l :: ls, k + 1, _, h, e => KdOk.at (k := k) h.2 e
  | [], _, k, _, _, e => by simp at e
  | _ :: _, [], _, _, h, _ => h.elim
theorem KdOk.put {K : PySem.W.Frag} {Hs H : Hp} {l' : List D} {us' : List V} (hz : DzA K Hs us' l') : ∀ {ks : List Addr} {ls : List (List D)} {k : Nat} {b : Addr}, KdOk K Hs H ks ls → ks.Nodup → ks[k]? = some b → KdOk K Hs (upd H b (.lst us')) ks (ls.set k l')
  | b :: bs, l :: ls, 0, _, h, nd, e => by
    cases e
    have nd := List.nodup_cons.mp nd
    exact ⟨⟨us', upd_same, hz⟩, KdOk.move (Same.refl _) h.2 fun x m o q => by rw [upd_ne (fun z => nd.1 (by rw [← z]; exact m))]; exact q⟩
  | b :: bs, l :: ls, k + 1, b', h, nd, e => by
    have nd := List.nodup_cons.mp nd
    have m : b' ∈ bs := List.mem_of_getElem? (i := k) e
    obtain ⟨us, h1, h2⟩ := h.1
    exact ⟨⟨us, by rw [upd_ne (fun z => nd.1 (by rw [z]; exact m))]; exact h1, h2⟩, KdOk.put (k := k) hz h.2 nd.2 e⟩
  | [], _, k, _, _, _, e => by simp at e
  | _ :: _, [], _, _, h, _, _ => h.elim
theorem KdOk.snoc {K : PySem.W.Frag} {Hs H : Hp} {b : Addr} {us : List V} {l : List D} (e : H b = some (.lst us)) (z : DzA K Hs us l) : ∀ {ks : List Addr} {ls : List (List D)}, KdOk K Hs H ks ls → KdOk K Hs H (ks ++ [b]) (ls ++ [l])
  | [], [], _ => ⟨⟨us, e, z⟩, trivial⟩
  | _ :: _, _ :: _, h => ⟨h.1, KdOk.snoc e z h.2⟩
  | [], _ :: _, h => h.elim
  | _ :: _, [], h => h.elim
end
end Z
set_option Elab.async false
set_option linter.all false
set_option maxRecDepth 100000
set_option maxHeartbeats 4000000
namespace Z
open PySem PySem.Spec PyProof.Rows L2
end Z
set_option Elab.async false
set_option linter.all false
set_option maxRecDepth 100000
set_option maxHeartbeats 4000000
namespace Z
open PySem PySem.Spec PyProof.Rows L2
end Z
set_option Elab.async false
set_option linter.all false
set_option maxRecDepth 100000
set_option maxHeartbeats 4000000
namespace ZS
open PySem PyProof.Rows Srt SrtO
section
variable {prog : Program} {w : World} {A : Around} {E : Value → Shared → Prop}
/-- the pairs that are sorted -/
def prs (b : Bool) (ks vs : List Value) : List Keyed := if b = true then (ks.zip vs).reverse else ks.zip vs
theorem prs_arr (b : Bool) (ks vs : List Value) : (if b = true then (ks.toArray.zip vs.toArray).reverse else ks.toArray.zip vs.toArray).toList = prs b ks vs := by
  unfold prs
  cases b <;> simp
theorem prs_len {b : Bool} {ks vs : List Value} (h : ks.length = vs.length) : (prs b ks vs).length = vs.length := by
  unfold prs
  cases b <;> simp [h]
theorem prs_fst {b : Bool} {ks vs : List Value} {p : Keyed} (h : p ∈ prs b ks vs) : p.1 ∈ ks := by
  have h2 : p ∈ ks.zip vs := by
    unfold prs at h
    cases b
    · exact h
    · exact List.mem_reverse.mp h
  obtain ⟨x, y⟩ := p
  exact (List.of_mem_zip h2).1
/-- the heap behind: the keys' list emptied, the list filled -/
def endHeap (h : Heap) (kS a : Addr) (out : List Value) : Heap := (h.update kS (Obj.mapSeq fun _ => (#[] : Array Value))).update a (Obj.mapSeq fun _ => out.toArray)
def outOf (b : Bool) (o : List Keyed) : List Value := if b = true then (o.map (·.2)).reverse else o.map (·.2)
theorem outOf_len {b : Bool} {o : List Keyed} : (outOf b o).length = o.length := by
  unfold outOf
  cases b <;> simp
theorem out_arr (b : Bool) (st : SortSt) : (if b = true then ((arrOf st).map (·.2)).reverse else (arrOf st).map (·.2)) = (outOf b (arrOf st).toList).toArray := by
  unfold outOf
  apply Array.toList_inj.mp
  cases b <;> simp
theorem zk_tail {s : Shared} {a kS e e1 : Nat} {b : Bool} {ks vs : List Value} {st : SortSt} {P : PySem.Fin → Shared → Prop} (hka : kS ≠ a) (nk : s.heap.get? kS = some (seqObj "list" ks.toArray e)) (na : s.heap.get? a = some (seqObj "list" #[] e1))
    (hk : ks.length = vs.length) (hz : vs.length ≤ sizeLine) (hl : (arrOf st).toList.length = vs.length) (hf : failedOf st = none) (h : P (.done (.ret .none)) { s with heap := endHeap s.heap kS a (outOf b (arrOf st).toList) }) :
    wpAny (model prog w) A (ksk_tail a b e1 (.ref kS) st) P E s := by
  have na1 : (s.heap.update kS (Obj.mapSeq fun _ => (#[] : Array Value))).get? a = some (seqObj "list" #[] e1) := (Heap.get?_update_ne _ _ _ _ (Ne.symm hka)).trans na
  have ez : (outOf b (arrOf st).toList).toArray.size ≤ sizeLine := by rw [List.size_toArray, outOf_len, hl]; exact hz
  unfold ksk_tail
  try dsimp only
  rw [out_arr]
  refine wpAny_bind (listUpdate_at nk rfl ?_ (by rw [List.size_toArray, hk]; exact hz) (Nat.zero_le _))
  refine wpAny_bind (wpAny_letGo ?_)
  refine wpAny_bind (seqEpoch_at na1 rfl ?_)
  refine wpAny_bind (listUpdate_at na1 rfl ?_ (Nat.zero_le _) (Nat.le_trans ez (Nat.le_succ _)))
  rw [hf]
  simp only [bne_self_eq_false, Bool.false_eq_true, if_false]
  exact wpAny_pure h
theorem zk_end {s : Shared} {a kS e e1 : Nat} {b : Bool} {ks vs : List Value} {lt : Keyed → Keyed → Bool} {P : PySem.Fin → Shared → Prop} (O : Swo lt) (hka : kS ≠ a) (nk : s.heap.get? kS = some (seqObj "list" ks.toArray e)) (na : s.heap.get? a = some (seqObj "list" #[] e1))
    (hk : ks.length = vs.length) (hz : vs.length ≤ sizeLine)
    (cmp : 2 ≤ vs.length → ∃ κ, (∀ (Q : SortKind → Shared → Prop) (E : Value → Shared → Prop), Q κ s → wpAny (model prog w) A (keyKind' ks.toArray) Q E s) ∧ Cmp prog w A s κ (fun p => p.1 ∈ ks) lt)
    (h : ∀ o, Srtd lt o → Stb lt o (prs b ks vs) → P (.done (.ret .none)) { s with heap := endHeap s.heap kS a (outOf b o) }) :
    wpAny (model prog w) A (ksk_end a b vs.toArray e1 (.ref kS) ks.toArray) P E s := by
  have step : ∀ t : Sem PySem.Fin, wpAny (model prog w) A t P E s → wpAny (model prog w) A (if b = true then (do let _ ← rule "list.sort.reverse"; t) else t) P E s := fun t ht => by
    split
    · exact wpAny_bind (wpAny_rule ht)
    · exact ht
  have done : ∀ st : SortSt, Srtd lt (arrOf st).toList → Stb lt (arrOf st).toList (prs b ks vs) → failedOf st = none → wpAny (model prog w) A (ksk_tail a b e1 (.ref kS) st) P E s := fun st h1 h2 h3 =>
    zk_tail hka nk na hk hz (by rw [h2.perm.length_eq]; exact prs_len hk) h3 (h _ h1 h2)
  unfold ksk_end
  try dsimp only
  refine step _ ?_
  by_cases h2 : vs.toArray.size < 2
  · rw [if_pos h2, if_pos h2]
    refine wpAny_bind (wpAny_pure ?_)
    rw [StateT.run_pure]
    refine wpAny_bind (wpAny_pure ?_)
    try dsimp only
    have e0 : (arrOf (SortSt.mk' general' (if b = true then (ks.toArray.zip vs.toArray).reverse else ks.toArray.zip vs.toArray) #[] 7 none)).toList = prs b ks vs := prs_arr b ks vs
    refine done _ ?_ (Stb.of_eq e0) rfl
    rw [e0]
    have hl := prs_len (b := b) hk
    rw [List.size_toArray] at h2
    match hp : prs b ks vs, hl with
    | [], _ => exact List.Pairwise.nil
    | [x], _ => exact srtd_one x
    | _ :: _ :: l, hl => simp at hl; omega
  · rw [if_neg h2, if_neg h2]
    rw [List.size_toArray] at h2
    obtain ⟨κ, c1, c2⟩ := cmp (by omega)
    refine wpAny_bind (c1 _ _ ?_)
    have hall : AllL (fun p : Keyed => p.1 ∈ ks) (if b = true then (ks.toArray.zip vs.toArray).reverse else ks.toArray.zip vs.toArray).toList := fun p hp => by
      rw [prs_arr] at hp
      exact prs_fst hp
    refine wpAny_bind (wpAny_mono (wpS_sortO (st0 := SortSt.mk' κ (if b = true then (ks.toArray.zip vs.toArray).reverse else ks.toArray.zip vs.toArray) #[] 7 none)
      (Q := fun _ st' => Srtd lt (arrOf st').toList ∧ Stb lt (arrOf st').toList (prs b ks vs) ∧ failedOf st' = none) O c2 rfl hall rfl rfl fun st' a1 a2 a3 => ⟨a1, by rw [← prs_arr]; exact a2, a3⟩) ?_ fun _ _ z => z)
    rintro ⟨⟨⟩, st'⟩ s' ⟨rfl, q1, q2, q3⟩
    exact done st' q1 q2 q3
/-- the keys are asked one by one, then all is sorted: I tells what is known after the i-th call, the keys so far -/
theorem zk_rest {s : Shared} {a kS e1 : Nat} {b : Bool} {f : Value} {vs : List Value} {I : Nat → List Value → Shared → Prop} {P : PySem.Fin → Shared → Prop} (hka : kS ≠ a) (hz : vs.length ≤ sizeLine) (h0 : I 0 [] s)
    (hat : ∀ i ks s', I i ks s' → (∃ e, s'.heap.get? kS = some (seqObj "list" ks.toArray e)) ∧ s'.heap.get? a = some (seqObj "list" #[] e1) ∧ ks.length = i)
    (turn : ∀ i ks x s', vs[i]? = some x → I i ks s' → wpAny (model prog w) A (call f [x]) (fun k s2 => (∃ e, s2.heap.get? kS = some (seqObj "list" ks.toArray e)) ∧ I (i + 1) (ks ++ [k]) { s2 with heap := s2.heap.update kS (Obj.mapSeq fun c => c.push k) }) (fun _ _ => False) s')
    (last : ∀ ks s', I vs.length ks s' → ∃ lt : Keyed → Keyed → Bool, Swo lt ∧ (2 ≤ vs.length → ∃ κ, (∀ (Q : SortKind → Shared → Prop) (E : Value → Shared → Prop), Q κ s' → wpAny (model prog w) A (keyKind' ks.toArray) Q E s') ∧ Cmp prog w A s' κ (fun p => p.1 ∈ ks) lt) ∧
      ∀ o, Srtd lt o → Stb lt o (prs b ks vs) → P (.done (.ret .none)) { s' with heap := endHeap s'.heap kS a (outOf b o) }) :
    wpAny (model prog w) A (ksk_rest a f b vs.toArray e1 (.ref kS)) P E s := by
  unfold ksk_rest
  refine wpAny_bind (wpAny_rule ?_)
  first
    | rw [List.forIn_toArray]
    | (rw [← Array.forIn_toList]; simp only [List.toList_toArray])
    | rw [← Array.forIn_toList]
  refine wpAny_bind (ksk_fold (fun i s' => ∃ ks, I i ks s') vs 0 s ⟨[], h0⟩ (fun j x s' hx ⟨ks, hI⟩ => ?_) (fun s' ⟨ks, hI⟩ => ?_))
  · rw [Nat.zero_add] at hI ⊢
    have hj : j < vs.length := (List.getElem?_eq_some_iff.mp hx).1
    refine wpAny_bind (wpAny_attempt (wpAny_mono (turn j ks x s' hx hI) (fun k s2 ⟨⟨e, ek⟩, hI2⟩ => ?_) fun _ _ z => z.elim))
    dsimp only
    have hl := (hat j ks s' hI).2.2
    refine wpAny_bind (listUpdate_at ek rfl ?_ (by rw [List.size_toArray, hl]; omega) (Nat.le_trans (Nat.le_of_eq (Array.size_push ..)) (by rw [List.size_toArray, hl]; omega)))
    exact wpAny_pure ⟨rfl, _, hI2⟩
  · rw [Nat.zero_add] at hI
    obtain ⟨⟨e, ek⟩, ea, hl⟩ := hat _ _ _ hI
    obtain ⟨lt, O, cmp, fin⟩ := last ks s' hI
    try dsimp only
    refine wpAny_bind (listItems_at ek rfl ?_)
    exact zk_end O hka ek ea hl hz cmp fin
end
end ZS
set_option Elab.async false
set_option linter.all false
set_option maxRecDepth 100000
set_option maxHeartbeats 4000000
namespace ZS
open PySem PyProof.Rows Srt SrtO
section
variable {α β : Type}
def ins (lt : α → α → Bool) (x : α) : List α → List α
  | [] => [x]
  | y :: l => if lt y x = true then y :: ins lt x l else x :: y :: l
def isort (lt : α → α → Bool) : List α → List α
  | [] => []
  | x :: l => ins lt x (isort lt l)
variable {lt : α → α → Bool} {lt' : β → β → Bool}
theorem ins_perm (x : α) : ∀ l : List α, (ins lt x l).Perm (x :: l)
  | [] => List.Perm.refl _
  | y :: l => by
    unfold ins
    split
    · exact (List.Perm.cons y (ins_perm x l)).trans (List.Perm.swap x y l)
    · exact List.Perm.refl _
theorem isort_perm : ∀ l : List α, (isort lt l).Perm l
  | [] => List.Perm.refl _
  | x :: l => (ins_perm x _).trans (List.Perm.cons x (isort_perm l))
theorem ins_map (f : α → β) (h : ∀ x y, lt' (f x) (f y) = lt x y) (x : α) : ∀ l : List α, (ins lt x l).map f = ins lt' (f x) (l.map f)
  | [] => rfl
  | y :: l => by
    show (ins lt x (y :: l)).map f = ins lt' (f x) (f y :: l.map f)
    unfold ins
    rw [h]
    split
    · rw [List.map_cons, ins_map f h x l]
    · rfl
theorem isort_map (f : α → β) (h : ∀ x y, lt' (f x) (f y) = lt x y) : ∀ l : List α, (isort lt l).map f = isort lt' (l.map f)
  | [] => rfl
  | x :: l => by
    show (ins lt x (isort lt l)).map f = ins lt' (f x) (isort lt' (l.map f))
    rw [ins_map f h, isort_map f h l]
theorem ins_srtd (O : Swo lt) (x : α) : ∀ {l : List α}, Srtd lt l → Srtd lt (ins lt x l)
  | [], _ => srtd_one x
  | y :: l, h => by
    unfold ins
    have h1 := List.pairwise_cons.mp h
    split
    · rename_i c
      refine List.pairwise_cons.mpr ⟨fun z hz => ?_, ins_srtd O x h1.2⟩
      rcases List.mem_cons.mp ((ins_perm x l).mem_iff.mp hz) with rfl | hz
      · exact O.asym _ _ c
      · exact h1.1 z hz
    · rename_i c
      have c : lt y x = false := by
        cases e : lt y x with
        | true => exact absurd e c
        | false => rfl
      exact List.pairwise_cons.mpr ⟨fun z hz => O.le_all h c z hz, h⟩
theorem isort_srtd (O : Swo lt) : ∀ l : List α, Srtd lt (isort lt l)
  | [] => List.Pairwise.nil
  | x :: l => ins_srtd O x (isort_srtd O l)
theorem ins_cls (O : Swo lt) (x z : α) : ∀ {l : List α}, Srtd lt l → (ins lt x l).filter (eqv lt z) = (x :: l).filter (eqv lt z)
  | [], _ => rfl
  | y :: l, h => by
    unfold ins
    have h1 := List.pairwise_cons.mp h
    split
    · rename_i c
      have ih := ins_cls O x z h1.2
      rw [List.filter_cons, ih, List.filter_cons, List.filter_cons, List.filter_cons]
      cases ex : eqv lt z x with
      | false => cases eqv lt z y <;> rfl
      | true =>
        have ey : eqv lt z y = false := by
          cases ey : eqv lt z y with
          | false => rfl
          | true =>
            exfalso
            unfold eqv at ex ey
            simp only [Bool.and_eq_true, Bool.not_eq_true'] at ex ey
            have := O.tr x z y (by first | exact ex.1 | exact ex.2) (by first | exact ey.2 | exact ey.1)
            rw [this] at c; cases c
        rw [ey]
        rfl
    · rfl
theorem isort_stb (O : Swo lt) : ∀ l : List α, Stb lt (isort lt l) l
  | [] => Stb.refl _
  | x :: l => by
    refine ⟨isort_perm _, fun z => ?_⟩
    show (ins lt x (isort lt l)).filter (eqv lt z) = _
    rw [ins_cls O x z (isort_srtd O l), List.filter_cons, List.filter_cons, (isort_stb O l).cls z]
/-- sorted and stable: there is but one such list -/
theorem srtd_uniq (O : Swo lt) : ∀ {a b : List α}, Srtd lt a → Srtd lt b → a.Perm b → (∀ z, a.filter (eqv lt z) = b.filter (eqv lt z)) → a = b
  | [], b, _, _, p, _ => (List.nil_perm.mp p).symm
  | x :: a, [], _, _, p, _ => (List.perm_nil.mp p)
  | x :: a, y :: b, ha, hb, p, hc => by
    have h1 := List.pairwise_cons.mp ha
    have h2 := List.pairwise_cons.mp hb
    have xx : lt x x = false := O.refl x
    have yy : lt y y = false := O.refl y
    have l1 : lt y x = false := by
      rcases List.mem_cons.mp (p.mem_iff.mpr (List.mem_cons_self (a := y) (l := b))) with e | m
      · rw [e]; exact xx
      · exact h1.1 y m
    have l2 : lt x y = false := by
      rcases List.mem_cons.mp (p.mem_iff.mp (List.mem_cons_self (a := x) (l := a))) with e | m
      · rw [e]; exact yy
      · exact h2.1 x m
    have e1 : eqv lt x x = true := by unfold eqv; rw [xx]; rfl
    have e2 : eqv lt x y = true := by unfold eqv; rw [l1, l2]; rfl
    have f := hc x
    rw [List.filter_cons, if_pos e1, List.filter_cons, if_pos e2] at f
    have exy : x = y := (List.cons.inj f).1
    subst exy
    refine congrArg _ (srtd_uniq O h1.2 h2.2 ((List.perm_cons x).mp p) fun z => ?_)
    have g := hc z
    rw [List.filter_cons, List.filter_cons] at g
    cases q : eqv lt z x with
    | true => rw [q, if_pos rfl, if_pos rfl] at g; exact (List.cons.inj g).2
    | false => rw [q, if_neg Bool.false_ne_true, if_neg Bool.false_ne_true] at g; exact g
theorem isort_uniq (O : Swo lt) {o l : List α} (h1 : Srtd lt o) (h2 : Stb lt o l) : o = isort lt l := by
  have s := isort_stb O l
  exact srtd_uniq O h1 (isort_srtd O l) (h2.perm.trans s.perm.symm) fun z => (h2.cls z).trans (s.cls z).symm
end
theorem ins_congr {α : Type} {lt lt' : α → α → Bool} {x : α} : ∀ {l : List α}, (∀ y ∈ l, lt y x = lt' y x) → ins lt x l = ins lt' x l
  | [], _ => rfl
  | y :: l, h => by
    unfold ins
    rw [h y List.mem_cons_self, ins_congr fun z m => h z (List.mem_cons_of_mem _ m)]
theorem isort_congr {α : Type} {lt lt' : α → α → Bool} : ∀ {l : List α}, (∀ x ∈ l, ∀ y ∈ l, lt x y = lt' x y) → isort lt l = isort lt' l
  | [], _ => rfl
  | x :: l, h => by
    unfold isort
    rw [isort_congr fun y m z n => h y (List.mem_cons_of_mem _ m) z (List.mem_cons_of_mem _ n)]
    exact ins_congr fun y m => h y (List.mem_cons_of_mem _ ((isort_perm l).mem_iff.mp m)) x List.mem_cons_self
theorem swo_code {α : Type} (c : α → List Int) : Swo fun x y => decide (c x < c y) := by
  refine ⟨fun x y h => ?_, fun x y z h1 h2 => ?_⟩
  · exact decide_eq_false (List.lt_asymm (of_decide_eq_true h))
  · have a : c x ≤ c y := of_decide_eq_false h1
    have b : c y ≤ c z := of_decide_eq_false h2
    exact decide_eq_false (fun q => (List.le_trans a b : c x ≤ c z) q)
end ZS
set_option Elab.async false
set_option linter.all false
set_option maxRecDepth 100000
set_option maxHeartbeats 4000000
namespace ZN
open PySem PySem.Spec PyProof.Rows L2
/-- the tuple at a is the key k -/
def NK (h : Heap) (k : NestedKey) (a : Addr) : Prop := NestedIs h k (.ref a) ∧ k.depth ≤ 8
end ZN
set_option Elab.async false
set_option linter.all false
set_option maxRecDepth 100000
set_option maxHeartbeats 4000000
namespace ZN
open PySem PySem.Spec PyProof.Rows L2
/-- the rows of the table -/
def cells (w : World) (L : List (Addr × NestedKey)) : List (Int × Value) := L.map fun p => (p.2.hash w, .ref p.1)
/-- the set at a holds the keys L -/
structure NS (w : World) (h : Heap) (a : Addr) (L : List (Addr × NestedKey)) (es : Array (Int × Value)) (ep : Nat) (t : SetTable) : Prop where
  obj : ∃ o, h.get? a = some o ∧ o.ExactSet ∧ o.data = .set es ep t
  lay : es.toList = cells w L
  tab : TabOk t (L.map fun p => p.2.hash w)
  one : (L.map (·.2)).Nodup
  mem : ∀ p ∈ L, NK h p.2 p.1
  room : L.length * 5 < t.mask * 3
  few : L.length < 64
section
variable {P : Program} {w : World} {A : Around} {E : Value → Shared → Prop} {s : Shared} {a : Addr} {L : List (Addr × NestedKey)} {es : Array (Int × Value)} {ep : Nat} {t : SetTable}
theorem NS.size (R : NS w s.heap a L es ep t) : es.size = L.length := by
  rw [← Array.length_toList, R.lay, cells, List.length_map]
end
end ZN
set_option Elab.async false
set_option linter.all false
set_option maxRecDepth 100000
set_option maxHeartbeats 4000000
namespace ZN
open PySem PySem.Spec PyProof.Rows L2
theorem NK.keep {h h' : Heap} {x : Addr} {k : NestedKey} (hk : NK h k x) (keep : ∀ b o, h.get? b = some o → h'.get? b = some o) : NK h' k x := ⟨NestedIs.at (fun b u _ _ hb _ => keep b u hb) k _ hk.1, hk.2⟩
section
variable {P : Program} {w : World} {A : Around} {E : Value → Shared → Prop} {s : Shared} {a : Addr} {L : List (Addr × NestedKey)} {es : Array (Int × Value)} {ep : Nat} {t : SetTable}
theorem NS.at (R : NS w s.heap a L es ep t) {h' : Heap} (keep : ∀ b o, s.heap.get? b = some o → h'.get? b = some o) : NS w h' a L es ep t :=
  let ⟨o, ho, hc⟩ := R.obj
  ⟨⟨o, keep _ _ ho, hc⟩, R.lay, R.tab, R.one, fun p m => (R.mem p m).keep keep, R.room, R.few⟩
end
end ZN
set_option Elab.async false
set_option linter.all false
set_option maxRecDepth 100000
set_option maxHeartbeats 4000000
namespace ZN
open PySem PySem.Spec PyProof.Rows L2 Z
/-- NS without the members' own objects -/
structure NS0 (w : World) (h : Heap) (a : Addr) (L : List (Addr × NestedKey)) : Prop where
  ex : ∃ es ep t, (∃ o, h.get? a = some o ∧ o.ExactSet ∧ o.data = .set es ep t) ∧ es.toList = cells w L ∧ TabOk t (L.map fun p => p.2.hash w) ∧ L.length * 5 < t.mask * 3
  one : (L.map (·.2)).Nodup
  few : L.length < 64
theorem NS.low {w : World} {h : Heap} {a : Addr} {L : List (Addr × NestedKey)} {es : Array (Int × Value)} {ep : Nat} {t : SetTable} (R : NS w h a L es ep t) : NS0 w h a L := ⟨⟨es, ep, t, R.obj, R.lay, R.tab, R.room⟩, R.one, R.few⟩
theorem NS0.up {w : World} {h : Heap} {a : Addr} {L : List (Addr × NestedKey)} (R : NS0 w h a L) (m : ∀ p ∈ L, NK h p.2 p.1) : ∃ es ep t, NS w h a L es ep t :=
  let ⟨es, ep, t, o, l, tb, r⟩ := R.ex
  ⟨es, ep, t, o, l, tb, R.one, m, r, R.few⟩
mutual
def nkD : D → Option NestedKey
  | .non => some .none
  | .bl b => some (.num (if b = true then 1 else 0))
  | .int i => some (.num i)
  | .str x => some (.text ⟨x.toArray⟩)
  | .tup l => match nkDs l with
    | some ks => some (.tup ks)
    | none => none
  | _ => none
def nkDs : List D → Option (List NestedKey)
  | [] => some []
  | d :: ds => match nkD d, nkDs ds with
    | some k, some ks => some (k :: ks)
    | _, _ => none
end
section
variable {X : Cx} {pins : List (Addr × Obj)} {σ : L2.St} {H : Hp} {s : Shared}
/-- the tracked tuple at b is the key k -/
def KeyH (K : PySem.W.Frag) (H : Hp) (k : NestedKey) (b : Addr) : Prop := ∃ d, Dz K H (.ref b) d ∧ nkD d = some k ∧ k.depth ≤ 8
theorem KeyH.mono {K : PySem.W.Frag} {H H' : Hp} {k : NestedKey} {b : Addr} (h : KeyH K H k b) (e : Same H H') : KeyH K H' k b := let ⟨d, z, r⟩ := h; ⟨d, z.mono e, r⟩
end
end ZN
set_option Elab.async false
set_option linter.all false
set_option maxRecDepth 100000
set_option maxHeartbeats 4000000
namespace ZN
open PySem PySem.Spec PyProof.Rows L2 Z
theorem same_upd {H H' : Hp} {x : Addr} {o : HO} (s : Same H H') (n : H x = none) : Same H (upd H' x o) := fun b u e => by
  rw [upd_ne (fun z => by rw [z, n] at e; cases e)]
  exact s b u e
end ZN
set_option Elab.async false
set_option linter.all false
set_option maxRecDepth 100000
set_option maxHeartbeats 4000000
namespace Z
open PySem PySem.Spec PyProof.Rows L2
/-- what a name holds, as data of this moment -/
def pick (i : Nat) (g : G) : Option D := match zVar i g with
  | some (r, _) => rdX g r
  | none => none
end Z
set_option Elab.async false
set_option linter.all false
set_option maxRecDepth 100000
set_option maxHeartbeats 4000000
namespace ZS
open PySem PyProof.Rows Srt SrtO PySem.W
section
variable {prog : Program} {w : World} {A : Around} {E : Value → Shared → Prop} {s : Shared}
theorem zk_shell {l : Addr} {vs : List Value} {f : Value} {b : Bool} {kw : List (Str × Value)} {Q : Value → Shared → Prop} (hl : s.heap.IsList l vs.toArray) (hz : vs.length ≤ sizeLine) (ha1 : argsOk "sorted" ⟨[.ref l], kw⟩) (ha2 : ∀ x, argsOk "list.sort" ⟨[.ref x], kw⟩)
    (ht : ∀ x, Builtin.«list.sort» ⟨[.ref x], kw⟩ = ksk_tree x f b)
    (h : ∀ (hm : Heap) (a e1 : Addr), (∀ c o, s.heap.get? c = some o → hm.get? c = some o) → s.heap.objs.size ≤ a → hm.get? a = some (seqObj "list" #[] e1) →
      wpAny (model prog w) A.in1.in1 (ksk_rest a f b vs.toArray e1 (.ref hm.objs.size)) (fun fin s' => fin = .done (.ret .none) ∧ Q (.ref a) s') E { s with heap := hm.push (seqObj "list" #[] 0) }) :
    wpAny (model prog w) A (call (.builtin "sorted") [.ref l] kw) Q E s := by
  refine call_function_entry_kw kind_sorted plain_sorted entry_sorted ha1 ?_
  unfold Builtin.«sorted»
  refine wpAny_bind (m := checkCount "sorted" 1 1 _) (wpAny_pure ?_)
  refine wpAny_bind (collect_list hl ?_ hz)
  refine wpAny_bind (wpAny_newList ?_ hz)
  obtain ⟨h1, eh1⟩ : ∃ h1, h1 = (s.heap.push (seqObj "list" #[] 0)).update s.heap.objs.size (Obj.mapSeq (· ++ vs.toArray)) := ⟨_, rfl⟩
  have z1 : h1.objs.size = s.heap.objs.size + 1 := by rw [eh1, Heap.size_update, size_push']
  have k1 : ∀ c o, s.heap.get? c = some o → h1.get? c = some o := fun c o q => by
    rw [eh1, Heap.get?_update_ne _ _ _ _ (Nat.ne_of_lt (Heap.lt_size q))]
    exact Heap.get?_push_of_some _ q
  show wpAny _ _ _ _ _ { s with heap := ((s.heap.push (seqObj "list" #[] 0)).update s.heap.objs.size (Obj.mapSeq (· ++ vs.toArray))).push (seqObj "list" vs.toArray 0) }
  rw [← eh1]
  obtain ⟨h2, eh2⟩ : ∃ h2, h2 = h1.push (seqObj "list" vs.toArray 0) := ⟨_, rfl⟩
  have z2 : h2.objs.size = h1.objs.size + 1 := by rw [eh2, size_push']
  have o2 : h2.get? h1.objs.size = some (seqObj "list" vs.toArray 0) := by rw [eh2]; exact Heap.get?_push_size _ rfl
  have k2 : ∀ c o, h1.get? c = some o → h2.get? c = some o := fun c o q => by rw [eh2]; exact Heap.get?_push_of_some _ q
  rw [← eh2]
  have zs1 : s.heap.objs.size ≤ h1.objs.size := by omega
  have la : h1.objs.size < h2.objs.size := by omega
  generalize ea : h1.objs.size = a at *
  refine wpAny_bind (wpAny_holding (wpAny_call_entry_kw slot_list_sort ⟨_, o2, rfl⟩ entry_list_sort ?_ (ha2 _)))
  rw [ht]
  unfold ksk_tree
  refine wpAny_bind (listItems_at (s := { s with heap := h2 }) o2 rfl ?_)
  refine wpAny_bind (listUpdate_at (s := { s with heap := h2 }) o2 rfl ?_ (by rw [List.size_toArray]; exact hz) (Nat.zero_le _))
  obtain ⟨e1, o3⟩ : ∃ e1, (h2.update a (Obj.mapSeq fun _ => (#[] : Array Value))).get? a = some (seqObj "list" #[] e1) := ⟨_, get?_update_seq o2 fun _ => #[]⟩
  have z3 : (h2.update a (Obj.mapSeq fun _ => (#[] : Array Value))).objs.size = h2.objs.size := Heap.size_update ..
  have k3 : ∀ c o, c ≠ a → h2.get? c = some o → (h2.update a (Obj.mapSeq fun _ => (#[] : Array Value))).get? c = some o := fun c o n q => (Heap.get?_update_ne _ _ _ _ n).trans q
  show wpAny _ _ _ _ _ { s with heap := h2.update a (Obj.mapSeq fun _ => (#[] : Array Value)) }
  generalize h2.update a (Obj.mapSeq fun _ => (#[] : Array Value)) = h3 at *
  refine wpAny_bind (seqEpoch_at (s := { s with heap := h3 }) o3 rfl ?_)
  refine wpAny_bind (wpAny_newTuple ?_ (by show vs.length ≤ _; exact hz))
  refine wpAny_bind (wpAny_newList ?_ (Nat.zero_le _))
  refine wpAny_holding ?_
  have o4 : (h3.push (seqObj "tuple" vs.toArray 0)).get? a = some (seqObj "list" #[] e1) := Heap.get?_push_of_some _ o3
  show wpAny (model prog w) A.in1.in1 (ksk_rest a f b vs.toArray e1 (.ref (h3.push (seqObj "tuple" vs.toArray 0)).objs.size)) _ _ { s with heap := (h3.push (seqObj "tuple" vs.toArray 0)).push (seqObj "list" #[] 0) }
  refine wpAny_mono (h (h3.push (seqObj "tuple" vs.toArray 0)) a e1 (fun c o q => ?_) zs1 o4) ?_ fun _ _ z => z
  · exact Heap.get?_push_of_some _ (k3 c o (Nat.ne_of_lt (Nat.lt_of_lt_of_le (Heap.lt_size q) zs1)) (k2 c o (k1 c o q)))
  · rintro fin s' ⟨rfl, q⟩
    exact ⟨_, rfl, wpAny_pure ⟨_, rfl, q⟩⟩
/-- a key: (n, i) or (3, text) -/
inductive RkIs (h : Heap) : List Int → Value → Prop
  | num {a : Addr} {o : Obj} {n i : Int} {t u m : Nat} : h.get? a = some o → o.cls = .type "tuple" → o.data = .seq #[.int n t, .int i u] m → n ≠ 3 → RkIs h [n, i] (.ref a)
  | txt {a : Addr} {o : Obj} {x : Str} {t u m : Nat} : h.get? a = some o → o.cls = .type "tuple" → o.data = .seq #[.int 3 t, .str x u] m → RkIs h (3 :: x.cps.toList.map Int.ofNat) (.ref a)
theorem RkIs.inj {h : Heap} {c c' : List Int} {v : Value} (x : RkIs h c v) (y : RkIs h c' v) : c = c' := by
  cases x with
  | num h1 h2 h3 h4 =>
    cases y with
    | num g1 g2 g3 g4 =>
      rw [h1] at g1; cases g1
      rw [h3] at g3; cases g3
      rfl
    | txt g1 g2 g3 =>
      rw [h1] at g1; cases g1
      rw [h3] at g3; cases g3
  | txt h1 h2 h3 =>
    cases y with
    | num g1 g2 g3 g4 =>
      rw [h1] at g1; cases g1
      rw [h3] at g3; cases g3
    | txt g1 g2 g3 =>
      rw [h1] at g1; cases g1
      rw [h3] at g3; cases g3
      rfl
theorem RkIs.keep {h h' : Heap} {c : List Int} {v : Value} (x : RkIs h c v) (k : ∀ b o, h.get? b = some o → o.cls = .type "tuple" → h'.get? b = some o) : RkIs h' c v := by
  cases x with
  | num h1 h2 h3 h4 => exact .num (k _ _ h1 h2) h2 h3 h4
  | txt h1 h2 h3 => exact .txt (k _ _ h1 h2) h2 h3
theorem nat_lt_int : ∀ a b : List Nat, (a.map Int.ofNat < b.map Int.ofNat) ↔ a < b
  | [], [] => by simp
  | [], _ :: _ => by simp
  | _ :: _, [] => by simp
  | x :: a, y :: b => by
    rw [List.map_cons, List.map_cons, List.cons_lt_cons_iff, List.cons_lt_cons_iff, nat_lt_int a b]
    have e1 : (Int.ofNat x < Int.ofNat y) ↔ x < y := Int.ofNat_lt
    have e2 : (Int.ofNat x = Int.ofNat y) ↔ x = y := Int.ofNat_inj
    rw [e1, e2]
theorem rk_lt {h : Heap} {c c' : List Int} {v v' : Value} (hs : s.heap = h) (x : RkIs h c v) (y : RkIs h c' v') : wpAny (model prog w) A (keyLt' (tuples' true) v v') (fun r s' => s' = s ∧ r = decide (c < c')) (fun _ _ => False) s := by
  subst hs
  have fst : ∀ {n n' : Int} {l l' : List Int}, n ≠ n' → decide (n :: l < n' :: l') = decide (n < n') := fun {n n' l l'} ne => by
    rw [Bool.eq_iff_iff, decide_eq_true_iff, decide_eq_true_iff, List.cons_lt_cons_iff]
    omega
  have snd : ∀ {n : Int} {l l' : List Int}, decide (n :: l < n :: l') = decide (l < l') := fun {n l l'} => by
    rw [Bool.eq_iff_iff, decide_eq_true_iff, decide_eq_true_iff, List.cons_lt_cons_iff]
    simp
  cases x with
  | @num a o n i t u m h1 h2 h3 h4 =>
    cases y with
    | @num a' o' n' i' t' u' m' g1 g2 g3 g4 =>
      refine kat_lt h1 h3 g1 g3 ?_
      show KatLex prog w A true (decide (2 < 2)) _ [(.int n t, .int n' t'), (.int i u, .int i' u')] 0 s
      refine kat_cons (SeqAt.EqAt.int_int n t n' t' prog w _ _ (kat_go (fun e => ?_) fun e => ?_))
      · have en : n = n' := by simpa using e
        subst en
        refine kat_yes (kat_cons (SeqAt.EqAt.int_int i u i' u' prog w _ _ (kat_go (fun e => ?_) fun e => ?_)))
        · have ei : i = i' := by simpa using e
          subst ei
          refine kat_yes (kat_nil ⟨rfl, ?_⟩)
          rw [snd]
          exact (decide_eq_false (List.lt_irrefl _)).symm
        · refine kat_no (kat_one _ _ (PyProof.Rows.lt_int ?_))
          show s = s ∧ decide (i < i') = decide ([n, i] < [n, i'])
          refine ⟨rfl, ?_⟩
          rw [snd, fst (by simpa using e)]
      · have en : n ≠ n' := by simpa using e
        exact kat_no (oneLt_int ⟨rfl, (fst en).symm⟩)
    | @txt a' o' x t' u' m' g1 g2 g3 =>
      refine kat_lt h1 h3 g1 g3 ?_
      show KatLex prog w A true (decide (2 < 2)) _ [(.int n t, .int 3 t'), (.int i u, .str x u')] 0 s
      refine kat_cons (SeqAt.EqAt.int_int n t 3 t' prog w _ _ (kat_go (fun e => ?_) fun e => ?_))
      · exact absurd (by simpa using e) h4
      · exact kat_no (oneLt_int ⟨rfl, (fst h4).symm⟩)
  | @txt a o x t u m h1 h2 h3 =>
    cases y with
    | @num a' o' n' i' t' u' m' g1 g2 g3 g4 =>
      refine kat_lt h1 h3 g1 g3 ?_
      show KatLex prog w A true (decide (2 < 2)) _ [(.int 3 t, .int n' t'), (.str x u, .int i' u')] 0 s
      refine kat_cons (SeqAt.EqAt.int_int 3 t n' t' prog w _ _ (kat_go (fun e => ?_) fun e => ?_))
      · exact absurd (show (3 : Int) = n' by simpa using e).symm g4
      · exact kat_no (oneLt_int ⟨rfl, (fst (Ne.symm g4)).symm⟩)
    | @txt a' o' y t' u' m' g1 g2 g3 =>
      refine kat_lt h1 h3 g1 g3 ?_
      show KatLex prog w A true (decide (2 < 2)) _ [(.int 3 t, .int 3 t'), (.str x u, .str y u')] 0 s
      refine kat_cons (SeqAt.EqAt.int_int 3 t 3 t' prog w _ _ (kat_go (fun e => ?_) fun e => ?_))
      · refine kat_yes (kat_cons (SeqAt.EqAt.str_str x u y u' prog w _ _ (kat_go (fun e => ?_) fun e => ?_)))
        · have ei : x = y := by simpa using e
          subst ei
          refine kat_yes (kat_nil ⟨rfl, ?_⟩)
          exact (decide_eq_false (List.lt_irrefl _)).symm
        · refine kat_no (kat_one _ _ (PyProof.Rows.lt_str ?_))
          refine ⟨rfl, ?_⟩
          rw [snd, Bool.eq_iff_iff, decide_eq_true_iff, decide_eq_true_iff, nat_lt_int]
      · exact absurd e (by simp)
/-- all of them: the kind of the comparison -/
theorem rk_kind {ks : List Value} {Q : SortKind → Shared → Prop} (h : ∀ v ∈ ks, ∃ c, RkIs s.heap c v) (h0 : 0 < ks.length) (q : Q (tuples' true) s) : wpAny (model prog w) A (keyKind' ks.toArray) Q E s := by
  have all : ∀ ks : List Value, (∀ v ∈ ks, ∃ c, RkIs s.heap c v) → ∃ fs, KatTups s.heap ks fs ∧ fs.length = ks.length ∧ ∀ f ∈ fs, ∃ n t, f = Value.int n t := by
    intro ks
    induction ks with
    | nil => intro _; exact ⟨[], .nil, rfl, fun _ m => (List.not_mem_nil m).elim⟩
    | cons v ks ih =>
      intro h
      obtain ⟨fs, i1, i2, i3⟩ := ih fun u m => h u (List.mem_cons_of_mem _ m)
      obtain ⟨c, hc⟩ := h v List.mem_cons_self
      cases hc with
      | @num a o n i t u m h1 h2 h3 h4 =>
        refine ⟨.int n t :: fs, .cons h1 h2 h3 rfl i1, by simp [i2], fun f m => ?_⟩
        rcases List.mem_cons.mp m with rfl | m
        · exact ⟨n, t, rfl⟩
        · exact i3 f m
      | @txt a o x t u m h1 h2 h3 =>
        refine ⟨.int 3 t :: fs, .cons h1 h2 h3 rfl i1, by simp [i2], fun f m => ?_⟩
        rcases List.mem_cons.mp m with rfl | m
        · exact ⟨3, t, rfl⟩
        · exact i3 f m
  obtain ⟨fs, i1, i2, i3⟩ := all ks h
  refine kat_kind (T := .type "int") i1 (by omega) (fun f m => ?_) (by rfl) ?_
  · obtain ⟨n, t, rfl⟩ := i3 f m
    exact Looks.now
  · rw [show (Value.type "int" != Value.type "tuple") = true by decide]
    exact q
end
end ZS
set_option Elab.async false
set_option linter.all false
set_option maxRecDepth 100000
set_option maxHeartbeats 4000000
namespace ZS
open PySem PySem.Spec PyProof.Rows L2 Z Srt SrtO
/-- the code of a key -/
noncomputable def cv (h : Heap) (v : Value) : List Int := by
  classical
  exact if hx : ∃ c, RkIs h c v then Classical.choose hx else []
theorem cv_is {h : Heap} {c : List Int} {v : Value} (x : RkIs h c v) : cv h v = c := by
  unfold cv
  rw [dif_pos ⟨c, x⟩]
  exact (Classical.choose_spec (⟨c, x⟩ : ∃ c, RkIs h c v)).inj x
def cdD : D → Option (List Int)
  | .tup [.int n, .int i] => if n = 3 then none else some [n, i]
  | .tup [.int n, .str t] => if n = 3 then some (3 :: t.map Int.ofNat) else none
  | _ => none
section
variable {X : Cx} {pins : List (Addr × Obj)} {σ : L2.St} {H : Hp} {s : Shared}
theorem rk_is (I : Inv X pins σ H s) {v : V} {d : D} {u : Value} {c : List Int} (z : Dz X.K H v d) (r : RelV v u) (e : cdD d = some c) : RkIs s.heap c u := by
  unfold cdD at e
  split at e
  · rename_i n i
    split at e
    · cases e
    · rename_i n3
      cases e
      cases z with
      | tup sq zs =>
        obtain ⟨its, rv, ⟨o, ho, hc, m, hd⟩, _⟩ := I.tuple sq
        obtain rfl := r
        cases zs with
        | cons z1 zs =>
          cases zs with
          | cons z2 zs =>
            cases zs
            cases z1
            cases z2
            obtain ⟨u1, u2, rfl, ⟨t1, rfl⟩, ⟨t2, rfl⟩⟩ := vals2 rv
            exact .num ho hc hd n3
  · rename_i n t
    split at e
    · rename_i n3
      cases e
      subst n3
      cases z with
      | tup sq zs =>
        obtain ⟨its, rv, ⟨o, ho, hc, m, hd⟩, _⟩ := I.tuple sq
        obtain rfl := r
        cases zs with
        | cons z1 zs =>
          cases zs with
          | cons z2 zs =>
            cases zs
            cases z1
            cases z2
            obtain ⟨u1, u2, rfl, ⟨t1, rfl⟩, ⟨t2, rfl⟩⟩ := vals2 rv
            have := RkIs.txt (x := (⟨t.toArray⟩ : Str)) ho hc hd
            simpa using this
    · cases e
  · cases e
theorem Vals.mem {xs : List V} {us : List Value} (r : Vals xs us) {i : Nat} {u : Value} (e : us[i]? = some u) : ∃ x, xs[i]? = some x ∧ RelV x u := by
  have hi : i < xs.length := by rw [r.length]; exact (List.getElem?_eq_some_iff.mp e).1
  obtain ⟨u', h1, h2⟩ := r.get (List.getElem?_eq_getElem hi)
  rw [e] at h1
  cases h1
  exact ⟨_, List.getElem?_eq_getElem hi, h2⟩
end
/-- the key's code of an item -/
def keyC (fk : List D → Option FR) (d : D) : Option (List Int) := match fk [d] with
  | some (.dat q) => cdD q
  | _ => none
/-- items with their codes, sorted -/
def sortP (b : Bool) (ps : List (D × List Int)) : List D :=
  if b = true then ((isort (fun x y : D × List Int => decide (x.2 < y.2)) ps.reverse).map (·.1)).reverse else (isort (fun x y : D × List Int => decide (x.2 < y.2)) ps).map (·.1)
def codesD (fk : List D → Option FR) : List D → Option (List (D × List Int))
  | [] => some []
  | d :: ds => match keyC fk d, codesD fk ds with
    | some c, some ps => some ((d, c) :: ps)
    | _, _ => none
def sortD (fk : List D → Option FR) (b : Bool) (ds : List D) : Option (List D) := (codesD fk ds).map (sortP b)
theorem codesD_get {fk : List D → Option FR} : ∀ {ds : List D} {ps : List (D × List Int)}, codesD fk ds = some ps → ps.map (·.1) = ds ∧ ∀ (i : Nat) p, ps[i]? = some p → keyC fk p.1 = some p.2
  | [], _, e => by
    cases e
    exact ⟨rfl, fun i p h => by simp at h⟩
  | d :: ds, ps, e => by
    unfold codesD at e
    split at e
    · rename_i c qs h1 h2
      cases e
      obtain ⟨e1, e2⟩ := codesD_get h2
      refine ⟨by rw [List.map_cons, e1], fun i p h => ?_⟩
      cases i with
      | zero => cases h; exact h1
      | succ i => exact e2 i p h
    · cases e
/-- a key, its value, the value's slot, its datum, its code -/
abbrev Q5 := Value × Value × V × D × List Int
theorem zip_maps {α β γ : Type} (f : α → β) (g : α → γ) : ∀ T : List α, (T.map f).zip (T.map g) = T.map fun t => (f t, g t)
  | [] => rfl
  | t :: T => by rw [List.map_cons, List.map_cons, List.zip_cons_cons, List.map_cons, zip_maps f g T]
theorem out_of {h : Heap} {b : Bool} {T : List Q5} {o : List Keyed} (hc : ∀ t ∈ T, RkIs h t.2.2.2.2 t.1) (h1 : Srtd (fun p q : Keyed => decide (cv h p.1 < cv h q.1)) o) (h2 : Stb (fun p q : Keyed => decide (cv h p.1 < cv h q.1)) o (prs b (T.map (·.1)) (T.map (·.2.1)))) :
    ∃ T' : List Q5, T'.Perm T ∧ outOf b o = T'.map (·.2.1) ∧ T'.map (·.2.2.2.1) = sortP b (T.map (·.2.2.2)) := by
  have eo := isort_uniq (swo_code fun p : Keyed => cv h p.1) h1 h2
  let S : List Q5 := if b = true then T.reverse else T
  have hS : S.Perm T := by
    show (if b = true then T.reverse else T).Perm T
    split
    · exact List.reverse_perm _
    · exact List.Perm.refl _
  have ep : prs b (T.map (·.1)) (T.map (·.2.1)) = S.map fun t => (t.1, t.2.1) := by
    unfold prs
    rw [zip_maps]
    show _ = (if b = true then T.reverse else T).map _
    cases b
    · rfl
    · simp
  rw [ep, ← isort_map (lt := fun x y : Q5 => decide (cv h x.1 < cv h y.1)) (fun t : Q5 => ((t.1, t.2.1) : Keyed)) (fun _ _ => rfl)] at eo
  have ec : isort (fun x y : Q5 => decide (cv h x.1 < cv h y.1)) S = isort (fun x y : Q5 => decide (x.2.2.2.2 < y.2.2.2.2)) S := isort_congr fun x m y n => by
    rw [cv_is (hc x (hS.mem_iff.mp m)), cv_is (hc y (hS.mem_iff.mp n))]
  have ed : (isort (fun x y : Q5 => decide (x.2.2.2.2 < y.2.2.2.2)) S).map (·.2.2.2) = isort (fun x y : D × List Int => decide (x.2 < y.2)) (S.map (·.2.2.2)) := isort_map (lt' := fun x y : D × List Int => decide (x.2 < y.2)) (fun t : Q5 => t.2.2.2) (fun _ _ => rfl) S
  rw [ec] at eo
  have es : S.map (·.2.2.2) = if b = true then (T.map (·.2.2.2)).reverse else T.map (·.2.2.2) := by
    show (if b = true then T.reverse else T).map _ = _
    cases b
    · rfl
    · simp
  rw [es] at ed
  have pm := (isort_perm (lt := fun x y : Q5 => decide (x.2.2.2.2 < y.2.2.2.2)) S).trans hS
  generalize isort (fun x y : Q5 => decide (x.2.2.2.2 < y.2.2.2.2)) S = J at *
  subst eo
  cases b with
  | false =>
    refine ⟨J, pm, ?_, ?_⟩
    · simp [outOf]
    · simp only [sortP, Bool.false_eq_true, if_false] at ed ⊢
      rw [← ed, List.map_map]
      rfl
  | true =>
    refine ⟨J.reverse, (List.reverse_perm _).trans pm, ?_, ?_⟩
    · simp [outOf, List.map_reverse]
    · simp only [sortP, if_true] at ed ⊢
      rw [← ed, List.map_map, List.map_reverse]
      rfl
/-- what is known after the i-th call -/
structure SK (X : Cx) (pins : List (Addr × Obj)) (σ : L2.St) (Hs H : Hp) (a kS e1 : Nat) (cs : List (D × List Int)) (i : Nat) (ks : List Value) (s' : Shared) (H' Hk : Hp) (kv : List V) (kd : List D) : Prop where
  inv : Inv X pins σ H' s'
  sk : Same Hs Hk
  kh : Same Hk H'
  hh : Same H H'
  gr : ∀ b o, Hk b = some o → Hs b = some o ∨ H b = none
  ha : H' a = some (.ext fun h => h.get? a = some (seqObj "list" #[] e1))
  hk : H' kS = some (.ext fun h => ∃ e, h.get? kS = some (seqObj "list" ks.toArray e))
  ka : Hk a = none
  kk : Hk kS = none
  ln : ks.length = i
  vk : Vals kv ks
  dk : DzA X.K Hk kv kd
  ld : kd.length = i
  ck : ∀ (j : Nat) q, kd[j]? = some q → ∃ p, cs[j]? = some p ∧ cdD q = some p.2
theorem DzA.mem5 {K : PySem.W.Frag} {H : Hp} : ∀ {T : List Q5}, DzA K H (T.map (·.2.2.1)) (T.map (·.2.2.2.1)) → ∀ {T' : List Q5}, (∀ t ∈ T', t ∈ T) → DzA K H (T'.map (·.2.2.1)) (T'.map (·.2.2.2.1)) := by
  intro T h T'
  have all : ∀ t ∈ T, Dz K H t.2.2.1 t.2.2.2.1 := by
    induction T with
    | nil => intro t m; cases m
    | cons t T ih =>
      intro u m
      cases h with
      | cons z zs =>
        rcases List.mem_cons.mp m with rfl | m
        · exact z
        · exact ih zs u m
  induction T' with
  | nil => intro _; exact .nil
  | cons t T' ih => intro m; exact .cons (all t (m t List.mem_cons_self)) (ih fun u n => m u (List.mem_cons_of_mem _ n))
theorem Vals.mem5 : ∀ {T : List Q5}, Vals (T.map (·.2.2.1)) (T.map (·.2.1)) → ∀ {T' : List Q5}, (∀ t ∈ T', t ∈ T) → Vals (T'.map (·.2.2.1)) (T'.map (·.2.1)) := by
  intro T h T'
  have all : ∀ t ∈ T, RelV t.2.2.1 t.2.1 := by
    induction T with
    | nil => intro t m; cases m
    | cons t T ih =>
      intro u m
      cases h with
      | cons z zs =>
        rcases List.mem_cons.mp m with rfl | m
        · exact z
        · exact ih zs u m
  induction T' with
  | nil => intro _; exact .nil
  | cons t T' ih => intro m; exact .cons (all t (m t List.mem_cons_self)) (ih fun u n => m u (List.mem_cons_of_mem _ n))
end ZS
set_option Elab.async false
set_option linter.all false
set_option maxRecDepth 100000
set_option maxHeartbeats 4000000
namespace ZS
open PySem PySem.Spec PyProof.Rows L2 Z Srt SrtO
theorem sorted_run {X : Cx} {pins : List (Addr × Obj)} {σ : L2.St} {H Hs : Hp} {s : Shared} {l fa : Addr} {xs : List V} {ds : List D} {fk : List D → Option FR} {b : Bool} {kw : List (Str × Value)} {fd : FuncData} {ps : List Str} {k : Nat} {cs : List (D × List Int)} {Q : VK}
    (I : Inv X pins σ H s) (hs : SqL X.K H l xs) (same : Same Hs H) (hz : DzA X.K Hs xs ds) (hcs : codesD fk ds = some cs) (c3 : L2.Binds X.K fd ps []) (c4 : FnOk X.prog X.w X.K X.mg X.base CX0 k fa fd ps (spP X.K fk)) (hr : Room (k + 2) X.A)
    (ha1 : argsOk "sorted" ⟨[.ref l], kw⟩) (ha2 : ∀ x, argsOk "list.sort" ⟨[.ref x], kw⟩) (ht : ∀ x, Builtin.«list.sort» ⟨[.ref x], kw⟩ = ksk_tree x (.ref fa) b)
    (q : ∀ (p : Addr) (Hk H' : Hp) (out : List V), Same Hs Hk → Same H H' → Same Hk H' → (∀ b o, Hk b = some o → Hs b = some o ∨ H b = none) → H p = none → Hk p = none → H' p = some (.lst out) → DzA X.K Hk out (sortP b cs) → Q (.ref p) H') :
    wpAny (model X.prog X.w) X.A (call (.builtin "sorted") [.ref l] kw) (EP X pins σ Q) X.xe s := by
  obtain ⟨its, rv, pl, hzl⟩ := I.list hs
  obtain ⟨em, eg⟩ := codesD_get hcs
  have lx : its.length = xs.length := rv.length.symm
  have lc : cs.length = xs.length := by rw [← List.length_map (f := (·.1)), em, hz.length]
  refine zk_shell (vs := its) pl.isList (by rw [lx]; exact hzl) ha1 ha2 ht fun hm a e1 keep ha oa => ?_
  have la := Heap.lt_size oa
  have na : H a = none := I.hok.fresh ha
  have nk : H hm.objs.size = none := I.hok.fresh (Nat.le_of_lt (Nat.lt_of_le_of_lt ha la))
  have hka : hm.objs.size ≠ a := Nat.ne_of_gt la
  have I1 : Inv X pins σ (upd H a (.ext fun h => h.get? a = some (seqObj "list" #[] e1))) { s with heap := hm } := I.laid (t' := s.toks) keep ha ⟨oa, ⟨_, oa⟩, fun h1 h2 p kk => kk _ p⟩
  have okS : (hm.push (seqObj "list" #[] 0)).get? hm.objs.size = some (seqObj "list" #[] 0) := Heap.get?_push_size _ rfl
  have I2 : Inv X pins σ (upd (upd H a (.ext fun h => h.get? a = some (seqObj "list" #[] e1))) hm.objs.size (.ext fun h => ∃ e, h.get? hm.objs.size = some (seqObj "list" ([] : List Value).toArray e))) { s with heap := hm.push (seqObj "list" #[] 0) } :=
    I1.laid (t' := s.toks) (fun b u e => Heap.get?_push_of_some _ e) (Nat.le_refl _) ⟨⟨0, okS⟩, ⟨_, okS⟩, fun h1 h2 ⟨e, p⟩ kk => ⟨e, kk _ p⟩⟩
  generalize hm.push (seqObj "list" #[] 0) = h0 at *
  generalize hm.objs.size = kS at *
  have sa : Hs a = none := Same.free same na
  have sk : Hs kS = none := Same.free same nk
  refine zk_rest (I := fun i ks s' => ∃ H' Hk kv kd, SK X pins σ Hs H a kS e1 cs i ks s' H' Hk kv kd) hka (by rw [lx]; exact hzl) ⟨upd (upd H a (.ext fun h => h.get? a = some (seqObj "list" #[] e1))) kS (.ext fun h => ∃ e, h.get? kS = some (seqObj "list" ([] : List Value).toArray e)), Hs, [], [], ?_⟩ ?_ ?_ ?_
  · refine ⟨I2, Same.refl _, ZN.same_upd (ZN.same_upd same sa) sk, ZN.same_upd (ZN.same_upd (Same.refl H) na) nk, fun b o e => .inl e, ?_, upd_same, sa, sk, rfl, .nil, .nil, rfl, fun j q e => by simp at e⟩
    rw [upd_ne (Ne.symm hka), upd_same]
  · rintro i ks s' ⟨H', Hk, kv, kd, S⟩
    exact ⟨(S.inv.hok kS _ S.hk).1, (S.inv.hok a _ S.ha).1, S.ln⟩
  · rintro i ks x s' hx ⟨H', Hk, kv, kd, S⟩
    obtain ⟨v, ev, rvx⟩ := Vals.mem rv hx
    obtain ⟨d, hd, dz⟩ := hz.getV ev
    obtain ⟨p, hp, e1p⟩ : ∃ p, cs[i]? = some p ∧ p.1 = d := by
      rw [← em, List.getElem?_map] at hd
      cases hc : cs[i]? with
      | none => rw [hc] at hd; cases hd
      | some p => rw [hc] at hd; cases hd; exact ⟨p, rfl, rfl⟩
    have hkey := eg i p hp
    rw [e1p] at hkey
    unfold keyC at hkey
    split at hkey
    · rename_i qd hfk
      have J := S.inv
      have sp : spP X.K fk ([v] ++ []) H' (fun (u : V) (H2 : Hp) => ∃ Hk2, Same Hk Hk2 ∧ Same H' H2 ∧ Same Hk2 H2 ∧ (∀ b o, Hk2 b = some o → Hk b = some o ∨ H' b = none) ∧ Dz X.K Hk2 u qd) E0 :=
        ⟨Hk, [d], .dat qd, S.kh, .cons (dz.mono S.sk) .nil, hfk, fun u Hk2 H2 t1 t2 t3 t4 rel => ⟨Hk2, t1, t2, t3, t4, rel⟩⟩
      have len := c4.len _ _ _ _ sp
      have b3 := c3 s' [x] J.kIn (by simpa using len)
      refine wpAny_call (codeAny_mono (c4.run X.A.in1.in1 X.stack s' H' ⟨[x], []⟩ ([x] ++ []) ([v] ++ []) _ E0 (Room.in1 (Room.in1 hr)) J.env0.in1.in1 b3 (.cons rvx .nil) sp) fun r s2 hq => ?_)
      cases r with
      | error e => exact False.elim hq
      | ok fl =>
        cases fl with
        | next => exact False.elim hq
        | brk => exact False.elim hq
        | cont => exact False.elim hq
        | ret u =>
          obtain ⟨w, H2, J2, rw2, Hk2, t1, t2, t3, t4, rel⟩ := J.after hq
          have hk2 := t2 _ _ S.hk
          obtain ⟨e, ek⟩ := (J2.hok kS _ hk2).1
          obtain ⟨e', enew⟩ : ∃ e', (s2.heap.update kS (Obj.mapSeq fun c => c.push u)).get? kS = some (seqObj "list" (ks ++ [u]).toArray e') := by
            rw [show (ks ++ [u]).toArray = ks.toArray.push u by simp]
            exact ⟨_, get?_update_seq ek fun c => c.push u⟩
          have fresh : ∀ {y o}, H' y = some o → Hk y = none → Hk2 y = none := fun {y o} h1 h2 => by
            cases z : Hk2 y with
            | none => rfl
            | some u' =>
              rcases t4 y u' z with g | g
              · rw [h2] at g; cases g
              · rw [h1] at g; cases g
          have ka2 := fresh S.ha S.ka
          have kk2 := fresh S.hk S.kk
          have J3 : Inv X pins σ (upd H2 kS (.ext fun h => ∃ e, h.get? kS = some (seqObj "list" (ks ++ [u]).toArray e))) { s2 with heap := s2.heap.update kS (Obj.mapSeq fun c => c.push u) } :=
            J2.write (x := kS) (e := kS) (t' := s2.toks) (by rw [hk2]; trivial) (.inl rfl) (fun b u' hb hu => (Heap.get?_update_ne _ _ _ _ hb).trans hu) ⟨_, enew⟩ ⟨⟨_, enew⟩, ⟨_, enew⟩, fun h1 h2 ⟨e, p⟩ kk => ⟨e, kk _ p⟩⟩
          refine ⟨⟨e, ek⟩, _, Hk2, kv ++ [w], kd ++ [qd], J3, S.sk.trans t1, ZN.same_upd t3 kk2, ZN.same_upd (S.hh.trans t2) nk, fun y o g => ?_, ?_, upd_same, ka2, kk2, by rw [List.length_append, S.ln]; rfl, S.vk.append (.cons rw2 .nil), (S.dk.mono t1).append (.cons rel .nil), by rw [List.length_append, S.ld]; rfl, fun j q' hq' => ?_⟩
          · rcases t4 y o g with g | g
            · exact S.gr y o g
            · exact .inr (Same.free S.hh g)
          · rw [upd_ne (Ne.symm hka)]
            exact t2 _ _ S.ha
          · by_cases hj : j < kd.length
            · rw [List.getElem?_append_left hj] at hq'
              exact S.ck j q' hq'
            · rw [List.getElem?_append_right (by omega)] at hq'
              have hj0 : j - kd.length = 0 := by
                have := (List.getElem?_eq_some_iff.mp hq').1
                simp at this
                omega
              rw [hj0] at hq'
              cases hq'
              have : j = i := by rw [← S.ld]; omega
              subst this
              exact ⟨p, hp, hkey⟩
    · cases hkey
  · rintro ks s' ⟨H', Hk, kv, kd, S⟩
    have lk : ks.length = its.length := S.ln
    have m1 : (ks.zip (its.zip (xs.zip cs))).map (·.1) = ks := List.map_fst_zip (by simp; omega)
    have m2 : (ks.zip (its.zip (xs.zip cs))).map (·.2) = its.zip (xs.zip cs) := List.map_snd_zip (by simp; omega)
    have m3 : (ks.zip (its.zip (xs.zip cs))).map (·.2.1) = its := by
      have := congrArg (List.map Prod.fst) m2
      rw [List.map_map, List.map_fst_zip (by simp; omega)] at this
      exact this
    have m4 : (ks.zip (its.zip (xs.zip cs))).map (·.2.2) = xs.zip cs := by
      have := congrArg (List.map Prod.snd) m2
      rw [List.map_map, List.map_snd_zip (by simp; omega)] at this
      exact this
    have m5 : (ks.zip (its.zip (xs.zip cs))).map (·.2.2.1) = xs := by
      have := congrArg (List.map Prod.fst) m4
      rw [List.map_map, List.map_fst_zip (by omega)] at this
      exact this
    have m6 : (ks.zip (its.zip (xs.zip cs))).map (·.2.2.2) = cs := by
      have := congrArg (List.map Prod.snd) m4
      rw [List.map_map, List.map_snd_zip (by omega)] at this
      exact this
    have m7 : (ks.zip (its.zip (xs.zip cs))).map (·.2.2.2.1) = ds := by
      have := congrArg (List.map Prod.fst) m6
      rw [List.map_map, em] at this
      exact this
    have hc : ∀ t ∈ (ks.zip (its.zip (xs.zip cs)) : List Q5), RkIs s'.heap t.2.2.2.2 t.1 := fun t ht' => by
      obtain ⟨j, hj⟩ := List.getElem?_of_mem ht'
      have j1 : ks[j]? = some t.1 := by rw [← m1, List.getElem?_map, hj]; rfl
      have j6 : cs[j]? = some t.2.2.2 := by rw [← m6, List.getElem?_map, hj]; rfl
      obtain ⟨w, ew, rw1⟩ := Vals.mem S.vk j1
      obtain ⟨qd, eq, dzq⟩ := S.dk.getV ew
      obtain ⟨p, hp, hcd⟩ := S.ck j qd eq
      rw [j6] at hp
      cases hp
      exact rk_is S.inv (dzq.mono S.kh) rw1 hcd
    have hck : ∀ v ∈ ks, ∃ c, RkIs s'.heap c v := fun v hv => by
      rw [← m1] at hv
      obtain ⟨t, ht', rfl⟩ := List.mem_map.mp hv
      exact ⟨_, hc t ht'⟩
    refine ⟨fun p q => decide (cv s'.heap p.1 < cv s'.heap q.1), swo_code fun p : Keyed => cv s'.heap p.1, fun h2 => ⟨PyProof.Rows.tuples' true, fun Q E hq => rk_kind hck (by omega) hq, fun p q hp hq => ?_⟩, fun o h1 h2 => ?_⟩
    · obtain ⟨c1, x1⟩ := hck _ hp
      obtain ⟨c2, x2⟩ := hck _ hq
      have e3 : decide (c1 < c2) = decide (cv s'.heap p.1 < cv s'.heap q.1) := by rw [cv_is x1, cv_is x2]
      refine wpAny_mono (rk_lt rfl x1 x2) (fun r st z => ⟨z.1, z.2.trans e3⟩) fun _ _ z => z
    · obtain ⟨T', pm, e1', e2⟩ := out_of (b := b) (T := ks.zip (its.zip (xs.zip cs))) hc h1 (by rw [m1, m3]; exact h2)
      rw [m6] at e2
      rw [e1']
      have sub : ∀ t ∈ T', t ∈ ks.zip (its.zip (xs.zip cs)) := fun t m => pm.mem_iff.mp m
      have vo : Vals (T'.map (·.2.2.1)) (T'.map (·.2.1)) := Vals.mem5 (T := ks.zip (its.zip (xs.zip cs))) (by rw [m5, m3]; exact rv) sub
      have zo : DzA X.K Hk (T'.map (·.2.2.1)) (sortP b cs) := by
        rw [← e2]
        exact (DzA.mem5 (T := ks.zip (its.zip (xs.zip cs))) (by rw [m5, m7]; exact hz) sub).mono S.sk
      have lT : T'.length ≤ sizeLine := by
        rw [pm.length_eq]
        simp
        omega
      obtain ⟨ek0, ekS⟩ := (S.inv.hok kS _ S.hk).1
      have oaS : s'.heap.get? a = some (seqObj "list" #[] e1) := (S.inv.hok a _ S.ha).1
      obtain ⟨ek1, n1⟩ : ∃ e, (s'.heap.update kS (Obj.mapSeq fun _ => (#[] : Array Value))).get? kS = some (seqObj "list" #[] e) := ⟨_, get?_update_seq ekS fun _ => #[]⟩
      have J1 : Inv X pins σ (upd H' kS (.ext fun h => ∃ e, h.get? kS = some (seqObj "list" #[] e))) { s' with heap := s'.heap.update kS (Obj.mapSeq fun _ => (#[] : Array Value)) } :=
        S.inv.write (x := kS) (e := kS) (t' := s'.toks) (by rw [S.hk]; trivial) (.inl rfl) (fun b u' hb hu => (Heap.get?_update_ne _ _ _ _ hb).trans hu) ⟨_, n1⟩ ⟨⟨_, n1⟩, ⟨_, n1⟩, fun h1 h2 ⟨e, p⟩ kk => ⟨e, kk _ p⟩⟩
      have oa2 : (s'.heap.update kS (Obj.mapSeq fun _ => (#[] : Array Value))).get? a = some (seqObj "list" #[] e1) := (Heap.get?_update_ne _ _ _ _ (Ne.symm hka)).trans oaS
      obtain ⟨ea2, n2⟩ : ∃ e, (endHeap s'.heap kS a (T'.map (·.2.1))).get? a = some (seqObj "list" (T'.map (·.2.1)).toArray e) := ⟨_, get?_update_seq oa2 fun _ : Array Value => (List.map (fun t : Q5 => t.2.1) T').toArray⟩
      have J2 : Inv X pins σ (upd (upd H' kS (.ext fun h => ∃ e, h.get? kS = some (seqObj "list" #[] e))) a (.lst (T'.map (·.2.2.1)))) { s' with heap := endHeap s'.heap kS a (T'.map (·.2.1)) } :=
        J1.write (x := a) (e := a) (t' := s'.toks) (by rw [upd_ne (Ne.symm hka), S.ha]; trivial) (.inl rfl) (fun b u' hb hu => (Heap.get?_update_ne _ _ _ _ hb).trans hu) ⟨_, n2⟩ ⟨by rw [List.length_map]; exact lT, _, _, vo, n2⟩
      exact ⟨rfl, .ref a, _, J2, rfl, q a Hk _ _ S.sk (ZN.same_upd (ZN.same_upd S.hh nk) na) (ZN.same_upd (ZN.same_upd S.kh S.kk) S.ka) S.gr na S.ka upd_same zo⟩
end ZS
set_option Elab.async false
set_option linter.all false
set_option maxRecDepth 100000
set_option maxHeartbeats 4000000
namespace Z
open PySem PySem.Spec PyProof.Rows L2 ZS
def zSortK (f : List D → Option FR) (b : Bool) (ma : ZM) : ZM := fun g => do
  let (r, g1) ← ma g
  let d ← rd g1 r
  match d with
  | .lst ds => do
    let out ← sortD f b ds
    some (.bor g1.length, g1 ++ [.own (.lst out) false false])
  | _ => none
def rSortK (K : PySem.W.Frag) (f : List D → Option FR) (b : Bool) (zs0 : List V) : List V → List V → Hp → VK → Prop := fun vs zs H Q => ∃ (l : Addr) (xs : List V) (Hs : Hp) (ds : List D) (cs : List (D × List Int)), vs = [.ref l] ∧ zs = zs0 ∧ SqL K H l xs ∧ Same Hs H ∧ DzA K Hs xs ds ∧ codesD f ds = some cs ∧
  ∀ (p : Addr) (Hk H' : Hp) (out : List V), Same Hs Hk → Same H H' → Same Hk H' → (∀ b o, Hk b = some o → Hs b = some o ∨ H b = none) → H p = none → Hk p = none → H' p = some (.lst out) → DzA K Hk out (sortP b cs) → Q (.ref p) H'
section
variable {X : Cx} {f : List D → Option FR}
theorem cr_sortK {fa : Addr} {fd : FuncData} {ps : List Str} {k : Nat} (c3 : L2.Binds X.K fd ps []) (c4 : FnOk X.prog X.w X.K X.mg X.base CX0 k fa fd ps (spP X.K f)) (hr : Room (k + 2) X.A) : CallRK X (.builtin "sorted") [Str.ofString "key"] (rSortK X.K f false [.ref fa]) := by
  intro pins s σ H vs zs us ws Q I rv rz h
  obtain ⟨l, xs, Hs, ds, cs, rfl, rfl, hs, sm, hz, hc, q⟩ := h
  obtain rfl := Vals.ref1 rv
  obtain ⟨w1, rfl, e1⟩ := vals1 rz
  obtain rfl : w1 = Value.ref fa := e1
  exact sorted_run I hs sm hz hc c3 c4 hr (ksk_s1 _ _) (fun _ => ksk_l1 _ _) (fun x => ksk_t1 fa x) q
theorem sortK_of {b : Bool} {ma : ZM} {zs0 : List V} {tk : TA} (htk : ∀ σ H (Q : List V → Hp → Prop), Q zs0 H → tk σ H Q) {σ : L2.St} {H : Hp} {Q : VK} (h : tZ X.K X.N.length (zSortK f b ma) σ H Q) : tCKw (rSortK X.K f b zs0) (tCons (tZ X.K X.N.length ma) tNil) tk σ H Q := by
  obtain ⟨C, Hs, A, g, r, g', hK, hn, ok, e, q⟩ := h
  unfold zSortK at e
  simp only [Option.bind_eq_bind, Option.bind_eq_some_iff] at e
  obtain ⟨⟨r1, g1⟩, h1, d, h2, e⟩ := e
  cases d with
  | lst ds =>
    simp only [Option.bind_eq_some_iff] at e
    obtain ⟨out, h3, e⟩ := e
    cases e
    obtain ⟨cs, h4, h5⟩ := Option.map_eq_some_iff.mp h3
    subst h5
    refine ⟨C, Hs, A, g, r1, g1, hK, hn, ok, h1, fun Hs1 A1 v1 H1 s1 p1 ok1 rel1 => htk _ _ _ ?_⟩
    obtain ⟨a, xs, rfl, y1, y2⟩ := ok1.rdL rel1 h2
    rw [hK] at y1 y2
    refine ⟨a, xs, Hs1, ds, cs, rfl, rfl, y1, ok1.same, y2, h4, fun p Hk H' out t1 t2 t3 t4 t5 t6 t7 t8 => ?_⟩
    exact q Hk (A1 ++ [p]) _ H' (s1.trans t1) (p1.trans (Pre.app _ _)) (ok1.adoptS (c := .lst (sortP b cs)) t2 t1 t3 t4 t5 t6 t7 (by rw [hK]; exact t8)) (ok1.tmpR p)
  | _ => cases e
variable {a : Expr} {ma : ZM} {x y : Str} {p p2 pos kp kp2 : Pos}
theorem ze_sortK {k j : Nat} (c : Cal X.prog X.w X.K X.mg X.base k y (spP X.K f)) (hr : Room j X.A) (hj : k + 2 ≤ j) (hg : Gl X x) (hm : X.mg x = none) (ha : ZE X a ma) (hy : Gl X y) (hv : bootBuiltins x = some (.builtin "sorted") := by decide +kernel) (hn : x ≠ "__name__" := by decide) (hdb : (x == ("__debug__" : Str)) = false := by decide) (hdy : (y == ("__debug__" : Str)) = false := by decide)
    (hs : starEach [a] X.env = [(false, eval a X.env)] := by rfl)
    (he : backTo pos (starEach [a] X.env) = (false, eval a X.env) :: backTo pos (starEach [] X.env) := by rfl) (hpl : (backTo pos (starEach [a] X.env)).any (·.1) = false := by rfl)
    (hall : (backToKw pos (keywordEach [⟨some (Str.ofString "key"), .Name y p2, kp⟩] X.env)).all (·.1.isSome) = true := by rfl) (hnone : (backToKw pos (keywordEach [⟨some (Str.ofString "key"), .Name y p2, kp⟩] X.env)).any (·.1.isNone) = false := by rfl)
    (hks : (backToKw pos (keywordEach [⟨some (Str.ofString "key"), .Name y p2, kp⟩] X.env)).filterMap (·.1) = [Str.ofString "key"] := by rfl) :
    ZE X (.Call (.Name x p) [a] [⟨some (Str.ofString "key"), .Name y p2, kp⟩] pos) (zSortK f false ma) := by
  obtain ⟨fa, fd, ps, c1, c2, c3, c4⟩ := c
  exact PE.of (pe_callBK (cr_sortK c3 c4 (hr.mono hj)) hg hm hv (pa_cons ha pa_nil hs) (pk_cons (pe_glob hy c1 (v := .ref fa) rfl hdy) pk_nil) hn hdb he hpl hall hnone hks) fun σ H Q h => sortK_of (fun _ _ _ z => z) h
end
section
variable {f : List D → Option FR} {g g1 : G} {ma : ZM}
theorem er_sortK {b : Bool} {r : R} {ds : List D} {cs : List (D × List Int)} (h1 : ma g = some (r, g1)) (h2 : rd g1 r = some (.lst ds)) (h3 : codesD f ds = some cs) : zSortK f b ma g = some (.bor g1.length, g1 ++ [.own (.lst (sortP b cs)) false false]) := by
  unfold zSortK
  simp only [Option.bind_eq_bind, h1, h2, sortD, h3, Option.bind_some, Option.map_some]
theorem codesD_map {c : D → List Int} : ∀ {ds : List D}, (∀ d ∈ ds, keyC f d = some (c d)) → codesD f ds = some (ds.map fun d => (d, c d))
  | [], _ => rfl
  | d :: ds, h => by
    unfold codesD
    rw [h d List.mem_cons_self, codesD_map fun x m => h x (List.mem_cons_of_mem _ m)]
    rfl
end
end Z
set_option Elab.async false
set_option linter.all false
set_option maxRecDepth 100000
set_option maxHeartbeats 4000000
namespace ZN
open PySem PySem.Spec PyProof.Rows L2 Z
end ZN
set_option Elab.async false
set_option linter.all false
set_option maxRecDepth 100000
set_option maxHeartbeats 4000000
namespace ZN
open PySem PySem.Spec PyProof.Rows L2 Z
end ZN
namespace Z
open PySem PySem.Spec PyProof.Rows L2 ZN
end Z
set_option Elab.async false
set_option linter.all false
set_option maxRecDepth 100000
set_option maxHeartbeats 4000000
namespace Z
open PySem PySem.Spec PyProof.Rows L2 ZS SrtO
end Z
set_option Elab.async false
set_option linter.all false
set_option maxRecDepth 100000
set_option maxHeartbeats 4000000
namespace Z
open PySem PySem.Spec PyProof.Rows L2
end Z
set_option Elab.async false
set_option linter.all false
set_option maxRecDepth 100000
set_option maxHeartbeats 4000000
namespace Z
open PySem PySem.Spec PyProof.Rows L2
end Z
set_option Elab.async false
set_option linter.all false
set_option maxRecDepth 100000
set_option maxHeartbeats 4000000
namespace Z
open PySem PySem.Spec PyProof.Rows L2
end Z
set_option Elab.async false
set_option linter.all false
set_option maxRecDepth 100000
set_option maxHeartbeats 4000000
namespace Z
open PySem PySem.Spec PyProof.Rows L2 ZN ZS SrtO
/-- a plain value -/
def PlV (v : D) : Prop := match v with
  | .non => True | .bl _ => True | .int _ => True | .str _ => True | _ => False
theorem VW.pl {v : D} (h : VW v) : PlV v := by cases v <;> first | exact h.elim | trivial
def xC : D → List Int
  | .int i => [i]
  | .str t => t.map Int.ofNat
  | _ => []
/-- the rank's code -/
def vC (v : D) : List Int := (kd v : Nat) :: xC (kx v)
theorem cd_rk {v : D} (h : PlV v) : cdD (rk v) = some (vC v) := by
  cases v with
  | non => rfl
  | bl b => cases b <;> rfl
  | int i => rfl
  | str t => rfl
  | _ => exact h.elim
theorem vC_lt {v w : D} (hv : PlV v) (hw : PlV w) : decide (vC v < vC w) = ltV v w := by
  unfold ltV vC
  have cons : ∀ (a b : Nat) (l m : List Int), ((a : Int) :: l < (b : Int) :: m) ↔ a < b ∨ (a = b ∧ l < m) := fun a b l m => by
    rw [List.cons_lt_cons_iff, Int.ofNat_lt, Int.ofNat_inj]
  rw [Bool.eq_iff_iff, decide_eq_true_iff, cons]
  have one : ∀ i j : Int, ([i] < [j]) ↔ i < j := fun i j => by rw [List.cons_lt_cons_iff]; simp
  cases v <;> first | exact hv.elim | skip
  all_goals cases w <;> first | exact hw.elim | skip
  all_goals simp [kd, kx, xC, one, nat_lt_int]
theorem codes_rk {f : List D → Option FR} {vs : List D} (hf : ∀ v ∈ vs, f [v] = some (.dat (rk v))) (h : ∀ v ∈ vs, PlV v) : codesD f vs = some (vs.map fun v => (v, vC v)) := codesD_map fun v m => by
  unfold keyC
  rw [hf v m]
  exact cd_rk (h v m)
/-- the values in order -/
def sortV (vs : List D) : List D := isort (fun v w => decide (vC v < vC w)) vs
theorem sortP_rk (vs : List D) : sortP false (vs.map fun v => (v, vC v)) = sortV vs := by
  simp only [sortP, Bool.false_eq_true, if_false]
  rw [← isort_map (lt := fun v w => decide (vC v < vC w)) (fun v : D => (v, vC v)) (fun _ _ => rfl), List.map_map]
  exact List.map_id' _
theorem sortV_perm (vs : List D) : (sortV vs).Perm vs := isort_perm vs
theorem sortV_srtd (vs : List D) : (sortV vs).Pairwise fun v w => decide (vC w < vC v) = false := isort_srtd (swo_code vC) vs
end Z
set_option Elab.async false
set_option linter.all false
set_option maxRecDepth 100000
set_option maxHeartbeats 4000000
namespace Z
open PySem PySem.Spec PyProof.Rows L2
end Z
set_option Elab.async false
set_option linter.all false
set_option maxRecDepth 100000
set_option maxHeartbeats 4000000
namespace Z
open PySem PySem.Spec PyProof.Rows L2 ZN ZS SrtO
end Z
set_option Elab.async false
set_option linter.all false
set_option maxRecDepth 100000
set_option maxHeartbeats 4000000
namespace Z
open PySem PySem.Spec PyProof.Rows L2
def ClsAt (K : PySem.W.Frag) (c : Str) (C : Addr) : Prop := PySem.W.nsIn K mainGlobals c = some (some (.ref C))
def zObj (c : Str) : R → Option (List Str × List D)
  | .dat (.obj c' fs ds) => if c' = c then some (fs, ds) else none
  | _ => none
theorem zObj_some {c : Str} {r : R} {q : List Str × List D} (h : zObj c r = some q) : r = .dat (.obj c q.1 q.2) := by
  unfold zObj at h
  split at h
  · split at h
    · rename_i e
      cases h; rw [e]
    · cases h
  · cases h
theorem lookup_zip {α : Type} : ∀ {fl : List Str} {xs : List α} {i : Nat} {f : Str} {v : α}, fl.Nodup → fl[i]? = some f → xs[i]? = some v → (fl.zip xs).lookup f = some v
  | [], _, _, _, _, _, h, _ => by simp at h
  | _ :: _, [], _, _, _, _, _, h => by simp at h
  | a :: fl, x :: xs, 0, f, v, _, h1, h2 => by
    simp at h1 h2
    subst h1; subst h2
    simp [List.lookup]
  | a :: fl, x :: xs, i + 1, f, v, nd, h1, h2 => by
    have h1 : fl[i]? = some f := by simpa using h1
    have h2 : xs[i]? = some v := by simpa using h2
    have nd := List.nodup_cons.mp nd
    have ne : (f == a) = false := beq_eq_false_iff_ne.mpr fun z => nd.1 (z ▸ List.mem_of_getElem? h1)
    show List.lookup f ((a, x) :: fl.zip xs) = some v
    simp only [List.lookup, ne]
    exact lookup_zip nd.2 h1 h2
/-- a field of a class may be read -/
def FldK (K : PySem.W.Frag) (c f : Str) : Prop := ∃ C, ClsAt K c C ∧ Cls K C ∧ NoAttr K C f
def zFld (c : Str) (fl : List Str) (i : Nat) (m : ZM) : ZM := fun g => do
  let (r, g1) ← m g
  let q ← zObj c r
  if q.1 = fl then (do
    let d ← q.2[i]?
    some (.dat d, g1)) else none
theorem er_fld {c : Str} {fl : List Str} {i : Nat} {m : ZM} {g g1 : G} {ds : List D} {d : D} (h : m g = some (.dat (.obj c fl ds), g1)) (hd : ds[i]? = some d) : zFld c fl i m g = some (.dat d, g1) := by
  unfold zFld
  simp [h, zObj, hd]
section
variable {X : Cx} {pos : Pos} {c : Str} {fl : List Str}
theorem ze_fld {e : Expr} {f : Str} {i : Nat} {m : ZM} (k : FldK X.K c f) (hn : fl.Nodup) (hi : fl[i]? = some f) (h : ZE X e m) (hb : attributeBase e f X.env (eval e X.env) = eval e X.env := by rfl) :
    ZE X (.Attribute e f pos) (zFld c fl i m) := by
  refine PE.of (pe_fld h hb) fun σ H Q ⟨C, Hs, A, g, r, g', hK, hN, ok, e, q⟩ => ?_
  unfold zFld at e
  simp only [Option.bind_eq_bind, Option.bind_eq_some_iff] at e
  obtain ⟨⟨r1, g1⟩, h1, ⟨fs, ds⟩, h2, e⟩ := e
  simp only at e
  split at e
  · rename_i hf
    simp only [Option.bind_eq_some_iff] at e
    obtain ⟨d, h3, e⟩ := e
    cases e
    subst hf
    have h2 : zObj c r1 = some (fs, ds) := h2
    refine ⟨C, Hs, A, g, r1, _, hK, hN, ok, h1, fun Hs1 A1 v H1 s1 p1 ok1 rel1 => ?_⟩
    rw [zObj_some h2] at rel1
    have dz : Dz C.K Hs1 v (.obj c fs ds) := rel1
    cases dz with
    | obj hc ha hl hz =>
      obtain ⟨C0, q1, q2, q3⟩ := k
      rw [hK] at hc
      have eC := hc.symm.trans (show PySem.W.nsIn X.K mainGlobals c = some (some (.ref C0)) from q1)
      cases eC
      obtain ⟨v', w1, w2⟩ := hz.get h3
      exact ⟨_, _, _, _, v', rfl, ok1.same _ _ ha, q2, q3, lookup_zip hn hi w1, q Hs1 A1 v' H1 s1 p1 ok1 w2⟩
  · cases e
end
/-- the promise of an __init__ that stores fields -/
def spI (K : PySem.W.Frag) (fl : List Str) (f : List D → Option (List D)) : Sp := fun vs H Q _ => ∃ (C x dx : Addr) (us : List V) (Hs : Hp) (ds es : List D), vs = .ref x :: us ∧ Cls K C ∧ (∀ n ∈ fl, NoAttr K C n) ∧ H x = some (.ins C dx []) ∧ Hs x = none ∧ Same Hs H ∧ DzA K Hs us ds ∧ f ds = some es ∧
  ∀ (Hs' H' : Hp) (xs : List V), Same Hs Hs' → (∀ b u, b ≠ x → H b = some u → H' b = some u) → Same Hs' H' → (∀ b o, Hs' b = some o → Hs b = some o ∨ (b ≠ x ∧ H b = none)) → Hs' x = none → H' x = some (.ins C dx (fl.zip xs)) → fl.length = xs.length → DzA K Hs' xs es → Q .non H'
def zIn : List ZM → G → Option (List D × G)
  | [], g => some ([], g)
  | m :: ms, g => do
    let (r, g1) ← m g
    let (d, g2) ← frzR r g1
    let (ds, g3) ← zIn ms g2
    some (d :: ds, g3)
theorem KdOk.lsts {K : PySem.W.Frag} {Hs H : Hp} : ∀ {ks : List Addr} {ls : List (List D)}, KdOk K Hs H ks ls → ∀ x ∈ ks, ∃ us, H x = some (.lst us)
  | [], [], _, _, m => (List.not_mem_nil m).elim
  | b :: bs, l :: ls, h, x, m => by
    rcases List.mem_cons.mp m with rfl | m
    · obtain ⟨us, e, _⟩ := h.1
      exact ⟨us, e⟩
    · exact KdOk.lsts h.2 x m
  | [], _ :: _, h, _, _ => h.elim
  | _ :: _, [], h, _, _ => h.elim
/-- an instance that nothing known rests on is changed -/
def Ct.ins (C : Ct) (x : Addr) (o : HO) : Ct := { C with H0 := upd C.H0 x o }
theorem Ok.ins {C : Ct} {Hs : Hp} {A : List Addr} {g : G} {σ : L2.St} {H : Hp} (ok : Ok C Hs A g σ H) {x Cc dx : Addr} {fs : List (Str × V)} {o : HO} (h : H x = some (.ins Cc dx fs)) (hs : Hs x = none) : Ok (C.ins x o) Hs A g σ (upd H x o) := by
  have ne : ∀ {b : Addr} {us : List V}, H b = some (.lst us) → b ≠ x := fun {b us} e z => by rw [z, h] at e; cases e
  have h0 : ∀ {b : Addr}, b ≠ x → (C.ins x o).H0 b = C.H0 b := fun z => upd_ne z
  refine ⟨ok.ln, ok.lg, ok.la, ok.base, fun b u e => ?_, ok.dat, ok.frz, fun i c p l e => ?_, ok.inj, fun b u e => ?_, fun b u e k => ?_, ok.pinned, ok.pin1, ok.locked, ?_⟩
  · rw [upd_ne (fun z => by rw [z, hs] at e; cases e)]
    exact ok.same b u e
  · obtain ⟨a, u, q1, q2, q3, q4, q5, q6⟩ := ok.own i c p l e
    refine ⟨a, u, q1, q2, q3, ?_, q5, fun hp => ?_⟩
    · cases c with
      | lst l' =>
        obtain ⟨vs, rfl, _⟩ := CnOk.lst_inv (show CnOk C.K Hs (.lst l') u from q5)
        rw [upd_ne (ne q4)]; exact q4
    · cases c with
      | lst l' =>
        obtain ⟨vs, rfl, _⟩ := CnOk.lst_inv (show CnOk C.K Hs (.lst l') u from q5)
        rw [h0 (ne q4)]; exact q6 hp
  · rcases ok.grow b u e with q | q
    · exact .inl q
    · by_cases z : b = x
      · rw [z, hs] at e; cases e
      · exact .inr (by rw [h0 z]; exact q)
  · by_cases z : b = x
    · subst z
      rw [show (C.ins b o).H0 b = some o from upd_same] at e
      rw [upd_same]; exact e
    · rw [h0 z] at e
      rw [upd_ne z]
      exact ok.keep b u e k
  · intro i ls e
    obtain ⟨a, ks, q1, q2, q3, q4, q5⟩ := ok.rws i ls e
    have na : ∀ y ∈ a :: ks, y ≠ x := fun y m => by
      rcases List.mem_cons.mp m with rfl | m
      · exact ne q3.hd
      · obtain ⟨us, e⟩ := q3.kd.lsts y m
        exact ne e
    refine ⟨a, ks, q1, q2, ⟨by rw [upd_ne (na a List.mem_cons_self)]; exact q3.hd, q3.nd, fun y m => ⟨(q3.fr y m).1, by rw [h0 (na y m)]; exact (q3.fr y m).2⟩, q3.kd.move (Same.refl _) fun y m o' e' => by rw [upd_ne (na y (List.mem_cons_of_mem _ m))]; exact e'⟩, q4, fun j ms b y e1 e2 m1 m2 => ?_⟩
    obtain ⟨b', ks', r1, _, r3, _⟩ := ok.rws j ms e1
    rw [e2] at r1
    cases r1
    rw [upd_ne (ne r3.hd)] at m1
    exact q5 j ms b y e1 e2 m1 m2
/-- a datum is forgotten -/
theorem Ok.un0 {C : Ct} {Hs : Hp} {A : List Addr} {g : G} {σ : L2.St} {H : Hp} {d : D} (ok : Ok C Hs A (.dat d :: g) σ H) : Ok C Hs A (.un :: g) σ H := by
  have old : ∀ (i : Nat) (t : Sl), (Sl.un :: g)[i]? = some t → t ≠ .un → (Sl.dat d :: g)[i]? = some t := fun i t e n => by
    cases i with
    | zero => simp at e; exact absurd e.symm n
    | succ i => simpa using e
  refine ⟨ok.ln, ok.lg, ok.la, ok.base, ok.same, fun i d' e => ok.dat i d' (old i _ e nofun), fun i d' e => ok.frz i d' (old i _ e nofun), fun i c p l e => ok.own i c p l (old i _ e nofun), fun i j c p l c' p' l' a e1 e2 h1 h2 => ok.inj i j c p l c' p' l' a (old i _ e1 nofun) (old j _ e2 nofun) h1 h2, ok.grow, ok.keep, fun q hq => ?_, fun i c l a e ha => ok.pin1 i c l a (old i _ e nofun) ha, fun q hq => ?_, ?_⟩
  · obtain ⟨c, l, h1, h2⟩ := ok.pinned q hq
    refine ⟨c, l, ?_, h2⟩
    cases z : q.1 with
    | zero => rw [z] at h1; simp at h1
    | succ i => rw [z] at h1; simpa using h1
  · obtain ⟨p, h1, h2⟩ := ok.locked q hq
    refine ⟨p, ?_, h2⟩
    cases z : q.1 with
    | zero => rw [z] at h1; simp at h1
    | succ i => rw [z] at h1; simpa using h1
  · intro i ls e
    obtain ⟨a, ks, q1, q2, q3, q4, q5⟩ := ok.rws i ls (old i _ e nofun)
    exact ⟨a, ks, q1, q2, q3, fun j c p l b e1 e2 => q4 j c p l b (old j _ e1 nofun) e2, fun j ms b x e1 e2 => q5 j ms b x (old j _ e1 nofun) e2⟩
theorem putF_new : ∀ {fs : List (Str × V)} {f : Str} {v : V}, f ∉ fs.map (·.1) → putF f v fs = fs ++ [(f, v)]
  | [], _, _, _ => rfl
  | (g, x) :: r, f, v, h => by
    have h1 : ¬ g = f := fun z => h (by simp [z])
    show (if g = f then (g, v) :: r else (g, x) :: putF f v r) = _
    rw [if_neg h1, putF_new (fs := r) fun m => h (by simp only [List.map_cons, List.mem_cons]; exact .inr m)]
    rfl
/-- the body of an __init__: what stands at the state -/
def tInit (K : PySem.W.Frag) (n : Nat) (fl : List Str) (ms : List ZM) : TS := fun DE σ H => ∃ (C : Ct) (Hs : Hp) (A : List Addr) (g g' : G) (x Cc dx : Addr) (fl0 : List Str) (xs0 : List V) (es : List D), C.K = K ∧ C.n = n ∧ Ok C Hs A g σ H ∧
  σ[0]? = some (some (.ref x)) ∧ Cls K Cc ∧ (∀ f ∈ fl, NoAttr K Cc f) ∧ C.H0 x = some (.ins Cc dx (fl0.zip xs0)) ∧ fl0.length = xs0.length ∧ (fl0 ++ fl).Nodup ∧ (fl0 ++ fl).length < 1000 ∧ C.Hs0 x = none ∧ C.pins = [] ∧ zIn ms g = some (es, g') ∧ fl.length = ms.length ∧
  ∀ (C' : Ct) (Hs' : Hp) (A' : List Addr) (σ' : L2.St) (H' : Hp) (xs : List V), C'.K = K → C'.n = n → C'.Hs0 = C.Hs0 → C'.pins = [] → (∀ b, b ≠ x → C'.H0 b = C.H0 b) → C'.H0 x = some (.ins Cc dx ((fl0 ++ fl).zip (xs0 ++ xs))) → Same Hs Hs' → Ok C' Hs' A' g' σ' H' → fl.length = xs.length → DzA K Hs' xs es → DE.nx σ' H'
theorem zi_nil {K : PySem.W.Frag} {n : Nat} {DE : Ends} {σ : L2.St} {H : Hp} (h : tInit K n [] [] DE σ H) : DE.nx σ H := by
  obtain ⟨C, Hs, A, g, g', x, Cc, dx, fl0, xs0, es, hK, hn, ok, h0, cl, na, hx, hl, nd, lt, hs, hp, e, _, q⟩ := h
  cases e
  exact q C Hs A σ H [] hK hn rfl hp (fun _ _ => rfl) (by rw [List.append_nil, List.append_nil]; exact hx) (Same.refl _) ok rfl .nil
theorem zi_step {K : PySem.W.Frag} {n : Nat} {DE : Ends} {σ : L2.St} {H : Hp} {f : Str} {fl : List Str} {m : ZM} {ms : List ZM} (h : tInit K n (f :: fl) (m :: ms) DE σ H) : sFld K (tVar 0) (tZ K n m) f { DE with nx := tInit K n fl ms DE } σ H := by
  obtain ⟨C, Hs, A, g, g', x, Cc, dx, fl0, xs0, es, hK, hn, ok, h0, cl, na, hx, hl, nd, lt, hs, hp, e, hlen, q⟩ := h
  unfold zIn at e
  simp only [Option.bind_eq_bind, Option.bind_eq_some_iff] at e
  obtain ⟨⟨r, g1⟩, h1, ⟨d, g2⟩, h2, ⟨ds, g3⟩, h3, e⟩ := e
  cases e
  refine ⟨C, Hs, A, g, r, g1, hK, hn, ok, h1, fun Hs1 A1 y H1 s1 p1 ok1 rel1 => ?_⟩
  have hx1 : H1 x = some (.ins Cc dx (fl0.zip xs0)) := ok1.keep x _ hx (by rw [hp]; intro q hq; cases hq)
  obtain ⟨Hs2, s2, ok2, z2⟩ := ok1.frzR rel1 h2
  have hs2 : Hs2 x = none := by
    cases z : Hs2 x with
    | none => rfl
    | some o =>
      rcases ok2.grow x o z with k | k
      · rw [hs] at k; cases k
      · rw [hx] at k; cases k
  refine ⟨.ref x, h0, x, Cc, dx, fl0.zip xs0, rfl, hx1, cl, na f List.mem_cons_self, ?_, ?_⟩
  · rw [List.length_zip]
    have := lt
    rw [List.length_append] at this
    omega
  · have nf : f ∉ (fl0.zip xs0).map (·.1) := by
      rw [List.map_fst_zip (by omega)]
      intro hm
      exact (List.nodup_append.mp nd).2.2 f hm f List.mem_cons_self rfl
    have e1 : putF f y (fl0.zip xs0) = (fl0 ++ [f]).zip (xs0 ++ [y]) := by
      rw [putF_new nf, List.zip_append hl]; rfl
    have e2 : (fl0 ++ [f]) ++ fl = fl0 ++ f :: fl := by simp
    rw [e1]
    refine ⟨C.ins x (.ins Cc dx ((fl0 ++ [f]).zip (xs0 ++ [y]))), Hs2, A1, g2, _, x, Cc, dx, fl0 ++ [f], xs0 ++ [y], ds, hK, hn, ok2.ins hx1 hs2, h0, cl, fun z hz => na z (List.mem_cons_of_mem _ hz), upd_same, by simp [hl], by rw [e2]; exact nd, by rw [e2]; exact lt, hs, hp, h3, by simpa using hlen, ?_⟩
    intro C' Hs' A' σ' H' xs k1 k2 k3 k4 k5 k6 k7 k8 k9 k10
    refine q C' Hs' A' σ' H' (y :: xs) k1 k2 k3 k4 (fun b hb => (k5 b hb).trans (upd_ne hb)) ?_ ((s1.trans s2).trans k7) k8 (by simp [k9]) (.cons (by rw [← hK]; exact z2.mono k7) k10)
    rw [e2] at k6
    rw [k6]
    simp
section
variable {X : Cx} {o value : Expr} {f : Str} {pos pos' : Pos} {fl : List Str} {m : ZM} {ms : List ZM} {rest : List Stmt}
theorem zi_one (ho : PE X o (tVar 0)) (he : ZE X value m) (hs : swapsWith value (some (.Attribute o f pos')) pos.line X.env = pure false := by rfl) :
    PSs X [.Assign [.Attribute o f pos'] value pos] (tInit X.K X.N.length [f] [m]) := by
  refine PSs.of (pss_one (ps_fld ho he hs)) fun D σ H h => ?_
  obtain ⟨C, Hs, A, g, r, g1, hK, hn, ok, h1, q⟩ := zi_step h
  refine ⟨C, Hs, A, g, r, g1, hK, hn, ok, h1, fun Hs1 A1 y H1 s1 p1 ok1 rel1 => ?_⟩
  obtain ⟨v, h0, x, Cc, dx, fs, e, hx, cl, na, lt, q2⟩ := q Hs1 A1 y H1 s1 p1 ok1 rel1
  exact ⟨v, h0, x, Cc, dx, fs, e, hx, cl, na, lt, zi_nil q2⟩
theorem zi_cons (ho : PE X o (tVar 0)) (he : ZE X value m) (hr : PSs X rest (tInit X.K X.N.length fl ms)) (hs : swapsWith value (some (.Attribute o f pos')) pos.line X.env = pure false := by rfl) :
    PSs X (.Assign [.Attribute o f pos'] value pos :: rest) (tInit X.K X.N.length (f :: fl) (m :: ms)) :=
  PSs.of (pss_cons (ps_fld ho he hs) hr) fun D σ H h => zi_step h
end
/-- an __init__ as a function from data to data -/
def runI (n np : Nat) (ms : List ZM) : List D → Option (List D) := fun ds => if ds.length + 1 = np then (match zIn ms (.un :: start0 (n - 1) ds) with
  | some (es, _) => some es
  | none => none) else none
section
variable {P : Program} {w : World} {K : PySem.W.Frag} {mg : Str → Option Value} {base : Heap}
theorem okI {x qual : Str} {st : Stmt} {f : Addr} {fd : FuncData} {N ps : List Str} {k : Nat} {fl : List Str} {ms : List ZM} (F : Fun K x qual st f fd) (S : FnScope N ps (defScope st)) (hnd : fl.Nodup) (hlt : fl.length < 1000) (hfm : fl.length = ms.length)
    (hbody : ∀ (cdv : Value) (A : Around) (outer : List Env) (s0 : Shared) (H : Hp) (E : XK), Room k (A.deeper (envOfC qual (defScope st) s0.heap.objs.size f cdv)) →
      PSs (cxOf CX0 P w K mg base N qual (defScope st) f cdv A outer s0 H E).nox (defBody st) (tInit K N.length fl ms)) : FnOk P w K mg base CX0 (k + 1) f fd ps (spI K fl (runI N.length ps.length ms)) := by
  have arity : ∀ vs H Q E, spI K fl (runI N.length ps.length ms) vs H Q E → vs.length = ps.length := fun vs H Q E ⟨C, x, dx, us, Hs, ds, es, ev, _, _, _, _, _, hz, e, _⟩ => by
    unfold runI at e
    split at e
    · rename_i h
      rw [ev, List.length_cons, hz.length]
      exact h
    · cases e
  refine F.ok S arity (fun cdv A outer s0 H vs Q E hr h => ⟨_, hbody cdv A outer s0 H E hr, ?_⟩)
  have hal := arity vs H Q E h
  obtain ⟨C, x, dx, us, Hs, ds, es, ev, cl, na, hx, hsx, sm, hz, e, q⟩ := h
  subst ev
  have hpl : ps.length ≤ N.length := by
    have := congrArg List.length S.pre
    rw [List.length_take] at this
    omega
  rw [List.length_cons, hz.length] at hal
  unfold runI at e
  rw [if_pos hal] at e
  split at e
  · rename_i es' g' hm
    cases e
    have hul := hz.length
    have okS := ok_start (K := K) (N := N) (Hs := Hs) (H := H) (vs := .ref x :: us) (ds := .raw (.ref x) :: ds) (by rw [List.length_cons]; omega) sm (.cons (.raw _) hz)
    have e0 : start0 N.length (D.raw (.ref x) :: ds) = .dat (.raw (.ref x)) :: start0 (N.length - 1) ds := by
      unfold start0
      rw [List.map_cons, List.cons_append, List.length_cons]
      congr 3
      omega
    rw [e0] at okS
    have okU := okS.un0
    refine ⟨{ K := K, n := N.length, H0 := H, Hs0 := Hs, pins := [], locks := [], plt := fun _ h => (List.not_mem_nil h).elim, llt := fun _ h => (List.not_mem_nil h).elim }, Hs, List.replicate N.length 0, _, g', x, C, dx, [], [], _, rfl, rfl, okU, ?_, cl, na, hx, rfl, by simpa using hnd, by simpa using hlt, hsx, rfl, hm, hfm, ?_⟩
    · unfold L2.start
      rfl
    · intro C' Hs' A' σ' H' xs k1 k2 k3 k4 k5 k6 k7 k8 k9 k10
      have hx' : H' x = some (.ins C dx (fl.zip xs)) := k8.keep x _ (by simpa using k6) (by rw [k4]; intro q hq; cases hq)
      refine q Hs' H' xs k7 (fun b u hb e => k8.keep b u (by rw [k5 b hb]; exact e) (by rw [k4]; intro q hq; cases hq)) k8.same (fun b o e => ?_) ?_ hx' k9 k10
      · rcases k8.grow b o e with z | z
        · rw [k3] at z; exact .inl z
        · by_cases hb : b = x
          · subst hb
            rw [k6] at z; cases z
          · rw [k5 b hb] at z; exact .inr ⟨hb, z⟩
      · cases z : Hs' x with
        | none => rfl
        | some o =>
          rcases k8.grow x o z with w | w
          · rw [k3] at w
            have w : Hs x = some o := w
            rw [hsx] at w; cases w
          · rw [k6] at w; cases w
  · cases e
end
end Z
set_option Elab.async false
set_option linter.all false
set_option maxRecDepth 100000
set_option maxHeartbeats 4000000
namespace Z
open PySem PySem.Spec PyProof.Rows L2
/-- class c of the module: its fields, its __init__ -/
def ClsK (P : Program) (w : World) (K : PySem.W.Frag) (mg : Str → Option Value) (base : Heap) (k : Nat) (c : Str) (fl : List Str) (f : List D → Option (List D)) : Prop :=
  ∃ (C fa : Addr) (fd : FuncData) (ps : List Str), ClsAt K c C ∧ mg c = some (.ref C) ∧ Cls K C ∧ (∀ n ∈ fl, NoAttr K C n) ∧ Mk K C fa ∧ Binds K fd ps [] ∧ FnOk P w K mg base CX0 k fa fd ps (spI K fl f)
theorem ClsK.mono {P : Program} {w : World} {K : PySem.W.Frag} {mg : Str → Option Value} {base : Heap} {j k : Nat} {c : Str} {fl : List Str} {f : List D → Option (List D)} (h : ClsK P w K mg base j c fl f) (hk : j ≤ k) : ClsK P w K mg base k c fl f :=
  let ⟨C, fa, fd, ps, h1, h2, h3, h4, h5, h6, h7⟩ := h
  ⟨C, fa, fd, ps, h1, h2, h3, h4, h5, h6, h7.mono hk⟩
def zMake (c : Str) (fl : List Str) (f : List D → Option (List D)) (ma : ZAr) : ZM := fun g => do
  let (rs, g1) ← ma g
  let (ds, g2) ← frzAll rs g1
  let es ← f ds
  some (.dat (.obj c fl es), g2)
theorem er_make {c : Str} {fl : List Str} {f : List D → Option (List D)} {ma : ZAr} {g g1 g2 : G} {rs : List R} {ds es : List D} (h1 : ma g = some (rs, g1)) (h2 : frzAll rs g1 = some (ds, g2)) (h3 : f ds = some es) : zMake c fl f ma g = some (.dat (.obj c fl es), g2) := by
  unfold zMake
  simp [h1, h2, h3]
section
variable {X : Cx} {pos : Pos} {fl : List Str}
theorem ze_make {k : Nat} {x : Str} {p : Pos} {e : Expr} {es : List Expr} {f : List D → Option (List D)} {ma : ZAr} (c : ClsK X.prog X.w X.K X.mg X.base k x fl f) (hr : Room (k + 1) X.A) (ha : ZAs X (e :: es) ma) (hg : Gl X x := by rfl)
    (hdb : (x == ("__debug__" : Str)) = false := by decide) (he : starEach (e :: es) X.env = (false, eval e X.env) :: starEach es X.env := by rfl) (hpl : (backTo pos (starEach es X.env)).any (·.1) = false := by rfl) :
    ZE X (.Call (.Name x p) (e :: es) [] pos) (zMake x fl f ma) := by
  obtain ⟨Cc, fa, fd, ps, hc, hm, cl, na, mk, hb, F⟩ := c
  refine PE.of (pe_make (E := E0) mk F hr hg hm hb .nil pass0 ha hdb he hpl) fun σ H Q ⟨C, Hs, A, g, r, g', hK, hN, ok, e, q⟩ => ?_
  unfold zMake at e
  simp only [Option.bind_eq_bind, Option.bind_eq_some_iff] at e
  obtain ⟨⟨rs, g1⟩, h1, ⟨ds, g2⟩, h2, es', h3, e⟩ := e
  cases e
  refine ⟨C, Hs, A, g, rs, g1, hK, hN, ok, h1, fun Hs1 A1 vs H1 s1 p1 ok1 rel1 => ?_⟩
  obtain ⟨Hs2, s2, ok2, z2⟩ := frzAll_ok ok1 rel1 h2
  intro x' dx nx ndx ne
  have lo : ∀ b, b ≠ x' → b ≠ dx → (upd (upd H1 dx (.own x')) x' (.ins Cc dx [])) b = H1 b := fun b h1 h2 => by rw [upd_ne h1, upd_ne h2]
  have sm1 : Same H1 (upd (upd H1 dx (.own x')) x' (.ins Cc dx [])) := fun b u q => by
    rw [lo b (fun z => by rw [z, nx] at q; cases q) (fun z => by rw [z, ndx] at q; cases q)]; exact q
  have n2 : Hs2 x' = none := by
    cases z : Hs2 x' with
    | none => rfl
    | some o => rw [ok2.same _ _ z] at nx; cases nx
  refine ⟨Cc, x', dx, vs, Hs2, ds, _, by rw [List.append_nil], cl, na, upd_same, n2, ok2.same.trans sm1, by rw [← hK]; exact z2, h3, fun Hs' H' xs sS sH sP gr hsx hx hl hz => ⟨rfl, ?_⟩⟩
  have sU : Same Hs' (upd Hs' x' (.ins Cc dx (fl.zip xs))) := fun b u q => by
    rw [upd_ne (fun z => by rw [z, hsx] at q; cases q)]; exact q
  have sUH : Same (upd Hs' x' (.ins Cc dx (fl.zip xs))) H' := fun b u q => by
    by_cases z : b = x'
    · subst z; rw [upd_same] at q; cases q; exact hx
    · rw [upd_ne z] at q; exact sP b u q
  refine q (upd Hs' x' (.ins Cc dx (fl.zip xs))) A1 (.ref x') H' ((s1.trans s2).trans (sS.trans sU)) p1 (ok2.moreS (fun b u q => sH b u (fun z => by rw [z, nx] at q; cases q) (sm1 b u q)) (sS.trans sU) sUH fun b o e => ?_) ?_
  · by_cases z : b = x'
    · subst z; exact .inr nx
    · rw [upd_ne z] at e
      rcases gr b o e with k | ⟨_, k⟩
      · exact .inl k
      · refine .inr ?_
        cases w : H1 b with
        | none => rfl
        | some u => rw [sm1 b u w] at k; cases k
  · show Dz C.K _ _ _
    rw [hK]
    exact .obj hc upd_same hl (hz.mono sU)
def MthK (P : Program) (w : World) (K : PySem.W.Frag) (mg : Str → Option Value) (base : Heap) (k : Nat) (c m : Str) (sp : Sp) : Prop :=
  ∃ (C fa : Addr) (fd : FuncData) (ps : List Str), ClsAt K c C ∧ Cls K C ∧ Meth K C m fa ∧ Binds K fd ps [] ∧ FnOk P w K mg base CX0 k fa fd ps sp
theorem MthK.mono {P : Program} {w : World} {K : PySem.W.Frag} {mg : Str → Option Value} {base : Heap} {j k : Nat} {c m : Str} {sp : Sp} (h : MthK P w K mg base j c m sp) (hk : j ≤ k) : MthK P w K mg base k c m sp :=
  let ⟨C, fa, fd, ps, h1, h2, h3, h4, h5⟩ := h
  ⟨C, fa, fd, ps, h1, h2, h3, h4, h5.mono hk⟩
end
end Z
set_option Elab.async false
set_option linter.all false
set_option maxRecDepth 100000
set_option maxHeartbeats 4000000
namespace Z
open PySem PySem.Spec PyProof.Rows L2
/-- a class without an __eq__ of its own -/
def NonK (K : PySem.W.Frag) (c : Str) : Prop := ∃ C, ClsAt K c C ∧ PySem.W.mroIn K C (.type "object") = some true ∧ PySem.W.findIn K (.ref C) "__eq__" = some (some (.builtin "object.__eq__"))
/-- max of three ints -/
def maxD3 : List D → Option D
  | [.int i, .int j, .int k] => some (.int (max (max i j) k))
  | _ => none
theorem s_max3 {K : PySem.W.Frag} : CallS K (rNuC3 nuMax3) maxD3 := by
  intro H vs ds z Q hz e q
  unfold maxD3 at e
  split at e
  · rename_i i j k
    cases e
    cases hz with
    | cons h t =>
      cases t with
      | cons h2 t =>
        cases t with
        | cons h3 t =>
          cases t
          cases h
          cases h2
          cases h3
          refine ⟨_, _, _, .int (max (max i j) k), rfl, ?_, q⟩
          have m2 : ∀ a b : Int, nuMax2 (.int a) (.int b) = some (.int (max a b)) := fun a b => by
            show some (if decide (a < b) = true then V.int b else V.int a) = _
            by_cases h : a < b
            · rw [if_pos (decide_eq_true h), Int.max_eq_right (by omega)]
            · rw [if_neg (by simpa using h), Int.max_eq_left (by omega)]
          show (nuMax2 (.int i) (.int j)).bind (fun m => nuMax2 m (.int k)) = _
          rw [m2]
          exact m2 _ _
  · cases e
end Z
namespace Z
open PySem PySem.Spec PyProof.Rows L2
/-- class c of the module: fields to read, isinstance -/
def ClsF (K : PySem.W.Frag) (mg : Str → Option Value) (c : Str) (fl : List Str) : Prop := ∃ C, ClsAt K c C ∧ mg c = some (.ref C) ∧ (∀ n ∈ fl, NoAttr K C n) ∧ C8.InsC K C
/-- .. with its __init__ -/
def ClsDef (K : PySem.W.Frag) (mg : Str → Option Value) (c : Str) (fl : List Str) (qual : Str) (st : Stmt) : Prop := ∃ (C fa : Addr) (fd : FuncData), ClsAt K c C ∧ mg c = some (.ref C) ∧ Cls K C ∧ (∀ n ∈ fl, NoAttr K C n) ∧ Mk K C fa ∧ Fun K "__init__" qual st fa fd
theorem ClsF.fld {K : PySem.W.Frag} {mg : Str → Option Value} {c : Str} {fl : List Str} (k : ClsF K mg c fl) {i : Nat} {f : Str} (h : fl[i]? = some f) : FldK K c f :=
  let ⟨C, h1, _, h3, h4⟩ := k
  ⟨C, h1, h4.cl, h3 f (List.mem_of_getElem? h)⟩
theorem ClsF.non {K : PySem.W.Frag} {mg : Str → Option Value} {c : Str} {fl : List Str} {C : Addr} (k : ClsF K mg c fl) (a : PySem.W.nsIn K mainGlobals c = some (some (.ref C))) (h : PySem.W.findIn K (.ref C) "__eq__" = some (some (.builtin "object.__eq__"))) : NonK K c := by
  obtain ⟨C', h1, _, _, h4⟩ := k
  cases (show PySem.W.nsIn K mainGlobals c = some (some (.ref C')) from h1).symm.trans a
  exact ⟨_, a, h4.hm, h⟩
theorem kit_self {K : PySem.W.Frag} {C : Addr} : PySem.W.kitOne K (.ref C) (.ref C) = some true := by
  unfold PySem.W.kitOne
  rw [if_pos (beq_self_eq_true _)]
theorem ze_fldF {X : Cx} {pos : Pos} {c : Str} {fl : List Str} {e : Expr} {f : Str} {i : Nat} {m : ZM} (k : ClsF X.K X.mg c fl) (hn : fl.Nodup) (hi : fl[i]? = some f) (h : ZE X e m) (hb : attributeBase e f X.env (eval e X.env) = eval e X.env := by rfl) :
    ZE X (.Attribute e f pos) (zFld c fl i m) := ze_fld (k.fld hi) hn hi h hb
/-- the i-th statement of a class -/
def mtOf (s : Stmt) (j : Nat) : Stmt := match s with
  | .ClassDef _ _ _ b _ _ _ _ _ _ _ => b.getD j (.Pass ⟨0, 0, 0, 0⟩)
  | _ => .Pass ⟨0, 0, 0, 0⟩
end Z
set_option Elab.async false
set_option linter.all false
set_option maxRecDepth 100000
set_option maxHeartbeats 4000000
namespace Z
open PySem PySem.Spec PyProof.Rows L2
def CalG (P : Program) (w : World) (K : PySem.W.Frag) (mg : Str → Option Value) (base : Heap) (k : Nat) (x : Str) (sp : Sp) : Prop :=
  ∃ (f : Addr) (fd : FuncData) (ps : List Str), mg x = some (.ref f) ∧ PySem.W.keepIn K (.ref f) = true ∧ Binds K fd ps [] ∧ (∀ vs H Q E, sp vs H Q E → vs.length = ps.length) ∧ ∀ A : Around, Room k A → A.guards = some [] → FnA P w K mg base A f fd ps sp
theorem CalG.mono {P : Program} {w : World} {K : PySem.W.Frag} {mg : Str → Option Value} {base : Heap} {j k : Nat} {x : Str} {sp : Sp} (c : CalG P w K mg base j x sp) (h : j ≤ k) : CalG P w K mg base k x sp :=
  let ⟨f, fd, ps, h1, h2, h3, h4, h5⟩ := c
  ⟨f, fd, ps, h1, h2, h3, h4, fun A hr => h5 A (hr.mono h)⟩
end Z
set_option Elab.async false
set_option linter.all false
set_option maxRecDepth 100000
set_option maxHeartbeats 4000000
namespace Z
open PySem PySem.Spec PyProof.Rows L2
section
variable {g g1 g2 g3 : G}
theorem er_andTF {s t : ZT} {b1 : Bool} (h1 : s g = some (b1, g1)) (hb : b1 = false) : zAndT s t g = some (false, g1) := by
  subst hb
  unfold zAndT; simp only [h1, Option.bind_eq_bind, Option.bind_some]
  rfl
theorem if_no {n : Nat} {t : ZT} {a b : SM} {o : Option (Fl × G)} (h : t g = some (false, g1)) (hg : g1.take n = g2) (k : b g2 = o) : zIfS n t a b g = o := by
  unfold zIfS; simp only [h, hg, Option.bind_eq_bind, Option.bind_some]
  exact k
theorem if_yes {n : Nat} {t : ZT} {a b : SM} {o : Option (Fl × G)} (h : t g = some (true, g1)) (hg : g1.take n = g2) (k : a g2 = o) : zIfS n t a b g = o := by
  unfold zIfS; simp only [h, hg, Option.bind_eq_bind, Option.bind_some, if_true]
  exact k
end
def okX (x : Sl) : Prop := x = .un ∨ ∃ d, x = .dat d
section
variable {el : ZM} {v t : Nat} (B : Int → Sl → G) (P : Nat → D → Prop)
theorem draw_go (l1 : ∀ s x, (B s x).length = t) (w1 : ∀ s x (o : Sl), wipeG (B s x ++ [o]) [v] = B s .un ++ [o]) (f1 : ∀ s x (o : Sl), okX x → freeAll (B s x ++ [o]) [v] = true) (tg : ∀ s y (o : Sl), gN v y (B s .un ++ [o]) = some (B s (.dat y) ++ [o])) :
    ∀ (L : List D) (k : Nat) (s : Int) (x : Sl) (acc : List D), okX x → acc.length + L.length ≤ sizeLine → (∀ i y s, L[i]? = some y → ∃ w s', P (k + i) w ∧ ∀ o : Sl, el (B s (.dat y) ++ [o]) = some (.dat w, B s' (.dat y) ++ [o])) →
    ∃ R s' x', lcL (gN v) zYes el [v] t L (B s x ++ [.own (.lst acc) false false]) = some (B s' x' ++ [.own (.lst (acc ++ R)) false false]) ∧ R.length = L.length ∧ ∀ i w, R[i]? = some w → P (k + i) w
  | [], k, s, x, acc, hx, _, _ => ⟨[], s, x, by rw [List.append_nil]; exact lcL_end (f1 s x _ hx), rfl, fun i w h => by simp at h⟩
  | y :: L, k, s, x, acc, hx, hz, h => by
    rw [List.length_cons] at hz
    obtain ⟨w, s1, p1, e1⟩ := h 0 y s rfl
    obtain ⟨R, s', x', r1, r2, r3⟩ := draw_go l1 w1 f1 tg L (k + 1) s1 (.dat y) (acc ++ [w]) (.inr ⟨y, rfl⟩) (by rw [List.length_append, List.length_singleton]; omega) (fun i y' s0 hy => by
      have := h (i + 1) y' s0 (by simpa using hy)
      rw [show k + (i + 1) = k + 1 + i by omega] at this
      exact this)
    refine ⟨w :: R, s', x', ?_, by rw [List.length_cons, List.length_cons, r2], fun i u hu => ?_⟩
    · refine lcL_go (g1 := B s (.dat y) ++ [.own (.lst acc) false false]) (f1 s x _ hx) (by rw [w1]; exact tg s y _) rfl (e1 _) rfl (by rw [← l1 s1 (.dat y), List.getElem?_append_right (Nat.le_refl _), Nat.sub_self]; rfl) (by omega) (g5 := B s1 (.dat y) ++ [.own (.lst (acc ++ [w])) false false]) ?_ ?_
      · rw [← l1 s1 (.dat y), List.set_append_right _ _ (Nat.le_refl _), Nat.sub_self]
        exact List.take_of_length_le (by simp)
      · rw [r1, List.append_assoc]
        rfl
    · cases i with
      | zero => simp at hu; subst hu; exact p1
      | succ i =>
        have := r3 i u (by simpa using hu)
        rw [show k + (i + 1) = k + 1 + i by omega]
        exact this
theorem draw_list (l1 : ∀ s x, (B s x).length = t) (w1 : ∀ s x (o : Sl), wipeG (B s x ++ [o]) [v] = B s .un ++ [o]) (f1 : ∀ s x (o : Sl), okX x → freeAll (B s x ++ [o]) [v] = true) (tg : ∀ s y (o : Sl), gN v y (B s .un ++ [o]) = some (B s (.dat y) ++ [o]))
    {mi : MI} {L : List D} {s : Int} (h1 : mi (B s .un) = some (L, none, B s .un)) (hz : L.length ≤ 1000) (h : ∀ i y s, L[i]? = some y → ∃ w s', P i w ∧ ∀ o : Sl, el (B s (.dat y) ++ [o]) = some (.dat w, B s' (.dat y) ++ [o])) :
    ∃ R s', zLc mi (gN v) zYes el [v] (B s .un) = some (.bor t, B s' .un ++ [.own (.lst R) false false]) ∧ R.length = L.length ∧ ∀ i w, R[i]? = some w → P i w := by
  obtain ⟨R, s', x', r1, r2, r3⟩ := draw_go (el := el) B P l1 w1 f1 tg L 0 s .un [] (.inl rfl) (by rw [List.length_nil, Nat.zero_add]; exact Nat.le_trans hz (by decide)) (fun i y s hy => by rw [Nat.zero_add]; exact h i y s hy)
  rw [List.nil_append] at r1
  refine ⟨R, s', ?_, r2, fun i w hw => by have := r3 i w hw; rw [Nat.zero_add] at this; exact this⟩
  have e := er_lc (g4 := B s' .un ++ [.own (.lst R) false false]) h1 (by rw [l1]; exact r1) (w1 _ _ _)
  rw [l1] at e
  exact e
end
end Z
set_option Elab.async false
set_option linter.all false
set_option maxRecDepth 100000
set_option maxHeartbeats 4000000
namespace Z
open PySem PySem.Spec PyProof.Rows L2
theorem look_relabel {env : Env} {y : Str} : ∀ {names : List (Str × NameKind)}, (names.lookup y = some .cell ∨ names.lookup y = some .free) →
    (names.map fun (n, k) => if (k == NameKind.free && env.scope.kind == .function && env.kindOf n == some .cell) then (n, NameKind.cell) else (n, k)).lookup y = some .cell ∨
    (names.map fun (n, k) => if (k == NameKind.free && env.scope.kind == .function && env.kindOf n == some .cell) then (n, NameKind.cell) else (n, k)).lookup y = some .free
  | [], h => by simp at h
  | (n, k) :: r, h => by
    have ih := @look_relabel env y r
    show List.lookup y ((if (k == NameKind.free && env.scope.kind == .function && env.kindOf n == some .cell) = true then (n, NameKind.cell) else (n, k)) :: _) = _ ∨ List.lookup y ((if (k == NameKind.free && env.scope.kind == .function && env.kindOf n == some .cell) = true then (n, NameKind.cell) else (n, k)) :: _) = _
    cases hx : y == n with
    | false =>
      have e : ∀ k : NameKind, List.lookup y ((n, k) :: r) = List.lookup y r := fun k => by simp only [List.lookup, hx]
      rw [e] at h
      have h2 := ih h
      split
      · simp only [List.lookup, hx]; exact h2
      · simp only [List.lookup, hx]; exact h2
    | true =>
      have e : List.lookup y ((n, k) :: r) = some k := by simp only [List.lookup, hx]
      rw [e] at h
      split
      · exact .inl (by simp only [List.lookup, hx])
      · simp only [List.lookup, hx]
        exact h
theorem blk_in {N : List Str} {sc scope : Scope} {env : Env} {own : List (Str × Nat)} (h : blkC N sc scope own = true) : BlkOk N (relabel sc env) scope own := by
  have q := blkOk_by h
  exact ⟨q.kind, q.uniq, q.ix, fun y hy e => look_relabel (q.free y hy e), q.own⟩
end Z
set_option Elab.async false
set_option linter.all false
set_option maxRecDepth 100000
set_option maxHeartbeats 4000000
namespace Z
open PySem PySem.Spec PyProof.Rows L2
end Z
set_option Elab.async false
set_option linter.all false
set_option maxRecDepth 100000
set_option maxHeartbeats 4000000
namespace Z
open PySem PySem.Spec PyProof.Rows L2
def okS (i j c : Int) : Bool := decide (0 ≤ i) && decide (i ≤ 16777216) && decide (0 ≤ j) && decide (j ≤ 16777216) && decide (0 < c) && decide (c ≤ 1000000)
end Z
set_option Elab.async false
set_option linter.all false
set_option maxRecDepth 100000
set_option maxHeartbeats 4000000
namespace Z
open PySem PySem.Spec PyProof.Rows L2
end Z
set_option Elab.async false
set_option linter.all false
set_option maxRecDepth 100000
set_option maxHeartbeats 4000000
namespace ZN
open PySem PySem.Spec PyProof.Rows L2 Z
/-- the pairs of such a dict: the key, its object, the value -/
abbrev NKV := List (NestedKey × Addr × V)
abbrev KN : NKV → List (NestedKey × Addr × Value) → Prop := Paired fun p q => p.1 = q.1 ∧ p.2.1 = q.2.1 ∧ RelV p.2.2 q.2.2
def ent (w : World) (x : NestedKey × Addr × Value) : DictEntry := ⟨x.1.hash w, .ref x.2.1, x.2.2⟩
structure ND0 (w : World) (h : Heap) (a : Addr) (kvs : NKV) : Prop where
  ex : ∃ xs, KN kvs xs ∧ ∃ o es ep, h.get? a = some o ∧ o.ExactDict ∧ o.data = .dict es ep ∧ es.toList = xs.map (ent w) ∧ (xs.map (·.1)).Nodup
  nm : (a == sysModules) = false
  few : kvs.length ≤ sizeLine
def NDictO (w : World) (a : Addr) (kvs : NKV) : HO := .ext fun h => ND0 w h a kvs
def valN (kvs : NKV) (k : NestedKey) : Option V := (kvs.find? fun p => decide (p.1 = k)).map (·.2.2)
def putN (kvs : NKV) (k : NestedKey) (b : Addr) (v : V) : NKV := if (valN kvs k).isSome = true then kvs.map (fun p => if p.1 = k then (p.1, p.2.1, v) else p) else kvs ++ [(k, b, v)]
theorem valN_pos {p : NestedKey × Addr × V} {ps : NKV} {k : NestedKey} (e : p.1 = k) : valN (p :: ps) k = some p.2.2 := by simp [valN, List.find?_cons, e]
theorem valN_neg {p : NestedKey × Addr × V} {ps : NKV} {k : NestedKey} (e : ¬ p.1 = k) : valN (p :: ps) k = valN ps k := by simp [valN, List.find?_cons, e]
theorem KN.val {kvs : NKV} {xs : List (NestedKey × Addr × Value)} (r : KN kvs xs) (k : NestedKey) : RelO (valN kvs k) ((atKey xs k).map (·.2)) := by
  induction r with
  | nil => exact True.intro
  | @cons p q ps qs h t ih =>
    obtain ⟨h1, _, h2⟩ := h
    by_cases e : p.1 = k
    · have e' : q.1 = k := h1.symm.trans e
      have b : atKey (q :: qs) k = some q.2 := by simp [atKey, List.find?_cons, e']
      rw [valN_pos e, b]; exact h2
    · have e' : ¬ q.1 = k := fun z => e (h1.trans z)
      have b : atKey (q :: qs) k = atKey qs k := by simp [atKey, List.find?_cons, e']
      rw [valN_neg e, b]; exact ih
theorem KN.repl {kvs : NKV} {xs : List (NestedKey × Addr × Value)} (r : KN kvs xs) (k : NestedKey) {y : V} {u : Value} (ry : RelV y u) :
    KN (kvs.map fun p => if p.1 = k then (p.1, p.2.1, y) else p) (xs.map (putAt k u)) := by
  induction r with
  | nil => exact .nil
  | @cons p q ps qs h t ih =>
    rw [List.map_cons, List.map_cons]
    refine .cons ?_ ih
    obtain ⟨h1, h2, h3⟩ := h
    unfold putAt
    by_cases e : p.1 = k
    · rw [if_pos e, if_pos (h1.symm.trans e)]; exact ⟨h1, h2, ry⟩
    · rw [if_neg e, if_neg (fun z => e (h1.trans z))]; exact ⟨h1, h2, h3⟩
theorem KN.put {kvs : NKV} {xs : List (NestedKey × Addr × Value)} (r : KN kvs xs) (k : NestedKey) {b : Addr} {y : V} {u : Value} (ry : RelV y u) : KN (putN kvs k b y) (storedH xs k b u) := by
  have e : (valN kvs k).isSome = (atKey xs k).isSome := by
    have q := (r.val k).isSome_eq
    rw [Option.isSome_map] at q
    exact q
  unfold putN storedH
  rw [e]
  by_cases q : (atKey xs k).isSome = true
  · rw [if_pos q, if_pos q]; exact r.repl k ry
  · rw [if_neg q, if_neg q]; exact Paired.snoc r ⟨rfl, rfl, ry⟩
end ZN
set_option Elab.async false
set_option linter.all false
set_option maxRecDepth 100000
set_option maxHeartbeats 4000000
namespace ZN
open PySem PySem.Spec PyProof.Rows L2 Z
/-- a group: its key, the values found, its members -/
abbrev G3 := NestedKey × List D × List D
def DK : Nat → NKV → List G3 → Prop
  | _, [], [] => True
  | n, p :: ps, g :: gs => p.1 = g.1 ∧ p.2.2 = .int (n : Int) ∧ DK (n + 1) ps gs
  | _, _, _ => False
theorem dk_set {y z : List D} : ∀ {n : Nat} {kvs : NKV} {acc : List G3} {j : Nat} {g : G3}, DK n kvs acc → acc[j]? = some g → DK n kvs (acc.set j (g.1, y, z))
  | _, [], [], _, _, _, e => by simp at e
  | n, p :: ps, g :: gs, 0, g', h, e => by
    simp only [List.getElem?_cons_zero, Option.some.injEq] at e
    subst e
    exact ⟨h.1, h.2.1, h.2.2⟩
  | n, p :: ps, g :: gs, j + 1, g', h, e => by
    simp only [List.getElem?_cons_succ] at e
    exact ⟨h.1, h.2.1, dk_set h.2.2 e⟩
  | _, [], _ :: _, _, _, h, _ => h.elim
  | _, _ :: _, [], _, _, h, _ => h.elim
abbrev Tri := Addr × Addr × Addr
def ownT (ks : List Tri) : List Addr := ks.flatMap fun x => [x.1, x.2.2]
def GrpOk (K : PySem.W.Frag) (Hk H : Hp) : List Tri → List G3 → Prop
  | [], [] => True
  | x :: xs, g :: gs => (H x.1 = some (.tup [.ref x.2.1, .ref x.2.2]) ∧ Dz K Hk (.ref x.2.1) (.lst g.2.1) ∧ ∃ us, H x.2.2 = some (.lst us) ∧ DzA K Hk us g.2.2) ∧ GrpOk K Hk H xs gs
  | _, _ => False
theorem GrpOk.live {K : PySem.W.Frag} {Hk H : Hp} : ∀ {ks : List Tri} {acc : List G3}, GrpOk K Hk H ks acc → ∀ x ∈ ownT ks, ∃ o, H x = some o
  | [], [], _, _, m => (List.not_mem_nil m).elim
  | t :: ts, g :: gs, h, x, m => by
    obtain ⟨⟨h1, _, us, h2, _⟩, h3⟩ := h
    rcases List.mem_append.mp (show x ∈ [t.1, t.2.2] ++ ownT ts from m) with m | m
    · rcases List.mem_cons.mp m with rfl | m
      · exact ⟨_, h1⟩
      · rw [List.mem_singleton.mp m]; exact ⟨_, h2⟩
    · exact h3.live x m
  | [], _ :: _, h, _, _ => h.elim
  | _ :: _, [], h, _, _ => h.elim
theorem GrpOk.move {K : PySem.W.Frag} {Hk Hk' H H' : Hp} (s : Same Hk Hk') : ∀ {ks : List Tri} {acc : List G3}, GrpOk K Hk H ks acc → (∀ x ∈ ownT ks, ∀ o, H x = some o → H' x = some o) → GrpOk K Hk' H' ks acc
  | [], [], _, _ => trivial
  | t :: ts, g :: gs, h, m => by
    obtain ⟨⟨h1, hf, us, h2, h4⟩, h3⟩ := h
    exact ⟨⟨m _ (List.mem_append.mpr (.inl List.mem_cons_self) : t.1 ∈ [t.1, t.2.2] ++ ownT ts) _ h1, hf.mono s, us, m _ (List.mem_append.mpr (.inl (List.mem_cons_of_mem _ List.mem_cons_self)) : t.2.2 ∈ [t.1, t.2.2] ++ ownT ts) _ h2, h4.mono s⟩,
      h3.move s fun x hx => m x (List.mem_append.mpr (.inr hx) : x ∈ [t.1, t.2.2] ++ ownT ts)⟩
  | [], _ :: _, h, _ => h.elim
  | _ :: _, [], h, _ => h.elim
theorem GrpOk.len {K : PySem.W.Frag} {Hk H : Hp} : ∀ {ks : List Tri} {acc : List G3}, GrpOk K Hk H ks acc → ks.length = acc.length
  | [], [], _ => rfl
  | _ :: _, _ :: _, h => by rw [List.length_cons, List.length_cons, GrpOk.len h.2]
  | [], _ :: _, h => h.elim
  | _ :: _, [], h => h.elim
theorem GrpOk.snoc {K : PySem.W.Frag} {Hk H : Hp} {t : Tri} {g : G3} (h1 : H t.1 = some (.tup [.ref t.2.1, .ref t.2.2])) (h2 : Dz K Hk (.ref t.2.1) (.lst g.2.1)) (h3 : ∃ us, H t.2.2 = some (.lst us) ∧ DzA K Hk us g.2.2) : ∀ {ks : List Tri} {acc : List G3}, GrpOk K Hk H ks acc → GrpOk K Hk H (ks ++ [t]) (acc ++ [g])
  | [], [], _ => ⟨⟨h1, h2, h3⟩, trivial⟩
  | _ :: _, _ :: _, h => ⟨h.1, GrpOk.snoc h1 h2 h3 h.2⟩
  | [], _ :: _, h => h.elim
  | _ :: _, [], h => h.elim
/-- one member more in the i-th group -/
theorem GrpOk.push {K : PySem.W.Frag} {Hk H : Hp} {v : V} {d : D} (z : Dz K Hk v d) : ∀ {ks : List Tri} {acc : List G3} {i : Nat} {t : Tri} {g : G3} {us : List V}, GrpOk K Hk H ks acc → (ownT ks).Nodup → ks[i]? = some t → acc[i]? = some g → H t.2.2 = some (.lst us) →
    GrpOk K Hk (upd H t.2.2 (.lst (us ++ [v]))) ks (acc.set i (g.1, g.2.1, g.2.2 ++ [d]))
  | [], [], _, _, _, _, _, _, e, _, _ => by simp at e
  | x :: xs, g :: gs, 0, t, g', us, h, nd, e1, e2, e3 => by
    simp only [List.getElem?_cons_zero, Option.some.injEq] at e1 e2
    subst e1 e2
    obtain ⟨⟨h1, hf, us', h2, h4⟩, h3⟩ := h
    have nd : ([x.1, x.2.2] ++ ownT xs).Nodup := nd
    obtain ⟨n1, n2, n3⟩ := List.nodup_append.mp nd
    have n12 : x.1 ≠ x.2.2 := by
      intro e
      rw [e] at n1
      exact (List.nodup_cons.mp n1).1 List.mem_cons_self
    rw [h2] at e3
    cases e3
    refine ⟨⟨by rw [upd_ne n12]; exact h1, hf, _, upd_same, h4.append (.cons z .nil)⟩, h3.move (Same.refl _) fun y hy o ho => ?_⟩
    rw [upd_ne (fun e => n3 x.2.2 (List.mem_cons_of_mem _ List.mem_cons_self) y hy e.symm)]
    exact ho
  | x :: xs, g :: gs, i + 1, t, g', us, h, nd, e1, e2, e3 => by
    simp only [List.getElem?_cons_succ] at e1 e2
    have nd : ([x.1, x.2.2] ++ ownT xs).Nodup := nd
    obtain ⟨n1, n2, n3⟩ := List.nodup_append.mp nd
    have mt : t.2.2 ∈ ownT xs := List.mem_flatMap.mpr ⟨t, List.mem_of_getElem? e1, List.mem_cons_of_mem _ List.mem_cons_self⟩
    obtain ⟨⟨h1, hf, us', h2, h4⟩, h3⟩ := h
    refine ⟨⟨by rw [upd_ne (n3 _ List.mem_cons_self _ mt)]; exact h1, hf, us', by rw [upd_ne (n3 _ (List.mem_cons_of_mem _ List.mem_cons_self) _ mt)]; exact h2, h4⟩, ?_⟩
    exact GrpOk.push z h3 n2 e1 e2 e3
  | [], _ :: _, _, _, _, _, h, _, _, _, _ => h.elim
  | _ :: _, [], _, _, _, _, h, _, _, _, _ => h.elim
/-- all of it as data -/
theorem GrpOk.dz {K : PySem.W.Frag} {Hk Hf H : Hp} (s : Same Hk Hf) : ∀ {ks : List Tri} {acc : List G3}, GrpOk K Hk H ks acc → (∀ x ∈ ownT ks, ∀ o, H x = some o → Hf x = some o) → DzA K Hf (ks.map fun x => V.ref x.1) (acc.map fun g => .tup [.lst g.2.1, .lst g.2.2])
  | [], [], _, _ => .nil
  | t :: ts, g :: gs, h, m => by
    obtain ⟨⟨h1, hf, us, h2, h4⟩, h3⟩ := h
    have m1 := m _ (List.mem_append.mpr (.inl List.mem_cons_self) : t.1 ∈ [t.1, t.2.2] ++ ownT ts) _ h1
    have m2 := m _ (List.mem_append.mpr (.inl (List.mem_cons_of_mem _ List.mem_cons_self)) : t.2.2 ∈ [t.1, t.2.2] ++ ownT ts) _ h2
    exact .cons (.tup (.inl (.inl m1)) (.cons (hf.mono s) (.cons (.lst (SqL.of m2) (h4.mono s)) .nil))) (h3.dz s fun x hx => m x (List.mem_append.mpr (.inr hx) : x ∈ [t.1, t.2.2] ++ ownT ts))
  | [], _ :: _, h, _ => h.elim
  | _ :: _, [], h, _ => h.elim
structure GI (K : PySem.W.Frag) (w : World) (H0 Hs : Hp) (p q : Addr) (H Hk : Hp) (kvs : NKV) (ks : List Tri) (acc : List G3) : Prop where
  sk : Same Hs Hk
  kh : Same Hk H
  h0 : Same H0 H
  gr : ∀ b o, Hk b = some o → Hs b = some o ∨ H0 b = none
  hp : H p = some (NDictO w p kvs)
  hq : H q = some (.lst (ks.map fun x => V.ref x.1))
  nd : (p :: q :: ownT ks).Nodup
  fr : ∀ x ∈ p :: q :: ownT ks, Hk x = none ∧ H0 x = none
  go : GrpOk K Hk H ks acc
  ky : ∀ r ∈ kvs, KeyH K Hk r.1 r.2.1
  dk : DK 0 kvs acc
section
variable {K : PySem.W.Frag} {w : World} {H0 Hs : Hp} {p q : Addr} {H Hk : Hp} {kvs : NKV} {ks : List Tri} {acc : List G3}
theorem GI.live (I : GI K w H0 Hs p q H Hk kvs ks acc) : ∀ x ∈ p :: q :: ownT ks, ∃ o, H x = some o := fun x m => by
  rcases List.mem_cons.mp m with rfl | m
  · exact ⟨_, I.hp⟩
  · rcases List.mem_cons.mp m with rfl | m
    · exact ⟨_, I.hq⟩
    · exact I.go.live x m
theorem GI.push (I : GI K w H0 Hs p q H Hk kvs ks acc) {i : Nat} {t : Tri} {g : G3} {us : List V} {v : V} {d : D} (z : Dz K Hk v d) (e1 : ks[i]? = some t) (e2 : acc[i]? = some g) (e3 : H t.2.2 = some (.lst us)) : GI K w H0 Hs p q (upd H t.2.2 (.lst (us ++ [v]))) Hk kvs ks (acc.set i (g.1, g.2.1, g.2.2 ++ [d])) := by
  have mt : t.2.2 ∈ ownT ks := List.mem_flatMap.mpr ⟨t, List.mem_of_getElem? e1, List.mem_cons_of_mem _ List.mem_cons_self⟩
  have n1 : p ≠ t.2.2 := fun e => (List.nodup_cons.mp I.nd).1 (e ▸ List.mem_cons_of_mem _ mt)
  have n2 : q ≠ t.2.2 := fun e => (List.nodup_cons.mp (List.nodup_cons.mp I.nd).2).1 (e ▸ mt)
  have f := I.fr _ (List.mem_cons_of_mem _ (List.mem_cons_of_mem _ mt))
  exact ⟨I.sk, same_upd I.kh f.1, same_upd I.h0 f.2, I.gr, by rw [upd_ne n1]; exact I.hp, by rw [upd_ne n2]; exact I.hq, I.nd, I.fr, I.go.push z (List.nodup_cons.mp (List.nodup_cons.mp I.nd).2).2 e1 e2 e3, I.ky, dk_set I.dk e2⟩
end
end ZN
set_option Elab.async false
set_option linter.all false
set_option maxRecDepth 100000
set_option maxHeartbeats 4000000
namespace ZN
open PySem PySem.Spec PyProof.Rows L2 Z
end ZN
set_option Elab.async false
set_option linter.all false
set_option maxRecDepth 100000
set_option maxHeartbeats 4000000
namespace Z
open PySem PySem.Spec PyProof.Rows L2
end Z
set_option Elab.async false
set_option linter.all false
set_option maxRecDepth 100000
set_option maxHeartbeats 4000000
namespace Z
open PySem PySem.Spec PyProof.Rows L2
end Z
set_option Elab.async false
set_option linter.all false
set_option maxRecDepth 100000
set_option maxHeartbeats 4000000
namespace Z
open PySem PySem.Spec PyProof.Rows L2
end Z
set_option Elab.async false
set_option linter.all false
set_option maxRecDepth 100000
set_option maxHeartbeats 4000000
namespace ZN
open PySem PySem.Spec PyProof.Rows L2 Z
end ZN
set_option Elab.async false
set_option linter.all false
set_option maxRecDepth 100000
set_option maxHeartbeats 4000000
namespace Z
open PySem PySem.Spec PyProof.Rows L2
def PropK (P : Program) (w : World) (K : PySem.W.Frag) (mg : Str → Option Value) (base : Heap) (k : Nat) (c m : Str) (sp : Sp) : Prop :=
  ∃ (C p fa : Addr) (fd : FuncData) (ps : List Str), ClsAt K c C ∧ Cls K C ∧ PropOf K C m p fa ∧ Binds K fd ps [] ∧ FnOk P w K mg base CX0 k fa fd ps sp
theorem PropK.mono {P : Program} {w : World} {K : PySem.W.Frag} {mg : Str → Option Value} {base : Heap} {j k : Nat} {c m : Str} {sp : Sp} (h : PropK P w K mg base j c m sp) (hk : j ≤ k) : PropK P w K mg base k c m sp :=
  let ⟨C, p, fa, fd, ps, h1, h2, h3, h4, h5⟩ := h
  ⟨C, p, fa, fd, ps, h1, h2, h3, h4, h5.mono hk⟩
end Z
set_option Elab.async false
set_option linter.all false
set_option maxRecDepth 100000
set_option maxHeartbeats 4000000
namespace Z
open PySem PySem.Spec PyProof.Rows L2
end Z
set_option Elab.async false
set_option linter.all false
set_option maxRecDepth 100000
set_option maxHeartbeats 4000000
namespace Qk50
open PySem PySem.Spec PyProof.Rows L2 Z
def topS (i : Nat) : Stmt := PySem.Challenge.pw_stylobate_k50_whole_skipped_groups_hold.main.body.getD i (.Pass ⟨0, 0, 0, 0⟩)
noncomputable section
variable {P : Program} {w : World} {K : PySem.W.Frag} {mg : Str → Option Value} {base : Heap}
abbrev c_ANY : D := .str [97, 110, 121]
abbrev c_FIRST_DAY : D := .int (-719162)
abbrev c_LAST_DAY : D := .int 2932896
abbrev c_GREATEST : D := .int 1000000000000000
abbrev c_ONE : D := .int 10000
def fl_Zone : List Str := ["many", "nulls", "least", "greatest"]
theorem nd_Zone : fl_Zone.Nodup := by decide +kernel
abbrev st_Zone : Stmt := mtOf (topS 8) 0
theorem sc_Zone : FnScope ["self", "many", "nulls", "least", "greatest"] ["self", "many", "nulls", "least", "greatest"] (defScope st_Zone) := ⟨rfl, rfl, rfl, by decide +kernel, rfl, by decide +kernel, by decide +kernel⟩
def i_Zone : List D → Option (List D) := runI 5 5 [(zVar 1), (zVar 2), (zVar 3), (zVar 4)]
set_option maxHeartbeats 4000000 in
theorem ok_Zone (h : ClsDef K mg "Zone" fl_Zone "Zone.__init__" st_Zone) : ClsK P w K mg base 1 "Zone" fl_Zone i_Zone := by
  obtain ⟨C, fa, fd, h1, h2, h3, h4, h5, F⟩ := h
  exact ⟨C, fa, fd, _, h1, h2, h3, h4, h5, F.binds (ps := ["self", "many", "nulls", "least", "greatest"]) fun _ _ _ _ _ _ us hl => match us, hl with | [_, _, _, _, _], _ => rfl, okI F sc_Zone nd_Zone (by decide) rfl fun cdv A outer s0 H E hr =>
    zi_cons (pv 0) (ze_var rfl (pv 1)) (zi_cons (pv 0) (ze_var rfl (pv 2)) (zi_cons (pv 0) (ze_var rfl (pv 3)) (zi_one (pv 0) (ze_var rfl (pv 4)))))⟩
abbrev st__law_state : Stmt := topS 122
theorem sc__law_state : FnScope ["_law_cell_here", "_law_k", "_law_prime", "_law_first", "_law_second", "_law_third", "_law_fourth"] ["_law_cell_here", "_law_k"] (defScope st__law_state) := ⟨rfl, rfl, rfl, by decide +kernel, rfl, by decide +kernel, by decide +kernel⟩
def b__law_state : SM := zSeq (zIfS 7 (zTst (zOp geD (zVar 0) (zC (.int 1000000000000000000)))) (zRet (zLst (zCons (zVar 0) (zNil)))) (zNx)) (zSeq (zSet 7 2 (zC (.int 2305843009213693951))) (zSeq (zSet 7 3 (zOp modD (zCallS intU (zCons (zOp addS (zOp addS (zOp mulD (zVar 0) (zC (.int 6364136223))) (zOp mulD (zOp addS (zVar 1) (zC (.int 1))) (zC (.int 104729)))) (zC (.int 77))) (zNil))) (zVar 2))) (zSeq (zSet 7 4 (zOp modD (zCallS intU (zCons (zOp addS (zOp addS (zOp mulD (zVar 3) (zVar 3)) (zOp mulD (zC (.int 1013)) (zVar 3))) (zVar 1)) (zNil))) (zVar 2))) (zSeq (zSet 7 5 (zOp modD (zCallS intU (zCons (zOp addS (zOp addS (zOp mulD (zVar 4) (zC (.int 48271))) (zOp mulD (zVar 3) (zC (.int 31)))) (zC (.int 9))) (zNil))) (zVar 2))) (zSeq (zSet 7 6 (zOp modD (zCallS intU (zCons (zOp addS (zOp mulD (zVar 5) (zVar 5)) (zVar 4)) (zNil))) (zVar 2))) (zRet (zLst (zCons (zOp addS (zOp mulD (zOp addS (zOp mulD (zOp addS (zOp mulD (zVar 6) (zVar 2)) (zVar 5)) (zVar 2)) (zVar 4)) (zVar 2)) (zVar 3)) (zNil)))))))))
def d__law_state : List D → Option FR := runP 7 2 b__law_state
set_option maxHeartbeats 4000000 in
theorem ok__law_state (h : DefAt K mg "_law_state" st__law_state) (m_int : mg "int" = none) : Cal P w K mg base 1 "_law_state" (spP K d__law_state) := by
  obtain ⟨a, fd, h1, F⟩ := h
  exact ⟨a, fd, _, h1, F.kp, F.binds (ps := ["_law_cell_here", "_law_k"]) fun _ _ _ _ _ _ us hl => match us, hl with | [_, _], _ => rfl, okP F sc__law_state fun cdv A outer s0 H E hr =>
    zss_cons (zs_if (zt_cmp o_ge s_ge (ze_var rfl (pv 0)) (ze_int) (nomark _)) (zss_one (zs_ret (ze_lst (za_cons (ze_var rfl (pv 0)) (za_nil))))) (zss_nil)) (zss_cons (zs_set (i := 2) sc__law_state.nd rfl (Or.inl rfl) (ze_int)) (zss_cons (zs_set (i := 3) sc__law_state.nd rfl (Or.inl rfl) (ze_op o_mod s_mod (ze_callTy call_intU s_intU (by rfl) m_int (by decide +kernel) (za_cons (ze_op o_add s_add (ze_op o_add s_add (ze_op o_mul s_mul (ze_var rfl (pv 0)) (ze_int)) (ze_op o_mul s_mul (ze_op o_add s_add (ze_var rfl (pv 1)) (ze_int)) (ze_int))) (ze_int)) (za_nil))) (ze_var rfl (pv 2)))) (zss_cons (zs_set (i := 4) sc__law_state.nd rfl (Or.inl rfl) (ze_op o_mod s_mod (ze_callTy call_intU s_intU (by rfl) m_int (by decide +kernel) (za_cons (ze_op o_add s_add (ze_op o_add s_add (ze_op o_mul s_mul (ze_var rfl (pv 3)) (ze_var rfl (pv 3))) (ze_op o_mul s_mul (ze_int) (ze_var rfl (pv 3)))) (ze_var rfl (pv 1))) (za_nil))) (ze_var rfl (pv 2)))) (zss_cons (zs_set (i := 5) sc__law_state.nd rfl (Or.inl rfl) (ze_op o_mod s_mod (ze_callTy call_intU s_intU (by rfl) m_int (by decide +kernel) (za_cons (ze_op o_add s_add (ze_op o_add s_add (ze_op o_mul s_mul (ze_var rfl (pv 4)) (ze_int)) (ze_op o_mul s_mul (ze_var rfl (pv 3)) (ze_int))) (ze_int)) (za_nil))) (ze_var rfl (pv 2)))) (zss_cons (zs_set (i := 6) sc__law_state.nd rfl (Or.inl rfl) (ze_op o_mod s_mod (ze_callTy call_intU s_intU (by rfl) m_int (by decide +kernel) (za_cons (ze_op o_add s_add (ze_op o_mul s_mul (ze_var rfl (pv 5)) (ze_var rfl (pv 5))) (ze_var rfl (pv 4))) (za_nil))) (ze_var rfl (pv 2)))) (zss_one (zs_ret (ze_lst (za_cons (ze_op o_add s_add (ze_op o_mul s_mul (ze_op o_add s_add (ze_op o_mul s_mul (ze_op o_add s_add (ze_op o_mul s_mul (ze_var rfl (pv 6)) (ze_var rfl (pv 2))) (ze_var rfl (pv 5))) (ze_var rfl (pv 2))) (ze_var rfl (pv 4))) (ze_var rfl (pv 2))) (ze_var rfl (pv 3))) (za_nil))))))))))⟩
abbrev st__law_cell : Stmt := topS 121
theorem sc__law_cell : FnScope ["_law_script", "_law_k"] ["_law_script", "_law_k"] (defScope st__law_cell) := ⟨rfl, rfl, rfl, by decide +kernel, rfl, by decide +kernel, by decide +kernel⟩
def b__law_cell : SM := zSeq (zIfS 2 (zTst (zOp ltX (zVar 1) (zCallS lenD (zCons (zVar 0) (zNil))))) (zRet (zIx (zVar 0) (zVar 1))) (zNx)) (zRet (zC (.int 0)))
def d__law_cell : List D → Option FR := runP 2 2 b__law_cell
set_option maxHeartbeats 4000000 in
theorem ok__law_cell (h : DefAt K mg "_law_cell" st__law_cell) (m_len : mg "len" = none) : Cal P w K mg base 1 "_law_cell" (spP K d__law_cell) := by
  obtain ⟨a, fd, h1, F⟩ := h
  exact ⟨a, fd, _, h1, F.kp, F.binds (ps := ["_law_script", "_law_k"]) fun _ _ _ _ _ _ us hl => match us, hl with | [_, _], _ => rfl, okP F sc__law_cell fun cdv A outer s0 H E hr =>
    zss_cons (zs_if (zt_cmp (o_ltX hr) s_ltX (ze_var rfl (pv 1)) (ze_callB call_len s_len (by rfl) m_len PySem.boot_len (za_cons (ze_var rfl (pv 0)) (za_nil))) (nomark _)) (zss_one (zs_ret (ze_ix (ze_var rfl (pv 0)) (ze_var rfl (pv 1))))) (zss_nil)) (zss_one (zs_ret (ze_int)))⟩
abbrev st__law_digit : Stmt := topS 123
theorem sc__law_digit : FnScope ["_law_state_here", "_law_many", "_law_digit_here"] ["_law_state_here", "_law_many"] (defScope st__law_digit) := ⟨rfl, rfl, rfl, by decide +kernel, rfl, by decide +kernel, by decide +kernel⟩
def b__law_digit : SM := zSeq (zSet 3 2 (zOp modD (zCallS intU (zCons (zIx (zVar 0) (zC (.int 0))) (zNil))) (zVar 1))) (zSeq (zSto 3 (zVar 0) (zC (.int 0)) (zOp divD (zIx (zVar 0) (zC (.int 0))) (zVar 1))) (zRet (zVar 2)))
def d__law_digit : Cn → List D → Option (FR × Cn) := runM 3 2 0 b__law_digit
set_option maxHeartbeats 4000000 in
theorem ok__law_digit (h : DefAt K mg "_law_digit" st__law_digit) (m_int : mg "int" = none) : Cal P w K mg base 1 "_law_digit" (spM K 0 d__law_digit) := by
  obtain ⟨a, fd, h1, F⟩ := h
  exact ⟨a, fd, _, h1, F.kp, F.binds (ps := ["_law_state_here", "_law_many"]) fun _ _ _ _ _ _ us hl => match us, hl with | [_, _], _ => rfl, okM F sc__law_digit fun cdv A outer s0 H E hr =>
    zss_cons (zs_set (i := 2) sc__law_digit.nd rfl (Or.inl rfl) (ze_op o_mod s_mod (ze_callTy call_intU s_intU (by rfl) m_int (by decide +kernel) (za_cons (ze_ix (ze_var rfl (pv 0)) (ze_int)) (za_nil))) (ze_var rfl (pv 1)))) (zss_cons (zs_sto (ze_op o_div s_div (ze_ix (ze_var rfl (pv 0)) (ze_int)) (ze_var rfl (pv 1))) (ze_var rfl (pv 0)) (ze_int)) (zss_one (zs_ret (ze_var rfl (pv 2)))))⟩
abbrev st_rank : Stmt := topS 3
theorem sc_rank : FnScope ["value"] ["value"] (defScope st_rank) := ⟨rfl, rfl, rfl, by decide +kernel, rfl, by decide +kernel, by decide +kernel⟩
def b_rank : SM := zSeq (zIfS 1 (zTst (zOp isD (zVar 0) (zC .non))) (zRet (zTup (zCons (zC (.int 0)) (zCons (zC (.int 0)) (zNil))))) (zNx)) (zSeq (zIfS 1 (zTru (zCallS isiD (zCons (zVar 0) (zCons (zC (.raw (.ty "bool"))) (zNil))))) (zRet (zTup (zCons (zC (.int 1)) (zCons (zCallS intU (zCons (zVar 0) (zNil))) (zNil))))) (zNx)) (zSeq (zIfS 1 (zTru (zCallS isiD (zCons (zVar 0) (zCons (zC (.raw (.ty "int"))) (zNil))))) (zRet (zTup (zCons (zC (.int 2)) (zCons (zVar 0) (zNil))))) (zNx)) (zRet (zTup (zCons (zC (.int 3)) (zCons (zVar 0) (zNil)))))))
def d_rank : List D → Option FR := runP 1 1 b_rank
set_option maxHeartbeats 4000000 in
theorem ok_rank (h : DefAt K mg "rank" st_rank) (m_bool : mg "bool" = none) (m_int : mg "int" = none) (m_isinstance : mg "isinstance" = none) : Cal P w K mg base 1 "rank" (spP K d_rank) := by
  obtain ⟨a, fd, h1, F⟩ := h
  exact ⟨a, fd, _, h1, F.kp, F.binds (ps := ["value"]) fun _ _ _ _ _ _ us hl => match us, hl with | [_], _ => rfl, okP F sc_rank fun cdv A outer s0 H E hr =>
    zss_cons (zs_if (zt_cmp o_is s_is (ze_var rfl (pv 0)) (ze_non) (nomark _)) (zss_one (zs_ret (ze_tup (za_cons (ze_int) (za_cons (ze_int) (za_nil)))))) (zss_nil)) (zss_cons (zs_if (zt_truth (ze_callB call_isiU s_isi (by rfl) m_isinstance (by decide +kernel) (za_cons (ze_var rfl (pv 0)) (za_cons (ze_bltn (by rfl) m_bool (by decide +kernel) rfl) (za_nil))))) (zss_one (zs_ret (ze_tup (za_cons (ze_int) (za_cons (ze_callTy call_intU s_intU (by rfl) m_int (by decide +kernel) (za_cons (ze_var rfl (pv 0)) (za_nil))) (za_nil)))))) (zss_nil)) (zss_cons (zs_if (zt_truth (ze_callB call_isiU s_isi (by rfl) m_isinstance (by decide +kernel) (za_cons (ze_var rfl (pv 0)) (za_cons (ze_bltn (by rfl) m_int (by decide +kernel) rfl) (za_nil))))) (zss_one (zs_ret (ze_tup (za_cons (ze_int) (za_cons (ze_var rfl (pv 0)) (za_nil)))))) (zss_nil)) (zss_one (zs_ret (ze_tup (za_cons (ze_int) (za_cons (ze_var rfl (pv 0)) (za_nil))))))))⟩
abbrev st_zone_of : Stmt := topS 9
theorem sc_zone_of : FnScope ["column", "present", "value"] ["column"] (defScope st_zone_of) := ⟨rfl, rfl, rfl, by decide +kernel, rfl, by decide +kernel, by decide +kernel⟩
def b_zone_of : SM := zSeq (zSet 3 1 (zSortK d_rank false (zLc (ziL 3 (zVar 0)) (gN 2) (zTst (zOp isntD (zVar 2) (zC .non))) (zVar 2) [2]))) (zSeq (zIfS 3 (zTst (zOp eqD (zCallS lenD (zCons (zVar 1) (zNil))) (zC (.int 0)))) (zRet (zMake "Zone" fl_Zone i_Zone (zCons (zCallS lenD (zCons (zVar 0) (zNil))) (zCons (zCallS lenD (zCons (zVar 0) (zNil))) (zCons (zC .non) (zCons (zC .non) (zNil))))))) (zNx)) (zRet (zMake "Zone" fl_Zone i_Zone (zCons (zCallS lenD (zCons (zVar 0) (zNil))) (zCons (zOp subD (zCallS lenD (zCons (zVar 0) (zNil))) (zCallS lenD (zCons (zVar 1) (zNil)))) (zCons (zIx (zVar 1) (zC (.int 0))) (zCons (zIx (zVar 1) (zUn negD (zC (.int 1)))) (zNil))))))))
def d_zone_of : List D → Option FR := runP 3 1 b_zone_of
set_option maxHeartbeats 4000000 in
theorem ok_zone_of (h : DefAt K mg "zone_of" st_zone_of) (m_len : mg "len" = none) (m_sorted : mg "sorted" = none) (c_Zone : ClsK P w K mg base 1 "Zone" fl_Zone i_Zone) (c_rank : Cal P w K mg base 1 "rank" (spP K d_rank)) : Cal P w K mg base 4 "zone_of" (spP K d_zone_of) := by
  obtain ⟨a, fd, h1, F⟩ := h
  exact ⟨a, fd, _, h1, F.kp, F.binds (ps := ["column"]) fun _ _ _ _ _ _ us hl => match us, hl with | [_], _ => rfl, okP F sc_zone_of fun cdv A outer s0 H E hr =>
    zss_cons (zs_set (i := 1) sc_zone_of.nd rfl (Or.inl rfl) (ze_sortK c_rank hr (by decide) (by rfl) m_sorted (ze_lc (own := [("value", 2)]) rfl sc_zone_of.nd (zi_list (ze_var rfl (pv 0))) (blkOk_by (N := ["column", "present", "value"]) (own := [("value", 2)]) (sc := defScope st_zone_of) (by decide +kernel)) (fun _ _ _ _ _ => zgw_name (i := 2) sc_zone_of.nd rfl (Or.inl rfl) (by decide)) (fun _ _ _ _ _ => zts_one (zt_cmp o_isnt s_isnt (ze_var rfl (pv 2)) (ze_non) (nomark _))) (fun _ _ _ _ _ => ze_var rfl (pv 2))) (by rfl))) (zss_cons (zs_if (zt_cmp (o_eq hr) s_eq (ze_callB call_len s_len (by rfl) m_len PySem.boot_len (za_cons (ze_var rfl (pv 1)) (za_nil))) (ze_int) (nomark _)) (zss_one (zs_ret (ze_make (c_Zone.mono (by decide)) hr (za_cons (ze_callB call_len s_len (by rfl) m_len PySem.boot_len (za_cons (ze_var rfl (pv 0)) (za_nil))) (za_cons (ze_callB call_len s_len (by rfl) m_len PySem.boot_len (za_cons (ze_var rfl (pv 0)) (za_nil))) (za_cons (ze_non) (za_cons (ze_non) (za_nil)))))))) (zss_nil)) (zss_one (zs_ret (ze_make (c_Zone.mono (by decide)) hr (za_cons (ze_callB call_len s_len (by rfl) m_len PySem.boot_len (za_cons (ze_var rfl (pv 0)) (za_nil))) (za_cons (ze_op op_sub s_sub (ze_callB call_len s_len (by rfl) m_len PySem.boot_len (za_cons (ze_var rfl (pv 0)) (za_nil))) (ze_callB call_len s_len (by rfl) m_len PySem.boot_len (za_cons (ze_var rfl (pv 1)) (za_nil)))) (za_cons (ze_ix (ze_var rfl (pv 1)) (ze_int)) (za_cons (ze_ix (ze_var rfl (pv 1)) (ze_un un_neg s_neg (ze_int))) (za_nil)))))))))⟩
abbrev st__law_text : Stmt := topS 126
theorem sc__law_text : FnScope ["_law_state_here", "_law_signs", "_law_k"] ["_law_state_here"] (defScope st__law_text) := ⟨rfl, rfl, rfl, by decide +kernel, rfl, by decide +kernel, by decide +kernel⟩
def b__law_text : SM := zSeq (zSet 3 1 (zC (.str [97, 98, 65, 66, 32, 49, 57, 45, 39, 126]))) (zRet (zMt "str" joinD (zC (.str [])) (zCons (zLc (ziR1 (zCons (zCallM 0 d__law_digit (zCons (zVar 0) (zCons (zC (.int 5)) (zNil)))) (zNil))) (gN 2) (zYes) (zIx (zVar 1) (zCallM 0 d__law_digit (zCons (zVar 0) (zCons (zC (.int 10)) (zNil))))) [2]) (zNil))))
def d__law_text : Cn → List D → Option (FR × Cn) := runM 3 1 0 b__law_text
set_option maxHeartbeats 4000000 in
theorem ok__law_text (h : DefAt K mg "_law_text" st__law_text) (m_range : mg "range" = none) (c__law_digit : Cal P w K mg base 1 "_law_digit" (spM K 0 d__law_digit)) : Cal P w K mg base 2 "_law_text" (spM K 0 d__law_text) := by
  obtain ⟨a, fd, h1, F⟩ := h
  exact ⟨a, fd, _, h1, F.kp, F.binds (ps := ["_law_state_here"]) fun _ _ _ _ _ _ us hl => match us, hl with | [_], _ => rfl, okM F sc__law_text fun cdv A outer s0 H E hr =>
    zss_cons (zs_set (i := 1) sc__law_text.nd rfl (Or.inr rfl) (ze_str)) (zss_one (zs_ret (ze_mt PySem.F.plainAttrs_str PySem.F.slot_str_join PySem.F.type_str_join mt_join s_join (ze_str) (za_cons (ze_lc (own := [("_law_k", 2)]) rfl sc__law_text.nd (zi_range1 (by rfl) m_range (za_cons (ze_callM (c__law_digit.mono (by decide)) hr (za_cons (ze_var rfl (pv 0)) (za_cons (ze_int) (za_nil)))) (za_nil))) (blkOk_by (N := ["_law_state_here", "_law_signs", "_law_k"]) (own := [("_law_k", 2)]) (sc := defScope st__law_text) (by decide +kernel)) (fun _ _ _ _ _ => zgw_name (i := 2) sc__law_text.nd rfl (Or.inl rfl) (by decide)) (fun _ _ _ _ _ => zts_nil) (fun _ _ _ _ _ => ze_ix (ze_var rfl (pv 1)) (ze_callM (c__law_digit.mono (by decide)) hr (za_cons (ze_var rfl (pv 0)) (za_cons (ze_int) (za_nil)))))) (za_nil)))))⟩
abbrev st__law_value : Stmt := topS 127
theorem sc__law_value : FnScope ["_law_state_here", "_law_kind"] ["_law_state_here"] (defScope st__law_value) := ⟨rfl, rfl, rfl, by decide +kernel, rfl, by decide +kernel, by decide +kernel⟩
def b__law_value : SM := zSeq (zSet 2 1 (zCallM 0 d__law_digit (zCons (zVar 0) (zCons (zC (.int 8)) (zNil))))) (zSeq (zIfS 2 (zTst (zOp ltX (zVar 1) (zC (.int 2)))) (zRet (zC .non)) (zNx)) (zSeq (zIfS 2 (zTst (zOp eqD (zVar 1) (zC (.int 2)))) (zRet (zOp eqD (zCallM 0 d__law_digit (zCons (zVar 0) (zCons (zC (.int 2)) (zNil)))) (zC (.int 1)))) (zNx)) (zSeq (zIfS 2 (zTst (zOp ltX (zVar 1) (zC (.int 5)))) (zRet (zOp subD (zCallM 0 d__law_digit (zCons (zVar 0) (zCons (zC (.int 7)) (zNil)))) (zC (.int 3)))) (zNx)) (zSeq (zIfS 2 (zTst (zOp eqD (zVar 1) (zC (.int 5)))) (zRet (zOp mulD (zOp subD (zOp mulD (zCallM 0 d__law_digit (zCons (zVar 0) (zCons (zC (.int 2)) (zNil)))) (zC (.int 2))) (zC (.int 1))) (zOp subD (zC (.int 1000000000000000)) (zCallM 0 d__law_digit (zCons (zVar 0) (zCons (zC (.int 1000)) (zNil))))))) (zNx)) (zRet (zCallM 0 d__law_text (zCons (zVar 0) (zNil))))))))
def d__law_value : Cn → List D → Option (FR × Cn) := runM 2 1 0 b__law_value
set_option maxHeartbeats 4000000 in
theorem ok__law_value (h : DefAt K mg "_law_value" st__law_value) (c__law_digit : Cal P w K mg base 1 "_law_digit" (spM K 0 d__law_digit)) (c__law_text : Cal P w K mg base 2 "_law_text" (spM K 0 d__law_text)) : Cal P w K mg base 3 "_law_value" (spM K 0 d__law_value) := by
  obtain ⟨a, fd, h1, F⟩ := h
  exact ⟨a, fd, _, h1, F.kp, F.binds (ps := ["_law_state_here"]) fun _ _ _ _ _ _ us hl => match us, hl with | [_], _ => rfl, okM F sc__law_value fun cdv A outer s0 H E hr =>
    zss_cons (zs_set (i := 1) sc__law_value.nd rfl (Or.inl rfl) (ze_callM (c__law_digit.mono (by decide)) hr (za_cons (ze_var rfl (pv 0)) (za_cons (ze_int) (za_nil))))) (zss_cons (zs_if (zt_cmp (o_ltX hr) s_ltX (ze_var rfl (pv 1)) (ze_int) (nomark _)) (zss_one (zs_ret (ze_non))) (zss_nil)) (zss_cons (zs_if (zt_cmp (o_eq hr) s_eq (ze_var rfl (pv 1)) (ze_int) (nomark _)) (zss_one (zs_ret (ze_cmp (o_eq hr) s_eq (ze_callM (c__law_digit.mono (by decide)) hr (za_cons (ze_var rfl (pv 0)) (za_cons (ze_int) (za_nil)))) (ze_int) (nomark _)))) (zss_nil)) (zss_cons (zs_if (zt_cmp (o_ltX hr) s_ltX (ze_var rfl (pv 1)) (ze_int) (nomark _)) (zss_one (zs_ret (ze_op op_sub s_sub (ze_callM (c__law_digit.mono (by decide)) hr (za_cons (ze_var rfl (pv 0)) (za_cons (ze_int) (za_nil)))) (ze_int)))) (zss_nil)) (zss_cons (zs_if (zt_cmp (o_eq hr) s_eq (ze_var rfl (pv 1)) (ze_int) (nomark _)) (zss_one (zs_ret (ze_op o_mul s_mul (ze_op op_sub s_sub (ze_op o_mul s_mul (ze_callM (c__law_digit.mono (by decide)) hr (za_cons (ze_var rfl (pv 0)) (za_cons (ze_int) (za_nil)))) (ze_int)) (ze_int)) (ze_op op_sub s_sub (ze_int) (ze_callM (c__law_digit.mono (by decide)) hr (za_cons (ze_var rfl (pv 0)) (za_cons (ze_int) (za_nil)))))))) (zss_nil)) (zss_one (zs_ret (ze_callM (c__law_text.mono (by decide)) hr (za_cons (ze_var rfl (pv 0)) (za_nil)))))))))⟩
abbrev st__law_leaf : Stmt := topS 128
theorem sc__law_leaf : FnScope ["_law_state_here", "_law_width"] ["_law_state_here", "_law_width"] (defScope st__law_leaf) := ⟨rfl, rfl, rfl, by decide +kernel, rfl, by decide +kernel, by decide +kernel⟩
def b__law_leaf : SM := zSeq (zIfS 2 (zTst (zOp gtD (zCallM 0 d__law_digit (zCons (zVar 0) (zCons (zC (.int 3)) (zNil)))) (zC (.int 0)))) (zRet (zTup (zCons (zC (.str [99, 111, 108, 117, 109, 110])) (zCons (zCallM 0 d__law_digit (zCons (zVar 0) (zCons (zVar 1) (zNil)))) (zNil))))) (zNx)) (zRet (zTup (zCons (zC (.str [99, 111, 110, 115, 116, 97, 110, 116])) (zCons (zCallM 0 d__law_value (zCons (zVar 0) (zNil))) (zNil)))))
def d__law_leaf : Cn → List D → Option (FR × Cn) := runM 2 2 0 b__law_leaf
set_option maxHeartbeats 4000000 in
theorem ok__law_leaf (h : DefAt K mg "_law_leaf" st__law_leaf) (c__law_digit : Cal P w K mg base 1 "_law_digit" (spM K 0 d__law_digit)) (c__law_value : Cal P w K mg base 3 "_law_value" (spM K 0 d__law_value)) : Cal P w K mg base 4 "_law_leaf" (spM K 0 d__law_leaf) := by
  obtain ⟨a, fd, h1, F⟩ := h
  exact ⟨a, fd, _, h1, F.kp, F.binds (ps := ["_law_state_here", "_law_width"]) fun _ _ _ _ _ _ us hl => match us, hl with | [_, _], _ => rfl, okM F sc__law_leaf fun cdv A outer s0 H E hr =>
    zss_cons (zs_if (zt_cmp o_gt s_gt (ze_callM (c__law_digit.mono (by decide)) hr (za_cons (ze_var rfl (pv 0)) (za_cons (ze_int) (za_nil)))) (ze_int) (nomark _)) (zss_one (zs_ret (ze_tup (za_cons (ze_str) (za_cons (ze_callM (c__law_digit.mono (by decide)) hr (za_cons (ze_var rfl (pv 0)) (za_cons (ze_var rfl (pv 1)) (za_nil)))) (za_nil)))))) (zss_nil)) (zss_one (zs_ret (ze_tup (za_cons (ze_str) (za_cons (ze_callM (c__law_value.mono (by decide)) hr (za_cons (ze_var rfl (pv 0)) (za_nil))) (za_nil))))))⟩
abbrev st__law_expression : Stmt := topS 129
theorem sc__law_expression : FnScope ["_law_state_here", "_law_width", "_law_depth", "_law_kind", "_law_first", "_law_second", "_law_names"] ["_law_state_here", "_law_width", "_law_depth"] (defScope st__law_expression) := ⟨rfl, rfl, rfl, by decide +kernel, rfl, by decide +kernel, by decide +kernel⟩
def b__law_expression (F : Cn → List D → Option (FR × Cn)) : SM := zSeq (zSet 7 3 (zCallM 0 d__law_digit (zCons (zVar 0) (zCons (zC (.int 9)) (zNil))))) (zSeq (zIfS 7 (zOrT (zTst (zOp eqD (zVar 2) (zC (.int 0)))) (zTst (zOp ltX (zVar 3) (zC (.int 2))))) (zRet (zCallM 0 d__law_leaf (zCons (zVar 0) (zCons (zVar 1) (zNil))))) (zNx)) (zSeq (zSet 7 4 (zCallM 0 F (zCons (zVar 0) (zCons (zVar 1) (zCons (zOp subD (zVar 2) (zC (.int 1))) (zNil)))))) (zSeq (zIfS 7 (zTst (zOp eqD (zVar 3) (zC (.int 2)))) (zSeq (zSet 7 6 (zTup (zCons (zC (.str [110, 111, 116])) (zCons (zC (.str [105, 115, 32, 110, 117, 108, 108])) (zCons (zC (.str [110, 101, 103, 97, 116, 101])) (zCons (zC (.str [97, 98, 115])) (zCons (zC (.str [97, 115, 32, 100, 97, 116, 101])) (zCons (zC (.str [97, 115, 32, 100, 101, 99, 105, 109, 97, 108])) (zCons (zC (.str [116, 111, 32, 100, 101, 99, 105, 109, 97, 108])) (zCons (zC (.str [105, 115, 32, 110, 117, 108, 108])) (zCons (zC (.str [108, 101, 110, 103, 116, 104])) (zNil)))))))))))) (zRet (zTup (zCons (zC (.str [117, 110, 97, 114, 121])) (zCons (zIx (zVar 6) (zCallM 0 d__law_digit (zCons (zVar 0) (zCons (zC (.int 9)) (zNil))))) (zCons (zVar 4) (zNil))))))) (zNx)) (zSeq (zSet 7 5 (zCallM 0 F (zCons (zVar 0) (zCons (zVar 1) (zCons (zOp subD (zVar 2) (zC (.int 1))) (zNil)))))) (zSeq (zIfS 7 (zTst (zOp eqD (zVar 3) (zC (.int 3)))) (zRet (zTup (zCons (zC (.str [99, 104, 111, 105, 99, 101])) (zCons (zCallM 0 F (zCons (zVar 0) (zCons (zVar 1) (zCons (zOp subD (zVar 2) (zC (.int 1))) (zNil))))) (zCons (zVar 4) (zCons (zVar 5) (zNil))))))) (zNx)) (zSeq (zSet 7 6 (zTup (zCons (zC (.str [97, 110, 100])) (zCons (zC (.str [111, 114])) (zCons (zC (.str [101, 113, 117, 97, 108])) (zCons (zC (.str [108, 101, 115, 115])) (zCons (zC (.str [97, 116, 32, 109, 111, 115, 116])) (zCons (zC (.str [97, 100, 100])) (zCons (zC (.str [115, 117, 98, 116, 114, 97, 99, 116])) (zCons (zC (.str [99, 111, 97, 108, 101, 115, 99, 101])) (zCons (zC (.str [97, 100, 100, 32, 100, 97, 121, 115])) (zCons (zC (.str [115, 97, 109, 101])) (zCons (zC (.str [109, 117, 108, 116, 105, 112, 108, 121])) (zCons (zC (.str [108, 101, 115, 115])) (zNil))))))))))))))) (zRet (zTup (zCons (zC (.str [98, 105, 110, 97, 114, 121])) (zCons (zIx (zVar 6) (zCallM 0 d__law_digit (zCons (zVar 0) (zCons (zC (.int 12)) (zNil))))) (zCons (zVar 4) (zCons (zVar 5) (zNil)))))))))))))
def d__law_expression : Nat → Cn → List D → Option (FR × Cn)
  | 0 => fun _ _ => none
  | q + 1 => runM 7 3 0 (b__law_expression (d__law_expression q))
set_option maxHeartbeats 4000000 in
theorem ok__law_expression (h : DefAt K mg "_law_expression" st__law_expression) (c__law_digit : Cal P w K mg base 1 "_law_digit" (spM K 0 d__law_digit)) (c__law_leaf : Cal P w K mg base 4 "_law_leaf" (spM K 0 d__law_leaf)) : ∀ q : Nat, Cal P w K mg base (5 + q) "_law_expression" (spM K 0 (d__law_expression q)) := by
  obtain ⟨a, fd, h1, F⟩ := h
  intro q
  induction q with
  | zero => exact ⟨a, fd, _, h1, F.kp, F.binds (ps := ["_law_state_here", "_law_width", "_law_depth"]) fun _ _ _ _ _ _ us hl => match us, hl with | [_, _, _], _ => rfl, okNM⟩
  | succ q cR =>
    show Cal P w K mg base (5 + q + 1) "_law_expression" (spM K 0 (runM 7 3 0 (b__law_expression (d__law_expression q))))
    exact ⟨a, fd, _, h1, F.kp, F.binds (ps := ["_law_state_here", "_law_width", "_law_depth"]) fun _ _ _ _ _ _ us hl => match us, hl with | [_, _, _], _ => rfl, okM F sc__law_expression fun cdv A outer s0 H E hr =>
    zss_cons (zs_set (i := 3) sc__law_expression.nd rfl (Or.inl rfl) (ze_callM (c__law_digit.mono (by omega)) hr (za_cons (ze_var rfl (pv 0)) (za_cons (ze_int) (za_nil))))) (zss_cons (zs_if (zt_w (zw_or (zt_cmp (o_eq hr) s_eq (ze_var rfl (pv 2)) (ze_int) (nomark _)) (zw_or1 (zt_cmp (o_ltX hr) s_ltX (ze_var rfl (pv 3)) (ze_int) (nomark _))))) (zss_one (zs_ret (ze_callM (c__law_leaf.mono (by omega)) hr (za_cons (ze_var rfl (pv 0)) (za_cons (ze_var rfl (pv 1)) (za_nil)))))) (zss_nil)) (zss_cons (zs_set (i := 4) sc__law_expression.nd rfl (Or.inl rfl) (ze_callM cR hr (za_cons (ze_var rfl (pv 0)) (za_cons (ze_var rfl (pv 1)) (za_cons (ze_op op_sub s_sub (ze_var rfl (pv 2)) (ze_int)) (za_nil)))))) (zss_cons (zs_if (zt_cmp (o_eq hr) s_eq (ze_var rfl (pv 3)) (ze_int) (nomark _)) (zss_cons (zs_set (i := 6) sc__law_expression.nd rfl (Or.inl rfl) (ze_tup (za_cons (ze_str) (za_cons (ze_str) (za_cons (ze_str) (za_cons (ze_str) (za_cons (ze_str) (za_cons (ze_str) (za_cons (ze_str) (za_cons (ze_str) (za_cons (ze_str) (za_nil)))))))))))) (zss_one (zs_ret (ze_tup (za_cons (ze_str) (za_cons (ze_ix (ze_var rfl (pv 6)) (ze_callM (c__law_digit.mono (by omega)) hr (za_cons (ze_var rfl (pv 0)) (za_cons (ze_int) (za_nil))))) (za_cons (ze_var rfl (pv 4)) (za_nil)))))))) (zss_nil)) (zss_cons (zs_set (i := 5) sc__law_expression.nd rfl (Or.inl rfl) (ze_callM cR hr (za_cons (ze_var rfl (pv 0)) (za_cons (ze_var rfl (pv 1)) (za_cons (ze_op op_sub s_sub (ze_var rfl (pv 2)) (ze_int)) (za_nil)))))) (zss_cons (zs_if (zt_cmp (o_eq hr) s_eq (ze_var rfl (pv 3)) (ze_int) (nomark _)) (zss_one (zs_ret (ze_tup (za_cons (ze_str) (za_cons (ze_callM cR hr (za_cons (ze_var rfl (pv 0)) (za_cons (ze_var rfl (pv 1)) (za_cons (ze_op op_sub s_sub (ze_var rfl (pv 2)) (ze_int)) (za_nil))))) (za_cons (ze_var rfl (pv 4)) (za_cons (ze_var rfl (pv 5)) (za_nil)))))))) (zss_nil)) (zss_cons (zs_set (i := 6) sc__law_expression.nd rfl (Or.inl rfl) (ze_tup (za_cons (ze_str) (za_cons (ze_str) (za_cons (ze_str) (za_cons (ze_str) (za_cons (ze_str) (za_cons (ze_str) (za_cons (ze_str) (za_cons (ze_str) (za_cons (ze_str) (za_cons (ze_str) (za_cons (ze_str) (za_cons (ze_str) (za_nil))))))))))))))) (zss_one (zs_ret (ze_tup (za_cons (ze_str) (za_cons (ze_ix (ze_var rfl (pv 6)) (ze_callM (c__law_digit.mono (by omega)) hr (za_cons (ze_var rfl (pv 0)) (za_cons (ze_int) (za_nil))))) (za_cons (ze_var rfl (pv 4)) (za_cons (ze_var rfl (pv 5)) (za_nil))))))))))))))⟩
abbrev st_truth_span : Stmt := topS 13
theorem sc_truth_span : FnScope ["null", "can_hold", "can_fail"] ["null", "can_hold", "can_fail"] (defScope st_truth_span) := ⟨rfl, rfl, rfl, by decide +kernel, rfl, by decide +kernel, by decide +kernel⟩
def b_truth_span : SM := zSeq (zIfS 3 (zAndT (zNotT (zTru (zVar 1))) (zNotT (zTru (zVar 2)))) (zRet (zTup (zCons (zVar 0) (zCons (zC .non) (zCons (zC .non) (zNil)))))) (zNx)) (zRet (zTup (zCons (zVar 0) (zCons (zNotV (zVar 2)) (zCons (zVar 1) (zNil))))))
def d_truth_span : List D → Option FR := runP 3 3 b_truth_span
set_option maxHeartbeats 4000000 in
theorem ok_truth_span (h : DefAt K mg "truth_span" st_truth_span) : Cal P w K mg base 1 "truth_span" (spP K d_truth_span) := by
  obtain ⟨a, fd, h1, F⟩ := h
  exact ⟨a, fd, _, h1, F.kp, F.binds (ps := ["null", "can_hold", "can_fail"]) fun _ _ _ _ _ _ us hl => match us, hl with | [_, _, _], _ => rfl, okP F sc_truth_span fun cdv A outer s0 H E hr =>
    zss_cons (zs_if (zt_w (zw_and (zt_not (zt_truth (ze_var rfl (pv 1)))) (zw_and1 (zt_not (zt_truth (ze_var rfl (pv 2))))))) (zss_one (zs_ret (ze_tup (za_cons (ze_var rfl (pv 0)) (za_cons (ze_non) (za_cons (ze_non) (za_nil))))))) (zss_nil)) (zss_one (zs_ret (ze_tup (za_cons (ze_var rfl (pv 0)) (za_cons (ze_not (ze_var rfl (pv 2))) (za_cons (ze_var rfl (pv 1)) (za_nil)))))))⟩
abbrev st_is_integer : Stmt := topS 1
theorem sc_is_integer : FnScope ["value"] ["value"] (defScope st_is_integer) := ⟨rfl, rfl, rfl, by decide +kernel, rfl, by decide +kernel, by decide +kernel⟩
def b_is_integer : SM := zRet (zAndV (zCallS isiD (zCons (zVar 0) (zCons (zC (.raw (.ty "int"))) (zNil)))) (zNotV (zCallS isiD (zCons (zVar 0) (zCons (zC (.raw (.ty "bool"))) (zNil))))))
def d_is_integer : List D → Option FR := runP 1 1 b_is_integer
set_option maxHeartbeats 4000000 in
theorem ok_is_integer (h : DefAt K mg "is_integer" st_is_integer) (m_bool : mg "bool" = none) (m_int : mg "int" = none) (m_isinstance : mg "isinstance" = none) : Cal P w K mg base 1 "is_integer" (spP K d_is_integer) := by
  obtain ⟨a, fd, h1, F⟩ := h
  exact ⟨a, fd, _, h1, F.kp, F.binds (ps := ["value"]) fun _ _ _ _ _ _ us hl => match us, hl with | [_], _ => rfl, okP F sc_is_integer fun cdv A outer s0 H E hr =>
    zss_one (zs_ret (ze_and (ze_callB call_isiU s_isi (by rfl) m_isinstance (by decide +kernel) (za_cons (ze_var rfl (pv 0)) (za_cons (ze_bltn (by rfl) m_int (by decide +kernel) rfl) (za_nil)))) (ze_one (ze_not (ze_callB call_isiU s_isi (by rfl) m_isinstance (by decide +kernel) (za_cons (ze_var rfl (pv 0)) (za_cons (ze_bltn (by rfl) m_bool (by decide +kernel) rfl) (za_nil))))))))⟩
abbrev st_is_range : Stmt := topS 14
theorem sc_is_range : FnScope ["span"] ["span"] (defScope st_is_range) := ⟨rfl, rfl, rfl, by decide +kernel, rfl, by decide +kernel, by decide +kernel⟩
def b_is_range : SM := zRet (zAndV (zOp neqD (zVar 0) (zC c_ANY)) (zAndV (zCall d_is_integer (zCons (zIx (zVar 0) (zC (.int 1))) (zNil))) (zCall d_is_integer (zCons (zIx (zVar 0) (zC (.int 2))) (zNil)))))
def d_is_range : List D → Option FR := runP 1 1 b_is_range
set_option maxHeartbeats 4000000 in
theorem ok_is_range (h : DefAt K mg "is_range" st_is_range) (hc_ANY : ConstD K mg "ANY" c_ANY) (c_is_integer : Cal P w K mg base 1 "is_integer" (spP K d_is_integer)) : Cal P w K mg base 2 "is_range" (spP K d_is_range) := by
  obtain ⟨a, fd, h1, F⟩ := h
  exact ⟨a, fd, _, h1, F.kp, F.binds (ps := ["span"]) fun _ _ _ _ _ _ us hl => match us, hl with | [_], _ => rfl, okP F sc_is_range fun cdv A outer s0 H E hr =>
    zss_one (zs_ret (ze_and (ze_cmp (o_ne hr) s_ne (ze_var rfl (pv 0)) (ze_cd hc_ANY) (nomark _)) (ze_and (ze_call (c_is_integer.mono (by decide)) hr (za_cons (ze_ix (ze_var rfl (pv 0)) (ze_int)) (za_nil))) (ze_one (ze_call (c_is_integer.mono (by decide)) hr (za_cons (ze_ix (ze_var rfl (pv 0)) (ze_int)) (za_nil)))))))⟩
abbrev st_before : Stmt := topS 5
theorem sc_before : FnScope ["first", "second"] ["first", "second"] (defScope st_before) := ⟨rfl, rfl, rfl, by decide +kernel, rfl, by decide +kernel, by decide +kernel⟩
def b_before : SM := zRet (zOp ltX (zCall d_rank (zCons (zVar 0) (zNil))) (zCall d_rank (zCons (zVar 1) (zNil))))
def d_before : List D → Option FR := runP 2 2 b_before
set_option maxHeartbeats 4000000 in
theorem ok_before (h : DefAt K mg "before" st_before) (c_rank : Cal P w K mg base 1 "rank" (spP K d_rank)) : Cal P w K mg base 2 "before" (spP K d_before) := by
  obtain ⟨a, fd, h1, F⟩ := h
  exact ⟨a, fd, _, h1, F.kp, F.binds (ps := ["first", "second"]) fun _ _ _ _ _ _ us hl => match us, hl with | [_, _], _ => rfl, okP F sc_before fun cdv A outer s0 H E hr =>
    zss_one (zs_ret (ze_cmp (o_ltX hr) s_ltX (ze_call (c_rank.mono (by decide)) hr (za_cons (ze_var rfl (pv 0)) (za_nil))) (ze_call (c_rank.mono (by decide)) hr (za_cons (ze_var rfl (pv 1)) (za_nil))) (nomark _)))⟩
abbrev st_can_be : Stmt := topS 12
theorem sc_can_be : FnScope ["span", "truth"] ["span", "truth"] (defScope st_can_be) := ⟨rfl, rfl, rfl, by decide +kernel, rfl, by decide +kernel, by decide +kernel⟩
def b_can_be : SM := zSeq (zIfS 2 (zTst (zOp eqD (zVar 0) (zC c_ANY))) (zRet (zC (.bl true))) (zNx)) (zSeq (zIfS 2 (zTst (zOp isD (zIx (zVar 0) (zC (.int 1))) (zC .non))) (zRet (zC (.bl false))) (zNx)) (zRet (zAndV (zNotV (zCall d_before (zCons (zVar 1) (zCons (zIx (zVar 0) (zC (.int 1))) (zNil))))) (zNotV (zCall d_before (zCons (zIx (zVar 0) (zC (.int 2))) (zCons (zVar 1) (zNil))))))))
def d_can_be : List D → Option FR := runP 2 2 b_can_be
set_option maxHeartbeats 4000000 in
theorem ok_can_be (h : DefAt K mg "can_be" st_can_be) (hc_ANY : ConstD K mg "ANY" c_ANY) (c_before : Cal P w K mg base 2 "before" (spP K d_before)) : Cal P w K mg base 3 "can_be" (spP K d_can_be) := by
  obtain ⟨a, fd, h1, F⟩ := h
  exact ⟨a, fd, _, h1, F.kp, F.binds (ps := ["span", "truth"]) fun _ _ _ _ _ _ us hl => match us, hl with | [_, _], _ => rfl, okP F sc_can_be fun cdv A outer s0 H E hr =>
    zss_cons (zs_if (zt_cmp (o_eq hr) s_eq (ze_var rfl (pv 0)) (ze_cd hc_ANY) (nomark _)) (zss_one (zs_ret (ze_bl))) (zss_nil)) (zss_cons (zs_if (zt_cmp o_is s_is (ze_ix (ze_var rfl (pv 0)) (ze_int)) (ze_non) (nomark _)) (zss_one (zs_ret (ze_bl))) (zss_nil)) (zss_one (zs_ret (ze_and (ze_not (ze_call (c_before.mono (by decide)) hr (za_cons (ze_var rfl (pv 1)) (za_cons (ze_ix (ze_var rfl (pv 0)) (ze_int)) (za_nil))))) (ze_one (ze_not (ze_call (c_before.mono (by decide)) hr (za_cons (ze_ix (ze_var rfl (pv 0)) (ze_int)) (za_cons (ze_var rfl (pv 1)) (za_nil))))))))))⟩
abbrev st_may_be_none : Stmt := topS 10
theorem sc_may_be_none : FnScope ["span"] ["span"] (defScope st_may_be_none) := ⟨rfl, rfl, rfl, by decide +kernel, rfl, by decide +kernel, by decide +kernel⟩
def b_may_be_none : SM := zRet (zOrV (zOp eqD (zVar 0) (zC c_ANY)) (zIx (zVar 0) (zC (.int 0))))
def d_may_be_none : List D → Option FR := runP 1 1 b_may_be_none
set_option maxHeartbeats 4000000 in
theorem ok_may_be_none (h : DefAt K mg "may_be_none" st_may_be_none) (hc_ANY : ConstD K mg "ANY" c_ANY) : Cal P w K mg base 1 "may_be_none" (spP K d_may_be_none) := by
  obtain ⟨a, fd, h1, F⟩ := h
  exact ⟨a, fd, _, h1, F.kp, F.binds (ps := ["span"]) fun _ _ _ _ _ _ us hl => match us, hl with | [_], _ => rfl, okP F sc_may_be_none fun cdv A outer s0 H E hr =>
    zss_one (zs_ret (ze_or (ze_cmp (o_eq hr) s_eq (ze_var rfl (pv 0)) (ze_cd hc_ANY) (nomark _)) (ze_one (ze_ix (ze_var rfl (pv 0)) (ze_int)))))⟩
abbrev st_has_values : Stmt := topS 11
theorem sc_has_values : FnScope ["span"] ["span"] (defScope st_has_values) := ⟨rfl, rfl, rfl, by decide +kernel, rfl, by decide +kernel, by decide +kernel⟩
def b_has_values : SM := zRet (zAndV (zOp neqD (zVar 0) (zC c_ANY)) (zOp isntD (zIx (zVar 0) (zC (.int 1))) (zC .non)))
def d_has_values : List D → Option FR := runP 1 1 b_has_values
set_option maxHeartbeats 4000000 in
theorem ok_has_values (h : DefAt K mg "has_values" st_has_values) (hc_ANY : ConstD K mg "ANY" c_ANY) : Cal P w K mg base 1 "has_values" (spP K d_has_values) := by
  obtain ⟨a, fd, h1, F⟩ := h
  exact ⟨a, fd, _, h1, F.kp, F.binds (ps := ["span"]) fun _ _ _ _ _ _ us hl => match us, hl with | [_], _ => rfl, okP F sc_has_values fun cdv A outer s0 H E hr =>
    zss_one (zs_ret (ze_and (ze_cmp (o_ne hr) s_ne (ze_var rfl (pv 0)) (ze_cd hc_ANY) (nomark _)) (ze_one (ze_cmp o_isnt s_isnt (ze_ix (ze_var rfl (pv 0)) (ze_int)) (ze_non) (nomark _)))))⟩
abbrev st_unary_span : Stmt := topS 15
theorem sc_unary_span : FnScope ["name", "span", "low", "high"] ["name", "span"] (defScope st_unary_span) := ⟨rfl, rfl, rfl, by decide +kernel, rfl, by decide +kernel, by decide +kernel⟩
def b_unary_span : SM := zSeq (zIfS 4 (zTst (zOp eqD (zVar 0) (zC (.str [110, 111, 116])))) (zRet (zCall d_truth_span (zCons (zC (.bl true)) (zCons (zCall d_can_be (zCons (zVar 1) (zCons (zC (.bl false)) (zNil)))) (zCons (zCall d_can_be (zCons (zVar 1) (zCons (zC (.bl true)) (zNil)))) (zNil)))))) (zNx)) (zSeq (zIfS 4 (zTst (zOp eqD (zVar 0) (zC (.str [105, 115, 32, 110, 117, 108, 108])))) (zRet (zCall d_truth_span (zCons (zC (.bl false)) (zCons (zCall d_may_be_none (zCons (zVar 1) (zNil))) (zCons (zOrV (zOp eqD (zVar 1) (zC c_ANY)) (zCall d_has_values (zCons (zVar 1) (zNil)))) (zNil)))))) (zNx)) (zSeq (zIfS 4 (zNotT (zTru (zCall d_is_range (zCons (zVar 1) (zNil))))) (zRet (zC c_ANY)) (zNx)) (zSeq (zSet 4 2 (zIx (zVar 1) (zC (.int 1)))) (zSeq (zSet 4 3 (zIx (zVar 1) (zC (.int 2)))) (zSeq (zIfS 4 (zTst (zOp eqD (zVar 0) (zC (.str [110, 101, 103, 97, 116, 101])))) (zRet (zTup (zCons (zC (.bl true)) (zCons (zUn negD (zVar 3)) (zCons (zUn negD (zVar 2)) (zNil)))))) (zNx)) (zSeq (zIfS 4 (zTst (zOp eqD (zVar 0) (zC (.str [97, 98, 115])))) (zRet (zTup (zCons (zC (.bl true)) (zCons (zCallS maxD3 (zCons (zVar 2) (zCons (zUn negD (zVar 3)) (zCons (zC (.int 0)) (zNil))))) (zCons (zCallS maxD (zCons (zUn negD (zVar 2)) (zCons (zVar 3) (zNil)))) (zNil)))))) (zNx)) (zSeq (zIfS 4 (zTst (zOp eqD (zVar 0) (zC (.str [116, 111, 32, 100, 101, 99, 105, 109, 97, 108])))) (zRet (zTup (zCons (zC (.bl true)) (zCons (zOp mulD (zC (.int 10000)) (zVar 2)) (zCons (zOp mulD (zC (.int 10000)) (zVar 3)) (zNil)))))) (zNx)) (zSeq (zIfS 4 (zTst (zOp inD (zVar 0) (zTup (zCons (zC (.str [97, 115, 32, 100, 97, 116, 101])) (zCons (zC (.str [97, 115, 32, 100, 101, 99, 105, 109, 97, 108])) (zNil)))))) (zRet (zTup (zCons (zC (.bl true)) (zCons (zVar 2) (zCons (zVar 3) (zNil)))))) (zNx)) (zRet (zC c_ANY))))))))))
def d_unary_span : List D → Option FR := runP 4 2 b_unary_span
set_option maxHeartbeats 4000000 in
theorem ok_unary_span (h : DefAt K mg "unary_span" st_unary_span) (m_max : mg "max" = none) (hc_ANY : ConstD K mg "ANY" c_ANY) (c_truth_span : Cal P w K mg base 1 "truth_span" (spP K d_truth_span)) (c_is_range : Cal P w K mg base 2 "is_range" (spP K d_is_range)) (c_can_be : Cal P w K mg base 3 "can_be" (spP K d_can_be)) (c_may_be_none : Cal P w K mg base 1 "may_be_none" (spP K d_may_be_none)) (c_has_values : Cal P w K mg base 1 "has_values" (spP K d_has_values)) : Cal P w K mg base 4 "unary_span" (spP K d_unary_span) := by
  obtain ⟨a, fd, h1, F⟩ := h
  exact ⟨a, fd, _, h1, F.kp, F.binds (ps := ["name", "span"]) fun _ _ _ _ _ _ us hl => match us, hl with | [_, _], _ => rfl, okP F sc_unary_span fun cdv A outer s0 H E hr =>
    zss_cons (zs_if (zt_cmp (o_eq hr) s_eq (ze_var rfl (pv 0)) (ze_str) (nomark _)) (zss_one (zs_ret (ze_call (c_truth_span.mono (by decide)) hr (za_cons (ze_bl) (za_cons (ze_call (c_can_be.mono (by decide)) hr (za_cons (ze_var rfl (pv 1)) (za_cons (ze_bl) (za_nil)))) (za_cons (ze_call (c_can_be.mono (by decide)) hr (za_cons (ze_var rfl (pv 1)) (za_cons (ze_bl) (za_nil)))) (za_nil))))))) (zss_nil)) (zss_cons (zs_if (zt_cmp (o_eq hr) s_eq (ze_var rfl (pv 0)) (ze_str) (nomark _)) (zss_one (zs_ret (ze_call (c_truth_span.mono (by decide)) hr (za_cons (ze_bl) (za_cons (ze_call (c_may_be_none.mono (by decide)) hr (za_cons (ze_var rfl (pv 1)) (za_nil))) (za_cons (ze_or (ze_cmp (o_eq hr) s_eq (ze_var rfl (pv 1)) (ze_cd hc_ANY) (nomark _)) (ze_one (ze_call (c_has_values.mono (by decide)) hr (za_cons (ze_var rfl (pv 1)) (za_nil))))) (za_nil))))))) (zss_nil)) (zss_cons (zs_if (zt_not (zt_truth (ze_call (c_is_range.mono (by decide)) hr (za_cons (ze_var rfl (pv 1)) (za_nil))))) (zss_one (zs_ret (ze_cd hc_ANY))) (zss_nil)) (zss_cons (zs_set (i := 2) sc_unary_span.nd rfl (Or.inl rfl) (ze_ix (ze_var rfl (pv 1)) (ze_int))) (zss_cons (zs_set (i := 3) sc_unary_span.nd rfl (Or.inl rfl) (ze_ix (ze_var rfl (pv 1)) (ze_int))) (zss_cons (zs_if (zt_cmp (o_eq hr) s_eq (ze_var rfl (pv 0)) (ze_str) (nomark _)) (zss_one (zs_ret (ze_tup (za_cons (ze_bl) (za_cons (ze_un un_neg s_neg (ze_var rfl (pv 3))) (za_cons (ze_un un_neg s_neg (ze_var rfl (pv 2))) (za_nil))))))) (zss_nil)) (zss_cons (zs_if (zt_cmp (o_eq hr) s_eq (ze_var rfl (pv 0)) (ze_str) (nomark _)) (zss_one (zs_ret (ze_tup (za_cons (ze_bl) (za_cons (ze_callB (call_max3Nu rfl) s_max3 (by rfl) m_max (by decide +kernel) (za_cons (ze_var rfl (pv 2)) (za_cons (ze_un un_neg s_neg (ze_var rfl (pv 3))) (za_cons (ze_int) (za_nil))))) (za_cons (ze_callB (call_max2 rfl) s_max (by rfl) m_max (by decide +kernel) (za_cons (ze_un un_neg s_neg (ze_var rfl (pv 2))) (za_cons (ze_var rfl (pv 3)) (za_nil)))) (za_nil))))))) (zss_nil)) (zss_cons (zs_if (zt_cmp (o_eq hr) s_eq (ze_var rfl (pv 0)) (ze_str) (nomark _)) (zss_one (zs_ret (ze_tup (za_cons (ze_bl) (za_cons (ze_op o_mul s_mul (ze_int) (ze_var rfl (pv 2))) (za_cons (ze_op o_mul s_mul (ze_int) (ze_var rfl (pv 3))) (za_nil))))))) (zss_nil)) (zss_cons (zs_if (zt_cmp (o_in hr) s_in (ze_var rfl (pv 0)) (ze_tup (za_cons (ze_str) (za_cons (ze_str) (za_nil)))) (by rfl)) (zss_one (zs_ret (ze_tup (za_cons (ze_bl) (za_cons (ze_var rfl (pv 2)) (za_cons (ze_var rfl (pv 3)) (za_nil))))))) (zss_nil)) (zss_one (zs_ret (ze_cd hc_ANY)))))))))))⟩
abbrev st_compared_span : Stmt := topS 16
theorem sc_compared_span : FnScope ["name", "first", "second"] ["name", "first", "second"] (defScope st_compared_span) := ⟨rfl, rfl, rfl, by decide +kernel, rfl, by decide +kernel, by decide +kernel⟩
def b_compared_span : SM := zSeq (zIfS 3 (zOrT (zAndT (zTst (zOp neqD (zVar 1) (zC c_ANY))) (zTst (zOp isD (zIx (zVar 1) (zC (.int 1))) (zC .non)))) (zAndT (zTst (zOp neqD (zVar 2) (zC c_ANY))) (zTst (zOp isD (zIx (zVar 2) (zC (.int 1))) (zC .non))))) (zRet (zTup (zCons (zC (.bl true)) (zCons (zC .non) (zCons (zC .non) (zNil)))))) (zNx)) (zSeq (zIfS 3 (zOrT (zTst (zOp eqD (zVar 1) (zC c_ANY))) (zTst (zOp eqD (zVar 2) (zC c_ANY)))) (zRet (zTup (zCons (zC (.bl true)) (zCons (zC (.bl false)) (zCons (zC (.bl true)) (zNil)))))) (zNx)) (zSeq (zIfS 3 (zTst (zOp eqD (zVar 0) (zC (.str [101, 113, 117, 97, 108])))) (zRet (zCall d_truth_span (zCons (zC (.bl true)) (zCons (zAndV (zNotV (zCall d_before (zCons (zIx (zVar 1) (zC (.int 2))) (zCons (zIx (zVar 2) (zC (.int 1))) (zNil))))) (zNotV (zCall d_before (zCons (zIx (zVar 2) (zC (.int 2))) (zCons (zIx (zVar 1) (zC (.int 1))) (zNil)))))) (zCons (zC (.bl true)) (zNil)))))) (zNx)) (zSeq (zIfS 3 (zTst (zOp eqD (zVar 0) (zC (.str [108, 101, 115, 115])))) (zRet (zCall d_truth_span (zCons (zC (.bl true)) (zCons (zCall d_before (zCons (zIx (zVar 1) (zC (.int 1))) (zCons (zIx (zVar 2) (zC (.int 2))) (zNil)))) (zCons (zNotV (zCall d_before (zCons (zIx (zVar 1) (zC (.int 2))) (zCons (zIx (zVar 2) (zC (.int 1))) (zNil))))) (zNil)))))) (zNx)) (zRet (zCall d_truth_span (zCons (zC (.bl true)) (zCons (zNotV (zCall d_before (zCons (zIx (zVar 2) (zC (.int 2))) (zCons (zIx (zVar 1) (zC (.int 1))) (zNil))))) (zCons (zCall d_before (zCons (zIx (zVar 2) (zC (.int 1))) (zCons (zIx (zVar 1) (zC (.int 2))) (zNil)))) (zNil)))))))))
def d_compared_span : List D → Option FR := runP 3 3 b_compared_span
set_option maxHeartbeats 4000000 in
theorem ok_compared_span (h : DefAt K mg "compared_span" st_compared_span) (hc_ANY : ConstD K mg "ANY" c_ANY) (c_truth_span : Cal P w K mg base 1 "truth_span" (spP K d_truth_span)) (c_before : Cal P w K mg base 2 "before" (spP K d_before)) : Cal P w K mg base 3 "compared_span" (spP K d_compared_span) := by
  obtain ⟨a, fd, h1, F⟩ := h
  exact ⟨a, fd, _, h1, F.kp, F.binds (ps := ["name", "first", "second"]) fun _ _ _ _ _ _ us hl => match us, hl with | [_, _, _], _ => rfl, okP F sc_compared_span fun cdv A outer s0 H E hr =>
    zss_cons (zs_if (zt_w (zw_or (zt_w (zw_and (zt_cmp (o_ne hr) s_ne (ze_var rfl (pv 1)) (ze_cd hc_ANY) (nomark _)) (zw_and1 (zt_cmp o_is s_is (ze_ix (ze_var rfl (pv 1)) (ze_int)) (ze_non) (nomark _))))) (zw_or1 (zt_w (zw_and (zt_cmp (o_ne hr) s_ne (ze_var rfl (pv 2)) (ze_cd hc_ANY) (nomark _)) (zw_and1 (zt_cmp o_is s_is (ze_ix (ze_var rfl (pv 2)) (ze_int)) (ze_non) (nomark _)))))))) (zss_one (zs_ret (ze_tup (za_cons (ze_bl) (za_cons (ze_non) (za_cons (ze_non) (za_nil))))))) (zss_nil)) (zss_cons (zs_if (zt_w (zw_or (zt_cmp (o_eq hr) s_eq (ze_var rfl (pv 1)) (ze_cd hc_ANY) (nomark _)) (zw_or1 (zt_cmp (o_eq hr) s_eq (ze_var rfl (pv 2)) (ze_cd hc_ANY) (nomark _))))) (zss_one (zs_ret (ze_tup (za_cons (ze_bl) (za_cons (ze_bl) (za_cons (ze_bl) (za_nil))))))) (zss_nil)) (zss_cons (zs_if (zt_cmp (o_eq hr) s_eq (ze_var rfl (pv 0)) (ze_str) (nomark _)) (zss_one (zs_ret (ze_call (c_truth_span.mono (by decide)) hr (za_cons (ze_bl) (za_cons (ze_and (ze_not (ze_call (c_before.mono (by decide)) hr (za_cons (ze_ix (ze_var rfl (pv 1)) (ze_int)) (za_cons (ze_ix (ze_var rfl (pv 2)) (ze_int)) (za_nil))))) (ze_one (ze_not (ze_call (c_before.mono (by decide)) hr (za_cons (ze_ix (ze_var rfl (pv 2)) (ze_int)) (za_cons (ze_ix (ze_var rfl (pv 1)) (ze_int)) (za_nil))))))) (za_cons (ze_bl) (za_nil))))))) (zss_nil)) (zss_cons (zs_if (zt_cmp (o_eq hr) s_eq (ze_var rfl (pv 0)) (ze_str) (nomark _)) (zss_one (zs_ret (ze_call (c_truth_span.mono (by decide)) hr (za_cons (ze_bl) (za_cons (ze_call (c_before.mono (by decide)) hr (za_cons (ze_ix (ze_var rfl (pv 1)) (ze_int)) (za_cons (ze_ix (ze_var rfl (pv 2)) (ze_int)) (za_nil)))) (za_cons (ze_not (ze_call (c_before.mono (by decide)) hr (za_cons (ze_ix (ze_var rfl (pv 1)) (ze_int)) (za_cons (ze_ix (ze_var rfl (pv 2)) (ze_int)) (za_nil))))) (za_nil))))))) (zss_nil)) (zss_one (zs_ret (ze_call (c_truth_span.mono (by decide)) hr (za_cons (ze_bl) (za_cons (ze_not (ze_call (c_before.mono (by decide)) hr (za_cons (ze_ix (ze_var rfl (pv 2)) (ze_int)) (za_cons (ze_ix (ze_var rfl (pv 1)) (ze_int)) (za_nil))))) (za_cons (ze_call (c_before.mono (by decide)) hr (za_cons (ze_ix (ze_var rfl (pv 2)) (ze_int)) (za_cons (ze_ix (ze_var rfl (pv 1)) (ze_int)) (za_nil)))) (za_nil))))))))))⟩
abbrev st_joined_span : Stmt := topS 17
theorem sc_joined_span : FnScope ["first", "second", "null", "low", "high"] ["first", "second"] (defScope st_joined_span) := ⟨rfl, rfl, rfl, by decide +kernel, rfl, by decide +kernel, by decide +kernel⟩
def b_joined_span : SM := zSeq (zIfS 5 (zOrT (zTst (zOp eqD (zVar 0) (zC c_ANY))) (zTst (zOp eqD (zVar 1) (zC c_ANY)))) (zRet (zC c_ANY)) (zNx)) (zSeq (zSet 5 2 (zOrV (zIx (zVar 0) (zC (.int 0))) (zIx (zVar 1) (zC (.int 0))))) (zSeq (zIfS 5 (zTst (zOp isD (zIx (zVar 0) (zC (.int 1))) (zC .non))) (zRet (zTup (zCons (zVar 2) (zCons (zIx (zVar 1) (zC (.int 1))) (zCons (zIx (zVar 1) (zC (.int 2))) (zNil)))))) (zNx)) (zSeq (zIfS 5 (zTst (zOp isD (zIx (zVar 1) (zC (.int 1))) (zC .non))) (zRet (zTup (zCons (zVar 2) (zCons (zIx (zVar 0) (zC (.int 1))) (zCons (zIx (zVar 0) (zC (.int 2))) (zNil)))))) (zNx)) (zSeq (zSet 5 3 (zIf (zTru (zCall d_before (zCons (zIx (zVar 1) (zC (.int 1))) (zCons (zIx (zVar 0) (zC (.int 1))) (zNil))))) (zIx (zVar 1) (zC (.int 1))) (zIx (zVar 0) (zC (.int 1))))) (zSeq (zSet 5 4 (zIf (zTru (zCall d_before (zCons (zIx (zVar 0) (zC (.int 2))) (zCons (zIx (zVar 1) (zC (.int 2))) (zNil))))) (zIx (zVar 1) (zC (.int 2))) (zIx (zVar 0) (zC (.int 2))))) (zRet (zTup (zCons (zVar 2) (zCons (zVar 3) (zCons (zVar 4) (zNil)))))))))))
def d_joined_span : List D → Option FR := runP 5 2 b_joined_span
set_option maxHeartbeats 4000000 in
theorem ok_joined_span (h : DefAt K mg "joined_span" st_joined_span) (hc_ANY : ConstD K mg "ANY" c_ANY) (c_before : Cal P w K mg base 2 "before" (spP K d_before)) : Cal P w K mg base 3 "joined_span" (spP K d_joined_span) := by
  obtain ⟨a, fd, h1, F⟩ := h
  exact ⟨a, fd, _, h1, F.kp, F.binds (ps := ["first", "second"]) fun _ _ _ _ _ _ us hl => match us, hl with | [_, _], _ => rfl, okP F sc_joined_span fun cdv A outer s0 H E hr =>
    zss_cons (zs_if (zt_w (zw_or (zt_cmp (o_eq hr) s_eq (ze_var rfl (pv 0)) (ze_cd hc_ANY) (nomark _)) (zw_or1 (zt_cmp (o_eq hr) s_eq (ze_var rfl (pv 1)) (ze_cd hc_ANY) (nomark _))))) (zss_one (zs_ret (ze_cd hc_ANY))) (zss_nil)) (zss_cons (zs_set (i := 2) sc_joined_span.nd rfl (Or.inl rfl) (ze_or (ze_ix (ze_var rfl (pv 0)) (ze_int)) (ze_one (ze_ix (ze_var rfl (pv 1)) (ze_int))))) (zss_cons (zs_if (zt_cmp o_is s_is (ze_ix (ze_var rfl (pv 0)) (ze_int)) (ze_non) (nomark _)) (zss_one (zs_ret (ze_tup (za_cons (ze_var rfl (pv 2)) (za_cons (ze_ix (ze_var rfl (pv 1)) (ze_int)) (za_cons (ze_ix (ze_var rfl (pv 1)) (ze_int)) (za_nil))))))) (zss_nil)) (zss_cons (zs_if (zt_cmp o_is s_is (ze_ix (ze_var rfl (pv 1)) (ze_int)) (ze_non) (nomark _)) (zss_one (zs_ret (ze_tup (za_cons (ze_var rfl (pv 2)) (za_cons (ze_ix (ze_var rfl (pv 0)) (ze_int)) (za_cons (ze_ix (ze_var rfl (pv 0)) (ze_int)) (za_nil))))))) (zss_nil)) (zss_cons (zs_set (i := 3) sc_joined_span.nd rfl (Or.inl rfl) (ze_if (zt_truth (ze_call (c_before.mono (by decide)) hr (za_cons (ze_ix (ze_var rfl (pv 1)) (ze_int)) (za_cons (ze_ix (ze_var rfl (pv 0)) (ze_int)) (za_nil))))) (ze_ix (ze_var rfl (pv 1)) (ze_int)) (ze_ix (ze_var rfl (pv 0)) (ze_int)))) (zss_cons (zs_set (i := 4) sc_joined_span.nd rfl (Or.inl rfl) (ze_if (zt_truth (ze_call (c_before.mono (by decide)) hr (za_cons (ze_ix (ze_var rfl (pv 0)) (ze_int)) (za_cons (ze_ix (ze_var rfl (pv 1)) (ze_int)) (za_nil))))) (ze_ix (ze_var rfl (pv 1)) (ze_int)) (ze_ix (ze_var rfl (pv 0)) (ze_int)))) (zss_one (zs_ret (ze_tup (za_cons (ze_var rfl (pv 2)) (za_cons (ze_var rfl (pv 3)) (za_cons (ze_var rfl (pv 4)) (za_nil))))))))))))⟩
abbrev st_binary_span : Stmt := topS 18
theorem sc_binary_span : FnScope ["name", "first", "second", "hold"] ["name", "first", "second"] (defScope st_binary_span) := ⟨rfl, rfl, rfl, by decide +kernel, rfl, by decide +kernel, by decide +kernel⟩
def b_binary_span : SM := zSeq (zIfS 4 (zTst (zOp eqD (zVar 0) (zC (.str [97, 110, 100])))) (zSeq (zSet 4 3 (zAndV (zCall d_can_be (zCons (zVar 1) (zCons (zC (.bl true)) (zNil)))) (zCall d_can_be (zCons (zVar 2) (zCons (zC (.bl true)) (zNil)))))) (zRet (zCall d_truth_span (zCons (zC (.bl true)) (zCons (zVar 3) (zCons (zOrV (zCall d_can_be (zCons (zVar 1) (zCons (zC (.bl false)) (zNil)))) (zCall d_can_be (zCons (zVar 2) (zCons (zC (.bl false)) (zNil))))) (zNil))))))) (zNx)) (zSeq (zIfS 4 (zTst (zOp eqD (zVar 0) (zC (.str [111, 114])))) (zSeq (zSet 4 3 (zOrV (zCall d_can_be (zCons (zVar 1) (zCons (zC (.bl true)) (zNil)))) (zCall d_can_be (zCons (zVar 2) (zCons (zC (.bl true)) (zNil)))))) (zRet (zCall d_truth_span (zCons (zC (.bl true)) (zCons (zVar 3) (zCons (zAndV (zCall d_can_be (zCons (zVar 1) (zCons (zC (.bl false)) (zNil)))) (zCall d_can_be (zCons (zVar 2) (zCons (zC (.bl false)) (zNil))))) (zNil))))))) (zNx)) (zSeq (zIfS 4 (zTst (zOp inD (zVar 0) (zTup (zCons (zC (.str [101, 113, 117, 97, 108])) (zCons (zC (.str [108, 101, 115, 115])) (zCons (zC (.str [97, 116, 32, 109, 111, 115, 116])) (zNil))))))) (zRet (zCall d_compared_span (zCons (zVar 0) (zCons (zVar 1) (zCons (zVar 2) (zNil)))))) (zNx)) (zSeq (zIfS 4 (zTst (zOp eqD (zVar 0) (zC (.str [99, 111, 97, 108, 101, 115, 99, 101])))) (zRet (zCall d_joined_span (zCons (zVar 1) (zCons (zVar 2) (zNil))))) (zNx)) (zSeq (zIfS 4 (zAndT (zTru (zCall d_is_range (zCons (zVar 1) (zNil)))) (zTru (zCall d_is_range (zCons (zVar 2) (zNil))))) (zSeq (zIfS 4 (zTst (zOp inD (zVar 0) (zTup (zCons (zC (.str [97, 100, 100])) (zCons (zC (.str [97, 100, 100, 32, 100, 97, 121, 115])) (zNil)))))) (zRet (zTup (zCons (zC (.bl true)) (zCons (zOp addS (zIx (zVar 1) (zC (.int 1))) (zIx (zVar 2) (zC (.int 1)))) (zCons (zOp addS (zIx (zVar 1) (zC (.int 2))) (zIx (zVar 2) (zC (.int 2)))) (zNil)))))) (zNx)) (zIfS 4 (zTst (zOp eqD (zVar 0) (zC (.str [115, 117, 98, 116, 114, 97, 99, 116])))) (zRet (zTup (zCons (zC (.bl true)) (zCons (zOp subD (zIx (zVar 1) (zC (.int 1))) (zIx (zVar 2) (zC (.int 2)))) (zCons (zOp subD (zIx (zVar 1) (zC (.int 2))) (zIx (zVar 2) (zC (.int 1)))) (zNil)))))) (zNx))) (zNx)) (zRet (zC c_ANY))))))
def d_binary_span : List D → Option FR := runP 4 3 b_binary_span
set_option maxHeartbeats 4000000 in
theorem ok_binary_span (h : DefAt K mg "binary_span" st_binary_span) (hc_ANY : ConstD K mg "ANY" c_ANY) (c_truth_span : Cal P w K mg base 1 "truth_span" (spP K d_truth_span)) (c_compared_span : Cal P w K mg base 3 "compared_span" (spP K d_compared_span)) (c_joined_span : Cal P w K mg base 3 "joined_span" (spP K d_joined_span)) (c_is_range : Cal P w K mg base 2 "is_range" (spP K d_is_range)) (c_can_be : Cal P w K mg base 3 "can_be" (spP K d_can_be)) : Cal P w K mg base 4 "binary_span" (spP K d_binary_span) := by
  obtain ⟨a, fd, h1, F⟩ := h
  exact ⟨a, fd, _, h1, F.kp, F.binds (ps := ["name", "first", "second"]) fun _ _ _ _ _ _ us hl => match us, hl with | [_, _, _], _ => rfl, okP F sc_binary_span fun cdv A outer s0 H E hr =>
    zss_cons (zs_if (zt_cmp (o_eq hr) s_eq (ze_var rfl (pv 0)) (ze_str) (nomark _)) (zss_cons (zs_set (i := 3) sc_binary_span.nd rfl (Or.inl rfl) (ze_and (ze_call (c_can_be.mono (by decide)) hr (za_cons (ze_var rfl (pv 1)) (za_cons (ze_bl) (za_nil)))) (ze_one (ze_call (c_can_be.mono (by decide)) hr (za_cons (ze_var rfl (pv 2)) (za_cons (ze_bl) (za_nil))))))) (zss_one (zs_ret (ze_call (c_truth_span.mono (by decide)) hr (za_cons (ze_bl) (za_cons (ze_var rfl (pv 3)) (za_cons (ze_or (ze_call (c_can_be.mono (by decide)) hr (za_cons (ze_var rfl (pv 1)) (za_cons (ze_bl) (za_nil)))) (ze_one (ze_call (c_can_be.mono (by decide)) hr (za_cons (ze_var rfl (pv 2)) (za_cons (ze_bl) (za_nil)))))) (za_nil)))))))) (zss_nil)) (zss_cons (zs_if (zt_cmp (o_eq hr) s_eq (ze_var rfl (pv 0)) (ze_str) (nomark _)) (zss_cons (zs_set (i := 3) sc_binary_span.nd rfl (Or.inl rfl) (ze_or (ze_call (c_can_be.mono (by decide)) hr (za_cons (ze_var rfl (pv 1)) (za_cons (ze_bl) (za_nil)))) (ze_one (ze_call (c_can_be.mono (by decide)) hr (za_cons (ze_var rfl (pv 2)) (za_cons (ze_bl) (za_nil))))))) (zss_one (zs_ret (ze_call (c_truth_span.mono (by decide)) hr (za_cons (ze_bl) (za_cons (ze_var rfl (pv 3)) (za_cons (ze_and (ze_call (c_can_be.mono (by decide)) hr (za_cons (ze_var rfl (pv 1)) (za_cons (ze_bl) (za_nil)))) (ze_one (ze_call (c_can_be.mono (by decide)) hr (za_cons (ze_var rfl (pv 2)) (za_cons (ze_bl) (za_nil)))))) (za_nil)))))))) (zss_nil)) (zss_cons (zs_if (zt_cmp (o_in hr) s_in (ze_var rfl (pv 0)) (ze_tup (za_cons (ze_str) (za_cons (ze_str) (za_cons (ze_str) (za_nil))))) (by rfl)) (zss_one (zs_ret (ze_call (c_compared_span.mono (by decide)) hr (za_cons (ze_var rfl (pv 0)) (za_cons (ze_var rfl (pv 1)) (za_cons (ze_var rfl (pv 2)) (za_nil))))))) (zss_nil)) (zss_cons (zs_if (zt_cmp (o_eq hr) s_eq (ze_var rfl (pv 0)) (ze_str) (nomark _)) (zss_one (zs_ret (ze_call (c_joined_span.mono (by decide)) hr (za_cons (ze_var rfl (pv 1)) (za_cons (ze_var rfl (pv 2)) (za_nil)))))) (zss_nil)) (zss_cons (zs_if (zt_w (zw_and (zt_truth (ze_call (c_is_range.mono (by decide)) hr (za_cons (ze_var rfl (pv 1)) (za_nil)))) (zw_and1 (zt_truth (ze_call (c_is_range.mono (by decide)) hr (za_cons (ze_var rfl (pv 2)) (za_nil))))))) (zss_cons (zs_if (zt_cmp (o_in hr) s_in (ze_var rfl (pv 0)) (ze_tup (za_cons (ze_str) (za_cons (ze_str) (za_nil)))) (by rfl)) (zss_one (zs_ret (ze_tup (za_cons (ze_bl) (za_cons (ze_op o_add s_add (ze_ix (ze_var rfl (pv 1)) (ze_int)) (ze_ix (ze_var rfl (pv 2)) (ze_int))) (za_cons (ze_op o_add s_add (ze_ix (ze_var rfl (pv 1)) (ze_int)) (ze_ix (ze_var rfl (pv 2)) (ze_int))) (za_nil))))))) (zss_nil)) (zss_one (zs_if (zt_cmp (o_eq hr) s_eq (ze_var rfl (pv 0)) (ze_str) (nomark _)) (zss_one (zs_ret (ze_tup (za_cons (ze_bl) (za_cons (ze_op op_sub s_sub (ze_ix (ze_var rfl (pv 1)) (ze_int)) (ze_ix (ze_var rfl (pv 2)) (ze_int))) (za_cons (ze_op op_sub s_sub (ze_ix (ze_var rfl (pv 1)) (ze_int)) (ze_ix (ze_var rfl (pv 2)) (ze_int))) (za_nil))))))) (zss_nil)))) (zss_nil)) (zss_one (zs_ret (ze_cd hc_ANY)))))))⟩
abbrev st_span_of : Stmt := topS 19
theorem sc_span_of : FnScope ["expression", "zones", "word", "zone"] ["expression", "zones"] (defScope st_span_of) := ⟨rfl, rfl, rfl, by decide +kernel, rfl, by decide +kernel, by decide +kernel⟩
def b_span_of (F : List D → Option FR) : SM := zSeq (zSet 4 2 (zIx (zVar 0) (zC (.int 0)))) (zSeq (zIfS 4 (zTst (zOp eqD (zVar 2) (zC (.str [99, 111, 110, 115, 116, 97, 110, 116])))) (zSeq (zIfS 4 (zTst (zOp isD (zIx (zVar 0) (zC (.int 1))) (zC .non))) (zRet (zTup (zCons (zC (.bl true)) (zCons (zC .non) (zCons (zC .non) (zNil)))))) (zNx)) (zRet (zTup (zCons (zC (.bl false)) (zCons (zIx (zVar 0) (zC (.int 1))) (zCons (zIx (zVar 0) (zC (.int 1))) (zNil))))))) (zNx)) (zSeq (zIfS 4 (zTst (zOp eqD (zVar 2) (zC (.str [99, 111, 108, 117, 109, 110])))) (zSeq (zIfS 4 (zTst (zOp geD (zIx (zVar 0) (zC (.int 1))) (zCallS lenD (zCons (zVar 1) (zNil))))) (zRet (zTup (zCons (zC (.bl true)) (zCons (zC .non) (zCons (zC .non) (zNil)))))) (zNx)) (zSeq (zSet 4 3 (zIx (zVar 1) (zIx (zVar 0) (zC (.int 1))))) (zRet (zTup (zCons (zOp gtD (zFld "Zone" fl_Zone 1 (zVar 3)) (zC (.int 0))) (zCons (zFld "Zone" fl_Zone 2 (zVar 3)) (zCons (zFld "Zone" fl_Zone 3 (zVar 3)) (zNil)))))))) (zNx)) (zSeq (zIfS 4 (zTst (zOp eqD (zVar 2) (zC (.str [117, 110, 97, 114, 121])))) (zRet (zCall d_unary_span (zCons (zIx (zVar 0) (zC (.int 1))) (zCons (zCall F (zCons (zIx (zVar 0) (zC (.int 2))) (zCons (zVar 1) (zNil)))) (zNil))))) (zNx)) (zSeq (zIfS 4 (zTst (zOp eqD (zVar 2) (zC (.str [98, 105, 110, 97, 114, 121])))) (zRet (zCall d_binary_span (zCons (zIx (zVar 0) (zC (.int 1))) (zCons (zCall F (zCons (zIx (zVar 0) (zC (.int 2))) (zCons (zVar 1) (zNil)))) (zCons (zCall F (zCons (zIx (zVar 0) (zC (.int 3))) (zCons (zVar 1) (zNil)))) (zNil)))))) (zNx)) (zSeq (zIfS 4 (zTst (zOp eqD (zVar 2) (zC (.str [99, 104, 111, 105, 99, 101])))) (zRet (zCall d_joined_span (zCons (zCall F (zCons (zIx (zVar 0) (zC (.int 2))) (zCons (zVar 1) (zNil)))) (zCons (zCall F (zCons (zIx (zVar 0) (zC (.int 3))) (zCons (zVar 1) (zNil)))) (zNil))))) (zNx)) (zRet (zC c_ANY)))))))
def d_span_of : Nat → List D → Option FR
  | 0 => fun _ => none
  | q + 1 => runP 4 2 (b_span_of (d_span_of q))
set_option maxHeartbeats 4000000 in
theorem ok_span_of (h : DefAt K mg "span_of" st_span_of) (m_len : mg "len" = none) (hc_ANY : ConstD K mg "ANY" c_ANY) (k_Zone : ClsF K mg "Zone" fl_Zone) (c_unary_span : Cal P w K mg base 4 "unary_span" (spP K d_unary_span)) (c_binary_span : Cal P w K mg base 4 "binary_span" (spP K d_binary_span)) (c_joined_span : Cal P w K mg base 3 "joined_span" (spP K d_joined_span)) : ∀ q : Nat, Cal P w K mg base (5 + q) "span_of" (spP K (d_span_of q)) := by
  obtain ⟨a, fd, h1, F⟩ := h
  intro q
  induction q with
  | zero => exact ⟨a, fd, _, h1, F.kp, F.binds (ps := ["expression", "zones"]) fun _ _ _ _ _ _ us hl => match us, hl with | [_, _], _ => rfl, okN⟩
  | succ q cR =>
    show Cal P w K mg base (5 + q + 1) "span_of" (spP K (runP 4 2 (b_span_of (d_span_of q))))
    exact ⟨a, fd, _, h1, F.kp, F.binds (ps := ["expression", "zones"]) fun _ _ _ _ _ _ us hl => match us, hl with | [_, _], _ => rfl, okP F sc_span_of fun cdv A outer s0 H E hr =>
    zss_cons (zs_set (i := 2) sc_span_of.nd rfl (Or.inl rfl) (ze_ix (ze_var rfl (pv 0)) (ze_int))) (zss_cons (zs_if (zt_cmp (o_eq hr) s_eq (ze_var rfl (pv 2)) (ze_str) (nomark _)) (zss_cons (zs_if (zt_cmp o_is s_is (ze_ix (ze_var rfl (pv 0)) (ze_int)) (ze_non) (nomark _)) (zss_one (zs_ret (ze_tup (za_cons (ze_bl) (za_cons (ze_non) (za_cons (ze_non) (za_nil))))))) (zss_nil)) (zss_one (zs_ret (ze_tup (za_cons (ze_bl) (za_cons (ze_ix (ze_var rfl (pv 0)) (ze_int)) (za_cons (ze_ix (ze_var rfl (pv 0)) (ze_int)) (za_nil)))))))) (zss_nil)) (zss_cons (zs_if (zt_cmp (o_eq hr) s_eq (ze_var rfl (pv 2)) (ze_str) (nomark _)) (zss_cons (zs_if (zt_cmp o_ge s_ge (ze_ix (ze_var rfl (pv 0)) (ze_int)) (ze_callB call_len s_len (by rfl) m_len PySem.boot_len (za_cons (ze_var rfl (pv 1)) (za_nil))) (nomark _)) (zss_one (zs_ret (ze_tup (za_cons (ze_bl) (za_cons (ze_non) (za_cons (ze_non) (za_nil))))))) (zss_nil)) (zss_cons (zs_set (i := 3) sc_span_of.nd rfl (Or.inl rfl) (ze_ix (ze_var rfl (pv 1)) (ze_ix (ze_var rfl (pv 0)) (ze_int)))) (zss_one (zs_ret (ze_tup (za_cons (ze_cmp o_gt s_gt (ze_fldF k_Zone nd_Zone rfl (ze_var rfl (pv 3))) (ze_int) (nomark _)) (za_cons (ze_fldF k_Zone nd_Zone rfl (ze_var rfl (pv 3))) (za_cons (ze_fldF k_Zone nd_Zone rfl (ze_var rfl (pv 3))) (za_nil))))))))) (zss_nil)) (zss_cons (zs_if (zt_cmp (o_eq hr) s_eq (ze_var rfl (pv 2)) (ze_str) (nomark _)) (zss_one (zs_ret (ze_call (c_unary_span.mono (by omega)) hr (za_cons (ze_ix (ze_var rfl (pv 0)) (ze_int)) (za_cons (ze_call cR hr (za_cons (ze_ix (ze_var rfl (pv 0)) (ze_int)) (za_cons (ze_var rfl (pv 1)) (za_nil)))) (za_nil)))))) (zss_nil)) (zss_cons (zs_if (zt_cmp (o_eq hr) s_eq (ze_var rfl (pv 2)) (ze_str) (nomark _)) (zss_one (zs_ret (ze_call (c_binary_span.mono (by omega)) hr (za_cons (ze_ix (ze_var rfl (pv 0)) (ze_int)) (za_cons (ze_call cR hr (za_cons (ze_ix (ze_var rfl (pv 0)) (ze_int)) (za_cons (ze_var rfl (pv 1)) (za_nil)))) (za_cons (ze_call cR hr (za_cons (ze_ix (ze_var rfl (pv 0)) (ze_int)) (za_cons (ze_var rfl (pv 1)) (za_nil)))) (za_nil))))))) (zss_nil)) (zss_cons (zs_if (zt_cmp (o_eq hr) s_eq (ze_var rfl (pv 2)) (ze_str) (nomark _)) (zss_one (zs_ret (ze_call (c_joined_span.mono (by omega)) hr (za_cons (ze_call cR hr (za_cons (ze_ix (ze_var rfl (pv 0)) (ze_int)) (za_cons (ze_var rfl (pv 1)) (za_nil)))) (za_cons (ze_call cR hr (za_cons (ze_ix (ze_var rfl (pv 0)) (ze_int)) (za_cons (ze_var rfl (pv 1)) (za_nil)))) (za_nil)))))) (zss_nil)) (zss_one (zs_ret (ze_cd hc_ANY))))))))⟩
abbrev st_may_hold : Stmt := topS 20
theorem sc_may_hold : FnScope ["condition", "zones"] ["condition", "zones"] (defScope st_may_hold) := ⟨rfl, rfl, rfl, by decide +kernel, rfl, by decide +kernel, by decide +kernel⟩
def b_may_hold : SM := zRet (zCall d_can_be (zCons (zCall (d_span_of 40) (zCons (zVar 0) (zCons (zVar 1) (zNil)))) (zCons (zC (.bl true)) (zNil))))
def d_may_hold : List D → Option FR := runP 2 2 b_may_hold
set_option maxHeartbeats 4000000 in
theorem ok_may_hold (h : DefAt K mg "may_hold" st_may_hold) (c_can_be : Cal P w K mg base 3 "can_be" (spP K d_can_be)) (c_span_of : Cal P w K mg base 45 "span_of" (spP K (d_span_of 40))) : Cal P w K mg base 46 "may_hold" (spP K d_may_hold) := by
  obtain ⟨a, fd, h1, F⟩ := h
  exact ⟨a, fd, _, h1, F.kp, F.binds (ps := ["condition", "zones"]) fun _ _ _ _ _ _ us hl => match us, hl with | [_, _], _ => rfl, okP F sc_may_hold fun cdv A outer s0 H E hr =>
    zss_one (zs_ret (ze_call (c_can_be.mono (by decide)) hr (za_cons (ze_call (c_span_of.mono (by decide)) hr (za_cons (ze_var rfl (pv 0)) (za_cons (ze_var rfl (pv 1)) (za_nil)))) (za_cons (ze_bl) (za_nil)))))⟩
abbrev st__law_condition : Stmt := topS 130
theorem sc__law_condition : FnScope ["_law_state_here", "_law_width", "_law_depth", "_law_kind", "_law_column", "_law_name", "_law_value_here"] ["_law_state_here", "_law_width", "_law_depth"] (defScope st__law_condition) := ⟨rfl, rfl, rfl, by decide +kernel, rfl, by decide +kernel, by decide +kernel⟩
def b__law_condition (F : Cn → List D → Option (FR × Cn)) : SM := zSeq (zSet 7 3 (zCallM 0 d__law_digit (zCons (zVar 0) (zCons (zC (.int 10)) (zNil))))) (zSeq (zIfS 7 (zAndT (zTst (zOp gtD (zVar 2) (zC (.int 0)))) (zTst (zOp ltX (zVar 3) (zC (.int 3))))) (zSeq (zSet 7 5 (zIx (zTup (zCons (zC (.str [97, 110, 100])) (zCons (zC (.str [111, 114])) (zCons (zC (.str [97, 110, 100])) (zNil))))) (zVar 3))) (zRet (zTup (zCons (zC (.str [98, 105, 110, 97, 114, 121])) (zCons (zVar 5) (zCons (zCallM 0 F (zCons (zVar 0) (zCons (zVar 1) (zCons (zOp subD (zVar 2) (zC (.int 1))) (zNil))))) (zCons (zCallM 0 F (zCons (zVar 0) (zCons (zVar 1) (zCons (zOp subD (zVar 2) (zC (.int 1))) (zNil))))) (zNil)))))))) (zNx)) (zSeq (zIfS 7 (zAndT (zTst (zOp gtD (zVar 2) (zC (.int 0)))) (zTst (zOp eqD (zVar 3) (zC (.int 3))))) (zRet (zTup (zCons (zC (.str [117, 110, 97, 114, 121])) (zCons (zC (.str [110, 111, 116])) (zCons (zCallM 0 F (zCons (zVar 0) (zCons (zVar 1) (zCons (zOp subD (zVar 2) (zC (.int 1))) (zNil))))) (zNil)))))) (zNx)) (zSeq (zSet 7 4 (zTup (zCons (zC (.str [99, 111, 108, 117, 109, 110])) (zCons (zCallM 0 d__law_digit (zCons (zVar 0) (zCons (zVar 1) (zNil)))) (zNil))))) (zSeq (zIfS 7 (zTst (zOp eqD (zVar 3) (zC (.int 4)))) (zRet (zTup (zCons (zC (.str [117, 110, 97, 114, 121])) (zCons (zC (.str [105, 115, 32, 110, 117, 108, 108])) (zCons (zVar 4) (zNil)))))) (zNx)) (zSeq (zIfS 7 (zTst (zOp eqD (zVar 3) (zC (.int 5)))) (zRet (zTup (zCons (zC (.str [98, 105, 110, 97, 114, 121])) (zCons (zC (.str [101, 113, 117, 97, 108])) (zCons (zVar 4) (zCons (zTup (zCons (zC (.str [99, 111, 108, 117, 109, 110])) (zCons (zCallM 0 d__law_digit (zCons (zVar 0) (zCons (zVar 1) (zNil)))) (zNil)))) (zNil))))))) (zNx)) (zSeq (zSet 7 5 (zIf (zTst (zOp gtD (zVar 3) (zC (.int 5)))) (zIx (zTup (zCons (zC (.str [101, 113, 117, 97, 108])) (zCons (zC (.str [108, 101, 115, 115])) (zCons (zC (.str [97, 116, 32, 109, 111, 115, 116])) (zCons (zC (.str [108, 101, 115, 115])) (zNil)))))) (zOp subD (zVar 3) (zC (.int 6)))) (zC (.str [101, 113, 117, 97, 108])))) (zSeq (zSet 7 6 (zTup (zCons (zC (.str [99, 111, 110, 115, 116, 97, 110, 116])) (zCons (zCallM 0 d__law_value (zCons (zVar 0) (zNil))) (zNil))))) (zSeq (zIfS 7 (zTst (zOp eqD (zCallM 0 d__law_digit (zCons (zVar 0) (zCons (zC (.int 4)) (zNil)))) (zC (.int 0)))) (zRet (zTup (zCons (zC (.str [98, 105, 110, 97, 114, 121])) (zCons (zVar 5) (zCons (zVar 6) (zCons (zVar 4) (zNil))))))) (zNx)) (zRet (zTup (zCons (zC (.str [98, 105, 110, 97, 114, 121])) (zCons (zVar 5) (zCons (zVar 4) (zCons (zVar 6) (zNil)))))))))))))))
def d__law_condition : Nat → Cn → List D → Option (FR × Cn)
  | 0 => fun _ _ => none
  | q + 1 => runM 7 3 0 (b__law_condition (d__law_condition q))
set_option maxHeartbeats 4000000 in
theorem ok__law_condition (h : DefAt K mg "_law_condition" st__law_condition) (c__law_digit : Cal P w K mg base 1 "_law_digit" (spM K 0 d__law_digit)) (c__law_value : Cal P w K mg base 3 "_law_value" (spM K 0 d__law_value)) : ∀ q : Nat, Cal P w K mg base (4 + q) "_law_condition" (spM K 0 (d__law_condition q)) := by
  obtain ⟨a, fd, h1, F⟩ := h
  intro q
  induction q with
  | zero => exact ⟨a, fd, _, h1, F.kp, F.binds (ps := ["_law_state_here", "_law_width", "_law_depth"]) fun _ _ _ _ _ _ us hl => match us, hl with | [_, _, _], _ => rfl, okNM⟩
  | succ q cR =>
    show Cal P w K mg base (4 + q + 1) "_law_condition" (spM K 0 (runM 7 3 0 (b__law_condition (d__law_condition q))))
    exact ⟨a, fd, _, h1, F.kp, F.binds (ps := ["_law_state_here", "_law_width", "_law_depth"]) fun _ _ _ _ _ _ us hl => match us, hl with | [_, _, _], _ => rfl, okM F sc__law_condition fun cdv A outer s0 H E hr =>
    zss_cons (zs_set (i := 3) sc__law_condition.nd rfl (Or.inl rfl) (ze_callM (c__law_digit.mono (by omega)) hr (za_cons (ze_var rfl (pv 0)) (za_cons (ze_int) (za_nil))))) (zss_cons (zs_if (zt_w (zw_and (zt_cmp o_gt s_gt (ze_var rfl (pv 2)) (ze_int) (nomark _)) (zw_and1 (zt_cmp (o_ltX hr) s_ltX (ze_var rfl (pv 3)) (ze_int) (nomark _))))) (zss_cons (zs_set (i := 5) sc__law_condition.nd rfl (Or.inl rfl) (ze_ix (ze_tup (za_cons (ze_str) (za_cons (ze_str) (za_cons (ze_str) (za_nil))))) (ze_var rfl (pv 3)))) (zss_one (zs_ret (ze_tup (za_cons (ze_str) (za_cons (ze_var rfl (pv 5)) (za_cons (ze_callM cR hr (za_cons (ze_var rfl (pv 0)) (za_cons (ze_var rfl (pv 1)) (za_cons (ze_op op_sub s_sub (ze_var rfl (pv 2)) (ze_int)) (za_nil))))) (za_cons (ze_callM cR hr (za_cons (ze_var rfl (pv 0)) (za_cons (ze_var rfl (pv 1)) (za_cons (ze_op op_sub s_sub (ze_var rfl (pv 2)) (ze_int)) (za_nil))))) (za_nil))))))))) (zss_nil)) (zss_cons (zs_if (zt_w (zw_and (zt_cmp o_gt s_gt (ze_var rfl (pv 2)) (ze_int) (nomark _)) (zw_and1 (zt_cmp (o_eq hr) s_eq (ze_var rfl (pv 3)) (ze_int) (nomark _))))) (zss_one (zs_ret (ze_tup (za_cons (ze_str) (za_cons (ze_str) (za_cons (ze_callM cR hr (za_cons (ze_var rfl (pv 0)) (za_cons (ze_var rfl (pv 1)) (za_cons (ze_op op_sub s_sub (ze_var rfl (pv 2)) (ze_int)) (za_nil))))) (za_nil))))))) (zss_nil)) (zss_cons (zs_set (i := 4) sc__law_condition.nd rfl (Or.inl rfl) (ze_tup (za_cons (ze_str) (za_cons (ze_callM (c__law_digit.mono (by omega)) hr (za_cons (ze_var rfl (pv 0)) (za_cons (ze_var rfl (pv 1)) (za_nil)))) (za_nil))))) (zss_cons (zs_if (zt_cmp (o_eq hr) s_eq (ze_var rfl (pv 3)) (ze_int) (nomark _)) (zss_one (zs_ret (ze_tup (za_cons (ze_str) (za_cons (ze_str) (za_cons (ze_var rfl (pv 4)) (za_nil))))))) (zss_nil)) (zss_cons (zs_if (zt_cmp (o_eq hr) s_eq (ze_var rfl (pv 3)) (ze_int) (nomark _)) (zss_one (zs_ret (ze_tup (za_cons (ze_str) (za_cons (ze_str) (za_cons (ze_var rfl (pv 4)) (za_cons (ze_tup (za_cons (ze_str) (za_cons (ze_callM (c__law_digit.mono (by omega)) hr (za_cons (ze_var rfl (pv 0)) (za_cons (ze_var rfl (pv 1)) (za_nil)))) (za_nil)))) (za_nil)))))))) (zss_nil)) (zss_cons (zs_set (i := 5) sc__law_condition.nd rfl (Or.inl rfl) (ze_if (zt_cmp o_gt s_gt (ze_var rfl (pv 3)) (ze_int) (nomark _)) (ze_ix (ze_tup (za_cons (ze_str) (za_cons (ze_str) (za_cons (ze_str) (za_cons (ze_str) (za_nil)))))) (ze_op op_sub s_sub (ze_var rfl (pv 3)) (ze_int))) (ze_str))) (zss_cons (zs_set (i := 6) sc__law_condition.nd rfl (Or.inl rfl) (ze_tup (za_cons (ze_str) (za_cons (ze_callM (c__law_value.mono (by omega)) hr (za_cons (ze_var rfl (pv 0)) (za_nil))) (za_nil))))) (zss_cons (zs_if (zt_cmp (o_eq hr) s_eq (ze_callM (c__law_digit.mono (by omega)) hr (za_cons (ze_var rfl (pv 0)) (za_cons (ze_int) (za_nil)))) (ze_int) (nomark _)) (zss_one (zs_ret (ze_tup (za_cons (ze_str) (za_cons (ze_var rfl (pv 5)) (za_cons (ze_var rfl (pv 6)) (za_cons (ze_var rfl (pv 4)) (za_nil)))))))) (zss_nil)) (zss_one (zs_ret (ze_tup (za_cons (ze_str) (za_cons (ze_var rfl (pv 5)) (za_cons (ze_var rfl (pv 4)) (za_cons (ze_var rfl (pv 6)) (za_nil))))))))))))))))⟩
abbrev st__law_rank : Stmt := topS 125
theorem sc__law_rank : FnScope ["_law_value_here"] ["_law_value_here"] (defScope st__law_rank) := ⟨rfl, rfl, rfl, by decide +kernel, rfl, by decide +kernel, by decide +kernel⟩
def b__law_rank : SM := zSeq (zIfS 1 (zTst (zOp isD (zVar 0) (zC .non))) (zRet (zTup (zCons (zC (.int 0)) (zCons (zC (.int 0)) (zNil))))) (zNx)) (zSeq (zIfS 1 (zTru (zCallS isiD (zCons (zVar 0) (zCons (zC (.raw (.ty "bool"))) (zNil))))) (zRet (zTup (zCons (zC (.int 1)) (zCons (zCallS intU (zCons (zVar 0) (zNil))) (zNil))))) (zNx)) (zSeq (zIfS 1 (zTru (zCallS isiD (zCons (zVar 0) (zCons (zC (.raw (.ty "int"))) (zNil))))) (zRet (zTup (zCons (zC (.int 2)) (zCons (zVar 0) (zNil))))) (zNx)) (zRet (zTup (zCons (zC (.int 3)) (zCons (zVar 0) (zNil)))))))
def d__law_rank : List D → Option FR := runP 1 1 b__law_rank
set_option maxHeartbeats 4000000 in
theorem ok__law_rank (h : DefAt K mg "_law_rank" st__law_rank) (m_bool : mg "bool" = none) (m_int : mg "int" = none) (m_isinstance : mg "isinstance" = none) : Cal P w K mg base 1 "_law_rank" (spP K d__law_rank) := by
  obtain ⟨a, fd, h1, F⟩ := h
  exact ⟨a, fd, _, h1, F.kp, F.binds (ps := ["_law_value_here"]) fun _ _ _ _ _ _ us hl => match us, hl with | [_], _ => rfl, okP F sc__law_rank fun cdv A outer s0 H E hr =>
    zss_cons (zs_if (zt_cmp o_is s_is (ze_var rfl (pv 0)) (ze_non) (nomark _)) (zss_one (zs_ret (ze_tup (za_cons (ze_int) (za_cons (ze_int) (za_nil)))))) (zss_nil)) (zss_cons (zs_if (zt_truth (ze_callB call_isiU s_isi (by rfl) m_isinstance (by decide +kernel) (za_cons (ze_var rfl (pv 0)) (za_cons (ze_bltn (by rfl) m_bool (by decide +kernel) rfl) (za_nil))))) (zss_one (zs_ret (ze_tup (za_cons (ze_int) (za_cons (ze_callTy call_intU s_intU (by rfl) m_int (by decide +kernel) (za_cons (ze_var rfl (pv 0)) (za_nil))) (za_nil)))))) (zss_nil)) (zss_cons (zs_if (zt_truth (ze_callB call_isiU s_isi (by rfl) m_isinstance (by decide +kernel) (za_cons (ze_var rfl (pv 0)) (za_cons (ze_bltn (by rfl) m_int (by decide +kernel) rfl) (za_nil))))) (zss_one (zs_ret (ze_tup (za_cons (ze_int) (za_cons (ze_var rfl (pv 0)) (za_nil)))))) (zss_nil)) (zss_one (zs_ret (ze_tup (za_cons (ze_int) (za_cons (ze_var rfl (pv 0)) (za_nil))))))))⟩
abbrev st__law_inside : Stmt := topS 131
theorem sc__law_inside : FnScope ["_law_value_here", "_law_span"] ["_law_value_here", "_law_span"] (defScope st__law_inside) := ⟨rfl, rfl, rfl, by decide +kernel, rfl, by decide +kernel, by decide +kernel⟩
def b__law_inside : SM := zSeq (zIfS 2 (zTst (zOp eqD (zVar 1) (zC (.str [97, 110, 121])))) (zRet (zC (.bl true))) (zNx)) (zSeq (zIfS 2 (zTst (zOp isD (zVar 0) (zC .non))) (zRet (zOp isD (zIx (zVar 1) (zC (.int 0))) (zC (.bl true)))) (zNx)) (zSeq (zIfS 2 (zTst (zOp isD (zIx (zVar 1) (zC (.int 1))) (zC .non))) (zRet (zC (.bl false))) (zNx)) (zRet (zChain leX leX (zCall d__law_rank (zCons (zIx (zVar 1) (zC (.int 1))) (zNil))) (zCall d__law_rank (zCons (zVar 0) (zNil))) (zCall d__law_rank (zCons (zIx (zVar 1) (zC (.int 2))) (zNil)))))))
def d__law_inside : List D → Option FR := runP 2 2 b__law_inside
set_option maxHeartbeats 4000000 in
theorem ok__law_inside (h : DefAt K mg "_law_inside" st__law_inside) (c__law_rank : Cal P w K mg base 1 "_law_rank" (spP K d__law_rank)) : Cal P w K mg base 2 "_law_inside" (spP K d__law_inside) := by
  obtain ⟨a, fd, h1, F⟩ := h
  exact ⟨a, fd, _, h1, F.kp, F.binds (ps := ["_law_value_here", "_law_span"]) fun _ _ _ _ _ _ us hl => match us, hl with | [_, _], _ => rfl, okP F sc__law_inside fun cdv A outer s0 H E hr =>
    zss_cons (zs_if (zt_cmp (o_eq hr) s_eq (ze_var rfl (pv 1)) (ze_str) (nomark _)) (zss_one (zs_ret (ze_bl))) (zss_nil)) (zss_cons (zs_if (zt_cmp o_is s_is (ze_var rfl (pv 0)) (ze_non) (nomark _)) (zss_one (zs_ret (ze_cmp o_is s_is (ze_ix (ze_var rfl (pv 1)) (ze_int)) (ze_bl) (nomark _)))) (zss_nil)) (zss_cons (zs_if (zt_cmp o_is s_is (ze_ix (ze_var rfl (pv 1)) (ze_int)) (ze_non) (nomark _)) (zss_one (zs_ret (ze_bl))) (zss_nil)) (zss_one (zs_ret (ze_chain (o_leX hr) s_leX (o_leX hr) s_leX (ze_call (c__law_rank.mono (by decide)) hr (za_cons (ze_ix (ze_var rfl (pv 1)) (ze_int)) (za_nil))) (ze_call (c__law_rank.mono (by decide)) hr (za_cons (ze_var rfl (pv 0)) (za_nil))) (ze_call (c__law_rank.mono (by decide)) hr (za_cons (ze_ix (ze_var rfl (pv 1)) (ze_int)) (za_nil))))))))⟩
def tab_TERNARY_DEEDS : Tab := []
abbrev st_ternary : Stmt := topS 116
theorem sc_ternary : FnScope ["name", "first", "second", "third", "action"] ["name", "first", "second", "third"] (defScope st_ternary) := ⟨rfl, rfl, rfl, by decide +kernel, rfl, by decide +kernel, by decide +kernel⟩
def b_ternary : SM := zDeed 4 tab_TERNARY_DEEDS (zVar 0) (zCons (zVar 1) (zCons (zVar 2) (zCons (zVar 3) (zNil))))
def d_ternary : List D → Option FR := runP 5 4 b_ternary
set_option maxHeartbeats 4000000 in
theorem ok_ternary (h : DefAt K mg "ternary" st_ternary) (t_TERNARY_DEEDS : TabOk P w K mg base 0 "TERNARY_DEEDS" tab_TERNARY_DEEDS) : Cal P w K mg base 1 "ternary" (spP K d_ternary) := by
  obtain ⟨a, fd, h1, F⟩ := h
  exact ⟨a, fd, _, h1, F.kp, F.binds (ps := ["name", "first", "second", "third"]) fun _ _ _ _ _ _ us hl => match us, hl with | [_, _, _, _], _ => rfl, okP F sc_ternary fun cdv A outer s0 H E hr =>
    zss_deed (i := 4) t_TERNARY_DEEDS hr sc_ternary.nd rfl (Or.inl rfl) (Or.inl rfl) (ze_var rfl (pv 0)) (za_cons (ze_var rfl (pv 1)) (za_cons (ze_var rfl (pv 2)) (za_cons (ze_var rfl (pv 3)) (za_nil))))⟩
abbrev st_negated : Stmt := topS 47
theorem sc_negated : FnScope ["value"] ["value"] (defScope st_negated) := ⟨rfl, rfl, rfl, by decide +kernel, rfl, by decide +kernel, by decide +kernel⟩
def b_negated : SM := zSeq (zIfS 1 (zTst (zOp isD (zVar 0) (zC (.bl true)))) (zRet (zC (.bl false))) (zNx)) (zSeq (zIfS 1 (zTst (zOp isD (zVar 0) (zC (.bl false)))) (zRet (zC (.bl true))) (zNx)) (zRet (zC .non)))
def d_negated : List D → Option FR := runP 1 1 b_negated
set_option maxHeartbeats 4000000 in
theorem ok_negated (h : DefAt K mg "negated" st_negated) : Cal P w K mg base 1 "negated" (spP K d_negated) := by
  obtain ⟨a, fd, h1, F⟩ := h
  exact ⟨a, fd, _, h1, F.kp, F.binds (ps := ["value"]) fun _ _ _ _ _ _ us hl => match us, hl with | [_], _ => rfl, okP F sc_negated fun cdv A outer s0 H E hr =>
    zss_cons (zs_if (zt_cmp o_is s_is (ze_var rfl (pv 0)) (ze_bl) (nomark _)) (zss_one (zs_ret (ze_bl))) (zss_nil)) (zss_cons (zs_if (zt_cmp o_is s_is (ze_var rfl (pv 0)) (ze_bl) (nomark _)) (zss_one (zs_ret (ze_bl))) (zss_nil)) (zss_one (zs_ret (ze_non))))⟩
abbrev st_negate : Stmt := topS 61
theorem sc_negate : FnScope ["value"] ["value"] (defScope st_negate) := ⟨rfl, rfl, rfl, by decide +kernel, rfl, by decide +kernel, by decide +kernel⟩
def b_negate : SM := zRet (zIf (zTru (zCall d_is_integer (zCons (zVar 0) (zNil)))) (zUn negD (zVar 0)) (zC .non))
def d_negate : List D → Option FR := runP 1 1 b_negate
set_option maxHeartbeats 4000000 in
theorem ok_negate (h : DefAt K mg "negate" st_negate) (c_is_integer : Cal P w K mg base 1 "is_integer" (spP K d_is_integer)) : Cal P w K mg base 2 "negate" (spP K d_negate) := by
  obtain ⟨a, fd, h1, F⟩ := h
  exact ⟨a, fd, _, h1, F.kp, F.binds (ps := ["value"]) fun _ _ _ _ _ _ us hl => match us, hl with | [_], _ => rfl, okP F sc_negate fun cdv A outer s0 H E hr =>
    zss_one (zs_ret (ze_if (zt_truth (ze_call (c_is_integer.mono (by decide)) hr (za_cons (ze_var rfl (pv 0)) (za_nil)))) (ze_un un_neg s_neg (ze_var rfl (pv 0))) (ze_non)))⟩
abbrev st_without_sign : Stmt := topS 62
theorem sc_without_sign : FnScope ["value"] ["value"] (defScope st_without_sign) := ⟨rfl, rfl, rfl, by decide +kernel, rfl, by decide +kernel, by decide +kernel⟩
def b_without_sign : SM := zRet (zIf (zTru (zCall d_is_integer (zCons (zVar 0) (zNil)))) (zCallS absD (zCons (zVar 0) (zNil))) (zC .non))
def d_without_sign : List D → Option FR := runP 1 1 b_without_sign
set_option maxHeartbeats 4000000 in
theorem ok_without_sign (h : DefAt K mg "without_sign" st_without_sign) (m_abs : mg "abs" = none) (c_is_integer : Cal P w K mg base 1 "is_integer" (spP K d_is_integer)) : Cal P w K mg base 2 "without_sign" (spP K d_without_sign) := by
  obtain ⟨a, fd, h1, F⟩ := h
  exact ⟨a, fd, _, h1, F.kp, F.binds (ps := ["value"]) fun _ _ _ _ _ _ us hl => match us, hl with | [_], _ => rfl, okP F sc_without_sign fun cdv A outer s0 H E hr =>
    zss_one (zs_ret (ze_if (zt_truth (ze_call (c_is_integer.mono (by decide)) hr (za_cons (ze_var rfl (pv 0)) (za_nil)))) (ze_callB call_abs s_abs (by rfl) m_abs (by decide +kernel) (za_cons (ze_var rfl (pv 0)) (za_nil))) (ze_non)))⟩
abbrev st_is_null : Stmt := topS 103
theorem sc_is_null : FnScope ["value"] ["value"] (defScope st_is_null) := ⟨rfl, rfl, rfl, by decide +kernel, rfl, by decide +kernel, by decide +kernel⟩
def b_is_null : SM := zRet (zOp isD (zVar 0) (zC .non))
def d_is_null : List D → Option FR := runP 1 1 b_is_null
set_option maxHeartbeats 4000000 in
theorem ok_is_null (h : DefAt K mg "is_null" st_is_null) : Cal P w K mg base 1 "is_null" (spP K d_is_null) := by
  obtain ⟨a, fd, h1, F⟩ := h
  exact ⟨a, fd, _, h1, F.kp, F.binds (ps := ["value"]) fun _ _ _ _ _ _ us hl => match us, hl with | [_], _ => rfl, okP F sc_is_null fun cdv A outer s0 H E hr =>
    zss_one (zs_ret (ze_cmp o_is s_is (ze_var rfl (pv 0)) (ze_non) (nomark _)))⟩
abbrev st_length : Stmt := topS 92
theorem sc_length : FnScope ["value"] ["value"] (defScope st_length) := ⟨rfl, rfl, rfl, by decide +kernel, rfl, by decide +kernel, by decide +kernel⟩
def b_length : SM := zRet (zIf (zTru (zCallS isiD (zCons (zVar 0) (zCons (zC (.raw (.ty "str"))) (zNil))))) (zCallS lenD (zCons (zVar 0) (zNil))) (zC .non))
def d_length : List D → Option FR := runP 1 1 b_length
set_option maxHeartbeats 4000000 in
theorem ok_length (h : DefAt K mg "length" st_length) (m_isinstance : mg "isinstance" = none) (m_len : mg "len" = none) (m_str : mg "str" = none) : Cal P w K mg base 1 "length" (spP K d_length) := by
  obtain ⟨a, fd, h1, F⟩ := h
  exact ⟨a, fd, _, h1, F.kp, F.binds (ps := ["value"]) fun _ _ _ _ _ _ us hl => match us, hl with | [_], _ => rfl, okP F sc_length fun cdv A outer s0 H E hr =>
    zss_one (zs_ret (ze_if (zt_truth (ze_callB call_isiU s_isi (by rfl) m_isinstance (by decide +kernel) (za_cons (ze_var rfl (pv 0)) (za_cons (ze_bltn (by rfl) m_str (by decide +kernel) rfl) (za_nil))))) (ze_callB call_len s_len (by rfl) m_len PySem.boot_len (za_cons (ze_var rfl (pv 0)) (za_nil))) (ze_non)))⟩
abbrev st_is_day : Stmt := topS 25
theorem sc_is_day : FnScope ["value"] ["value"] (defScope st_is_day) := ⟨rfl, rfl, rfl, by decide +kernel, rfl, by decide +kernel, by decide +kernel⟩
def b_is_day : SM := zRet (zAndV (zCall d_is_integer (zCons (zVar 0) (zNil))) (zChain leD leD (zC c_FIRST_DAY) (zVar 0) (zC c_LAST_DAY)))
def d_is_day : List D → Option FR := runP 1 1 b_is_day
set_option maxHeartbeats 4000000 in
theorem ok_is_day (h : DefAt K mg "is_day" st_is_day) (hc_FIRST_DAY : ConstD K mg "FIRST_DAY" c_FIRST_DAY) (hc_LAST_DAY : ConstD K mg "LAST_DAY" c_LAST_DAY) (c_is_integer : Cal P w K mg base 1 "is_integer" (spP K d_is_integer)) : Cal P w K mg base 2 "is_day" (spP K d_is_day) := by
  obtain ⟨a, fd, h1, F⟩ := h
  exact ⟨a, fd, _, h1, F.kp, F.binds (ps := ["value"]) fun _ _ _ _ _ _ us hl => match us, hl with | [_], _ => rfl, okP F sc_is_day fun cdv A outer s0 H E hr =>
    zss_one (zs_ret (ze_and (ze_call (c_is_integer.mono (by decide)) hr (za_cons (ze_var rfl (pv 0)) (za_nil))) (ze_one (ze_chain o_le s_le o_le s_le (ze_cd hc_FIRST_DAY) (ze_var rfl (pv 0)) (ze_cd hc_LAST_DAY)))))⟩
abbrev st_as_date : Stmt := topS 34
theorem sc_as_date : FnScope ["value"] ["value"] (defScope st_as_date) := ⟨rfl, rfl, rfl, by decide +kernel, rfl, by decide +kernel, by decide +kernel⟩
def b_as_date : SM := zRet (zIf (zTru (zCall d_is_day (zCons (zVar 0) (zNil)))) (zVar 0) (zC .non))
def d_as_date : List D → Option FR := runP 1 1 b_as_date
set_option maxHeartbeats 4000000 in
theorem ok_as_date (h : DefAt K mg "as_date" st_as_date) (c_is_day : Cal P w K mg base 2 "is_day" (spP K d_is_day)) : Cal P w K mg base 3 "as_date" (spP K d_as_date) := by
  obtain ⟨a, fd, h1, F⟩ := h
  exact ⟨a, fd, _, h1, F.kp, F.binds (ps := ["value"]) fun _ _ _ _ _ _ us hl => match us, hl with | [_], _ => rfl, okP F sc_as_date fun cdv A outer s0 H E hr =>
    zss_one (zs_ret (ze_if (zt_truth (ze_call (c_is_day.mono (by decide)) hr (za_cons (ze_var rfl (pv 0)) (za_nil)))) (ze_var rfl (pv 0)) (ze_non)))⟩
abbrev st_as_decimal : Stmt := topS 64
theorem sc_as_decimal : FnScope ["value"] ["value"] (defScope st_as_decimal) := ⟨rfl, rfl, rfl, by decide +kernel, rfl, by decide +kernel, by decide +kernel⟩
def b_as_decimal : SM := zRet (zIf (zTru (zCall d_is_integer (zCons (zVar 0) (zNil)))) (zVar 0) (zC .non))
def d_as_decimal : List D → Option FR := runP 1 1 b_as_decimal
set_option maxHeartbeats 4000000 in
theorem ok_as_decimal (h : DefAt K mg "as_decimal" st_as_decimal) (c_is_integer : Cal P w K mg base 1 "is_integer" (spP K d_is_integer)) : Cal P w K mg base 2 "as_decimal" (spP K d_as_decimal) := by
  obtain ⟨a, fd, h1, F⟩ := h
  exact ⟨a, fd, _, h1, F.kp, F.binds (ps := ["value"]) fun _ _ _ _ _ _ us hl => match us, hl with | [_], _ => rfl, okP F sc_as_decimal fun cdv A outer s0 H E hr =>
    zss_one (zs_ret (ze_if (zt_truth (ze_call (c_is_integer.mono (by decide)) hr (za_cons (ze_var rfl (pv 0)) (za_nil)))) (ze_var rfl (pv 0)) (ze_non)))⟩
abbrev st_limited : Stmt := topS 53
theorem sc_limited : FnScope ["number"] ["number"] (defScope st_limited) := ⟨rfl, rfl, rfl, by decide +kernel, rfl, by decide +kernel, by decide +kernel⟩
def b_limited : SM := zSeq (zIfS 1 (zTst (zChain leD leD (zUn negD (zC c_GREATEST)) (zVar 0) (zC c_GREATEST))) (zRet (zVar 0)) (zNx)) (zRet (zC .non))
def d_limited : List D → Option FR := runP 1 1 b_limited
set_option maxHeartbeats 4000000 in
theorem ok_limited (h : DefAt K mg "limited" st_limited) (hc_GREATEST : ConstD K mg "GREATEST" c_GREATEST) : Cal P w K mg base 1 "limited" (spP K d_limited) := by
  obtain ⟨a, fd, h1, F⟩ := h
  exact ⟨a, fd, _, h1, F.kp, F.binds (ps := ["number"]) fun _ _ _ _ _ _ us hl => match us, hl with | [_], _ => rfl, okP F sc_limited fun cdv A outer s0 H E hr =>
    zss_cons (zs_if (zt_chain o_le s_le o_le s_le (ze_un un_neg s_neg (ze_cd hc_GREATEST)) (ze_var rfl (pv 0)) (ze_cd hc_GREATEST)) (zss_one (zs_ret (ze_var rfl (pv 0)))) (zss_nil)) (zss_one (zs_ret (ze_non)))⟩
abbrev st_to_decimal : Stmt := topS 65
theorem sc_to_decimal : FnScope ["value"] ["value"] (defScope st_to_decimal) := ⟨rfl, rfl, rfl, by decide +kernel, rfl, by decide +kernel, by decide +kernel⟩
def b_to_decimal : SM := zRet (zIf (zTru (zCall d_is_integer (zCons (zVar 0) (zNil)))) (zCall d_limited (zCons (zOp mulD (zC c_ONE) (zVar 0)) (zNil))) (zC .non))
def d_to_decimal : List D → Option FR := runP 1 1 b_to_decimal
set_option maxHeartbeats 4000000 in
theorem ok_to_decimal (h : DefAt K mg "to_decimal" st_to_decimal) (hc_ONE : ConstD K mg "ONE" c_ONE) (c_is_integer : Cal P w K mg base 1 "is_integer" (spP K d_is_integer)) (c_limited : Cal P w K mg base 1 "limited" (spP K d_limited)) : Cal P w K mg base 2 "to_decimal" (spP K d_to_decimal) := by
  obtain ⟨a, fd, h1, F⟩ := h
  exact ⟨a, fd, _, h1, F.kp, F.binds (ps := ["value"]) fun _ _ _ _ _ _ us hl => match us, hl with | [_], _ => rfl, okP F sc_to_decimal fun cdv A outer s0 H E hr =>
    zss_one (zs_ret (ze_if (zt_truth (ze_call (c_is_integer.mono (by decide)) hr (za_cons (ze_var rfl (pv 0)) (za_nil)))) (ze_call (c_limited.mono (by decide)) hr (za_cons (ze_op o_mul s_mul (ze_cd hc_ONE) (ze_var rfl (pv 0))) (za_nil))) (ze_non)))⟩
def tab_UNARY_DEEDS : Tab := [([110, 111, 116], d_negated), ([110, 101, 103, 97, 116, 101], d_negate), ([97, 98, 115], d_without_sign), ([105, 115, 32, 110, 117, 108, 108], d_is_null), ([108, 101, 110, 103, 116, 104], d_length), ([97, 115, 32, 100, 97, 116, 101], d_as_date), ([97, 115, 32, 100, 101, 99, 105, 109, 97, 108], d_as_decimal), ([116, 111, 32, 100, 101, 99, 105, 109, 97, 108], d_to_decimal)]
abbrev st_unary : Stmt := topS 114
theorem sc_unary : FnScope ["name", "value", "action"] ["name", "value"] (defScope st_unary) := ⟨rfl, rfl, rfl, by decide +kernel, rfl, by decide +kernel, by decide +kernel⟩
def b_unary : SM := zDeed 2 tab_UNARY_DEEDS (zVar 0) (zCons (zVar 1) (zNil))
def d_unary : List D → Option FR := runP 3 2 b_unary
set_option maxHeartbeats 4000000 in
theorem ok_unary (h : DefAt K mg "unary" st_unary) (t_UNARY_DEEDS : TabOk P w K mg base 3 "UNARY_DEEDS" tab_UNARY_DEEDS) : Cal P w K mg base 4 "unary" (spP K d_unary) := by
  obtain ⟨a, fd, h1, F⟩ := h
  exact ⟨a, fd, _, h1, F.kp, F.binds (ps := ["name", "value"]) fun _ _ _ _ _ _ us hl => match us, hl with | [_, _], _ => rfl, okP F sc_unary fun cdv A outer s0 H E hr =>
    zss_deed (i := 2) t_UNARY_DEEDS hr sc_unary.nd rfl (Or.inl rfl) (Or.inl rfl) (ze_var rfl (pv 0)) (za_cons (ze_var rfl (pv 1)) (za_nil))⟩
abbrev st_both : Stmt := topS 48
theorem sc_both : FnScope ["first", "second"] ["first", "second"] (defScope st_both) := ⟨rfl, rfl, rfl, by decide +kernel, rfl, by decide +kernel, by decide +kernel⟩
def b_both : SM := zSeq (zIfS 2 (zOrT (zTst (zOp isD (zVar 0) (zC (.bl false)))) (zTst (zOp isD (zVar 1) (zC (.bl false))))) (zRet (zC (.bl false))) (zNx)) (zSeq (zIfS 2 (zAndT (zTst (zOp isD (zVar 0) (zC (.bl true)))) (zTst (zOp isD (zVar 1) (zC (.bl true))))) (zRet (zC (.bl true))) (zNx)) (zRet (zC .non)))
def d_both : List D → Option FR := runP 2 2 b_both
set_option maxHeartbeats 4000000 in
theorem ok_both (h : DefAt K mg "both" st_both) : Cal P w K mg base 1 "both" (spP K d_both) := by
  obtain ⟨a, fd, h1, F⟩ := h
  exact ⟨a, fd, _, h1, F.kp, F.binds (ps := ["first", "second"]) fun _ _ _ _ _ _ us hl => match us, hl with | [_, _], _ => rfl, okP F sc_both fun cdv A outer s0 H E hr =>
    zss_cons (zs_if (zt_w (zw_or (zt_cmp o_is s_is (ze_var rfl (pv 0)) (ze_bl) (nomark _)) (zw_or1 (zt_cmp o_is s_is (ze_var rfl (pv 1)) (ze_bl) (nomark _))))) (zss_one (zs_ret (ze_bl))) (zss_nil)) (zss_cons (zs_if (zt_w (zw_and (zt_cmp o_is s_is (ze_var rfl (pv 0)) (ze_bl) (nomark _)) (zw_and1 (zt_cmp o_is s_is (ze_var rfl (pv 1)) (ze_bl) (nomark _))))) (zss_one (zs_ret (ze_bl))) (zss_nil)) (zss_one (zs_ret (ze_non))))⟩
abbrev st_either : Stmt := topS 49
theorem sc_either : FnScope ["first", "second"] ["first", "second"] (defScope st_either) := ⟨rfl, rfl, rfl, by decide +kernel, rfl, by decide +kernel, by decide +kernel⟩
def b_either : SM := zSeq (zIfS 2 (zOrT (zTst (zOp isD (zVar 0) (zC (.bl true)))) (zTst (zOp isD (zVar 1) (zC (.bl true))))) (zRet (zC (.bl true))) (zNx)) (zSeq (zIfS 2 (zAndT (zTst (zOp isD (zVar 0) (zC (.bl false)))) (zTst (zOp isD (zVar 1) (zC (.bl false))))) (zRet (zC (.bl false))) (zNx)) (zRet (zC .non)))
def d_either : List D → Option FR := runP 2 2 b_either
set_option maxHeartbeats 4000000 in
theorem ok_either (h : DefAt K mg "either" st_either) : Cal P w K mg base 1 "either" (spP K d_either) := by
  obtain ⟨a, fd, h1, F⟩ := h
  exact ⟨a, fd, _, h1, F.kp, F.binds (ps := ["first", "second"]) fun _ _ _ _ _ _ us hl => match us, hl with | [_, _], _ => rfl, okP F sc_either fun cdv A outer s0 H E hr =>
    zss_cons (zs_if (zt_w (zw_or (zt_cmp o_is s_is (ze_var rfl (pv 0)) (ze_bl) (nomark _)) (zw_or1 (zt_cmp o_is s_is (ze_var rfl (pv 1)) (ze_bl) (nomark _))))) (zss_one (zs_ret (ze_bl))) (zss_nil)) (zss_cons (zs_if (zt_w (zw_and (zt_cmp o_is s_is (ze_var rfl (pv 0)) (ze_bl) (nomark _)) (zw_and1 (zt_cmp o_is s_is (ze_var rfl (pv 1)) (ze_bl) (nomark _))))) (zss_one (zs_ret (ze_bl))) (zss_nil)) (zss_one (zs_ret (ze_non))))⟩
abbrev st_kind_rank : Stmt := topS 2
theorem sc_kind_rank : FnScope ["value"] ["value"] (defScope st_kind_rank) := ⟨rfl, rfl, rfl, by decide +kernel, rfl, by decide +kernel, by decide +kernel⟩
def b_kind_rank : SM := zSeq (zIfS 1 (zTst (zOp isD (zVar 0) (zC .non))) (zRet (zC (.int 0))) (zNx)) (zSeq (zIfS 1 (zTru (zCallS isiD (zCons (zVar 0) (zCons (zC (.raw (.ty "bool"))) (zNil))))) (zRet (zC (.int 1))) (zNx)) (zSeq (zIfS 1 (zTru (zCallS isiD (zCons (zVar 0) (zCons (zC (.raw (.ty "int"))) (zNil))))) (zRet (zC (.int 2))) (zNx)) (zRet (zC (.int 3)))))
def d_kind_rank : List D → Option FR := runP 1 1 b_kind_rank
set_option maxHeartbeats 4000000 in
theorem ok_kind_rank (h : DefAt K mg "kind_rank" st_kind_rank) (m_bool : mg "bool" = none) (m_int : mg "int" = none) (m_isinstance : mg "isinstance" = none) : Cal P w K mg base 1 "kind_rank" (spP K d_kind_rank) := by
  obtain ⟨a, fd, h1, F⟩ := h
  exact ⟨a, fd, _, h1, F.kp, F.binds (ps := ["value"]) fun _ _ _ _ _ _ us hl => match us, hl with | [_], _ => rfl, okP F sc_kind_rank fun cdv A outer s0 H E hr =>
    zss_cons (zs_if (zt_cmp o_is s_is (ze_var rfl (pv 0)) (ze_non) (nomark _)) (zss_one (zs_ret (ze_int))) (zss_nil)) (zss_cons (zs_if (zt_truth (ze_callB call_isiU s_isi (by rfl) m_isinstance (by decide +kernel) (za_cons (ze_var rfl (pv 0)) (za_cons (ze_bltn (by rfl) m_bool (by decide +kernel) rfl) (za_nil))))) (zss_one (zs_ret (ze_int))) (zss_nil)) (zss_cons (zs_if (zt_truth (ze_callB call_isiU s_isi (by rfl) m_isinstance (by decide +kernel) (za_cons (ze_var rfl (pv 0)) (za_cons (ze_bltn (by rfl) m_int (by decide +kernel) rfl) (za_nil))))) (zss_one (zs_ret (ze_int))) (zss_nil)) (zss_one (zs_ret (ze_int)))))⟩
abbrev st_comparable : Stmt := topS 104
theorem sc_comparable : FnScope ["first", "second"] ["first", "second"] (defScope st_comparable) := ⟨rfl, rfl, rfl, by decide +kernel, rfl, by decide +kernel, by decide +kernel⟩
def b_comparable : SM := zRet (zAndV (zOp eqD (zCall d_kind_rank (zCons (zVar 0) (zNil))) (zCall d_kind_rank (zCons (zVar 1) (zNil)))) (zOp isntD (zVar 0) (zC .non)))
def d_comparable : List D → Option FR := runP 2 2 b_comparable
set_option maxHeartbeats 4000000 in
theorem ok_comparable (h : DefAt K mg "comparable" st_comparable) (c_kind_rank : Cal P w K mg base 1 "kind_rank" (spP K d_kind_rank)) : Cal P w K mg base 2 "comparable" (spP K d_comparable) := by
  obtain ⟨a, fd, h1, F⟩ := h
  exact ⟨a, fd, _, h1, F.kp, F.binds (ps := ["first", "second"]) fun _ _ _ _ _ _ us hl => match us, hl with | [_, _], _ => rfl, okP F sc_comparable fun cdv A outer s0 H E hr =>
    zss_one (zs_ret (ze_and (ze_cmp (o_eq hr) s_eq (ze_call (c_kind_rank.mono (by decide)) hr (za_cons (ze_var rfl (pv 0)) (za_nil))) (ze_call (c_kind_rank.mono (by decide)) hr (za_cons (ze_var rfl (pv 1)) (za_nil))) (nomark _)) (ze_one (ze_cmp o_isnt s_isnt (ze_var rfl (pv 0)) (ze_non) (nomark _)))))⟩
abbrev st_same : Stmt := topS 4
theorem sc_same : FnScope ["first", "second"] ["first", "second"] (defScope st_same) := ⟨rfl, rfl, rfl, by decide +kernel, rfl, by decide +kernel, by decide +kernel⟩
def b_same : SM := zRet (zOp eqD (zCall d_rank (zCons (zVar 0) (zNil))) (zCall d_rank (zCons (zVar 1) (zNil))))
def d_same : List D → Option FR := runP 2 2 b_same
set_option maxHeartbeats 4000000 in
theorem ok_same (h : DefAt K mg "same" st_same) (c_rank : Cal P w K mg base 1 "rank" (spP K d_rank)) : Cal P w K mg base 2 "same" (spP K d_same) := by
  obtain ⟨a, fd, h1, F⟩ := h
  exact ⟨a, fd, _, h1, F.kp, F.binds (ps := ["first", "second"]) fun _ _ _ _ _ _ us hl => match us, hl with | [_, _], _ => rfl, okP F sc_same fun cdv A outer s0 H E hr =>
    zss_one (zs_ret (ze_cmp (o_eq hr) s_eq (ze_call (c_rank.mono (by decide)) hr (za_cons (ze_var rfl (pv 0)) (za_nil))) (ze_call (c_rank.mono (by decide)) hr (za_cons (ze_var rfl (pv 1)) (za_nil))) (nomark _)))⟩
abbrev st_equal : Stmt := topS 105
theorem sc_equal : FnScope ["first", "second"] ["first", "second"] (defScope st_equal) := ⟨rfl, rfl, rfl, by decide +kernel, rfl, by decide +kernel, by decide +kernel⟩
def b_equal : SM := zRet (zIf (zTru (zCall d_comparable (zCons (zVar 0) (zCons (zVar 1) (zNil))))) (zCall d_same (zCons (zVar 0) (zCons (zVar 1) (zNil)))) (zC .non))
def d_equal : List D → Option FR := runP 2 2 b_equal
set_option maxHeartbeats 4000000 in
theorem ok_equal (h : DefAt K mg "equal" st_equal) (c_comparable : Cal P w K mg base 2 "comparable" (spP K d_comparable)) (c_same : Cal P w K mg base 2 "same" (spP K d_same)) : Cal P w K mg base 3 "equal" (spP K d_equal) := by
  obtain ⟨a, fd, h1, F⟩ := h
  exact ⟨a, fd, _, h1, F.kp, F.binds (ps := ["first", "second"]) fun _ _ _ _ _ _ us hl => match us, hl with | [_, _], _ => rfl, okP F sc_equal fun cdv A outer s0 H E hr =>
    zss_one (zs_ret (ze_if (zt_truth (ze_call (c_comparable.mono (by decide)) hr (za_cons (ze_var rfl (pv 0)) (za_cons (ze_var rfl (pv 1)) (za_nil))))) (ze_call (c_same.mono (by decide)) hr (za_cons (ze_var rfl (pv 0)) (za_cons (ze_var rfl (pv 1)) (za_nil)))) (ze_non)))⟩
abbrev st_less : Stmt := topS 106
theorem sc_less : FnScope ["first", "second"] ["first", "second"] (defScope st_less) := ⟨rfl, rfl, rfl, by decide +kernel, rfl, by decide +kernel, by decide +kernel⟩
def b_less : SM := zRet (zIf (zTru (zCall d_comparable (zCons (zVar 0) (zCons (zVar 1) (zNil))))) (zCall d_before (zCons (zVar 0) (zCons (zVar 1) (zNil)))) (zC .non))
def d_less : List D → Option FR := runP 2 2 b_less
set_option maxHeartbeats 4000000 in
theorem ok_less (h : DefAt K mg "less" st_less) (c_comparable : Cal P w K mg base 2 "comparable" (spP K d_comparable)) (c_before : Cal P w K mg base 2 "before" (spP K d_before)) : Cal P w K mg base 3 "less" (spP K d_less) := by
  obtain ⟨a, fd, h1, F⟩ := h
  exact ⟨a, fd, _, h1, F.kp, F.binds (ps := ["first", "second"]) fun _ _ _ _ _ _ us hl => match us, hl with | [_, _], _ => rfl, okP F sc_less fun cdv A outer s0 H E hr =>
    zss_one (zs_ret (ze_if (zt_truth (ze_call (c_comparable.mono (by decide)) hr (za_cons (ze_var rfl (pv 0)) (za_cons (ze_var rfl (pv 1)) (za_nil))))) (ze_call (c_before.mono (by decide)) hr (za_cons (ze_var rfl (pv 0)) (za_cons (ze_var rfl (pv 1)) (za_nil)))) (ze_non)))⟩
abbrev st_at_most : Stmt := topS 107
theorem sc_at_most : FnScope ["first", "second"] ["first", "second"] (defScope st_at_most) := ⟨rfl, rfl, rfl, by decide +kernel, rfl, by decide +kernel, by decide +kernel⟩
def b_at_most : SM := zRet (zIf (zTru (zCall d_comparable (zCons (zVar 0) (zCons (zVar 1) (zNil))))) (zNotV (zCall d_before (zCons (zVar 1) (zCons (zVar 0) (zNil))))) (zC .non))
def d_at_most : List D → Option FR := runP 2 2 b_at_most
set_option maxHeartbeats 4000000 in
theorem ok_at_most (h : DefAt K mg "at_most" st_at_most) (c_comparable : Cal P w K mg base 2 "comparable" (spP K d_comparable)) (c_before : Cal P w K mg base 2 "before" (spP K d_before)) : Cal P w K mg base 3 "at_most" (spP K d_at_most) := by
  obtain ⟨a, fd, h1, F⟩ := h
  exact ⟨a, fd, _, h1, F.kp, F.binds (ps := ["first", "second"]) fun _ _ _ _ _ _ us hl => match us, hl with | [_, _], _ => rfl, okP F sc_at_most fun cdv A outer s0 H E hr =>
    zss_one (zs_ret (ze_if (zt_truth (ze_call (c_comparable.mono (by decide)) hr (za_cons (ze_var rfl (pv 0)) (za_cons (ze_var rfl (pv 1)) (za_nil))))) (ze_not (ze_call (c_before.mono (by decide)) hr (za_cons (ze_var rfl (pv 1)) (za_cons (ze_var rfl (pv 0)) (za_nil))))) (ze_non)))⟩
abbrev st_are_integers : Stmt := topS 71
theorem sc_are_integers : FnScope ["first", "second"] ["first", "second"] (defScope st_are_integers) := ⟨rfl, rfl, rfl, by decide +kernel, rfl, by decide +kernel, by decide +kernel⟩
def b_are_integers : SM := zRet (zAndV (zCall d_is_integer (zCons (zVar 0) (zNil))) (zCall d_is_integer (zCons (zVar 1) (zNil))))
def d_are_integers : List D → Option FR := runP 2 2 b_are_integers
set_option maxHeartbeats 4000000 in
theorem ok_are_integers (h : DefAt K mg "are_integers" st_are_integers) (c_is_integer : Cal P w K mg base 1 "is_integer" (spP K d_is_integer)) : Cal P w K mg base 2 "are_integers" (spP K d_are_integers) := by
  obtain ⟨a, fd, h1, F⟩ := h
  exact ⟨a, fd, _, h1, F.kp, F.binds (ps := ["first", "second"]) fun _ _ _ _ _ _ us hl => match us, hl with | [_, _], _ => rfl, okP F sc_are_integers fun cdv A outer s0 H E hr =>
    zss_one (zs_ret (ze_and (ze_call (c_is_integer.mono (by decide)) hr (za_cons (ze_var rfl (pv 0)) (za_nil))) (ze_one (ze_call (c_is_integer.mono (by decide)) hr (za_cons (ze_var rfl (pv 1)) (za_nil))))))⟩
abbrev st_added : Stmt := topS 72
theorem sc_added : FnScope ["first", "second"] ["first", "second"] (defScope st_added) := ⟨rfl, rfl, rfl, by decide +kernel, rfl, by decide +kernel, by decide +kernel⟩
def b_added : SM := zRet (zIf (zTru (zCall d_are_integers (zCons (zVar 0) (zCons (zVar 1) (zNil))))) (zCall d_limited (zCons (zOp addS (zVar 0) (zVar 1)) (zNil))) (zC .non))
def d_added : List D → Option FR := runP 2 2 b_added
set_option maxHeartbeats 4000000 in
theorem ok_added (h : DefAt K mg "added" st_added) (c_are_integers : Cal P w K mg base 2 "are_integers" (spP K d_are_integers)) (c_limited : Cal P w K mg base 1 "limited" (spP K d_limited)) : Cal P w K mg base 3 "added" (spP K d_added) := by
  obtain ⟨a, fd, h1, F⟩ := h
  exact ⟨a, fd, _, h1, F.kp, F.binds (ps := ["first", "second"]) fun _ _ _ _ _ _ us hl => match us, hl with | [_, _], _ => rfl, okP F sc_added fun cdv A outer s0 H E hr =>
    zss_one (zs_ret (ze_if (zt_truth (ze_call (c_are_integers.mono (by decide)) hr (za_cons (ze_var rfl (pv 0)) (za_cons (ze_var rfl (pv 1)) (za_nil))))) (ze_call (c_limited.mono (by decide)) hr (za_cons (ze_op o_add s_add (ze_var rfl (pv 0)) (ze_var rfl (pv 1))) (za_nil))) (ze_non)))⟩
abbrev st_subtracted : Stmt := topS 73
theorem sc_subtracted : FnScope ["first", "second"] ["first", "second"] (defScope st_subtracted) := ⟨rfl, rfl, rfl, by decide +kernel, rfl, by decide +kernel, by decide +kernel⟩
def b_subtracted : SM := zRet (zIf (zTru (zCall d_are_integers (zCons (zVar 0) (zCons (zVar 1) (zNil))))) (zCall d_limited (zCons (zOp subD (zVar 0) (zVar 1)) (zNil))) (zC .non))
def d_subtracted : List D → Option FR := runP 2 2 b_subtracted
set_option maxHeartbeats 4000000 in
theorem ok_subtracted (h : DefAt K mg "subtracted" st_subtracted) (c_are_integers : Cal P w K mg base 2 "are_integers" (spP K d_are_integers)) (c_limited : Cal P w K mg base 1 "limited" (spP K d_limited)) : Cal P w K mg base 3 "subtracted" (spP K d_subtracted) := by
  obtain ⟨a, fd, h1, F⟩ := h
  exact ⟨a, fd, _, h1, F.kp, F.binds (ps := ["first", "second"]) fun _ _ _ _ _ _ us hl => match us, hl with | [_, _], _ => rfl, okP F sc_subtracted fun cdv A outer s0 H E hr =>
    zss_one (zs_ret (ze_if (zt_truth (ze_call (c_are_integers.mono (by decide)) hr (za_cons (ze_var rfl (pv 0)) (za_cons (ze_var rfl (pv 1)) (za_nil))))) (ze_call (c_limited.mono (by decide)) hr (za_cons (ze_op op_sub s_sub (ze_var rfl (pv 0)) (ze_var rfl (pv 1))) (za_nil))) (ze_non)))⟩
abbrev st_multiplied : Stmt := topS 74
theorem sc_multiplied : FnScope ["first", "second"] ["first", "second"] (defScope st_multiplied) := ⟨rfl, rfl, rfl, by decide +kernel, rfl, by decide +kernel, by decide +kernel⟩
def b_multiplied : SM := zRet (zIf (zTru (zCall d_are_integers (zCons (zVar 0) (zCons (zVar 1) (zNil))))) (zCall d_limited (zCons (zOp mulD (zVar 0) (zVar 1)) (zNil))) (zC .non))
def d_multiplied : List D → Option FR := runP 2 2 b_multiplied
set_option maxHeartbeats 4000000 in
theorem ok_multiplied (h : DefAt K mg "multiplied" st_multiplied) (c_are_integers : Cal P w K mg base 2 "are_integers" (spP K d_are_integers)) (c_limited : Cal P w K mg base 1 "limited" (spP K d_limited)) : Cal P w K mg base 3 "multiplied" (spP K d_multiplied) := by
  obtain ⟨a, fd, h1, F⟩ := h
  exact ⟨a, fd, _, h1, F.kp, F.binds (ps := ["first", "second"]) fun _ _ _ _ _ _ us hl => match us, hl with | [_, _], _ => rfl, okP F sc_multiplied fun cdv A outer s0 H E hr =>
    zss_one (zs_ret (ze_if (zt_truth (ze_call (c_are_integers.mono (by decide)) hr (za_cons (ze_var rfl (pv 0)) (za_cons (ze_var rfl (pv 1)) (za_nil))))) (ze_call (c_limited.mono (by decide)) hr (za_cons (ze_op o_mul s_mul (ze_var rfl (pv 0)) (ze_var rfl (pv 1))) (za_nil))) (ze_non)))⟩
abbrev st_coalesce : Stmt := topS 110
theorem sc_coalesce : FnScope ["first", "second"] ["first", "second"] (defScope st_coalesce) := ⟨rfl, rfl, rfl, by decide +kernel, rfl, by decide +kernel, by decide +kernel⟩
def b_coalesce : SM := zRet (zIf (zTst (zOp isD (zVar 0) (zC .non))) (zVar 1) (zVar 0))
def d_coalesce : List D → Option FR := runP 2 2 b_coalesce
set_option maxHeartbeats 4000000 in
theorem ok_coalesce (h : DefAt K mg "coalesce" st_coalesce) : Cal P w K mg base 1 "coalesce" (spP K d_coalesce) := by
  obtain ⟨a, fd, h1, F⟩ := h
  exact ⟨a, fd, _, h1, F.kp, F.binds (ps := ["first", "second"]) fun _ _ _ _ _ _ us hl => match us, hl with | [_, _], _ => rfl, okP F sc_coalesce fun cdv A outer s0 H E hr =>
    zss_one (zs_ret (ze_if (zt_cmp o_is s_is (ze_var rfl (pv 0)) (ze_non) (nomark _)) (ze_var rfl (pv 1)) (ze_var rfl (pv 0))))⟩
abbrev st_days_added : Stmt := topS 44
theorem sc_days_added : FnScope ["value", "count"] ["value", "count"] (defScope st_days_added) := ⟨rfl, rfl, rfl, by decide +kernel, rfl, by decide +kernel, by decide +kernel⟩
def b_days_added : SM := zSeq (zIfS 2 (zOrT (zNotT (zTru (zCall d_is_day (zCons (zVar 0) (zNil))))) (zNotT (zTru (zCall d_is_integer (zCons (zVar 1) (zNil)))))) (zRet (zC .non)) (zNx)) (zSeq (zIfS 2 (zNotT (zTst (zChain leD leD (zC c_FIRST_DAY) (zOp addS (zVar 0) (zVar 1)) (zC c_LAST_DAY)))) (zRet (zC .non)) (zNx)) (zRet (zOp addS (zVar 0) (zVar 1))))
def d_days_added : List D → Option FR := runP 2 2 b_days_added
set_option maxHeartbeats 4000000 in
theorem ok_days_added (h : DefAt K mg "days_added" st_days_added) (hc_FIRST_DAY : ConstD K mg "FIRST_DAY" c_FIRST_DAY) (hc_LAST_DAY : ConstD K mg "LAST_DAY" c_LAST_DAY) (c_is_day : Cal P w K mg base 2 "is_day" (spP K d_is_day)) (c_is_integer : Cal P w K mg base 1 "is_integer" (spP K d_is_integer)) : Cal P w K mg base 3 "days_added" (spP K d_days_added) := by
  obtain ⟨a, fd, h1, F⟩ := h
  exact ⟨a, fd, _, h1, F.kp, F.binds (ps := ["value", "count"]) fun _ _ _ _ _ _ us hl => match us, hl with | [_, _], _ => rfl, okP F sc_days_added fun cdv A outer s0 H E hr =>
    zss_cons (zs_if (zt_w (zw_or (zt_not (zt_truth (ze_call (c_is_day.mono (by decide)) hr (za_cons (ze_var rfl (pv 0)) (za_nil))))) (zw_or1 (zt_not (zt_truth (ze_call (c_is_integer.mono (by decide)) hr (za_cons (ze_var rfl (pv 1)) (za_nil)))))))) (zss_one (zs_ret (ze_non))) (zss_nil)) (zss_cons (zs_if (zt_not (zt_chain o_le s_le o_le s_le (ze_cd hc_FIRST_DAY) (ze_op o_add s_add (ze_var rfl (pv 0)) (ze_var rfl (pv 1))) (ze_cd hc_LAST_DAY))) (zss_one (zs_ret (ze_non))) (zss_nil)) (zss_one (zs_ret (ze_op o_add s_add (ze_var rfl (pv 0)) (ze_var rfl (pv 1))))))⟩
def tab_BINARY_DEEDS : Tab := [([97, 110, 100], d_both), ([111, 114], d_either), ([101, 113, 117, 97, 108], d_equal), ([108, 101, 115, 115], d_less), ([97, 116, 32, 109, 111, 115, 116], d_at_most), ([115, 97, 109, 101], d_same), ([97, 100, 100], d_added), ([115, 117, 98, 116, 114, 97, 99, 116], d_subtracted), ([109, 117, 108, 116, 105, 112, 108, 121], d_multiplied), ([99, 111, 97, 108, 101, 115, 99, 101], d_coalesce), ([97, 100, 100, 32, 100, 97, 121, 115], d_days_added)]
abbrev st_binary : Stmt := topS 115
theorem sc_binary : FnScope ["name", "first", "second", "action"] ["name", "first", "second"] (defScope st_binary) := ⟨rfl, rfl, rfl, by decide +kernel, rfl, by decide +kernel, by decide +kernel⟩
def b_binary : SM := zDeed 3 tab_BINARY_DEEDS (zVar 0) (zCons (zVar 1) (zCons (zVar 2) (zNil)))
def d_binary : List D → Option FR := runP 4 3 b_binary
set_option maxHeartbeats 4000000 in
theorem ok_binary (h : DefAt K mg "binary" st_binary) (t_BINARY_DEEDS : TabOk P w K mg base 3 "BINARY_DEEDS" tab_BINARY_DEEDS) : Cal P w K mg base 4 "binary" (spP K d_binary) := by
  obtain ⟨a, fd, h1, F⟩ := h
  exact ⟨a, fd, _, h1, F.kp, F.binds (ps := ["name", "first", "second"]) fun _ _ _ _ _ _ us hl => match us, hl with | [_, _, _], _ => rfl, okP F sc_binary fun cdv A outer s0 H E hr =>
    zss_deed (i := 3) t_BINARY_DEEDS hr sc_binary.nd rfl (Or.inl rfl) (Or.inl rfl) (ze_var rfl (pv 0)) (za_cons (ze_var rfl (pv 1)) (za_cons (ze_var rfl (pv 2)) (za_nil)))⟩
abbrev st_evaluate : Stmt := topS 118
theorem sc_evaluate : FnScope ["expression", "row", "form", "values", "part"] ["expression", "row"] (defScope st_evaluate) := ⟨rfl, rfl, rfl, by decide +kernel, rfl, by decide +kernel, by decide +kernel⟩
def b_evaluate (F : List D → Option FR) : SM := zSeq (zSet 5 2 (zIx (zVar 0) (zC (.int 0)))) (zSeq (zIfS 5 (zTst (zOp eqD (zVar 2) (zC (.str [99, 111, 110, 115, 116, 97, 110, 116])))) (zRet (zIx (zVar 0) (zC (.int 1)))) (zNx)) (zSeq (zIfS 5 (zTst (zOp eqD (zVar 2) (zC (.str [99, 111, 108, 117, 109, 110])))) (zRet (zIf (zTst (zOp ltX (zIx (zVar 0) (zC (.int 1))) (zCallS lenD (zCons (zVar 1) (zNil))))) (zIx (zVar 1) (zIx (zVar 0) (zC (.int 1)))) (zC .non))) (zNx)) (zSeq (zIfS 5 (zTst (zOp eqD (zVar 2) (zC (.str [99, 104, 111, 105, 99, 101])))) (zSeq (zIfS 5 (zTst (zOp isD (zCall F (zCons (zIx (zVar 0) (zC (.int 1))) (zCons (zVar 1) (zNil)))) (zC (.bl true)))) (zRet (zCall F (zCons (zIx (zVar 0) (zC (.int 2))) (zCons (zVar 1) (zNil))))) (zNx)) (zRet (zCall F (zCons (zIx (zVar 0) (zC (.int 3))) (zCons (zVar 1) (zNil)))))) (zNx)) (zSeq (zSet 5 3 (zLc (ziT (zSl (zVar 0) (zoS (zC (.int 2))) (zoN))) (gN 4) (zYes) (zCall F (zCons (zVar 4) (zCons (zVar 1) (zNil)))) [4])) (zSeq (zIfS 5 (zTst (zOp eqD (zVar 2) (zC (.str [117, 110, 97, 114, 121])))) (zRet (zCall d_unary (zCons (zIx (zVar 0) (zC (.int 1))) (zCons (zIx (zVar 3) (zC (.int 0))) (zNil))))) (zNx)) (zSeq (zIfS 5 (zTst (zOp eqD (zVar 2) (zC (.str [98, 105, 110, 97, 114, 121])))) (zRet (zCall d_binary (zCons (zIx (zVar 0) (zC (.int 1))) (zCons (zIx (zVar 3) (zC (.int 0))) (zCons (zIx (zVar 3) (zC (.int 1))) (zNil)))))) (zNx)) (zRet (zCall d_ternary (zCons (zIx (zVar 0) (zC (.int 1))) (zCons (zIx (zVar 3) (zC (.int 0))) (zCons (zIx (zVar 3) (zC (.int 1))) (zCons (zIx (zVar 3) (zC (.int 2))) (zNil)))))))))))))
def d_evaluate : Nat → List D → Option FR
  | 0 => fun _ => none
  | q + 1 => runP 5 2 (b_evaluate (d_evaluate q))
set_option maxHeartbeats 4000000 in
theorem ok_evaluate (h : DefAt K mg "evaluate" st_evaluate) (m_len : mg "len" = none) (c_ternary : Cal P w K mg base 1 "ternary" (spP K d_ternary)) (c_unary : Cal P w K mg base 4 "unary" (spP K d_unary)) (c_binary : Cal P w K mg base 4 "binary" (spP K d_binary)) : ∀ q : Nat, Cal P w K mg base (5 + q) "evaluate" (spP K (d_evaluate q)) := by
  obtain ⟨a, fd, h1, F⟩ := h
  intro q
  induction q with
  | zero => exact ⟨a, fd, _, h1, F.kp, F.binds (ps := ["expression", "row"]) fun _ _ _ _ _ _ us hl => match us, hl with | [_, _], _ => rfl, okN⟩
  | succ q cR =>
    show Cal P w K mg base (5 + q + 1) "evaluate" (spP K (runP 5 2 (b_evaluate (d_evaluate q))))
    exact ⟨a, fd, _, h1, F.kp, F.binds (ps := ["expression", "row"]) fun _ _ _ _ _ _ us hl => match us, hl with | [_, _], _ => rfl, okP F sc_evaluate fun cdv A outer s0 H E hr =>
    zss_cons (zs_set (i := 2) sc_evaluate.nd rfl (Or.inl rfl) (ze_ix (ze_var rfl (pv 0)) (ze_int))) (zss_cons (zs_if (zt_cmp (o_eq hr) s_eq (ze_var rfl (pv 2)) (ze_str) (nomark _)) (zss_one (zs_ret (ze_ix (ze_var rfl (pv 0)) (ze_int)))) (zss_nil)) (zss_cons (zs_if (zt_cmp (o_eq hr) s_eq (ze_var rfl (pv 2)) (ze_str) (nomark _)) (zss_one (zs_ret (ze_if (zt_cmp (o_ltX hr) s_ltX (ze_ix (ze_var rfl (pv 0)) (ze_int)) (ze_callB call_len s_len (by rfl) m_len PySem.boot_len (za_cons (ze_var rfl (pv 1)) (za_nil))) (nomark _)) (ze_ix (ze_var rfl (pv 1)) (ze_ix (ze_var rfl (pv 0)) (ze_int))) (ze_non)))) (zss_nil)) (zss_cons (zs_if (zt_cmp (o_eq hr) s_eq (ze_var rfl (pv 2)) (ze_str) (nomark _)) (zss_cons (zs_if (zt_cmp o_is s_is (ze_call cR hr (za_cons (ze_ix (ze_var rfl (pv 0)) (ze_int)) (za_cons (ze_var rfl (pv 1)) (za_nil)))) (ze_bl) (nomark _)) (zss_one (zs_ret (ze_call cR hr (za_cons (ze_ix (ze_var rfl (pv 0)) (ze_int)) (za_cons (ze_var rfl (pv 1)) (za_nil)))))) (zss_nil)) (zss_one (zs_ret (ze_call cR hr (za_cons (ze_ix (ze_var rfl (pv 0)) (ze_int)) (za_cons (ze_var rfl (pv 1)) (za_nil))))))) (zss_nil)) (zss_cons (zs_setLc (i := 3) rfl rfl (sw_true rfl rfl rfl (by decide +kernel)) (own := [("part", 4)]) rfl sc_evaluate.nd (zi_tup (ze_sl (ze_var rfl (pv 0)) (zo_some (ze_int)) (zo_none))) (blkOk_by (N := ["expression", "row", "form", "values", "part"]) (own := [("part", 4)]) (sc := defScope st_evaluate) (by decide +kernel)) (fun _ _ _ _ _ => zgw_name (i := 4) sc_evaluate.nd rfl (Or.inl rfl) (by decide)) (fun _ _ _ _ _ => zts_nil) (fun _ _ _ _ _ => ze_call cR hr (za_cons (ze_var rfl (pv 4)) (za_cons (ze_var rfl (pv 1)) (za_nil))))) (zss_cons (zs_if (zt_cmp (o_eq hr) s_eq (ze_var rfl (pv 2)) (ze_str) (nomark _)) (zss_one (zs_ret (ze_call (c_unary.mono (by omega)) hr (za_cons (ze_ix (ze_var rfl (pv 0)) (ze_int)) (za_cons (ze_ix (ze_var rfl (pv 3)) (ze_int)) (za_nil)))))) (zss_nil)) (zss_cons (zs_if (zt_cmp (o_eq hr) s_eq (ze_var rfl (pv 2)) (ze_str) (nomark _)) (zss_one (zs_ret (ze_call (c_binary.mono (by omega)) hr (za_cons (ze_ix (ze_var rfl (pv 0)) (ze_int)) (za_cons (ze_ix (ze_var rfl (pv 3)) (ze_int)) (za_cons (ze_ix (ze_var rfl (pv 3)) (ze_int)) (za_nil))))))) (zss_nil)) (zss_one (zs_ret (ze_call (c_ternary.mono (by omega)) hr (za_cons (ze_ix (ze_var rfl (pv 0)) (ze_int)) (za_cons (ze_ix (ze_var rfl (pv 3)) (ze_int)) (za_cons (ze_ix (ze_var rfl (pv 3)) (ze_int)) (za_cons (ze_ix (ze_var rfl (pv 3)) (ze_int)) (za_nil))))))))))))))⟩
abbrev st_holds : Stmt := topS 119
theorem sc_holds : FnScope ["expression", "row"] ["expression", "row"] (defScope st_holds) := ⟨rfl, rfl, rfl, by decide +kernel, rfl, by decide +kernel, by decide +kernel⟩
def b_holds : SM := zRet (zOp isD (zCall (d_evaluate 40) (zCons (zVar 0) (zCons (zVar 1) (zNil)))) (zC (.bl true)))
def d_holds : List D → Option FR := runP 2 2 b_holds
set_option maxHeartbeats 4000000 in
theorem ok_holds (h : DefAt K mg "holds" st_holds) (c_evaluate : Cal P w K mg base 45 "evaluate" (spP K (d_evaluate 40))) : Cal P w K mg base 46 "holds" (spP K d_holds) := by
  obtain ⟨a, fd, h1, F⟩ := h
  exact ⟨a, fd, _, h1, F.kp, F.binds (ps := ["expression", "row"]) fun _ _ _ _ _ _ us hl => match us, hl with | [_, _], _ => rfl, okP F sc_holds fun cdv A outer s0 H E hr =>
    zss_one (zs_ret (ze_cmp o_is s_is (ze_call (c_evaluate.mono (by decide)) hr (za_cons (ze_var rfl (pv 0)) (za_cons (ze_var rfl (pv 1)) (za_nil)))) (ze_bl) (nomark _)))⟩
abbrev st__law_is_integer : Stmt := topS 124
theorem sc__law_is_integer : FnScope ["_law_told"] ["_law_told"] (defScope st__law_is_integer) := ⟨rfl, rfl, rfl, by decide +kernel, rfl, by decide +kernel, by decide +kernel⟩
def b__law_is_integer : SM := zRet (zAndV (zCallS isiD (zCons (zVar 0) (zCons (zC (.raw (.ty "int"))) (zNil)))) (zNotV (zCallS isiD (zCons (zVar 0) (zCons (zC (.raw (.ty "bool"))) (zNil))))))
def d__law_is_integer : List D → Option FR := runP 1 1 b__law_is_integer
set_option maxHeartbeats 4000000 in
theorem ok__law_is_integer (h : DefAt K mg "_law_is_integer" st__law_is_integer) (m_bool : mg "bool" = none) (m_int : mg "int" = none) (m_isinstance : mg "isinstance" = none) : Cal P w K mg base 1 "_law_is_integer" (spP K d__law_is_integer) := by
  obtain ⟨a, fd, h1, F⟩ := h
  exact ⟨a, fd, _, h1, F.kp, F.binds (ps := ["_law_told"]) fun _ _ _ _ _ _ us hl => match us, hl with | [_], _ => rfl, okP F sc__law_is_integer fun cdv A outer s0 H E hr =>
    zss_one (zs_ret (ze_and (ze_callB call_isiU s_isi (by rfl) m_isinstance (by decide +kernel) (za_cons (ze_var rfl (pv 0)) (za_cons (ze_bltn (by rfl) m_int (by decide +kernel) rfl) (za_nil)))) (ze_one (ze_not (ze_callB call_isiU s_isi (by rfl) m_isinstance (by decide +kernel) (za_cons (ze_var rfl (pv 0)) (za_cons (ze_bltn (by rfl) m_bool (by decide +kernel) rfl) (za_nil))))))))⟩
abbrev st_law : Stmt := topS 132
theorem sc_law : FnScope ["_law_script", "_law_state_here", "_law_width", "_law_numbers", "_law_rows", "_law_k", "_law_zones", "_law_row", "_law_expression_here", "_law_span", "_law_let", "_law_j", "_law_value_here"] ["_law_script"] (defScope st_law) := ⟨rfl, rfl, rfl, by decide +kernel, rfl, by decide +kernel, by decide +kernel⟩
def lb_law_1 : SM := zFg [1, 5, 7] (zSeq (zSet 13 1 (zCall d__law_state (zCons (zCall d__law_cell (zCons (zVar 0) (zCons (zOp addS (zC (.int 1)) (zVar 5)) (zNil)))) (zCons (zVar 5) (zNil))))) (zSeq (zSet 13 7 (zLc (ziR1 (zCons (zVar 2) (zNil))) (gN 11) (zYes) (zCallM 0 d__law_value (zCons (zVar 1) (zNil))) [11])) (zSeq (zIfS 13 (zTru (zVar 3)) (zSet 13 7 (zLc (ziL 13 (zVar 7)) (gN 12) (zYes) (zIf (zOrT (zTst (zOp isD (zVar 12) (zC .non))) (zTru (zCall d__law_is_integer (zCons (zVar 12) (zNil))))) (zVar 12) (zC (.int 4))) [12])) (zNx)) (zApp 13 (zVar 4) (zVar 7)))))
def lb_law_2 : SM := zFg [7] (zIfS 13 (zOrT (zNotT (zTru (zCall d__law_inside (zCons (zCall (d_evaluate 40) (zCons (zVar 8) (zCons (zVar 7) (zNil)))) (zCons (zVar 9) (zNil)))))) (zAndT (zTru (zCall d_holds (zCons (zVar 8) (zCons (zVar 7) (zNil))))) (zNotT (zTru (zVar 10))))) (zRet (zC (.bl false))) (zNx))
def lb_law_3 : SM := zFg [1, 5, 7, 8, 9, 10] (zSeq (zSet 13 1 (zCall d__law_state (zCons (zCall d__law_cell (zCons (zVar 0) (zCons (zOp addS (zC (.int 1)) (zVar 5)) (zNil)))) (zCons (zOp addS (zC (.int 100)) (zVar 5)) (zNil))))) (zSeq (zSet 13 8 (zCallM 0 (d__law_expression 40) (zCons (zVar 1) (zCons (zVar 2) (zCons (zOp addS (zC (.int 1)) (zCallM 0 d__law_digit (zCons (zVar 1) (zCons (zC (.int 4)) (zNil))))) (zNil)))))) (zSeq (zIfS 13 (zTst (zOp eqD (zOp mulD (zOp divD (zVar 5) (zC (.int 2))) (zC (.int 2))) (zVar 5))) (zSet 13 8 (zCallM 0 (d__law_condition 40) (zCons (zVar 1) (zCons (zVar 2) (zCons (zC (.int 3)) (zNil)))))) (zNx)) (zSeq (zSet 13 9 (zCall (d_span_of 40) (zCons (zVar 8) (zCons (zVar 6) (zNil))))) (zSeq (zSet 13 10 (zCall d_may_hold (zCons (zVar 8) (zCons (zVar 6) (zNil))))) (zSeq (zIfS 13 (zAndT (zTst (zOp isntD (zVar 10) (zC (.bl true)))) (zTst (zOp isntD (zVar 10) (zC (.bl false))))) (zRet (zC (.bl false))) (zNx)) (zFgB [7] (zFor 13 (ziL 13 (zVar 4)) (gN 7) (lb_law_2)))))))))
def b_law : SM := zSeq (zSet 13 1 (zCall d__law_state (zCons (zCall d__law_cell (zCons (zVar 0) (zCons (zC (.int 0)) (zNil)))) (zCons (zC (.int 0)) (zNil))))) (zSeq (zSet 13 2 (zOp addS (zC (.int 1)) (zCallM 0 d__law_digit (zCons (zVar 1) (zCons (zC (.int 3)) (zNil)))))) (zSeq (zSet 13 3 (zOp gtD (zCallM 0 d__law_digit (zCons (zVar 1) (zCons (zC (.int 3)) (zNil)))) (zC (.int 0)))) (zSeq (zSet 13 4 (zLst (zNil))) (zSeq (zFgB [1, 5, 7] (zFor 13 (ziR1 (zCons (zCallS minD (zCons (zC (.int 14)) (zCons (zCallS maxD (zCons (zC (.int 2)) (zCons (zOp divD (zCallS lenD (zCons (zVar 0) (zNil))) (zC (.int 2))) (zNil)))) (zNil)))) (zNil))) (gN 5) (lb_law_1))) (zSeq (zSet 13 6 (zLc (ziR1 (zCons (zVar 2) (zNil))) (gN 5) (zYes) (zCall d_zone_of (zCons (zLc (ziL 13 (zVar 4)) (gN 7) (zYes) (zIx (zVar 7) (zVar 5)) [7]) (zNil))) [5])) (zSeq (zFgB [1, 5, 7] (zFor 13 (ziR1 (zCons (zCallS minD (zCons (zC (.int 24)) (zCons (zCallS maxD (zCons (zC (.int 4)) (zCons (zOp subD (zCallS lenD (zCons (zVar 0) (zNil))) (zC (.int 1))) (zNil)))) (zNil)))) (zNil))) (gN 5) (lb_law_3))) (zRet (zC (.bl true)))))))))
def d_law : List D → Option FR := runP 13 1 b_law
set_option maxHeartbeats 4000000 in
theorem ok_law {f : Addr} {fd : FuncData} (F : Fun K "law" "law" st_law f fd) (m_len : mg "len" = none) (m_max : mg "max" = none) (m_min : mg "min" = none) (m_range : mg "range" = none) (c__law_state : Cal P w K mg base 1 "_law_state" (spP K d__law_state)) (c__law_cell : Cal P w K mg base 1 "_law_cell" (spP K d__law_cell)) (c__law_digit : Cal P w K mg base 1 "_law_digit" (spM K 0 d__law_digit)) (c_zone_of : Cal P w K mg base 4 "zone_of" (spP K d_zone_of)) (c__law_expression : Cal P w K mg base 45 "_law_expression" (spM K 0 (d__law_expression 40))) (c_span_of : Cal P w K mg base 45 "span_of" (spP K (d_span_of 40))) (c_may_hold : Cal P w K mg base 46 "may_hold" (spP K d_may_hold)) (c__law_value : Cal P w K mg base 3 "_law_value" (spM K 0 d__law_value)) (c__law_condition : Cal P w K mg base 44 "_law_condition" (spM K 0 (d__law_condition 40))) (c__law_inside : Cal P w K mg base 2 "_law_inside" (spP K d__law_inside)) (c_holds : Cal P w K mg base 46 "holds" (spP K d_holds)) (c__law_is_integer : Cal P w K mg base 1 "_law_is_integer" (spP K d__law_is_integer)) (c_evaluate : Cal P w K mg base 45 "evaluate" (spP K (d_evaluate 40))) : FnA P w K mg base callerA f fd ["_law_script"] (spP K d_law) :=
  okA (k := 46) F sc_law ⟨rfl, by decide, by decide⟩ fun cdv outer s0 H E hr =>
    zss_cons (zs_set (i := 1) sc_law.nd rfl (Or.inr rfl) (ze_call (c__law_state.mono (by decide)) hr (za_cons (ze_call (c__law_cell.mono (by decide)) hr (za_cons (ze_var rfl (pv 0)) (za_cons (ze_int) (za_nil)))) (za_cons (ze_int) (za_nil))))) (zss_cons (zs_set (i := 2) sc_law.nd rfl (Or.inl rfl) (ze_op o_add s_add (ze_int) (ze_callM (c__law_digit.mono (by decide)) hr (za_cons (ze_var rfl (pv 1)) (za_cons (ze_int) (za_nil)))))) (zss_cons (zs_set (i := 3) sc_law.nd rfl (Or.inl rfl) (ze_cmp o_gt s_gt (ze_callM (c__law_digit.mono (by decide)) hr (za_cons (ze_var rfl (pv 1)) (za_cons (ze_int) (za_nil)))) (ze_int) (nomark _))) (zss_cons (zs_set (i := 4) sc_law.nd rfl (Or.inr rfl) (ze_lst (za_nil))) (zss_cons (zs_fgB (vs := [1, 5, 7]) (zs_for PassesOwn.never rfl (zi_range1 (by rfl) m_range (za_cons (ze_callB (call_min2 rfl) s_min (by rfl) m_min (by decide +kernel) (za_cons (ze_int) (za_cons (ze_callB (call_max2 rfl) s_max (by rfl) m_max (by decide +kernel) (za_cons (ze_int) (za_cons (ze_op o_div s_div (ze_callB call_len s_len (by rfl) m_len PySem.boot_len (za_cons (ze_var rfl (pv 0)) (za_nil))) (ze_int)) (za_nil)))) (za_nil)))) (za_nil))) (zg_name (i := 5) sc_law.nd rfl (Or.inl rfl)) (zss_fg (vs := [1, 5, 7]) (zss_cons (zs_set (i := 1) sc_law.nd rfl (Or.inr rfl) (ze_call (c__law_state.mono (by decide)) hr (za_cons (ze_call (c__law_cell.mono (by decide)) hr (za_cons (ze_var rfl (pv 0)) (za_cons (ze_op o_add s_add (ze_int) (ze_var rfl (pv 5))) (za_nil)))) (za_cons (ze_var rfl (pv 5)) (za_nil))))) (zss_cons (zs_setLc (i := 7) rfl rfl (sw_true rfl rfl rfl (by decide +kernel)) (own := [("_law_j", 11)]) rfl sc_law.nd (zi_range1 (by rfl) m_range (za_cons (ze_var rfl (pv 2)) (za_nil))) (blkOk_by (N := ["_law_script", "_law_state_here", "_law_width", "_law_numbers", "_law_rows", "_law_k", "_law_zones", "_law_row", "_law_expression_here", "_law_span", "_law_let", "_law_j", "_law_value_here"]) (own := [("_law_j", 11)]) (sc := defScope st_law) (by decide +kernel)) (fun _ _ _ _ _ => zgw_name (i := 11) sc_law.nd rfl (Or.inl rfl) (by decide)) (fun _ _ _ _ _ => zts_nil) (fun _ _ _ _ _ => ze_callM (c__law_value.mono (by decide)) hr (za_cons (ze_var rfl (pv 1)) (za_nil)))) (zss_cons (zs_if (zt_truth (ze_var rfl (pv 3))) (zss_one (zs_setLc (i := 7) rfl rfl (sw_true rfl rfl rfl (by decide +kernel)) (own := [("_law_value_here", 12)]) rfl sc_law.nd (zi_list (ze_var rfl (pv 7))) (blkOk_by (N := ["_law_script", "_law_state_here", "_law_width", "_law_numbers", "_law_rows", "_law_k", "_law_zones", "_law_row", "_law_expression_here", "_law_span", "_law_let", "_law_j", "_law_value_here"]) (own := [("_law_value_here", 12)]) (sc := defScope st_law) (by decide +kernel)) (fun _ _ _ _ _ => zgw_name (i := 12) sc_law.nd rfl (Or.inl rfl) (by decide)) (fun _ _ _ _ _ => zts_nil) (fun _ _ _ _ _ => ze_if (zt_w (zw_or (zt_cmp o_is s_is (ze_var rfl (pv 12)) (ze_non) (nomark _)) (zw_or1 (zt_truth (ze_call (c__law_is_integer.mono (by decide)) hr (za_cons (ze_var rfl (pv 12)) (za_nil))))))) (ze_var rfl (pv 12)) (ze_int)))) (zss_nil)) (zss_one (zs_app (ze_var rfl (pv 4)) (ze_var rfl (pv 7)))))))))) (zss_cons (zs_setLc (i := 6) rfl rfl (sw_true rfl rfl rfl (by decide +kernel)) (own := [("_law_k", 5)]) rfl sc_law.nd (zi_range1 (by rfl) m_range (za_cons (ze_var rfl (pv 2)) (za_nil))) (blkOk_by (N := ["_law_script", "_law_state_here", "_law_width", "_law_numbers", "_law_rows", "_law_k", "_law_zones", "_law_row", "_law_expression_here", "_law_span", "_law_let", "_law_j", "_law_value_here"]) (own := [("_law_k", 5)]) (sc := defScope st_law) (by decide +kernel)) (fun _ _ _ _ _ => zgw_name (i := 5) sc_law.nd rfl (Or.inr rfl) (by decide)) (fun _ _ _ _ _ => zts_nil) (fun _ _ _ _ _ => ze_call (c_zone_of.mono (by decide)) hr (za_cons (ze_lc (own := [("_law_row", 7)]) rfl sc_law.nd (zi_list (ze_var rfl (pv 4))) (blk_in (N := ["_law_script", "_law_state_here", "_law_width", "_law_numbers", "_law_rows", "_law_k", "_law_zones", "_law_row", "_law_expression_here", "_law_span", "_law_let", "_law_j", "_law_value_here"]) (own := [("_law_row", 7)]) (by decide +kernel)) (fun _ _ _ _ _ => zgw_name (i := 7) sc_law.nd rfl (Or.inl rfl) (by decide)) (fun _ _ _ _ _ => zts_nil) (fun _ _ _ _ _ => ze_ix (ze_var rfl (pv 7)) (ze_var rfl (pv 5)))) (za_nil)))) (zss_cons (zs_fgB (vs := [1, 5, 7]) (zs_for PassesOwn.never rfl (zi_range1 (by rfl) m_range (za_cons (ze_callB (call_min2 rfl) s_min (by rfl) m_min (by decide +kernel) (za_cons (ze_int) (za_cons (ze_callB (call_max2 rfl) s_max (by rfl) m_max (by decide +kernel) (za_cons (ze_int) (za_cons (ze_op op_sub s_sub (ze_callB call_len s_len (by rfl) m_len PySem.boot_len (za_cons (ze_var rfl (pv 0)) (za_nil))) (ze_int)) (za_nil)))) (za_nil)))) (za_nil))) (zg_name (i := 5) sc_law.nd rfl (Or.inl rfl)) (zss_fg (vs := [1, 5, 7, 8, 9, 10]) (zss_cons (zs_set (i := 1) sc_law.nd rfl (Or.inr rfl) (ze_call (c__law_state.mono (by decide)) hr (za_cons (ze_call (c__law_cell.mono (by decide)) hr (za_cons (ze_var rfl (pv 0)) (za_cons (ze_op o_add s_add (ze_int) (ze_var rfl (pv 5))) (za_nil)))) (za_cons (ze_op o_add s_add (ze_int) (ze_var rfl (pv 5))) (za_nil))))) (zss_cons (zs_set (i := 8) sc_law.nd rfl (Or.inl rfl) (ze_callM (c__law_expression.mono (by decide)) hr (za_cons (ze_var rfl (pv 1)) (za_cons (ze_var rfl (pv 2)) (za_cons (ze_op o_add s_add (ze_int) (ze_callM (c__law_digit.mono (by decide)) hr (za_cons (ze_var rfl (pv 1)) (za_cons (ze_int) (za_nil))))) (za_nil)))))) (zss_cons (zs_if (zt_cmp (o_eq hr) s_eq (ze_op o_mul s_mul (ze_op o_div s_div (ze_var rfl (pv 5)) (ze_int)) (ze_int)) (ze_var rfl (pv 5)) (nomark _)) (zss_one (zs_set (i := 8) sc_law.nd rfl (Or.inl rfl) (ze_callM (c__law_condition.mono (by decide)) hr (za_cons (ze_var rfl (pv 1)) (za_cons (ze_var rfl (pv 2)) (za_cons (ze_int) (za_nil))))))) (zss_nil)) (zss_cons (zs_set (i := 9) sc_law.nd rfl (Or.inl rfl) (ze_call (c_span_of.mono (by decide)) hr (za_cons (ze_var rfl (pv 8)) (za_cons (ze_var rfl (pv 6)) (za_nil))))) (zss_cons (zs_set (i := 10) sc_law.nd rfl (Or.inl rfl) (ze_call (c_may_hold.mono (by decide)) hr (za_cons (ze_var rfl (pv 8)) (za_cons (ze_var rfl (pv 6)) (za_nil))))) (zss_cons (zs_if (zt_w (zw_and (zt_cmp o_isnt s_isnt (ze_var rfl (pv 10)) (ze_bl) (nomark _)) (zw_and1 (zt_cmp o_isnt s_isnt (ze_var rfl (pv 10)) (ze_bl) (nomark _))))) (zss_one (zs_ret (ze_bl))) (zss_nil)) (zss_one (zs_fgB (vs := [7]) (zs_for PassesOwn.never rfl (zi_list (ze_var rfl (pv 4))) (zg_name (i := 7) sc_law.nd rfl (Or.inl rfl)) (zss_fg (vs := [7]) (zss_one (zs_if (zt_w (zw_or (zt_not (zt_truth (ze_call (c__law_inside.mono (by decide)) hr (za_cons (ze_call (c_evaluate.mono (by decide)) hr (za_cons (ze_var rfl (pv 8)) (za_cons (ze_var rfl (pv 7)) (za_nil)))) (za_cons (ze_var rfl (pv 9)) (za_nil)))))) (zw_or1 (zt_w (zw_and (zt_truth (ze_call (c_holds.mono (by decide)) hr (za_cons (ze_var rfl (pv 8)) (za_cons (ze_var rfl (pv 7)) (za_nil))))) (zw_and1 (zt_not (zt_truth (ze_var rfl (pv 10)))))))))) (zss_one (zs_ret (ze_bl))) (zss_nil)))))))))))))))) (zss_one (zs_ret (ze_bl)))))))))
end
local macro_rules | `(tactic| walk_at "e") => `(tactic| first | ((with_reducible apply er_ifT); (walk_at "e"); (walk_at "e")) | ((with_reducible apply er_ifF); (walk_at "e"); (walk_at "e")))
local macro_rules | `(tactic| walk_at "c") => `(tactic| first | with_reducible assumption | with_reducible exact leap_ok _)
local macro_rules | `(tactic| walk_at "c") => `(tactic| first | with_reducible assumption | with_reducible exact leap_ok _ | with_reducible exact dbf_ok _ | ((with_reducible refine ml_ok _ _ ?_ ?_) <;> omega) | ((with_reducible refine len_ok _ _ ?_ ?_) <;> omega))
def nonB : D → Bool
  | .non => true
  | _ => false
def isI : D → Bool
  | .int _ => true
  | _ => false
theorem isi_ok (v : D) (h : VW v) : d_is_integer [v] = some (.dat (.bl (isI v))) := by
  cases v with
  | non =>
    unfold d_is_integer b_is_integer
    refine runP_ap (g := [.dat .non]) rfl rfl ?_
    walk_at "w"
    exact rfl
  | bl b =>
    unfold d_is_integer b_is_integer
    refine runP_ap (g := [.dat (.bl b)]) rfl rfl ?_
    walk_at "w"
    exact rfl
  | int i =>
    unfold d_is_integer b_is_integer
    refine runP_ap (g := [.dat (.int i)]) rfl rfl ?_
    walk_at "w"
    exact rfl
  | str t =>
    unfold d_is_integer b_is_integer
    refine runP_ap (g := [.dat (.str t)]) rfl rfl ?_
    walk_at "w"
    exact rfl
  | _ => exact h.elim
def dayB : D → Bool
  | .int i => decide (-719162 ≤ i) && decide (i ≤ 2932896)
  | _ => false
theorem isday_ok (v : D) (h : VW v) : d_is_day [v] = some (.dat (.bl (dayB v))) := by
  have hI := isi_ok v h
  cases hv : isI v with
  | true =>
    obtain ⟨i, rfl⟩ : ∃ i, v = .int i := by cases v <;> first | (cases hv; done) | exact ⟨_, rfl⟩
    have hI : d_is_integer [.int i] = some (.dat (.bl true)) := hI
    unfold d_is_day b_is_day
    refine runP_ap (g := [.dat (.int i)]) rfl rfl ?_
    walk_at "s"
    exact rfl
  | false =>
    rw [hv] at hI
    have e : dayB v = false := by cases v <;> first | rfl | cases hv
    rw [e]
    unfold d_is_day b_is_day
    refine runP_ap (g := [.dat v]) rfl rfl ?_
    exact sr_ret (er_andVF (er_callV (er_cons rfl er_nil) rfl hI rfl) rfl) rfl
theorem day_of_dayB {v : D} (h : dayB v = true) : ∃ i, v = .int i ∧ -719162 ≤ i ∧ i ≤ 2932896 := by
  cases v <;> first | (cases h; done) | skip
  unfold dayB at h
  rw [Bool.and_eq_true, decide_eq_true_eq, decide_eq_true_eq] at h
  exact ⟨_, rfl, h.1, h.2⟩
def limV (n : Int) : D := if -1000000000000000 ≤ n ∧ n ≤ 1000000000000000 then .int n else .non
theorem lim_vw (n : Int) : VW (limV n) := by
  unfold limV
  split
  · exact show n.natAbs ≤ 10 ^ 15 by omega
  · exact trivial
theorem lim_ok (n : Int) : d_limited [.int n] = some (.dat (limV n)) := by
  unfold limV d_limited b_limited
  refine runP_ap (g := [.dat (.int n)]) rfl rfl ?_
  have t1 : zTst (zChain leD leD (zUn negD (zC c_GREATEST)) (zVar 0) (zC c_GREATEST)) [.dat (.int n)] = some (decide (-1000000000000000 ≤ n) && decide (n ≤ 1000000000000000), [.dat (.int n)]) := by walk_at "e"
  refine sr_if t1 rfl (fun q => ?_) (fun q => ?_)
  · rw [Bool.and_eq_true, decide_eq_true_eq, decide_eq_true_eq] at q
    rw [if_pos q]
    walk_at "s"
    exact rfl
  · rw [if_neg (by
      intro z
      rw [decide_eq_true z.1, decide_eq_true z.2] at q
      cases q)]
    walk_at "s"
    walk_at "s"
    exact rfl
theorem iabs_nat2 (n : Int) : iabs n = (n.natAbs : Int) := by
  unfold iabs
  split <;> omega
def isT : D → Bool
  | .str _ => true
  | _ => false
theorem isi_str (v : D) (h : VW v) : isiD [v, .raw (.ty "str")] = some (.bl (isT v)) := by
  cases v with
  | non => exact isi_of rfl kb_non_str
  | bl b => exact isi_of rfl kb_bool_str
  | int i => exact isi_of rfl kb_int_str
  | str t => exact isi_of rfl kb_str_str
  | _ => exact h.elim
local macro_rules | `(tactic| walk_at "e") => `(tactic| first | ((with_reducible apply er_ifT); (walk_at "e"); (walk_at "e")) | ((with_reducible apply er_ifF); (walk_at "e"); (walk_at "e")))
def UOk (F : List D → Option FR) : Prop := ∀ v, VW v → ∃ r, VW r ∧ F [v] = some (.dat r)
theorem txt_of {v : D} (c : isT v = true) : ∃ t, v = .str t := by cases v <;> first | (cases c; done) | exact ⟨_, rfl⟩
theorem int_of {v : D} (c : isI v = true) : ∃ i, v = .int i := by cases v <;> first | (cases c; done) | exact ⟨_, rfl⟩
theorem u_length : UOk d_length := fun v h => by
  have hs := isi_str v h
  cases c : isT v with
  | false =>
    rw [c] at hs
    refine ⟨.non, trivial, ?_⟩
    unfold d_length b_length
    refine runP_ap (g := [.dat v]) rfl rfl ?_
    walk_at "s"
    exact rfl
  | true =>
    obtain ⟨t, rfl⟩ := txt_of c
    have hs : isiD [.str t, .raw (.ty "str")] = some (.bl true) := hs
    obtain ⟨h1, h2⟩ := (show t.length ≤ 10000 ∧ ∀ c ∈ t, c < 128 from h)
    have hr : lenD [.str t] = some (.int (t.length : Int)) := dr_lenS (Nat.le_trans h1 (by decide))
    have hv : VW (D.int (t.length : Int)) := show Int.natAbs _ ≤ 10 ^ 15 by omega
    have hsc := hv.scal
    refine ⟨D.int (t.length : Int), hv, ?_⟩
    generalize (t.length : Int) = w at *
    unfold d_length b_length
    refine runP_ap (g := [.dat (.str t)]) rfl rfl ?_
    walk_at "s"
    exact rfl
local macro_rules | `(tactic| walk_at "e") => `(tactic| first | ((with_reducible apply er_ifT); (walk_at "e"); (walk_at "e")) | ((with_reducible apply er_ifF); (walk_at "e"); (walk_at "e")))
theorem kr_non : d_kind_rank [.non] = some (.dat (.int 0)) := by
  unfold d_kind_rank b_kind_rank
  refine runP_ap (g := [.dat .non]) rfl rfl ?_
  walk_at "w"
  exact rfl
theorem kr_bl (b : Bool) : d_kind_rank [.bl b] = some (.dat (.int 1)) := by
  unfold d_kind_rank b_kind_rank
  refine runP_ap (g := [.dat (.bl b)]) rfl rfl ?_
  walk_at "w"
  exact rfl
theorem kr_int (i : Int) : d_kind_rank [.int i] = some (.dat (.int 2)) := by
  unfold d_kind_rank b_kind_rank
  refine runP_ap (g := [.dat (.int i)]) rfl rfl ?_
  walk_at "w"
  exact rfl
theorem kr_str (t : List Nat) : d_kind_rank [.str t] = some (.dat (.int 3)) := by
  unfold d_kind_rank b_kind_rank
  refine runP_ap (g := [.dat (.str t)]) rfl rfl ?_
  walk_at "w"
  exact rfl
local macro_rules | `(tactic| walk_at "c") => `(tactic| first | with_reducible assumption | (simp only [Cn.d]; with_reducible assumption) | with_reducible exact kr_non | with_reducible exact kr_bl _ | with_reducible exact kr_int _ | with_reducible exact kr_str _)
theorem kr_ok (v : D) (h : VW v) : d_kind_rank [v] = some (.dat (.int (kd v : Nat))) := by
  cases v with
  | non => exact kr_non
  | bl b => exact kr_bl b
  | int i => exact kr_int i
  | str t => exact kr_str t
  | _ => exact h.elim
theorem rank_ok (v : D) (h : VW v) : d_rank [v] = some (.dat (rk v)) := by
  cases v with
  | non =>
    unfold d_rank b_rank
    refine runP_ap (g := [.dat .non]) rfl rfl ?_
    walk_at "w"
    exact rfl
  | bl b =>
    unfold d_rank b_rank
    refine runP_ap (g := [.dat (.bl b)]) rfl rfl ?_
    walk_at "w"
    exact rfl
  | int i =>
    unfold d_rank b_rank
    refine runP_ap (g := [.dat (.int i)]) rfl rfl ?_
    walk_at "w"
    exact rfl
  | str t =>
    unfold d_rank b_rank
    refine runP_ap (g := [.dat (.str t)]) rfl rfl ?_
    walk_at "w"
    exact rfl
  | _ => exact h.elim
theorem aint_ok (a b : D) (ha : VW a) (hb : VW b) : d_are_integers [a, b] = some (.dat (.bl (isI a && isI b))) := by
  have h1 := isi_ok a ha
  have h2 := isi_ok b hb
  generalize isI a = x at *
  generalize isI b = y at *
  unfold d_are_integers b_are_integers
  refine runP_ap (g := [.dat a, .dat b]) rfl rfl ?_
  walk_at "s"
  exact rfl
def cmpB (a b : D) : Bool := ((kd a : Int) == (kd b : Int)) && !nonB a
theorem cmp_kd {a b : D} (h : cmpB a b = true) : kd a = kd b := by
  unfold cmpB at h
  rw [Bool.and_eq_true, beq_iff_eq] at h
  omega
theorem comp_ok (a b : D) (ha : VW a) (hb : VW b) : d_comparable [a, b] = some (.dat (.bl (cmpB a b))) := by
  have h1 := kr_ok a ha
  have h2 := kr_ok b hb
  have h3 : isntD a .non = some (.bl (!nonB a)) := by cases a <;> first | exact ha.elim | rfl
  unfold cmpB
  generalize nonB a = x at *
  generalize kd a = y at *
  generalize kd b = z at *
  unfold d_comparable b_comparable
  refine runP_ap (g := [.dat a, .dat b]) rfl rfl ?_
  walk_at "s"
  exact rfl
theorem same_ok (a b : D) (ha : VW a) (hb : VW b) : d_same [a, b] = some (.dat (.bl (sameV a b))) := by
  have h1 := rank_ok a ha
  have h2 := rank_ok b hb
  have h3 := eq_rkW ha hb
  have s1 := (rk_rokW ha).1
  unfold d_same b_same
  refine runP_ap (g := [.dat a, .dat b]) rfl rfl ?_
  generalize rk a = x at *
  generalize rk b = y at *
  generalize sameV a b = z at *
  walk_at "s"
  exact rfl
theorem before_ok (a b : D) (ha : VW a) (hb : VW b) : d_before [a, b] = some (.dat (.bl (ltV a b))) := by
  have h1 := rank_ok a ha
  have h2 := rank_ok b hb
  have h3 := lt_rkW ha hb
  rw [ltR1W ha hb] at h3
  unfold d_before b_before
  refine runP_ap (g := [.dat a, .dat b]) rfl rfl ?_
  generalize rk a = x at *
  generalize rk b = y at *
  generalize ltV a b = z at *
  walk_at "s"
  exact rfl
/-- the program's six -/
def eqV (a b : D) : D := if cmpB a b = true then .bl (sameV a b) else .non
def leV (a b : D) : D := if cmpB a b = true then .bl (!ltV b a) else .non
def lessV (a b : D) : D := if cmpB a b = true then .bl (ltV a b) else .non
theorem equal_ok (a b : D) (ha : VW a) (hb : VW b) : d_equal [a, b] = some (.dat (eqV a b)) := by
  have h1 := comp_ok a b ha hb
  have h2 := same_ok a b ha hb
  unfold eqV d_equal b_equal
  refine runP_ap (g := [.dat a, .dat b]) rfl rfl ?_
  generalize sameV a b = z at *
  cases h : cmpB a b <;> rw [h] at h1
  · rw [if_neg Bool.false_ne_true]
    walk_at "s"
    exact rfl
  · rw [if_pos rfl]
    walk_at "s"
    exact rfl
theorem less_ok (a b : D) (ha : VW a) (hb : VW b) : d_less [a, b] = some (.dat (lessV a b)) := by
  have h1 := comp_ok a b ha hb
  have h2 := before_ok a b ha hb
  unfold lessV d_less b_less
  refine runP_ap (g := [.dat a, .dat b]) rfl rfl ?_
  generalize ltV a b = z at *
  cases h : cmpB a b <;> rw [h] at h1
  · rw [if_neg Bool.false_ne_true]
    walk_at "s"
    exact rfl
  · rw [if_pos rfl]
    walk_at "s"
    exact rfl
theorem most_ok (a b : D) (ha : VW a) (hb : VW b) : d_at_most [a, b] = some (.dat (leV a b)) := by
  have h1 := comp_ok a b ha hb
  have h2 := before_ok b a hb ha
  unfold leV d_at_most b_at_most
  refine runP_ap (g := [.dat a, .dat b]) rfl rfl ?_
  generalize ltV b a = z at *
  cases h : cmpB a b <;> rw [h] at h1
  · rw [if_neg Bool.false_ne_true]
    walk_at "s"
    exact rfl
  · rw [if_pos rfl]
    walk_at "s"
    exact rfl
def BOk (F : List D → Option FR) : Prop := ∀ a b, VW a → VW b → ∃ r, VW r ∧ F [a, b] = some (.dat r)
theorem bif_vw {c : Bool} {x y : D} (h : VW x) (k : VW y) : VW (if c = true then x else y) := by cases c <;> assumption
theorem w_equal : BOk d_equal := fun a b ha hb => ⟨eqV a b, bif_vw (x := .bl _) (y := .non) trivial trivial, equal_ok a b ha hb⟩
theorem w_same : BOk d_same := fun a b ha hb => ⟨.bl (sameV a b), trivial, same_ok a b ha hb⟩
theorem ints_of {a b : D} (h : (isI a && isI b) = true) : ∃ i j, a = .int i ∧ b = .int j := by
  rw [Bool.and_eq_true] at h
  cases a <;> first | (cases h.1; done) | skip
  cases b <;> first | (cases h.2; done) | skip
  exact ⟨_, _, rfl, rfl⟩
theorem vw_int {i : Int} (h : VW (.int i)) : -(2 ^ 256) < i ∧ i < 2 ^ 256 ∧ i.natAbs < 10 ^ 60 := by
  have h : i.natAbs ≤ 10 ^ 15 := h
  omega
theorem w_multiplied : BOk d_multiplied := fun a b ha hb => by
  have hI := aint_ok a b ha hb
  cases c : (isI a && isI b) <;> rw [c] at hI
  · refine ⟨.non, trivial, ?_⟩
    unfold d_multiplied b_multiplied
    refine runP_ap (g := [.dat a, .dat b]) rfl rfl ?_
    walk_at "s"
    exact rfl
  · obtain ⟨i, j, rfl, rfl⟩ := ints_of c
    have bi := vw_int ha
    have bj := vw_int hb
    have hm : mulD (.int i) (.int j) = some (.int (i * j)) := dr_mulC bi.1 bi.2.1 bj.1 bj.2.1
    have hl := lim_ok (i * j)
    have hs := (lim_vw (i * j)).scal
    clear bi bj
    refine ⟨limV (i * j), lim_vw _, ?_⟩
    generalize limV (i * j) = v at *
    unfold d_multiplied b_multiplied
    refine runP_ap (g := [.dat (.int i), .dat (.int j)]) rfl rfl ?_
    generalize i * j = p at *
    walk_at "s"
    exact rfl
theorem ints_of2 {a b : D} (h : (dayB a && isI b) = true) : ∃ i j, a = .int i ∧ b = .int j ∧ -719162 ≤ i ∧ i ≤ 2932896 := by
  rw [Bool.and_eq_true] at h
  cases a <;> first | (cases h.1; done) | skip
  cases b <;> first | (cases h.2; done) | skip
  have := h.1
  unfold dayB at this
  rw [Bool.and_eq_true, decide_eq_true_eq, decide_eq_true_eq] at this
  exact ⟨_, _, rfl, rfl, this.1, this.2⟩
local macro_rules | `(tactic| walk_at "e") => `(tactic| first | ((with_reducible apply er_ifT); (walk_at "e"); (walk_at "e")) | ((with_reducible apply er_ifF); (walk_at "e"); (walk_at "e")))
inductive It where
  | many | one | ch (c : Nat)
  deriving DecidableEq
def okI (i : It) : Prop := ∀ c, i = .ch c → c < 1114112
theorem un_run {nm : List Nat} {F : List D → Option FR} {a r : D} (h : look tab_UNARY_DEEDS nm = some F) (e : F [a] = some (.dat r)) (hs : r.scal = true) : d_unary [.str nm, a] = some (.dat r) := by
  have hc : zCall F (zCons (zVar 1) zNil) [.dat (.str nm), .dat a, .un] = some (.dat r, [.dat (.str nm), .dat a, .un]) := er_callV (er_cons rfl er_nil) rfl e hs
  have hr : zRet (zCall F (zCons (zVar 1) zNil)) [.dat (.str nm), .dat a, .un] = some (.ret (.dat r), [.dat (.str nm), .dat a, .un]) := by
    unfold zRet
    simp only [hc, Option.bind_eq_bind, Option.bind_some]
  have hd : zDeed 2 tab_UNARY_DEEDS (zVar 0) (zCons (zVar 1) (zNil)) [.dat (.str nm), .dat a, .un] = some (.ret (.dat r), [.dat (.str nm), .dat a, .un]) := deed_run (g1 := [.dat (.str nm), .dat a, .un]) rfl h rfl hr
  unfold d_unary b_unary
  refine runP_ap (g := [.dat (.str nm), .dat a, .un]) rfl rfl ?_
  show finK (zDeed 2 tab_UNARY_DEEDS (zVar 0) (zCons (zVar 1) (zNil)) [.dat (.str nm), .dat a, .un]) = _
  rw [hd]
  rfl
theorem bin_run {nm : List Nat} {F : List D → Option FR} {a b r : D} (h : look tab_BINARY_DEEDS nm = some F) (e : F [a, b] = some (.dat r)) (hs : r.scal = true) : d_binary [.str nm, a, b] = some (.dat r) := by
  have hc : zCall F (zCons (zVar 1) (zCons (zVar 2) zNil)) [.dat (.str nm), .dat a, .dat b, .un] = some (.dat r, [.dat (.str nm), .dat a, .dat b, .un]) := er_callV (er_cons rfl (er_cons rfl er_nil)) rfl e hs
  have hr : zRet (zCall F (zCons (zVar 1) (zCons (zVar 2) zNil))) [.dat (.str nm), .dat a, .dat b, .un] = some (.ret (.dat r), [.dat (.str nm), .dat a, .dat b, .un]) := by
    unfold zRet
    simp only [hc, Option.bind_eq_bind, Option.bind_some]
  have hd : zDeed 3 tab_BINARY_DEEDS (zVar 0) (zCons (zVar 1) (zCons (zVar 2) (zNil))) [.dat (.str nm), .dat a, .dat b, .un] = some (.ret (.dat r), [.dat (.str nm), .dat a, .dat b, .un]) := deed_run (g1 := [.dat (.str nm), .dat a, .dat b, .un]) rfl h rfl hr
  unfold d_binary b_binary
  refine runP_ap (g := [.dat (.str nm), .dat a, .dat b, .un]) rfl rfl ?_
  show finK (zDeed 3 tab_BINARY_DEEDS (zVar 0) (zCons (zVar 1) (zCons (zVar 2) (zNil))) [.dat (.str nm), .dat a, .dat b, .un]) = _
  rw [hd]
  rfl
def NU : List (List Nat) := [[110, 111, 116], [110, 101, 103, 97, 116, 101], [97, 98, 115], [105, 115, 32, 110, 117, 108, 108], [108, 101, 110, 103, 116, 104], [97, 115, 32, 100, 97, 116, 101], [97, 115, 32, 100, 101, 99, 105, 109, 97, 108], [116, 111, 32, 100, 101, 99, 105, 109, 97, 108]]
def NB : List (List Nat) := [[97, 110, 100], [111, 114], [101, 113, 117, 97, 108], [108, 101, 115, 115], [97, 116, 32, 109, 111, 115, 116], [115, 97, 109, 101], [97, 100, 100], [115, 117, 98, 116, 114, 97, 99, 116], [109, 117, 108, 116, 105, 112, 108, 121], [99, 111, 97, 108, 101, 115, 99, 101], [97, 100, 100, 32, 100, 97, 121, 115]]
def NT : List (List Nat) := []
local macro_rules | `(tactic| walk_at "e") => `(tactic| first | ((with_reducible apply er_ifT); (walk_at "e"); (walk_at "e")) | ((with_reducible apply er_ifF); (walk_at "e"); (walk_at "e")))
abbrev sCON : List Nat := [99, 111, 110, 115, 116, 97, 110, 116]
abbrev sCOL : List Nat := [99, 111, 108, 117, 109, 110]
abbrev sUN : List Nat := [117, 110, 97, 114, 121]
abbrev sBIN : List Nat := [98, 105, 110, 97, 114, 121]
abbrev sTER : List Nat := [116, 101, 114, 110, 97, 114, 121]
abbrev sCHO : List Nat := [99, 104, 111, 105, 99, 101]
/-- an expression of at most this depth; C: what is known of its constants; w: its columns are below -/
inductive Ex (C : D → Prop) (w : Int) : Nat → D → Prop
  | con {k : Nat} {v : D} : C v → Ex C w k (.tup [.str sCON, v])
  | col {k : Nat} {c : Int} : 0 ≤ c → c < w → Ex C w k (.tup [.str sCOL, .int c])
  | un {k : Nat} {nm : List Nat} {a : D} : nm ∈ NU → Ex C w k a → Ex C w (k + 1) (.tup [.str sUN, .str nm, a])
  | bin {k : Nat} {nm : List Nat} {a b : D} : nm ∈ NB → Ex C w k a → Ex C w k b → Ex C w (k + 1) (.tup [.str sBIN, .str nm, a, b])
  | ter {k : Nat} {nm : List Nat} {a b c : D} : nm ∈ NT → Ex C w k a → Ex C w k b → Ex C w k c → Ex C w (k + 1) (.tup [.str sTER, .str nm, a, b, c])
  | cho {k : Nat} {a b c : D} : Ex C w k a → Ex C w k b → Ex C w k c → Ex C w (k + 1) (.tup [.str sCHO, a, b, c])
theorem Ex.up {C : D → Prop} {w : Int} {k : Nat} {d : D} (h : Ex C w k d) : ∀ {j : Nat}, k ≤ j → Ex C w j d := by
  induction h with
  | con h => intro j _; exact .con h
  | col h k => intro j _; exact .col h k
  | un hn _ ih => intro j hj; obtain ⟨j, rfl⟩ : ∃ i, j = i + 1 := ⟨j - 1, by omega⟩; exact .un hn (ih (by omega))
  | bin hn _ _ i1 i2 => intro j hj; obtain ⟨j, rfl⟩ : ∃ i, j = i + 1 := ⟨j - 1, by omega⟩; exact .bin hn (i1 (by omega)) (i2 (by omega))
  | ter hn _ _ _ i1 i2 i3 => intro j hj; obtain ⟨j, rfl⟩ : ∃ i, j = i + 1 := ⟨j - 1, by omega⟩; exact .ter hn (i1 (by omega)) (i2 (by omega)) (i3 (by omega))
  | cho _ _ _ i1 i2 i3 => intro j hj; obtain ⟨j, rfl⟩ : ∃ i, j = i + 1 := ⟨j - 1, by omega⟩; exact .cho (i1 (by omega)) (i2 (by omega)) (i3 (by omega))
def frV : Option FR → D
  | some (.dat v) => v
  | _ => .non
def bTrue : D → Bool
  | .bl b => b
  | _ => false
theorem is_true {v : D} (h : VW v) : isD v (.bl true) = some (.bl (bTrue v)) := by
  cases v with
  | bl b => cases b <;> rfl
  | non => rfl
  | int i => rfl
  | str t => rfl
  | _ => exact h.elim
theorem cutL_from {α : Type} (t : List α) {q : Nat} (h : q ≤ t.length) : cutL t (some (q : Int)) none = t.drop q := by
  have a : HT.sIx t.length 0 (some (q : Int)) = q := by rw [HT.sIx_nat, Nat.min_eq_left h]
  have b : HT.sIx t.length t.length none = t.length := rfl
  unfold cutL
  rw [a, b, List.take_of_length_le (by rw [List.length_drop]; omega)]
theorem col_ix {row : List D} (hr : ∀ v ∈ row, VW v) {c : Int} (h0 : 0 ≤ c) (h1 : c < (row.length : Int)) : ∃ v, ixD (.lst row) c = some v ∧ VW v := by
  obtain ⟨x, e, m⟩ := atI_lt (xs := row) h0 h1
  exact ⟨x, e, hr x m⟩
theorem ev_lc {F : List D → Option FR} {h0 h1 f : D} {L row : List D} (hx : ∀ x ∈ L, ∃ v, VW v ∧ F [x, .lst row] = some (.dat v)) (hl : L.length ≤ 1000) :
    zLc (ziT (zSl (zVar 0) (zoS (zC (.int 2))) (zoN))) (gN 4) (zYes) (zCall F (zCons (zVar 4) (zCons (zVar 1) (zNil)))) [4] [.dat (.tup (h0 :: h1 :: L)), .dat (.lst row), .dat f, .un, .un] = some (.bor 5, [.dat (.tup (h0 :: h1 :: L)), .dat (.lst row), .dat f, .un, .un] ++ [.own (.lst (L.map fun x => frV (F [x, .lst row]))) false false]) := by
  have hc : cutL (h0 :: h1 :: L) (some ((2 : Nat) : Int)) none = L := cutL_from _ (by simp)
  have hm : ziT (zSl (zVar 0) (zoS (zC (.int 2))) (zoN)) [.dat (.tup (h0 :: h1 :: L)), .dat (.lst row), .dat f, .un, .un] = some (L, none, [.dat (.tup (h0 :: h1 :: L)), .dat (.lst row), .dat f, .un, .un]) := by
    have e := er_slT (ma := zVar 0) (ml := zoS (zC (.int 2))) (mh := zoN) (g := [.dat (.tup (h0 :: h1 :: L)), .dat (.lst row), .dat f, .un, .un]) (l := h0 :: h1 :: L) rfl (er_zoS er_C) rfl
    rw [show (some (2 : Int)) = some ((2 : Nat) : Int) from rfl, hc] at e
    exact mi_T e
  have e := er_lc1 (b := fun _ => true) (f := fun x => frV (F [x, .lst row])) (tg := gN 4) (tt := zYes) (el := zCall F (zCons (zVar 4) (zCons (zVar 1) (zNil)))) (vs := [4]) (base := [.dat (.tup (h0 :: h1 :: L)), .dat (.lst row), .dat f, .un, .un]) hm (fun o => rfl) (fun o => rfl) (Nat.le_trans hl (by decide))
    (fun x hxm => lc_dat (h := [.dat (.tup (h0 :: h1 :: L)), .dat (.lst row), .dat f, .un, .dat x]) rfl (fun o => rfl) (fun o => rfl) (fun o => rfl) (fun o => rfl) (fun _ o => by
      obtain ⟨v, hv, e⟩ := hx x hxm
      have e2 : frV (F [x, .lst row]) = v := by rw [e]; rfl
      rw [e2]
      exact er_callV (er_cons rfl (er_cons rfl er_nil)) rfl e hv.scal))
  rw [List.filter_eq_self.mpr (fun _ _ => rfl)] at e
  exact e
local macro_rules | `(tactic| walk_at "n") => `(tactic| first
  | ((with_reducible apply sr_if (b := false)); (exact rfl); (walk_at "l"); (intro q; cases q); (intro _); walk_at "s")
  | ((with_reducible apply sr_if (b := true)); (exact rfl); (walk_at "l"); (intro _); (rotate_left); (intro q; cases q)))
theorem ev_con (F : List D → Option FR) (v : D) (row : List D) (h : VW v) : runP 5 2 (b_evaluate F) [.tup [.str sCON, v], .lst row] = some (.dat v) := by
  have hs := h.scal
  unfold b_evaluate
  refine runP_ap (g := [.dat (.tup [.str sCON, v]), .dat (.lst row), .un, .un, .un]) rfl rfl ?_
  walk_at "s"
  walk_at "n"
  walk_at "s"
  exact rfl
theorem ev_col (F : List D → Option FR) (c : Int) (row : List D) (h0 : 0 ≤ c) (hr : ∀ v ∈ row, VW v) : ∃ v, VW v ∧ runP 5 2 (b_evaluate F) [.tup [.str sCOL, .int c], .lst row] = some (.dat v) ∧ v = (if c < (row.length : Int) then frV ((ixD (.lst row) c).map FR.dat) else .non) := by
  by_cases q : c < (row.length : Int)
  · obtain ⟨v, e, hv⟩ := col_ix hr h0 q
    have hs := hv.scal
    refine ⟨v, hv, ?_, by rw [if_pos q, e]; rfl⟩
    unfold b_evaluate
    refine runP_ap (g := [.dat (.tup [.str sCOL, .int c]), .dat (.lst row), .un, .un, .un]) rfl rfl ?_
    walk_at "s"
    walk_at "n"
    walk_at "n"
    have t : zTst (zOp ltX (zIx (zVar 0) (zC (.int 1))) (zCallS lenD (zCons (zVar 1) (zNil)))) [.dat (.tup [.str sCOL, .int c]), .dat (.lst row), .dat (.str sCOL), .un, .un] = some (true, [.dat (.tup [.str sCOL, .int c]), .dat (.lst row), .dat (.str sCOL), .un, .un]) := by
      rw [← decide_eq_true q]
      walk_at "e"
    refine sr_retS (er_ifT t (er_ix rfl (er_ix rfl er_C rfl rfl) rfl e)) rfl
  · refine ⟨.non, trivial, ?_, by rw [if_neg q]⟩
    unfold b_evaluate
    refine runP_ap (g := [.dat (.tup [.str sCOL, .int c]), .dat (.lst row), .un, .un, .un]) rfl rfl ?_
    walk_at "s"
    walk_at "n"
    walk_at "n"
    have t : zTst (zOp ltX (zIx (zVar 0) (zC (.int 1))) (zCallS lenD (zCons (zVar 1) (zNil)))) [.dat (.tup [.str sCOL, .int c]), .dat (.lst row), .dat (.str sCOL), .un, .un] = some (false, [.dat (.tup [.str sCOL, .int c]), .dat (.lst row), .dat (.str sCOL), .un, .un]) := by
      rw [← decide_eq_false q]
      walk_at "e"
    refine sr_retS (er_ifF t er_C) rfl
theorem ev_cho (F : List D → Option FR) (a b c va vb vc : D) (row : List D) (ha : F [a, .lst row] = some (.dat va)) (hb : F [b, .lst row] = some (.dat vb)) (hc : F [c, .lst row] = some (.dat vc)) (wa : VW va) (wb : VW vb) (wc : VW vc) : runP 5 2 (b_evaluate F) [.tup [.str sCHO, a, b, c], .lst row] = some (.dat (if bTrue va = true then vb else vc)) := by
  have ht := is_true wa
  have sa := wa.scal
  have sb := wb.scal
  have sc := wc.scal
  unfold b_evaluate
  refine runP_ap (g := [.dat (.tup [.str sCHO, a, b, c]), .dat (.lst row), .un, .un, .un]) rfl rfl ?_
  walk_at "s"
  walk_at "n"
  walk_at "n"
  walk_at "n"
  generalize bTrue va = x at *
  have t : zTst (zOp isD (zCall F (zCons (zIx (zVar 0) (zC (.int 1))) (zCons (zVar 1) (zNil)))) (zC (.bl true))) [.dat (.tup [.str sCHO, a, b, c]), .dat (.lst row), .dat (.str sCHO), .un, .un] = some (x, [.dat (.tup [.str sCHO, a, b, c]), .dat (.lst row), .dat (.str sCHO), .un, .un]) := er_tst (er_op (er_callV (er_cons (er_ix rfl er_C rfl rfl) (er_cons rfl er_nil)) rfl ha sa) er_C rfl rfl ht rfl)
  refine sr_assoc (sr_if t rfl (fun q => ?_) (fun q => ?_))
  · rw [q, if_pos rfl]
    exact sr_retS (er_callV (er_cons (er_ix rfl er_C rfl rfl) (er_cons rfl er_nil)) rfl hb sb) rfl
  · rw [q, if_neg Bool.false_ne_true]
    refine sr_nx (sr_retS (er_callV (er_cons (er_ix rfl er_C rfl rfl) (er_cons rfl er_nil)) rfl hc sc) rfl)
theorem ev_un (F : List D → Option FR) (nm : List Nat) (a va r : D) (row : List D) (ha : F [a, .lst row] = some (.dat va)) (wa : VW va) (hr : d_unary [.str nm, va] = some (.dat r)) (wr : VW r) : runP 5 2 (b_evaluate F) [.tup [.str sUN, .str nm, a], .lst row] = some (.dat r) := by
  have lc := ev_lc (F := F) (h0 := .str sUN) (h1 := .str nm) (f := .str sUN) (L := [a]) (row := row) (fun x hx => by
    rw [List.mem_singleton.mp hx]; exact ⟨va, wa, ha⟩) (by simp)
  have e1 : [a].map (fun x => frV (F [x, .lst row])) = [va] := by simp [ha, frV]
  rw [e1] at lc
  have sr := wr.scal
  unfold b_evaluate
  refine runP_ap (g := [.dat (.tup [.str sUN, .str nm, a]), .dat (.lst row), .un, .un, .un]) rfl rfl ?_
  walk_at "s"
  walk_at "n"
  walk_at "n"
  walk_at "n"
  refine seq_nx (set_own lc (Nat.le_of_ble_eq_true rfl) rfl rfl rfl) ?_
  refine sr_if (b := true) rfl rfl (fun _ => ?_) (fun q => by cases q)
  exact sr_retS (er_callV (er_cons (er_ix rfl er_C rfl rfl) (er_cons (er_ix rfl er_C rfl rfl) er_nil)) rfl hr sr) rfl
theorem ev_bin (F : List D → Option FR) (nm : List Nat) (a b va vb r : D) (row : List D) (ha : F [a, .lst row] = some (.dat va)) (wa : VW va) (hb : F [b, .lst row] = some (.dat vb)) (wb : VW vb) (hr : d_binary [.str nm, va, vb] = some (.dat r)) (wr : VW r) : runP 5 2 (b_evaluate F) [.tup [.str sBIN, .str nm, a, b], .lst row] = some (.dat r) := by
  have lc := ev_lc (F := F) (h0 := .str sBIN) (h1 := .str nm) (f := .str sBIN) (L := [a, b]) (row := row) (fun x hx => by
    simp only [List.mem_cons, List.not_mem_nil, or_false] at hx
    rcases hx with rfl | rfl
    · exact ⟨va, wa, ha⟩
    · exact ⟨vb, wb, hb⟩) (by simp)
  have e1 : [a, b].map (fun x => frV (F [x, .lst row])) = [va, vb] := by simp [ha, hb, frV]
  rw [e1] at lc
  have sr := wr.scal
  unfold b_evaluate
  refine runP_ap (g := [.dat (.tup [.str sBIN, .str nm, a, b]), .dat (.lst row), .un, .un, .un]) rfl rfl ?_
  walk_at "s"
  walk_at "n"
  walk_at "n"
  walk_at "n"
  refine seq_nx (set_own lc (Nat.le_of_ble_eq_true rfl) rfl rfl rfl) ?_
  refine sr_if (b := false) rfl rfl (fun q => by cases q) (fun _ => ?_)
  refine sr_nx (sr_if (b := true) rfl rfl (fun _ => ?_) (fun q => by cases q))
  exact sr_retS (er_callV (er_cons (er_ix rfl er_C rfl rfl) (er_cons (er_ix rfl er_C rfl rfl) (er_cons (er_ix rfl er_C rfl rfl) er_nil))) rfl hr sr) rfl
local macro_rules | `(tactic| walk_at "e") => `(tactic| first | ((with_reducible apply er_ifT); (walk_at "e"); (walk_at "e")) | ((with_reducible apply er_ifF); (walk_at "e"); (walk_at "e")))
def URel (F : List D → Option FR) (f : Int → Int) : Prop := ∀ v, VW v → ∃ r, VW r ∧ (r = .non ∨ ∃ i, v = .int i ∧ r = .int (f i)) ∧ F [v] = some (.dat r)
def BRel (F : List D → Option FR) (f : Int → Int → Int) : Prop := ∀ a b, VW a → VW b → ∃ r, VW r ∧ (r = .non ∨ ∃ i j, a = .int i ∧ b = .int j ∧ r = .int (f i j)) ∧ F [a, b] = some (.dat r)
theorem lim_rel {v : D} {i n : Int} {f : Int → Int} (hv : v = .int i) (h : n = f i) : limV n = .non ∨ ∃ i, v = .int i ∧ limV n = .int (f i) := by
  unfold limV
  split
  · exact .inr ⟨i, hv, by rw [h]⟩
  · exact .inl rfl
theorem lim_rel2 {a b : D} {i j n : Int} {f : Int → Int → Int} (ha : a = .int i) (hb : b = .int j) (h : n = f i j) : limV n = .non ∨ ∃ i j, a = .int i ∧ b = .int j ∧ limV n = .int (f i j) := by
  unfold limV
  split
  · exact .inr ⟨i, j, ha, hb, by rw [h]⟩
  · exact .inl rfl
theorem iabs_is (i : Int) : iabs i = (i.natAbs : Int) := by
  have := iabs_nat2 i
  unfold iabs
  split <;> omega
theorem r_negate : URel d_negate (fun i => -i) := fun v h => by
  have hi := isi_ok v h
  cases c : isI v with
  | false =>
    rw [c] at hi
    refine ⟨.non, trivial, (by first | exact .inl rfl | exact .inr ⟨_, rfl, rfl⟩ | exact .inr ⟨_, _, rfl, rfl, rfl⟩ | exact lim_rel rfl rfl | exact lim_rel2 rfl rfl rfl | exact .inr ⟨_, rfl, by rw [iabs_is]⟩), ?_⟩
    unfold d_negate b_negate
    refine runP_ap (g := [.dat v]) rfl rfl ?_
    walk_at "s"
    exact rfl
  | true =>
    obtain ⟨i, rfl⟩ := int_of c
    have hi : d_is_integer [.int i] = some (.dat (.bl true)) := hi
    have hb : i.natAbs ≤ 10 ^ 15 := h
    skip
    have hv : VW (D.int (-i)) := show Int.natAbs _ ≤ 10 ^ 15 by omega
    have hsc := hv.scal
    refine ⟨D.int (-i), hv, (by first | exact .inl rfl | exact .inr ⟨_, rfl, rfl⟩ | exact .inr ⟨_, _, rfl, rfl, rfl⟩ | exact lim_rel rfl rfl | exact lim_rel2 rfl rfl rfl | exact .inr ⟨_, rfl, by rw [iabs_is]⟩), ?_⟩
    skip
    unfold d_negate b_negate
    refine runP_ap (g := [.dat (.int i)]) rfl rfl ?_
    walk_at "s"
    exact rfl
theorem r_without_sign : URel d_without_sign (fun i => (i.natAbs : Int)) := fun v h => by
  have hi := isi_ok v h
  cases c : isI v with
  | false =>
    rw [c] at hi
    refine ⟨.non, trivial, (by first | exact .inl rfl | exact .inr ⟨_, rfl, rfl⟩ | exact .inr ⟨_, _, rfl, rfl, rfl⟩ | exact lim_rel rfl rfl | exact lim_rel2 rfl rfl rfl | exact .inr ⟨_, rfl, by rw [iabs_is]⟩), ?_⟩
    unfold d_without_sign b_without_sign
    refine runP_ap (g := [.dat v]) rfl rfl ?_
    walk_at "s"
    exact rfl
  | true =>
    obtain ⟨i, rfl⟩ := int_of c
    have hi : d_is_integer [.int i] = some (.dat (.bl true)) := hi
    have hb : i.natAbs ≤ 10 ^ 15 := h
    have ha := iabs_nat2 i
    have hv : VW (D.int (iabs i)) := show Int.natAbs _ ≤ 10 ^ 15 by omega
    have hsc := hv.scal
    refine ⟨D.int (iabs i), hv, (by first | exact .inl rfl | exact .inr ⟨_, rfl, rfl⟩ | exact .inr ⟨_, _, rfl, rfl, rfl⟩ | exact lim_rel rfl rfl | exact lim_rel2 rfl rfl rfl | exact .inr ⟨_, rfl, by rw [iabs_is]⟩), ?_⟩
    skip
    unfold d_without_sign b_without_sign
    refine runP_ap (g := [.dat (.int i)]) rfl rfl ?_
    walk_at "s"
    exact rfl
theorem r_as_decimal : URel d_as_decimal (fun i => i) := fun v h => by
  have hi := isi_ok v h
  cases c : isI v with
  | false =>
    rw [c] at hi
    refine ⟨.non, trivial, (by first | exact .inl rfl | exact .inr ⟨_, rfl, rfl⟩ | exact .inr ⟨_, _, rfl, rfl, rfl⟩ | exact lim_rel rfl rfl | exact lim_rel2 rfl rfl rfl | exact .inr ⟨_, rfl, by rw [iabs_is]⟩), ?_⟩
    unfold d_as_decimal b_as_decimal
    refine runP_ap (g := [.dat v]) rfl rfl ?_
    walk_at "s"
    exact rfl
  | true =>
    obtain ⟨i, rfl⟩ := int_of c
    have hi : d_is_integer [.int i] = some (.dat (.bl true)) := hi
    have hb : i.natAbs ≤ 10 ^ 15 := h
    skip
    have hv : VW (D.int i) := h
    have hsc := hv.scal
    refine ⟨D.int i, hv, (by first | exact .inl rfl | exact .inr ⟨_, rfl, rfl⟩ | exact .inr ⟨_, _, rfl, rfl, rfl⟩ | exact lim_rel rfl rfl | exact lim_rel2 rfl rfl rfl | exact .inr ⟨_, rfl, by rw [iabs_is]⟩), ?_⟩
    skip
    unfold d_as_decimal b_as_decimal
    refine runP_ap (g := [.dat (.int i)]) rfl rfl ?_
    walk_at "s"
    exact rfl
theorem r_to_decimal : URel d_to_decimal (fun i => 10000 * i) := fun v h => by
  have hi := isi_ok v h
  cases c : isI v with
  | false =>
    rw [c] at hi
    refine ⟨.non, trivial, (by first | exact .inl rfl | exact .inr ⟨_, rfl, rfl⟩ | exact .inr ⟨_, _, rfl, rfl, rfl⟩ | exact lim_rel rfl rfl | exact lim_rel2 rfl rfl rfl | exact .inr ⟨_, rfl, by rw [iabs_is]⟩), ?_⟩
    unfold d_to_decimal b_to_decimal
    refine runP_ap (g := [.dat v]) rfl rfl ?_
    walk_at "s"
    exact rfl
  | true =>
    obtain ⟨i, rfl⟩ := int_of c
    have hi : d_is_integer [.int i] = some (.dat (.bl true)) := hi
    have hb : i.natAbs ≤ 10 ^ 15 := h
    have hl := lim_ok (10000 * i)
    have hv : VW (limV (10000 * i)) := lim_vw _
    have hsc := hv.scal
    refine ⟨limV (10000 * i), hv, (by first | exact .inl rfl | exact .inr ⟨_, rfl, rfl⟩ | exact .inr ⟨_, _, rfl, rfl, rfl⟩ | exact lim_rel rfl rfl | exact lim_rel2 rfl rfl rfl | exact .inr ⟨_, rfl, by rw [iabs_is]⟩), ?_⟩
    generalize (limV (10000 * i)) = w at *
    unfold d_to_decimal b_to_decimal
    refine runP_ap (g := [.dat (.int i)]) rfl rfl ?_
    walk_at "s"
    exact rfl
theorem r_as_date : URel d_as_date (fun i => i) := fun v h => by
  have hd := isday_ok v h
  cases c : dayB v with
  | false =>
    rw [c] at hd
    refine ⟨.non, trivial, (by first | exact .inl rfl | exact .inr ⟨_, rfl, rfl⟩ | exact .inr ⟨_, _, rfl, rfl, rfl⟩ | exact lim_rel rfl rfl | exact lim_rel2 rfl rfl rfl | exact .inr ⟨_, rfl, by rw [iabs_is]⟩), ?_⟩
    unfold d_as_date b_as_date
    refine runP_ap (g := [.dat v]) rfl rfl ?_
    walk_at "s"
    exact rfl
  | true =>
    obtain ⟨i, rfl, i0, i1⟩ := day_of_dayB c
    have hd : d_is_day [.int i] = some (.dat (.bl true)) := by rw [hd, c]
    refine ⟨.int i, show Int.natAbs _ ≤ 10 ^ 15 by omega, (by first | exact .inl rfl | exact .inr ⟨_, rfl, rfl⟩ | exact .inr ⟨_, _, rfl, rfl, rfl⟩ | exact lim_rel rfl rfl | exact lim_rel2 rfl rfl rfl | exact .inr ⟨_, rfl, by rw [iabs_is]⟩), ?_⟩
    unfold d_as_date b_as_date
    refine runP_ap (g := [.dat (.int i)]) rfl rfl ?_
    walk_at "s"
    exact rfl
theorem r_added : BRel d_added (fun i j => i + j) := fun a b ha hb => by
  have hI := aint_ok a b ha hb
  cases c : (isI a && isI b) <;> rw [c] at hI
  · refine ⟨.non, trivial, (by first | exact .inl rfl | exact .inr ⟨_, rfl, rfl⟩ | exact .inr ⟨_, _, rfl, rfl, rfl⟩ | exact lim_rel rfl rfl | exact lim_rel2 rfl rfl rfl | exact .inr ⟨_, rfl, by rw [iabs_is]⟩), ?_⟩
    unfold d_added b_added
    refine runP_ap (g := [.dat a, .dat b]) rfl rfl ?_
    walk_at "s"
    exact rfl
  · obtain ⟨i, j, rfl, rfl⟩ := ints_of c
    have bi := vw_int ha
    have bj := vw_int hb
    have hl := lim_ok (i + j)
    have hs := (lim_vw (i + j)).scal
    clear bi bj
    refine ⟨limV (i + j), lim_vw _, (by first | exact .inl rfl | exact .inr ⟨_, rfl, rfl⟩ | exact .inr ⟨_, _, rfl, rfl, rfl⟩ | exact lim_rel rfl rfl | exact lim_rel2 rfl rfl rfl | exact .inr ⟨_, rfl, by rw [iabs_is]⟩), ?_⟩
    generalize limV (i + j) = v at *
    unfold d_added b_added
    refine runP_ap (g := [.dat (.int i), .dat (.int j)]) rfl rfl ?_
    walk_at "s"
    exact rfl
theorem r_subtracted : BRel d_subtracted (fun i j => i - j) := fun a b ha hb => by
  have hI := aint_ok a b ha hb
  cases c : (isI a && isI b) <;> rw [c] at hI
  · refine ⟨.non, trivial, (by first | exact .inl rfl | exact .inr ⟨_, rfl, rfl⟩ | exact .inr ⟨_, _, rfl, rfl, rfl⟩ | exact lim_rel rfl rfl | exact lim_rel2 rfl rfl rfl | exact .inr ⟨_, rfl, by rw [iabs_is]⟩), ?_⟩
    unfold d_subtracted b_subtracted
    refine runP_ap (g := [.dat a, .dat b]) rfl rfl ?_
    walk_at "s"
    exact rfl
  · obtain ⟨i, j, rfl, rfl⟩ := ints_of c
    have bi := vw_int ha
    have bj := vw_int hb
    have hl := lim_ok (i - j)
    have hs := (lim_vw (i - j)).scal
    clear bi bj
    refine ⟨limV (i - j), lim_vw _, (by first | exact .inl rfl | exact .inr ⟨_, rfl, rfl⟩ | exact .inr ⟨_, _, rfl, rfl, rfl⟩ | exact lim_rel rfl rfl | exact lim_rel2 rfl rfl rfl | exact .inr ⟨_, rfl, by rw [iabs_is]⟩), ?_⟩
    generalize limV (i - j) = v at *
    unfold d_subtracted b_subtracted
    refine runP_ap (g := [.dat (.int i), .dat (.int j)]) rfl rfl ?_
    walk_at "s"
    exact rfl
theorem r_days_added : BRel d_days_added (fun i j => i + j) := fun a b ha hb => by
  have h1 := isday_ok a ha
  have h2 := isi_ok b hb
  have pt : zOrT (zNotT (zTru (zCall d_is_day (zCons (zVar 0) (zNil))))) (zNotT (zTru (zCall d_is_integer (zCons (zVar 1) (zNil))))) [.dat a, .dat b] = some (!(dayB a && isI b), [.dat a, .dat b]) := by
    have t : zOrT (zNotT (zTru (zCall d_is_day (zCons (zVar 0) (zNil))))) (zNotT (zTru (zCall d_is_integer (zCons (zVar 1) (zNil))))) [.dat a, .dat b] = some (!dayB a || !isI b, [.dat a, .dat b]) := by
      generalize dayB a = x at *
      generalize isI b = y at *
      walk_at "e"
    rw [t]
    cases dayB a <;> cases isI b <;> rfl
  cases c : (dayB a && isI b) <;> rw [c] at pt
  · refine ⟨.non, trivial, (by first | exact .inl rfl | exact .inr ⟨_, rfl, rfl⟩ | exact .inr ⟨_, _, rfl, rfl, rfl⟩ | exact lim_rel rfl rfl | exact lim_rel2 rfl rfl rfl | exact .inr ⟨_, rfl, by rw [iabs_is]⟩), ?_⟩
    · unfold d_days_added b_days_added
      refine runP_ap (g := [.dat a, .dat b]) rfl rfl ?_
      refine sr_if pt rfl (fun _ => ?_) (fun q => by cases q)
      walk_at "s"
      exact rfl
  · obtain ⟨i, j, rfl, rfl, i0, i1⟩ := ints_of2 c
    by_cases hin : -719162 ≤ i + j ∧ i + j ≤ 2932896
    · have q1 : (decide (-719162 ≤ i + j) && decide (i + j ≤ 2932896)) = true := by rw [decide_eq_true hin.1, decide_eq_true hin.2]; rfl
      refine ⟨.int (i + j), show (i + j).natAbs ≤ 10 ^ 15 by omega, (by first | exact .inl rfl | exact .inr ⟨_, rfl, rfl⟩ | exact .inr ⟨_, _, rfl, rfl, rfl⟩ | exact lim_rel rfl rfl | exact lim_rel2 rfl rfl rfl | exact .inr ⟨_, rfl, by rw [iabs_is]⟩), ?_⟩
      · unfold d_days_added b_days_added
        refine runP_ap (g := [.dat (.int i), .dat (.int j)]) rfl rfl ?_
        refine sr_if pt rfl (fun q => by cases q) (fun _ => ?_)
        walk_at "s"
        have t : zTst (zChain leD leD (zC c_FIRST_DAY) (zOp addS (zVar 0) (zVar 1)) (zC c_LAST_DAY)) [.dat (.int i), .dat (.int j)] = some (decide (-719162 ≤ i + j) && decide (i + j ≤ 2932896), [.dat (.int i), .dat (.int j)]) := by walk_at "e"
        rw [q1] at t
        refine sr_if (er_notT t) rfl (fun q => by cases q) (fun _ => ?_)
        walk_at "s"
        walk_at "s"
        exact rfl
    · have q1 : (decide (-719162 ≤ i + j) && decide (i + j ≤ 2932896)) = false := by
        rw [Bool.eq_false_iff]
        intro z
        rw [Bool.and_eq_true, decide_eq_true_eq, decide_eq_true_eq] at z
        exact hin z
      refine ⟨.non, trivial, (by first | exact .inl rfl | exact .inr ⟨_, rfl, rfl⟩ | exact .inr ⟨_, _, rfl, rfl, rfl⟩ | exact lim_rel rfl rfl | exact lim_rel2 rfl rfl rfl | exact .inr ⟨_, rfl, by rw [iabs_is]⟩), ?_⟩
      · unfold d_days_added b_days_added
        refine runP_ap (g := [.dat (.int i), .dat (.int j)]) rfl rfl ?_
        refine sr_if pt rfl (fun q => by cases q) (fun _ => ?_)
        walk_at "s"
        have t : zTst (zChain leD leD (zC c_FIRST_DAY) (zOp addS (zVar 0) (zVar 1)) (zC c_LAST_DAY)) [.dat (.int i), .dat (.int j)] = some (decide (-719162 ≤ i + j) && decide (i + j ≤ 2932896), [.dat (.int i), .dat (.int j)]) := by walk_at "e"
        rw [q1] at t
        refine sr_if (er_notT t) rfl (fun _ => ?_) (fun q => by cases q)
        walk_at "s"
        exact rfl
theorem r_not (v : D) (h : VW v) : ∃ r, VW r ∧ (r = .non ∨ ∃ b, v = .bl b ∧ r = .bl (!b)) ∧ d_negated [v] = some (.dat r) := by
  have P : ∃ fr, d_negated [v] = some fr ∧ ∃ r, fr = .dat r ∧ VW r ∧ (r = .non ∨ ∃ b, v = .bl b ∧ r = .bl (!b)) := by
    cases v with
    | bl b =>
      unfold d_negated b_negated
      refine runP_post (g := [.dat (.bl b)]) rfl rfl ?_
      cases b <;> walk_at "w" <;> exact end_post rfl ⟨_, rfl, trivial, by first | exact .inl rfl | exact .inr ⟨_, rfl, rfl⟩⟩
    | non =>
      unfold d_negated b_negated
      refine runP_post (g := [.dat .non]) rfl rfl ?_
      walk_at "w" <;> exact end_post rfl ⟨_, rfl, trivial, .inl rfl⟩
    | int i =>
      unfold d_negated b_negated
      refine runP_post (g := [.dat (.int i)]) rfl rfl ?_
      walk_at "w" <;> exact end_post rfl ⟨_, rfl, trivial, .inl rfl⟩
    | str t =>
      unfold d_negated b_negated
      refine runP_post (g := [.dat (.str t)]) rfl rfl ?_
      walk_at "w" <;> exact end_post rfl ⟨_, rfl, trivial, .inl rfl⟩
    | _ => exact h.elim
  obtain ⟨fr, e, r, rfl, h1, h2⟩ := P
  exact ⟨r, h1, h2, e⟩
theorem r_both (a b : D) (ha : VW a) (hb : VW b) : ∃ r, VW r ∧ (r = .non ∨ (r = .bl true ∧ a = .bl true ∧ b = .bl true) ∨ (r = .bl false ∧ (a = .bl false ∨ b = .bl false))) ∧ d_both [a, b] = some (.dat r) := by
  have P : ∃ fr, d_both [a, b] = some fr ∧ ∃ r, fr = .dat r ∧ VW r ∧ (r = .non ∨ (r = .bl true ∧ a = .bl true ∧ b = .bl true) ∨ (r = .bl false ∧ (a = .bl false ∨ b = .bl false))) := by
    cases a with
    | non =>
      cases b with
      | non =>
        unfold d_both b_both
        refine runP_post (g := [.dat .non, .dat .non]) rfl rfl ?_
        walk_at "w" <;> exact end_post rfl ⟨_, rfl, trivial, (by first | exact .inl rfl | exact .inr (.inl ⟨rfl, rfl, rfl⟩) | exact .inr (.inr ⟨rfl, .inl rfl⟩) | exact .inr (.inr ⟨rfl, .inr rfl⟩))⟩
      | bl x2 =>
        unfold d_both b_both
        refine runP_post (g := [.dat .non, .dat (.bl x2)]) rfl rfl ?_
        cases x2 <;> walk_at "w" <;> exact end_post rfl ⟨_, rfl, trivial, (by first | exact .inl rfl | exact .inr (.inl ⟨rfl, rfl, rfl⟩) | exact .inr (.inr ⟨rfl, .inl rfl⟩) | exact .inr (.inr ⟨rfl, .inr rfl⟩))⟩
      | int i2 =>
        unfold d_both b_both
        refine runP_post (g := [.dat .non, .dat (.int i2)]) rfl rfl ?_
        walk_at "w" <;> exact end_post rfl ⟨_, rfl, trivial, (by first | exact .inl rfl | exact .inr (.inl ⟨rfl, rfl, rfl⟩) | exact .inr (.inr ⟨rfl, .inl rfl⟩) | exact .inr (.inr ⟨rfl, .inr rfl⟩))⟩
      | str t2 =>
        unfold d_both b_both
        refine runP_post (g := [.dat .non, .dat (.str t2)]) rfl rfl ?_
        walk_at "w" <;> exact end_post rfl ⟨_, rfl, trivial, (by first | exact .inl rfl | exact .inr (.inl ⟨rfl, rfl, rfl⟩) | exact .inr (.inr ⟨rfl, .inl rfl⟩) | exact .inr (.inr ⟨rfl, .inr rfl⟩))⟩
      | _ => exact hb.elim
    | bl x1 =>
      cases b with
      | non =>
        unfold d_both b_both
        refine runP_post (g := [.dat (.bl x1), .dat .non]) rfl rfl ?_
        cases x1 <;> walk_at "w" <;> exact end_post rfl ⟨_, rfl, trivial, (by first | exact .inl rfl | exact .inr (.inl ⟨rfl, rfl, rfl⟩) | exact .inr (.inr ⟨rfl, .inl rfl⟩) | exact .inr (.inr ⟨rfl, .inr rfl⟩))⟩
      | bl x2 =>
        unfold d_both b_both
        refine runP_post (g := [.dat (.bl x1), .dat (.bl x2)]) rfl rfl ?_
        cases x1 <;> cases x2 <;> walk_at "w" <;> exact end_post rfl ⟨_, rfl, trivial, (by first | exact .inl rfl | exact .inr (.inl ⟨rfl, rfl, rfl⟩) | exact .inr (.inr ⟨rfl, .inl rfl⟩) | exact .inr (.inr ⟨rfl, .inr rfl⟩))⟩
      | int i2 =>
        unfold d_both b_both
        refine runP_post (g := [.dat (.bl x1), .dat (.int i2)]) rfl rfl ?_
        cases x1 <;> walk_at "w" <;> exact end_post rfl ⟨_, rfl, trivial, (by first | exact .inl rfl | exact .inr (.inl ⟨rfl, rfl, rfl⟩) | exact .inr (.inr ⟨rfl, .inl rfl⟩) | exact .inr (.inr ⟨rfl, .inr rfl⟩))⟩
      | str t2 =>
        unfold d_both b_both
        refine runP_post (g := [.dat (.bl x1), .dat (.str t2)]) rfl rfl ?_
        cases x1 <;> walk_at "w" <;> exact end_post rfl ⟨_, rfl, trivial, (by first | exact .inl rfl | exact .inr (.inl ⟨rfl, rfl, rfl⟩) | exact .inr (.inr ⟨rfl, .inl rfl⟩) | exact .inr (.inr ⟨rfl, .inr rfl⟩))⟩
      | _ => exact hb.elim
    | int i1 =>
      cases b with
      | non =>
        unfold d_both b_both
        refine runP_post (g := [.dat (.int i1), .dat .non]) rfl rfl ?_
        walk_at "w" <;> exact end_post rfl ⟨_, rfl, trivial, (by first | exact .inl rfl | exact .inr (.inl ⟨rfl, rfl, rfl⟩) | exact .inr (.inr ⟨rfl, .inl rfl⟩) | exact .inr (.inr ⟨rfl, .inr rfl⟩))⟩
      | bl x2 =>
        unfold d_both b_both
        refine runP_post (g := [.dat (.int i1), .dat (.bl x2)]) rfl rfl ?_
        cases x2 <;> walk_at "w" <;> exact end_post rfl ⟨_, rfl, trivial, (by first | exact .inl rfl | exact .inr (.inl ⟨rfl, rfl, rfl⟩) | exact .inr (.inr ⟨rfl, .inl rfl⟩) | exact .inr (.inr ⟨rfl, .inr rfl⟩))⟩
      | int i2 =>
        unfold d_both b_both
        refine runP_post (g := [.dat (.int i1), .dat (.int i2)]) rfl rfl ?_
        walk_at "w" <;> exact end_post rfl ⟨_, rfl, trivial, (by first | exact .inl rfl | exact .inr (.inl ⟨rfl, rfl, rfl⟩) | exact .inr (.inr ⟨rfl, .inl rfl⟩) | exact .inr (.inr ⟨rfl, .inr rfl⟩))⟩
      | str t2 =>
        unfold d_both b_both
        refine runP_post (g := [.dat (.int i1), .dat (.str t2)]) rfl rfl ?_
        walk_at "w" <;> exact end_post rfl ⟨_, rfl, trivial, (by first | exact .inl rfl | exact .inr (.inl ⟨rfl, rfl, rfl⟩) | exact .inr (.inr ⟨rfl, .inl rfl⟩) | exact .inr (.inr ⟨rfl, .inr rfl⟩))⟩
      | _ => exact hb.elim
    | str t1 =>
      cases b with
      | non =>
        unfold d_both b_both
        refine runP_post (g := [.dat (.str t1), .dat .non]) rfl rfl ?_
        walk_at "w" <;> exact end_post rfl ⟨_, rfl, trivial, (by first | exact .inl rfl | exact .inr (.inl ⟨rfl, rfl, rfl⟩) | exact .inr (.inr ⟨rfl, .inl rfl⟩) | exact .inr (.inr ⟨rfl, .inr rfl⟩))⟩
      | bl x2 =>
        unfold d_both b_both
        refine runP_post (g := [.dat (.str t1), .dat (.bl x2)]) rfl rfl ?_
        cases x2 <;> walk_at "w" <;> exact end_post rfl ⟨_, rfl, trivial, (by first | exact .inl rfl | exact .inr (.inl ⟨rfl, rfl, rfl⟩) | exact .inr (.inr ⟨rfl, .inl rfl⟩) | exact .inr (.inr ⟨rfl, .inr rfl⟩))⟩
      | int i2 =>
        unfold d_both b_both
        refine runP_post (g := [.dat (.str t1), .dat (.int i2)]) rfl rfl ?_
        walk_at "w" <;> exact end_post rfl ⟨_, rfl, trivial, (by first | exact .inl rfl | exact .inr (.inl ⟨rfl, rfl, rfl⟩) | exact .inr (.inr ⟨rfl, .inl rfl⟩) | exact .inr (.inr ⟨rfl, .inr rfl⟩))⟩
      | str t2 =>
        unfold d_both b_both
        refine runP_post (g := [.dat (.str t1), .dat (.str t2)]) rfl rfl ?_
        walk_at "w" <;> exact end_post rfl ⟨_, rfl, trivial, (by first | exact .inl rfl | exact .inr (.inl ⟨rfl, rfl, rfl⟩) | exact .inr (.inr ⟨rfl, .inl rfl⟩) | exact .inr (.inr ⟨rfl, .inr rfl⟩))⟩
      | _ => exact hb.elim
    | _ => exact ha.elim
  obtain ⟨fr, e, r, rfl, h1, h2⟩ := P
  exact ⟨r, h1, h2, e⟩
theorem r_either (a b : D) (ha : VW a) (hb : VW b) : ∃ r, VW r ∧ (r = .non ∨ (r = .bl false ∧ a = .bl false ∧ b = .bl false) ∨ (r = .bl true ∧ (a = .bl true ∨ b = .bl true))) ∧ d_either [a, b] = some (.dat r) := by
  have P : ∃ fr, d_either [a, b] = some fr ∧ ∃ r, fr = .dat r ∧ VW r ∧ (r = .non ∨ (r = .bl false ∧ a = .bl false ∧ b = .bl false) ∨ (r = .bl true ∧ (a = .bl true ∨ b = .bl true))) := by
    cases a with
    | non =>
      cases b with
      | non =>
        unfold d_either b_either
        refine runP_post (g := [.dat .non, .dat .non]) rfl rfl ?_
        walk_at "w" <;> exact end_post rfl ⟨_, rfl, trivial, (by first | exact .inl rfl | exact .inr (.inl ⟨rfl, rfl, rfl⟩) | exact .inr (.inr ⟨rfl, .inl rfl⟩) | exact .inr (.inr ⟨rfl, .inr rfl⟩))⟩
      | bl x2 =>
        unfold d_either b_either
        refine runP_post (g := [.dat .non, .dat (.bl x2)]) rfl rfl ?_
        cases x2 <;> walk_at "w" <;> exact end_post rfl ⟨_, rfl, trivial, (by first | exact .inl rfl | exact .inr (.inl ⟨rfl, rfl, rfl⟩) | exact .inr (.inr ⟨rfl, .inl rfl⟩) | exact .inr (.inr ⟨rfl, .inr rfl⟩))⟩
      | int i2 =>
        unfold d_either b_either
        refine runP_post (g := [.dat .non, .dat (.int i2)]) rfl rfl ?_
        walk_at "w" <;> exact end_post rfl ⟨_, rfl, trivial, (by first | exact .inl rfl | exact .inr (.inl ⟨rfl, rfl, rfl⟩) | exact .inr (.inr ⟨rfl, .inl rfl⟩) | exact .inr (.inr ⟨rfl, .inr rfl⟩))⟩
      | str t2 =>
        unfold d_either b_either
        refine runP_post (g := [.dat .non, .dat (.str t2)]) rfl rfl ?_
        walk_at "w" <;> exact end_post rfl ⟨_, rfl, trivial, (by first | exact .inl rfl | exact .inr (.inl ⟨rfl, rfl, rfl⟩) | exact .inr (.inr ⟨rfl, .inl rfl⟩) | exact .inr (.inr ⟨rfl, .inr rfl⟩))⟩
      | _ => exact hb.elim
    | bl x1 =>
      cases b with
      | non =>
        unfold d_either b_either
        refine runP_post (g := [.dat (.bl x1), .dat .non]) rfl rfl ?_
        cases x1 <;> walk_at "w" <;> exact end_post rfl ⟨_, rfl, trivial, (by first | exact .inl rfl | exact .inr (.inl ⟨rfl, rfl, rfl⟩) | exact .inr (.inr ⟨rfl, .inl rfl⟩) | exact .inr (.inr ⟨rfl, .inr rfl⟩))⟩
      | bl x2 =>
        unfold d_either b_either
        refine runP_post (g := [.dat (.bl x1), .dat (.bl x2)]) rfl rfl ?_
        cases x1 <;> cases x2 <;> walk_at "w" <;> exact end_post rfl ⟨_, rfl, trivial, (by first | exact .inl rfl | exact .inr (.inl ⟨rfl, rfl, rfl⟩) | exact .inr (.inr ⟨rfl, .inl rfl⟩) | exact .inr (.inr ⟨rfl, .inr rfl⟩))⟩
      | int i2 =>
        unfold d_either b_either
        refine runP_post (g := [.dat (.bl x1), .dat (.int i2)]) rfl rfl ?_
        cases x1 <;> walk_at "w" <;> exact end_post rfl ⟨_, rfl, trivial, (by first | exact .inl rfl | exact .inr (.inl ⟨rfl, rfl, rfl⟩) | exact .inr (.inr ⟨rfl, .inl rfl⟩) | exact .inr (.inr ⟨rfl, .inr rfl⟩))⟩
      | str t2 =>
        unfold d_either b_either
        refine runP_post (g := [.dat (.bl x1), .dat (.str t2)]) rfl rfl ?_
        cases x1 <;> walk_at "w" <;> exact end_post rfl ⟨_, rfl, trivial, (by first | exact .inl rfl | exact .inr (.inl ⟨rfl, rfl, rfl⟩) | exact .inr (.inr ⟨rfl, .inl rfl⟩) | exact .inr (.inr ⟨rfl, .inr rfl⟩))⟩
      | _ => exact hb.elim
    | int i1 =>
      cases b with
      | non =>
        unfold d_either b_either
        refine runP_post (g := [.dat (.int i1), .dat .non]) rfl rfl ?_
        walk_at "w" <;> exact end_post rfl ⟨_, rfl, trivial, (by first | exact .inl rfl | exact .inr (.inl ⟨rfl, rfl, rfl⟩) | exact .inr (.inr ⟨rfl, .inl rfl⟩) | exact .inr (.inr ⟨rfl, .inr rfl⟩))⟩
      | bl x2 =>
        unfold d_either b_either
        refine runP_post (g := [.dat (.int i1), .dat (.bl x2)]) rfl rfl ?_
        cases x2 <;> walk_at "w" <;> exact end_post rfl ⟨_, rfl, trivial, (by first | exact .inl rfl | exact .inr (.inl ⟨rfl, rfl, rfl⟩) | exact .inr (.inr ⟨rfl, .inl rfl⟩) | exact .inr (.inr ⟨rfl, .inr rfl⟩))⟩
      | int i2 =>
        unfold d_either b_either
        refine runP_post (g := [.dat (.int i1), .dat (.int i2)]) rfl rfl ?_
        walk_at "w" <;> exact end_post rfl ⟨_, rfl, trivial, (by first | exact .inl rfl | exact .inr (.inl ⟨rfl, rfl, rfl⟩) | exact .inr (.inr ⟨rfl, .inl rfl⟩) | exact .inr (.inr ⟨rfl, .inr rfl⟩))⟩
      | str t2 =>
        unfold d_either b_either
        refine runP_post (g := [.dat (.int i1), .dat (.str t2)]) rfl rfl ?_
        walk_at "w" <;> exact end_post rfl ⟨_, rfl, trivial, (by first | exact .inl rfl | exact .inr (.inl ⟨rfl, rfl, rfl⟩) | exact .inr (.inr ⟨rfl, .inl rfl⟩) | exact .inr (.inr ⟨rfl, .inr rfl⟩))⟩
      | _ => exact hb.elim
    | str t1 =>
      cases b with
      | non =>
        unfold d_either b_either
        refine runP_post (g := [.dat (.str t1), .dat .non]) rfl rfl ?_
        walk_at "w" <;> exact end_post rfl ⟨_, rfl, trivial, (by first | exact .inl rfl | exact .inr (.inl ⟨rfl, rfl, rfl⟩) | exact .inr (.inr ⟨rfl, .inl rfl⟩) | exact .inr (.inr ⟨rfl, .inr rfl⟩))⟩
      | bl x2 =>
        unfold d_either b_either
        refine runP_post (g := [.dat (.str t1), .dat (.bl x2)]) rfl rfl ?_
        cases x2 <;> walk_at "w" <;> exact end_post rfl ⟨_, rfl, trivial, (by first | exact .inl rfl | exact .inr (.inl ⟨rfl, rfl, rfl⟩) | exact .inr (.inr ⟨rfl, .inl rfl⟩) | exact .inr (.inr ⟨rfl, .inr rfl⟩))⟩
      | int i2 =>
        unfold d_either b_either
        refine runP_post (g := [.dat (.str t1), .dat (.int i2)]) rfl rfl ?_
        walk_at "w" <;> exact end_post rfl ⟨_, rfl, trivial, (by first | exact .inl rfl | exact .inr (.inl ⟨rfl, rfl, rfl⟩) | exact .inr (.inr ⟨rfl, .inl rfl⟩) | exact .inr (.inr ⟨rfl, .inr rfl⟩))⟩
      | str t2 =>
        unfold d_either b_either
        refine runP_post (g := [.dat (.str t1), .dat (.str t2)]) rfl rfl ?_
        walk_at "w" <;> exact end_post rfl ⟨_, rfl, trivial, (by first | exact .inl rfl | exact .inr (.inl ⟨rfl, rfl, rfl⟩) | exact .inr (.inr ⟨rfl, .inl rfl⟩) | exact .inr (.inr ⟨rfl, .inr rfl⟩))⟩
      | _ => exact hb.elim
    | _ => exact ha.elim
  obtain ⟨fr, e, r, rfl, h1, h2⟩ := P
  exact ⟨r, h1, h2, e⟩
theorem r_is_null (v : D) (h : VW v) : ∃ b, d_is_null [v] = some (.dat (.bl b)) ∧ (b = true → v = .non) ∧ (b = false → v ≠ .non) := by
  have P : ∀ b, isD v .non = some (.bl b) → d_is_null [v] = some (.dat (.bl b)) := fun b hb => by
    unfold d_is_null b_is_null
    refine runP_ap (g := [.dat v]) rfl rfl ?_
    walk_at "s"
    exact rfl
  cases v with
  | non => exact ⟨true, P true rfl, fun _ => rfl, fun q => (by cases q)⟩
  | bl b => exact ⟨false, P false rfl, fun q => (by cases q), fun _ q => (by cases q)⟩
  | int i => exact ⟨false, P false rfl, fun q => (by cases q), fun _ q => (by cases q)⟩
  | str t => exact ⟨false, P false rfl, fun q => (by cases q), fun _ q => (by cases q)⟩
  | _ => exact h.elim
theorem r_coalesce (a b : D) (ha : VW a) (hb : VW b) : ∃ r, VW r ∧ (r = a ∨ r = b) ∧ d_coalesce [a, b] = some (.dat r) := by
  have hn : isD a .non = some (.bl (nonB a)) := by cases a <;> first | exact ha.elim | rfl
  have s1 := ha.scal
  have s2 := hb.scal
  cases c : nonB a <;> rw [c] at hn
  · refine ⟨a, ha, .inl rfl, ?_⟩
    unfold d_coalesce b_coalesce
    refine runP_ap (g := [.dat a, .dat b]) rfl rfl ?_
    walk_at "s"
    exact rfl
  · refine ⟨b, hb, .inr rfl, ?_⟩
    unfold d_coalesce b_coalesce
    refine runP_ap (g := [.dat a, .dat b]) rfl rfl ?_
    walk_at "s"
    exact rfl
namespace Sp
theorem rank_ok (v : D) (h : VD v) : d_rank [v] = some (.dat (rk v)) := by
  cases v with
  | non =>
    unfold d_rank b_rank
    refine runP_ap (g := [.dat .non]) rfl rfl ?_
    walk_at "w"
    exact rfl
  | bl b =>
    unfold d_rank b_rank
    refine runP_ap (g := [.dat (.bl b)]) rfl rfl ?_
    walk_at "w"
    exact rfl
  | int i =>
    unfold d_rank b_rank
    refine runP_ap (g := [.dat (.int i)]) rfl rfl ?_
    walk_at "w"
    exact rfl
  | str t =>
    unfold d_rank b_rank
    refine runP_ap (g := [.dat (.str t)]) rfl rfl ?_
    walk_at "w"
    exact rfl
  | _ => exact h.elim
theorem lrank_eq : d__law_rank = d_rank := rfl
theorem lint_eq : d__law_is_integer = d_is_integer := rfl
theorem vd_pl {v : D} (h : VD v) : PlV v := by cases v <;> first | exact h.elim | trivial
def lt (a b : D) : Bool := decide (vC a < vC b)
theorem less_ok {a b : D} (ha : VD a) (hb : VD b) : d_before [a, b] = some (.dat (.bl (lt a b))) := by
  have e : ltR [a] [b] = lt a b := by
    show (if sameV a b = true then ltR [] [] else ltV a b) = _
    unfold lt
    rw [vC_lt (vd_pl ha) (vd_pl hb)]
    split
    · rename_i h
      rw [triV ha hb, Bool.and_eq_true] at h
      have := h.1
      cases z : ltV a b with
      | false => rfl
      | true => rw [z] at this; cases this
    · rfl
  have h1 := rank_ok a ha
  have h2 := rank_ok b hb
  have h3 := lt_rk ha hb
  rw [e] at h3
  unfold d_before b_before
  refine runP_ap (g := [.dat a, .dat b]) rfl rfl ?_
  refine sr_ret (er_op (er_callG (er_cons rfl er_nil) rfl rfl h1 rfl) (er_callG (er_cons rfl er_nil) rfl rfl h2 rfl) rfl rfl h3 rfl) ?_
  exact rfl
/-- a bound of a span -/
def BV (B : Nat) (v : D) : Prop := match v with
  | .bl _ => True
  | .int i => i.natAbs ≤ B
  | .str t => t.length ≤ 200 ∧ ∀ c ∈ t, c < 1114112
  | _ => False
theorem BV.up {B B' : Nat} {v : D} (h : BV B v) (hb : B ≤ B') : BV B' v := by
  cases v <;> first | exact h | exact Nat.le_trans h hb
theorem BV.vd {B : Nat} {v : D} (h : BV B v) (hb : B < 10 ^ 60) : VD v := by
  cases v <;> first | exact h | exact Nat.lt_of_le_of_lt h hb | exact h.elim
theorem BV.non {B : Nat} {v : D} (h : BV B v) : isD v .non = some (.bl false) ∧ isntD v .non = some (.bl true) := by
  cases v <;> first | exact ⟨rfl, rfl⟩ | exact h.elim
def isI : D → Bool
  | .int _ => true
  | _ => false
theorem isint_ok {B : Nat} {v : D} (h : BV B v) : d_is_integer [v] = some (.dat (.bl (isI v))) := by
  cases v with
  | bl b =>
    unfold d_is_integer b_is_integer
    refine runP_ap (g := [.dat (.bl b)]) rfl rfl ?_
    walk_at "w"
    exact rfl
  | int i =>
    unfold d_is_integer b_is_integer
    refine runP_ap (g := [.dat (.int i)]) rfl rfl ?_
    walk_at "w"
    exact rfl
  | str t =>
    unfold d_is_integer b_is_integer
    refine runP_ap (g := [.dat (.str t)]) rfl rfl ?_
    walk_at "w"
    exact rfl
  | _ => exact h.elim
theorem isint_non : d_is_integer [.non] = some (.dat (.bl false)) := by
  unfold d_is_integer b_is_integer
  refine runP_ap (g := [.dat .non]) rfl rfl ?_
  walk_at "w"
  exact rfl
inductive Spn | any | nul (n : Bool) | rng (n : Bool) (a b : D)
abbrev sANY : List Nat := [97, 110, 121]
def SD : Spn → D
  | .any => .str sANY
  | .nul n => .tup [.bl n, .non, .non]
  | .rng n a b => .tup [.bl n, a, b]
def SOk (B : Nat) : Spn → Prop
  | .rng _ a b => BV B a ∧ BV B b ∧ lt b a = false
  | _ => True
theorem SOk.up {B B' : Nat} {s : Spn} (h : SOk B s) (hb : B ≤ B') : SOk B' s := by
  cases s <;> first | trivial | exact ⟨h.1.up hb, h.2.1.up hb, h.2.2⟩
theorem bv_flat {B : Nat} {v : D} (h : BV B v) (hb : B < 10 ^ 60) : v.rok = true ∧ v.dp = 0 ∧ v.wt ≤ 200 := by
  have f := (h.vd hb).flat
  refine ⟨f.1, ?_, f.2.2⟩
  cases v <;> first | rfl | exact h.elim
theorem sd_rok {B : Nat} {s : Spn} (h : SOk B s) (hb : B < 10 ^ 60) : (SD s).rok = true ∧ (SD s).dp ≤ 1 ∧ (SD s).wt ≤ 1000 := by
  cases s with
  | any => exact ⟨by decide, by decide, by decide⟩
  | nul n => cases n <;> exact ⟨by decide, by decide, by decide⟩
  | rng n a b =>
    obtain ⟨a1, a2, a3⟩ := bv_flat h.1 hb
    obtain ⟨b1, b2, b3⟩ := bv_flat h.2.1 hb
    refine ⟨?_, ?_, ?_⟩
    · show (true && (a.rok && (b.rok && true))) = true
      rw [a1, b1]; rfl
    · show max (D.bl n).dp (max a.dp (max b.dp 0)) + 1 ≤ 1
      rw [a2, b2]; simp [D.dp]
    · show (D.bl n).wt + 1 + (a.wt + 1 + (b.wt + 1 + 0)) ≤ _ 
      have : (D.bl n).wt ≤ 200 := by cases n <;> decide
      omega
structure VT (e : D) (n : Bool) (a b : D) : Prop where
  eA : eqD e c_ANY = some (.bl false)
  nA : neqD e c_ANY = some (.bl true)
  i0 : ixD e 0 = some (.bl n)
  i1 : ixD e 1 = some a
  i2 : ixD e 2 = some b
  ref : isRef e = true
theorem nul_vt (n : Bool) : VT (SD (.nul n)) n .non .non := by
  have r := sd_rok (B := 0) (s := .nul n) trivial (by decide)
  refine ⟨?_, ?_, rfl, rfl, rfl, rfl⟩
  · rw [dr_eqR r.1 (by omega) (by decide) (by decide)]; rfl
  · rw [dr_neR r.1 (by omega) (by decide) (by decide)]; rfl
theorem rng_vt {B : Nat} {n : Bool} {a b : D} (h : SOk B (.rng n a b)) (hb : B < 10 ^ 60) : VT (SD (.rng n a b)) n a b := by
  have r := sd_rok h hb
  refine ⟨?_, ?_, rfl, rfl, rfl, rfl⟩
  · rw [dr_eqR r.1 (by omega) (by decide) (by decide)]; rfl
  · rw [dr_neR r.1 (by omega) (by decide) (by decide)]; rfl
def truS (n y c : Bool) : Spn := if (!y && !c) = true then .nul n else .rng n (.bl !c) (.bl y)
theorem tru_ok (n y c : Bool) : d_truth_span [.bl n, .bl y, .bl c] = some (.dat (SD (truS n y c))) ∧ d_truth_span [.bl n, .bl y, .bl c] = some (.dat (SD (truS n y c))) := by
  cases n <;> cases y <;> cases c <;> exact ⟨rfl, rfl⟩
theorem tru_sok (B : Nat) (n y c : Bool) : SOk B (truS n y c) := by
  cases n <;> cases y <;> cases c <;> first | trivial | exact ⟨trivial, trivial, by decide⟩
def canS (s : Spn) (t : Bool) : Bool := match s with
  | .any => true
  | .nul _ => false
  | .rng _ a b => !lt (.bl t) a && !lt b (.bl t)
theorem can_ok {B : Nat} {s : Spn} (h : SOk B s) (hb : B < 10 ^ 60) (t : Bool) : d_can_be [SD s, .bl t] = some (.dat (.bl (canS s t))) := by
  cases s with
  | any => cases t <;> rfl
  | nul n =>
    obtain ⟨f1, f2, f3, f4, f5, f6⟩ := nul_vt n
    generalize SD (.nul n) = e at *
    unfold d_can_be b_can_be
    refine runP_ap (g := [.dat e, .dat (.bl t)]) rfl rfl ?_
    walk_at "w"
    exact rfl
  | rng n a b =>
    obtain ⟨f1, f2, f3, f4, f5, f6⟩ := rng_vt h hb
    have g1 := less_ok (a := .bl t) trivial (h.1.vd hb)
    have g2 := less_ok (b := .bl t) (h.2.1.vd hb) trivial
    have g3 := h.1.non.1
    generalize SD (.rng n a b) = e at *
    unfold d_can_be b_can_be
    refine runP_ap (g := [.dat e, .dat (.bl t)]) rfl rfl ?_
    walk_at "w"
    show some (FR.dat (D.bl _)) = _
    congr 3
def nnS : Spn → Bool
  | .any => true
  | .nul n => n
  | .rng n _ _ => n
def hvS : Spn → Bool
  | .rng _ _ _ => true
  | _ => false
def anS : Spn → Bool
  | .any => true
  | _ => false
theorem may_ok {B : Nat} {s : Spn} (h : SOk B s) (hb : B < 10 ^ 60) : d_may_be_none [SD s] = some (.dat (.bl (nnS s))) := by
  cases s with
  | any => rfl
  | nul n =>
    obtain ⟨f1, f2, f3, f4, f5, f6⟩ := nul_vt n
    generalize SD (.nul n) = e at *
    unfold d_may_be_none b_may_be_none
    refine runP_ap (g := [.dat e]) rfl rfl ?_
    walk_at "w"
    exact rfl
  | rng n a b =>
    obtain ⟨f1, f2, f3, f4, f5, f6⟩ := rng_vt h hb
    generalize SD (.rng n a b) = e at *
    unfold d_may_be_none b_may_be_none
    refine runP_ap (g := [.dat e]) rfl rfl ?_
    walk_at "w"
    exact rfl
theorem has_ok {B : Nat} {s : Spn} (h : SOk B s) (hb : B < 10 ^ 60) : d_has_values [SD s] = some (.dat (.bl (hvS s))) := by
  cases s with
  | any => rfl
  | nul n =>
    obtain ⟨f1, f2, f3, f4, f5, f6⟩ := nul_vt n
    generalize SD (.nul n) = e at *
    unfold d_has_values b_has_values
    refine runP_ap (g := [.dat e]) rfl rfl ?_
    walk_at "w"
    exact rfl
  | rng n a b =>
    obtain ⟨f1, f2, f3, f4, f5, f6⟩ := rng_vt h hb
    have g3 := h.1.non.2
    generalize SD (.rng n a b) = e at *
    unfold d_has_values b_has_values
    refine runP_ap (g := [.dat e]) rfl rfl ?_
    walk_at "w"
    exact rfl
def numS : Spn → Option (Int × Int)
  | .rng _ (.int l) (.int h) => some (l, h)
  | _ => none
theorem numS_rng (n : Bool) (a b : D) : (numS (.rng n a b)).isSome = (isI a && isI b) := by
  cases a <;> cases b <;> rfl
theorem range_ok {B : Nat} {s : Spn} (h : SOk B s) (hb : B < 10 ^ 60) : d_is_range [SD s] = some (.dat (.bl (numS s).isSome)) := by
  cases s with
  | any => rfl
  | nul n =>
    obtain ⟨f1, f2, f3, f4, f5, f6⟩ := nul_vt n
    have g1 := isint_non
    generalize SD (.nul n) = e at *
    unfold d_is_range b_is_range
    refine runP_ap (g := [.dat e]) rfl rfl ?_
    walk_at "w"
    exact rfl
  | rng n a b =>
    obtain ⟨f1, f2, f3, f4, f5, f6⟩ := rng_vt h hb
    have g1 := isint_ok h.1
    have g2 := isint_ok h.2.1
    rw [numS_rng]
    generalize SD (.rng n a b) = e at *
    unfold d_is_range b_is_range
    refine runP_ap (g := [.dat e]) rfl rfl ?_
    walk_at "w"
    show some (FR.dat (D.bl _)) = _
    congr 3
theorem numS_some {s : Spn} {q : Int × Int} (h : numS s = some q) : ∃ n, s = .rng n (.int q.1) (.int q.2) := by
  cases s with
  | any => cases h
  | nul n => cases h
  | rng n a b =>
    cases a <;> cases b <;> first | (cases h; exact ⟨n, rfl⟩) | cases h
abbrev sNOT : List Nat := [110, 111, 116]
abbrev sISN : List Nat := [105, 115, 32, 110, 117, 108, 108]
abbrev sNEG : List Nat := [110, 101, 103, 97, 116, 101]
abbrev sABS : List Nat := [97, 98, 115]
abbrev sTOD : List Nat := [116, 111, 32, 100, 101, 99, 105, 109, 97, 108]
abbrev sASDA : List Nat := [97, 115, 32, 100, 97, 116, 101]
abbrev sASDE : List Nat := [97, 115, 32, 100, 101, 99, 105, 109, 97, 108]
def unN (nm : List Nat) (l h : Int) : Spn :=
  if (nm == sNEG) = true then .rng true (.int (-h)) (.int (-l))
  else if (nm == sABS) = true then .rng true (.int (max (max l (-h)) 0)) (.int (if h > -l then h else -l))
  else if (nm == sTOD) = true then .rng true (.int (10000 * l)) (.int (10000 * h))
  else if (nm == sASDA || nm == sASDE) = true then .rng true (.int l) (.int h)
  else .any
def unS (nm : List Nat) (s : Spn) : Spn :=
  if (nm == sNOT) = true then truS true (canS s false) (canS s true)
  else if (nm == sISN) = true then truS false (nnS s) (anS s || hvS s)
  else match numS s with
    | none => .any
    | some q => unN nm q.1 q.2
theorem eqS (a b : List Nat) : eqD (.str a) (.str b) = some (.bl (a == b)) := rfl
theorem in2 (f a b : List Nat) : inD (.str f) (.tup [.str a, .str b]) = some (.bl (f == a || f == b)) := by
  show some (D.bl ((a == f) || ((b == f) || false))) = some (D.bl (f == a || f == b))
  rw [Bool.or_false, show (a == f) = (f == a) from BEq.comm, show (b == f) = (f == b) from BEq.comm]
local macro_rules | `(tactic| walk_at "d") => `(tactic| first | with_reducible exact eqS _ _ | with_reducible exact in2 _ _ _)
theorem un_ok {B : Nat} {nm : List Nat} {s : Spn} (h : SOk B s) (hb : B < 10 ^ 60) : d_unary_span [.str nm, SD s] = some (.dat (SD (unS nm s))) := by
  have c1 := can_ok h hb true
  have c0 := can_ok h hb false
  have t1 := (tru_ok true (canS s false) (canS s true)).1
  have t2 := (tru_ok false (nnS s) (anS s || hvS s)).1
  have m1 := may_ok h hb
  have m2 := has_ok h hb
  have r := range_ok h hb
  have ea : eqD (SD s) c_ANY = some (.bl (anS s)) := by
    cases s with
    | any => rfl
    | nul n => exact (nul_vt n).eA
    | rng n a b => exact (rng_vt h hb).eA
  unfold unS
  cases hn : numS s with
  | none =>
    rw [hn] at r
    have r : d_is_range [SD s] = some (.dat (.bl false)) := r
    generalize canS s true = k1 at *
    generalize canS s false = k0 at *
    generalize nnS s = k2 at *
    generalize anS s = k3 at *
    generalize hvS s = k4 at *
    generalize SD s = e at *
    unfold d_unary_span b_unary_span
    refine runP_ap (g := [.dat (.str nm), .dat e, .un, .un]) rfl rfl ?_
    walk_at "w"
    all_goals (show some (FR.dat _) = some (FR.dat _); simp only [beq_iff_eq, *, if_true, if_false, ↓reduceIte, reduceCtorEq]; try rfl)
  | some q =>
    obtain ⟨n, rfl⟩ := numS_some hn
    obtain ⟨l, hh⟩ := q
    obtain ⟨f1, f2, f3, f4, f5, f6⟩ := rng_vt h hb
    rw [hn] at r
    have r : d_is_range [SD (.rng n (.int l) (.int hh))] = some (.dat (.bl true)) := r
    generalize canS (.rng n (.int l) (.int hh)) true = k1 at *
    generalize canS (.rng n (.int l) (.int hh)) false = k0 at *
    generalize nnS (.rng n (.int l) (.int hh)) = k2 at *
    generalize anS (.rng n (.int l) (.int hh)) = k3 at *
    generalize hvS (.rng n (.int l) (.int hh)) = k4 at *
    generalize SD (.rng n (.int l) (.int hh)) = e at *
    unfold d_unary_span b_unary_span
    refine runP_ap (g := [.dat (.str nm), .dat e, .un, .un]) rfl rfl ?_
    walk_at "w"
    all_goals (show some (FR.dat _) = some (FR.dat _); simp only [unN, Bool.or_eq_true, beq_iff_eq, *, if_true, if_false, ↓reduceIte, reduceCtorEq]; try rfl)
local macro_rules | `(tactic| walk_at "e") => `(tactic| with_reducible assumption)
def cmpN (nm : List Nat) (a1 b1 a2 b2 : D) : Spn :=
  if (nm == [101, 113, 117, 97, 108]) = true then truS true (!lt b1 a2 && !lt b2 a1) true
  else if (nm == [108, 101, 115, 115]) = true then truS true (lt a1 b2) (!lt b1 a2)
  else truS true (!lt b2 a1) (lt a2 b1)
def cmpS (nm : List Nat) : Spn → Spn → Spn
  | .nul _, _ => .nul true
  | _, .nul _ => .nul true
  | .any, _ => .rng true (.bl false) (.bl true)
  | _, .any => .rng true (.bl false) (.bl true)
  | .rng _ a1 b1, .rng _ a2 b2 => cmpN nm a1 b1 a2 b2
theorem lt_trans {a b c : D} (h1 : lt b a = false) (h2 : lt c b = false) : lt c a = false := (ZS.swo_code vC).2 a b c h1 h2
local macro_rules | `(tactic| walk_at "d") => `(tactic| first | with_reducible exact eqS _ _)
/-- the view of a span -/
inductive Vw (B : Nat) : Spn → Prop
  | any : eqD (SD .any) c_ANY = some (.bl true) → neqD (SD .any) c_ANY = some (.bl false) → Vw B .any
  | nul {n : Bool} : VT (SD (.nul n)) n .non .non → Vw B (.nul n)
  | rng {n : Bool} {a b : D} : VT (SD (.rng n a b)) n a b → BV B a → BV B b → lt b a = false → Vw B (.rng n a b)
theorem vw_of {B : Nat} {s : Spn} (h : SOk B s) (hb : B < 10 ^ 60) : Vw B s := by
  cases s with
  | any => exact .any rfl rfl
  | nul n => exact .nul (nul_vt n)
  | rng n a b => exact .rng (rng_vt h hb) h.1 h.2.1 h.2.2
theorem cmp_ok {B : Nat} {nm : List Nat} {s t : Spn} (h : SOk B s) (k : SOk B t) (hb : B < 10 ^ 60) : d_compared_span [.str nm, SD s, SD t] = some (.dat (SD (cmpS nm s t))) := by
  cases vw_of h hb with
  | any a1 a2 =>
    cases vw_of k hb with
    | any b1 b2 =>
      unfold d_compared_span b_compared_span
      refine runP_ap (g := [.dat (.str nm), .dat (SD .any), .dat (SD .any)]) rfl rfl ?_
      walk_at "w"
      exact rfl
    | nul v =>
      rename_i m
      obtain ⟨f1, f2, f3, f4, f5, f6⟩ := v
      show d_compared_span [.str nm, SD .any, SD (.nul m)] = some (.dat (SD (.nul true)))
      generalize SD (.nul m) = e at *
      unfold d_compared_span b_compared_span
      refine runP_ap (g := [.dat (.str nm), .dat (SD .any), .dat e]) rfl rfl ?_
      walk_at "w"
      exact rfl
    | rng v x y z =>
      rename_i m a b
      obtain ⟨f1, f2, f3, f4, f5, f6⟩ := v
      have g1 := x.non.1
      show d_compared_span [.str nm, SD .any, SD (.rng m a b)] = some (.dat (SD (.rng true (.bl false) (.bl true))))
      generalize SD (.rng m a b) = e at *
      unfold d_compared_span b_compared_span
      refine runP_ap (g := [.dat (.str nm), .dat (SD .any), .dat e]) rfl rfl ?_
      walk_at "w"
      exact rfl
  | nul v =>
    rename_i n
    obtain ⟨f1, f2, f3, f4, f5, f6⟩ := v
    show d_compared_span [.str nm, SD (.nul n), SD t] = some (.dat (SD (.nul true)))
    generalize SD (.nul n) = e at *
    generalize SD t = e' at *
    unfold d_compared_span b_compared_span
    have t1 : zOrT (zAndT (zTst (zOp neqD (zVar 1) (zC c_ANY))) (zTst (zOp isD (zIx (zVar 1) (zC (.int 1))) (zC .non)))) (zAndT (zTst (zOp neqD (zVar 2) (zC c_ANY))) (zTst (zOp isD (zIx (zVar 2) (zC (.int 1))) (zC .non)))) [.dat (.str nm), .dat e, .dat e'] = some (true, [.dat (.str nm), .dat e, .dat e']) :=
      er_orTt (er_andTT (er_tst (er_op rfl er_C rfl rfl f2 rfl)) rfl (er_tst (er_op (er_ix rfl er_C rfl f4) er_C rfl rfl rfl rfl))) rfl
    refine runP_ap (g := [.dat (.str nm), .dat e, .dat e']) rfl rfl ?_
    refine sr_if t1 rfl (fun _ => ?_) (fun q => by cases q)
    walk_at "w"
    exact rfl
  | rng v x y z =>
    rename_i n a1 b1
    obtain ⟨f1, f2, f3, f4, f5, f6⟩ := v
    have g1 := x.non.1
    cases vw_of k hb with
    | any c1 c2 =>
      show d_compared_span [.str nm, SD (.rng n a1 b1), SD .any] = some (.dat (SD (.rng true (.bl false) (.bl true))))
      generalize SD (.rng n a1 b1) = e at *
      unfold d_compared_span b_compared_span
      refine runP_ap (g := [.dat (.str nm), .dat e, .dat (SD .any)]) rfl rfl ?_
      walk_at "w"
      exact rfl
    | nul v =>
      rename_i m
      obtain ⟨k1, k2, k3, k4, k5, k6⟩ := v
      show d_compared_span [.str nm, SD (.rng n a1 b1), SD (.nul m)] = some (.dat (SD (.nul true)))
      generalize SD (.rng n a1 b1) = e at *
      generalize SD (.nul m) = e' at *
      unfold d_compared_span b_compared_span
      refine runP_ap (g := [.dat (.str nm), .dat e, .dat e']) rfl rfl ?_
      walk_at "w"
      exact rfl
    | rng v x' y' z' =>
      rename_i m a2 b2
      obtain ⟨k1, k2, k3, k4, k5, k6⟩ := v
      have g2 := x'.non.1
      have l1 := less_ok (y.vd hb) (x'.vd hb)
      have l2 := less_ok (y'.vd hb) (x.vd hb)
      have l3 := less_ok (x.vd hb) (y'.vd hb)
      have l4 := less_ok (x'.vd hb) (y.vd hb)
      have t1 := fun p q => (tru_ok true p q).1
      show d_compared_span [.str nm, SD (.rng n a1 b1), SD (.rng m a2 b2)] = some (.dat (SD (cmpN nm a1 b1 a2 b2)))
      unfold cmpN
      generalize SD (.rng n a1 b1) = e at *
      generalize SD (.rng m a2 b2) = e' at *
      have u1 := t1 (!lt b1 a2 && !lt b2 a1) true
      have u2 := t1 (lt a1 b2) (!lt b1 a2)
      have u3 := t1 (!lt b2 a1) (lt a2 b1)
      generalize lt b1 a2 = p1 at *
      generalize lt b2 a1 = p2 at *
      generalize lt a1 b2 = p3 at *
      generalize lt a2 b1 = p4 at *
      unfold d_compared_span b_compared_span
      refine runP_ap (g := [.dat (.str nm), .dat e, .dat e']) rfl rfl ?_
      walk_at "w"
      all_goals (show some (FR.dat _) = some (FR.dat _); simp only [beq_iff_eq, *, if_true, if_false, ↓reduceIte, reduceCtorEq]; try rfl)
local macro_rules | `(tactic| walk_at "d") => `(tactic| first | with_reducible exact eqS _ _)
local macro_rules | `(tactic| walk_at "e") => `(tactic| with_reducible assumption)
def pick (c : Bool) (x y : D) : D := if c = true then x else y
def joinS : Spn → Spn → Spn
  | .any, _ => .any
  | _, .any => .any
  | .nul n, .nul m => .nul (n || m)
  | .nul n, .rng m a b => .rng (n || m) a b
  | .rng n a b, .nul m => .rng (n || m) a b
  | .rng n a1 b1, .rng m a2 b2 => .rng (n || m) (pick (lt a2 a1) a2 a1) (pick (lt b1 b2) b2 b1)
theorem if_is {t : ZT} {ma mb : ZM} {g : G} {c : Bool} {x y : D} (h : t g = some (c, g)) (h1 : ma g = some (.dat x, g)) (h2 : mb g = some (.dat y, g)) : zIf t ma mb g = some (.dat (pick c x y), g) := by
  unfold zIf
  simp only [h, Option.bind_eq_bind, Option.bind_some]
  cases c with
  | true => exact h1
  | false => exact h2
theorem join_ok {B : Nat} {s t : Spn} (h : SOk B s) (k : SOk B t) (hb : B < 10 ^ 60) : d_joined_span [SD s, SD t] = some (.dat (SD (joinS s t))) := by
  cases vw_of h hb with
  | any a1 a2 =>
    generalize SD t = e' at *
    unfold d_joined_span b_joined_span
    refine runP_ap (g := [.dat (SD .any), .dat e', .un, .un, .un]) rfl rfl ?_
    refine sr_if (er_orTt (er_tst (er_op rfl er_C rfl rfl a1 rfl)) rfl) rfl (fun _ => ?_) (fun q => by cases q)
    walk_at "w"
    exact rfl
  | nul v =>
    rename_i n
    cases vw_of k hb with
    | any c1 c2 =>
      show d_joined_span [SD (.nul n), SD .any] = some (.dat (SD .any))
      obtain ⟨f1, f2, f3, f4, f5, f6⟩ := v
      generalize SD (.nul n) = e at *
      unfold d_joined_span b_joined_span
      refine runP_ap (g := [.dat e, .dat (SD .any), .un, .un, .un]) rfl rfl ?_
      walk_at "w"
      exact rfl
    | nul v' =>
      rename_i m
      obtain ⟨f1, f2, f3, f4, f5, f6⟩ := v
      obtain ⟨k1, k2, k3, k4, k5, k6⟩ := v'
      show d_joined_span [SD (.nul n), SD (.nul m)] = some (.dat (.tup [.bl (n || m), .non, .non]))
      generalize SD (.nul n) = e at *
      generalize SD (.nul m) = e' at *
      unfold d_joined_span b_joined_span
      refine runP_ap (g := [.dat e, .dat e', .un, .un, .un]) rfl rfl ?_
      walk_at "w"
      exact rfl
    | rng v' x' y' z' =>
      rename_i m a2 b2
      obtain ⟨f1, f2, f3, f4, f5, f6⟩ := v
      obtain ⟨k1, k2, k3, k4, k5, k6⟩ := v'
      show d_joined_span [SD (.nul n), SD (.rng m a2 b2)] = some (.dat (.tup [.bl (n || m), a2, b2]))
      generalize SD (.nul n) = e at *
      generalize SD (.rng m a2 b2) = e' at *
      unfold d_joined_span b_joined_span
      refine runP_ap (g := [.dat e, .dat e', .un, .un, .un]) rfl rfl ?_
      walk_at "w"
      exact rfl
  | rng v x y z =>
    rename_i n a1 b1
    obtain ⟨f1, f2, f3, f4, f5, f6⟩ := v
    have g1 := x.non.1
    cases vw_of k hb with
    | any c1 c2 =>
      show d_joined_span [SD (.rng n a1 b1), SD .any] = some (.dat (SD .any))
      generalize SD (.rng n a1 b1) = e at *
      unfold d_joined_span b_joined_span
      refine runP_ap (g := [.dat e, .dat (SD .any), .un, .un, .un]) rfl rfl ?_
      walk_at "w"
      exact rfl
    | nul v' =>
      rename_i m
      obtain ⟨k1, k2, k3, k4, k5, k6⟩ := v'
      show d_joined_span [SD (.rng n a1 b1), SD (.nul m)] = some (.dat (.tup [.bl (n || m), a1, b1]))
      generalize SD (.rng n a1 b1) = e at *
      generalize SD (.nul m) = e' at *
      unfold d_joined_span b_joined_span
      refine runP_ap (g := [.dat e, .dat e', .un, .un, .un]) rfl rfl ?_
      walk_at "w"
      exact rfl
    | rng v' x' y' z' =>
      rename_i m a2 b2
      obtain ⟨k1, k2, k3, k4, k5, k6⟩ := v'
      have g2 := x'.non.1
      have l1 := less_ok (x'.vd hb) (x.vd hb)
      have l2 := less_ok (y.vd hb) (y'.vd hb)
      show d_joined_span [SD (.rng n a1 b1), SD (.rng m a2 b2)] = some (.dat (.tup [.bl (n || m), pick (lt a2 a1) a2 a1, pick (lt b1 b2) b2 b1]))
      generalize SD (.rng n a1 b1) = e at *
      generalize SD (.rng m a2 b2) = e' at *
      generalize lt a2 a1 = p1 at *
      generalize lt b1 b2 = p2 at *
      unfold d_joined_span b_joined_span
      refine runP_ap (g := [.dat e, .dat e', .un, .un, .un]) rfl rfl ?_
      have i1 : zIf (zTru (zCall d_before (zCons (zIx (zVar 1) (zC (.int 1))) (zCons (zIx (zVar 0) (zC (.int 1))) (zNil))))) (zIx (zVar 1) (zC (.int 1))) (zIx (zVar 0) (zC (.int 1))) [.dat e, .dat e', .dat (.bl (n || m)), .un, .un] = some (.dat (pick p1 a2 a1), [.dat e, .dat e', .dat (.bl (n || m)), .un, .un]) := if_is (er_tru (er_callV (er_cons (er_ix rfl er_C rfl k4) (er_cons (er_ix rfl er_C rfl f4) er_nil)) rfl l1 rfl) rfl rfl) (er_ix rfl er_C rfl k4) (er_ix rfl er_C rfl f4)
      have i2 : zIf (zTru (zCall d_before (zCons (zIx (zVar 0) (zC (.int 2))) (zCons (zIx (zVar 1) (zC (.int 2))) (zNil))))) (zIx (zVar 1) (zC (.int 2))) (zIx (zVar 0) (zC (.int 2))) [.dat e, .dat e', .dat (.bl (n || m)), .dat (pick p1 a2 a1), .un] = some (.dat (pick p2 b2 b1), [.dat e, .dat e', .dat (.bl (n || m)), .dat (pick p1 a2 a1), .un]) := if_is (er_tru (er_callV (er_cons (er_ix rfl er_C rfl f5) (er_cons (er_ix rfl er_C rfl k5) er_nil)) rfl l2 rfl) rfl rfl) (er_ix rfl er_C rfl k5) (er_ix rfl er_C rfl f5)
      walk_at "w"
      exact rfl
theorem sort_ok {L : List D} {g g1 : G} {ma : ZM} {r : R} (h1 : ma g = some (r, g1)) (h2 : rd g1 r = some (.lst L)) (hL : ∀ v ∈ L, VD v) : zSortK d__law_rank false ma g = some (.bor g1.length, g1 ++ [.own (.lst (sortV L)) false false]) := by
  have c := codes_rk (f := d__law_rank) (vs := L) (fun v m => by rw [lrank_eq]; exact rank_ok v (hL v m)) fun v m => vd_pl (hL v m)
  have e := er_sortK (b := false) h1 h2 c
  rw [sortP_rk] at e
  exact e
local macro_rules | `(tactic| walk_at "d") => `(tactic| first | with_reducible exact eqS _ _)
local macro_rules | `(tactic| walk_at "e") => `(tactic| with_reducible assumption)
theorem in3 (f a b c : List Nat) : inD (.str f) (.tup [.str a, .str b, .str c]) = some (.bl (f == a || (f == b || f == c))) := by
  show some (D.bl ((a == f) || ((b == f) || ((c == f) || false)))) = _
  rw [Bool.or_false, show (a == f) = (f == a) from BEq.comm, show (b == f) = (f == b) from BEq.comm, show (c == f) = (f == c) from BEq.comm]
local macro_rules | `(tactic| walk_at "d") => `(tactic| first | with_reducible exact eqS _ _ | with_reducible exact in3 _ _ _ _ | with_reducible exact in2 _ _ _)
abbrev sAND : List Nat := [97, 110, 100]
abbrev sOR : List Nat := [111, 114]
abbrev sEQ : List Nat := [101, 113, 117, 97, 108]
abbrev sLE : List Nat := [108, 101, 115, 115]
abbrev sAM : List Nat := [97, 116, 32, 109, 111, 115, 116]
abbrev sCOA : List Nat := [99, 111, 97, 108, 101, 115, 99, 101]
abbrev sADD : List Nat := [97, 100, 100]
abbrev sADY : List Nat := [97, 100, 100, 32, 100, 97, 121, 115]
abbrev sSUB : List Nat := [115, 117, 98, 116, 114, 97, 99, 116]
def biN (nm : List Nat) (l1 h1 l2 h2 : Int) : Spn :=
  if (nm == sADD || nm == sADY) = true then .rng true (.int (l1 + l2)) (.int (h1 + h2))
  else if (nm == sSUB) = true then .rng true (.int (l1 - h2)) (.int (h1 - l2))
  else .any
def biQ (nm : List Nat) : Option (Int × Int) → Option (Int × Int) → Spn
  | some p, some q => biN nm p.1 p.2 q.1 q.2
  | _, _ => .any
def biS (nm : List Nat) (s t : Spn) : Spn :=
  if (nm == sAND) = true then truS true (canS s true && canS t true) (canS s false || canS t false)
  else if (nm == sOR) = true then truS true (canS s true || canS t true) (canS s false && canS t false)
  else if (nm == sEQ || (nm == sLE || nm == sAM)) = true then cmpS nm s t
  else if (nm == sCOA) = true then joinS s t
  else biQ nm (numS s) (numS t)
theorem bi_ok {B : Nat} {nm : List Nat} {s t : Spn} (h : SOk B s) (k : SOk B t) (hb : B < 10 ^ 60) : d_binary_span [.str nm, SD s, SD t] = some (.dat (SD (biS nm s t))) := by
  have c1 := can_ok h hb true
  have c0 := can_ok h hb false
  have e1 := can_ok k hb true
  have e0 := can_ok k hb false
  have t1 := (tru_ok true (canS s true && canS t true) (canS s false || canS t false)).1
  have t2 := (tru_ok true (canS s true || canS t true) (canS s false && canS t false)).1
  have m1 := cmp_ok (nm := nm) h k hb
  have m2 := join_ok h k hb
  have r1 := range_ok h hb
  have r2 := range_ok k hb
  unfold biS
  generalize cmpS nm s t = cs at *
  generalize joinS s t = js at *
  generalize canS s true = k1 at *
  generalize canS s false = k0 at *
  generalize canS t true = l1 at *
  generalize canS t false = l0 at *
  cases hn : numS s with
  | none =>
    rw [hn] at r1
    have r1 : d_is_range [SD s] = some (.dat (.bl false)) := r1
    have a1 : ∀ g : G, zAndT (zTru (zCall d_is_range (zCons (zVar 1) (zNil)))) (zTru (zCall d_is_range (zCons (zVar 2) (zNil)))) [.dat (.str nm), .dat (SD s), .dat (SD t), .un] = some (false, [.dat (.str nm), .dat (SD s), .dat (SD t), .un]) := fun g => er_andTF (er_tru (er_callV (er_cons rfl er_nil) rfl r1 rfl) rfl rfl) rfl
    have a1 := a1 []
    generalize SD s = e at *
    generalize SD t = e' at *
    show _ = some (FR.dat (SD (if (nm == sAND) = true then _ else if (nm == sOR) = true then _ else if (nm == sEQ || (nm == sLE || nm == sAM)) = true then _ else if (nm == sCOA) = true then _ else .any)))
    unfold d_binary_span b_binary_span
    refine runP_ap (g := [.dat (.str nm), .dat e, .dat e', .un]) rfl rfl ?_
    walk_at "w"
    all_goals (show some (FR.dat _) = some (FR.dat _); simp only [Bool.or_eq_true, beq_iff_eq, *, if_true, if_false, ↓reduceIte, reduceCtorEq]; try rfl)
  | some p =>
    obtain ⟨n, rfl⟩ := numS_some hn
    obtain ⟨pl, ph⟩ := p
    rw [hn] at r1
    have r1 : d_is_range [SD (.rng n (.int pl) (.int ph))] = some (.dat (.bl true)) := r1
    cases hm : numS t with
    | none =>
      rw [hm] at r2
      have r2 : d_is_range [SD t] = some (.dat (.bl false)) := r2
      generalize SD (.rng n (.int pl) (.int ph)) = e at *
      generalize SD t = e' at *
      show _ = some (FR.dat (SD (if (nm == sAND) = true then _ else if (nm == sOR) = true then _ else if (nm == sEQ || (nm == sLE || nm == sAM)) = true then _ else if (nm == sCOA) = true then _ else .any)))
      unfold d_binary_span b_binary_span
      refine runP_ap (g := [.dat (.str nm), .dat e, .dat e', .un]) rfl rfl ?_
      walk_at "w"
      all_goals (show some (FR.dat _) = some (FR.dat _); simp only [Bool.or_eq_true, beq_iff_eq, *, if_true, if_false, ↓reduceIte, reduceCtorEq]; try rfl)
    | some q =>
      obtain ⟨m, rfl⟩ := numS_some hm
      obtain ⟨ql, qh⟩ := q
      rw [hm] at r2
      have r2 : d_is_range [SD (.rng m (.int ql) (.int qh))] = some (.dat (.bl true)) := r2
      obtain ⟨f1, f2, f3, f4, f5, f6⟩ := rng_vt h hb
      obtain ⟨k1, k2, k3, k4, k5, k6⟩ := rng_vt k hb
      generalize SD (.rng n (.int pl) (.int ph)) = e at *
      generalize SD (.rng m (.int ql) (.int qh)) = e' at *
      show _ = some (FR.dat (SD (if (nm == sAND) = true then _ else if (nm == sOR) = true then _ else if (nm == sEQ || (nm == sLE || nm == sAM)) = true then _ else if (nm == sCOA) = true then _ else biN nm pl ph ql qh)))
      unfold d_binary_span b_binary_span
      refine runP_ap (g := [.dat (.str nm), .dat e, .dat e', .un]) rfl rfl ?_
      walk_at "w"
      all_goals (show some (FR.dat _) = some (FR.dat _); simp only [biN, Bool.or_eq_true, beq_iff_eq, *, if_true, if_false, ↓reduceIte, reduceCtorEq]; try rfl)
theorem un_sok {B : Nat} {nm : List Nat} {s : Spn} (h : SOk B s) : SOk (10000 * B) (unS nm s) := by
  unfold unS
  split
  · exact tru_sok _ _ _ _
  split
  · exact tru_sok _ _ _ _
  cases hn : numS s with
  | none => exact trivial
  | some q =>
    obtain ⟨n, rfl⟩ := numS_some hn
    obtain ⟨l, hh⟩ := q
    obtain ⟨b1, b2, b3⟩ := h
    have b1 : l.natAbs ≤ B := b1
    have b2 : hh.natAbs ≤ B := b2
    have le : l ≤ hh := by
      unfold lt at b3
      rw [vC_lt (v := .int hh) (w := .int l) trivial trivial] at b3
      have : decide (hh < l) = false := b3
      have := of_decide_eq_false this
      omega
    have mk : ∀ {n : Bool} {x y : Int}, x ≤ y → x.natAbs ≤ 10000 * B → y.natAbs ≤ 10000 * B → SOk (10000 * B) (.rng n (.int x) (.int y)) := fun {n x y} h1 h2 h3 => ⟨h2, h3, by
      unfold lt
      rw [vC_lt (v := .int y) (w := .int x) trivial trivial]
      exact decide_eq_false (by omega)⟩
    show SOk (10000 * B) (unN nm l hh)
    unfold unN
    split
    · exact mk (by omega) (by omega) (by omega)
    split
    · refine mk ?_ ?_ ?_
      · split <;> omega
      · omega
      · split <;> omega
    split
    · exact mk (by omega) (by omega) (by omega)
    split
    · exact mk (by omega) (by omega) (by omega)
    · exact trivial
theorem pick_bv {B : Nat} {c : Bool} {x y : D} (hx : BV B x) (hy : BV B y) : BV B (pick c x y) := by cases c <;> assumption
theorem cmp_sok {B : Nat} {nm : List Nat} {s t : Spn} : SOk B (cmpS nm s t) := by
  cases s <;> cases t <;> first | trivial | exact ⟨trivial, trivial, by decide⟩ | skip
  show SOk B (cmpN _ _ _ _ _)
  unfold cmpN
  split
  · exact tru_sok _ _ _ _
  split
  · exact tru_sok _ _ _ _
  · exact tru_sok _ _ _ _
theorem lt_self (a : D) : lt a a = false := decide_eq_false (List.lt_irrefl _)
theorem lt_asym {a b : D} (h : lt a b = true) : lt b a = false := (ZS.swo_code vC).1 a b h
theorem join_sok {B : Nat} {s t : Spn} (h : SOk B s) (k : SOk B t) : SOk B (joinS s t) := by
  cases s with
  | any => exact trivial
  | nul n =>
    cases t with
    | any => exact trivial
    | nul m => exact trivial
    | rng m a b => exact k
  | rng n a1 b1 =>
    cases t with
    | any => exact trivial
    | nul m => exact h
    | rng m a2 b2 =>
      refine ⟨pick_bv k.1 h.1, pick_bv k.2.1 h.2.1, ?_⟩
      show lt (pick (lt b1 b2) b2 b1) (pick (lt a2 a1) a2 a1) = false
      have z1 : lt b1 a1 = false := h.2.2
      have z2 : lt b2 a2 = false := k.2.2
      unfold pick
      cases p : lt a2 a1 with
      | true =>
        have p' := lt_asym p
        cases q : lt b1 b2 with
        | true => exact z2
        | false => exact lt_trans p' z1
      | false =>
        cases q : lt b1 b2 with
        | true => exact lt_trans z1 (lt_asym q)
        | false => exact z1
theorem bi_sok {B : Nat} {nm : List Nat} {s t : Spn} (h : SOk B s) (k : SOk B t) : SOk (10000 * B) (biS nm s t) := by
  unfold biS
  split
  · exact tru_sok _ _ _ _
  split
  · exact tru_sok _ _ _ _
  split
  · exact cmp_sok
  split
  · exact (join_sok h k).up (by omega)
  cases hn : numS s with
  | none => exact trivial
  | some p =>
    cases hm : numS t with
    | none => exact trivial
    | some q =>
      obtain ⟨n, rfl⟩ := numS_some hn
      obtain ⟨m, rfl⟩ := numS_some hm
      obtain ⟨l, hh⟩ := p
      obtain ⟨l2, h2⟩ := q
      obtain ⟨b1, b2, b3⟩ := h
      obtain ⟨c1, c2, c3⟩ := k
      have b1 : l.natAbs ≤ B := b1
      have b2 : hh.natAbs ≤ B := b2
      have c1 : l2.natAbs ≤ B := c1
      have c2 : h2.natAbs ≤ B := c2
      have cv : ∀ {x y : Int}, lt (.int y) (.int x) = decide (y < x) := fun {x y} => by
        unfold lt
        rw [vC_lt (v := .int y) (w := .int x) trivial trivial]
        rfl
      have b3 : lt (.int hh) (.int l) = false := b3
      have c3 : lt (.int h2) (.int l2) = false := c3
      rw [cv] at b3 c3
      have b3 := of_decide_eq_false b3
      have c3 := of_decide_eq_false c3
      have mk : ∀ {n : Bool} {x y : Int}, x ≤ y → x.natAbs ≤ 10000 * B → y.natAbs ≤ 10000 * B → SOk (10000 * B) (.rng n (.int x) (.int y)) := fun {n x y} h1 h2 h3 => ⟨h2, h3, by rw [cv]; exact decide_eq_false (by omega)⟩
      show SOk (10000 * B) (biN nm l hh l2 h2)
      unfold biN
      split
      · exact mk (by omega) (by omega) (by omega)
      split
      · exact mk (by omega) (by omega) (by omega)
      · exact trivial
local macro_rules | `(tactic| walk_at "d") => `(tactic| first | with_reducible exact eqS _ _)
local macro_rules | `(tactic| walk_at "e") => `(tactic| with_reducible assumption)
def CV (v : D) : Prop := v = .non ∨ BV (10 ^ 15) v
theorem CV.vd {v : D} (h : CV v) : VD v := by
  rcases h with rfl | h
  · trivial
  · exact h.vd (by decide)
def nn : D → Bool
  | .non => false
  | _ => true
theorem isnt_nn (v : D) (h : CV v) : isntD v .non = some (.bl (nn v)) ∧ isD v .non = some (.bl (!nn v)) := by
  rcases h with rfl | h
  · exact ⟨rfl, rfl⟩
  · cases v <;> first | exact ⟨rfl, rfl⟩ | exact h.elim
theorem nn_bv {v : D} (h : CV v) (n : nn v = true) : BV (10 ^ 15) v := by
  rcases h with rfl | h
  · cases n
  · exact h
def pres (L : List D) : List D := sortV (L.filter nn)
theorem pres_mem {L : List D} (hL : ∀ v ∈ L, CV v) : ∀ v ∈ pres L, BV (10 ^ 15) v := fun v m => by
  have m := (sortV_perm (L.filter nn)).mem_iff.mp m
  rw [List.mem_filter] at m
  exact nn_bv (hL v m.1) m.2
theorem last_ix (S : List D) (h : S ≠ []) : ixD (.lst S) (-1) = some (S.getLast h) := by
  have e : S.dropLast ++ [S.getLast h] = S := List.dropLast_concat_getLast h
  have q := atI_last (S.dropLast) (S.getLast h)
  rw [e] at q
  exact q
/-- least and greatest of a column -/
def ends (L : List D) : D × D := match pres L with
  | [] => (.non, .non)
  | x :: xs => (x, (x :: xs).getLast (List.cons_ne_nil _ _))
def nulls (L : List D) : Int := (L.length : Int) - ((pres L).length : Int)
def colS (L : List D) : Spn := match pres L with
  | [] => .nul (decide (0 < nulls L))
  | x :: xs => .rng (decide (0 < nulls L)) x ((x :: xs).getLast (List.cons_ne_nil _ _))
def zoneD (L : List D) : D := .obj "Zone" fl_Zone [.int (L.length : Int), .int (nulls L), (ends L).1, (ends L).2]
theorem col_sd (L : List D) : SD (colS L) = .tup [.bl (decide (0 < nulls L)), (ends L).1, (ends L).2] := by
  unfold colS ends
  cases pres L <;> rfl
theorem col_sok {L : List D} (hL : ∀ v ∈ L, CV v) : SOk (10 ^ 15) (colS L) := by
  have m := pres_mem hL
  have r := sortV_srtd (L.filter nn)
  unfold colS
  cases e : pres L with
  | nil => exact trivial
  | cons x xs =>
    rw [e] at m
    rw [show sortV (L.filter nn) = x :: xs from e] at r
    refine ⟨m _ List.mem_cons_self, m _ (List.getLast_mem _), ?_⟩
    cases xs with
    | nil => exact lt_self x
    | cons y ys =>
      have : (x :: y :: ys).getLast (List.cons_ne_nil _ _) ∈ y :: ys := by
        rw [List.getLast_cons (List.cons_ne_nil _ _)]
        exact List.getLast_mem _
      exact (List.pairwise_cons.mp r).1 _ this
/-- [v for v in column if v is not None], in order -/
theorem pres_run {n t : Nat} {mi : MI} {g base h : G} {L : List D} (vi : Nat) (hi : mi g = some (L, none, h)) (hL : ∀ v ∈ L, CV v) (hz : L.length ≤ 1000) (hlen : h.length = t) (hw : ∀ o : Sl, wipeG (h ++ [o]) [vi] = base ++ [o]) (hf : ∀ o : Sl, freeAll (h ++ [o]) [vi] = true)
    (item : ∀ x, CV x → LcItem (gN vi) (zTst (zOp isntD (zVar vi) (zC .non))) (zVar vi) [vi] t base x (nn x) x) (hb : base.length = t) :
    zSortK d__law_rank false (zLc mi (gN vi) (zTst (zOp isntD (zVar vi) (zC .non))) (zVar vi) [vi]) g = some (.bor (t + 1), base ++ [.own (.lst (L.filter nn)) false false, .own (.lst (pres L)) false false]) := by
  have e := er_lc1 (b := nn) (f := fun x => x) (tg := gN vi) (tt := zTst (zOp isntD (zVar vi) (zC .non))) (el := zVar vi) (vs := [vi]) (base := base) hi hw hf (Nat.le_trans hz (by decide)) (fun x hx => by rw [hlen]; exact item x (hL x hx))
  rw [List.map_id'] at e
  have s := sort_ok (L := L.filter nn) e (by
    rw [hlen, ← hb]
    show (match (base ++ [Sl.own (Cn.lst (L.filter nn)) false false])[base.length]? with
      | some (.own c _ _) => some c.d
      | some (.frz d) => some d
      | _ => none) = _
    rw [List.getElem?_append_right (Nat.le_refl _), Nat.sub_self]
    rfl) (fun v m => (hL v (List.mem_filter.mp m).1).vd)
  rw [s, List.length_append, hb, List.append_assoc]
  rfl
theorem lenL (L : List D) : lenD [.lst L] = some (.int (L.length : Int)) := rfl
theorem zone_ok {L : List D} (hL : ∀ v ∈ L, CV v) (hz : L.length ≤ 1000) : d_zone_of [.lst L] = some (.dat (zoneD L)) := by
  have s : zSortK d_rank false (zLc (ziL 3 (zVar 0)) (gN 2) (zTst (zOp isntD (zVar 2) (zC .non))) (zVar 2) [2]) [.dat (.lst L), .un, .un] = some (.bor 4, [.dat (.lst L), .un, .un, .own (.lst (L.filter nn)) false false, .own (.lst (pres L)) false false]) :=
    pres_run (n := 3) (t := 3) (base := [.dat (.lst L), .un, .un]) 2 (mi_Ld rfl) hL hz rfl (fun o => rfl) (fun o => rfl) (fun x hx => lc_dat (h := [.dat (.lst L), .un, .dat x]) rfl (fun o => rfl) (fun o => rfl) (fun o => rfl) (fun o => er_tst (er_op rfl er_C rfl rfl (isnt_nn x hx).1 rfl)) (fun _ o => rfl)) rfl
  unfold zoneD ends nulls
  unfold d_zone_of b_zone_of
  refine runP_ap (g := [.dat (.lst L), .un, .un]) rfl rfl ?_
  refine seq_nx (g1 := [.dat (.lst L), .own (.lst (pres L)) false false, .un]) (set_own s (Nat.le_of_ble_eq_true rfl) rfl rfl rfl) ?_
  cases e : pres L with
  | nil =>
    have t1 : zTst (zOp eqD (zCallS lenD (zCons (zVar 1) (zNil))) (zC (.int 0))) [.dat (.lst L), .own (.lst []) false false, .un] = some (true, [.dat (.lst L), .own (.lst []) false false, .un]) := er_tst (er_op (er_callS (er_cons rfl er_nil) rfl rfl rfl) er_C rfl rfl rfl rfl)
    refine sr_if t1 rfl (fun _ => ?_) (fun q => by cases q)
    refine sr_retS (er_make (er_cons (er_callS (er_cons rfl er_nil) rfl (lenL L) rfl) (er_cons (er_callS (er_cons rfl er_nil) rfl (lenL L) rfl) (er_cons er_C (er_cons er_C er_nil)))) rfl rfl) ?_
    show some (FR.dat _) = some (FR.dat _)
    rw [List.length_nil, show (L.length : Int) - ((0 : Nat) : Int) = L.length by omega]
  | cons x xs =>
    have t1 : zTst (zOp eqD (zCallS lenD (zCons (zVar 1) (zNil))) (zC (.int 0))) [.dat (.lst L), .own (.lst (x :: xs)) false false, .un] = some (false, [.dat (.lst L), .own (.lst (x :: xs)) false false, .un]) := er_tst (er_op (er_callS (er_cons rfl er_nil) rfl (lenL (x :: xs)) rfl) er_C rfl rfl (by
      show some (D.bl (((x :: xs).length : Int) == 0)) = _
      rw [show (((x :: xs).length : Int) == 0) = false from beq_false_of_ne (by simp; omega)]) rfl)
    refine sr_if t1 rfl (fun q => by cases q) (fun _ => ?_)
    refine sr_nx (sr_ret (er_make (er_cons (er_callS (er_cons rfl er_nil) rfl (lenL L) rfl) (er_cons (er_op (er_callS (er_cons rfl er_nil) rfl (lenL L) rfl) (er_callS (er_cons rfl er_nil) rfl (lenL (x :: xs)) rfl) rfl rfl rfl rfl) (er_cons (er_ix rfl er_C rfl (atI_nat (j := 0) rfl)) (er_cons (er_ix rfl (er_un er_C rfl rfl rfl) rfl (last_ix (x :: xs) (List.cons_ne_nil _ _))) er_nil)))) rfl rfl) ?_)
    exact rfl
def In (v : D) : Spn → Prop
  | .any => True
  | .nul n => v = .non ∧ n = true
  | .rng n a b => (v = .non ∧ n = true) ∨ (v ≠ .non ∧ lt v a = false ∧ lt b v = false)
theorem lt_int (i j : Int) : lt (.int i) (.int j) = decide (i < j) := by
  unfold lt
  rw [vC_lt (v := .int i) (w := .int j) trivial trivial]
  show (decide (2 < 2) || (decide (2 = 2) && decide (i < j))) = _
  simp
theorem lt_ki {i : Int} {v : D} (hv : PlV v) (h : kd v < 2) : lt v (.int i) = true := by
  unfold lt
  rw [vC_lt (w := .int i) hv trivial]
  cases v with
  | non => rfl
  | bl b => rfl
  | int j => exact absurd h (show ¬ 2 < 2 by decide)
  | str t => exact absurd h (show ¬ 3 < 2 by decide)
  | _ => exact hv.elim
theorem lt_ik {i : Int} {v : D} (hv : PlV v) (h : 2 < kd v) : lt (.int i) v = true := by
  unfold lt
  rw [vC_lt (v := .int i) trivial hv]
  cases v with
  | non => exact absurd h (show ¬ 2 < 0 by decide)
  | bl b => exact absurd h (show ¬ 2 < 1 by decide)
  | int j => exact absurd h (show ¬ 2 < 2 by decide)
  | str t => rfl
  | _ => exact hv.elim
theorem in_non {n : Bool} {s : Spn} (h : In .non s) : nnS s = true := by
  cases s with
  | any => rfl
  | nul n => exact h.2
  | rng n a b => exact h.elim (fun h => h.2) fun h => (h.1 rfl).elim
theorem in_has {v : D} {s : Spn} (h : In v s) (n : v ≠ .non) : (anS s || hvS s) = true := by
  cases s with
  | any => rfl
  | nul m => exact (n h.1).elim
  | rng m a b => rfl
theorem in_can {t : Bool} {s : Spn} (h : In (.bl t) s) : canS s t = true := by
  cases s with
  | any => rfl
  | nul n => cases h.1
  | rng n a b =>
    rcases h with ⟨h, _⟩ | ⟨_, h1, h2⟩
    · cases h
    · show (!lt (.bl t) a && !lt b (.bl t)) = true
      rw [h1, h2]
      rfl
theorem in_int {v : D} {s : Spn} {l u : Int} (hv : PlV v) (h : In v s) (n : v ≠ .non) (e : numS s = some (l, u)) : ∃ i, v = .int i ∧ l ≤ i ∧ i ≤ u := by
  obtain ⟨m, rfl⟩ := numS_some e
  rcases h with ⟨h, _⟩ | ⟨_, h1, h2⟩
  · exact (n h).elim
  · cases v with
    | non => exact (n rfl).elim
    | bl b =>
      rw [lt_ki (v := .bl b) trivial (by show 1 < 2; decide)] at h1
      cases h1
    | int i =>
      rw [lt_int] at h1 h2
      exact ⟨i, rfl, Int.not_lt.mp (of_decide_eq_false h1), Int.not_lt.mp (of_decide_eq_false h2)⟩
    | str t =>
      rw [lt_ik (v := .str t) trivial (by show 2 < 3; decide)] at h2
      cases h2
    | _ => exact hv.elim
theorem in_rngI {n : Bool} {i l u : Int} (h1 : l ≤ i) (h2 : i ≤ u) : In (.int i) (.rng n (.int l) (.int u)) :=
  .inr ⟨by simp, by rw [lt_int]; exact decide_eq_false (by omega), by rw [lt_int]; exact decide_eq_false (by omega)⟩
theorem in_truN {y c : Bool} : In .non (truS true y c) := by
  cases y <;> cases c <;> first | exact ⟨rfl, rfl⟩ | exact .inl ⟨rfl, rfl⟩
theorem in_truT {n y c t : Bool} (h : (if t = true then y else c) = true) : In (.bl t) (truS n y c) := by
  cases t <;> cases y <;> cases c <;> first | (cases h; done) | exact .inr ⟨by simp, by decide, by decide⟩
def isN : D → Bool
  | .non => true
  | _ => false
theorem in_not {r v : D} {s : Spn} (h : In v s) (e : r = .non ∨ ∃ b, v = .bl b ∧ r = .bl (!b)) : In r (truS true (canS s false) (canS s true)) := by
  rcases e with rfl | ⟨b, rfl, rfl⟩
  · exact in_truN
  · have c := in_can h
    cases b
    · exact in_truT (t := true) c
    · exact in_truT (t := false) c
theorem in_isnull {v : D} {s : Spn} (h : In v s) : In (.bl (isN v)) (truS false (nnS s) (anS s || hvS s)) := by
  by_cases n : v = .non
  · subst n
    exact in_truT (t := true) (in_non (n := true) h)
  · have : isN v = false := by cases v <;> first | exact (n rfl).elim | rfl
    rw [this]
    exact in_truT (t := false) (in_has h n)
/-- what an operation on one integer may answer -/
def UnI (nm : List Nat) (i : Int) (r : D) : Prop := r = .non ∨
  (nm = sNEG ∧ r = .int (-i)) ∨ (nm = sABS ∧ r = .int (i.natAbs : Int)) ∨ (nm = sTOD ∧ r = .int (10000 * i)) ∨ ((nm = sASDA ∨ nm = sASDE) ∧ r = .int i)
theorem in_unN {nm : List Nat} {i l u : Int} {r : D} (h1 : l ≤ i) (h2 : i ≤ u) (hr : UnI nm i r) : In r (unN nm l u) := by
  rcases hr with rfl | ⟨rfl, rfl⟩ | ⟨rfl, rfl⟩ | ⟨rfl, rfl⟩ | ⟨hn, rfl⟩
  · unfold unN
    split
    · exact .inl ⟨rfl, rfl⟩
    · split
      · exact .inl ⟨rfl, rfl⟩
      · split
        · exact .inl ⟨rfl, rfl⟩
        · split
          · exact .inl ⟨rfl, rfl⟩
          · trivial
  · exact in_rngI (by omega) (by omega)
  · refine in_rngI ?_ ?_
    · omega
    · split <;> omega
  · exact in_rngI (by omega) (by omega)
  · rcases hn with rfl | rfl
    · exact in_rngI h1 h2
    · exact in_rngI h1 h2
theorem in_join {r v w : D} {s t : Spn} (hv : In v s) (hw : In w t) (e : r = v ∨ r = w) : In r (joinS s t) := by
  cases s with
  | any => cases t <;> trivial
  | nul n =>
    cases t with
    | any => trivial
    | nul m =>
      rcases e with rfl | rfl
      · exact ⟨hv.1, by rw [hv.2]; rfl⟩
      · exact ⟨hw.1, by rw [hw.2, Bool.or_true]⟩
    | rng m c d =>
      rcases e with rfl | rfl
      · exact .inl ⟨hv.1, by rw [hv.2]; rfl⟩
      · rcases hw with ⟨h, q⟩ | h
        · exact .inl ⟨h, by rw [q, Bool.or_true]⟩
        · exact .inr h
  | rng n a b =>
    cases t with
    | any => trivial
    | nul m =>
      rcases e with rfl | rfl
      · rcases hv with ⟨h, q⟩ | h
        · exact .inl ⟨h, by rw [q]; rfl⟩
        · exact .inr h
      · exact .inl ⟨hw.1, by rw [hw.2, Bool.or_true]⟩
    | rng m c d =>
      rcases e with rfl | rfl
      · rcases hv with ⟨h, q⟩ | ⟨h, h1, h2⟩
        · exact .inl ⟨h, by rw [q]; rfl⟩
        · refine .inr ⟨h, ?_, ?_⟩
          · unfold pick
            split
            · rename_i q
              exact lt_trans (lt_asym q) h1
            · exact h1
          · unfold pick
            split
            · rename_i q
              exact lt_trans h2 (lt_asym q)
            · exact h2
      · rcases hw with ⟨h, q⟩ | ⟨h, h1, h2⟩
        · exact .inl ⟨h, by rw [q, Bool.or_true]⟩
        · refine .inr ⟨h, ?_, ?_⟩
          · unfold pick
            split
            · exact h1
            · rename_i q
              exact lt_trans (by simpa using q) h1
          · unfold pick
            split
            · exact h2
            · rename_i q
              exact lt_trans h2 (by simpa using q)
/-- what a comparison of two values that are there answers -/
def CmpR (nm : List Nat) (v w : D) (b : Bool) : Prop :=
  if (nm == [101, 113, 117, 97, 108]) = true then b = (!lt v w && !lt w v) else if (nm == [108, 101, 115, 115]) = true then b = lt v w else b = !lt w v
theorem in_cmp {nm : List Nat} {r v w : D} {s t : Spn} (hv : In v s) (hw : In w t) (e : r = .non ∨ (v ≠ .non ∧ w ≠ .non ∧ ∃ b, r = .bl b ∧ CmpR nm v w b)) : In r (cmpS nm s t) := by
  have bb : ∀ b : Bool, In (.bl b) (.rng true (.bl false) (.bl true)) := fun b => .inr ⟨by simp, by cases b <;> decide, by cases b <;> decide⟩
  rcases e with rfl | ⟨nv, nw, b, rfl, hb⟩
  · cases s <;> cases t <;> first | exact ⟨rfl, rfl⟩ | exact .inl ⟨rfl, rfl⟩ | skip
    show In .non (cmpN nm _ _ _ _)
    unfold cmpN
    split
    · exact in_truN
    · split <;> exact in_truN
  · cases s with
    | nul n => exact (nv hv.1).elim
    | any =>
      cases t with
      | nul m => exact (nw hw.1).elim
      | any => exact bb b
      | rng m c d => exact bb b
    | rng n a1 b1 =>
      cases t with
      | nul m => exact (nw hw.1).elim
      | any => exact bb b
      | rng m a2 b2 =>
        rcases hv with ⟨h, _⟩ | ⟨_, v1, v2⟩
        · exact (nv h).elim
        rcases hw with ⟨h, _⟩ | ⟨_, w1, w2⟩
        · exact (nw h).elim
        show In (.bl b) (cmpN nm a1 b1 a2 b2)
        unfold cmpN CmpR at *
        split
        · rename_i q
          rw [if_pos q] at hb
          refine in_truT ?_
          cases b with
          | false => rfl
          | true =>
            have hb : true = (!lt v w && !lt w v) := hb
            have h1 : lt v w = false := by cases z : lt v w <;> rw [z] at hb <;> first | rfl | cases hb
            have h2 : lt w v = false := by cases z : lt w v <;> rw [z] at hb <;> first | rfl | (rw [h1] at hb; cases hb)
            show (!lt b1 a2 && !lt b2 a1) = true
            rw [lt_trans (lt_trans w1 h1) v2, lt_trans (lt_trans v1 h2) w2]
            rfl
        · rename_i q
          rw [if_neg q] at hb
          split
          · rename_i q2
            rw [if_pos q2] at hb
            refine in_truT ?_
            cases b with
            | true =>
              show lt a1 b2 = true
              cases z : lt a1 b2 with
              | true => rfl
              | false =>
                have : lt v w = false := lt_trans w2 (lt_trans z v1)
                rw [this] at hb
                cases hb
            | false =>
              show (!lt b1 a2) = true
              rw [lt_trans (lt_trans w1 hb.symm) v2]
              rfl
          · rename_i q2
            rw [if_neg q2] at hb
            refine in_truT ?_
            cases b with
            | true =>
              have h : lt w v = false := by cases z : lt w v <;> rw [z] at hb <;> first | rfl | cases hb
              show (!lt b2 a1) = true
              rw [lt_trans (lt_trans v1 h) w2]
              rfl
            | false =>
              show lt a2 b1 = true
              cases z : lt a2 b1 with
              | true => rfl
              | false =>
                have : lt w v = false := lt_trans v2 (lt_trans z w1)
                rw [this] at hb
                cases hb
theorem in_and {r v w : D} {s t : Spn} (hv : In v s) (hw : In w t) (e : r = .non ∨ (r = .bl true ∧ v = .bl true ∧ w = .bl true) ∨ (r = .bl false ∧ (v = .bl false ∨ w = .bl false))) : In r (truS true (canS s true && canS t true) (canS s false || canS t false)) := by
  rcases e with rfl | ⟨rfl, rfl, rfl⟩ | ⟨rfl, rfl | rfl⟩
  · exact in_truN
  · exact in_truT (t := true) (by show (canS s true && canS t true) = true; rw [in_can hv, in_can hw]; rfl)
  · exact in_truT (t := false) (by show (canS s false || canS t false) = true; rw [in_can hv]; rfl)
  · exact in_truT (t := false) (by show (canS s false || canS t false) = true; rw [in_can hw, Bool.or_true])
theorem in_or {r v w : D} {s t : Spn} (hv : In v s) (hw : In w t) (e : r = .non ∨ (r = .bl false ∧ v = .bl false ∧ w = .bl false) ∨ (r = .bl true ∧ (v = .bl true ∨ w = .bl true))) : In r (truS true (canS s true || canS t true) (canS s false && canS t false)) := by
  rcases e with rfl | ⟨rfl, rfl, rfl⟩ | ⟨rfl, rfl | rfl⟩
  · exact in_truN
  · exact in_truT (t := false) (by show (canS s false && canS t false) = true; rw [in_can hv, in_can hw]; rfl)
  · exact in_truT (t := true) (by show (canS s true || canS t true) = true; rw [in_can hv]; rfl)
  · exact in_truT (t := true) (by show (canS s true || canS t true) = true; rw [in_can hw, Bool.or_true])
/-- what an operation on two integers may answer -/
def BiI (nm : List Nat) (v w r : D) : Prop := r = .non ∨ ∃ i j, v = .int i ∧ w = .int j ∧ (((nm = sADD ∨ nm = sADY) ∧ r = .int (i + j)) ∨ (nm = sSUB ∧ r = .int (i - j)))
theorem in_biQ {nm : List Nat} {r v w : D} {s t : Spn} (pv : PlV v) (pw : PlV w) (hv : In v s) (hw : In w t) (e : BiI nm v w r) : In r (biQ nm (numS s) (numS t)) := by
  cases hs : numS s with
  | none => cases numS t <;> trivial
  | some p =>
    cases ht : numS t with
    | none => trivial
    | some q =>
      show In r (biN nm p.1 p.2 q.1 q.2)
      rcases e with rfl | ⟨i, j, rfl, rfl, e⟩
      · unfold biN
        split
        · exact .inl ⟨rfl, rfl⟩
        · split
          · exact .inl ⟨rfl, rfl⟩
          · trivial
      · obtain ⟨i', e1, i1, i2⟩ := in_int pv hv (by simp) hs
        obtain ⟨j', e2, j1, j2⟩ := in_int pw hw (by simp) ht
        cases e1
        cases e2
        rcases e with ⟨rfl | rfl, rfl⟩ | ⟨rfl, rfl⟩
        · exact in_rngI (by omega) (by omega)
        · exact in_rngI (by omega) (by omega)
        · exact in_rngI (by omega) (by omega)
theorem last_top {S : List D} (h : S.Pairwise fun v w => lt w v = false) (hn : S ≠ []) {v : D} (m : v ∈ S) : lt (S.getLast hn) v = false := by
  have e := List.dropLast_concat_getLast hn
  rw [← e] at m
  rcases List.mem_append.mp m with m | m
  · have h2 : (S.dropLast ++ [S.getLast hn]).Pairwise fun v w => lt w v = false := by rw [e]; exact h
    exact (List.pairwise_append.mp h2).2.2 v m _ (List.mem_singleton.mpr rfl)
  · rw [List.mem_singleton.mp m]
    exact lt_self _
theorem in_col {L : List D} (hL : ∀ v ∈ L, CV v) {v : D} (m : v ∈ L) : In v (colS L) := by
  have r : (pres L).Pairwise fun v w => lt w v = false := sortV_srtd (L.filter nn)
  cases hn : nn v with
  | false =>
    have ev : v = .non := by cases v <;> first | rfl | cases hn
    have l : (pres L).length < L.length := by
      unfold pres
      rw [(sortV_perm _).length_eq]
      exact List.length_filter_lt_length_iff_exists.mpr ⟨v, m, by rw [hn]; decide⟩
    have q : decide (0 < nulls L) = true := decide_eq_true (by unfold nulls; omega)
    unfold colS
    cases pres L with
    | nil => exact ⟨ev, q⟩
    | cons x xs => exact .inl ⟨ev, q⟩
  | true =>
    have nv : v ≠ .non := fun e => by rw [e] at hn; cases hn
    have mp : v ∈ pres L := (sortV_perm (L.filter nn)).mem_iff.mpr (List.mem_filter.mpr ⟨m, hn⟩)
    unfold colS
    cases e : pres L with
    | nil => rw [e] at mp; cases mp
    | cons x xs =>
      rw [e] at mp r
      refine .inr ⟨nv, ?_, last_top r (List.cons_ne_nil _ _) mp⟩
      rcases List.mem_cons.mp mp with rfl | mp
      · exact lt_self _
      · exact (List.pairwise_cons.mp r).1 _ mp
end Sp
theorem lt_eq {a b : D} (ha : VW a) (hb : VW b) : Sp.lt a b = ltV a b := vC_lt ha.pl hb.pl
theorem un_int {nm : List Nat} {f : Int → Int} {a r : D} (ha : VW a) (hr : r = .non ∨ ∃ i, a = .int i ∧ r = .int (f i)) (hu : ∀ i, Sp.UnI nm i (.int (f i))) (n1 : (nm == Sp.sNOT) = false) (n2 : (nm == Sp.sISN) = false) {s : Sp.Spn} (h : Sp.In a s) : Sp.In r (Sp.unS nm s) := by
  have e : Sp.unS nm s = match Sp.numS s with
    | none => .any
    | some q => Sp.unN nm q.1 q.2 := by
    unfold Sp.unS
    rw [if_neg (by rw [n1]; decide), if_neg (by rw [n2]; decide)]
    try (cases Sp.numS s <;> rfl)
  rw [e]
  cases hs : Sp.numS s with
  | none => trivial
  | some q =>
    show Sp.In r (Sp.unN nm q.1 q.2)
    rcases hr with rfl | ⟨i, rfl, rfl⟩
    · unfold Sp.unN
      split
      · exact .inl ⟨rfl, rfl⟩
      · split
        · exact .inl ⟨rfl, rfl⟩
        · split
          · exact .inl ⟨rfl, rfl⟩
          · split
            · exact .inl ⟨rfl, rfl⟩
            · trivial
    · obtain ⟨j, e1, j1, j2⟩ := Sp.in_int ha.pl h (by simp) hs
      cases e1
      exact Sp.in_unN j1 j2 (hu i)
theorem un_in {nm : List Nat} (h : nm ∈ NU) {a : D} (ha : VW a) : ∃ r, VW r ∧ d_unary [.str nm, a] = some (.dat r) ∧ ∀ s, Sp.In a s → Sp.In r (Sp.unS nm s) := by
  simp only [NU, List.mem_cons, List.not_mem_nil, or_false] at h
  rcases h with rfl | rfl | rfl | rfl | rfl | rfl | rfl | rfl
  · obtain ⟨r, h1, h3, h2⟩ := r_not a ha
    exact ⟨r, h1, un_run (F := d_negated) rfl h2 h1.scal, fun s hs => Sp.in_not hs h3⟩
  · obtain ⟨r, h1, h3, h2⟩ := r_negate a ha
    exact ⟨r, h1, un_run (F := d_negate) rfl h2 h1.scal, fun s hs => un_int ha h3 (fun i => .inr (.inl ⟨rfl, rfl⟩)) rfl rfl hs⟩
  · obtain ⟨r, h1, h3, h2⟩ := r_without_sign a ha
    exact ⟨r, h1, un_run (F := d_without_sign) rfl h2 h1.scal, fun s hs => un_int ha h3 (fun i => .inr (.inr (.inl ⟨rfl, rfl⟩))) rfl rfl hs⟩
  · obtain ⟨b, h2, h3, h4⟩ := r_is_null a ha
    refine ⟨.bl b, trivial, un_run (F := d_is_null) rfl h2 rfl, fun s hs => ?_⟩
    have e : b = Sp.isN a := by
      cases b with
      | true => rw [h3 rfl]; rfl
      | false =>
        have n := h4 rfl
        cases a <;> first | exact (n rfl).elim | rfl
    rw [e]
    exact Sp.in_isnull hs
  · obtain ⟨r, h1, h2⟩ := u_length a ha
    refine ⟨r, h1, un_run (F := d_length) rfl h2 h1.scal, fun s hs => ?_⟩
    show Sp.In r (match Sp.numS s with
      | none => .any
      | some q => .any)
    cases Sp.numS s <;> trivial
  · obtain ⟨r, h1, h3, h2⟩ := r_as_date a ha
    exact ⟨r, h1, un_run (F := d_as_date) rfl h2 h1.scal, fun s hs => un_int ha h3 (fun i => .inr (.inr (.inr (.inr ⟨.inl rfl, rfl⟩)))) rfl rfl hs⟩
  · obtain ⟨r, h1, h3, h2⟩ := r_as_decimal a ha
    exact ⟨r, h1, un_run (F := d_as_decimal) rfl h2 h1.scal, fun s hs => un_int ha h3 (fun i => .inr (.inr (.inr (.inr ⟨.inr rfl, rfl⟩)))) rfl rfl hs⟩
  · obtain ⟨r, h1, h3, h2⟩ := r_to_decimal a ha
    exact ⟨r, h1, un_run (F := d_to_decimal) rfl h2 h1.scal, fun s hs => un_int ha h3 (fun i => .inr (.inr (.inr (.inl ⟨rfl, rfl⟩)))) rfl rfl hs⟩
theorem cmp_there {a b : D} (h : cmpB a b = true) : a ≠ .non ∧ b ≠ .non := by
  have k := cmp_kd h
  unfold cmpB at h
  rw [Bool.and_eq_true] at h
  have n := h.2
  refine ⟨fun e => (by rw [e] at n; cases n), fun e => ?_⟩
  rw [e] at k
  cases a <;> first | (cases n; done) | (cases k; done)
theorem cmp_rel {nm : List Nat} {a b : D} {x : Bool} (hx : Sp.CmpR nm a b x) : (if cmpB a b = true then D.bl x else .non) = .non ∨ (a ≠ .non ∧ b ≠ .non ∧ ∃ c, (if cmpB a b = true then D.bl x else .non) = .bl c ∧ Sp.CmpR nm a b c) := by
  cases h : cmpB a b with
  | false => exact .inl (if_neg (by decide))
  | true => exact .inr ⟨(cmp_there h).1, (cmp_there h).2, x, if_pos rfl, hx⟩
theorem bin_in {nm : List Nat} (h : nm ∈ NB) {a b : D} (ha : VW a) (hb : VW b) : ∃ r, VW r ∧ d_binary [.str nm, a, b] = some (.dat r) ∧ ∀ s t, Sp.In a s → Sp.In b t → Sp.In r (Sp.biS nm s t) := by
  have l1 := lt_eq ha hb
  have l2 := lt_eq hb ha
  simp only [NB, List.mem_cons, List.not_mem_nil, or_false] at h
  rcases h with rfl | rfl | rfl | rfl | rfl | rfl | rfl | rfl | rfl | rfl | rfl
  · obtain ⟨r, h1, h3, h2⟩ := r_both a b ha hb
    exact ⟨r, h1, bin_run (F := d_both) rfl h2 h1.scal, fun s t hs ht => Sp.in_and hs ht h3⟩
  · obtain ⟨r, h1, h3, h2⟩ := r_either a b ha hb
    exact ⟨r, h1, bin_run (F := d_either) rfl h2 h1.scal, fun s t hs ht => Sp.in_or hs ht h3⟩
  · obtain ⟨r, h1, h2⟩ := w_equal a b ha hb
    have h2' := equal_ok a b ha hb
    have h1' : VW (eqV a b) := bif_vw (x := .bl _) (y := .non) trivial trivial
    refine ⟨eqV a b, h1', bin_run (F := d_equal) rfl h2' h1'.scal, fun s t hs ht => Sp.in_cmp (nm := [101, 113, 117, 97, 108]) hs ht (cmp_rel ?_)⟩
    show sameV a b = (!Sp.lt a b && !Sp.lt b a)
    rw [l1, l2, triVW ha hb]
  · have h2' := less_ok a b ha hb
    have h1' : VW (lessV a b) := bif_vw (x := .bl _) (y := .non) trivial trivial
    refine ⟨lessV a b, h1', bin_run (F := d_less) rfl h2' h1'.scal, fun s t hs ht => Sp.in_cmp (nm := [108, 101, 115, 115]) hs ht (cmp_rel ?_)⟩
    show ltV a b = Sp.lt a b
    rw [l1]
  · have h2' := most_ok a b ha hb
    have h1' : VW (leV a b) := bif_vw (x := .bl _) (y := .non) trivial trivial
    refine ⟨leV a b, h1', bin_run (F := d_at_most) rfl h2' h1'.scal, fun s t hs ht => Sp.in_cmp (nm := [97, 116, 32, 109, 111, 115, 116]) hs ht (cmp_rel ?_)⟩
    show (!ltV b a) = !Sp.lt b a
    rw [l2]
  · obtain ⟨r, h1, h2⟩ := w_same a b ha hb
    refine ⟨r, h1, bin_run (F := d_same) rfl h2 h1.scal, fun s t hs ht => ?_⟩
    show Sp.In r (Sp.biQ _ (Sp.numS s) (Sp.numS t))
    cases Sp.numS s <;> cases Sp.numS t <;> trivial
  · obtain ⟨r, h1, h3, h2⟩ := r_added a b ha hb
    refine ⟨r, h1, bin_run (F := d_added) rfl h2 h1.scal, fun s t hs ht => Sp.in_biQ ha.pl hb.pl hs ht (h3.imp id fun ⟨i, j, e1, e2, e3⟩ => ⟨i, j, e1, e2, .inl ⟨.inl rfl, e3⟩⟩)⟩
  · obtain ⟨r, h1, h3, h2⟩ := r_subtracted a b ha hb
    refine ⟨r, h1, bin_run (F := d_subtracted) rfl h2 h1.scal, fun s t hs ht => Sp.in_biQ ha.pl hb.pl hs ht (h3.imp id fun ⟨i, j, e1, e2, e3⟩ => ⟨i, j, e1, e2, .inr ⟨rfl, e3⟩⟩)⟩
  · obtain ⟨r, h1, h2⟩ := w_multiplied a b ha hb
    refine ⟨r, h1, bin_run (F := d_multiplied) rfl h2 h1.scal, fun s t hs ht => ?_⟩
    show Sp.In r (Sp.biQ _ (Sp.numS s) (Sp.numS t))
    cases Sp.numS s <;> cases Sp.numS t <;> trivial
  · obtain ⟨r, h1, h3, h2⟩ := r_coalesce a b ha hb
    exact ⟨r, h1, bin_run (F := d_coalesce) rfl h2 h1.scal, fun s t hs ht => Sp.in_join hs ht h3⟩
  · obtain ⟨r, h1, h3, h2⟩ := r_days_added a b ha hb
    refine ⟨r, h1, bin_run (F := d_days_added) rfl h2 h1.scal, fun s t hs ht => Sp.in_biQ ha.pl hb.pl hs ht (h3.imp id fun ⟨i, j, e1, e2, e3⟩ => ⟨i, j, e1, e2, .inl ⟨.inr rfl, e3⟩⟩)⟩
local macro_rules | `(tactic| walk_at "d") => `(tactic| first | with_reducible exact eqS _ _)
namespace Sp
theorem atI_ge {α : Type} {xs : List α} {c : Int} (h0 : 0 ≤ c) (h : c ≥ (xs.length : Int)) : atI xs c = none := by
  unfold atI ixN
  rw [if_pos h0, if_neg (by omega)]
  rfl
theorem up1 {q : Nat} (h : 1 ≤ q) : ∃ p, q = p + 1 := ⟨q - 1, by omega⟩
def Bd (k : Nat) : Nat := 10 ^ 15 * 10000 ^ k
theorem bd_succ (k : Nat) : 10000 * Bd k = Bd (k + 1) := by
  show 10000 * (10 ^ 15 * 10000 ^ k) = 10 ^ 15 * 10000 ^ (k + 1)
  rw [show 10000 ^ (k + 1) = 10000 ^ k * 10000 from rfl, Nat.mul_comm 10000 (10 ^ 15 * 10000 ^ k), Nat.mul_assoc]
theorem bd_le {k j : Nat} (h : k ≤ j) : Bd k ≤ Bd j := Nat.mul_le_mul_left _ (Nat.pow_le_pow_right (by decide) h)
theorem bd_lt {k : Nat} (h : k ≤ 8) : Bd k < 10 ^ 60 := Nat.lt_of_le_of_lt (bd_le h) (by decide)
def Sp2 (Ls : List (List D)) (k : Nat) (e : D) (P : Spn → Prop) : Prop := ∃ s, SOk (Bd k) s ∧ P s ∧ ∀ q, k + 1 ≤ q → d_span_of q [e, .lst (Ls.map zoneD)] = some (.dat (SD s))
theorem e0S (f : List Nat) (R : List D) : ixD (.tup (.str f :: R)) 0 = some (.str f) := atI_nat (j := 0) rfl
theorem sp_con {Ls : List (List D)} {k : Nat} {v : D} (hv : CV v) : Sp2 Ls k (.tup [.str sCON, v]) (In v) := by
  have hn := (isnt_nn v hv).2
  have i0 := e0S sCON [v]
  have i1 : ixD (.tup [.str sCON, v]) 1 = some v := atI_nat (j := 1) rfl
  have res : ∃ s, SOk (Bd k) s ∧ In v s ∧ SD s = .tup [.bl (!nn v), v, v] := by
    rcases hv with rfl | h
    · exact ⟨.nul true, trivial, ⟨rfl, rfl⟩, rfl⟩
    · refine ⟨.rng false v v, ⟨h.up (bd_le (Nat.zero_le k)), h.up (bd_le (Nat.zero_le k)), lt_self v⟩, .inr ⟨fun e => (by rw [e] at h; exact h), lt_self v, lt_self v⟩, ?_⟩
      have : nn v = true := by cases v <;> first | rfl | exact h.elim
      rw [this]; rfl
  obtain ⟨s, hs, hi, es⟩ := res
  refine ⟨s, hs, hi, fun q hq => ?_⟩
  rw [es]
  obtain ⟨p, rfl⟩ := up1 (show 1 ≤ q by omega)
  · show runP 4 2 (b_span_of (d_span_of p)) _ = _
    generalize d_span_of p = F
    generalize D.tup [.str sCON, v] = e at *
    generalize D.lst (Ls.map zoneD) = Z
    unfold b_span_of
    refine runP_ap (g := [.dat e, .dat Z, .un, .un]) rfl rfl ?_
    refine seq_nx (set_dat (er_ix rfl er_C rfl i0) rfl rfl) ?_
    refine sr_if (b := true) (er_tst (er_op rfl er_C rfl rfl rfl rfl)) rfl (fun _ => ?_) (fun q => by cases q)
    refine sr_assoc (sr_if (er_tst (er_op (er_ix rfl er_C rfl i1) er_C rfl rfl hn rfl)) rfl (fun q => ?_) (fun q => ?_))
    · refine sr_retS (er_tup (er_cons er_C (er_cons er_C (er_cons er_C er_nil))) rfl (Nat.le_of_ble_eq_true rfl)) ?_
      rcases hv with rfl | h
      · exact rfl
      · cases v <;> first | (cases q; done) | exact h.elim
    · refine sr_nx (sr_retS (er_tup (er_cons er_C (er_cons (er_ix rfl er_C rfl i1) (er_cons (er_ix rfl er_C rfl i1) er_nil))) rfl (Nat.le_of_ble_eq_true rfl)) ?_)
      rw [q]
      exact rfl
theorem ge_ok (c : Int) (n : Nat) : geD (.int c) (.int (n : Int)) = some (.bl (decide (c ≥ (n : Int)))) := rfl
theorem sp_col {Ls : List (List D)} (hL : ∀ L ∈ Ls, (∀ v ∈ L, CV v) ∧ L.length ≤ 1000) {k : Nat} {c : Int} (h0 : 0 ≤ c) : Sp2 Ls k (.tup [.str sCOL, .int c]) (fun s => ∀ L v, atI Ls c = some L → v ∈ L → In v s) := by
  have i0 := e0S sCOL [.int c]
  have i1 : ixD (.tup [.str sCOL, .int c]) 1 = some (.int c) := atI_nat (j := 1) rfl
  by_cases hc : c ≥ (Ls.length : Int)
  · refine ⟨.nul true, trivial, fun L v e _ => (by rw [atI_ge h0 hc] at e; cases e), fun q hq => ?_⟩
    obtain ⟨p, rfl⟩ := up1 (show 1 ≤ q by omega)
    · show runP 4 2 (b_span_of (d_span_of p)) _ = _
      have gz : geD (.int c) (.int ((Ls.map zoneD).length : Int)) = some (.bl true) := by rw [List.length_map, ge_ok, decide_eq_true hc]
      generalize d_span_of p = F
      generalize D.tup [.str sCOL, .int c] = e at *
      generalize Ls.map zoneD = Z at *
      unfold b_span_of
      refine runP_ap (g := [.dat e, .dat (.lst Z), .un, .un]) rfl rfl ?_
      refine seq_nx (set_dat (er_ix rfl er_C rfl i0) rfl rfl) ?_
      refine sr_if (b := false) (er_tst (er_op rfl er_C rfl rfl rfl rfl)) rfl (fun q => by cases q) (fun _ => ?_)
      refine sr_nx (sr_if (b := true) (er_tst (er_op rfl er_C rfl rfl rfl rfl)) rfl (fun _ => ?_) (fun q => by cases q))
      refine sr_assoc (sr_if (b := true) (er_tst (er_op (er_ix rfl er_C rfl i1) (er_callS (er_cons rfl er_nil) rfl (lenL Z) rfl) rfl rfl gz rfl)) rfl (fun _ => ?_) (fun q => by cases q))
      exact sr_retS (er_tup (er_cons er_C (er_cons er_C (er_cons er_C er_nil))) rfl (Nat.le_of_ble_eq_true rfl)) rfl
  · obtain ⟨L, hx, mL⟩ := atI_lt (xs := Ls) h0 (by omega)
    obtain ⟨hv, hz⟩ := hL L mL
    refine ⟨colS L, (col_sok hv).up (bd_le (Nat.zero_le k)), fun L' v e m => (by rw [hx] at e; cases e; exact in_col hv m), fun q hq => ?_⟩
    rw [col_sd]
    obtain ⟨p, rfl⟩ := up1 (show 1 ≤ q by omega)
    · show runP 4 2 (b_span_of (d_span_of p)) _ = _
      have gz : geD (.int c) (.int ((Ls.map zoneD).length : Int)) = some (.bl false) := by rw [List.length_map, ge_ok, decide_eq_false hc]
      have xz : ixD (.lst (Ls.map zoneD)) c = some (zoneD L) := atI_map (f := zoneD) hx
      generalize d_span_of p = F
      generalize D.tup [.str sCOL, .int c] = e at *
      generalize Ls.map zoneD = Z at *
      unfold b_span_of
      refine runP_ap (g := [.dat e, .dat (.lst Z), .un, .un]) rfl rfl ?_
      refine seq_nx (set_dat (er_ix rfl er_C rfl i0) rfl rfl) ?_
      refine sr_if (b := false) (er_tst (er_op rfl er_C rfl rfl rfl rfl)) rfl (fun q => by cases q) (fun _ => ?_)
      refine sr_nx (sr_if (b := true) (er_tst (er_op rfl er_C rfl rfl rfl rfl)) rfl (fun _ => ?_) (fun q => by cases q))
      refine sr_assoc (sr_if (b := false) (er_tst (er_op (er_ix rfl er_C rfl i1) (er_callS (er_cons rfl er_nil) rfl (lenL Z) rfl) rfl rfl gz rfl)) rfl (fun q => by cases q) (fun _ => ?_))
      refine sr_nx (sr_assoc (seq_nx (set_dat (er_ix rfl (er_ix rfl er_C rfl i1) rfl xz) rfl rfl) ?_))
      refine sr_retS (er_tup (er_cons (er_op (f := gtD) (er_fld (fl := fl_Zone) rfl rfl) er_C rfl rfl rfl rfl) (er_cons (er_fld (fl := fl_Zone) rfl rfl) (er_cons (er_fld (fl := fl_Zone) rfl rfl) er_nil))) rfl (Nat.le_of_ble_eq_true rfl)) ?_
      exact rfl
theorem sp_un {Ls : List (List D)} {k : Nat} {nm : List Nat} {a : D} (hk : k ≤ 7) {P : Spn → Prop} (h : Sp2 Ls k a P) : Sp2 Ls (k + 1) (.tup [.str sUN, .str nm, a]) (fun r => ∃ s, P s ∧ r = unS nm s) := by
  obtain ⟨s, hs, hp, hq⟩ := h
  refine ⟨unS nm s, by rw [← bd_succ]; exact un_sok hs, ⟨s, hp, rfl⟩, fun q hq' => ?_⟩
  obtain ⟨p, rfl⟩ := up1 (show 1 ≤ q by omega)
  have q1 := hq p (by omega)
  have u1 := un_ok (nm := nm) hs (bd_lt (by omega))
  have i0 := e0S sUN [.str nm, a]
  have i1 : ixD (.tup [.str sUN, .str nm, a]) 1 = some (.str nm) := atI_nat (j := 1) rfl
  have i2 : ixD (.tup [.str sUN, .str nm, a]) 2 = some a := atI_nat (j := 2) rfl
  generalize SD (unS nm s) = R at *
  generalize SD s = S at *
  · show runP 4 2 (b_span_of (d_span_of p)) _ = _
    generalize d_span_of p = F at *
    generalize D.tup [.str sUN, .str nm, a] = e at *
    generalize D.lst (Ls.map zoneD) = Z at *
    unfold b_span_of
    refine runP_ap (g := [.dat e, .dat Z, .un, .un]) rfl rfl ?_
    refine seq_nx (set_dat (er_ix rfl er_C rfl i0) rfl rfl) ?_
    refine sr_if (b := false) (er_tst (er_op rfl er_C rfl rfl rfl rfl)) rfl (fun q => by cases q) (fun _ => ?_)
    refine sr_nx (sr_if (b := false) (er_tst (er_op rfl er_C rfl rfl rfl rfl)) rfl (fun q => by cases q) (fun _ => ?_))
    refine sr_nx (sr_if (b := true) (er_tst (er_op rfl er_C rfl rfl rfl rfl)) rfl (fun _ => ?_) (fun q => by cases q))
    exact sr_retS (er_callG (er_cons (er_ix rfl er_C rfl i1) (er_cons (er_callG (er_cons (er_ix rfl er_C rfl i2) (er_cons rfl er_nil)) rfl rfl q1 rfl) er_nil)) rfl rfl u1 rfl) rfl
theorem sp_bin {Ls : List (List D)} {k : Nat} {nm : List Nat} {a b : D} (hk : k ≤ 7) {P Q : Spn → Prop} (h : Sp2 Ls k a P) (h' : Sp2 Ls k b Q) : Sp2 Ls (k + 1) (.tup [.str sBIN, .str nm, a, b]) (fun r => ∃ s t, P s ∧ Q t ∧ r = biS nm s t) := by
  obtain ⟨s, hs, hp, hq⟩ := h
  obtain ⟨t, ht, hp', hr⟩ := h'
  refine ⟨biS nm s t, by rw [← bd_succ]; exact bi_sok hs ht, ⟨s, t, hp, hp', rfl⟩, fun q hq' => ?_⟩
  obtain ⟨p, rfl⟩ := up1 (show 1 ≤ q by omega)
  have q1 := hq p (by omega)
  have r1 := hr p (by omega)
  have u1 := bi_ok (nm := nm) hs ht (bd_lt (by omega))
  have i0 := e0S sBIN [.str nm, a, b]
  have i1 : ixD (.tup [.str sBIN, .str nm, a, b]) 1 = some (.str nm) := atI_nat (j := 1) rfl
  have i2 : ixD (.tup [.str sBIN, .str nm, a, b]) 2 = some a := atI_nat (j := 2) rfl
  have i3 : ixD (.tup [.str sBIN, .str nm, a, b]) 3 = some b := atI_nat (j := 3) rfl
  generalize SD (biS nm s t) = R at *
  generalize SD s = S at *
  generalize SD t = T at *
  · show runP 4 2 (b_span_of (d_span_of p)) _ = _
    generalize d_span_of p = F at *
    generalize D.tup [.str sBIN, .str nm, a, b] = e at *
    generalize D.lst (Ls.map zoneD) = Z at *
    unfold b_span_of
    refine runP_ap (g := [.dat e, .dat Z, .un, .un]) rfl rfl ?_
    refine seq_nx (set_dat (er_ix rfl er_C rfl i0) rfl rfl) ?_
    refine sr_if (b := false) (er_tst (er_op rfl er_C rfl rfl rfl rfl)) rfl (fun q => by cases q) (fun _ => ?_)
    refine sr_nx (sr_if (b := false) (er_tst (er_op rfl er_C rfl rfl rfl rfl)) rfl (fun q => by cases q) (fun _ => ?_))
    refine sr_nx (sr_if (b := false) (er_tst (er_op rfl er_C rfl rfl rfl rfl)) rfl (fun q => by cases q) (fun _ => ?_))
    refine sr_nx (sr_if (b := true) (er_tst (er_op rfl er_C rfl rfl rfl rfl)) rfl (fun _ => ?_) (fun q => by cases q))
    exact sr_retS (er_callG (er_cons (er_ix rfl er_C rfl i1) (er_cons (er_callG (er_cons (er_ix rfl er_C rfl i2) (er_cons rfl er_nil)) rfl rfl q1 rfl) (er_cons (er_callG (er_cons (er_ix rfl er_C rfl i3) (er_cons rfl er_nil)) rfl rfl r1 rfl) er_nil))) rfl rfl u1 rfl) rfl
theorem sp_cho {Ls : List (List D)} {k : Nat} {a b c : D} (hk : k ≤ 7) {P Q : Spn → Prop} (h : Sp2 Ls k b P) (h' : Sp2 Ls k c Q) : Sp2 Ls (k + 1) (.tup [.str sCHO, a, b, c]) (fun r => ∃ s t, P s ∧ Q t ∧ r = joinS s t) := by
  obtain ⟨s, hs, hp, hq⟩ := h
  obtain ⟨t, ht, hp', hr⟩ := h'
  refine ⟨joinS s t, (join_sok hs ht).up (bd_le (Nat.le_succ k)), ⟨s, t, hp, hp', rfl⟩, fun q hq' => ?_⟩
  obtain ⟨p, rfl⟩ := up1 (show 1 ≤ q by omega)
  have q1 := hq p (by omega)
  have r1 := hr p (by omega)
  have u1 := join_ok hs ht (bd_lt (by omega))
  have i0 := e0S sCHO [a, b, c]
  have i2 : ixD (.tup [.str sCHO, a, b, c]) 2 = some b := atI_nat (j := 2) rfl
  have i3 : ixD (.tup [.str sCHO, a, b, c]) 3 = some c := atI_nat (j := 3) rfl
  generalize SD (joinS s t) = R at *
  generalize SD s = S at *
  generalize SD t = T at *
  · show runP 4 2 (b_span_of (d_span_of p)) _ = _
    generalize d_span_of p = F at *
    generalize D.tup [.str sCHO, a, b, c] = e at *
    generalize D.lst (Ls.map zoneD) = Z at *
    unfold b_span_of
    refine runP_ap (g := [.dat e, .dat Z, .un, .un]) rfl rfl ?_
    refine seq_nx (set_dat (er_ix rfl er_C rfl i0) rfl rfl) ?_
    refine sr_if (b := false) (er_tst (er_op rfl er_C rfl rfl rfl rfl)) rfl (fun q => by cases q) (fun _ => ?_)
    refine sr_nx (sr_if (b := false) (er_tst (er_op rfl er_C rfl rfl rfl rfl)) rfl (fun q => by cases q) (fun _ => ?_))
    refine sr_nx (sr_if (b := false) (er_tst (er_op rfl er_C rfl rfl rfl rfl)) rfl (fun q => by cases q) (fun _ => ?_))
    refine sr_nx (sr_if (b := false) (er_tst (er_op rfl er_C rfl rfl rfl rfl)) rfl (fun q => by cases q) (fun _ => ?_))
    refine sr_nx (sr_if (b := true) (er_tst (er_op rfl er_C rfl rfl rfl rfl)) rfl (fun _ => ?_) (fun q => by cases q))
    exact sr_retS (er_callG (er_cons (er_callG (er_cons (er_ix rfl er_C rfl i2) (er_cons rfl er_nil)) rfl rfl q1 rfl) (er_cons (er_callG (er_cons (er_ix rfl er_C rfl i3) (er_cons rfl er_nil)) rfl rfl r1 rfl) er_nil)) rfl rfl u1 rfl) rfl
end Sp
def CVW (v : D) : Prop := VW v ∧ Sp.CV v
/-- rows whose values stand in the columns Ls -/
def Grp (Ls Rs : List (List D)) : Prop := ∀ R ∈ Rs, (∀ v ∈ R, VW v) ∧ R.length = Ls.length ∧ ∀ (c : Nat) v, R[c]? = some v → ∃ L, Ls[c]? = some L ∧ v ∈ L
theorem span_all {Ls Rs : List (List D)} (hL : ∀ L ∈ Ls, (∀ v ∈ L, Sp.CV v) ∧ L.length ≤ 1000) (hR : Grp Ls Rs) {w : Int} (hw : w ≤ (Ls.length : Int)) {k : Nat} {e : D} (h : Ex CVW w k e) : k ≤ 7 →
    Sp.Sp2 Ls k e (fun s => ∀ R ∈ Rs, ∃ v, VW v ∧ (∀ q, k + 1 ≤ q → d_evaluate q [e, .lst R] = some (.dat v)) ∧ Sp.In v s) := by
  have sh : ∀ q, 1 ≤ q → ∃ p, q = p + 1 := fun q h => ⟨q - 1, by omega⟩
  induction h with
  | con hv =>
    intro hk
    obtain ⟨s, hs, hi, hq⟩ := Sp.sp_con (Ls := Ls) hv.2
    exact ⟨s, hs, fun R _ => ⟨_, hv.1, fun q hq => by obtain ⟨p, rfl⟩ := sh q (by omega); exact ev_con _ _ _ hv.1, hi⟩, hq⟩
  | col h0 h1 =>
    rename_i k c
    intro hk
    obtain ⟨s, hs, hi, hq⟩ := Sp.sp_col hL h0 (k := k)
    refine ⟨s, hs, fun R m => ?_, hq⟩
    obtain ⟨g1, g2, g3⟩ := hR R m
    obtain ⟨n, rfl⟩ := Int.eq_ofNat_of_zero_le h0
    have hn : n < R.length := by omega
    have e1 : R[n]? = some R[n] := List.getElem?_eq_getElem hn
    obtain ⟨L, l1, l2⟩ := g3 n _ e1
    have ix : ixD (.lst R) (n : Int) = some R[n] := atI_nat e1
    refine ⟨R[n], g1 _ (List.getElem_mem hn), fun q hq => ?_, hi L _ (atI_nat l1) l2⟩
    obtain ⟨p, rfl⟩ := sh q (by omega)
    obtain ⟨v, _, e2, e3⟩ := ev_col (d_evaluate p) (n : Int) R h0 g1
    rw [if_pos (by omega), ix] at e3
    rw [show R[n] = v from e3.symm]
    exact e2
  | un hn _ ih =>
    intro hk
    obtain ⟨s', hs', ⟨s, hp, rfl⟩, hq'⟩ := Sp.sp_un (by omega) (ih (by omega))
    refine ⟨_, hs', fun R m => ?_, hq'⟩
    obtain ⟨va, wa, ea, ia⟩ := hp R m
    obtain ⟨r, wr, er, ir⟩ := un_in hn wa
    exact ⟨r, wr, fun q hq => by obtain ⟨p, rfl⟩ := sh q (by omega); exact ev_un _ _ _ va r R (ea p (by omega)) wa er wr, ir s ia⟩
  | bin hn _ _ i1 i2 =>
    intro hk
    obtain ⟨s', hs', ⟨s, t, hp, hp', rfl⟩, hq'⟩ := Sp.sp_bin (by omega) (i1 (by omega)) (i2 (by omega))
    refine ⟨_, hs', fun R m => ?_, hq'⟩
    obtain ⟨va, wa, ea, ia⟩ := hp R m
    obtain ⟨vb, wb, eb, ib⟩ := hp' R m
    obtain ⟨r, wr, er, ir⟩ := bin_in hn wa wb
    exact ⟨r, wr, fun q hq => by obtain ⟨p, rfl⟩ := sh q (by omega); exact ev_bin _ _ _ _ va vb r R (ea p (by omega)) wa (eb p (by omega)) wb er wr, ir s t ia ib⟩
  | ter hn => exact (List.not_mem_nil hn).elim
  | cho _ _ _ i1 i2 i3 =>
    intro hk
    obtain ⟨s0, _, hp0, _⟩ := i1 (by omega)
    obtain ⟨s', hs', ⟨s, t, hp, hp', rfl⟩, hq'⟩ := Sp.sp_cho (by omega) (i2 (by omega)) (i3 (by omega))
    refine ⟨_, hs', fun R m => ?_, hq'⟩
    obtain ⟨va, wa, ea, _⟩ := hp0 R m
    obtain ⟨vb, wb, eb, ib⟩ := hp R m
    obtain ⟨vc, wc, ec, ic⟩ := hp' R m
    refine ⟨if bTrue va = true then vb else vc, bif_vw wb wc, fun q hq => by obtain ⟨p, rfl⟩ := sh q (by omega); exact ev_cho _ _ _ _ va vb vc R (ea p (by omega)) (eb p (by omega)) (ec p (by omega)) wa wb wc, Sp.in_join ib ic ?_⟩
    cases bTrue va
    · exact .inr rfl
    · exact .inl rfl
theorem leT_rkD {v w : D} (hv : PlV v) (hw : PlV w) : leT (rk v) (rk w) = some (!ltV w v) := by
  show leTs [.int (kd v : Nat), kx v] [.int (kd w : Nat), kx w] = _
  simp only [leTs, leT]
  have e0 : ∀ a b : Int, D.eqv (.int a) (.int b) = (a == b) := fun _ _ => rfl
  have e1 : ∀ a b : List Nat, D.eqv (.str a) (.str b) = (a == b) := fun _ _ => rfl
  have n1 : ∀ a b : Int, (if a = b then some true else some (decide (a ≤ b))) = some (!decide (b < a)) := fun a b => by
    split
    · rename_i h; rw [h]; simp
    · rw [Option.some.injEq, Bool.eq_iff_iff]; simp
  have n2 : ∀ a b : List Nat, (if a = b then some true else some (!decide (b < a))) = some (!decide (b < a)) := fun a b => by
    split
    · rename_i h; rw [h, decide_eq_false (List.lt_irrefl b)]; rfl
    · rfl
  cases v with
  | non => cases w <;> first | exact hw.elim | rfl
  | bl b =>
    cases w <;> first | exact hw.elim | skip
    all_goals cases b <;> first | rfl | skip
    all_goals rename_i c; cases c <;> rfl
  | int i =>
    cases w with
    | int j =>
      show (if (i == j) = true then some true else some (decide (i ≤ j))) = some (!decide (j < i))
      simp only [beq_iff_eq]; exact n1 i j
    | non => rfl
    | bl c => rfl
    | str t => rfl
    | _ => exact hw.elim
  | str x =>
    cases w with
    | str y =>
      show (if (x == y) = true then some true else some (!decide (y < x))) = some (!decide (y < x))
      simp only [beq_iff_eq]; exact n2 x y
    | non => rfl
    | bl c => rfl
    | int t => rfl
    | _ => exact hw.elim
  | _ => exact hv.elim
theorem le_rkD {v w : D} (hv : PlV v) (hw : PlV w) (r1 : (rk v).rok = true ∧ (rk v).dp = 1) (r2 : (rk w).rok = true ∧ (rk w).dp = 1) : leX (rk v) (rk w) = some (.bl (!ltV w v)) := by
  have s1 := rok_shp r1.1 (by omega)
  have s2 := rok_shp r2.1 (by omega)
  show (if ((rk v).shp && (rk w).shp) = true then (leT (rk v) (rk w)).map D.bl else none) = _
  rw [s1, s2, if_pos (show (true && true) = true from rfl), leT_rkD hv hw]
  rfl
local macro_rules | `(tactic| walk_at "e") => `(tactic| first | ((with_reducible apply er_ifT); (walk_at "e"); (walk_at "e")) | ((with_reducible apply er_ifF); (walk_at "e"); (walk_at "e")))
theorem state_ok (c k : Int) : ∃ s, d__law_state [.int c, .int k] = some (.new (.lst [.int s])) := by
  have P : ∃ fr, d__law_state [.int c, .int k] = some fr ∧ ∃ s, fr = .new (.lst [.int s]) := by
    unfold d__law_state b__law_state
    refine runP_post (g := [.dat (.int c), .dat (.int k), .un, .un, .un, .un, .un]) rfl rfl ?_
    walk_at "s"
    · intro _
      walk_at "s"
      exact end_post rfl ⟨_, rfl⟩
    · intro _
      walk_at "s"
      walk_at "s"
      walk_at "s"
      have f1 := Int.emod_nonneg (c * 6364136223 + (k + 1) * 104729 + 77) (show (2305843009213693951 : Int) ≠ 0 by decide)
      have f2 := Int.emod_lt_of_pos (c * 6364136223 + (k + 1) * 104729 + 77) (show (0 : Int) < 2305843009213693951 by decide)
      generalize (c * 6364136223 + (k + 1) * 104729 + 77) % 2305843009213693951 = f at *
      walk_at "s"
      have g1 := Int.emod_nonneg (f * f + 1013 * f + k) (show (2305843009213693951 : Int) ≠ 0 by decide)
      have g2 := Int.emod_lt_of_pos (f * f + 1013 * f + k) (show (0 : Int) < 2305843009213693951 by decide)
      generalize (f * f + 1013 * f + k) % 2305843009213693951 = h at *
      walk_at "s"
      have h1 := Int.emod_nonneg (h * 48271 + f * 31 + 9) (show (2305843009213693951 : Int) ≠ 0 by decide)
      have h2 := Int.emod_lt_of_pos (h * 48271 + f * 31 + 9) (show (0 : Int) < 2305843009213693951 by decide)
      generalize (h * 48271 + f * 31 + 9) % 2305843009213693951 = t at *
      walk_at "s"
      walk_at "s"
      exact end_post rfl ⟨_, rfl⟩
  obtain ⟨fr, h, s, rfl⟩ := P
  exact ⟨s, h⟩
theorem digit_ok (s m : Int) (h0 : 0 < m) (h1 : m < 2 ^ 256) : d__law_digit (.lst [.int s]) [.int m] = some (.dat (.int (s % m)), .lst [.int (s / m)]) := by
  unfold d__law_digit b__law_digit
  refine runM_ap (g := [.own (.lst [.int s]) true false, .dat (.int m), .un]) rfl (Nat.zero_le _) rfl ?_
  walk_at "s"
  walk_at "s"
  walk_at "s"
  exact rfl
theorem cell_ok (ns : List Int) (k : Int) (hk : 0 ≤ k) : ∃ c, d__law_cell [scriptD ns, .int k] = some (.dat (.int c)) := by
  have P : ∃ fr, d__law_cell [scriptD ns, .int k] = some fr ∧ ∃ c, fr = .dat (.int c) := by
    unfold d__law_cell b__law_cell
    refine runP_post (g := [.dat (scriptD ns), .dat (.int k)]) rfl rfl ?_
    walk_at "s"
    · intro q
      have q := of_decide_eq_true q
      rw [List.length_map] at q
      obtain ⟨x, h1, _⟩ := atI_lt (xs := ns) hk q
      have hx : ixD (scriptD ns) k = some (.int x) := atI_map (f := D.int) h1
      walk_at "s"
      exact end_post rfl ⟨_, rfl⟩
    · intro _
      walk_at "s"
      walk_at "s"
      exact end_post rfl ⟨_, rfl⟩
  obtain ⟨fr, h, c, rfl⟩ := P
  exact ⟨c, h⟩
theorem digitOk : DigitOk d__law_digit := fun s m h0 h1 => digit_ok s m h0 h1
theorem dtext_ok (s : Int) : ∃ t s', d__law_text (stZ s) [] = some (.dat (.str t), stZ s') ∧ t.length ≤ 200 ∧ ∀ c ∈ t, sg c := by
  obtain ⟨s', acc, e, hl, hc⟩ := draw_word digitOk [97, 98, 65, 66, 32, 49, 57, 45, 39, 126] (N := 10) (M := 5) rfl (by decide) (by decide) (by decide) (by decide) true s
  refine ⟨acc, s', ?_, by omega, fun c h => by have := hc c h; clear h; revert this; revert c; decide⟩
  unfold d__law_text b__law_text
  refine runM_ap (g := [.own (stZ s) true false, .un, .un]) rfl (Nat.zero_le _) rfl ?_
  walk_at "s"
  exact sr_ret e rfl
theorem dvalue_ok (s : Int) : ∃ v s', d__law_value (stZ s) [] = some (.dat v, stZ s') ∧ DV v ∧ ∀ i, v = .int i → i.natAbs ≤ 10 ^ 15 := by
  have P : ∃ fr c', d__law_value (stZ s) [] = some (fr, c') ∧ ∃ v s', fr = .dat v ∧ c' = stZ s' ∧ DV v ∧ ∀ i, v = .int i → i.natAbs ≤ 10 ^ 15 := by
    obtain ⟨t, s', ht, h1, h2⟩ := dtext_ok (s / 8)
    have g1 := digit_ok s 8 (by decide) (by decide)
    have g2 := digit_ok (s / 8) 2 (by decide) (by decide)
    have g3 := digit_ok (s / 8) 7 (by decide) (by decide)
    have g4 := digit_ok (s / 8 / 2) 1000 (by decide) (by decide)
    unfold d__law_value b__law_value
    refine runM_post (g := [.own (stZ s) true false, .un]) rfl (Nat.zero_le _) rfl ?_
    walk_at "w"
    · exact end_postM rfl ⟨_, _, rfl, rfl, trivial, fun i h => by cases h⟩
    · exact end_postM rfl ⟨_, _, rfl, rfl, trivial, fun i h => by cases h⟩
    · exact end_postM rfl ⟨_, _, rfl, rfl, show (s / 8 % 7 - 3).natAbs < 10 ^ 60 by omega, fun i h => by cases h; omega⟩
    · have big : ((s / 8 % 2 * 2 - 1) * (1000000000000000 - s / 8 / 2 % 1000)).natAbs ≤ 10 ^ 15 := by
        rcases (show s / 8 % 2 = 0 ∨ s / 8 % 2 = 1 by omega) with h | h <;> rw [h] <;> omega
      exact end_postM rfl ⟨_, _, rfl, rfl, show ((s / 8 % 2 * 2 - 1) * (1000000000000000 - s / 8 / 2 % 1000)).natAbs < 10 ^ 60 by omega, fun i h => by cases h; exact big⟩
    · exact end_postM rfl ⟨_, _, rfl, rfl, ⟨h1, h2⟩, fun i h => by cases h⟩
  obtain ⟨fr, c', h, v, s', rfl, rfl, hv, hi⟩ := P
  exact ⟨v, s', h, hv, hi⟩
theorem up1 {q : Nat} (h : 1 ≤ q) : ∃ p, q = p + 1 := ⟨q - 1, by omega⟩
abbrev nNOT : List Nat := [110, 111, 116]
abbrev nISN : List Nat := [105, 115, 32, 110, 117, 108, 108]
abbrev nAND : List Nat := [97, 110, 100]
abbrev nOR : List Nat := [111, 114]
abbrev nCOA : List Nat := [99, 111, 97, 108, 101, 115, 99, 101]
abbrev nSAM : List Nat := [115, 97, 109, 101]
theorem cv_of {v : D} (h : DV v) (hi : ∀ i, v = .int i → i.natAbs ≤ 10 ^ 15) : CVW v := by
  cases v with
  | non => exact ⟨trivial, .inl rfl⟩
  | bl b => exact ⟨trivial, .inr trivial⟩
  | int i => exact ⟨hi i rfl, .inr (hi i rfl)⟩
  | str t =>
    obtain ⟨h1, h2⟩ := (show t.length ≤ 200 ∧ ∀ c ∈ t, sg c from h)
    exact ⟨⟨by omega, fun c hc => by have := h2 c hc; unfold sg at this; omega⟩, .inr ⟨h1, fun c hc => by have := h2 c hc; unfold sg at this; omega⟩⟩
  | _ => exact h.elim
theorem val_ok (s : Int) : ∃ v s', d__law_value (stZ s) [] = some (.dat v, stZ s') ∧ CVW v := by
  obtain ⟨v, s', h, d, hi⟩ := dvalue_ok s
  exact ⟨v, s', h, cv_of d hi⟩
theorem leaf_ok {w : Int} (h0 : 0 < w) (h1 : w < 2 ^ 256) (s : Int) : ∃ d s', d__law_leaf (stZ s) [.int w] = some (.dat d, stZ s') ∧ ∀ k, Ex CVW w k d := by
  have P : ∃ fr c', d__law_leaf (stZ s) [.int w] = some (fr, c') ∧ ∃ d s', fr = .dat d ∧ c' = stZ s' ∧ ∀ k, Ex CVW w k d := by
    have g1 := digit_ok s 3 (by decide) (by decide)
    have g2 := digit_ok (s / 3) w h0 h1
    obtain ⟨v, s', hv, vs⟩ := val_ok (s / 3)
    unfold d__law_leaf b__law_leaf
    refine runM_post (g := [.own (stZ s) true false, .dat (.int w)]) rfl (Nat.zero_le _) rfl ?_
    refine sr_if (er_tst (er_op (f := gtD) (er_callM (er_cons rfl (er_cons er_C er_nil)) rfl rfl rfl rfl rfl g1 rfl) er_C rfl rfl rfl rfl)) rfl (fun _ => ?_) (fun _ => ?_)
    · exact sr_retS (er_tup (er_cons er_C (er_cons (er_callM (er_cons rfl (er_cons rfl er_nil)) rfl rfl rfl rfl rfl g2 rfl) er_nil)) rfl (Nat.le_of_ble_eq_true rfl)) (end_postM rfl ⟨_, _, rfl, rfl, fun k => .col (Int.emod_nonneg _ (by omega)) (Int.emod_lt_of_pos _ h0)⟩)
    · exact sr_nx (sr_ret (er_tup (er_cons er_C (er_cons (er_callM (er_cons rfl er_nil) rfl rfl rfl rfl rfl hv rfl) er_nil)) rfl (Nat.le_of_ble_eq_true rfl)) (end_postM rfl ⟨_, _, rfl, rfl, fun k => .con vs⟩))
  obtain ⟨fr, c', h, d, s', rfl, rfl, hx⟩ := P
  exact ⟨d, s', h, hx⟩
theorem nm9 (x : Int) : ∃ nm ∈ NU, ixD (.tup [.str nNOT, .str nISN, .str [110, 101, 103, 97, 116, 101], .str [97, 98, 115], .str [97, 115, 32, 100, 97, 116, 101], .str [97, 115, 32, 100, 101, 99, 105, 109, 97, 108], .str [116, 111, 32, 100, 101, 99, 105, 109, 97, 108], .str nISN, .str [108, 101, 110, 103, 116, 104]]) (x % 9) = some (.str nm) := by
  have q := atI_lt (xs := [nNOT, nISN, [110, 101, 103, 97, 116, 101], [97, 98, 115], [97, 115, 32, 100, 97, 116, 101], [97, 115, 32, 100, 101, 99, 105, 109, 97, 108], [116, 111, 32, 100, 101, 99, 105, 109, 97, 108], nISN, [108, 101, 110, 103, 116, 104]]) (k := x % 9) (by omega) (by show x % 9 < 9; omega)
  obtain ⟨nm, e, m⟩ := q
  exact ⟨nm, by revert m; clear e; revert nm; decide, atI_map (f := D.str) e⟩
theorem nm12 (x : Int) : ∃ nm ∈ NB, ixD (.tup [.str nAND, .str nOR, .str [101, 113, 117, 97, 108], .str [108, 101, 115, 115], .str [97, 116, 32, 109, 111, 115, 116], .str [97, 100, 100], .str [115, 117, 98, 116, 114, 97, 99, 116], .str nCOA, .str [97, 100, 100, 32, 100, 97, 121, 115], .str nSAM, .str [109, 117, 108, 116, 105, 112, 108, 121], .str [108, 101, 115, 115]]) (x % 12) = some (.str nm) := by
  have q := atI_lt (xs := [nAND, nOR, [101, 113, 117, 97, 108], [108, 101, 115, 115], [97, 116, 32, 109, 111, 115, 116], [97, 100, 100], [115, 117, 98, 116, 114, 97, 99, 116], nCOA, [97, 100, 100, 32, 100, 97, 121, 115], nSAM, [109, 117, 108, 116, 105, 112, 108, 121], [108, 101, 115, 115]]) (k := x % 12) (by omega) (by show x % 12 < 12; omega)
  obtain ⟨nm, e, m⟩ := q
  exact ⟨nm, by revert m; clear e; revert nm; decide, atI_map (f := D.str) e⟩
theorem drawn_ok {w : Int} (h0 : 0 < w) (h1 : w < 2 ^ 256) : ∀ (k : Nat) (s : Int) (q : Nat), k + 1 ≤ q → ∃ d s', d__law_expression q (stZ s) [.int w, .int k] = some (.dat d, stZ s') ∧ Ex CVW w k d := by
  have post : ∀ (F : Cn → List D → Option (FR × Cn)) (k : Nat) (s : Int), (∃ fr c', runM 7 3 0 (b__law_expression F) (stZ s) [.int w, .int k] = some (fr, c') ∧ ∃ d s', fr = .dat d ∧ c' = stZ s' ∧ Ex CVW w k d) → ∃ d s', runM 7 3 0 (b__law_expression F) (stZ s) [.int w, .int k] = some (.dat d, stZ s') ∧ Ex CVW w k d := fun F k s ⟨fr, c', h, d, s', h1, h2, h3⟩ => by
    subst h1; subst h2
    exact ⟨d, s', h, h3⟩
  intro k
  induction k with
  | zero =>
    intro s q hq
    obtain ⟨p, rfl⟩ := up1 (show 1 ≤ q by omega)
    refine post (d__law_expression p) 0 s ?_
    have g1 := digit_ok s 9 (by decide) (by decide)
    obtain ⟨d, s', e, hx⟩ := leaf_ok h0 h1 (s / 9)
    generalize d__law_expression p = F
    unfold b__law_expression
    refine runM_post (g := [.own (stZ s) true false, .dat (.int w), .dat (.int ((0 : Nat) : Int)), .un, .un, .un, .un]) rfl (Nat.zero_le _) rfl ?_
    refine seq_nx (set_dat (er_callM (er_cons rfl (er_cons er_C er_nil)) rfl rfl rfl rfl rfl g1 rfl) rfl rfl) ?_
    refine sr_if (b := true) (er_orTt (b := true) (er_tst (er_op rfl er_C rfl rfl rfl rfl)) rfl) rfl (fun _ => ?_) (fun q => by cases q)
    exact sr_retS (er_callM (er_cons rfl (er_cons rfl er_nil)) rfl rfl rfl rfl rfl e rfl) (end_postM rfl ⟨_, _, rfl, rfl, hx 0⟩)
  | succ k ih =>
    intro s q hq
    obtain ⟨p, rfl⟩ := up1 (show 1 ≤ q by omega)
    refine post (d__law_expression p) (k + 1) s ?_
    have g1 := digit_ok s 9 (by decide) (by decide)
    obtain ⟨d, s', e, hx⟩ := leaf_ok h0 h1 (s / 9)
    obtain ⟨a, s1, ea, xa⟩ := ih (s / 9) p (by omega)
    obtain ⟨b, s2, eb, xb⟩ := ih s1 p (by omega)
    obtain ⟨c, s3, ec, xc⟩ := ih s2 p (by omega)
    have g9 := digit_ok s1 9 (by decide) (by decide)
    have g12 := digit_ok s2 12 (by decide) (by decide)
    obtain ⟨n9, m9, e9⟩ := nm9 s1
    obtain ⟨n12, m12, e12⟩ := nm12 s2
    have hk : ((k + 1 : Nat) : Int) - 1 = (k : Int) := by omega
    have hs : subD (.int ((k + 1 : Nat) : Int)) (.int 1) = some (.int (k : Int)) := by
      show some (D.int (((k + 1 : Nat) : Int) - 1)) = _
      rw [hk]
    have ez : eqD (.int ((k + 1 : Nat) : Int)) (.int 0) = some (.bl false) := by
      rw [dr_eqI, show (((k + 1 : Nat) : Int) == 0) = false by rw [beq_eq_false_iff_ne]; omega]
    generalize d__law_expression p = F at *
    generalize ((k + 1 : Nat) : Int) = kk at *
    generalize s % 9 = n at *
    have call : ∀ (x y : Int) (o : D) (a3 a4 a5 a6 : Sl), F (stZ x) [.int w, .int (k : Int)] = some (.dat o, stZ y) → zCallM 0 F (zCons (zVar 0) (zCons (zVar 1) (zCons (zOp subD (zVar 2) (zC (.int 1))) (zNil)))) [.own (stZ x) true false, .dat (.int w), .dat (.int kk), a3, a4, a5, a6] = some (.dat o, [.own (stZ y) true false, .dat (.int w), .dat (.int kk), a3, a4, a5, a6]) := fun x y o a3 a4 a5 a6 h =>
      er_callM (kk := 0) (j := 0) (p := true) (g := [.own (stZ x) true false, .dat (.int w), .dat (.int kk), a3, a4, a5, a6]) (g2 := [.own (stZ x) true false, .dat (.int w), .dat (.int kk), a3, a4, a5, a6]) (er_cons rfl (er_cons rfl (er_cons (er_op rfl er_C rfl rfl hs rfl) er_nil))) rfl rfl rfl rfl rfl h rfl
    unfold b__law_expression
    refine runM_post (g := [.own (stZ s) true false, .dat (.int w), .dat (.int kk), .un, .un, .un, .un]) rfl (Nat.zero_le _) rfl ?_
    refine seq_nx (set_dat (er_callM (er_cons rfl (er_cons er_C er_nil)) rfl rfl rfl rfl rfl g1 rfl) rfl rfl) ?_
    refine sr_if (er_orTF (b1 := false) (er_tst (er_op rfl er_C rfl rfl ez rfl)) rfl (er_tst (er_op (f := ltX) rfl er_C rfl rfl rfl rfl))) rfl (fun _ => ?_) (fun _ => ?_)
    · exact sr_retS (er_callM (er_cons rfl (er_cons rfl er_nil)) rfl rfl rfl rfl rfl e rfl) (end_postM rfl ⟨_, _, rfl, rfl, hx (k + 1)⟩)
    · refine sr_nx (seq_nx (set_dat (call _ _ _ _ _ _ _ ea) rfl rfl) ?_)
      refine sr_if (er_tst (er_op rfl er_C rfl rfl dr_eqI rfl)) rfl (fun _ => ?_) (fun _ => ?_)
      · refine sr_assoc (seq_nx (set_dat (er_tup (er_cons er_C (er_cons er_C (er_cons er_C (er_cons er_C (er_cons er_C (er_cons er_C (er_cons er_C (er_cons er_C (er_cons er_C er_nil))))))))) rfl (Nat.le_of_ble_eq_true rfl)) rfl rfl) ?_)
        refine sr_retS (er_tup (er_cons er_C (er_cons (er_ix rfl (er_callM (er_cons rfl (er_cons er_C er_nil)) rfl rfl rfl rfl rfl g9 rfl) rfl e9) (er_cons rfl er_nil))) rfl (Nat.le_of_ble_eq_true rfl)) ?_
        exact end_postM rfl ⟨_, _, rfl, rfl, .un m9 xa⟩
      · refine sr_nx (seq_nx (set_dat (call _ _ _ _ _ _ _ eb) rfl rfl) ?_)
        refine sr_if (er_tst (er_op rfl er_C rfl rfl dr_eqI rfl)) rfl (fun _ => ?_) (fun _ => ?_)
        · refine sr_retS (er_tup (er_cons er_C (er_cons (call _ _ _ _ _ _ _ ec) (er_cons rfl (er_cons rfl er_nil)))) rfl (Nat.le_of_ble_eq_true rfl)) ?_
          exact end_postM rfl ⟨_, _, rfl, rfl, .cho xc xa xb⟩
        · refine sr_nx (seq_nx (set_dat (er_tup (er_cons er_C (er_cons er_C (er_cons er_C (er_cons er_C (er_cons er_C (er_cons er_C (er_cons er_C (er_cons er_C (er_cons er_C (er_cons er_C (er_cons er_C (er_cons er_C er_nil)))))))))))) rfl (Nat.le_of_ble_eq_true rfl)) rfl rfl) ?_)
          refine sr_ret (er_tup (er_cons er_C (er_cons (er_ix rfl (er_callM (er_cons rfl (er_cons er_C er_nil)) rfl rfl rfl rfl rfl g12 rfl) rfl e12) (er_cons rfl (er_cons rfl er_nil)))) rfl (Nat.le_of_ble_eq_true rfl)) ?_
          exact end_postM rfl ⟨_, _, rfl, rfl, .bin m12 xa xb⟩
theorem cnm_ok (n : Int) (hn : 0 ≤ n ∧ n < 10) (a b c d e f : Sl) : ∃ nm, nm ∈ NB ∧ zIf (zTst (zOp gtD (zVar 3) (zC (.int 5)))) (zIx (zTup (zCons (zC (.str [101, 113, 117, 97, 108])) (zCons (zC (.str [108, 101, 115, 115])) (zCons (zC (.str [97, 116, 32, 109, 111, 115, 116])) (zCons (zC (.str [108, 101, 115, 115])) (zNil)))))) (zOp subD (zVar 3) (zC (.int 6)))) (zC (.str [101, 113, 117, 97, 108])) [a, b, c, .dat (.int n), d, e, f] = some (.dat (.str nm), [a, b, c, .dat (.int n), d, e, f]) := by
  have ix : ∀ (i : Int) (nm : List Nat), subD (.int n) (.int 6) = some (.int i) → ixD (.tup [.str [101, 113, 117, 97, 108], .str [108, 101, 115, 115], .str [97, 116, 32, 109, 111, 115, 116], .str [108, 101, 115, 115]]) i = some (.str nm) → zIx (zTup (zCons (zC (.str [101, 113, 117, 97, 108])) (zCons (zC (.str [108, 101, 115, 115])) (zCons (zC (.str [97, 116, 32, 109, 111, 115, 116])) (zCons (zC (.str [108, 101, 115, 115])) (zNil)))))) (zOp subD (zVar 3) (zC (.int 6))) [a, b, c, .dat (.int n), d, e, f] = some (.dat (.str nm), [a, b, c, .dat (.int n), d, e, f]) := fun i nm h1 h2 =>
    er_ix (er_tup (er_cons er_C (er_cons er_C (er_cons er_C (er_cons er_C er_nil)))) rfl (Nat.le_of_ble_eq_true rfl)) (er_op rfl er_C rfl rfl h1 rfl) rfl h2
  have t : zTst (zOp gtD (zVar 3) (zC (.int 5))) [a, b, c, .dat (.int n), d, e, f] = some (decide (5 < n), [a, b, c, .dat (.int n), d, e, f]) := er_tst (er_op rfl er_C rfl rfl rfl rfl)
  by_cases h : 5 < n
  · rw [decide_eq_true h] at t
    rcases (show n = 6 ∨ n = 7 ∨ n = 8 ∨ n = 9 by omega) with rfl | rfl | rfl | rfl
    · exact ⟨_, by decide, er_ifT t (ix 0 [101, 113, 117, 97, 108] rfl rfl)⟩
    · exact ⟨_, by decide, er_ifT t (ix 1 [108, 101, 115, 115] rfl rfl)⟩
    · exact ⟨_, by decide, er_ifT t (ix 2 [97, 116, 32, 109, 111, 115, 116] rfl rfl)⟩
    · exact ⟨_, by decide, er_ifT t (ix 3 [108, 101, 115, 115] rfl rfl)⟩
  · rw [decide_eq_false h] at t
    exact ⟨[101, 113, 117, 97, 108], by decide, er_ifF t er_C⟩
theorem cond_leaf {w : Int} (hw : 1 ≤ w ∧ w ≤ 60) (k : Nat) (n s : Int) (hn : 0 ≤ n ∧ n < 10) : ap (fun o => ∃ fr c', finM 0 o = some (fr, c') ∧ ∃ d s', fr = .dat d ∧ c' = stZ s' ∧ Ex CVW w (k + 1) d) ((zSeq (zSet 7 4 (zTup (zCons (zC (.str [99, 111, 108, 117, 109, 110])) (zCons (zCallM 0 d__law_digit (zCons (zVar 0) (zCons (zVar 1) (zNil)))) (zNil))))) (zSeq (zIfS 7 (zTst (zOp eqD (zVar 3) (zC (.int 4)))) (zRet (zTup (zCons (zC (.str [117, 110, 97, 114, 121])) (zCons (zC (.str [105, 115, 32, 110, 117, 108, 108])) (zCons (zVar 4) (zNil)))))) (zNx)) (zSeq (zIfS 7 (zTst (zOp eqD (zVar 3) (zC (.int 5)))) (zRet (zTup (zCons (zC (.str [98, 105, 110, 97, 114, 121])) (zCons (zC (.str [101, 113, 117, 97, 108])) (zCons (zVar 4) (zCons (zTup (zCons (zC (.str [99, 111, 108, 117, 109, 110])) (zCons (zCallM 0 d__law_digit (zCons (zVar 0) (zCons (zVar 1) (zNil)))) (zNil)))) (zNil))))))) (zNx)) (zSeq (zSet 7 5 (zIf (zTst (zOp gtD (zVar 3) (zC (.int 5)))) (zIx (zTup (zCons (zC (.str [101, 113, 117, 97, 108])) (zCons (zC (.str [108, 101, 115, 115])) (zCons (zC (.str [97, 116, 32, 109, 111, 115, 116])) (zCons (zC (.str [108, 101, 115, 115])) (zNil)))))) (zOp subD (zVar 3) (zC (.int 6)))) (zC (.str [101, 113, 117, 97, 108])))) (zSeq (zSet 7 6 (zTup (zCons (zC (.str [99, 111, 110, 115, 116, 97, 110, 116])) (zCons (zCallM 0 d__law_value (zCons (zVar 0) (zNil))) (zNil))))) (zSeq (zIfS 7 (zTst (zOp eqD (zCallM 0 d__law_digit (zCons (zVar 0) (zCons (zC (.int 4)) (zNil)))) (zC (.int 0)))) (zRet (zTup (zCons (zC (.str [98, 105, 110, 97, 114, 121])) (zCons (zVar 5) (zCons (zVar 6) (zCons (zVar 4) (zNil))))))) (zNx)) (zRet (zTup (zCons (zC (.str [98, 105, 110, 97, 114, 121])) (zCons (zVar 5) (zCons (zVar 4) (zCons (zVar 6) (zNil))))))))))))) [.own (stZ s) true false, .dat (.int w), .dat (.int k), .dat (.int n), .un, .un, .un]) = True := by
  have g1 := digit_ok s w (by omega) (by omega)
  obtain ⟨v, s2, hv, dv⟩ := val_ok (s / w)
  have g2 := digit_ok (s / w) w (by omega) (by omega)
  have g3 := digit_ok s2 4 (by decide) (by decide)
  have m0 := Int.emod_nonneg s (show w ≠ 0 by omega)
  have m1 := Int.emod_lt_of_pos s (show 0 < w by omega)
  have m2 := Int.emod_nonneg (s / w) (show w ≠ 0 by omega)
  have m3 := Int.emod_lt_of_pos (s / w) (show 0 < w by omega)
  have cx : Ex CVW w k (.tup [.str sCOL, .int (s % w)]) := .col m0 m1
  have cx2 : Ex CVW w k (.tup [.str sCOL, .int (s / w % w)]) := .col m2 m3
  have cc : Ex CVW w k (.tup [.str sCON, v]) := .con dv
  generalize s % w = x at *
  generalize s / w % w = y at *
  refine seq_nx (set_dat (er_tup (er_cons er_C (er_cons (er_callM (er_cons rfl (er_cons rfl er_nil)) rfl rfl rfl rfl rfl g1 rfl) er_nil)) rfl (Nat.le_of_ble_eq_true rfl)) rfl rfl) ?_
  refine sr_if (er_tst (er_op rfl er_C rfl rfl dr_eqI rfl)) rfl (fun _ => ?_) (fun _ => ?_)
  · exact sr_retS (er_tup (er_cons er_C (er_cons er_C (er_cons rfl er_nil))) rfl (Nat.le_of_ble_eq_true rfl)) (end_postM rfl ⟨_, _, rfl, rfl, .un (by decide) cx⟩)
  · refine sr_nx (sr_if (er_tst (er_op rfl er_C rfl rfl dr_eqI rfl)) rfl (fun _ => ?_) (fun _ => ?_))
    · exact sr_retS (er_tup (er_cons er_C (er_cons er_C (er_cons rfl (er_cons (er_tup (er_cons er_C (er_cons (er_callM (er_cons rfl (er_cons rfl er_nil)) rfl rfl rfl rfl rfl g2 rfl) er_nil)) rfl (Nat.le_of_ble_eq_true rfl)) er_nil)))) rfl (Nat.le_of_ble_eq_true rfl)) (end_postM rfl ⟨_, _, rfl, rfl, .bin (by decide) cx cx2⟩)
    · obtain ⟨nm, hnm, en⟩ := cnm_ok n hn (.own (stZ (s / w)) true false) (.dat (.int w)) (.dat (.int k)) (.dat (.tup [.str sCOL, .int x])) .un .un
      refine sr_nx (seq_nx (set_dat en rfl rfl) ?_)
      refine seq_nx (set_dat (er_tup (er_cons er_C (er_cons (er_callM (er_cons rfl er_nil) rfl rfl rfl rfl rfl hv rfl) er_nil)) rfl (Nat.le_of_ble_eq_true rfl)) rfl rfl) ?_
      refine sr_if (er_tst (er_op (er_callM (er_cons rfl (er_cons er_C er_nil)) rfl rfl rfl rfl rfl g3 rfl) er_C rfl rfl dr_eqI rfl)) rfl (fun _ => ?_) (fun _ => ?_)
      · exact sr_retS (er_tup (er_cons er_C (er_cons rfl (er_cons rfl (er_cons rfl er_nil)))) rfl (Nat.le_of_ble_eq_true rfl)) (end_postM rfl ⟨_, _, rfl, rfl, .bin hnm cc cx⟩)
      · exact sr_nx (sr_ret (er_tup (er_cons er_C (er_cons rfl (er_cons rfl (er_cons rfl er_nil)))) rfl (Nat.le_of_ble_eq_true rfl)) (end_postM rfl ⟨_, _, rfl, rfl, .bin hnm cx cc⟩))
theorem cond_ok {w : Int} (hw : 1 ≤ w ∧ w ≤ 60) : ∀ (k : Nat) (s : Int) (q : Nat), k + 1 ≤ q → ∃ d s', d__law_condition q (stZ s) [.int w, .int k] = some (.dat d, stZ s') ∧ Ex CVW w (k + 1) d := by
  have post : ∀ (F : Cn → List D → Option (FR × Cn)) (k : Nat) (s : Int), (∃ fr c', runM 7 3 0 (b__law_condition F) (stZ s) [.int w, .int k] = some (fr, c') ∧ ∃ d s', fr = .dat d ∧ c' = stZ s' ∧ Ex CVW w (k + 1) d) → ∃ d s', runM 7 3 0 (b__law_condition F) (stZ s) [.int w, .int k] = some (.dat d, stZ s') ∧ Ex CVW w (k + 1) d := fun F k s ⟨fr, c', h, d, s', h1, h2, h3⟩ => by
    subst h1 h2
    exact ⟨d, s', h, h3⟩
  intro k
  induction k with
  | zero =>
    intro s q hq
    obtain ⟨p, rfl⟩ : ∃ p, q = p + 1 := ⟨q - 1, by omega⟩
    refine post (d__law_condition p) 0 s ?_
    have g1 := digit_ok s 10 (by decide) (by decide)
    have lf := cond_leaf hw 0 (s % 10) (s / 10) (by omega)
    generalize d__law_condition p = F
    unfold b__law_condition
    refine runM_post (g := [.own (stZ s) true false, .dat (.int w), .dat (.int ((0 : Nat) : Int)), .un, .un, .un, .un]) rfl (Nat.zero_le _) rfl ?_
    refine seq_nx (set_dat (er_callM (er_cons rfl (er_cons er_C er_nil)) rfl rfl rfl rfl rfl g1 rfl) rfl rfl) ?_
    refine sr_if (b := false) (er_andT (b1 := false) (b2 := false) (er_tst (er_op rfl er_C rfl rfl rfl rfl)) (fun q => by cases q)) rfl (fun q => by cases q) (fun _ => ?_)
    refine sr_nx (sr_if (b := false) (er_andT (b1 := false) (b2 := false) (er_tst (er_op rfl er_C rfl rfl rfl rfl)) (fun q => by cases q)) rfl (fun q => by cases q) (fun _ => ?_))
    exact sr_nx lf
  | succ k ih =>
    intro s q hq
    obtain ⟨p, rfl⟩ : ∃ p, q = p + 1 := ⟨q - 1, by omega⟩
    refine post (d__law_condition p) (k + 1) s ?_
    have g1 := digit_ok s 10 (by decide) (by decide)
    have hn : 0 ≤ s % 10 ∧ s % 10 < 10 := by omega
    have lf := cond_leaf hw (k + 1) (s % 10) (s / 10) hn
    obtain ⟨a, s1, ea, xa⟩ := ih (s / 10) p (by omega)
    obtain ⟨b, s2, eb, xb⟩ := ih s1 p (by omega)
    have hk : ((k + 1 : Nat) : Int) - 1 = (k : Int) := by omega
    have hs : subD (.int ((k + 1 : Nat) : Int)) (.int 1) = some (.int (k : Int)) := by
      show some (D.int (((k + 1 : Nat) : Int) - 1)) = _
      rw [hk]
    have gt : gtD (.int ((k + 1 : Nat) : Int)) (.int 0) = some (.bl true) := by
      show some (D.bl (decide (0 < ((k + 1 : Nat) : Int)))) = _
      rw [decide_eq_true (by omega)]
    generalize d__law_condition p = F at *
    generalize ((k + 1 : Nat) : Int) = kk at *
    generalize s % 10 = n at *
    unfold b__law_condition
    refine runM_post (g := [.own (stZ s) true false, .dat (.int w), .dat (.int kk), .un, .un, .un, .un]) rfl (Nat.zero_le _) rfl ?_
    refine seq_nx (set_dat (er_callM (er_cons rfl (er_cons er_C er_nil)) rfl rfl rfl rfl rfl g1 rfl) rfl rfl) ?_
    refine sr_if (er_andTT (b1 := true) (er_tst (er_op rfl er_C rfl rfl gt rfl)) rfl (er_tst (er_op (z := .bl (decide (n < 3))) rfl er_C rfl rfl rfl rfl))) rfl (fun q => ?_) (fun q => ?_)
    · have q := of_decide_eq_true q
      have nm : ∃ nm, nm ∈ NB ∧ zIx (zTup (zCons (zC (.str [97, 110, 100])) (zCons (zC (.str [111, 114])) (zCons (zC (.str [97, 110, 100])) (zNil))))) (zVar 3) [.own (stZ (s / 10)) true false, .dat (.int w), .dat (.int kk), .dat (.int n), .un, .un, .un] = some (.dat (.str nm), [.own (stZ (s / 10)) true false, .dat (.int w), .dat (.int kk), .dat (.int n), .un, .un, .un]) := by
        rcases (show n = 0 ∨ n = 1 ∨ n = 2 by omega) with rfl | rfl | rfl <;> exact ⟨_, by decide, er_ix (er_tup (er_cons er_C (er_cons er_C (er_cons er_C er_nil))) rfl (Nat.le_of_ble_eq_true rfl)) rfl rfl rfl⟩
      obtain ⟨nm, hnm, en⟩ := nm
      refine sr_assoc ?_
      refine seq_nx (set_dat en rfl rfl) ?_
      have c1 := er_callM (kk := 0) (j := 0) (p := true) (f := F) (mr := zCons (zVar 0) (zCons (zVar 1) (zCons (zOp subD (zVar 2) (zC (.int 1))) zNil))) (g := [.own (stZ (s / 10)) true false, .dat (.int w), .dat (.int kk), .dat (.int n), .un, .dat (.str nm), .un]) (g2 := [.own (stZ (s / 10)) true false, .dat (.int w), .dat (.int kk), .dat (.int n), .un, .dat (.str nm), .un]) (er_cons rfl (er_cons rfl (er_cons (er_op rfl er_C rfl rfl hs rfl) er_nil))) rfl rfl rfl rfl rfl ea rfl
      have c2 := er_callM (kk := 0) (j := 0) (p := true) (f := F) (mr := zCons (zVar 0) (zCons (zVar 1) (zCons (zOp subD (zVar 2) (zC (.int 1))) zNil))) (g := [.own (stZ s1) true false, .dat (.int w), .dat (.int kk), .dat (.int n), .un, .dat (.str nm), .un]) (g2 := [.own (stZ s1) true false, .dat (.int w), .dat (.int kk), .dat (.int n), .un, .dat (.str nm), .un]) (er_cons rfl (er_cons rfl (er_cons (er_op rfl er_C rfl rfl hs rfl) er_nil))) rfl rfl rfl rfl rfl eb rfl
      refine sr_retS (er_tup (er_cons er_C (er_cons rfl (er_cons c1 (er_cons c2 er_nil)))) rfl (Nat.le_of_ble_eq_true rfl)) ?_
      exact end_postM rfl ⟨_, _, rfl, rfl, .bin hnm xa xb⟩
    · have q := of_decide_eq_false q
      refine sr_nx (sr_if (er_andTT (b1 := true) (er_tst (er_op rfl er_C rfl rfl gt rfl)) rfl (er_tst (er_op (z := .bl (n == 3)) rfl er_C rfl rfl rfl rfl))) rfl (fun q => ?_) (fun q => ?_))
      · have c1 := er_callM (kk := 0) (j := 0) (p := true) (f := F) (mr := zCons (zVar 0) (zCons (zVar 1) (zCons (zOp subD (zVar 2) (zC (.int 1))) zNil))) (g := [.own (stZ (s / 10)) true false, .dat (.int w), .dat (.int kk), .dat (.int n), .un, .un, .un]) (g2 := [.own (stZ (s / 10)) true false, .dat (.int w), .dat (.int kk), .dat (.int n), .un, .un, .un]) (er_cons rfl (er_cons rfl (er_cons (er_op rfl er_C rfl rfl hs rfl) er_nil))) rfl rfl rfl rfl rfl ea rfl
        refine sr_retS (er_tup (er_cons er_C (er_cons er_C (er_cons c1 er_nil))) rfl (Nat.le_of_ble_eq_true rfl)) ?_
        exact end_postM rfl ⟨_, _, rfl, rfl, .un (by decide) xa⟩
      · exact sr_nx lf
theorem lrank_ok (v : D) (h : PlV v) : d__law_rank [v] = some (.dat (rk v)) := by
  cases v with
  | non =>
    unfold d__law_rank b__law_rank
    refine runP_ap (g := [.dat .non]) rfl rfl ?_
    walk_at "w"
    exact rfl
  | bl b =>
    unfold d__law_rank b__law_rank
    refine runP_ap (g := [.dat (.bl b)]) rfl rfl ?_
    cases b <;> walk_at "w" <;> exact rfl
  | int i =>
    unfold d__law_rank b__law_rank
    refine runP_ap (g := [.dat (.int i)]) rfl rfl ?_
    walk_at "w"
    exact rfl
  | str t =>
    unfold d__law_rank b__law_rank
    refine runP_ap (g := [.dat (.str t)]) rfl rfl ?_
    walk_at "w"
    exact rfl
  | _ => exact h.elim
theorem inside_nul {S a b : D} (t : Sp.VT S true a b) : d__law_inside [.non, S] = some (.dat (.bl true)) := by
  unfold d__law_inside b__law_inside
  refine runP_ap (g := [.dat .non, .dat S]) rfl rfl ?_
  refine sr_if (b := false) (er_tst (er_op rfl er_C rfl rfl t.eA rfl)) rfl (fun q => by cases q) (fun _ => ?_)
  refine sr_nx (sr_if (b := true) (er_tst (er_op rfl er_C rfl rfl rfl rfl)) rfl (fun _ => ?_) (fun q => by cases q))
  exact sr_retS (er_op (er_ix rfl er_C rfl t.i0) er_C rfl rfl rfl rfl) rfl
theorem inside_rng {S v a b : D} {n : Bool} (t : Sp.VT S n a b) (pv : PlV v) (pa : PlV a) (pb : PlV b) (nv : isD v .non = some (.bl false)) (na : isD a .non = some (.bl false)) (h1 : leX (rk a) (rk v) = some (.bl true)) (h2 : leX (rk v) (rk b) = some (.bl true)) : d__law_inside [v, S] = some (.dat (.bl true)) := by
  have ra := lrank_ok a pa
  have rb := lrank_ok b pb
  have rv := lrank_ok v pv
  generalize rk a = ka at *
  generalize rk b = kb at *
  generalize rk v = kv at *
  unfold d__law_inside b__law_inside
  refine runP_ap (g := [.dat v, .dat S]) rfl rfl ?_
  refine sr_if (b := false) (er_tst (er_op rfl er_C rfl rfl t.eA rfl)) rfl (fun q => by cases q) (fun _ => ?_)
  refine sr_nx (sr_if (b := false) (er_tst (er_op rfl er_C rfl rfl nv rfl)) rfl (fun q => by cases q) (fun _ => ?_))
  refine sr_nx (sr_if (b := false) (er_tst (er_op (er_ix rfl er_C rfl t.i1) er_C rfl rfl na rfl)) rfl (fun q => by cases q) (fun _ => ?_))
  exact sr_nx (sr_ret (er_chain (b1 := true) (b2 := true) (er_callG (er_cons (er_ix rfl er_C rfl t.i1) er_nil) rfl rfl ra rfl) (er_callG (er_cons rfl er_nil) rfl rfl rv rfl) rfl rfl h1 (fun _ => er_callG (er_cons (er_ix rfl er_C rfl t.i2) er_nil) rfl rfl rb rfl) rfl h2) rfl)
theorem linside_ok {B : Nat} {s : Sp.Spn} {v : D} (h : Sp.SOk B s) (hb : B < 10 ^ 60) (hv : VW v) (i : Sp.In v s) : d__law_inside [v, Sp.SD s] = some (.dat (.bl true)) := by
  cases s with
  | any =>
    unfold d__law_inside b__law_inside
    refine runP_ap (g := [.dat v, .dat (.str [97, 110, 121])]) rfl rfl ?_
    refine sr_if (b := true) (er_tst (er_op rfl er_C rfl rfl rfl rfl)) rfl (fun _ => ?_) (fun q => by cases q)
    exact sr_retS er_C rfl
  | nul n =>
    obtain ⟨rfl, rfl⟩ := i
    exact inside_nul (Sp.nul_vt true)
  | rng n a b =>
    have t := Sp.rng_vt h hb
    rcases i with ⟨rfl, rfl⟩ | ⟨nv, i1, i2⟩
    · exact inside_nul t
    · have va := h.1.vd hb
      have vb := h.2.1.vd hb
      have pa := Sp.vd_pl va
      have pb := Sp.vd_pl vb
      have ra := rk_rok va
      have rb := rk_rok vb
      have rv := rk_rokW hv
      have e1 : ltV v a = false := (vC_lt hv.pl pa).symm.trans i1
      have e2 : ltV b v = false := (vC_lt pb hv.pl).symm.trans i2
      have c1 := le_rkD pa hv.pl ⟨ra.1, ra.2.1⟩ ⟨rv.1, rv.2.1⟩
      have c2 := le_rkD hv.pl pb ⟨rv.1, rv.2.1⟩ ⟨rb.1, rb.2.1⟩
      rw [e1] at c1
      rw [e2] at c2
      have nn : isD v .non = some (.bl false) := by cases v <;> first | exact (nv rfl).elim | exact hv.elim | rfl
      exact inside_rng t hv.pl pa pb nn h.1.non.1 c1 c2
theorem holds_ok {e v : D} {R : List D} (hv : VW v) (h : d_evaluate 40 [e, .lst R] = some (.dat v)) : d_holds [e, .lst R] = some (.dat (.bl (bTrue v))) := by
  have hs := hv.scal
  have ht := is_true hv
  unfold d_holds b_holds
  refine runP_ap (g := [.dat e, .dat (.lst R)]) rfl rfl ?_
  exact sr_ret (er_op (er_callV (er_cons rfl (er_cons rfl er_nil)) rfl h hs) er_C rfl rfl ht rfl) rfl
theorem may_ok {Ls : List (List D)} {s : Sp.Spn} {e : D} {B : Nat} (hs : Sp.SOk B s) (hb : B < 10 ^ 60) (q : d_span_of 40 [e, .lst (Ls.map Sp.zoneD)] = some (.dat (Sp.SD s))) : d_may_hold [e, .lst (Ls.map Sp.zoneD)] = some (.dat (.bl (Sp.canS s true))) := by
  have c := Sp.can_ok hs hb true
  generalize D.lst (Ls.map Sp.zoneD) = Z at *
  generalize Sp.SD s = S at *
  generalize Sp.canS s true = b at *
  unfold d_may_hold b_may_hold
  refine runP_ap (g := [.dat e, .dat Z]) rfl rfl ?_
  exact sr_ret (er_callV (er_cons (er_callG (er_cons rfl (er_cons rfl er_nil)) rfl rfl q rfl) (er_cons er_C er_nil)) rfl c rfl) rfl
theorem bTrue_is {v : D} (hv : VW v) (h : bTrue v = true) : v = .bl true := by
  cases v with
  | bl b => cases b with
    | true => rfl
    | false => cases h
  | _ => first | exact hv.elim | cases h
theorem seq_is {st rest : SM} {g g1 : G} {o : Option (Fl × G)} (h : st g = some (.nx, g1)) (k : rest g1 = o) : zSeq st rest g = o := by
  unfold zSeq; simp only [h, Option.bind_eq_bind, Option.bind_some]; exact k
abbrev GW (ns : List Int) (x1 x2 x3 x4 x5 x6 x7 x8 x9 x10 x11 x12 : Sl) : G := [.dat (scriptD ns), x1, x2, x3, x4, x5, x6, x7, x8, x9, x10, x11, x12]
def keepB (v : D) : Bool := match v with
  | .non => true
  | d => Sp.isI d
def keepV (v : D) : D := if keepB v = true then v else .int 4
theorem keepV_ok {v : D} (h : CVW v) : CVW (keepV v) := by
  unfold keepV
  split
  · exact h
  · exact ⟨show (4 : Int).natAbs ≤ 10 ^ 15 by decide, .inr (show (4 : Int).natAbs ≤ 10 ^ 15 by decide)⟩
theorem keep_ok (v : D) (h : Sp.CV v) (g : G) (i : Nat) (hi : g[i]? = some (.dat v)) : zOrT (zTst (zOp isD (zVar i) (zC .non))) (zTru (zCall d__law_is_integer (zCons (zVar i) (zNil)))) g = some (keepB v, g) := by
  have e : zVar i g = some (.dat v, g) := er_varD hi
  rcases h with rfl | h
  · exact er_orTt (b := true) (er_tst (er_op e er_C rfl rfl rfl rfl)) rfl
  · have k := Sp.isint_ok h
    rw [← Sp.lint_eq] at k
    have n := h.non.1
    have kb : keepB v = Sp.isI v := by cases v <;> first | rfl | exact h.elim
    rw [kb]
    exact er_orTF (er_tst (er_op e er_C rfl rfl n rfl)) rfl (er_tru (er_callV (er_cons e er_nil) rfl k rfl) rfl rfl)
theorem keep_is (v : D) (h : Sp.CV v) (g : G) (i : Nat) (hi : g[i]? = some (.dat v)) : zIf (zOrT (zTst (zOp isD (zVar i) (zC .non))) (zTru (zCall d__law_is_integer (zCons (zVar i) (zNil))))) (zVar i) (zC (.int 4)) g = some (.dat (keepV v), g) := by
  have k := keep_ok v h g i hi
  unfold keepV
  cases hb : keepB v with
  | true => rw [hb] at k; exact er_ifT k (er_varD hi)
  | false => rw [hb] at k; exact er_ifF k er_C
theorem small1000 {n : Nat} (h : n ≤ 1000) : n < sizeLine := Nat.lt_of_le_of_lt h (by decide)
theorem row_turn (ns : List Int) (w : Nat) (hw : 1 ≤ w ∧ w ≤ 60) (b : Bool) (acc : List D) (hz : acc.length ≤ 1000) (k : Nat) : ∃ R, (∀ v ∈ R, CVW v) ∧ R.length = w ∧
    lb_law_1 (GW ns .un (.dat (.int (w : Int))) (.dat (.bl b)) (.own (.lst acc) false false) (.dat (.int k)) .un .un .un .un .un .un .un) = some (.nx, GW ns .un (.dat (.int (w : Int))) (.dat (.bl b)) (.own (.lst (acc ++ [.lst R])) false false) .un .un .un .un .un .un .un .un) := by
  obtain ⟨c, hc⟩ := cell_ok ns (1 + k) (by omega)
  obtain ⟨s, hs⟩ := state_ok c k
  have st : zSet 13 1 (zCall d__law_state (zCons (zCall d__law_cell (zCons (zVar 0) (zCons (zOp addS (zC (.int 1)) (zVar 5)) (zNil)))) (zCons (zVar 5) (zNil)))) (GW ns .un (.dat (.int (w : Int))) (.dat (.bl b)) (.own (.lst acc) false false) (.dat (.int k)) .un .un .un .un .un .un .un) = some (.nx, GW ns (.own (stZ s) false false) (.dat (.int (w : Int))) (.dat (.bl b)) (.own (.lst acc) false false) (.dat (.int k)) .un .un .un .un .un .un .un) :=
    set_own (er_callN (er_cons (er_callV (er_cons rfl (er_cons (er_op er_C rfl rfl rfl rfl rfl) er_nil)) rfl hc rfl) (er_cons rfl er_nil)) rfl hs rfl) (Nat.le_of_ble_eq_true rfl) rfl rfl rfl
  obtain ⟨R, s', r1, r2, r3⟩ := draw_list (el := zCallM 0 d__law_value (zCons (zVar 1) (zNil))) (v := 11) (t := 13) (fun s x => GW ns (.own (stZ s) false false) (.dat (.int (w : Int))) (.dat (.bl b)) (.own (.lst acc) false false) (.dat (.int k)) .un .un .un .un .un x .un) (fun _ v => CVW v) (fun s x => rfl) (fun s x o => rfl) (fun s x o hx => by rcases hx with rfl | ⟨d, rfl⟩ <;> rfl) (fun s y o => rfl)
    (mi := ziR1 (zCons (zVar 2) (zNil))) (L := rgD 0 w) (s := s) (by
      have e := mi_R1 (k := (w : Int)) (mr := zCons (zVar 2) (zNil)) (g := GW ns (.own (stZ s) false false) (.dat (.int (w : Int))) (.dat (.bl b)) (.own (.lst acc) false false) (.dat (.int k)) .un .un .un .un .un .un .un) (g1 := GW ns (.own (stZ s) false false) (.dat (.int (w : Int))) (.dat (.bl b)) (.own (.lst acc) false false) (.dat (.int k)) .un .un .un .un .un .un .un) (er_cons rfl er_nil) (rgOk_of (by omega) (by omega))
      rw [Int.toNat_natCast] at e
      exact e) (by rw [rgD_len]; omega) (fun i y s hy => by
      obtain ⟨v, s', hw, cw⟩ := val_ok s
      exact ⟨v, s', cw, fun o => er_callM (kk := 0) (j := 1) (p := false) (g1 := GW ns (.own (stZ s) false false) (.dat (.int (w : Int))) (.dat (.bl b)) (.own (.lst acc) false false) (.dat (.int k)) .un .un .un .un .un (.dat y) .un ++ [o]) (er_cons rfl er_nil) rfl rfl rfl rfl rfl hw rfl⟩)
  rw [rgD_len] at r2
  have rc : ∀ v ∈ R, CVW v := fun v hv => by
    obtain ⟨i, hi⟩ := List.getElem?_of_mem hv
    exact r3 i v hi
  have dr : zSet 13 7 (zLc (ziR1 (zCons (zVar 2) (zNil))) (gN 11) (zYes) (zCallM 0 d__law_value (zCons (zVar 1) (zNil))) [11]) (GW ns (.own (stZ s) false false) (.dat (.int (w : Int))) (.dat (.bl b)) (.own (.lst acc) false false) (.dat (.int k)) .un .un .un .un .un .un .un) = some (.nx, GW ns (.own (stZ s') false false) (.dat (.int (w : Int))) (.dat (.bl b)) (.own (.lst acc) false false) (.dat (.int k)) .un (.own (.lst R) false false) .un .un .un .un .un) :=
    set_own r1 (Nat.le_of_ble_eq_true rfl) rfl rfl rfl
  have fl : ∃ L, (∀ v ∈ L, CVW v) ∧ L.length = w ∧ zIfS 13 (zTru (zVar 3)) (zSet 13 7 (zLc (ziL 13 (zVar 7)) (gN 12) (zYes) (zIf (zOrT (zTst (zOp isD (zVar 12) (zC .non))) (zTru (zCall d__law_is_integer (zCons (zVar 12) (zNil))))) (zVar 12) (zC (.int 4))) [12])) (zNx) (GW ns (.own (stZ s') false false) (.dat (.int (w : Int))) (.dat (.bl b)) (.own (.lst acc) false false) (.dat (.int k)) .un (.own (.lst R) false false) .un .un .un .un .un) = some (.nx, GW ns (.own (stZ s') false false) (.dat (.int (w : Int))) (.dat (.bl b)) (.own (.lst acc) false false) (.dat (.int k)) .un (.own (.lst L) false false) .un .un .un .un .un) := by
    cases b with
    | false => exact ⟨R, rc, r2, if_no (er_tru rfl rfl rfl) rfl rfl⟩
    | true =>
      refine ⟨R.map keepV, fun v hv => by obtain ⟨u, hu, rfl⟩ := List.mem_map.mp hv; exact keepV_ok (rc u hu), by rw [List.length_map]; exact r2, if_yes (er_tru rfl rfl rfl) rfl ?_⟩
      have e := er_lcO (b := fun _ => true) (f := keepV) (tg := gN 12) (tt := zYes) (el := zIf (zOrT (zTst (zOp isD (zVar 12) (zC .non))) (zTru (zCall d__law_is_integer (zCons (zVar 12) (zNil))))) (zVar 12) (zC (.int 4))) (vs := [12]) (mi := ziL 13 (zVar 7)) (j := 7) (L := R)
        (g := GW ns (.own (stZ s') false false) (.dat (.int (w : Int))) (.dat (.bl true)) (.own (.lst acc) false false) (.dat (.int k)) .un (.own (.lst R) false false) .un .un .un .un .un)
        (base := GW ns (.own (stZ s') false false) (.dat (.int (w : Int))) (.dat (.bl true)) (.own (.lst acc) false false) (.dat (.int k)) .un (.own (.lst R) false true) .un .un .un .un .un)
        (mi_Lb rfl (Nat.le_of_ble_eq_true rfl) rfl) rfl rfl (fun o => rfl) (fun o => rfl) (Nat.le_trans (show R.length ≤ 1000 by omega) (by decide))
        (fun x hx => lc_dat (h := GW ns (.own (stZ s') false false) (.dat (.int (w : Int))) (.dat (.bl true)) (.own (.lst acc) false false) (.dat (.int k)) .un (.own (.lst R) false true) .un .un .un .un (.dat x)) rfl (fun o => rfl) (fun o => rfl) (fun o => rfl) (fun o => rfl) (fun _ o => keep_is x (rc x hx).2 _ 12 rfl))
      rw [List.filter_eq_self.mpr (fun _ _ => rfl)] at e
      exact set_own e (Nat.le_of_ble_eq_true rfl) rfl rfl rfl
  obtain ⟨L, lc, ll, fe⟩ := fl
  refine ⟨L, lc, ll, ?_⟩
  unfold lb_law_1
  refine fg_nx (g1 := GW ns (.own (stZ s') false false) (.dat (.int (w : Int))) (.dat (.bl b)) (.own (.lst (acc ++ [.lst L])) false false) (.dat (.int k)) .un (.frz (.lst L)) .un .un .un .un .un) ?_ rfl rfl
  have ap : zApp 13 (zVar 4) (zVar 7) (GW ns (.own (stZ s') false false) (.dat (.int (w : Int))) (.dat (.bl b)) (.own (.lst acc) false false) (.dat (.int k)) .un (.own (.lst L) false false) .un .un .un .un .un) = some (.nx, GW ns (.own (stZ s') false false) (.dat (.int (w : Int))) (.dat (.bl b)) (.own (.lst (acc ++ [.lst L])) false false) (.dat (.int k)) .un (.frz (.lst L)) .un .un .un .un .un) :=
    app_run (d := .lst L) (g3 := GW ns (.own (stZ s') false false) (.dat (.int (w : Int))) (.dat (.bl b)) (.own (.lst acc) false false) (.dat (.int k)) .un (.frz (.lst L)) .un .un .un .un .un) rfl rfl rfl rfl rfl (small1000 hz) rfl
  have z1 := seq_is st (seq_is dr (seq_is fe ap))
  exact z1
theorem lc_gen {tg : TD} {tt : ZT} {el : ZM} {vs : List Nat} {t : Nat} {base h : G} {x : D} {b : Bool} {y : D} (hl : h.length = t) (hw : ∀ o : Sl, wipeG (h ++ [o]) vs = base ++ [o]) (hf : ∀ o : Sl, freeAll (h ++ [o]) vs = true) (h1 : ∀ o : Sl, tg x (base ++ [o]) = some (h ++ [o])) (h2 : ∀ o : Sl, tt (h ++ [o]) = some (b, h ++ [o]))
    (h3 : b = true → ∀ o : Sl, ∃ (r : R) (k k' : G), el (h ++ [o]) = some (r, (h ++ [o]) ++ k) ∧ frzR r ((h ++ [o]) ++ k) = some (y, (h ++ [o]) ++ k')) : LcItem tg tt el vs t base x b y :=
  ⟨fun acc => ⟨h, hl, hf _, hw, hf, h1 _, h2 _, fun hb => by
    obtain ⟨r, k, k', e1, e2⟩ := h3 hb (.own (.lst acc) false false)
    refine ⟨r, _, _, e1, e2, ?_, fun o => ?_⟩
    · subst hl; simp
    · subst hl
      rw [List.append_assoc, List.set_append_right _ _ (Nat.le_refl _), Nat.sub_self]
      show (h ++ (o :: k')).take (h.length + 1) = h ++ [o]
      rw [List.take_append, List.take_of_length_le (by omega), Nat.add_sub_cancel_left]
      rfl⟩⟩
def cellV (c : Nat) : D → D
  | .lst R => R.getD c .non
  | _ => .non
def colL (Rs : List (List D)) (c : Nat) : List D := (Rs.map D.lst).map (cellV c)
def colsL (Rs : List (List D)) (w : Nat) : List (List D) := (List.range w).map (colL Rs)
theorem inner_ok (ns : List Int) (x1 x2 x3 : Sl) {Rs : List (List D)} {w : Nat} (hR : ∀ R ∈ Rs, R.length = w) (hz : Rs.length ≤ 1000) {c : Nat} (hc : c < w) (o : Sl) :
    zLc (ziL 13 (zVar 4)) (gN 7) (zYes) (zIx (zVar 7) (zVar 5)) [7] (GW ns x1 x2 x3 (.own (.lst (Rs.map D.lst)) false false) (.dat (.int (c : Int))) .un .un .un .un .un .un .un ++ [o]) = some (.bor 14, GW ns x1 x2 x3 (.own (.lst (Rs.map D.lst)) false false) (.dat (.int (c : Int))) .un .un .un .un .un .un .un ++ [o] ++ [.own (.lst (colL Rs c)) false false]) := by
  have e := er_lcO (b := fun _ => true) (f := cellV c) (tg := gN 7) (tt := zYes) (el := zIx (zVar 7) (zVar 5)) (vs := [7]) (mi := ziL 13 (zVar 4)) (j := 4) (L := Rs.map D.lst)
    (g := GW ns x1 x2 x3 (.own (.lst (Rs.map D.lst)) false false) (.dat (.int (c : Int))) .un .un .un .un .un .un .un ++ [o])
    (base := GW ns x1 x2 x3 (.own (.lst (Rs.map D.lst)) false true) (.dat (.int (c : Int))) .un .un .un .un .un .un .un ++ [o])
    (mi_Lb rfl (Nat.le_of_ble_eq_true rfl) rfl) rfl rfl (fun o => rfl) (fun o => rfl) (Nat.le_trans (show (Rs.map D.lst).length ≤ 1000 by rw [List.length_map]; omega) (by decide))
    (fun x hx => by
      obtain ⟨R, mR, rfl⟩ := List.mem_map.mp hx
      have hl := hR R mR
      have ix : ixD (.lst R) (c : Int) = some (cellV c (.lst R)) := atI_nat (by
        show R[c]? = some (R.getD c .non)
        rw [List.getD_eq_getElem?_getD, List.getElem?_eq_getElem (by omega)]
        rfl)
      exact lc_dat (h := GW ns x1 x2 x3 (.own (.lst (Rs.map D.lst)) false true) (.dat (.int (c : Int))) .un (.dat (.lst R)) .un .un .un .un .un ++ [o]) rfl (fun o => rfl) (fun o => rfl) (fun o => rfl) (fun o => rfl) (fun _ o => er_ix rfl rfl rfl ix))
  rw [List.filter_eq_self.mpr (fun _ _ => rfl)] at e
  exact e
def zf (Rs : List (List D)) : D → D
  | .int k => Sp.zoneD (colL Rs k.toNat)
  | d => d
theorem zones_ok (ns : List Int) {x1 x3 : Sl} {Rs : List (List D)} {w : Nat} (hw : w ≤ 60) (hR : ∀ R ∈ Rs, R.length = w) (hz : Rs.length ≤ 1000) (hL : ∀ c < w, ∀ v ∈ colL Rs c, Sp.CV v) :
    zSet 13 6 (zLc (ziR1 (zCons (zVar 2) (zNil))) (gN 5) (zYes) (zCall d_zone_of (zCons (zLc (ziL 13 (zVar 4)) (gN 7) (zYes) (zIx (zVar 7) (zVar 5)) [7]) (zNil))) [5]) (GW ns x1 (.dat (.int (w : Int))) x3 (.own (.lst (Rs.map D.lst)) false false) .un .un .un .un .un .un .un .un) = some (.nx, GW ns x1 (.dat (.int (w : Int))) x3 (.own (.lst (Rs.map D.lst)) false false) .un (.own (.lst ((colsL Rs w).map Sp.zoneD)) false false) .un .un .un .un .un .un) := by
  have e := er_lc1 (b := fun _ => true) (f := zf Rs) (tg := gN 5) (tt := zYes) (el := zCall d_zone_of (zCons (zLc (ziL 13 (zVar 4)) (gN 7) (zYes) (zIx (zVar 7) (zVar 5)) [7]) (zNil))) (vs := [5]) (mi := ziR1 (zCons (zVar 2) (zNil))) (L := rgD 0 (w : Int).toNat)
    (g := GW ns x1 (.dat (.int (w : Int))) x3 (.own (.lst (Rs.map D.lst)) false false) .un .un .un .un .un .un .un .un)
    (base := GW ns x1 (.dat (.int (w : Int))) x3 (.own (.lst (Rs.map D.lst)) false false) .un .un .un .un .un .un .un .un)
    (mi_R1 (k := (w : Int)) (er_cons rfl er_nil) (rgOk_of (by omega) (by omega))) (fun o => rfl) (fun o => rfl) (Nat.le_trans (show (rgD 0 (w : Int).toNat).length ≤ 1000 by rw [rgD_len]; omega) (by decide))
    (fun x hx => by
      obtain ⟨c, hc⟩ := List.getElem?_of_mem hx
      obtain ⟨c1, rfl⟩ := rgD_at hc
      rw [Int.toNat_natCast] at c1
      rw [Int.zero_add]
      refine lc_gen (h := GW ns x1 (.dat (.int (w : Int))) x3 (.own (.lst (Rs.map D.lst)) false false) (.dat (.int (c : Int))) .un .un .un .un .un .un .un) rfl (fun o => rfl) (fun o => rfl) (fun o => rfl) (fun o => rfl) (fun _ o => ?_)
      have i := inner_ok ns x1 (.dat (.int (w : Int))) x3 hR hz c1 o
      have zo := Sp.zone_ok (L := colL Rs c) (hL c c1) (by unfold colL; rw [List.length_map, List.length_map]; omega)
      refine ⟨.dat (Sp.zoneD (colL Rs c)), [.frz (.lst (colL Rs c))], [.frz (.lst (colL Rs c))], ?_, rfl⟩
      exact er_callGF (er_cons i er_nil) rfl rfl zo rfl)
  have em : ((rgD 0 (w : Int).toNat).filter fun _ => true).map (zf Rs) = (colsL Rs w).map Sp.zoneD := by
    rw [List.filter_eq_self.mpr (fun _ _ => rfl), Int.toNat_natCast]
    unfold colsL rgD
    rw [List.map_map, List.map_map]
    refine List.map_congr_left fun c _ => ?_
    show Sp.zoneD (colL Rs (0 + (c : Int)).toNat) = _
    rw [Int.zero_add, Int.toNat_natCast]
    rfl
  rw [em] at e
  exact set_own e (Nat.le_of_ble_eq_true rfl) rfl rfl rfl
/-- the rows stand in the columns -/
theorem grp_ok {Rs : List (List D)} {w : Nat} (hR : ∀ R ∈ Rs, (∀ v ∈ R, CVW v) ∧ R.length = w) : Grp (colsL Rs w) Rs := fun R m => by
  obtain ⟨h1, h2⟩ := hR R m
  refine ⟨fun v hv => (h1 v hv).1, by unfold colsL; rw [List.length_map, List.length_range]; exact h2, fun c v hc => ?_⟩
  have hl := (List.getElem?_eq_some_iff.mp hc).1
  refine ⟨colL Rs c, ?_, ?_⟩
  · unfold colsL
    rw [List.getElem?_map, List.getElem?_range (by omega)]
    rfl
  · unfold colL
    rw [List.map_map]
    refine List.mem_map.mpr ⟨R, m, ?_⟩
    show R.getD c .non = v
    rw [List.getD_eq_getElem?_getD, hc]
    rfl
theorem cols_cv {Rs : List (List D)} {w : Nat} (hR : ∀ R ∈ Rs, (∀ v ∈ R, CVW v) ∧ R.length = w) {c : Nat} (hc : c < w) : ∀ v ∈ colL Rs c, Sp.CV v := fun v hv => by
  unfold colL at hv
  rw [List.map_map] at hv
  obtain ⟨R, m, rfl⟩ := List.mem_map.mp hv
  obtain ⟨h1, h2⟩ := hR R m
  refine (h1 _ ?_).2
  show R.getD c .non ∈ R
  rw [List.getD_eq_getElem?_getD, List.getElem?_eq_getElem (by omega)]
  exact List.getElem_mem _
def Hold (Z : List D) (x : Sl) : Prop := x = .own (.lst Z) false false ∨ x = .frz (.lst Z)
theorem ask6 (ns : List Int) {x1 x2 x3 x4 x5 x6 x7 x9 x10 x11 x12 : Sl} {e d : D} {Z : List D} {f : List D → Option FR} (h : Hold Z x6) (hf : f [e, .lst Z] = some (.dat d)) : ∃ y, Hold Z y ∧
    zCall f (zCons (zVar 8) (zCons (zVar 6) (zNil))) (GW ns x1 x2 x3 x4 x5 x6 x7 (.dat e) x9 x10 x11 x12) = some (.dat d, GW ns x1 x2 x3 x4 x5 y x7 (.dat e) x9 x10 x11 x12) := by
  rcases h with rfl | rfl
  · cases hs : d.scal with
    | true => exact ⟨_, .inl rfl, er_callV (er_cons rfl (er_cons rfl er_nil)) rfl hf hs⟩
    | false => exact ⟨_, .inr rfl, er_callGF (er_cons rfl (er_cons rfl er_nil)) rfl rfl hf hs⟩
  · exact ⟨_, .inr rfl, er_callG (er_cons rfl (er_cons rfl er_nil)) rfl rfl hf rfl⟩
theorem row_asked (ns : List Int) {x1 x2 x3 x4 x5 x6 : Sl} {R : List D} {e S v : D} {c h : Bool} (ev : d_evaluate 40 [e, .lst R] = some (.dat v)) (hi : d__law_inside [v, S] = some (.dat (.bl true))) (hh : d_holds [e, .lst R] = some (.dat (.bl h))) (hc : h = true → c = true) :
    lb_law_2 (GW ns x1 x2 x3 x4 x5 x6 (.dat (.lst R)) (.dat e) (.dat S) (.dat (.bl c)) .un .un) = some (.nx, (GW ns x1 x2 x3 x4 x5 x6 .un (.dat e) (.dat S) (.dat (.bl c)) .un .un)) := by
  have t1 : zNotT (zTru (zCall d__law_inside (zCons (zCall (d_evaluate 40) (zCons (zVar 8) (zCons (zVar 7) (zNil)))) (zCons (zVar 9) (zNil))))) (GW ns x1 x2 x3 x4 x5 x6 (.dat (.lst R)) (.dat e) (.dat S) (.dat (.bl c)) .un .un) = some (false, (GW ns x1 x2 x3 x4 x5 x6 (.dat (.lst R)) (.dat e) (.dat S) (.dat (.bl c)) .un .un)) :=
    er_notT (b := true) (er_tru (er_callV (er_cons (er_callG (er_cons rfl (er_cons rfl er_nil)) rfl rfl ev rfl) (er_cons rfl er_nil)) rfl hi rfl) rfl rfl)
  have t2 : zAndT (zTru (zCall d_holds (zCons (zVar 8) (zCons (zVar 7) (zNil))))) (zNotT (zTru (zVar 10))) (GW ns x1 x2 x3 x4 x5 x6 (.dat (.lst R)) (.dat e) (.dat S) (.dat (.bl c)) .un .un) = some (h && !c, (GW ns x1 x2 x3 x4 x5 x6 (.dat (.lst R)) (.dat e) (.dat S) (.dat (.bl c)) .un .un)) :=
    er_andT (er_tru (er_callV (er_cons rfl (er_cons rfl er_nil)) rfl hh rfl) rfl rfl) (fun _ => er_notT (er_tru rfl rfl rfl))
  have hf : (h && !c) = false := by
    cases h with
    | false => rfl
    | true => rw [hc rfl]; rfl
  rw [hf] at t2
  unfold lb_law_2
  exact fg_nx (if_no (er_orTF t1 rfl t2) rfl rfl) rfl rfl
theorem exp_turn (ns : List Int) {Rs : List (List D)} {w : Nat} (hw : 1 ≤ w ∧ w ≤ 60) (hR : ∀ R ∈ Rs, (∀ v ∈ R, CVW v) ∧ R.length = w) (hz : Rs.length ≤ 1000) {x3 x6 : Sl} (h6 : Hold ((colsL Rs w).map Sp.zoneD) x6) (k : Nat) (hk : k ≤ 1000) : ∃ y6, Hold ((colsL Rs w).map Sp.zoneD) y6 ∧
    lb_law_3 (GW ns .un (.dat (.int (w : Int))) x3 (.own (.lst (Rs.map D.lst)) false false) (.dat (.int k)) x6 .un .un .un .un .un .un) = some (.nx, (GW ns .un (.dat (.int (w : Int))) x3 (.own (.lst (Rs.map D.lst)) false false) .un y6 .un .un .un .un .un .un)) := by
  obtain ⟨c, hc⟩ := cell_ok ns (1 + k) (by omega)
  obtain ⟨s, hs⟩ := state_ok c (100 + k)
  have z1 : zSet 13 1 (zCall d__law_state (zCons (zCall d__law_cell (zCons (zVar 0) (zCons (zOp addS (zC (.int 1)) (zVar 5)) (zNil)))) (zCons (zOp addS (zC (.int 100)) (zVar 5)) (zNil)))) (GW ns .un (.dat (.int (w : Int))) x3 (.own (.lst (Rs.map D.lst)) false false) (.dat (.int k)) x6 .un .un .un .un .un .un) = some (.nx, (GW ns (.own (stZ s) false false) (.dat (.int (w : Int))) x3 (.own (.lst (Rs.map D.lst)) false false) (.dat (.int k)) x6 .un .un .un .un .un .un)) :=
    set_own (er_callL (g1 := (GW ns .un (.dat (.int (w : Int))) x3 (.own (.lst (Rs.map D.lst)) false false) (.dat (.int k)) x6 .un .un .un .un .un .un)) (ds := [.int c, .int (100 + (k : Int))]) (er_cons (er_callV (er_cons rfl (er_cons (er_op er_C rfl rfl rfl rfl rfl) er_nil)) rfl hc rfl) (er_cons (er_op er_C rfl rfl rfl rfl rfl) er_nil)) hs) (Nat.le_of_ble_eq_true rfl) rfl rfl rfl
  have m0 := Int.emod_nonneg s (show (4 : Int) ≠ 0 by decide)
  have m1 := Int.emod_lt_of_pos s (show (0 : Int) < 4 by decide)
  obtain ⟨j, hj⟩ := Int.eq_ofNat_of_zero_le (show 0 ≤ 1 + s % 4 by omega)
  obtain ⟨e0, s2, he0, xe0⟩ := drawn_ok (w := (w : Int)) (by omega) (by omega) j (s / 4) 40 (by omega)
  have d4 : zCallM 0 d__law_digit (zCons (zVar 1) (zCons (zC (.int 4)) (zNil))) (GW ns (.own (stZ s) false false) (.dat (.int (w : Int))) x3 (.own (.lst (Rs.map D.lst)) false false) (.dat (.int k)) x6 .un .un .un .un .un .un) = some (.dat (.int (s % 4)), (GW ns (.own (stZ (s / 4)) false false) (.dat (.int (w : Int))) x3 (.own (.lst (Rs.map D.lst)) false false) (.dat (.int k)) x6 .un .un .un .un .un .un)) :=
    er_callM (kk := 0) (j := 1) (p := false) (f := d__law_digit) (c := stZ s) (g := (GW ns (.own (stZ s) false false) (.dat (.int (w : Int))) x3 (.own (.lst (Rs.map D.lst)) false false) (.dat (.int k)) x6 .un .un .un .un .un .un)) (g2 := (GW ns (.own (stZ s) false false) (.dat (.int (w : Int))) x3 (.own (.lst (Rs.map D.lst)) false false) (.dat (.int k)) x6 .un .un .un .un .un .un)) (er_cons rfl (er_cons er_C er_nil)) rfl rfl rfl rfl rfl (digit_ok s 4 (by decide) (by decide)) rfl
  have a4 : zOp addS (zC (.int 1)) (zCallM 0 d__law_digit (zCons (zVar 1) (zCons (zC (.int 4)) (zNil)))) (GW ns (.own (stZ s) false false) (.dat (.int (w : Int))) x3 (.own (.lst (Rs.map D.lst)) false false) (.dat (.int k)) x6 .un .un .un .un .un .un) = some (.dat (.int (j : Int)), (GW ns (.own (stZ (s / 4)) false false) (.dat (.int (w : Int))) x3 (.own (.lst (Rs.map D.lst)) false false) (.dat (.int k)) x6 .un .un .un .un .un .un)) := by
    rw [← hj]
    exact er_op er_C d4 rfl rfl rfl rfl
  have z2 : zSet 13 8 (zCallM 0 (d__law_expression 40) (zCons (zVar 1) (zCons (zVar 2) (zCons (zOp addS (zC (.int 1)) (zCallM 0 d__law_digit (zCons (zVar 1) (zCons (zC (.int 4)) (zNil))))) (zNil))))) (GW ns (.own (stZ s) false false) (.dat (.int (w : Int))) x3 (.own (.lst (Rs.map D.lst)) false false) (.dat (.int k)) x6 .un .un .un .un .un .un) = some (.nx, (GW ns (.own (stZ s2) false false) (.dat (.int (w : Int))) x3 (.own (.lst (Rs.map D.lst)) false false) (.dat (.int k)) x6 .un (.dat e0) .un .un .un .un)) :=
    set_dat (er_callM (kk := 0) (j := 1) (p := false) (f := d__law_expression 40) (c := stZ (s / 4)) (g1 := (GW ns (.own (stZ (s / 4)) false false) (.dat (.int (w : Int))) x3 (.own (.lst (Rs.map D.lst)) false false) (.dat (.int k)) x6 .un .un .un .un .un .un)) (g2 := (GW ns (.own (stZ (s / 4)) false false) (.dat (.int (w : Int))) x3 (.own (.lst (Rs.map D.lst)) false false) (.dat (.int k)) x6 .un .un .un .un .un .un)) (er_cons rfl (er_cons rfl (er_cons a4 er_nil))) rfl rfl rfl rfl rfl he0 rfl) rfl rfl
  obtain ⟨e, s3, xe, z3⟩ : ∃ e s3, Ex CVW (w : Int) 4 e ∧ zIfS 13 (zTst (zOp eqD (zOp mulD (zOp divD (zVar 5) (zC (.int 2))) (zC (.int 2))) (zVar 5))) (zSet 13 8 (zCallM 0 (d__law_condition 40) (zCons (zVar 1) (zCons (zVar 2) (zCons (zC (.int 3)) (zNil)))))) (zNx) (GW ns (.own (stZ s2) false false) (.dat (.int (w : Int))) x3 (.own (.lst (Rs.map D.lst)) false false) (.dat (.int k)) x6 .un (.dat e0) .un .un .un .un) = some (.nx, (GW ns (.own (stZ s3) false false) (.dat (.int (w : Int))) x3 (.own (.lst (Rs.map D.lst)) false false) (.dat (.int k)) x6 .un (.dat e) .un .un .un .un)) := by
    have dv : divD (.int (k : Int)) (.int 2) = some (.int ((k : Int) / 2)) := dr_div (by decide) (by decide)
    have t : zTst (zOp eqD (zOp mulD (zOp divD (zVar 5) (zC (.int 2))) (zC (.int 2))) (zVar 5)) (GW ns (.own (stZ s2) false false) (.dat (.int (w : Int))) x3 (.own (.lst (Rs.map D.lst)) false false) (.dat (.int k)) x6 .un (.dat e0) .un .un .un .un) = some ((k : Int) / 2 * 2 == (k : Int), (GW ns (.own (stZ s2) false false) (.dat (.int (w : Int))) x3 (.own (.lst (Rs.map D.lst)) false false) (.dat (.int k)) x6 .un (.dat e0) .un .un .un .un)) :=
      er_tst (er_op (er_op (er_op (f := divD) (ma := zVar 5) (er_varD (d := .int (k : Int)) rfl) er_C rfl rfl dv rfl) er_C rfl rfl (dr_mulr (by decide)) rfl) rfl rfl rfl dr_eqI rfl)
    cases hb : (k : Int) / 2 * 2 == (k : Int) with
    | false =>
      rw [hb] at t
      exact ⟨e0, s2, xe0.up (by omega), if_no t rfl rfl⟩
    | true =>
      rw [hb] at t
      obtain ⟨e, s3, he, xe⟩ := cond_ok (w := (w : Int)) (by omega) 3 s2 40 (by omega)
      refine ⟨e, s3, xe, if_yes t rfl ?_⟩
      exact set_dat (er_callM (kk := 0) (j := 1) (p := false) (f := d__law_condition 40) (c := stZ s2) (g1 := (GW ns (.own (stZ s2) false false) (.dat (.int (w : Int))) x3 (.own (.lst (Rs.map D.lst)) false false) (.dat (.int k)) x6 .un (.dat e0) .un .un .un .un)) (g2 := (GW ns (.own (stZ s2) false false) (.dat (.int (w : Int))) x3 (.own (.lst (Rs.map D.lst)) false false) (.dat (.int k)) x6 .un (.dat e0) .un .un .un .un)) (er_cons rfl (er_cons rfl (er_cons er_C er_nil))) rfl rfl rfl rfl rfl he rfl) rfl rfl
  have hg := grp_ok hR
  have hl : (colsL Rs w).length = w := by unfold colsL; rw [List.length_map, List.length_range]
  obtain ⟨sp, hsp, hin, hq⟩ := span_all (Ls := colsL Rs w) (Rs := Rs) (fun L m => by
    unfold colsL at m
    obtain ⟨i, mi, rfl⟩ := List.mem_map.mp m
    exact ⟨cols_cv hR (List.mem_range.mp mi), by unfold colL; rw [List.length_map, List.length_map]; omega⟩) hg (w := (w : Int)) (by rw [hl]; omega) xe (by omega)
  have q1 := hq 40 (by omega)
  have hb : Sp.Bd 4 < 10 ^ 60 := Sp.bd_lt (by omega)
  have q2 := may_ok hsp hb q1
  obtain ⟨y6, k6, a9⟩ := ask6 ns (x1 := .own (stZ s3) false false) (x2 := .dat (.int (w : Int))) (x3 := x3) (x4 := .own (.lst (Rs.map D.lst)) false false) (x5 := .dat (.int k)) (x7 := .un) (x9 := .un) (x10 := .un) (x11 := .un) (x12 := .un) h6 q1
  obtain ⟨w6, l6, a10⟩ := ask6 ns (x1 := .own (stZ s3) false false) (x2 := .dat (.int (w : Int))) (x3 := x3) (x4 := .own (.lst (Rs.map D.lst)) false false) (x5 := .dat (.int k)) (x7 := .un) (x9 := .dat (Sp.SD sp)) (x10 := .un) (x11 := .un) (x12 := .un) k6 q2
  have z4 : zSet 13 9 (zCall (d_span_of 40) (zCons (zVar 8) (zCons (zVar 6) (zNil)))) (GW ns (.own (stZ s3) false false) (.dat (.int (w : Int))) x3 (.own (.lst (Rs.map D.lst)) false false) (.dat (.int k)) x6 .un (.dat e) .un .un .un .un) = some (.nx, (GW ns (.own (stZ s3) false false) (.dat (.int (w : Int))) x3 (.own (.lst (Rs.map D.lst)) false false) (.dat (.int k)) y6 .un (.dat e) (.dat (Sp.SD sp)) .un .un .un)) := set_dat a9 rfl rfl
  have z5 : zSet 13 10 (zCall d_may_hold (zCons (zVar 8) (zCons (zVar 6) (zNil)))) (GW ns (.own (stZ s3) false false) (.dat (.int (w : Int))) x3 (.own (.lst (Rs.map D.lst)) false false) (.dat (.int k)) y6 .un (.dat e) (.dat (Sp.SD sp)) .un .un .un) = some (.nx, (GW ns (.own (stZ s3) false false) (.dat (.int (w : Int))) x3 (.own (.lst (Rs.map D.lst)) false false) (.dat (.int k)) w6 .un (.dat e) (.dat (Sp.SD sp)) (.dat (.bl (Sp.canS sp true))) .un .un)) := set_dat a10 rfl rfl
  have z6 : zIfS 13 (zAndT (zTst (zOp isntD (zVar 10) (zC (.bl true)))) (zTst (zOp isntD (zVar 10) (zC (.bl false))))) (zRet (zC (.bl false))) (zNx) (GW ns (.own (stZ s3) false false) (.dat (.int (w : Int))) x3 (.own (.lst (Rs.map D.lst)) false false) (.dat (.int k)) w6 .un (.dat e) (.dat (Sp.SD sp)) (.dat (.bl (Sp.canS sp true))) .un .un) = some (.nx, (GW ns (.own (stZ s3) false false) (.dat (.int (w : Int))) x3 (.own (.lst (Rs.map D.lst)) false false) (.dat (.int k)) w6 .un (.dat e) (.dat (Sp.SD sp)) (.dat (.bl (Sp.canS sp true))) .un .un)) := by
    cases Sp.canS sp true with
    | true => exact if_no (er_andTF (b1 := false) (er_tst (er_op rfl er_C rfl rfl rfl rfl)) rfl) rfl rfl
    | false => exact if_no (er_andTT (b1 := true) (b2 := false) (er_tst (er_op rfl er_C rfl rfl rfl rfl)) rfl (er_tst (er_op rfl er_C rfl rfl rfl rfl))) rfl rfl
  obtain ⟨gl, f1, rfl⟩ := forL_inv (tg := gN 7) (st := lb_law_2) (L := Rs.map D.lst) (fun _ g => g = (GW ns (.own (stZ s3) false false) (.dat (.int (w : Int))) x3 (.own (.lst (Rs.map D.lst)) false true) (.dat (.int k)) w6 .un (.dat e) (.dat (Sp.SD sp)) (.dat (.bl (Sp.canS sp true))) .un .un)) 0 (GW ns (.own (stZ s3) false false) (.dat (.int (w : Int))) x3 (.own (.lst (Rs.map D.lst)) false true) (.dat (.int k)) w6 .un (.dat e) (.dat (Sp.SD sp)) (.dat (.bl (Sp.canS sp true))) .un .un) rfl (fun i d g hd hg => by
    subst hg
    obtain ⟨R, mR, rfl⟩ := List.mem_map.mp (List.mem_of_getElem? hd)
    obtain ⟨v, wv, ev, iv⟩ := hin R mR
    have ev := ev 40 (by omega)
    refine ⟨(GW ns (.own (stZ s3) false false) (.dat (.int (w : Int))) x3 (.own (.lst (Rs.map D.lst)) false true) (.dat (.int k)) w6 (.dat (.lst R)) (.dat e) (.dat (Sp.SD sp)) (.dat (.bl (Sp.canS sp true))) .un .un), _, rfl, .inl (row_asked ns ev (linside_ok hsp hb wv iv) (holds_ok wv ev) fun h => ?_), rfl⟩
    have := bTrue_is wv h
    subst this
    exact Sp.in_can iv)
  have z7 : zFgB [7] (zFor 13 (ziL 13 (zVar 4)) (gN 7) (lb_law_2)) (GW ns (.own (stZ s3) false false) (.dat (.int (w : Int))) x3 (.own (.lst (Rs.map D.lst)) false false) (.dat (.int k)) w6 .un (.dat e) (.dat (Sp.SD sp)) (.dat (.bl (Sp.canS sp true))) .un .un) = some (.nx, (GW ns (.own (stZ s3) false false) (.dat (.int (w : Int))) x3 (.own (.lst (Rs.map D.lst)) false false) (.dat (.int k)) w6 .un (.dat e) (.dat (Sp.SD sp)) (.dat (.bl (Sp.canS sp true))) .un .un)) :=
    fgB_run (g1 := (GW ns (.own (stZ s3) false false) (.dat (.int (w : Int))) x3 (.own (.lst (Rs.map D.lst)) false false) (.dat (.int k)) w6 .un (.dat e) (.dat (Sp.SD sp)) (.dat (.bl (Sp.canS sp true))) .un .un)) rfl rfl (for_lock (j := 4) (mi_Lb rfl (Nat.le_of_ble_eq_true rfl) rfl) rfl rfl rfl f1 rfl)
  refine ⟨w6, l6, ?_⟩
  unfold lb_law_3
  refine fg_nx (g1 := (GW ns (.own (stZ s3) false false) (.dat (.int (w : Int))) x3 (.own (.lst (Rs.map D.lst)) false false) (.dat (.int k)) w6 .un (.dat e) (.dat (Sp.SD sp)) (.dat (.bl (Sp.canS sp true))) .un .un)) ?_ rfl rfl
  exact seq_is z1 (seq_is z2 (seq_is z3 (seq_is z4 (seq_is z5 (seq_is z6 z7)))))
def mn (i j : Int) : Int := if j < i then j else i
def mx (i j : Int) : Int := if j > i then j else i
theorem mx_ok (i j : Int) : maxD [.int i, .int j] = some (.int (mx i j)) := rfl
theorem min_ok (i j : Int) : minD [.int i, .int j] = some (.int (mn i j)) := rfl
theorem law_true (ns : List Int) (hn : ns.length ≤ 63) : d_law [scriptD ns] = some (.dat (.bl true)) := by
  obtain ⟨c0, hc0⟩ := cell_ok ns 0 (by decide)
  obtain ⟨s, hs⟩ := state_ok c0 0
  have n0 := Int.emod_nonneg s (show (3 : Int) ≠ 0 by decide)
  have n1 := Int.emod_lt_of_pos s (show (0 : Int) < 3 by decide)
  obtain ⟨w, hw⟩ := Int.eq_ofNat_of_zero_le (show 0 ≤ 1 + s % 3 by omega)
  have w1 : 1 ≤ w ∧ w ≤ 60 := by omega
  have hlen : lenD [scriptD ns] = some (.int ((ns.map D.int).length : Int)) := rfl
  rw [List.length_map] at hlen
  have z1 : zSet 13 1 (zCall d__law_state (zCons (zCall d__law_cell (zCons (zVar 0) (zCons (zC (.int 0)) (zNil)))) (zCons (zC (.int 0)) (zNil)))) (GW ns .un .un .un .un .un .un .un .un .un .un .un .un) = some (.nx, (GW ns (.own (stZ s) false false) .un .un .un .un .un .un .un .un .un .un .un)) :=
    set_own (er_callL (g1 := (GW ns .un .un .un .un .un .un .un .un .un .un .un .un)) (ds := [.int c0, .int 0]) (er_cons (er_callV (er_cons rfl (er_cons rfl er_nil)) rfl hc0 rfl) (er_cons er_C er_nil)) hs) (Nat.le_of_ble_eq_true rfl) rfl rfl rfl
  have d1 : zCallM 0 d__law_digit (zCons (zVar 1) (zCons (zC (.int 3)) (zNil))) (GW ns (.own (stZ s) false false) .un .un .un .un .un .un .un .un .un .un .un) = some (.dat (.int (s % 3)), (GW ns (.own (stZ (s / 3)) false false) .un .un .un .un .un .un .un .un .un .un .un)) :=
    er_callM (kk := 0) (j := 1) (p := false) (f := d__law_digit) (c := stZ s) (g := (GW ns (.own (stZ s) false false) .un .un .un .un .un .un .un .un .un .un .un)) (g2 := (GW ns (.own (stZ s) false false) .un .un .un .un .un .un .un .un .un .un .un)) (er_cons rfl (er_cons er_C er_nil)) rfl rfl rfl rfl rfl (digit_ok s 3 (by decide) (by decide)) rfl
  have z2 : zSet 13 2 (zOp addS (zC (.int 1)) (zCallM 0 d__law_digit (zCons (zVar 1) (zCons (zC (.int 3)) (zNil))))) (GW ns (.own (stZ s) false false) .un .un .un .un .un .un .un .un .un .un .un) = some (.nx, (GW ns (.own (stZ (s / 3)) false false) (.dat (.int (w : Int))) .un .un .un .un .un .un .un .un .un .un)) := by
    rw [← hw]
    exact set_dat (er_op er_C d1 rfl rfl rfl rfl) rfl rfl
  have d2 : zCallM 0 d__law_digit (zCons (zVar 1) (zCons (zC (.int 3)) (zNil))) (GW ns (.own (stZ (s / 3)) false false) (.dat (.int (w : Int))) .un .un .un .un .un .un .un .un .un .un) = some (.dat (.int (s / 3 % 3)), (GW ns (.own (stZ (s / 3 / 3)) false false) (.dat (.int (w : Int))) .un .un .un .un .un .un .un .un .un .un)) :=
    er_callM (kk := 0) (j := 1) (p := false) (f := d__law_digit) (c := stZ (s / 3)) (g := (GW ns (.own (stZ (s / 3)) false false) (.dat (.int (w : Int))) .un .un .un .un .un .un .un .un .un .un)) (g2 := (GW ns (.own (stZ (s / 3)) false false) (.dat (.int (w : Int))) .un .un .un .un .un .un .un .un .un .un)) (er_cons rfl (er_cons er_C er_nil)) rfl rfl rfl rfl rfl (digit_ok (s / 3) 3 (by decide) (by decide)) rfl
  obtain ⟨b, z3⟩ : ∃ b, zSet 13 3 (zOp gtD (zCallM 0 d__law_digit (zCons (zVar 1) (zCons (zC (.int 3)) (zNil)))) (zC (.int 0))) (GW ns (.own (stZ (s / 3)) false false) (.dat (.int (w : Int))) .un .un .un .un .un .un .un .un .un .un) = some (.nx, (GW ns (.own (stZ (s / 3 / 3)) false false) (.dat (.int (w : Int))) (.dat (.bl b)) .un .un .un .un .un .un .un .un .un)) :=
    ⟨decide (s / 3 % 3 > 0), set_dat (er_op (f := gtD) d2 er_C rfl rfl rfl rfl) rfl rfl⟩
  have z4 : zSet 13 4 (zLst (zNil)) (GW ns (.own (stZ (s / 3 / 3)) false false) (.dat (.int (w : Int))) (.dat (.bl b)) .un .un .un .un .un .un .un .un .un) = some (.nx, (GW ns (.own (stZ (s / 3 / 3)) false false) (.dat (.int (w : Int))) (.dat (.bl b)) (.own (.lst []) false false) .un .un .un .un .un .un .un .un)) := set_own (er_lst er_nil rfl (Nat.zero_le _)) (Nat.le_of_ble_eq_true rfl) rfl rfl rfl
  obtain ⟨m, hm, hm2⟩ : ∃ m : Nat, mn 14 (mx 2 ((ns.length : Int) / 2)) = (m : Int) ∧ m ≤ 14 := by
    obtain ⟨m, hm⟩ := Int.eq_ofNat_of_zero_le (a := mn 14 (mx 2 ((ns.length : Int) / 2))) (by unfold mn mx; split <;> split <;> omega)
    exact ⟨m, hm, by revert hm; unfold mn mx; split <;> split <;> omega⟩
  have hr1 : (zCons (zCallS minD (zCons (zC (.int 14)) (zCons (zCallS maxD (zCons (zC (.int 2)) (zCons (zOp divD (zCallS lenD (zCons (zVar 0) (zNil))) (zC (.int 2))) (zNil)))) (zNil)))) (zNil)) (GW ns .un (.dat (.int (w : Int))) (.dat (.bl b)) (.own (.lst []) false false) .un .un .un .un .un .un .un .un) = some ([.dat (.int (m : Int))], (GW ns .un (.dat (.int (w : Int))) (.dat (.bl b)) (.own (.lst []) false false) .un .un .un .un .un .un .un .un)) := by
    rw [← hm]
    have dv : divD (.int (ns.length : Int)) (.int 2) = some (.int ((ns.length : Int) / 2)) := dr_div (by decide) (by decide)
    exact er_cons (er_callS (er_cons er_C (er_cons (er_callS (er_cons er_C (er_cons (er_op (f := divD) (er_callS (er_cons rfl er_nil) rfl hlen rfl) er_C rfl rfl dv rfl) er_nil)) rfl (mx_ok _ _) rfl) er_nil)) rfl (min_ok _ _) rfl) er_nil
  obtain ⟨gl, f1, Rs, rfl, ll, hR⟩ := forL_inv (tg := gN 5) (st := lb_law_1) (L := rgD 0 m) (fun i g => ∃ Rs : List (List D), g = (GW ns .un (.dat (.int (w : Int))) (.dat (.bl b)) (.own (.lst (Rs.map D.lst)) false false) .un .un .un .un .un .un .un .un) ∧ Rs.length = i ∧ ∀ R ∈ Rs, (∀ v ∈ R, CVW v) ∧ R.length = w) 0
    (GW ns .un (.dat (.int (w : Int))) (.dat (.bl b)) (.own (.lst (([] : List (List D)).map D.lst)) false false) .un .un .un .un .un .un .un .un) ⟨[], rfl, rfl, fun r h => (List.not_mem_nil h).elim⟩ (fun i d g hd hg => by
      obtain ⟨Rs, rfl, ll, hR⟩ := hg
      obtain ⟨hi, rfl⟩ := rgD_at hd
      rw [Nat.zero_add] at ll
      obtain ⟨r, hr, rl, t⟩ := row_turn ns w w1 b (Rs.map D.lst) (by rw [List.length_map]; omega) i
      refine ⟨(GW ns .un (.dat (.int (w : Int))) (.dat (.bl b)) (.own (.lst (Rs.map D.lst)) false false) (.dat (.int (i : Int))) .un .un .un .un .un .un .un), _, ?_, .inl t, Rs ++ [r], by rw [List.map_append, List.map_singleton], by rw [List.length_append, List.length_singleton, ll, Nat.zero_add], fun x h => ?_⟩
      · rw [Int.zero_add]; rfl
      · rcases List.mem_append.mp h with h | h
        · exact hR x h
        · rw [List.mem_singleton.mp h]; exact ⟨hr, rl⟩)
  rw [rgD_len, Nat.zero_add] at ll
  have hz : Rs.length ≤ 1000 := by omega
  have z5 : zFgB [1, 5, 7] (zFor 13 (ziR1 (zCons (zCallS minD (zCons (zC (.int 14)) (zCons (zCallS maxD (zCons (zC (.int 2)) (zCons (zOp divD (zCallS lenD (zCons (zVar 0) (zNil))) (zC (.int 2))) (zNil)))) (zNil)))) (zNil))) (gN 5) (lb_law_1)) (GW ns (.own (stZ (s / 3 / 3)) false false) (.dat (.int (w : Int))) (.dat (.bl b)) (.own (.lst []) false false) .un .un .un .un .un .un .un .un) = some (.nx, (GW ns .un (.dat (.int (w : Int))) (.dat (.bl b)) (.own (.lst (Rs.map D.lst)) false false) .un .un .un .un .un .un .un .un)) :=
    fgB_run (g1 := (GW ns .un (.dat (.int (w : Int))) (.dat (.bl b)) (.own (.lst []) false false) .un .un .un .un .un .un .un .un)) rfl rfl (for_none (mi_R1 hr1 (rgOk_of (by omega) (by omega))) rfl (by rw [Int.toNat_natCast]; exact f1))
  have z6 := zones_ok ns (x1 := .un) (x3 := .dat (.bl b)) (Rs := Rs) (w := w) (by omega) (fun R m => (hR R m).2) hz (fun c hc => cols_cv hR hc)
  obtain ⟨n, hn1, hn2⟩ : ∃ n : Nat, mn 24 (mx 4 ((ns.length : Int) - 1)) = (n : Int) ∧ n ≤ 24 := by
    obtain ⟨n, hn⟩ := Int.eq_ofNat_of_zero_le (a := mn 24 (mx 4 ((ns.length : Int) - 1))) (by unfold mn mx; split <;> split <;> omega)
    exact ⟨n, hn, by revert hn; unfold mn mx; split <;> split <;> omega⟩
  have hr2 : (zCons (zCallS minD (zCons (zC (.int 24)) (zCons (zCallS maxD (zCons (zC (.int 4)) (zCons (zOp subD (zCallS lenD (zCons (zVar 0) (zNil))) (zC (.int 1))) (zNil)))) (zNil)))) (zNil)) (GW ns .un (.dat (.int (w : Int))) (.dat (.bl b)) (.own (.lst (Rs.map D.lst)) false false) .un (.own (.lst ((colsL Rs w).map Sp.zoneD)) false false) .un .un .un .un .un .un) = some ([.dat (.int (n : Int))], (GW ns .un (.dat (.int (w : Int))) (.dat (.bl b)) (.own (.lst (Rs.map D.lst)) false false) .un (.own (.lst ((colsL Rs w).map Sp.zoneD)) false false) .un .un .un .un .un .un)) := by
    rw [← hn1]
    exact er_cons (er_callS (er_cons er_C (er_cons (er_callS (er_cons er_C (er_cons (er_op (f := subD) (er_callS (er_cons rfl er_nil) rfl hlen rfl) er_C rfl rfl rfl rfl) er_nil)) rfl (mx_ok _ _) rfl) er_nil)) rfl (min_ok _ _) rfl) er_nil
  obtain ⟨gl, f2, x6, rfl, _⟩ := forL_inv (tg := gN 5) (st := lb_law_3) (L := rgD 0 n) (fun i g => ∃ x6, g = (GW ns .un (.dat (.int (w : Int))) (.dat (.bl b)) (.own (.lst (Rs.map D.lst)) false false) .un x6 .un .un .un .un .un .un) ∧ Hold ((colsL Rs w).map Sp.zoneD) x6) 0
    (GW ns .un (.dat (.int (w : Int))) (.dat (.bl b)) (.own (.lst (Rs.map D.lst)) false false) .un (.own (.lst ((colsL Rs w).map Sp.zoneD)) false false) .un .un .un .un .un .un) ⟨_, rfl, .inl rfl⟩ (fun i d g hd hg => by
      obtain ⟨x6, rfl, k6⟩ := hg
      obtain ⟨hi, rfl⟩ := rgD_at hd
      obtain ⟨y6, l6, t⟩ := exp_turn ns w1 hR hz (x3 := .dat (.bl b)) k6 i (by omega)
      refine ⟨(GW ns .un (.dat (.int (w : Int))) (.dat (.bl b)) (.own (.lst (Rs.map D.lst)) false false) (.dat (.int (i : Int))) x6 .un .un .un .un .un .un), _, ?_, .inl t, y6, rfl, l6⟩
      rw [Int.zero_add]; rfl)
  have z7 : zFgB [1, 5, 7] (zFor 13 (ziR1 (zCons (zCallS minD (zCons (zC (.int 24)) (zCons (zCallS maxD (zCons (zC (.int 4)) (zCons (zOp subD (zCallS lenD (zCons (zVar 0) (zNil))) (zC (.int 1))) (zNil)))) (zNil)))) (zNil))) (gN 5) (lb_law_3)) (GW ns .un (.dat (.int (w : Int))) (.dat (.bl b)) (.own (.lst (Rs.map D.lst)) false false) .un (.own (.lst ((colsL Rs w).map Sp.zoneD)) false false) .un .un .un .un .un .un) = some (.nx, (GW ns .un (.dat (.int (w : Int))) (.dat (.bl b)) (.own (.lst (Rs.map D.lst)) false false) .un x6 .un .un .un .un .un .un)) :=
    fgB_run (g1 := (GW ns .un (.dat (.int (w : Int))) (.dat (.bl b)) (.own (.lst (Rs.map D.lst)) false false) .un (.own (.lst ((colsL Rs w).map Sp.zoneD)) false false) .un .un .un .un .un .un)) rfl rfl (for_none (mi_R1 hr2 (rgOk_of (by omega) (by omega))) rfl (by rw [Int.toNat_natCast]; exact f2))
  unfold d_law b_law
  refine runP_ap (g := (GW ns .un .un .un .un .un .un .un .un .un .un .un .un)) rfl rfl ?_
  refine seq_nx z1 (seq_nx z2 (seq_nx z3 (seq_nx z4 (seq_nx z5 (seq_nx z6 (seq_nx z7 ?_))))))
  exact sr_ret er_C rfl
end Qk50
end Mac
set_option Elab.async false
set_option linter.all false
set_option maxRecDepth 100000
set_option maxHeartbeats 4000000
namespace Qk50
open PySem PySem.Spec PyProof.Rows L2 Z
theorem all_mk {P : Program} {w : World} {K : PySem.W.Frag} {h : Heap} {mg : Str → Option Value} {fa : Addr} (X : K.In h) (G : h.Ns mainGlobals mg) (hfa : mg "law" = some (.ref fa))
    {C_Zone : Addr} (ca_Zone : PySem.W.nsIn K mainGlobals "Zone" = some (some (.ref C_Zone))) (cpg_Zone : PySem.W.plainGet K C_Zone Str.empty = true) (chd_Zone : PySem.W.hasDictIn K C_Zone = true) (cpo_Zone : PySem.W.plainOver K C_Zone = true) (csa_Zone : PySem.W.findIn K (.ref C_Zone) "__setattr__" = some (some (.builtin "object.__setattr__"))) (cha_Zone : PySem.W.findIn K (.ref C_Zone) "__class__" = some (some (.builtin "object.__class__"))) (chn_Zone : PySem.W.specialIn K (.builtin "object.__class__") "__get__" = some (some (.builtin "getset_descriptor.__get__"))) (cht_Zone : PySem.W.takesIn K (.builtin "object.__class__") = some true) (chm_Zone : PySem.W.mroIn K C_Zone (.type "object") = some true)
    (cn_Zone_many : PySem.W.findIn K (.ref C_Zone) "many" = some none)
    (cn_Zone_nulls : PySem.W.findIn K (.ref C_Zone) "nulls" = some none)
    (cn_Zone_least : PySem.W.findIn K (.ref C_Zone) "least" = some none)
    (cn_Zone_greatest : PySem.W.findIn K (.ref C_Zone) "greatest" = some none)
    {cf_Zone : Addr} {coc_Zone : Value} {cod_Zone can_Zone : Option Addr} {csl_Zone : Array (Option Value)} {ckV_Zone cdc_Zone cpm_Zone ccd_Zone cct_Zone : Value}
    (cmk_Zone : PySem.W.makesIn K C_Zone = true) (cin_Zone : PySem.W.findIn K (.ref C_Zone) "__init__" = some (some (.ref cf_Zone))) (cfn_Zone : PySem.W.isFn K (.ref cf_Zone) = true) (ckc_Zone : PySem.W.keepIn K (.ref C_Zone) = true) (cl_Zone : K.lookup cf_Zone = some ⟨coc_Zone, cod_Zone, .func (PySem.W.fnOf "__init__" "Zone.__init__" (defArgs st_Zone) (defBody st_Zone) (defScope st_Zone) .none ckV_Zone cdc_Zone cpm_Zone can_Zone ccd_Zone cct_Zone), csl_Zone⟩) (cce_Zone : PySem.W.codeIn K ccd_Zone "Zone.__init__" = true) (ckp_Zone : PySem.W.keepIn K (.ref cf_Zone) = true)
    {od0 an0 : Option Addr} {sl0 : Array (Option Value)} {oc0 kV0 dc0 pm0 cd0 ct0 : Value} {f0 : Addr}
    (a0 : PySem.W.nsIn K mainGlobals "_law_state" = some (some (.ref f0))) (l0 : K.lookup f0 = some ⟨oc0, od0, .func (PySem.W.fnOf "_law_state" "_law_state" (defArgs st__law_state) (defBody st__law_state) (defScope st__law_state) .none kV0 dc0 pm0 an0 cd0 ct0), sl0⟩) (e0 : PySem.W.codeIn K cd0 "_law_state" = true) (k0 : PySem.W.keepIn K (.ref f0) = true)
    {od1 an1 : Option Addr} {sl1 : Array (Option Value)} {oc1 kV1 dc1 pm1 cd1 ct1 : Value} {f1 : Addr}
    (a1 : PySem.W.nsIn K mainGlobals "_law_cell" = some (some (.ref f1))) (l1 : K.lookup f1 = some ⟨oc1, od1, .func (PySem.W.fnOf "_law_cell" "_law_cell" (defArgs st__law_cell) (defBody st__law_cell) (defScope st__law_cell) .none kV1 dc1 pm1 an1 cd1 ct1), sl1⟩) (e1 : PySem.W.codeIn K cd1 "_law_cell" = true) (k1 : PySem.W.keepIn K (.ref f1) = true)
    {od2 an2 : Option Addr} {sl2 : Array (Option Value)} {oc2 kV2 dc2 pm2 cd2 ct2 : Value} {f2 : Addr}
    (a2 : PySem.W.nsIn K mainGlobals "_law_digit" = some (some (.ref f2))) (l2 : K.lookup f2 = some ⟨oc2, od2, .func (PySem.W.fnOf "_law_digit" "_law_digit" (defArgs st__law_digit) (defBody st__law_digit) (defScope st__law_digit) .none kV2 dc2 pm2 an2 cd2 ct2), sl2⟩) (e2 : PySem.W.codeIn K cd2 "_law_digit" = true) (k2 : PySem.W.keepIn K (.ref f2) = true)
    {od3 an3 : Option Addr} {sl3 : Array (Option Value)} {oc3 kV3 dc3 pm3 cd3 ct3 : Value} {f3 : Addr}
    (a3 : PySem.W.nsIn K mainGlobals "rank" = some (some (.ref f3))) (l3 : K.lookup f3 = some ⟨oc3, od3, .func (PySem.W.fnOf "rank" "rank" (defArgs st_rank) (defBody st_rank) (defScope st_rank) .none kV3 dc3 pm3 an3 cd3 ct3), sl3⟩) (e3 : PySem.W.codeIn K cd3 "rank" = true) (k3 : PySem.W.keepIn K (.ref f3) = true)
    {od4 an4 : Option Addr} {sl4 : Array (Option Value)} {oc4 kV4 dc4 pm4 cd4 ct4 : Value} {f4 : Addr}
    (a4 : PySem.W.nsIn K mainGlobals "zone_of" = some (some (.ref f4))) (l4 : K.lookup f4 = some ⟨oc4, od4, .func (PySem.W.fnOf "zone_of" "zone_of" (defArgs st_zone_of) (defBody st_zone_of) (defScope st_zone_of) .none kV4 dc4 pm4 an4 cd4 ct4), sl4⟩) (e4 : PySem.W.codeIn K cd4 "zone_of" = true) (k4 : PySem.W.keepIn K (.ref f4) = true)
    {od5 an5 : Option Addr} {sl5 : Array (Option Value)} {oc5 kV5 dc5 pm5 cd5 ct5 : Value} {f5 : Addr}
    (a5 : PySem.W.nsIn K mainGlobals "_law_text" = some (some (.ref f5))) (l5 : K.lookup f5 = some ⟨oc5, od5, .func (PySem.W.fnOf "_law_text" "_law_text" (defArgs st__law_text) (defBody st__law_text) (defScope st__law_text) .none kV5 dc5 pm5 an5 cd5 ct5), sl5⟩) (e5 : PySem.W.codeIn K cd5 "_law_text" = true) (k5 : PySem.W.keepIn K (.ref f5) = true)
    {od6 an6 : Option Addr} {sl6 : Array (Option Value)} {oc6 kV6 dc6 pm6 cd6 ct6 : Value} {f6 : Addr}
    (a6 : PySem.W.nsIn K mainGlobals "_law_value" = some (some (.ref f6))) (l6 : K.lookup f6 = some ⟨oc6, od6, .func (PySem.W.fnOf "_law_value" "_law_value" (defArgs st__law_value) (defBody st__law_value) (defScope st__law_value) .none kV6 dc6 pm6 an6 cd6 ct6), sl6⟩) (e6 : PySem.W.codeIn K cd6 "_law_value" = true) (k6 : PySem.W.keepIn K (.ref f6) = true)
    {od7 an7 : Option Addr} {sl7 : Array (Option Value)} {oc7 kV7 dc7 pm7 cd7 ct7 : Value} {f7 : Addr}
    (a7 : PySem.W.nsIn K mainGlobals "_law_leaf" = some (some (.ref f7))) (l7 : K.lookup f7 = some ⟨oc7, od7, .func (PySem.W.fnOf "_law_leaf" "_law_leaf" (defArgs st__law_leaf) (defBody st__law_leaf) (defScope st__law_leaf) .none kV7 dc7 pm7 an7 cd7 ct7), sl7⟩) (e7 : PySem.W.codeIn K cd7 "_law_leaf" = true) (k7 : PySem.W.keepIn K (.ref f7) = true)
    {od8 an8 : Option Addr} {sl8 : Array (Option Value)} {oc8 kV8 dc8 pm8 cd8 ct8 : Value} {f8 : Addr}
    (a8 : PySem.W.nsIn K mainGlobals "_law_expression" = some (some (.ref f8))) (l8 : K.lookup f8 = some ⟨oc8, od8, .func (PySem.W.fnOf "_law_expression" "_law_expression" (defArgs st__law_expression) (defBody st__law_expression) (defScope st__law_expression) .none kV8 dc8 pm8 an8 cd8 ct8), sl8⟩) (e8 : PySem.W.codeIn K cd8 "_law_expression" = true) (k8 : PySem.W.keepIn K (.ref f8) = true)
    {od9 an9 : Option Addr} {sl9 : Array (Option Value)} {oc9 kV9 dc9 pm9 cd9 ct9 : Value} {f9 : Addr}
    (a9 : PySem.W.nsIn K mainGlobals "truth_span" = some (some (.ref f9))) (l9 : K.lookup f9 = some ⟨oc9, od9, .func (PySem.W.fnOf "truth_span" "truth_span" (defArgs st_truth_span) (defBody st_truth_span) (defScope st_truth_span) .none kV9 dc9 pm9 an9 cd9 ct9), sl9⟩) (e9 : PySem.W.codeIn K cd9 "truth_span" = true) (k9 : PySem.W.keepIn K (.ref f9) = true)
    {od10 an10 : Option Addr} {sl10 : Array (Option Value)} {oc10 kV10 dc10 pm10 cd10 ct10 : Value} {f10 : Addr}
    (a10 : PySem.W.nsIn K mainGlobals "is_integer" = some (some (.ref f10))) (l10 : K.lookup f10 = some ⟨oc10, od10, .func (PySem.W.fnOf "is_integer" "is_integer" (defArgs st_is_integer) (defBody st_is_integer) (defScope st_is_integer) .none kV10 dc10 pm10 an10 cd10 ct10), sl10⟩) (e10 : PySem.W.codeIn K cd10 "is_integer" = true) (k10 : PySem.W.keepIn K (.ref f10) = true)
    {od11 an11 : Option Addr} {sl11 : Array (Option Value)} {oc11 kV11 dc11 pm11 cd11 ct11 : Value} {f11 : Addr}
    (a11 : PySem.W.nsIn K mainGlobals "is_range" = some (some (.ref f11))) (l11 : K.lookup f11 = some ⟨oc11, od11, .func (PySem.W.fnOf "is_range" "is_range" (defArgs st_is_range) (defBody st_is_range) (defScope st_is_range) .none kV11 dc11 pm11 an11 cd11 ct11), sl11⟩) (e11 : PySem.W.codeIn K cd11 "is_range" = true) (k11 : PySem.W.keepIn K (.ref f11) = true)
    {od12 an12 : Option Addr} {sl12 : Array (Option Value)} {oc12 kV12 dc12 pm12 cd12 ct12 : Value} {f12 : Addr}
    (a12 : PySem.W.nsIn K mainGlobals "before" = some (some (.ref f12))) (l12 : K.lookup f12 = some ⟨oc12, od12, .func (PySem.W.fnOf "before" "before" (defArgs st_before) (defBody st_before) (defScope st_before) .none kV12 dc12 pm12 an12 cd12 ct12), sl12⟩) (e12 : PySem.W.codeIn K cd12 "before" = true) (k12 : PySem.W.keepIn K (.ref f12) = true)
    {od13 an13 : Option Addr} {sl13 : Array (Option Value)} {oc13 kV13 dc13 pm13 cd13 ct13 : Value} {f13 : Addr}
    (a13 : PySem.W.nsIn K mainGlobals "can_be" = some (some (.ref f13))) (l13 : K.lookup f13 = some ⟨oc13, od13, .func (PySem.W.fnOf "can_be" "can_be" (defArgs st_can_be) (defBody st_can_be) (defScope st_can_be) .none kV13 dc13 pm13 an13 cd13 ct13), sl13⟩) (e13 : PySem.W.codeIn K cd13 "can_be" = true) (k13 : PySem.W.keepIn K (.ref f13) = true)
    {od14 an14 : Option Addr} {sl14 : Array (Option Value)} {oc14 kV14 dc14 pm14 cd14 ct14 : Value} {f14 : Addr}
    (a14 : PySem.W.nsIn K mainGlobals "may_be_none" = some (some (.ref f14))) (l14 : K.lookup f14 = some ⟨oc14, od14, .func (PySem.W.fnOf "may_be_none" "may_be_none" (defArgs st_may_be_none) (defBody st_may_be_none) (defScope st_may_be_none) .none kV14 dc14 pm14 an14 cd14 ct14), sl14⟩) (e14 : PySem.W.codeIn K cd14 "may_be_none" = true) (k14 : PySem.W.keepIn K (.ref f14) = true)
    {od15 an15 : Option Addr} {sl15 : Array (Option Value)} {oc15 kV15 dc15 pm15 cd15 ct15 : Value} {f15 : Addr}
    (a15 : PySem.W.nsIn K mainGlobals "has_values" = some (some (.ref f15))) (l15 : K.lookup f15 = some ⟨oc15, od15, .func (PySem.W.fnOf "has_values" "has_values" (defArgs st_has_values) (defBody st_has_values) (defScope st_has_values) .none kV15 dc15 pm15 an15 cd15 ct15), sl15⟩) (e15 : PySem.W.codeIn K cd15 "has_values" = true) (k15 : PySem.W.keepIn K (.ref f15) = true)
    {od16 an16 : Option Addr} {sl16 : Array (Option Value)} {oc16 kV16 dc16 pm16 cd16 ct16 : Value} {f16 : Addr}
    (a16 : PySem.W.nsIn K mainGlobals "unary_span" = some (some (.ref f16))) (l16 : K.lookup f16 = some ⟨oc16, od16, .func (PySem.W.fnOf "unary_span" "unary_span" (defArgs st_unary_span) (defBody st_unary_span) (defScope st_unary_span) .none kV16 dc16 pm16 an16 cd16 ct16), sl16⟩) (e16 : PySem.W.codeIn K cd16 "unary_span" = true) (k16 : PySem.W.keepIn K (.ref f16) = true)
    {od17 an17 : Option Addr} {sl17 : Array (Option Value)} {oc17 kV17 dc17 pm17 cd17 ct17 : Value} {f17 : Addr}
    (a17 : PySem.W.nsIn K mainGlobals "compared_span" = some (some (.ref f17))) (l17 : K.lookup f17 = some ⟨oc17, od17, .func (PySem.W.fnOf "compared_span" "compared_span" (defArgs st_compared_span) (defBody st_compared_span) (defScope st_compared_span) .none kV17 dc17 pm17 an17 cd17 ct17), sl17⟩) (e17 : PySem.W.codeIn K cd17 "compared_span" = true) (k17 : PySem.W.keepIn K (.ref f17) = true)
    {od18 an18 : Option Addr} {sl18 : Array (Option Value)} {oc18 kV18 dc18 pm18 cd18 ct18 : Value} {f18 : Addr}
    (a18 : PySem.W.nsIn K mainGlobals "joined_span" = some (some (.ref f18))) (l18 : K.lookup f18 = some ⟨oc18, od18, .func (PySem.W.fnOf "joined_span" "joined_span" (defArgs st_joined_span) (defBody st_joined_span) (defScope st_joined_span) .none kV18 dc18 pm18 an18 cd18 ct18), sl18⟩) (e18 : PySem.W.codeIn K cd18 "joined_span" = true) (k18 : PySem.W.keepIn K (.ref f18) = true)
    {od19 an19 : Option Addr} {sl19 : Array (Option Value)} {oc19 kV19 dc19 pm19 cd19 ct19 : Value} {f19 : Addr}
    (a19 : PySem.W.nsIn K mainGlobals "binary_span" = some (some (.ref f19))) (l19 : K.lookup f19 = some ⟨oc19, od19, .func (PySem.W.fnOf "binary_span" "binary_span" (defArgs st_binary_span) (defBody st_binary_span) (defScope st_binary_span) .none kV19 dc19 pm19 an19 cd19 ct19), sl19⟩) (e19 : PySem.W.codeIn K cd19 "binary_span" = true) (k19 : PySem.W.keepIn K (.ref f19) = true)
    {od20 an20 : Option Addr} {sl20 : Array (Option Value)} {oc20 kV20 dc20 pm20 cd20 ct20 : Value} {f20 : Addr}
    (a20 : PySem.W.nsIn K mainGlobals "span_of" = some (some (.ref f20))) (l20 : K.lookup f20 = some ⟨oc20, od20, .func (PySem.W.fnOf "span_of" "span_of" (defArgs st_span_of) (defBody st_span_of) (defScope st_span_of) .none kV20 dc20 pm20 an20 cd20 ct20), sl20⟩) (e20 : PySem.W.codeIn K cd20 "span_of" = true) (k20 : PySem.W.keepIn K (.ref f20) = true)
    {od21 an21 : Option Addr} {sl21 : Array (Option Value)} {oc21 kV21 dc21 pm21 cd21 ct21 : Value} {f21 : Addr}
    (a21 : PySem.W.nsIn K mainGlobals "may_hold" = some (some (.ref f21))) (l21 : K.lookup f21 = some ⟨oc21, od21, .func (PySem.W.fnOf "may_hold" "may_hold" (defArgs st_may_hold) (defBody st_may_hold) (defScope st_may_hold) .none kV21 dc21 pm21 an21 cd21 ct21), sl21⟩) (e21 : PySem.W.codeIn K cd21 "may_hold" = true) (k21 : PySem.W.keepIn K (.ref f21) = true)
    {od22 an22 : Option Addr} {sl22 : Array (Option Value)} {oc22 kV22 dc22 pm22 cd22 ct22 : Value} {f22 : Addr}
    (a22 : PySem.W.nsIn K mainGlobals "_law_condition" = some (some (.ref f22))) (l22 : K.lookup f22 = some ⟨oc22, od22, .func (PySem.W.fnOf "_law_condition" "_law_condition" (defArgs st__law_condition) (defBody st__law_condition) (defScope st__law_condition) .none kV22 dc22 pm22 an22 cd22 ct22), sl22⟩) (e22 : PySem.W.codeIn K cd22 "_law_condition" = true) (k22 : PySem.W.keepIn K (.ref f22) = true)
    {od23 an23 : Option Addr} {sl23 : Array (Option Value)} {oc23 kV23 dc23 pm23 cd23 ct23 : Value} {f23 : Addr}
    (a23 : PySem.W.nsIn K mainGlobals "_law_rank" = some (some (.ref f23))) (l23 : K.lookup f23 = some ⟨oc23, od23, .func (PySem.W.fnOf "_law_rank" "_law_rank" (defArgs st__law_rank) (defBody st__law_rank) (defScope st__law_rank) .none kV23 dc23 pm23 an23 cd23 ct23), sl23⟩) (e23 : PySem.W.codeIn K cd23 "_law_rank" = true) (k23 : PySem.W.keepIn K (.ref f23) = true)
    {od24 an24 : Option Addr} {sl24 : Array (Option Value)} {oc24 kV24 dc24 pm24 cd24 ct24 : Value} {f24 : Addr}
    (a24 : PySem.W.nsIn K mainGlobals "_law_inside" = some (some (.ref f24))) (l24 : K.lookup f24 = some ⟨oc24, od24, .func (PySem.W.fnOf "_law_inside" "_law_inside" (defArgs st__law_inside) (defBody st__law_inside) (defScope st__law_inside) .none kV24 dc24 pm24 an24 cd24 ct24), sl24⟩) (e24 : PySem.W.codeIn K cd24 "_law_inside" = true) (k24 : PySem.W.keepIn K (.ref f24) = true)
    {od25 an25 : Option Addr} {sl25 : Array (Option Value)} {oc25 kV25 dc25 pm25 cd25 ct25 : Value} {f25 : Addr}
    (a25 : PySem.W.nsIn K mainGlobals "ternary" = some (some (.ref f25))) (l25 : K.lookup f25 = some ⟨oc25, od25, .func (PySem.W.fnOf "ternary" "ternary" (defArgs st_ternary) (defBody st_ternary) (defScope st_ternary) .none kV25 dc25 pm25 an25 cd25 ct25), sl25⟩) (e25 : PySem.W.codeIn K cd25 "ternary" = true) (k25 : PySem.W.keepIn K (.ref f25) = true)
    {od26 an26 : Option Addr} {sl26 : Array (Option Value)} {oc26 kV26 dc26 pm26 cd26 ct26 : Value} {f26 : Addr}
    (a26 : PySem.W.nsIn K mainGlobals "negated" = some (some (.ref f26))) (l26 : K.lookup f26 = some ⟨oc26, od26, .func (PySem.W.fnOf "negated" "negated" (defArgs st_negated) (defBody st_negated) (defScope st_negated) .none kV26 dc26 pm26 an26 cd26 ct26), sl26⟩) (e26 : PySem.W.codeIn K cd26 "negated" = true) (k26 : PySem.W.keepIn K (.ref f26) = true)
    {od27 an27 : Option Addr} {sl27 : Array (Option Value)} {oc27 kV27 dc27 pm27 cd27 ct27 : Value} {f27 : Addr}
    (a27 : PySem.W.nsIn K mainGlobals "negate" = some (some (.ref f27))) (l27 : K.lookup f27 = some ⟨oc27, od27, .func (PySem.W.fnOf "negate" "negate" (defArgs st_negate) (defBody st_negate) (defScope st_negate) .none kV27 dc27 pm27 an27 cd27 ct27), sl27⟩) (e27 : PySem.W.codeIn K cd27 "negate" = true) (k27 : PySem.W.keepIn K (.ref f27) = true)
    {od28 an28 : Option Addr} {sl28 : Array (Option Value)} {oc28 kV28 dc28 pm28 cd28 ct28 : Value} {f28 : Addr}
    (a28 : PySem.W.nsIn K mainGlobals "without_sign" = some (some (.ref f28))) (l28 : K.lookup f28 = some ⟨oc28, od28, .func (PySem.W.fnOf "without_sign" "without_sign" (defArgs st_without_sign) (defBody st_without_sign) (defScope st_without_sign) .none kV28 dc28 pm28 an28 cd28 ct28), sl28⟩) (e28 : PySem.W.codeIn K cd28 "without_sign" = true) (k28 : PySem.W.keepIn K (.ref f28) = true)
    {od29 an29 : Option Addr} {sl29 : Array (Option Value)} {oc29 kV29 dc29 pm29 cd29 ct29 : Value} {f29 : Addr}
    (a29 : PySem.W.nsIn K mainGlobals "is_null" = some (some (.ref f29))) (l29 : K.lookup f29 = some ⟨oc29, od29, .func (PySem.W.fnOf "is_null" "is_null" (defArgs st_is_null) (defBody st_is_null) (defScope st_is_null) .none kV29 dc29 pm29 an29 cd29 ct29), sl29⟩) (e29 : PySem.W.codeIn K cd29 "is_null" = true) (k29 : PySem.W.keepIn K (.ref f29) = true)
    {od30 an30 : Option Addr} {sl30 : Array (Option Value)} {oc30 kV30 dc30 pm30 cd30 ct30 : Value} {f30 : Addr}
    (a30 : PySem.W.nsIn K mainGlobals "length" = some (some (.ref f30))) (l30 : K.lookup f30 = some ⟨oc30, od30, .func (PySem.W.fnOf "length" "length" (defArgs st_length) (defBody st_length) (defScope st_length) .none kV30 dc30 pm30 an30 cd30 ct30), sl30⟩) (e30 : PySem.W.codeIn K cd30 "length" = true) (k30 : PySem.W.keepIn K (.ref f30) = true)
    {od31 an31 : Option Addr} {sl31 : Array (Option Value)} {oc31 kV31 dc31 pm31 cd31 ct31 : Value} {f31 : Addr}
    (a31 : PySem.W.nsIn K mainGlobals "is_day" = some (some (.ref f31))) (l31 : K.lookup f31 = some ⟨oc31, od31, .func (PySem.W.fnOf "is_day" "is_day" (defArgs st_is_day) (defBody st_is_day) (defScope st_is_day) .none kV31 dc31 pm31 an31 cd31 ct31), sl31⟩) (e31 : PySem.W.codeIn K cd31 "is_day" = true) (k31 : PySem.W.keepIn K (.ref f31) = true)
    {od32 an32 : Option Addr} {sl32 : Array (Option Value)} {oc32 kV32 dc32 pm32 cd32 ct32 : Value} {f32 : Addr}
    (a32 : PySem.W.nsIn K mainGlobals "as_date" = some (some (.ref f32))) (l32 : K.lookup f32 = some ⟨oc32, od32, .func (PySem.W.fnOf "as_date" "as_date" (defArgs st_as_date) (defBody st_as_date) (defScope st_as_date) .none kV32 dc32 pm32 an32 cd32 ct32), sl32⟩) (e32 : PySem.W.codeIn K cd32 "as_date" = true) (k32 : PySem.W.keepIn K (.ref f32) = true)
    {od33 an33 : Option Addr} {sl33 : Array (Option Value)} {oc33 kV33 dc33 pm33 cd33 ct33 : Value} {f33 : Addr}
    (a33 : PySem.W.nsIn K mainGlobals "as_decimal" = some (some (.ref f33))) (l33 : K.lookup f33 = some ⟨oc33, od33, .func (PySem.W.fnOf "as_decimal" "as_decimal" (defArgs st_as_decimal) (defBody st_as_decimal) (defScope st_as_decimal) .none kV33 dc33 pm33 an33 cd33 ct33), sl33⟩) (e33 : PySem.W.codeIn K cd33 "as_decimal" = true) (k33 : PySem.W.keepIn K (.ref f33) = true)
    {od34 an34 : Option Addr} {sl34 : Array (Option Value)} {oc34 kV34 dc34 pm34 cd34 ct34 : Value} {f34 : Addr}
    (a34 : PySem.W.nsIn K mainGlobals "limited" = some (some (.ref f34))) (l34 : K.lookup f34 = some ⟨oc34, od34, .func (PySem.W.fnOf "limited" "limited" (defArgs st_limited) (defBody st_limited) (defScope st_limited) .none kV34 dc34 pm34 an34 cd34 ct34), sl34⟩) (e34 : PySem.W.codeIn K cd34 "limited" = true) (k34 : PySem.W.keepIn K (.ref f34) = true)
    {od35 an35 : Option Addr} {sl35 : Array (Option Value)} {oc35 kV35 dc35 pm35 cd35 ct35 : Value} {f35 : Addr}
    (a35 : PySem.W.nsIn K mainGlobals "to_decimal" = some (some (.ref f35))) (l35 : K.lookup f35 = some ⟨oc35, od35, .func (PySem.W.fnOf "to_decimal" "to_decimal" (defArgs st_to_decimal) (defBody st_to_decimal) (defScope st_to_decimal) .none kV35 dc35 pm35 an35 cd35 ct35), sl35⟩) (e35 : PySem.W.codeIn K cd35 "to_decimal" = true) (k35 : PySem.W.keepIn K (.ref f35) = true)
    {od36 an36 : Option Addr} {sl36 : Array (Option Value)} {oc36 kV36 dc36 pm36 cd36 ct36 : Value} {f36 : Addr}
    (a36 : PySem.W.nsIn K mainGlobals "unary" = some (some (.ref f36))) (l36 : K.lookup f36 = some ⟨oc36, od36, .func (PySem.W.fnOf "unary" "unary" (defArgs st_unary) (defBody st_unary) (defScope st_unary) .none kV36 dc36 pm36 an36 cd36 ct36), sl36⟩) (e36 : PySem.W.codeIn K cd36 "unary" = true) (k36 : PySem.W.keepIn K (.ref f36) = true)
    {od37 an37 : Option Addr} {sl37 : Array (Option Value)} {oc37 kV37 dc37 pm37 cd37 ct37 : Value} {f37 : Addr}
    (a37 : PySem.W.nsIn K mainGlobals "both" = some (some (.ref f37))) (l37 : K.lookup f37 = some ⟨oc37, od37, .func (PySem.W.fnOf "both" "both" (defArgs st_both) (defBody st_both) (defScope st_both) .none kV37 dc37 pm37 an37 cd37 ct37), sl37⟩) (e37 : PySem.W.codeIn K cd37 "both" = true) (k37 : PySem.W.keepIn K (.ref f37) = true)
    {od38 an38 : Option Addr} {sl38 : Array (Option Value)} {oc38 kV38 dc38 pm38 cd38 ct38 : Value} {f38 : Addr}
    (a38 : PySem.W.nsIn K mainGlobals "either" = some (some (.ref f38))) (l38 : K.lookup f38 = some ⟨oc38, od38, .func (PySem.W.fnOf "either" "either" (defArgs st_either) (defBody st_either) (defScope st_either) .none kV38 dc38 pm38 an38 cd38 ct38), sl38⟩) (e38 : PySem.W.codeIn K cd38 "either" = true) (k38 : PySem.W.keepIn K (.ref f38) = true)
    {od39 an39 : Option Addr} {sl39 : Array (Option Value)} {oc39 kV39 dc39 pm39 cd39 ct39 : Value} {f39 : Addr}
    (a39 : PySem.W.nsIn K mainGlobals "kind_rank" = some (some (.ref f39))) (l39 : K.lookup f39 = some ⟨oc39, od39, .func (PySem.W.fnOf "kind_rank" "kind_rank" (defArgs st_kind_rank) (defBody st_kind_rank) (defScope st_kind_rank) .none kV39 dc39 pm39 an39 cd39 ct39), sl39⟩) (e39 : PySem.W.codeIn K cd39 "kind_rank" = true) (k39 : PySem.W.keepIn K (.ref f39) = true)
    {od40 an40 : Option Addr} {sl40 : Array (Option Value)} {oc40 kV40 dc40 pm40 cd40 ct40 : Value} {f40 : Addr}
    (a40 : PySem.W.nsIn K mainGlobals "comparable" = some (some (.ref f40))) (l40 : K.lookup f40 = some ⟨oc40, od40, .func (PySem.W.fnOf "comparable" "comparable" (defArgs st_comparable) (defBody st_comparable) (defScope st_comparable) .none kV40 dc40 pm40 an40 cd40 ct40), sl40⟩) (e40 : PySem.W.codeIn K cd40 "comparable" = true) (k40 : PySem.W.keepIn K (.ref f40) = true)
    {od41 an41 : Option Addr} {sl41 : Array (Option Value)} {oc41 kV41 dc41 pm41 cd41 ct41 : Value} {f41 : Addr}
    (a41 : PySem.W.nsIn K mainGlobals "same" = some (some (.ref f41))) (l41 : K.lookup f41 = some ⟨oc41, od41, .func (PySem.W.fnOf "same" "same" (defArgs st_same) (defBody st_same) (defScope st_same) .none kV41 dc41 pm41 an41 cd41 ct41), sl41⟩) (e41 : PySem.W.codeIn K cd41 "same" = true) (k41 : PySem.W.keepIn K (.ref f41) = true)
    {od42 an42 : Option Addr} {sl42 : Array (Option Value)} {oc42 kV42 dc42 pm42 cd42 ct42 : Value} {f42 : Addr}
    (a42 : PySem.W.nsIn K mainGlobals "equal" = some (some (.ref f42))) (l42 : K.lookup f42 = some ⟨oc42, od42, .func (PySem.W.fnOf "equal" "equal" (defArgs st_equal) (defBody st_equal) (defScope st_equal) .none kV42 dc42 pm42 an42 cd42 ct42), sl42⟩) (e42 : PySem.W.codeIn K cd42 "equal" = true) (k42 : PySem.W.keepIn K (.ref f42) = true)
    {od43 an43 : Option Addr} {sl43 : Array (Option Value)} {oc43 kV43 dc43 pm43 cd43 ct43 : Value} {f43 : Addr}
    (a43 : PySem.W.nsIn K mainGlobals "less" = some (some (.ref f43))) (l43 : K.lookup f43 = some ⟨oc43, od43, .func (PySem.W.fnOf "less" "less" (defArgs st_less) (defBody st_less) (defScope st_less) .none kV43 dc43 pm43 an43 cd43 ct43), sl43⟩) (e43 : PySem.W.codeIn K cd43 "less" = true) (k43 : PySem.W.keepIn K (.ref f43) = true)
    {od44 an44 : Option Addr} {sl44 : Array (Option Value)} {oc44 kV44 dc44 pm44 cd44 ct44 : Value} {f44 : Addr}
    (a44 : PySem.W.nsIn K mainGlobals "at_most" = some (some (.ref f44))) (l44 : K.lookup f44 = some ⟨oc44, od44, .func (PySem.W.fnOf "at_most" "at_most" (defArgs st_at_most) (defBody st_at_most) (defScope st_at_most) .none kV44 dc44 pm44 an44 cd44 ct44), sl44⟩) (e44 : PySem.W.codeIn K cd44 "at_most" = true) (k44 : PySem.W.keepIn K (.ref f44) = true)
    {od45 an45 : Option Addr} {sl45 : Array (Option Value)} {oc45 kV45 dc45 pm45 cd45 ct45 : Value} {f45 : Addr}
    (a45 : PySem.W.nsIn K mainGlobals "are_integers" = some (some (.ref f45))) (l45 : K.lookup f45 = some ⟨oc45, od45, .func (PySem.W.fnOf "are_integers" "are_integers" (defArgs st_are_integers) (defBody st_are_integers) (defScope st_are_integers) .none kV45 dc45 pm45 an45 cd45 ct45), sl45⟩) (e45 : PySem.W.codeIn K cd45 "are_integers" = true) (k45 : PySem.W.keepIn K (.ref f45) = true)
    {od46 an46 : Option Addr} {sl46 : Array (Option Value)} {oc46 kV46 dc46 pm46 cd46 ct46 : Value} {f46 : Addr}
    (a46 : PySem.W.nsIn K mainGlobals "added" = some (some (.ref f46))) (l46 : K.lookup f46 = some ⟨oc46, od46, .func (PySem.W.fnOf "added" "added" (defArgs st_added) (defBody st_added) (defScope st_added) .none kV46 dc46 pm46 an46 cd46 ct46), sl46⟩) (e46 : PySem.W.codeIn K cd46 "added" = true) (k46 : PySem.W.keepIn K (.ref f46) = true)
    {od47 an47 : Option Addr} {sl47 : Array (Option Value)} {oc47 kV47 dc47 pm47 cd47 ct47 : Value} {f47 : Addr}
    (a47 : PySem.W.nsIn K mainGlobals "subtracted" = some (some (.ref f47))) (l47 : K.lookup f47 = some ⟨oc47, od47, .func (PySem.W.fnOf "subtracted" "subtracted" (defArgs st_subtracted) (defBody st_subtracted) (defScope st_subtracted) .none kV47 dc47 pm47 an47 cd47 ct47), sl47⟩) (e47 : PySem.W.codeIn K cd47 "subtracted" = true) (k47 : PySem.W.keepIn K (.ref f47) = true)
    {od48 an48 : Option Addr} {sl48 : Array (Option Value)} {oc48 kV48 dc48 pm48 cd48 ct48 : Value} {f48 : Addr}
    (a48 : PySem.W.nsIn K mainGlobals "multiplied" = some (some (.ref f48))) (l48 : K.lookup f48 = some ⟨oc48, od48, .func (PySem.W.fnOf "multiplied" "multiplied" (defArgs st_multiplied) (defBody st_multiplied) (defScope st_multiplied) .none kV48 dc48 pm48 an48 cd48 ct48), sl48⟩) (e48 : PySem.W.codeIn K cd48 "multiplied" = true) (k48 : PySem.W.keepIn K (.ref f48) = true)
    {od49 an49 : Option Addr} {sl49 : Array (Option Value)} {oc49 kV49 dc49 pm49 cd49 ct49 : Value} {f49 : Addr}
    (a49 : PySem.W.nsIn K mainGlobals "coalesce" = some (some (.ref f49))) (l49 : K.lookup f49 = some ⟨oc49, od49, .func (PySem.W.fnOf "coalesce" "coalesce" (defArgs st_coalesce) (defBody st_coalesce) (defScope st_coalesce) .none kV49 dc49 pm49 an49 cd49 ct49), sl49⟩) (e49 : PySem.W.codeIn K cd49 "coalesce" = true) (k49 : PySem.W.keepIn K (.ref f49) = true)
    {od50 an50 : Option Addr} {sl50 : Array (Option Value)} {oc50 kV50 dc50 pm50 cd50 ct50 : Value} {f50 : Addr}
    (a50 : PySem.W.nsIn K mainGlobals "days_added" = some (some (.ref f50))) (l50 : K.lookup f50 = some ⟨oc50, od50, .func (PySem.W.fnOf "days_added" "days_added" (defArgs st_days_added) (defBody st_days_added) (defScope st_days_added) .none kV50 dc50 pm50 an50 cd50 ct50), sl50⟩) (e50 : PySem.W.codeIn K cd50 "days_added" = true) (k50 : PySem.W.keepIn K (.ref f50) = true)
    {od51 an51 : Option Addr} {sl51 : Array (Option Value)} {oc51 kV51 dc51 pm51 cd51 ct51 : Value} {f51 : Addr}
    (a51 : PySem.W.nsIn K mainGlobals "binary" = some (some (.ref f51))) (l51 : K.lookup f51 = some ⟨oc51, od51, .func (PySem.W.fnOf "binary" "binary" (defArgs st_binary) (defBody st_binary) (defScope st_binary) .none kV51 dc51 pm51 an51 cd51 ct51), sl51⟩) (e51 : PySem.W.codeIn K cd51 "binary" = true) (k51 : PySem.W.keepIn K (.ref f51) = true)
    {od52 an52 : Option Addr} {sl52 : Array (Option Value)} {oc52 kV52 dc52 pm52 cd52 ct52 : Value} {f52 : Addr}
    (a52 : PySem.W.nsIn K mainGlobals "evaluate" = some (some (.ref f52))) (l52 : K.lookup f52 = some ⟨oc52, od52, .func (PySem.W.fnOf "evaluate" "evaluate" (defArgs st_evaluate) (defBody st_evaluate) (defScope st_evaluate) .none kV52 dc52 pm52 an52 cd52 ct52), sl52⟩) (e52 : PySem.W.codeIn K cd52 "evaluate" = true) (k52 : PySem.W.keepIn K (.ref f52) = true)
    {od53 an53 : Option Addr} {sl53 : Array (Option Value)} {oc53 kV53 dc53 pm53 cd53 ct53 : Value} {f53 : Addr}
    (a53 : PySem.W.nsIn K mainGlobals "holds" = some (some (.ref f53))) (l53 : K.lookup f53 = some ⟨oc53, od53, .func (PySem.W.fnOf "holds" "holds" (defArgs st_holds) (defBody st_holds) (defScope st_holds) .none kV53 dc53 pm53 an53 cd53 ct53), sl53⟩) (e53 : PySem.W.codeIn K cd53 "holds" = true) (k53 : PySem.W.keepIn K (.ref f53) = true)
    {od54 an54 : Option Addr} {sl54 : Array (Option Value)} {oc54 kV54 dc54 pm54 cd54 ct54 : Value} {f54 : Addr}
    (a54 : PySem.W.nsIn K mainGlobals "_law_is_integer" = some (some (.ref f54))) (l54 : K.lookup f54 = some ⟨oc54, od54, .func (PySem.W.fnOf "_law_is_integer" "_law_is_integer" (defArgs st__law_is_integer) (defBody st__law_is_integer) (defScope st__law_is_integer) .none kV54 dc54 pm54 an54 cd54 ct54), sl54⟩) (e54 : PySem.W.codeIn K cd54 "_law_is_integer" = true) (k54 : PySem.W.keepIn K (.ref f54) = true)
    {od55 an55 : Option Addr} {sl55 : Array (Option Value)} {oc55 kV55 dc55 pm55 cd55 ct55 : Value} {f55 : Addr}
    (a55 : PySem.W.nsIn K mainGlobals "law" = some (some (.ref f55))) (l55 : K.lookup f55 = some ⟨oc55, od55, .func (PySem.W.fnOf "law" "law" (defArgs st_law) (defBody st_law) (defScope st_law) .none kV55 dc55 pm55 an55 cd55 ct55), sl55⟩) (e55 : PySem.W.codeIn K cd55 "law" = true) (k55 : PySem.W.keepIn K (.ref f55) = true)
    (z_abs : PySem.W.nsIn K mainGlobals "abs" = some none)
    (z_bool : PySem.W.nsIn K mainGlobals "bool" = some none)
    (z_int : PySem.W.nsIn K mainGlobals "int" = some none)
    (z_isinstance : PySem.W.nsIn K mainGlobals "isinstance" = some none)
    (z_len : PySem.W.nsIn K mainGlobals "len" = some none)
    (z_max : PySem.W.nsIn K mainGlobals "max" = some none)
    (z_min : PySem.W.nsIn K mainGlobals "min" = some none)
    (z_range : PySem.W.nsIn K mainGlobals "range" = some none)
    (z_sorted : PySem.W.nsIn K mainGlobals "sorted" = some none)
    (z_str : PySem.W.nsIn K mainGlobals "str" = some none)
    {cuANY : Value} (cvANY : PySem.W.nsIn K mainGlobals "ANY" = some (some cuANY)) (cdANY : absP cuANY = some c_ANY)
    {cuFIRST_DAY : Value} (cvFIRST_DAY : PySem.W.nsIn K mainGlobals "FIRST_DAY" = some (some cuFIRST_DAY)) (cdFIRST_DAY : absP cuFIRST_DAY = some c_FIRST_DAY)
    {cuLAST_DAY : Value} (cvLAST_DAY : PySem.W.nsIn K mainGlobals "LAST_DAY" = some (some cuLAST_DAY)) (cdLAST_DAY : absP cuLAST_DAY = some c_LAST_DAY)
    {cuGREATEST : Value} (cvGREATEST : PySem.W.nsIn K mainGlobals "GREATEST" = some (some cuGREATEST)) (cdGREATEST : absP cuGREATEST = some c_GREATEST)
    {cuONE : Value} (cvONE : PySem.W.nsIn K mainGlobals "ONE" = some (some cuONE)) (cdONE : absP cuONE = some c_ONE)
    {taTERNARY_DEEDS : Addr} {teTERNARY_DEEDS : Array DictEntry} {tpTERNARY_DEEDS : Nat} {tsTERNARY_DEEDS : Array (Option Value)} (tvTERNARY_DEEDS : PySem.W.nsIn K mainGlobals "TERNARY_DEEDS" = some (some (.ref taTERNARY_DEEDS))) (tlTERNARY_DEEDS : K.lookup taTERNARY_DEEDS = some ⟨.type "dict", none, .dict teTERNARY_DEEDS tpTERNARY_DEEDS, tsTERNARY_DEEDS⟩) (thTERNARY_DEEDS : (teTERNARY_DEEDS.toList.all fun e => isExactStrKey e.key) = true)
    {taUNARY_DEEDS : Addr} {teUNARY_DEEDS : Array DictEntry} {tpUNARY_DEEDS : Nat} {tsUNARY_DEEDS : Array (Option Value)} (tvUNARY_DEEDS : PySem.W.nsIn K mainGlobals "UNARY_DEEDS" = some (some (.ref taUNARY_DEEDS))) (tlUNARY_DEEDS : K.lookup taUNARY_DEEDS = some ⟨.type "dict", none, .dict teUNARY_DEEDS tpUNARY_DEEDS, tsUNARY_DEEDS⟩) (thUNARY_DEEDS : (teUNARY_DEEDS.toList.all fun e => isExactStrKey e.key) = true)
    (txUNARY_DEEDS_0 : inE teUNARY_DEEDS ⟨([110, 111, 116] : List Nat).toArray⟩ = some (.ref f26))
    (txUNARY_DEEDS_1 : inE teUNARY_DEEDS ⟨([110, 101, 103, 97, 116, 101] : List Nat).toArray⟩ = some (.ref f27))
    (txUNARY_DEEDS_2 : inE teUNARY_DEEDS ⟨([97, 98, 115] : List Nat).toArray⟩ = some (.ref f28))
    (txUNARY_DEEDS_3 : inE teUNARY_DEEDS ⟨([105, 115, 32, 110, 117, 108, 108] : List Nat).toArray⟩ = some (.ref f29))
    (txUNARY_DEEDS_4 : inE teUNARY_DEEDS ⟨([108, 101, 110, 103, 116, 104] : List Nat).toArray⟩ = some (.ref f30))
    (txUNARY_DEEDS_5 : inE teUNARY_DEEDS ⟨([97, 115, 32, 100, 97, 116, 101] : List Nat).toArray⟩ = some (.ref f32))
    (txUNARY_DEEDS_6 : inE teUNARY_DEEDS ⟨([97, 115, 32, 100, 101, 99, 105, 109, 97, 108] : List Nat).toArray⟩ = some (.ref f33))
    (txUNARY_DEEDS_7 : inE teUNARY_DEEDS ⟨([116, 111, 32, 100, 101, 99, 105, 109, 97, 108] : List Nat).toArray⟩ = some (.ref f35))
    {taBINARY_DEEDS : Addr} {teBINARY_DEEDS : Array DictEntry} {tpBINARY_DEEDS : Nat} {tsBINARY_DEEDS : Array (Option Value)} (tvBINARY_DEEDS : PySem.W.nsIn K mainGlobals "BINARY_DEEDS" = some (some (.ref taBINARY_DEEDS))) (tlBINARY_DEEDS : K.lookup taBINARY_DEEDS = some ⟨.type "dict", none, .dict teBINARY_DEEDS tpBINARY_DEEDS, tsBINARY_DEEDS⟩) (thBINARY_DEEDS : (teBINARY_DEEDS.toList.all fun e => isExactStrKey e.key) = true)
    (txBINARY_DEEDS_0 : inE teBINARY_DEEDS ⟨([97, 110, 100] : List Nat).toArray⟩ = some (.ref f37))
    (txBINARY_DEEDS_1 : inE teBINARY_DEEDS ⟨([111, 114] : List Nat).toArray⟩ = some (.ref f38))
    (txBINARY_DEEDS_2 : inE teBINARY_DEEDS ⟨([101, 113, 117, 97, 108] : List Nat).toArray⟩ = some (.ref f42))
    (txBINARY_DEEDS_3 : inE teBINARY_DEEDS ⟨([108, 101, 115, 115] : List Nat).toArray⟩ = some (.ref f43))
    (txBINARY_DEEDS_4 : inE teBINARY_DEEDS ⟨([97, 116, 32, 109, 111, 115, 116] : List Nat).toArray⟩ = some (.ref f44))
    (txBINARY_DEEDS_5 : inE teBINARY_DEEDS ⟨([115, 97, 109, 101] : List Nat).toArray⟩ = some (.ref f41))
    (txBINARY_DEEDS_6 : inE teBINARY_DEEDS ⟨([97, 100, 100] : List Nat).toArray⟩ = some (.ref f46))
    (txBINARY_DEEDS_7 : inE teBINARY_DEEDS ⟨([115, 117, 98, 116, 114, 97, 99, 116] : List Nat).toArray⟩ = some (.ref f47))
    (txBINARY_DEEDS_8 : inE teBINARY_DEEDS ⟨([109, 117, 108, 116, 105, 112, 108, 121] : List Nat).toArray⟩ = some (.ref f48))
    (txBINARY_DEEDS_9 : inE teBINARY_DEEDS ⟨([99, 111, 97, 108, 101, 115, 99, 101] : List Nat).toArray⟩ = some (.ref f49))
    (txBINARY_DEEDS_10 : inE teBINARY_DEEDS ⟨([97, 100, 100, 32, 100, 97, 121, 115] : List Nat).toArray⟩ = some (.ref f50)) :
    ∃ fd : FuncData, (∀ (s : Shared) (v : Value), BindsTo s fd ⟨[v], []⟩ [("_law_script", v)]) ∧ ∀ base : Heap, K.In base → base.Ns mainGlobals mg → base.NoDigits → FnA P w K mg base callerA fa fd ["_law_script"] (spP K d_law) := by
  have K_Zone : Cls K C_Zone := ⟨cpg_Zone, chd_Zone, cpo_Zone, csa_Zone⟩
  have N_Zone : ∀ n ∈ fl_Zone, NoAttr K C_Zone n := List.forall_mem_cons.mpr ⟨cn_Zone_many, List.forall_mem_cons.mpr ⟨cn_Zone_nulls, List.forall_mem_cons.mpr ⟨cn_Zone_least, List.forall_mem_cons.mpr ⟨cn_Zone_greatest, fun _ m => (List.not_mem_nil m).elim⟩⟩⟩⟩
  have k_Zone : ClsF K mg "Zone" fl_Zone := ⟨C_Zone, ca_Zone, PySem.W.mg_of X G ca_Zone, N_Zone, K_Zone, cha_Zone, chn_Zone, cht_Zone, chm_Zone, kit_self⟩
  have D_Zone : ClsDef K mg "Zone" fl_Zone "Zone.__init__" st_Zone := ⟨C_Zone, cf_Zone, _, ca_Zone, PySem.W.mg_of X G ca_Zone, K_Zone, N_Zone, ⟨cmk_Zone, cin_Zone, cfn_Zone, ckc_Zone⟩, fun_mk (st := st_Zone) cl_Zone cce_Zone ckp_Zone⟩
  have D__law_state : DefAt K mg "_law_state" st__law_state := ⟨f0, _, PySem.W.mg_of X G a0, fun_mk (st := st__law_state) l0 e0 k0⟩
  have D__law_cell : DefAt K mg "_law_cell" st__law_cell := ⟨f1, _, PySem.W.mg_of X G a1, fun_mk (st := st__law_cell) l1 e1 k1⟩
  have D__law_digit : DefAt K mg "_law_digit" st__law_digit := ⟨f2, _, PySem.W.mg_of X G a2, fun_mk (st := st__law_digit) l2 e2 k2⟩
  have D_rank : DefAt K mg "rank" st_rank := ⟨f3, _, PySem.W.mg_of X G a3, fun_mk (st := st_rank) l3 e3 k3⟩
  have D_zone_of : DefAt K mg "zone_of" st_zone_of := ⟨f4, _, PySem.W.mg_of X G a4, fun_mk (st := st_zone_of) l4 e4 k4⟩
  have D__law_text : DefAt K mg "_law_text" st__law_text := ⟨f5, _, PySem.W.mg_of X G a5, fun_mk (st := st__law_text) l5 e5 k5⟩
  have D__law_value : DefAt K mg "_law_value" st__law_value := ⟨f6, _, PySem.W.mg_of X G a6, fun_mk (st := st__law_value) l6 e6 k6⟩
  have D__law_leaf : DefAt K mg "_law_leaf" st__law_leaf := ⟨f7, _, PySem.W.mg_of X G a7, fun_mk (st := st__law_leaf) l7 e7 k7⟩
  have D__law_expression : DefAt K mg "_law_expression" st__law_expression := ⟨f8, _, PySem.W.mg_of X G a8, fun_mk (st := st__law_expression) l8 e8 k8⟩
  have D_truth_span : DefAt K mg "truth_span" st_truth_span := ⟨f9, _, PySem.W.mg_of X G a9, fun_mk (st := st_truth_span) l9 e9 k9⟩
  have D_is_integer : DefAt K mg "is_integer" st_is_integer := ⟨f10, _, PySem.W.mg_of X G a10, fun_mk (st := st_is_integer) l10 e10 k10⟩
  have D_is_range : DefAt K mg "is_range" st_is_range := ⟨f11, _, PySem.W.mg_of X G a11, fun_mk (st := st_is_range) l11 e11 k11⟩
  have D_before : DefAt K mg "before" st_before := ⟨f12, _, PySem.W.mg_of X G a12, fun_mk (st := st_before) l12 e12 k12⟩
  have D_can_be : DefAt K mg "can_be" st_can_be := ⟨f13, _, PySem.W.mg_of X G a13, fun_mk (st := st_can_be) l13 e13 k13⟩
  have D_may_be_none : DefAt K mg "may_be_none" st_may_be_none := ⟨f14, _, PySem.W.mg_of X G a14, fun_mk (st := st_may_be_none) l14 e14 k14⟩
  have D_has_values : DefAt K mg "has_values" st_has_values := ⟨f15, _, PySem.W.mg_of X G a15, fun_mk (st := st_has_values) l15 e15 k15⟩
  have D_unary_span : DefAt K mg "unary_span" st_unary_span := ⟨f16, _, PySem.W.mg_of X G a16, fun_mk (st := st_unary_span) l16 e16 k16⟩
  have D_compared_span : DefAt K mg "compared_span" st_compared_span := ⟨f17, _, PySem.W.mg_of X G a17, fun_mk (st := st_compared_span) l17 e17 k17⟩
  have D_joined_span : DefAt K mg "joined_span" st_joined_span := ⟨f18, _, PySem.W.mg_of X G a18, fun_mk (st := st_joined_span) l18 e18 k18⟩
  have D_binary_span : DefAt K mg "binary_span" st_binary_span := ⟨f19, _, PySem.W.mg_of X G a19, fun_mk (st := st_binary_span) l19 e19 k19⟩
  have D_span_of : DefAt K mg "span_of" st_span_of := ⟨f20, _, PySem.W.mg_of X G a20, fun_mk (st := st_span_of) l20 e20 k20⟩
  have D_may_hold : DefAt K mg "may_hold" st_may_hold := ⟨f21, _, PySem.W.mg_of X G a21, fun_mk (st := st_may_hold) l21 e21 k21⟩
  have D__law_condition : DefAt K mg "_law_condition" st__law_condition := ⟨f22, _, PySem.W.mg_of X G a22, fun_mk (st := st__law_condition) l22 e22 k22⟩
  have D__law_rank : DefAt K mg "_law_rank" st__law_rank := ⟨f23, _, PySem.W.mg_of X G a23, fun_mk (st := st__law_rank) l23 e23 k23⟩
  have D__law_inside : DefAt K mg "_law_inside" st__law_inside := ⟨f24, _, PySem.W.mg_of X G a24, fun_mk (st := st__law_inside) l24 e24 k24⟩
  have D_ternary : DefAt K mg "ternary" st_ternary := ⟨f25, _, PySem.W.mg_of X G a25, fun_mk (st := st_ternary) l25 e25 k25⟩
  have D_negated : DefAt K mg "negated" st_negated := ⟨f26, _, PySem.W.mg_of X G a26, fun_mk (st := st_negated) l26 e26 k26⟩
  have D_negate : DefAt K mg "negate" st_negate := ⟨f27, _, PySem.W.mg_of X G a27, fun_mk (st := st_negate) l27 e27 k27⟩
  have D_without_sign : DefAt K mg "without_sign" st_without_sign := ⟨f28, _, PySem.W.mg_of X G a28, fun_mk (st := st_without_sign) l28 e28 k28⟩
  have D_is_null : DefAt K mg "is_null" st_is_null := ⟨f29, _, PySem.W.mg_of X G a29, fun_mk (st := st_is_null) l29 e29 k29⟩
  have D_length : DefAt K mg "length" st_length := ⟨f30, _, PySem.W.mg_of X G a30, fun_mk (st := st_length) l30 e30 k30⟩
  have D_is_day : DefAt K mg "is_day" st_is_day := ⟨f31, _, PySem.W.mg_of X G a31, fun_mk (st := st_is_day) l31 e31 k31⟩
  have D_as_date : DefAt K mg "as_date" st_as_date := ⟨f32, _, PySem.W.mg_of X G a32, fun_mk (st := st_as_date) l32 e32 k32⟩
  have D_as_decimal : DefAt K mg "as_decimal" st_as_decimal := ⟨f33, _, PySem.W.mg_of X G a33, fun_mk (st := st_as_decimal) l33 e33 k33⟩
  have D_limited : DefAt K mg "limited" st_limited := ⟨f34, _, PySem.W.mg_of X G a34, fun_mk (st := st_limited) l34 e34 k34⟩
  have D_to_decimal : DefAt K mg "to_decimal" st_to_decimal := ⟨f35, _, PySem.W.mg_of X G a35, fun_mk (st := st_to_decimal) l35 e35 k35⟩
  have D_unary : DefAt K mg "unary" st_unary := ⟨f36, _, PySem.W.mg_of X G a36, fun_mk (st := st_unary) l36 e36 k36⟩
  have D_both : DefAt K mg "both" st_both := ⟨f37, _, PySem.W.mg_of X G a37, fun_mk (st := st_both) l37 e37 k37⟩
  have D_either : DefAt K mg "either" st_either := ⟨f38, _, PySem.W.mg_of X G a38, fun_mk (st := st_either) l38 e38 k38⟩
  have D_kind_rank : DefAt K mg "kind_rank" st_kind_rank := ⟨f39, _, PySem.W.mg_of X G a39, fun_mk (st := st_kind_rank) l39 e39 k39⟩
  have D_comparable : DefAt K mg "comparable" st_comparable := ⟨f40, _, PySem.W.mg_of X G a40, fun_mk (st := st_comparable) l40 e40 k40⟩
  have D_same : DefAt K mg "same" st_same := ⟨f41, _, PySem.W.mg_of X G a41, fun_mk (st := st_same) l41 e41 k41⟩
  have D_equal : DefAt K mg "equal" st_equal := ⟨f42, _, PySem.W.mg_of X G a42, fun_mk (st := st_equal) l42 e42 k42⟩
  have D_less : DefAt K mg "less" st_less := ⟨f43, _, PySem.W.mg_of X G a43, fun_mk (st := st_less) l43 e43 k43⟩
  have D_at_most : DefAt K mg "at_most" st_at_most := ⟨f44, _, PySem.W.mg_of X G a44, fun_mk (st := st_at_most) l44 e44 k44⟩
  have D_are_integers : DefAt K mg "are_integers" st_are_integers := ⟨f45, _, PySem.W.mg_of X G a45, fun_mk (st := st_are_integers) l45 e45 k45⟩
  have D_added : DefAt K mg "added" st_added := ⟨f46, _, PySem.W.mg_of X G a46, fun_mk (st := st_added) l46 e46 k46⟩
  have D_subtracted : DefAt K mg "subtracted" st_subtracted := ⟨f47, _, PySem.W.mg_of X G a47, fun_mk (st := st_subtracted) l47 e47 k47⟩
  have D_multiplied : DefAt K mg "multiplied" st_multiplied := ⟨f48, _, PySem.W.mg_of X G a48, fun_mk (st := st_multiplied) l48 e48 k48⟩
  have D_coalesce : DefAt K mg "coalesce" st_coalesce := ⟨f49, _, PySem.W.mg_of X G a49, fun_mk (st := st_coalesce) l49 e49 k49⟩
  have D_days_added : DefAt K mg "days_added" st_days_added := ⟨f50, _, PySem.W.mg_of X G a50, fun_mk (st := st_days_added) l50 e50 k50⟩
  have D_binary : DefAt K mg "binary" st_binary := ⟨f51, _, PySem.W.mg_of X G a51, fun_mk (st := st_binary) l51 e51 k51⟩
  have D_evaluate : DefAt K mg "evaluate" st_evaluate := ⟨f52, _, PySem.W.mg_of X G a52, fun_mk (st := st_evaluate) l52 e52 k52⟩
  have D_holds : DefAt K mg "holds" st_holds := ⟨f53, _, PySem.W.mg_of X G a53, fun_mk (st := st_holds) l53 e53 k53⟩
  have D__law_is_integer : DefAt K mg "_law_is_integer" st__law_is_integer := ⟨f54, _, PySem.W.mg_of X G a54, fun_mk (st := st__law_is_integer) l54 e54 k54⟩
  have D_law : DefAt K mg "law" st_law := ⟨f55, _, PySem.W.mg_of X G a55, fun_mk (st := st_law) l55 e55 k55⟩
  have m_abs : mg "abs" = none := PySem.W.mg_none_of X G z_abs
  have m_bool : mg "bool" = none := PySem.W.mg_none_of X G z_bool
  have m_int : mg "int" = none := PySem.W.mg_none_of X G z_int
  have m_isinstance : mg "isinstance" = none := PySem.W.mg_none_of X G z_isinstance
  have m_len : mg "len" = none := PySem.W.mg_none_of X G z_len
  have m_max : mg "max" = none := PySem.W.mg_none_of X G z_max
  have m_min : mg "min" = none := PySem.W.mg_none_of X G z_min
  have m_range : mg "range" = none := PySem.W.mg_none_of X G z_range
  have m_sorted : mg "sorted" = none := PySem.W.mg_none_of X G z_sorted
  have m_str : mg "str" = none := PySem.W.mg_none_of X G z_str
  have hc_ANY := (constP X G cvANY cdANY : ConstD K mg "ANY" c_ANY)
  have hc_FIRST_DAY := (constP X G cvFIRST_DAY cdFIRST_DAY : ConstD K mg "FIRST_DAY" c_FIRST_DAY)
  have hc_LAST_DAY := (constP X G cvLAST_DAY cdLAST_DAY : ConstD K mg "LAST_DAY" c_LAST_DAY)
  have hc_GREATEST := (constP X G cvGREATEST cdGREATEST : ConstD K mg "GREATEST" c_GREATEST)
  have hc_ONE := (constP X G cvONE cdONE : ConstD K mg "ONE" c_ONE)
  refine ⟨PySem.W.fnOf "law" "law" (defArgs st_law) (defBody st_law) (defScope st_law) .none kV55 dc55 pm55 an55 cd55 ct55, fun s v => .of_eq rfl, fun base _ _ hnd => ?_⟩
  have c_Zone := ok_Zone (P := P) (w := w) (base := base) D_Zone 
  have c__law_state := ok__law_state (P := P) (w := w) (base := base) D__law_state m_int
  have c__law_cell := ok__law_cell (P := P) (w := w) (base := base) D__law_cell m_len
  have c__law_digit := ok__law_digit (P := P) (w := w) (base := base) D__law_digit m_int
  have c_rank := ok_rank (P := P) (w := w) (base := base) D_rank m_bool m_int m_isinstance
  have c_zone_of := ok_zone_of (P := P) (w := w) (base := base) D_zone_of m_len m_sorted c_Zone c_rank
  have c__law_text := ok__law_text (P := P) (w := w) (base := base) D__law_text m_range c__law_digit
  have c__law_value := ok__law_value (P := P) (w := w) (base := base) D__law_value c__law_digit c__law_text
  have c__law_leaf := ok__law_leaf (P := P) (w := w) (base := base) D__law_leaf c__law_digit c__law_value
  have c__law_expression := ok__law_expression (P := P) (w := w) (base := base) D__law_expression c__law_digit c__law_leaf 40
  have c_truth_span := ok_truth_span (P := P) (w := w) (base := base) D_truth_span
  have c_is_integer := ok_is_integer (P := P) (w := w) (base := base) D_is_integer m_bool m_int m_isinstance
  have c_is_range := ok_is_range (P := P) (w := w) (base := base) D_is_range hc_ANY c_is_integer
  have c_before := ok_before (P := P) (w := w) (base := base) D_before c_rank
  have c_can_be := ok_can_be (P := P) (w := w) (base := base) D_can_be hc_ANY c_before
  have c_may_be_none := ok_may_be_none (P := P) (w := w) (base := base) D_may_be_none hc_ANY
  have c_has_values := ok_has_values (P := P) (w := w) (base := base) D_has_values hc_ANY
  have c_unary_span := ok_unary_span (P := P) (w := w) (base := base) D_unary_span m_max hc_ANY c_truth_span c_is_range c_can_be c_may_be_none c_has_values
  have c_compared_span := ok_compared_span (P := P) (w := w) (base := base) D_compared_span hc_ANY c_truth_span c_before
  have c_joined_span := ok_joined_span (P := P) (w := w) (base := base) D_joined_span hc_ANY c_before
  have c_binary_span := ok_binary_span (P := P) (w := w) (base := base) D_binary_span hc_ANY c_truth_span c_compared_span c_joined_span c_is_range c_can_be
  have c_span_of := ok_span_of (P := P) (w := w) (base := base) D_span_of m_len hc_ANY k_Zone c_unary_span c_binary_span c_joined_span 40
  have c_may_hold := ok_may_hold (P := P) (w := w) (base := base) D_may_hold c_can_be c_span_of
  have c__law_condition := ok__law_condition (P := P) (w := w) (base := base) D__law_condition c__law_digit c__law_value 40
  have c__law_rank := ok__law_rank (P := P) (w := w) (base := base) D__law_rank m_bool m_int m_isinstance
  have c__law_inside := ok__law_inside (P := P) (w := w) (base := base) D__law_inside c__law_rank
  have t_TERNARY_DEEDS : TabOk P w K mg base 0 "TERNARY_DEEDS" tab_TERNARY_DEEDS := ⟨taTERNARY_DEEDS, teTERNARY_DEEDS, tpTERNARY_DEEDS, tsTERNARY_DEEDS, PySem.W.mg_of X G tvTERNARY_DEEDS, tlTERNARY_DEEDS, tab_all thTERNARY_DEEDS, tab_nil⟩
  have c_ternary := ok_ternary (P := P) (w := w) (base := base) D_ternary t_TERNARY_DEEDS
  have c_negated := ok_negated (P := P) (w := w) (base := base) D_negated
  have c_negate := ok_negate (P := P) (w := w) (base := base) D_negate c_is_integer
  have c_without_sign := ok_without_sign (P := P) (w := w) (base := base) D_without_sign m_abs c_is_integer
  have c_is_null := ok_is_null (P := P) (w := w) (base := base) D_is_null
  have c_length := ok_length (P := P) (w := w) (base := base) D_length m_isinstance m_len m_str
  have c_is_day := ok_is_day (P := P) (w := w) (base := base) D_is_day hc_FIRST_DAY hc_LAST_DAY c_is_integer
  have c_as_date := ok_as_date (P := P) (w := w) (base := base) D_as_date c_is_day
  have c_as_decimal := ok_as_decimal (P := P) (w := w) (base := base) D_as_decimal c_is_integer
  have c_limited := ok_limited (P := P) (w := w) (base := base) D_limited hc_GREATEST
  have c_to_decimal := ok_to_decimal (P := P) (w := w) (base := base) D_to_decimal hc_ONE c_is_integer c_limited
  have t_UNARY_DEEDS : TabOk P w K mg base 3 "UNARY_DEEDS" tab_UNARY_DEEDS := ⟨taUNARY_DEEDS, teUNARY_DEEDS, tpUNARY_DEEDS, tsUNARY_DEEDS, PySem.W.mg_of X G tvUNARY_DEEDS, tlUNARY_DEEDS, tab_all thUNARY_DEEDS, tab_cons c_negated (by decide) (PySem.W.mg_of X G a26) txUNARY_DEEDS_0 (tab_cons c_negate (by decide) (PySem.W.mg_of X G a27) txUNARY_DEEDS_1 (tab_cons c_without_sign (by decide) (PySem.W.mg_of X G a28) txUNARY_DEEDS_2 (tab_cons c_is_null (by decide) (PySem.W.mg_of X G a29) txUNARY_DEEDS_3 (tab_cons c_length (by decide) (PySem.W.mg_of X G a30) txUNARY_DEEDS_4 (tab_cons c_as_date (by decide) (PySem.W.mg_of X G a32) txUNARY_DEEDS_5 (tab_cons c_as_decimal (by decide) (PySem.W.mg_of X G a33) txUNARY_DEEDS_6 (tab_cons c_to_decimal (by decide) (PySem.W.mg_of X G a35) txUNARY_DEEDS_7 (tab_nil))))))))⟩
  have c_unary := ok_unary (P := P) (w := w) (base := base) D_unary t_UNARY_DEEDS
  have c_both := ok_both (P := P) (w := w) (base := base) D_both
  have c_either := ok_either (P := P) (w := w) (base := base) D_either
  have c_kind_rank := ok_kind_rank (P := P) (w := w) (base := base) D_kind_rank m_bool m_int m_isinstance
  have c_comparable := ok_comparable (P := P) (w := w) (base := base) D_comparable c_kind_rank
  have c_same := ok_same (P := P) (w := w) (base := base) D_same c_rank
  have c_equal := ok_equal (P := P) (w := w) (base := base) D_equal c_comparable c_same
  have c_less := ok_less (P := P) (w := w) (base := base) D_less c_comparable c_before
  have c_at_most := ok_at_most (P := P) (w := w) (base := base) D_at_most c_comparable c_before
  have c_are_integers := ok_are_integers (P := P) (w := w) (base := base) D_are_integers c_is_integer
  have c_added := ok_added (P := P) (w := w) (base := base) D_added c_are_integers c_limited
  have c_subtracted := ok_subtracted (P := P) (w := w) (base := base) D_subtracted c_are_integers c_limited
  have c_multiplied := ok_multiplied (P := P) (w := w) (base := base) D_multiplied c_are_integers c_limited
  have c_coalesce := ok_coalesce (P := P) (w := w) (base := base) D_coalesce
  have c_days_added := ok_days_added (P := P) (w := w) (base := base) D_days_added hc_FIRST_DAY hc_LAST_DAY c_is_day c_is_integer
  have t_BINARY_DEEDS : TabOk P w K mg base 3 "BINARY_DEEDS" tab_BINARY_DEEDS := ⟨taBINARY_DEEDS, teBINARY_DEEDS, tpBINARY_DEEDS, tsBINARY_DEEDS, PySem.W.mg_of X G tvBINARY_DEEDS, tlBINARY_DEEDS, tab_all thBINARY_DEEDS, tab_cons c_both (by decide) (PySem.W.mg_of X G a37) txBINARY_DEEDS_0 (tab_cons c_either (by decide) (PySem.W.mg_of X G a38) txBINARY_DEEDS_1 (tab_cons c_equal (by decide) (PySem.W.mg_of X G a42) txBINARY_DEEDS_2 (tab_cons c_less (by decide) (PySem.W.mg_of X G a43) txBINARY_DEEDS_3 (tab_cons c_at_most (by decide) (PySem.W.mg_of X G a44) txBINARY_DEEDS_4 (tab_cons c_same (by decide) (PySem.W.mg_of X G a41) txBINARY_DEEDS_5 (tab_cons c_added (by decide) (PySem.W.mg_of X G a46) txBINARY_DEEDS_6 (tab_cons c_subtracted (by decide) (PySem.W.mg_of X G a47) txBINARY_DEEDS_7 (tab_cons c_multiplied (by decide) (PySem.W.mg_of X G a48) txBINARY_DEEDS_8 (tab_cons c_coalesce (by decide) (PySem.W.mg_of X G a49) txBINARY_DEEDS_9 (tab_cons c_days_added (by decide) (PySem.W.mg_of X G a50) txBINARY_DEEDS_10 (tab_nil)))))))))))⟩
  have c_binary := ok_binary (P := P) (w := w) (base := base) D_binary t_BINARY_DEEDS
  have c_evaluate := ok_evaluate (P := P) (w := w) (base := base) D_evaluate m_len c_ternary c_unary c_binary 40
  have c_holds := ok_holds (P := P) (w := w) (base := base) D_holds c_evaluate
  have c__law_is_integer := ok__law_is_integer (P := P) (w := w) (base := base) D__law_is_integer m_bool m_int m_isinstance
  cases hfa.symm.trans (PySem.W.mg_of X G a55)
  exact ok_law (P := P) (w := w) (base := base) (fun_mk (st := st_law) l55 e55 k55) m_len m_max m_min m_range c__law_state c__law_cell c__law_digit c_zone_of c__law_expression c_span_of c_may_hold c__law_value c__law_condition c__law_inside c_holds c__law_is_integer c_evaluate
end Qk50
open PySem PySem.W PyProof.Rows
set_option maxHeartbeats 0 in
theorem PySem.Challenge.cw_stylobate_k50_whole_skipped_groups_hold_holds : PySem.Challenge.rw_stylobate_k50_whole_skipped_groups_hold.Holds := by
  w_on
  refine headZ ?_
  k_fill
  refine Z.walk_ofA (l := PySem.Challenge.rw_stylobate_k50_whole_skipped_groups_hold) (n := 63) (x := "_law_script") (f := Qk50.d_law) rfl (by decide) rfl (fun w h Y => PySem.W.kIn_of Y) ?F (fun ns hl => Qk50.law_true ns hl)
  case F =>
    intro w mg fa h KX G hmg
    refine' Qk50.all_mk KX G hmg ?ca_Zone ?cpg_Zone ?chd_Zone ?cpo_Zone ?csa_Zone ?cha_Zone ?chn_Zone ?cht_Zone ?chm_Zone ?cn_Zone_many ?cn_Zone_nulls ?cn_Zone_least ?cn_Zone_greatest ?cmk_Zone ?cin_Zone ?cfn_Zone ?ckc_Zone ?cl_Zone ?cce_Zone ?ckp_Zone ?a0 ?l0 ?e0 ?k0 ?a1 ?l1 ?e1 ?k1 ?a2 ?l2 ?e2 ?k2 ?a3 ?l3 ?e3 ?k3 ?a4 ?l4 ?e4 ?k4 ?a5 ?l5 ?e5 ?k5 ?a6 ?l6 ?e6 ?k6 ?a7 ?l7 ?e7 ?k7 ?a8 ?l8 ?e8 ?k8 ?a9 ?l9 ?e9 ?k9 ?a10 ?l10 ?e10 ?k10 ?a11 ?l11 ?e11 ?k11 ?a12 ?l12 ?e12 ?k12 ?a13 ?l13 ?e13 ?k13 ?a14 ?l14 ?e14 ?k14 ?a15 ?l15 ?e15 ?k15 ?a16 ?l16 ?e16 ?k16 ?a17 ?l17 ?e17 ?k17 ?a18 ?l18 ?e18 ?k18 ?a19 ?l19 ?e19 ?k19 ?a20 ?l20 ?e20 ?k20 ?a21 ?l21 ?e21 ?k21 ?a22 ?l22 ?e22 ?k22 ?a23 ?l23 ?e23 ?k23 ?a24 ?l24 ?e24 ?k24 ?a25 ?l25 ?e25 ?k25 ?a26 ?l26 ?e26 ?k26 ?a27 ?l27 ?e27 ?k27 ?a28 ?l28 ?e28 ?k28 ?a29 ?l29 ?e29 ?k29 ?a30 ?l30 ?e30 ?k30 ?a31 ?l31 ?e31 ?k31 ?a32 ?l32 ?e32 ?k32 ?a33 ?l33 ?e33 ?k33 ?a34 ?l34 ?e34 ?k34 ?a35 ?l35 ?e35 ?k35 ?a36 ?l36 ?e36 ?k36 ?a37 ?l37 ?e37 ?k37 ?a38 ?l38 ?e38 ?k38 ?a39 ?l39 ?e39 ?k39 ?a40 ?l40 ?e40 ?k40 ?a41 ?l41 ?e41 ?k41 ?a42 ?l42 ?e42 ?k42 ?a43 ?l43 ?e43 ?k43 ?a44 ?l44 ?e44 ?k44 ?a45 ?l45 ?e45 ?k45 ?a46 ?l46 ?e46 ?k46 ?a47 ?l47 ?e47 ?k47 ?a48 ?l48 ?e48 ?k48 ?a49 ?l49 ?e49 ?k49 ?a50 ?l50 ?e50 ?k50 ?a51 ?l51 ?e51 ?k51 ?a52 ?l52 ?e52 ?k52 ?a53 ?l53 ?e53 ?k53 ?a54 ?l54 ?e54 ?k54 ?a55 ?l55 ?e55 ?k55 ?z_abs ?z_bool ?z_int ?z_isinstance ?z_len ?z_max ?z_min ?z_range ?z_sorted ?z_str ?cvANY ?cdANY ?cvFIRST_DAY ?cdFIRST_DAY ?cvLAST_DAY ?cdLAST_DAY ?cvGREATEST ?cdGREATEST ?cvONE ?cdONE ?tvTERNARY_DEEDS ?tlTERNARY_DEEDS ?thTERNARY_DEEDS ?tvUNARY_DEEDS ?tlUNARY_DEEDS ?thUNARY_DEEDS ?txUNARY_DEEDS_0 ?txUNARY_DEEDS_1 ?txUNARY_DEEDS_2 ?txUNARY_DEEDS_3 ?txUNARY_DEEDS_4 ?txUNARY_DEEDS_5 ?txUNARY_DEEDS_6 ?txUNARY_DEEDS_7 ?tvBINARY_DEEDS ?tlBINARY_DEEDS ?thBINARY_DEEDS ?txBINARY_DEEDS_0 ?txBINARY_DEEDS_1 ?txBINARY_DEEDS_2 ?txBINARY_DEEDS_3 ?txBINARY_DEEDS_4 ?txBINARY_DEEDS_5 ?txBINARY_DEEDS_6 ?txBINARY_DEEDS_7 ?txBINARY_DEEDS_8 ?txBINARY_DEEDS_9 ?txBINARY_DEEDS_10
    (case ca_Zone => k_is); (case cpg_Zone => k_is); (case chd_Zone => k_is); (case cpo_Zone => k_is); (case csa_Zone => k_is); (case cha_Zone => k_is); (case chn_Zone => k_is); (case cht_Zone => k_is); (case chm_Zone => k_is); (case cn_Zone_many => k_is); (case cn_Zone_nulls => k_is); (case cn_Zone_least => k_is); (case cn_Zone_greatest => k_is); (case cmk_Zone => k_is); (case cin_Zone => k_is); (case cfn_Zone => k_is); (case ckc_Zone => k_is); (case cl_Zone => k_is); (case cce_Zone => k_is); (case ckp_Zone => k_is); (case a0 => k_is); (case l0 => k_is); (case e0 => k_is); (case k0 => k_is); (case a1 => k_is); (case l1 => k_is); (case e1 => k_is); (case k1 => k_is); (case a2 => k_is); (case l2 => k_is); (case e2 => k_is); (case k2 => k_is); (case a3 => k_is); (case l3 => k_is); (case e3 => k_is); (case k3 => k_is); (case a4 => k_is); (case l4 => k_is); (case e4 => k_is); (case k4 => k_is); (case a5 => k_is); (case l5 => k_is); (case e5 => k_is); (case k5 => k_is); (case a6 => k_is); (case l6 => k_is); (case e6 => k_is); (case k6 => k_is); (case a7 => k_is); (case l7 => k_is); (case e7 => k_is); (case k7 => k_is); (case a8 => k_is); (case l8 => k_is); (case e8 => k_is); (case k8 => k_is); (case a9 => k_is); (case l9 => k_is); (case e9 => k_is); (case k9 => k_is); (case a10 => k_is); (case l10 => k_is); (case e10 => k_is); (case k10 => k_is); (case a11 => k_is); (case l11 => k_is); (case e11 => k_is); (case k11 => k_is); (case a12 => k_is); (case l12 => k_is); (case e12 => k_is); (case k12 => k_is); (case a13 => k_is); (case l13 => k_is); (case e13 => k_is); (case k13 => k_is); (case a14 => k_is); (case l14 => k_is); (case e14 => k_is); (case k14 => k_is); (case a15 => k_is); (case l15 => k_is); (case e15 => k_is); (case k15 => k_is); (case a16 => k_is); (case l16 => k_is); (case e16 => k_is); (case k16 => k_is); (case a17 => k_is); (case l17 => k_is); (case e17 => k_is); (case k17 => k_is); (case a18 => k_is); (case l18 => k_is); (case e18 => k_is); (case k18 => k_is); (case a19 => k_is); (case l19 => k_is); (case e19 => k_is); (case k19 => k_is); (case a20 => k_is); (case l20 => k_is); (case e20 => k_is); (case k20 => k_is); (case a21 => k_is); (case l21 => k_is); (case e21 => k_is); (case k21 => k_is); (case a22 => k_is); (case l22 => k_is); (case e22 => k_is); (case k22 => k_is); (case a23 => k_is); (case l23 => k_is); (case e23 => k_is); (case k23 => k_is); (case a24 => k_is); (case l24 => k_is); (case e24 => k_is); (case k24 => k_is); (case a25 => k_is); (case l25 => k_is); (case e25 => k_is); (case k25 => k_is); (case a26 => k_is); (case l26 => k_is); (case e26 => k_is); (case k26 => k_is); (case a27 => k_is); (case l27 => k_is); (case e27 => k_is); (case k27 => k_is); (case a28 => k_is); (case l28 => k_is); (case e28 => k_is); (case k28 => k_is); (case a29 => k_is); (case l29 => k_is); (case e29 => k_is); (case k29 => k_is); (case a30 => k_is); (case l30 => k_is); (case e30 => k_is); (case k30 => k_is); (case a31 => k_is); (case l31 => k_is); (case e31 => k_is); (case k31 => k_is); (case a32 => k_is); (case l32 => k_is); (case e32 => k_is); (case k32 => k_is); (case a33 => k_is); (case l33 => k_is); (case e33 => k_is); (case k33 => k_is); (case a34 => k_is); (case l34 => k_is); (case e34 => k_is); (case k34 => k_is); (case a35 => k_is); (case l35 => k_is); (case e35 => k_is); (case k35 => k_is); (case a36 => k_is); (case l36 => k_is); (case e36 => k_is); (case k36 => k_is); (case a37 => k_is); (case l37 => k_is); (case e37 => k_is); (case k37 => k_is); (case a38 => k_is); (case l38 => k_is); (case e38 => k_is); (case k38 => k_is); (case a39 => k_is); (case l39 => k_is); (case e39 => k_is); (case k39 => k_is); (case a40 => k_is); (case l40 => k_is); (case e40 => k_is); (case k40 => k_is); (case a41 => k_is); (case l41 => k_is); (case e41 => k_is); (case k41 => k_is); (case a42 => k_is); (case l42 => k_is); (case e42 => k_is); (case k42 => k_is); (case a43 => k_is); (case l43 => k_is); (case e43 => k_is); (case k43 => k_is); (case a44 => k_is); (case l44 => k_is); (case e44 => k_is); (case k44 => k_is); (case a45 => k_is); (case l45 => k_is); (case e45 => k_is); (case k45 => k_is); (case a46 => k_is); (case l46 => k_is); (case e46 => k_is); (case k46 => k_is); (case a47 => k_is); (case l47 => k_is); (case e47 => k_is); (case k47 => k_is); (case a48 => k_is); (case l48 => k_is); (case e48 => k_is); (case k48 => k_is); (case a49 => k_is); (case l49 => k_is); (case e49 => k_is); (case k49 => k_is); (case a50 => k_is); (case l50 => k_is); (case e50 => k_is); (case k50 => k_is); (case a51 => k_is); (case l51 => k_is); (case e51 => k_is); (case k51 => k_is); (case a52 => k_is); (case l52 => k_is); (case e52 => k_is); (case k52 => k_is); (case a53 => k_is); (case l53 => k_is); (case e53 => k_is); (case k53 => k_is); (case a54 => k_is); (case l54 => k_is); (case e54 => k_is); (case k54 => k_is); (case a55 => k_is); (case l55 => k_is); (case e55 => k_is); (case k55 => k_is); (case z_abs => k_is); (case z_bool => k_is); (case z_int => k_is); (case z_isinstance => k_is); (case z_len => k_is); (case z_max => k_is); (case z_min => k_is); (case z_range => k_is); (case z_sorted => k_is); (case z_str => k_is); (case cvANY => k_is); (case cdANY => exact rfl); (case cvFIRST_DAY => k_is); (case cdFIRST_DAY => exact rfl); (case cvLAST_DAY => k_is); (case cdLAST_DAY => exact rfl); (case cvGREATEST => k_is); (case cdGREATEST => exact rfl); (case cvONE => k_is); (case cdONE => exact rfl); (case tvTERNARY_DEEDS => k_is); (case tlTERNARY_DEEDS => k_is); (case thTERNARY_DEEDS => exact rfl); (case tvUNARY_DEEDS => k_is); (case tlUNARY_DEEDS => k_is); (case thUNARY_DEEDS => exact rfl); (case txUNARY_DEEDS_0 => exact rfl); (case txUNARY_DEEDS_1 => exact rfl); (case txUNARY_DEEDS_2 => exact rfl); (case txUNARY_DEEDS_3 => exact rfl); (case txUNARY_DEEDS_4 => exact rfl); (case txUNARY_DEEDS_5 => exact rfl); (case txUNARY_DEEDS_6 => exact rfl); (case txUNARY_DEEDS_7 => exact rfl); (case tvBINARY_DEEDS => k_is); (case tlBINARY_DEEDS => k_is); (case thBINARY_DEEDS => exact rfl); (case txBINARY_DEEDS_0 => exact rfl); (case txBINARY_DEEDS_1 => exact rfl); (case txBINARY_DEEDS_2 => exact rfl); (case txBINARY_DEEDS_3 => exact rfl); (case txBINARY_DEEDS_4 => exact rfl); (case txBINARY_DEEDS_5 => exact rfl); (case txBINARY_DEEDS_6 => exact rfl); (case txBINARY_DEEDS_7 => exact rfl); (case txBINARY_DEEDS_8 => exact rfl); (case txBINARY_DEEDS_9 => exact rfl); (case txBINARY_DEEDS_10 => exact rfl)
#print axioms PySem.Challenge.cw_stylobate_k50_whole_skipped_groups_hold_holds
