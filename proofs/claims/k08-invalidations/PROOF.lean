import PyProof.Rows.All
import Wide.All
import OpenK.AllK
import Wide.FinOn
import HandS.ForMost
import HandS.ForExc
import HandS.Deep
import HandS.TryOnly
import HandS.IsInst
import HandS.Flow
import HandS.Sort
import HandS.SortKw
import HandS.SuiteRaise
import HandS.More
import HandS.Dict
import HandS.HeadEnd
import HandS.HeadHook4
import HandS.ExcOwn
import HandS.ExcIs
import HandS.SetFor
import HandS.Head2
import PySem.Challenge.RW_frametally_k08_whole_invalidations
set_option Elab.async false
set_option linter.all false
set_option maxRecDepth 100000
/-! Y: a layer over HandS: deep values D, a heap G of numbered objects, every def a total function over them. -/
namespace Y
open PySem PySem.Spec PyProof.Rows L2

/-- a value of the program as data: texts by their number in a table, mutable objects by their number -/
inductive D where
  | non | bl (b : Bool) | int (i : Int) | str (n : Nat)
  | tup (ds : List D) | lst (ds : List D) | scr (ds : List D) | ref (l : Nat) | rng (lo hi : Int) | dic (ks vs : List D)

/-- an object that may change -/
inductive Ob where
  | dead | lst (ds : List D) | ins (c : Nat) (fs : List (Nat × D)) | dct (t : Bool) (kvs : List (D × D))
abbrev G := List Ob

inductive Res (α : Type) where
  | ok (a : α) (g : G) | exn (c : Nat) (g : G) | stuck
abbrev En := List (Option D)
abbrev EM := En → G → Res D
abbrev TM := En → G → Res Bool
abbrev AM := En → G → Res (List D)
abbrev MF := List D → G → Res D
inductive SR where
  | nx (e : En) (g : G) | rt (d : D) (g : G) | bk (e : En) (g : G) | ct (e : En) (g : G) | exn (c : Nat) (e : En) (g : G) | stuck
abbrev SM := En → G → SR

@[simp] def Res.bind {α β : Type} (r : Res α) (k : α → G → Res β) : Res β := match r with
  | .ok a g => k a g
  | .exn c g => .exn c g
  | .stuck => .stuck

/-! ### equality of data -/
mutual
def deq : D → D → Bool
  | .non, .non => true
  | .bl a, .bl b => a == b
  | .bl a, .int j => (if a then 1 else 0) == j
  | .int i, .bl b => i == (if b then 1 else 0)
  | .int i, .int j => i == j
  | .str m, .str n => m == n
  | .tup xs, .tup ys => deqs xs ys
  | .lst xs, .lst ys => deqs xs ys
  | _, _ => false
def deqs : List D → List D → Bool
  | [], [] => true
  | x :: xs, y :: ys => deq x y && deqs xs ys
  | _, _ => false
end
/-- data at most so deep, without objects -/
def pud : Nat → D → Bool
  | _, .non => true
  | _, .bl _ => true
  | _, .int _ => true
  | _, .str _ => true
  | n + 1, .tup ds => ds.all (pud n)
  | n + 1, .lst ds => ds.all (pud n)
  | _, _ => false

/-! ### what is fixed through a proof -/
structure Kit where
  P : Program
  w : World
  K : PySem.W.Frag
  mg : Str → Option Value
  base : Heap
  tab : List Str
  cls : List Addr
  nd : tab.Nodup
  sk : tab.all PyData.strOk = true

/-- what a dict of the top holds at a text -/
def dicG : List D → List D → Nat → Option Int
  | .str k :: ks, .int v :: vs, m => bif k == m then some v else dicG ks vs m
  | _, _, _ => none
/-- a dict of the top -/
def KD (Kt : Kit) (a : Addr) (ks vs : List D) : Prop := (∃ es n, KDict Kt.K Kt.w a es n) ∧ ∀ (m : Nat) (x : Str), Kt.tab[m]? = some x → ∃ r : Option Value, PySem.W.nsIn Kt.K a x = some r ∧ (match dicG ks vs m with
  | some i => ∃ t, r = some (.int i t)
  | none => r = none)
mutual
inductive DV (Kt : Kit) (ι : List Addr) (F : Hp) : V → D → Prop
  | non : DV Kt ι F .non .non
  | bl (b : Bool) : DV Kt ι F (.bl b) (.bl b)
  | int (i : Int) : DV Kt ι F (.int i) (.int i)
  | str {n : Nat} {x : Str} : Kt.tab[n]? = some x → DV Kt ι F (.str x) (.str n)
  | tup {a : Addr} {vs : List V} {ds : List D} : F a = some (.tup vs) → DVs Kt ι F vs ds → DV Kt ι F (.ref a) (.tup ds)
  | lst {a : Addr} {vs : List V} {ds : List D} : F a = some (.lst vs) → DVs Kt ι F vs ds → DV Kt ι F (.ref a) (.lst ds)
  | scr {a : Addr} {vs : List V} {ds : List D} : SqL Kt.K F a vs → DVs Kt ι F vs ds → DV Kt ι F (.ref a) (.scr ds)
  | ref {l : Nat} {a : Addr} : ι[l]? = some a → DV Kt ι F (.ref a) (.ref l)
  | rng {a : Addr} {lo hi : Int} : F a = some (.rng lo hi) → DV Kt ι F (.ref a) (.rng lo hi)
  | dic {a : Addr} {k : D} {ks vs : List D} : KD Kt a (k :: ks) vs → DV Kt ι F (.ref a) (.dic (k :: ks) vs)
  | kt {a : Addr} {vs : List V} {ds : List D} : SqT Kt.K F a vs → DVs Kt ι F vs ds → DV Kt ι F (.ref a) (.dic [] ds)
inductive DVs (Kt : Kit) (ι : List Addr) (F : Hp) : List V → List D → Prop
  | nil : DVs Kt ι F [] []
  | cons {v : V} {d : D} {vs : List V} {ds : List D} : DV Kt ι F v d → DVs Kt ι F vs ds → DVs Kt ι F (v :: vs) (d :: ds)
end

/-- grows -/
structure Ex (ι : List Addr) (F : Hp) (ι' : List Addr) (F' : Hp) : Prop where
  i : ∀ (l : Nat) (a : Addr), ι[l]? = some a → ι'[l]? = some a
  f : ∀ a o, F a = some o → F' a = some o
theorem Ex.refl {ι : List Addr} {F : Hp} : Ex ι F ι F := ⟨fun _ _ h => h, fun _ _ h => h⟩
theorem Ex.trans {ι ι1 ι2 : List Addr} {F F1 F2 : Hp} (a : Ex ι F ι1 F1) (b : Ex ι1 F1 ι2 F2) : Ex ι F ι2 F2 := ⟨fun l x h => b.i l x (a.i l x h), fun l x h => b.f l x (a.f l x h)⟩
theorem rd_mono {F F' : Hp} (f : ∀ a o, F a = some o → F' a = some o) {a : Addr} {u : HO} (h : Rd F a u) : Rd F' a u := by
  rcases h with h | ⟨o, h⟩
  · exact .inl (f _ _ h)
  · exact .inr ⟨o, f _ _ h⟩
theorem sqt_mono {K : PySem.W.Frag} {F F' : Hp} (f : ∀ a o, F a = some o → F' a = some o) {a : Addr} {xs : List V} (h : SqT K F a xs) : SqT K F' a xs := by
  rcases h with h | h
  · exact .inl (rd_mono f h)
  · exact .inr h
theorem tS {K : PySem.W.Frag} {F : Hp} {a : Addr} {xs : List V} (h : F a = some (.tup xs)) : SqT K F a xs := .inl (.inl h)
theorem sql_mono {K : PySem.W.Frag} {F F' : Hp} (f : ∀ a o, F a = some o → F' a = some o) {a : Addr} {xs : List V} (h : SqL K F a xs) : SqL K F' a xs := by
  rcases h with h | h
  · exact .inl (rd_mono f h)
  · exact .inr h
mutual
theorem DV.mono {Kt : Kit} {ι ι' : List Addr} {F F' : Hp} (x : Ex ι F ι' F') : ∀ {v : V} {d : D}, DV Kt ι F v d → DV Kt ι' F' v d
  | _, _, .non => .non
  | _, _, .bl b => .bl b
  | _, _, .int i => .int i
  | _, _, .str h => .str h
  | _, _, .tup h r => .tup (x.f _ _ h) (DVs.mono x r)
  | _, _, .lst h r => .lst (x.f _ _ h) (DVs.mono x r)
  | _, _, .scr h r => .scr (sql_mono x.f h) (DVs.mono x r)
  | _, _, .ref h => .ref (x.i _ _ h)
  | _, _, .rng h => .rng (x.f _ _ h)
  | _, _, .dic h => .dic h
  | _, _, .kt h r => .kt (sqt_mono x.f h) (DVs.mono x r)
theorem DVs.mono {Kt : Kit} {ι ι' : List Addr} {F F' : Hp} (x : Ex ι F ι' F') : ∀ {v : List V} {d : List D}, DVs Kt ι F v d → DVs Kt ι' F' v d
  | _, _, .nil => .nil
  | _, _, .cons h r => .cons (DV.mono x h) (DVs.mono x r)
end
section
variable {Kt : Kit} {ι : List Addr} {F : Hp}
theorem DVs.length : ∀ {vs : List V} {ds : List D}, DVs Kt ι F vs ds → vs.length = ds.length
  | _, _, .nil => rfl
  | _, _, .cons _ r => congrArg (· + 1) (DVs.length r)
theorem DVs.append : ∀ {vs ws : List V} {ds es : List D}, DVs Kt ι F vs ds → DVs Kt ι F ws es → DVs Kt ι F (vs ++ ws) (ds ++ es)
  | _, _, _, _, .nil, s => s
  | _, _, _, _, .cons h r, s => .cons h (DVs.append r s)
theorem DVs.get : ∀ {vs : List V} {ds : List D} {i : Nat} {d : D}, DVs Kt ι F vs ds → ds[i]? = some d → ∃ v, vs[i]? = some v ∧ DV Kt ι F v d
  | _, _, _, _, .nil, e => by simp at e
  | _, _, 0, _, .cons r _, e => by simp at e; subst e; exact ⟨_, rfl, r⟩
  | _, _, i + 1, d, .cons _ t, e => by
    obtain ⟨v, h1, h2⟩ := DVs.get (i := i) (d := d) t (by simpa using e)
    exact ⟨v, by simpa using h1, h2⟩
theorem DVs.get' : ∀ {vs : List V} {ds : List D} {i : Nat} {v : V}, DVs Kt ι F vs ds → vs[i]? = some v → ∃ d, ds[i]? = some d ∧ DV Kt ι F v d
  | _, _, _, _, .nil, e => by simp at e
  | _, _, 0, _, .cons r _, e => by simp at e; subst e; exact ⟨_, rfl, r⟩
  | _, _, i + 1, d, .cons _ t, e => by
    obtain ⟨v, h1, h2⟩ := DVs.get' (i := i) (v := d) t (by simpa using e)
    exact ⟨v, by simpa using h1, h2⟩
theorem DVs.take : ∀ {vs : List V} {ds : List D} (n : Nat), DVs Kt ι F vs ds → DVs Kt ι F (vs.take n) (ds.take n)
  | _, _, 0, _ => by simp; exact .nil
  | _, _, _ + 1, .nil => .nil
  | _, _, n + 1, .cons h r => .cons h (DVs.take n r)
theorem DVs.drop : ∀ {vs : List V} {ds : List D} (n : Nat), DVs Kt ι F vs ds → DVs Kt ι F (vs.drop n) (ds.drop n)
  | _, _, 0, h => by simpa using h
  | _, _, _ + 1, .nil => .nil
  | _, _, n + 1, .cons _ r => DVs.drop n r
theorem DVs.set {v : V} {d : D} (h : DV Kt ι F v d) : ∀ {vs : List V} {ds : List D} (n : Nat), DVs Kt ι F vs ds → DVs Kt ι F (vs.set n v) (ds.set n d)
  | _, _, _, .nil => .nil
  | _, _, 0, .cons _ r => .cons h r
  | _, _, n + 1, .cons q r => .cons q (DVs.set h n r)
theorem DVs.one {v : V} {d : D} (h : DV Kt ι F v d) : DVs Kt ι F [v] [d] := .cons h .nil
theorem DVs.rep {vs : List V} {ds : List D} (h : DVs Kt ι F vs ds) : ∀ k : Nat, DVs Kt ι F (List.replicate k vs).flatten (List.replicate k ds).flatten
  | 0 => .nil
  | k + 1 => by
    rw [List.replicate_succ, List.replicate_succ, List.flatten_cons, List.flatten_cons]
    exact h.append (DVs.rep h k)
theorem DVs.eraseIdx : ∀ {vs : List V} {ds : List D} (n : Nat), DVs Kt ι F vs ds → DVs Kt ι F (vs.eraseIdx n) (ds.eraseIdx n)
  | _, _, _, .nil => .nil
  | _, _, 0, .cons _ r => r
  | _, _, n + 1, .cons q r => .cons q (DVs.eraseIdx n r)
end

/-! ### objects -/
/-- attributes -/
inductive FR (Kt : Kit) (ι : List Addr) (F : Hp) : List (Str × V) → List (Nat × D) → Prop
  | nil : FR Kt ι F [] []
  | cons {x : Str} {n : Nat} {v : V} {d : D} {fs : List (Str × V)} {gs : List (Nat × D)} : Kt.tab[n]? = some x → DV Kt ι F v d → FR Kt ι F fs gs → FR Kt ι F ((x, v) :: fs) ((n, d) :: gs)
/-- a dict's pairs: keys ints and texts -/
inductive KR (Kt : Kit) (ι : List Addr) (F : Hp) : List (Key × V) → List (D × D) → Prop
  | nil : KR Kt ι F [] []
  | cons {k : Key} {v : V} {d e : D} {r : List (Key × V)} {s : List (D × D)} : DV Kt ι F (kV k) d → DV Kt ι F v e → KR Kt ι F r s → KR Kt ι F ((k, v) :: r) ((d, e) :: s)
/-- .. keys tuples of these -/
inductive KRT (Kt : Kit) (ι : List Addr) (F : Hp) : List (List Key × V) → List (D × D) → Prop
  | nil : KRT Kt ι F [] []
  | cons {k : List Key} {v : V} {ds : List D} {e : D} {r : List (List Key × V)} {s : List (D × D)} : DVs Kt ι F (k.map kV) ds → DV Kt ι F v e → KRT Kt ι F r s → KRT Kt ι F ((k, v) :: r) ((.tup ds, e) :: s)
theorem KR.mono {Kt : Kit} {ι ι' : List Addr} {F F' : Hp} (x : Ex ι F ι' F') : ∀ {fs : List (Key × V)} {gs : List (D × D)}, KR Kt ι F fs gs → KR Kt ι' F' fs gs
  | _, _, .nil => .nil
  | _, _, .cons e h r => .cons (e.mono x) (h.mono x) (KR.mono x r)
theorem KRT.mono {Kt : Kit} {ι ι' : List Addr} {F F' : Hp} (x : Ex ι F ι' F') : ∀ {fs : List (List Key × V)} {gs : List (D × D)}, KRT Kt ι F fs gs → KRT Kt ι' F' fs gs
  | _, _, .nil => .nil
  | _, _, .cons e h r => .cons (e.mono x) (h.mono x) (KRT.mono x r)
def ObR (Kt : Kit) (ι : List Addr) (F H : Hp) (a : Addr) : Ob → Prop
  | .dead => True
  | .lst ds => F a = none ∧ ∃ vs, H a = some (.lst vs) ∧ DVs Kt ι F vs ds
  | .ins c fs => F a = none ∧ ∃ C dx gs, Kt.cls[c]? = some C ∧ H a = some (.ins C dx gs) ∧ FR Kt ι F gs fs
  | .dct t kvs => F a = none ∧ (match t with
    | false => ∃ us, H a = some (.dK us) ∧ KR Kt ι F us kvs
    | true => ∃ us, H a = some (.dT us) ∧ KRT Kt ι F us kvs)
structure RelG (Kt : Kit) (Φ : Hp) (ι : List Addr) (F : Hp) (g : G) (H : Hp) : Prop where
  len : ι.length = g.length
  inj : ∀ (i j : Nat) (a : Addr), ι[i]? = some a → ι[j]? = some a → i = j
  sub : ∀ a o, F a = some o → H a = some o
  on : ∀ (i : Nat) (a : Addr), ι[i]? = some a → H a ≠ none
  fr : ∀ a o, Φ a = some o → H a = some o ∧ F a = none ∧ ∀ i : Nat, ι[i]? ≠ some a
  ob : ∀ (l : Nat) (a : Addr) (o : Ob), g[l]? = some o → ι[l]? = some a → ObR Kt ι F H a o
theorem FR.mono {Kt : Kit} {ι ι' : List Addr} {F F' : Hp} (x : Ex ι F ι' F') : ∀ {fs : List (Str × V)} {gs : List (Nat × D)}, FR Kt ι F fs gs → FR Kt ι' F' fs gs
  | _, _, .nil => .nil
  | _, _, .cons e h r => .cons e (h.mono x) (FR.mono x r)
theorem FR.length {Kt : Kit} {ι : List Addr} {F : Hp} : ∀ {fs : List (Str × V)} {gs : List (Nat × D)}, FR Kt ι F fs gs → fs.length = gs.length
  | _, _, .nil => rfl
  | _, _, .cons _ _ r => congrArg (· + 1) (FR.length r)
theorem tab_inj {Kt : Kit} {m n : Nat} {x : Str} (h : Kt.tab[m]? = some x) (k : Kt.tab[n]? = some x) : m = n := nodup_ix Kt.nd h k
/-- an attribute -/
def lkA (n : Nat) : List (Nat × D) → Option D
  | [] => none
  | (m, d) :: r => if m = n then some d else lkA n r
def putA (n : Nat) (v : D) : List (Nat × D) → List (Nat × D)
  | [] => [(n, v)]
  | (m, d) :: r => if m = n then (m, v) :: r else (m, d) :: putA n v r
theorem FR.look {Kt : Kit} {ι : List Addr} {F : Hp} {n : Nat} {x : Str} (hx : Kt.tab[n]? = some x) : ∀ {fs : List (Str × V)} {gs : List (Nat × D)}, FR Kt ι F fs gs → ∀ {d : D}, lkA n gs = some d → ∃ v, fs.lookup x = some v ∧ DV Kt ι F v d
  | _, _, .nil, d, h => by simp [lkA] at h
  | _, _, .cons (x := y) (n := m) e q r, d, h => by
    unfold lkA at h
    by_cases z : m = n
    · rw [if_pos z] at h
      cases h
      subst z
      rw [e] at hx; cases hx
      exact ⟨_, by simp [List.lookup], q⟩
    · rw [if_neg z] at h
      obtain ⟨v, h1, h2⟩ := FR.look hx r h
      refine ⟨v, ?_, h2⟩
      have hne : (x == y) = false := by
        apply beq_eq_false_iff_ne.mpr
        rintro rfl
        exact z (tab_inj e hx)
      simp only [List.lookup, hne, h1]
theorem FR.nolook {Kt : Kit} {ι : List Addr} {F : Hp} {n : Nat} {x : Str} (hx : Kt.tab[n]? = some x) : ∀ {fs : List (Str × V)} {gs : List (Nat × D)}, FR Kt ι F fs gs → lkA n gs = none → fs.lookup x = none
  | _, _, .nil, h => rfl
  | _, _, .cons (x := y) (n := m) e q r, h => by
    unfold lkA at h
    by_cases z : m = n
    · rw [if_pos z] at h; cases h
    · rw [if_neg z] at h
      have h1 := FR.nolook hx r h
      have hne : (x == y) = false := by
        apply beq_eq_false_iff_ne.mpr
        rintro rfl
        exact z (tab_inj e hx)
      simp only [List.lookup, hne, h1]
theorem FR.put {Kt : Kit} {ι : List Addr} {F : Hp} {n : Nat} {x : Str} {v : V} {d : D} (hx : Kt.tab[n]? = some x) (hv : DV Kt ι F v d) : ∀ {fs : List (Str × V)} {gs : List (Nat × D)}, FR Kt ι F fs gs → FR Kt ι F (putF x v fs) (putA n d gs)
  | _, _, .nil => .cons hx hv .nil
  | _, _, .cons (x := y) (n := m) e q r => by
    unfold putA putF
    by_cases z : m = n
    · subst z
      rw [e] at hx; cases hx
      rw [if_pos rfl, if_pos rfl]
      exact .cons e hv r
    · have z' : ¬ y = x := by
        rintro rfl
        exact z (tab_inj e hx)
      rw [if_neg z, if_neg z']
      exact .cons e q (FR.put hx hv r)
theorem ObR.mono {Kt : Kit} {ι ι' : List Addr} {F F' H H' : Hp} (x : Ex ι F ι' F') {a : Addr} (h : H' a = H a) (hf : F a = none → F' a = none) : ∀ {o : Ob}, ObR Kt ι F H a o → ObR Kt ι' F' H' a o
  | .dead, _ => trivial
  | .lst ds, ⟨n, vs, e, r⟩ => ⟨hf n, vs, h.trans e, r.mono x⟩
  | .ins c fs, ⟨n, C, dx, gs, e1, e2, r⟩ => ⟨hf n, C, dx, gs, e1, h.trans e2, r.mono x⟩
  | .dct false _, ⟨n, us, e, r⟩ => ⟨hf n, us, h.trans e, r.mono x⟩
  | .dct true _, ⟨n, us, e, r⟩ => ⟨hf n, us, h.trans e, r.mono x⟩
section
variable {Kt : Kit} {Φ : Hp} {ι : List Addr} {F H : Hp} {g : G}
/-- a new thing that never changes -/
theorem RelG.frz (R : RelG Kt Φ ι F g H) {p : Addr} (hp : H p = none) (o : HO) : RelG Kt Φ ι (upd F p o) g (upd H p o) ∧ Ex ι F ι (upd F p o) := by
  have fp : F p = none := by
    cases e : F p with
    | none => rfl
    | some u => rw [R.sub p u e] at hp; cases hp
  have x : Ex ι F ι (upd F p o) := ⟨fun _ _ h => h, fun a u h => by rw [upd_ne (ne_of_none h fp)]; exact h⟩
  have np : ∀ (l : Nat) (a : Addr), ι[l]? = some a → a ≠ p := fun l a e z => R.on l a e (z ▸ hp)
  refine ⟨⟨R.len, R.inj, fun a u h => ?_, fun i a e => ?_, fun a u h => ?_, fun l a ob e1 e2 => ?_⟩, x⟩
  · by_cases z : a = p
    · subst z; rw [upd_same] at h ⊢; exact h
    · rw [upd_ne z] at h ⊢; exact R.sub a u h
  · rw [upd_ne (np i a e)]; exact R.on i a e
  · obtain ⟨h1, h2, h3⟩ := R.fr a u h
    rw [upd_ne (ne_of_none h1 hp), upd_ne (ne_of_none h1 hp)]
    exact ⟨h1, h2, h3⟩
  · exact (R.ob l a ob e1 e2).mono x (upd_ne (np l a e2)) fun n => by rw [upd_ne (np l a e2)]; exact n
/-- a new object -/
theorem RelG.new (R : RelG Kt Φ ι F g H) {H' : Hp} {p : Addr} (hp : H p = none) (hH : ∀ a o, H a = some o → H' a = some o) (hp' : H' p ≠ none) {o : Ob} (ho : ObR Kt (ι ++ [p]) F H' p o) : RelG Kt Φ (ι ++ [p]) F (g ++ [o]) H' ∧ Ex ι F (ι ++ [p]) F := by
  have x : Ex ι F (ι ++ [p]) F := ⟨fun l a h => by rw [List.getElem?_append_left (List.getElem?_eq_some_iff.mp h).1]; exact h, fun _ _ h => h⟩
  have np : ∀ (l : Nat) (a : Addr), ι[l]? = some a → a ≠ p := fun l a e z => R.on l a e (z ▸ hp)
  have sp : ∀ (l : Nat) (a : Addr), (ι ++ [p])[l]? = some a → ι[l]? = some a ∨ (l = ι.length ∧ a = p) := fun l a e => by
    by_cases z : l < ι.length
    · rw [List.getElem?_append_left z] at e; exact .inl e
    · rw [List.getElem?_append_right (by omega)] at e
      have : l - ι.length = 0 := by
        have := (List.getElem?_eq_some_iff.mp e).1
        simp at this; omega
      rw [this] at e
      simp at e
      exact .inr ⟨by omega, e.symm⟩
  refine ⟨⟨by simp [R.len], fun i j a h1 h2 => ?_, fun a u h => hH a u (R.sub a u h), fun i a e => ?_, fun a u h => ?_, fun l a ob e1 e2 => ?_⟩, x⟩
  · rcases sp i a h1 with h1 | ⟨h1, e1⟩ <;> rcases sp j a h2 with h2 | ⟨h2, e2⟩
    · exact R.inj i j a h1 h2
    · exact absurd e2 (np i a h1)
    · exact absurd e1 (np j a h2)
    · omega
  · rcases sp i a e with e | ⟨_, e⟩
    · cases q : H a with
      | none => exact absurd q (R.on i a e)
      | some u => rw [hH a u q]; simp
    · rw [e]; exact hp'
  · obtain ⟨h1, h2, h3⟩ := R.fr a u h
    refine ⟨hH a u h1, h2, fun i q => ?_⟩
    rcases sp i a q with q | ⟨_, q⟩
    · exact h3 i q
    · exact (ne_of_none h1 hp) q
  · rcases sp l a e2 with e2 | ⟨e2, e3⟩
    · have hl : l < g.length := by rw [← R.len]; exact (List.getElem?_eq_some_iff.mp e2).1
      rw [List.getElem?_append_left hl] at e1
      cases q : H a with
      | none => exact absurd q (R.on l a e2)
      | some u => exact (R.ob l a ob e1 e2).mono x (by rw [hH a u q, q]) fun n => n
    · rw [e2, R.len, List.getElem?_append_right (Nat.le_refl _), Nat.sub_self] at e1
      simp at e1
      subst e1; subst e3
      exact ho
/-- an object changes -/
theorem RelG.put (R : RelG Kt Φ ι F g H) {l : Nat} {a : Addr} (e : ι[l]? = some a) (hF : F a = none) {u : HO} {o : Ob} (ho : ObR Kt ι F (upd H a u) a o) : RelG Kt Φ ι F (g.set l o) (upd H a u) := by
  refine ⟨by simp [R.len], R.inj, fun b v h => ?_, fun i b h => ?_, fun b v h => ?_, fun m b ob e1 e2 => ?_⟩
  · rw [upd_ne (ne_of_none h hF)]; exact R.sub b v h
  · by_cases z : b = a
    · subst z; rw [upd_same]; simp
    · rw [upd_ne z]; exact R.on i b h
  · obtain ⟨h1, h2, h3⟩ := R.fr b v h
    have nb : b ≠ a := fun z => h3 l (by rw [z]; exact e)
    rw [upd_ne nb]
    exact ⟨h1, h2, h3⟩
  · by_cases z : m = l
    · subst z
      rw [e] at e2; cases e2
      have hl : m < g.length := by rw [← R.len]; exact (List.getElem?_eq_some_iff.mp e).1
      rw [List.getElem?_set_self hl] at e1
      cases e1
      exact ho
    · rw [List.getElem?_set_ne (Ne.symm z)] at e1
      have zb : b ≠ a := fun q => z (R.inj m l a (q ▸ e2) e)
      exact (R.ob m b ob e1 e2).mono Ex.refl (upd_ne zb) fun n => n
/-- a list that nobody changes any more -/
theorem RelG.done (R : RelG Kt Φ ι F g H) {l : Nat} {ds : List D} (h : g[l]? = some (.lst ds)) :
    ∃ a vs, ι[l]? = some a ∧ RelG Kt Φ ι (upd F a (.lst vs)) (g.set l .dead) H ∧ Ex ι F ι (upd F a (.lst vs)) ∧ DV Kt ι (upd F a (.lst vs)) (.ref a) (.lst ds) := by
  have hl : l < ι.length := by rw [R.len]; exact (List.getElem?_eq_some_iff.mp h).1
  have e : ι[l]? = some ι[l] := List.getElem?_eq_getElem hl
  obtain ⟨hF, vs, hH, r⟩ : F ι[l] = none ∧ ∃ vs, H ι[l] = some (.lst vs) ∧ DVs Kt ι F vs ds := R.ob l _ _ h e
  have x : Ex ι F ι (upd F ι[l] (.lst vs)) := ⟨fun _ _ h => h, fun a u h => by rw [upd_ne (ne_of_none h hF)]; exact h⟩
  refine ⟨ι[l], vs, e, ⟨by simp [R.len], R.inj, fun b v q => ?_, R.on, fun b v q => ?_, fun m b ob e1 e2 => ?_⟩, x, .lst upd_same (r.mono x)⟩
  · by_cases z : b = ι[l]
    · subst z; rw [upd_same] at q; cases q; exact hH
    · rw [upd_ne z] at q; exact R.sub b v q
  · obtain ⟨h1, h2, h3⟩ := R.fr b v q
    have nb : b ≠ ι[l] := fun z => h3 l (by rw [z]; exact e)
    rw [upd_ne nb]
    exact ⟨h1, h2, h3⟩
  · by_cases z : m = l
    · subst z
      have hl : m < g.length := by rw [← R.len]; exact (List.getElem?_eq_some_iff.mp e).1
      rw [List.getElem?_set_self hl] at e1
      cases e1
      exact trivial
    · rw [List.getElem?_set_ne (Ne.symm z)] at e1
      have zb : b ≠ ι[l] := fun q => z (R.inj m l _ (q ▸ e2) e)
      exact (R.ob m b ob e1 e2).mono x rfl fun n => by rw [upd_ne zb]; exact n
theorem RelG.at_ (R : RelG Kt Φ ι F g H) {l : Nat} {o : Ob} (h : g[l]? = some o) : ∃ a, ι[l]? = some a ∧ ObR Kt ι F H a o := by
  have hl : l < ι.length := by rw [R.len]; exact (List.getElem?_eq_some_iff.mp h).1
  exact ⟨ι[l], List.getElem?_eq_getElem hl, R.ob l _ _ h (List.getElem?_eq_getElem hl)⟩
end

/-! ### the frame -/
def EnvR (Kt : Kit) (ι : List Addr) (F : Hp) (σ : L2.St) (e : En) : Prop := σ.length = e.length ∧ ∀ (i : Nat) (d : D), e[i]? = some (some d) → ∃ v, σ[i]? = some (some v) ∧ DV Kt ι F v d
theorem EnvR.mono {Kt : Kit} {ι ι' : List Addr} {F F' : Hp} {σ : L2.St} {e : En} (x : Ex ι F ι' F') (h : EnvR Kt ι F σ e) : EnvR Kt ι' F' σ e := ⟨h.1, fun i d q => let ⟨v, a, b⟩ := h.2 i d q; ⟨v, a, b.mono x⟩⟩
theorem EnvR.set {Kt : Kit} {ι : List Addr} {F : Hp} {σ : L2.St} {e : En} (h : EnvR Kt ι F σ e) (i : Nat) {v : V} {d : D} (r : DV Kt ι F v d) : EnvR Kt ι F (σ.set i (some v)) (e.set i (some d)) := by
  refine ⟨by simp [h.1], fun j d' q => ?_⟩
  by_cases z : j = i
  · subst z
    by_cases hj : j < e.length
    · rw [List.getElem?_set_self hj] at q
      cases q
      exact ⟨v, by rw [List.getElem?_set_self (by rw [h.1]; exact hj)], r⟩
    · rw [List.getElem?_eq_none (by simpa using hj)] at q; cases q
  · rw [List.getElem?_set_ne (Ne.symm z)] at q ⊢
    exact h.2 j d' q
theorem EnvR.unset {Kt : Kit} {ι : List Addr} {F : Hp} {σ : L2.St} {e : En} (h : EnvR Kt ι F σ e) (i : Nat) : EnvR Kt ι F (σ.set i none) (e.set i none) := by
  refine ⟨by simp [h.1], fun j d' q => ?_⟩
  by_cases z : j = i
  · subst z
    by_cases hj : j < e.length
    · rw [List.getElem?_set_self hj] at q
      cases q
    · rw [List.getElem?_eq_none (by simpa using hj)] at q; cases q
  · rw [List.getElem?_set_ne (Ne.symm z)] at q ⊢
    exact h.2 j d' q

/-! ### readings -/
/-- where one stands: the state of the data beside the state of the machine -/
structure St' (Kt : Kit) (Φ : Hp) (ι : List Addr) (F : Hp) (e : En) (g : G) (σ : L2.St) (H : Hp) : Prop where
  env : EnvR Kt ι F σ e
  rel : RelG Kt Φ ι F g H
def exP (Kt : Kit) (Φ : Hp) (W : WX) (ι : List Addr) (F : Hp) (σ : L2.St) (c : Nat) (g' : G) : Prop :=
  ∃ C, Kt.cls[c]? = some C ∧ ∀ ι' F' H', Ex ι F ι' F' → RelG Kt Φ ι' F' g' H' → W (.ref C) none σ H'
/-- what is wanted behind a computation -/
def po {α ν : Type} (Kt : Kit) (Φ : Hp) (W : WX) (σ : L2.St) (Rl : List Addr → Hp → ν → α → Prop) (ι : List Addr) (F : Hp) (r : Res α) (Q : ν → Hp → Prop) : Prop := match r with
  | .ok a g' => ∀ ι' F' H' v, Ex ι F ι' F' → RelG Kt Φ ι' F' g' H' → Rl ι' F' v a → Q v H'
  | .exn c g' => exP Kt Φ W ι F σ c g'
  | .stuck => False
abbrev RB : List Addr → Hp → Bool → Bool → Prop := fun _ _ b c => b = c
def te (Kt : Kit) (W : WX) (m : EM) : TE := fun σ H Q => ∃ Φ ι F e g, St' Kt Φ ι F e g σ H ∧ po Kt Φ W σ (DV Kt) ι F (m e g) Q
def tt (Kt : Kit) (W : WX) (m : TM) : TT := fun σ H Q => ∃ Φ ι F e g, St' Kt Φ ι F e g σ H ∧ po Kt Φ W σ RB ι F (m e g) Q
def ta (Kt : Kit) (W : WX) (m : AM) : TA := fun σ H Q => ∃ Φ ι F e g, St' Kt Φ ι F e g σ H ∧ po Kt Φ W σ (DVs Kt) ι F (m e g) Q
theorem exP.mono {Kt : Kit} {Φ : Hp} {W : WX} {ι ι1 : List Addr} {F F1 : Hp} {σ : L2.St} {c : Nat} {g : G} (x : Ex ι F ι1 F1) (h : exP Kt Φ W ι F σ c g) : exP Kt Φ W ι1 F1 σ c g :=
  let ⟨C, e, q⟩ := h
  ⟨C, e, fun ι' F' H' y R => q ι' F' H' (x.trans y) R⟩
theorem po.mono {α ν : Type} {Kt : Kit} {Φ : Hp} {W : WX} {σ : L2.St} {Rl : List Addr → Hp → ν → α → Prop} {ι ι1 : List Addr} {F F1 : Hp} {r : Res α} {Q : ν → Hp → Prop} (x : Ex ι F ι1 F1) (h : po Kt Φ W σ Rl ι F r Q) : po Kt Φ W σ Rl ι1 F1 r Q := by
  cases r with
  | ok a g => exact fun ι' F' H' v y R q => h ι' F' H' v (x.trans y) R q
  | exn c g => exact exP.mono x h
  | stuck => exact h
theorem po.bind {α β ν μ : Type} {Kt : Kit} {Φ : Hp} {W : WX} {σ : L2.St} {Rl : List Addr → Hp → ν → α → Prop} {Rm : List Addr → Hp → μ → β → Prop} {ι : List Addr} {F : Hp} {r : Res α} {k : α → G → Res β} {Q : μ → Hp → Prop}
    (h : po Kt Φ W σ Rm ι F (r.bind k) Q) : po Kt Φ W σ Rl ι F r fun v H1 => ∃ ι1 F1 g1 a, Ex ι F ι1 F1 ∧ RelG Kt Φ ι1 F1 g1 H1 ∧ Rl ι1 F1 v a ∧ po Kt Φ W σ Rm ι1 F1 (k a g1) Q := by
  cases r with
  | ok a g => exact fun ι' F' H' v y R q => ⟨ι', F', g, a, y, R, q, po.mono y h⟩
  | exn c g => exact h
  | stuck => exact h
theorem po.imp {α ν : Type} {Kt : Kit} {Φ : Hp} {W : WX} {σ : L2.St} {Rl : List Addr → Hp → ν → α → Prop} {ι : List Addr} {F : Hp} {r : Res α} {Q Q' : ν → Hp → Prop} (h : po Kt Φ W σ Rl ι F r Q) (i : ∀ v H, Q v H → Q' v H) : po Kt Φ W σ Rl ι F r Q' := by
  cases r with
  | ok a g => exact fun ι' F' H' v y R q => i _ _ (h ι' F' H' v y R q)
  | exn c g => exact h
  | stuck => exact h
/-- what is wanted behind a statement's end -/
def so (Kt : Kit) (Φ : Hp) (W : WX) (D : Ends) (ι : List Addr) (F : Hp) (r : SR) : Prop := match r with
  | .nx e' g' => ∀ ι' F' σ' H', Ex ι F ι' F' → St' Kt Φ ι' F' e' g' σ' H' → D.nx σ' H'
  | .bk e' g' => ∀ ι' F' σ' H', Ex ι F ι' F' → St' Kt Φ ι' F' e' g' σ' H' → D.bk σ' H'
  | .ct e' g' => ∀ ι' F' σ' H', Ex ι F ι' F' → St' Kt Φ ι' F' e' g' σ' H' → D.ct σ' H'
  | .rt d g' => ∀ ι' F' H' v, Ex ι F ι' F' → RelG Kt Φ ι' F' g' H' → DV Kt ι' F' v d → D.rt v H'
  | .exn c e' g' => ∃ C, Kt.cls[c]? = some C ∧ ∀ ι' F' σ' H', Ex ι F ι' F' → St' Kt Φ ι' F' e' g' σ' H' → W (.ref C) none σ' H'
  | .stuck => False
def ts (Kt : Kit) (W : WX) (m : SM) : TS := fun D σ H => ∃ Φ ι F e g, St' Kt Φ ι F e g σ H ∧ so Kt Φ W D ι F (m e g)
theorem so.mono {Kt : Kit} {Φ : Hp} {W : WX} {D : Ends} {ι ι1 : List Addr} {F F1 : Hp} {r : SR} (x : Ex ι F ι1 F1) (h : so Kt Φ W D ι F r) : so Kt Φ W D ι1 F1 r := by
  cases r with
  | nx e g => exact fun ι' F' σ' H' y S => h ι' F' σ' H' (x.trans y) S
  | bk e g => exact fun ι' F' σ' H' y S => h ι' F' σ' H' (x.trans y) S
  | ct e g => exact fun ι' F' σ' H' y S => h ι' F' σ' H' (x.trans y) S
  | rt d g => exact fun ι' F' H' v y R q => h ι' F' H' v (x.trans y) R q
  | exn c e g => exact let ⟨C, q, h⟩ := h; ⟨C, q, fun ι' F' σ' H' y S => h ι' F' σ' H' (x.trans y) S⟩
  | stuck => exact h
@[simp] def sBind {α : Type} (r : Res α) (e : En) (k : α → G → SR) : SR := match r with
  | .ok a g => k a g
  | .exn c g => .exn c e g
  | .stuck => .stuck
theorem so.bind {α ν : Type} {Kt : Kit} {Φ : Hp} {W : WX} {D : Ends} {σ : L2.St} {Rl : List Addr → Hp → ν → α → Prop} {ι : List Addr} {F : Hp} {e : En} {r : Res α} {k : α → G → SR} (S : EnvR Kt ι F σ e) (h : so Kt Φ W D ι F (sBind r e k)) :
    po Kt Φ W σ Rl ι F r fun v H1 => ∃ ι1 F1 g1 a, Ex ι F ι1 F1 ∧ RelG Kt Φ ι1 F1 g1 H1 ∧ Rl ι1 F1 v a ∧ so Kt Φ W D ι1 F1 (k a g1) := by
  cases r with
  | ok a g => exact fun ι' F' H' v y R q => ⟨ι', F', g, a, y, R, q, so.mono y h⟩
  | exn c g => exact let ⟨C, q, h⟩ := h; ⟨C, q, fun ι' F' H' y R => h ι' F' _ H' y ⟨S.mono y, R⟩⟩
  | stuck => exact h
end Y

namespace L2
open PySem PySem.Spec PyProof.Rows
section
variable {X : Cx}
theorem PE.imp {e : Expr} {t t' : TE} (h : PE X e t) (i : ∀ σ H Q, t' σ H Q → t σ H Q) : PE X e t' := ⟨fun pins s σ H Q I q => h.run pins s σ H Q I (i σ H Q q)⟩
theorem PT.imp {e : Expr} {t t' : TT} (h : PT X e t) (i : ∀ σ H Q, t' σ H Q → t σ H Q) : PT X e t' := ⟨fun pins s σ H Q I q => h.run pins s σ H Q I (i σ H Q q)⟩
theorem PA.imp {e : List Expr} {t t' : TA} (h : PA X e t) (i : ∀ σ H Q, t' σ H Q → t σ H Q) : PA X e t' := ⟨fun pos pins s σ H Q I q => h.run pos pins s σ H Q I (i σ H Q q)⟩
theorem PS.imp {e : Stmt} {t t' : TS} (h : PS X e t) (i : ∀ D σ H, t' D σ H → t D σ H) : PS X e t' := ⟨fun pins s σ H D I q => h.run pins s σ H D I (i D σ H q)⟩
theorem PSs.imp {e : List Stmt} {t t' : TS} (h : PSs X e t) (i : ∀ D σ H, t' D σ H → t D σ H) : PSs X e t' := ⟨fun pins s σ H D I q => h.run pins s σ H D I (i D σ H q)⟩
end
theorem PW.imp {X : Cx} {e : Expr} {t t' : TT} (h : PW X e t) (i : ∀ σ H Q, t' σ H Q → t σ H Q) : PW X e t' := ⟨fun wh pins s σ H Q I q => h.run wh pins s σ H Q I (i σ H Q q)⟩
end L2

set_option Elab.async false
set_option linter.all false
set_option maxRecDepth 100000
namespace Y
open PySem PySem.Spec PyProof.Rows L2

/-- where a body runs -/
structure At (Kt : Kit) (X : Cx) (W : WX) (k : Nat) : Prop where
  eP : X.prog = Kt.P
  ew : X.w = Kt.w
  eK : X.K = Kt.K
  em : X.mg = Kt.mg
  eb : X.base = Kt.base
  calm : X.calm = true
  tk : Takes X W
  room : Room k X.A
  pso : PassesOwn (model X.prog X.w) X.A X.env X.xe
  nd : X.N.Nodup
theorem At.hu {Kt : Kit} {X : Cx} {W : WX} {k : Nat} (A : At Kt X W k) : X.A.units + 65 < cLine := by have := A.room.un; omega

def LINE : Nat := 16777216
theorem line_eq : LINE = sizeLine := sizeLine_eq.symm
/-! the tests upon sizes, by name; what is not written stands first, so that nobody reckons with it -/
def okL (n : Nat) : Bool := Nat.ble n 16777216
def ltL (n : Nat) : Bool := Nat.ble n 16777215
def rB (j : Int) : Bool := Nat.ble j.natAbs 4611686018427387903
def mB (i j : Int) : Bool := Nat.ble i.natAbs 18446744073709551615 || Nat.ble j.natAbs 18446744073709551615
def dB (j : Int) : Bool := Nat.ble 1 j.toNat && Nat.ble j.toNat 1073741823
def pB (j : Int) : Bool := Nat.ble 1 j.toNat
def wB (i j : Int) : Bool := Nat.ble (-j).toNat 0 && (Nat.ble j.toNat 1000000 && Nat.ble i.natAbs 18446744073709551615)
def nB (n : Nat) (j : Int) : Bool := Nat.ble (-j).toNat 0 && (Nat.ble j.toNat 1048575 && Nat.ble (n * j.toNat) 16777216)
theorem okL_iff {n : Nat} : okL n = true ↔ n ≤ sizeLine := by unfold okL; rw [Nat.ble_eq, ← line_eq]; rfl
theorem ltL_iff {n : Nat} : ltL n = true ↔ n < sizeLine := by unfold ltL; rw [Nat.ble_eq, ← line_eq]; exact Nat.lt_succ_iff.symm
theorem okL_of {n : Nat} (h : n ≤ 16777216) : okL n = true := Nat.ble_eq.mpr h
theorem ltL_of {n : Nat} (h : n < 16777216) : ltL n = true := Nat.ble_eq.mpr (Nat.le_of_lt_succ h)
theorem rB_ok {j : Int} (h : rB j = true) : -(2 ^ 62) ≤ j ∧ j < 2 ^ 62 := by
  have h := Nat.ble_eq.mp h
  rw [show (2 : Int) ^ 62 = 4611686018427387904 by decide]
  omega
theorem mB_ok {i j : Int} (h : mB i j = true) : (-(2 ^ 64) < i ∧ i < 2 ^ 64) ∨ (-(2 ^ 64) < j ∧ j < 2 ^ 64) := by
  unfold mB at h
  rw [Bool.or_eq_true, Nat.ble_eq, Nat.ble_eq] at h
  rw [show (2 : Int) ^ 64 = 18446744073709551616 by decide]
  omega
theorem dB_ok {j : Int} (h : dB j = true) : 0 < j ∧ j < 1073741824 := by
  unfold dB at h
  rw [Bool.and_eq_true, Nat.ble_eq, Nat.ble_eq] at h
  omega
theorem pB_ok {j : Int} (h : pB j = true) : 0 < j := by
  unfold pB at h
  rw [Nat.ble_eq] at h
  omega
theorem wB_ok {i j : Int} (h : wB i j = true) : 0 ≤ j ∧ j ≤ 1000000 ∧ i.natAbs < 2 ^ 64 := by
  unfold wB at h
  rw [Bool.and_eq_true, Bool.and_eq_true, Nat.ble_eq, Nat.ble_eq, Nat.ble_eq] at h
  rw [show 2 ^ 64 = 18446744073709551616 by decide]
  omega
theorem nB_ok {n : Nat} {j : Int} (h : nB n j = true) : 0 ≤ j ∧ j < 1048576 ∧ n * j.toNat ≤ sizeLine := by
  unfold nB at h
  rw [Bool.and_eq_true, Bool.and_eq_true, Nat.ble_eq, Nat.ble_eq, Nat.ble_eq] at h
  exact ⟨by omega, by omega, by rw [← line_eq]; exact h.2.2⟩
theorem rB_of {j : Int} (h : -1000000000 ≤ j) (h' : j ≤ 1000000000) : rB j = true := Nat.ble_eq.mpr (by omega)
theorem mB_r {i j : Int} (h : -1000000000000 ≤ j) (h' : j ≤ 1000000000000) : mB i j = true := by unfold mB; rw [Bool.or_eq_true, Nat.ble_eq, Nat.ble_eq]; omega
theorem mB_l {i j : Int} (h : -1000000000000 ≤ i) (h' : i ≤ 1000000000000) : mB i j = true := by unfold mB; rw [Bool.or_eq_true, Nat.ble_eq, Nat.ble_eq]; omega
theorem dB_of {j : Int} (h : 0 < j) (h' : j < 1073741824) : dB j = true := by unfold dB; rw [Bool.and_eq_true, Nat.ble_eq, Nat.ble_eq]; omega
theorem pB_of {j : Int} (h : 0 < j) : pB j = true := by unfold pB; rw [Nat.ble_eq]; omega
theorem nB_of {n : Nat} {j : Int} (h : 0 ≤ j) (h' : j < 1048576) (h2 : n * j.toNat ≤ 16777216) : nB n j = true := by unfold nB; rw [Bool.and_eq_true, Bool.and_eq_true, Nat.ble_eq, Nat.ble_eq, Nat.ble_eq]; exact ⟨by omega, by omega, h2⟩

/-! ### data by the heap -/
def snap (g : G) : D → D
  | .ref l => match g[l]? with
    | some (.lst ds) => .lst ds
    | _ => .ref l
  | d => d
@[simp] theorem snap_non {g : G} : snap g .non = .non := rfl
@[simp] theorem snap_bl {g : G} {b : Bool} : snap g (.bl b) = .bl b := rfl
@[simp] theorem snap_int {g : G} {b : Int} : snap g (.int b) = .int b := rfl
@[simp] theorem snap_str {g : G} {b : Nat} : snap g (.str b) = .str b := rfl
@[simp] theorem snap_tup {g : G} {b : List D} : snap g (.tup b) = .tup b := rfl
@[simp] theorem snap_lst {g : G} {b : List D} : snap g (.lst b) = .lst b := rfl
@[simp] theorem snap_rng {g : G} {a b : Int} : snap g (.rng a b) = .rng a b := rfl
theorem snap_ref {g : G} {l : Nat} : snap g (.ref l) = match g[l]? with
    | some (.lst ds) => .lst ds
    | _ => .ref l := rfl
/-- a list's items -/
def lsD (g : G) (d : D) : Option (List D) := match snap g d with
  | .lst ds => some ds
  | _ => none
section
variable {Kt : Kit} {Φ : Hp} {ι : List Addr} {F H : Hp} {g : G} {v : V} {d : D} {ds : List D}
theorem lsD_ok (R : RelG Kt Φ ι F g H) (r : DV Kt ι F v d) (h : lsD g d = some ds) : ∃ a vs, v = .ref a ∧ H a = some (.lst vs) ∧ DVs Kt ι F vs ds := by
  unfold lsD at h
  cases r with
  | lst e q => simp at h; subst h; exact ⟨_, _, rfl, R.sub _ _ e, q⟩
  | @ref l a e =>
    rw [snap_ref] at h
    cases z : g[l]? with
    | none => rw [z] at h; simp at h
    | some o =>
      rw [z] at h
      cases o with
      | lst es =>
        simp at h; subst h
        obtain ⟨_, vs, e2, q⟩ := R.ob l a _ z e
        exact ⟨a, vs, rfl, e2, q⟩
      | _ => simp at h
  | non => simp at h
  | bl b => simp at h
  | int i => simp at h
  | str e => simp at h
  | tup e r => simp at h
  | scr e r => simp [snap] at h
  | rng e => simp at h
  | dic e => simp [snap] at h
  | kt e r => simp [snap] at h

/-! ### as the model's data -/
mutual
def py (T : List Str) : D → PyData
  | .bl b => .bool b
  | .int i => .int i
  | .str n => .str (T.getD n ⟨#[]⟩)
  | .tup ds => .tuple (pys T ds)
  | .lst ds => .list (pys T ds)
  | _ => .none
def pys (T : List Str) : List D → List PyData
  | [] => []
  | d :: ds => py T d :: pys T ds
end
mutual
/-- the texts are in the table -/
def inT (T : List Str) : D → Prop
  | .str n => n < T.length
  | .tup ds => inTs T ds
  | .lst ds => inTs T ds
  | _ => True
def inTs (T : List Str) : List D → Prop
  | [] => True
  | d :: ds => inT T d ∧ inTs T ds
end
mutual
theorem DV.inT : ∀ {v : V} {d : D}, DV Kt ι F v d → inT Kt.tab d
  | _, _, .non => by simp [Y.inT]
  | _, _, .bl b => by simp [Y.inT]
  | _, _, .int i => by simp [Y.inT]
  | _, _, .str h => by unfold Y.inT; exact (List.getElem?_eq_some_iff.mp h).1
  | _, _, .tup h r => by unfold Y.inT; exact DVs.inTs r
  | _, _, .lst h r => by unfold Y.inT; exact DVs.inTs r
  | _, _, .scr h r => by simp [Y.inT]
  | _, _, .ref h => by simp [Y.inT]
  | _, _, .rng h => by simp [Y.inT]
  | _, _, .dic h => by simp [Y.inT]
  | _, _, .kt h r => by simp [Y.inT]
theorem DVs.inTs : ∀ {v : List V} {d : List D}, DVs Kt ι F v d → inTs Kt.tab d
  | _, _, .nil => by simp [Y.inTs]
  | _, _, .cons h r => by unfold Y.inTs; exact ⟨DV.inT h, DVs.inTs r⟩
end
theorem getD_inj {T : List Str} (nd : T.Nodup) {m n : Nat} (hm : m < T.length) (hn : n < T.length) : (T.getD m ⟨#[]⟩ == T.getD n ⟨#[]⟩) = (m == n) := by
  rw [List.getD_eq_getElem?_getD, List.getD_eq_getElem?_getD, List.getElem?_eq_getElem hm, List.getElem?_eq_getElem hn]
  rw [Bool.eq_iff_iff]
  simp only [Option.getD_some, beq_iff_eq]
  exact ⟨fun e => (List.getElem_inj nd).mp e, fun e => by subst e; rfl⟩
mutual
theorem deq_py {T : List Str} (nd : T.Nodup) : ∀ (d e : D) (n m : Nat), pud n d = true → pud m e = true → inT T d → inT T e → PyData.eqv (py T d) (py T e) = deq d e
  | .non, e, n, m, hd, he, id, ie => by cases e <;> simp [py, PyData.eqv, deq] <;> simp [pud] at he
  | .bl b, e, n, m, hd, he, id, ie => by cases e <;> simp [py, PyData.eqv, deq] <;> simp [pud] at he
  | .int i, e, n, m, hd, he, id, ie => by cases e <;> simp [py, PyData.eqv, deq] <;> simp [pud] at he
  | .str k, e, n, m, hd, he, id, ie => by
    cases e <;> simp only [py, PyData.eqv, deq] <;> first
      | (simp [pud] at he; done)
      | exact getD_inj nd (by simpa [inT] using id) (by simpa [inT] using ie)
  | .tup ds, e, n, m, hd, he, id, ie => by
    cases e <;> simp only [py, PyData.eqv, deq] <;> first
      | (simp [pud] at he; done)
      | (cases n with
        | zero => simp [pud] at hd
        | succ n =>
          cases m with
          | zero => simp [pud] at he
          | succ m => exact deqs_py nd ds _ n m (by simpa [pud] using hd) (by simpa [pud] using he) (by simpa [inT] using id) (by simpa [inT] using ie))
  | .lst ds, e, n, m, hd, he, id, ie => by
    cases e <;> simp only [py, PyData.eqv, deq] <;> first
      | (simp [pud] at he; done)
      | (cases n with
        | zero => simp [pud] at hd
        | succ n =>
          cases m with
          | zero => simp [pud] at he
          | succ m => exact deqs_py nd ds _ n m (by simpa [pud] using hd) (by simpa [pud] using he) (by simpa [inT] using id) (by simpa [inT] using ie))
  | .scr ds, e, n, m, hd, he, id, ie => by simp [pud] at hd
  | .ref l, e, n, m, hd, he, id, ie => by simp [pud] at hd
  | .rng a b, e, n, m, hd, he, id, ie => by simp [pud] at hd
  | .dic a b, e, n, m, hd, he, id, ie => by simp [pud] at hd
theorem deqs_py {T : List Str} (nd : T.Nodup) : ∀ (d e : List D) (n m : Nat), (∀ x ∈ d, pud n x = true) → (∀ x ∈ e, pud m x = true) → inTs T d → inTs T e → PyData.eqvAll (pys T d) (pys T e) = deqs d e
  | [], e, n, m, hd, he, id, ie => by cases e <;> simp [pys, PyData.eqvAll, deqs]
  | x :: d, e, n, m, hd, he, id, ie => by
    cases e with
    | nil => simp [pys, PyData.eqvAll, deqs]
    | cons y e =>
      unfold inTs at id ie
      simp only [pys, PyData.eqvAll, deqs]
      rw [deq_py nd x y n m (hd x List.mem_cons_self) (he y List.mem_cons_self) id.1 ie.1, deqs_py nd d e n m (fun z hz => hd z (List.mem_cons_of_mem _ hz)) (fun z hz => he z (List.mem_cons_of_mem _ hz)) id.2 ie.2]
end
theorem sk_getD {T : List Str} (sk : T.all PyData.strOk = true) (n : Nat) : PyData.strOk (T.getD n ⟨#[]⟩) = true := by
  rw [List.getD_eq_getElem?_getD]
  cases e : T[n]? with
  | none => decide +kernel
  | some x => exact List.all_eq_true.mp sk x (List.mem_of_getElem? e)
mutual
theorem py_lay {T : List Str} (sk : T.all PyData.strOk = true) : ∀ (d : D), (py T d).canLay0 = true
  | .non => rfl
  | .bl b => rfl
  | .int i => rfl
  | .str n => by simp only [py, PyData.canLay0]; exact sk_getD sk n
  | .tup ds => by simp only [py, PyData.canLay0]; exact pys_lay sk ds
  | .lst ds => by simp only [py, PyData.canLay0]; exact pys_lay sk ds
  | .scr _ => rfl
  | .ref _ => rfl
  | .rng _ _ => rfl
  | .dic _ _ => rfl
theorem pys_lay {T : List Str} (sk : T.all PyData.strOk = true) : ∀ (d : List D), PyData.canLayAll0 (pys T d) = true
  | [] => rfl
  | d :: ds => by simp only [pys, PyData.canLayAll0, py_lay sk d, pys_lay sk ds, Bool.and_self]
end
mutual
theorem py_depth {T : List Str} : ∀ (d : D) (n : Nat), pud n d = true → (py T d).depth ≤ n
  | .non, n, h => by simp [py, PyData.depth]
  | .bl b, n, h => by simp [py, PyData.depth]
  | .int i, n, h => by simp [py, PyData.depth]
  | .str k, n, h => by simp [py, PyData.depth]
  | .tup ds, n, h => by
    cases n with
    | zero => simp [pud] at h
    | succ n =>
      simp only [py, PyData.depth]
      have := pys_depth (T := T) ds n (by simpa [pud] using h)
      omega
  | .lst ds, n, h => by
    cases n with
    | zero => simp [pud] at h
    | succ n =>
      simp only [py, PyData.depth]
      have := pys_depth (T := T) ds n (by simpa [pud] using h)
      omega
  | .scr _, n, h => by simp [pud] at h
  | .ref _, n, h => by simp [pud] at h
  | .rng _ _, n, h => by simp [pud] at h
  | .dic _ _, n, h => by simp [pud] at h
theorem pys_depth {T : List Str} : ∀ (d : List D) (n : Nat), (∀ x ∈ d, pud n x = true) → PyData.depthAll (pys T d) ≤ n
  | [], n, h => by simp [pys, PyData.depthAll]
  | d :: ds, n, h => by
    simp only [pys, PyData.depthAll]
    have h1 := py_depth (T := T) d n (h d List.mem_cons_self)
    have h2 := pys_depth (T := T) ds n fun x hx => h x (List.mem_cons_of_mem _ hx)
    omega
end
theorem py_shaped {T : List Str} (sk : T.all PyData.strOk = true) {d : D} {n : Nat} (h : pud n d = true) (hn : n ≤ 64) : SeqAt.shaped (py T d) = true := by
  unfold SeqAt.shaped
  rw [py_lay sk, Bool.true_and, decide_eq_true_eq]
  exact Nat.le_trans (py_depth d n h) hn
mutual
theorem DV.dp (R : RelG Kt Φ ι F g H) : ∀ {v : V} {d : D} (n : Nat), DV Kt ι F v d → pud n d = true → Dp Kt.K H v (py Kt.tab d)
  | _, _, n, .non, h => .non
  | _, _, n, .bl b, h => .bl b
  | _, _, n, .int i, h => .int i
  | _, _, n, .str (n := m) (x := x) e, h => by
    unfold py
    rw [List.getD_eq_getElem?_getD, e]
    exact .str x
  | _, _, 0, .tup e r, h => by simp [pud] at h
  | _, _, n + 1, .tup e r, h => by
    unfold py
    exact .tup (sqt_mono R.sub (tS e)) (DVs.dp R n r (by simpa [pud] using h))
  | _, _, 0, .lst e r, h => by simp [pud] at h
  | _, _, n + 1, .lst e r, h => by
    unfold py
    exact .lst (.inl (.inl (R.sub _ _ e))) (DVs.dp R n r (by simpa [pud] using h))
  | _, _, n, .scr e r, h => by simp [pud] at h
  | _, _, n, .ref e, h => by simp [pud] at h
  | _, _, n, .rng e, h => by simp [pud] at h
  | _, _, n, .dic e, h => by simp [pud] at h
  | _, _, n, .kt e r, h => by simp [pud] at h
theorem DVs.dp (R : RelG Kt Φ ι F g H) : ∀ {v : List V} {d : List D} (n : Nat), DVs Kt ι F v d → (∀ x ∈ d, pud n x = true) → DpAll Kt.K H v (pys Kt.tab d)
  | _, _, n, .nil, h => .nil
  | _, _, n, .cons e r, h => .cons (DV.dp R n e (h _ List.mem_cons_self)) (DVs.dp R n r fun x hx => h x (List.mem_cons_of_mem _ hx))
end
theorem snap_dp (R : RelG Kt Φ ι F g H) (r : DV Kt ι F v d) (h : pud 8 (snap g d) = true) : Dp Kt.K H v (py Kt.tab (snap g d)) ∧ inT Kt.tab (snap g d) := by
  cases r with
  | @ref l a e =>
    rw [snap_ref] at h ⊢
    cases z : g[l]? with
    | none => rw [z] at h; simp [pud] at h
    | some o =>
      rw [z] at h
      cases o with
      | lst es =>
        simp only at h ⊢
        obtain ⟨_, vs, e2, q⟩ := R.ob l a _ z e
        unfold py inT
        exact ⟨.lst (.inl (.inl e2)) (DVs.dp R 7 q (by simpa [pud] using h)), q.inTs⟩
      | _ => simp [pud] at h
  | non => exact ⟨.non, by simp [inT]⟩
  | bl b => exact ⟨.bl b, by simp [inT]⟩
  | int i => exact ⟨.int i, by simp [inT]⟩
  | str e => exact ⟨DV.dp R 8 (.str e) rfl, DV.inT (.str (ι := ι) (F := F) e)⟩
  | tup e r => exact ⟨DV.dp R 8 (.tup e r) h, DV.inT (.tup e r)⟩
  | lst e r => exact ⟨DV.dp R 8 (.lst e r) h, DV.inT (.lst e r)⟩
  | scr e r => simp [snap, pud] at h
  | rng e => simp [snap, pud] at h
  | dic e => simp [snap, pud] at h
  | kt e r => simp [snap, pud] at h
end

/-! ### operators -/
abbrev OpT := G → D → D → Option D
def oR (o : Option D) (g : G) : Res D := match o with
  | some d => .ok d g
  | none => .stuck
@[simp] theorem oR_some {d : D} {g : G} : oR (some d) g = .ok d g := rfl
def vOp (o : OpT) (a b : EM) : EM := fun e g => (a e g).bind fun x g1 => (b e g1).bind fun y g2 => oR (o g2 x y) g2
/-- what a value operator of the data says of the values -/
def OpD (Kt : Kit) (r : R2) (o : OpT) : Prop := ∀ {Φ : Hp} {ι : List Addr} {F : Hp} {g : G} {H : Hp} {x y : V} {d e z : D}, RelG Kt Φ ι F g H → DV Kt ι F x d → DV Kt ι F y e → o g d e = some z →
  ∀ Q : VK, (∀ ι' F' H' v, Ex ι F ι' F' → RelG Kt Φ ι' F' g H' → DV Kt ι' F' v z → Q v H') → r x y H Q
def UnD (Kt : Kit) (r : V → Hp → VK → Prop) (o : G → D → Option D) : Prop := ∀ {Φ : Hp} {ι : List Addr} {F : Hp} {g : G} {H : Hp} {x : V} {d z : D}, RelG Kt Φ ι F g H → DV Kt ι F x d → o g d = some z →
  ∀ Q : VK, (∀ ι' F' H' v, Ex ι F ι' F' → RelG Kt Φ ι' F' g H' → DV Kt ι' F' v z → Q v H') → r x H Q
section
variable {Kt : Kit} {W : WX} {ma mb mc : EM} {r : R2} {o : OpT} {σ : L2.St} {H : Hp} {Q : VK}
theorem te_op (hd : OpD Kt r o) (h : te Kt W (vOp o ma mb) σ H Q) : tOp r (te Kt W ma) (te Kt W mb) σ H Q := by
  obtain ⟨Φ, ι, F, e, g, S, h⟩ := h
  refine ⟨Φ, ι, F, e, g, S, (po.bind (Rl := DV Kt) h).imp fun v H1 ⟨ι1, F1, g1, a, x1, R1, r1, h1⟩ => ?_⟩
  refine ⟨Φ, ι1, F1, e, g1, ⟨S.env.mono x1, R1⟩, (po.bind (Rl := DV Kt) h1).imp fun v2 H2 ⟨ι2, F2, g2, b, x2, R2, r2, h2⟩ => ?_⟩
  cases z : o g2 a b with
  | none => rw [z] at h2; exact h2.elim
  | some d => rw [z] at h2; exact hd R2 (r1.mono x2) r2 z Q h2
/-- an answer that is at hand -/
theorem te_un {r : V → Hp → VK → Prop} {o : G → D → Option D} (hd : UnD Kt r o) (h : te Kt W (fun e g => (ma e g).bind fun x g1 => oR (o g1 x) g1) σ H Q) : tUn r (te Kt W ma) σ H Q := by
  obtain ⟨Φ, ι, F, e, g, S, h⟩ := h
  refine ⟨Φ, ι, F, e, g, S, (po.bind (Rl := DV Kt) h).imp fun v H1 ⟨ι1, F1, g1, a, x1, R1, r1, h1⟩ => ?_⟩
  cases z : o g1 a with
  | none => rw [z] at h1; exact h1.elim
  | some d => rw [z] at h1; exact hd R1 r1 z Q h1
end

/-! #### the operators -/
def addD : OpT := fun g x y => match x, y with
  | .int i, .int j => some (.int (i + j))
  | .tup a, .tup b => (match a.isEmpty || !okL (a.length + b.length) with
    | true => none
    | false => some (.tup (a ++ b)))
  | _, _ => match lsD g x, lsD g y with
    | some a, some b => (match okL (a.length + b.length) with
    | true => some (.lst (a ++ b))
    | false => none)
    | _, _ => none
def subD : OpT := fun _ x y => match x, y with
  | .int i, .int j => some (.int (i - j))
  | _, _ => none
def mulD : OpT := fun _ x y => match x, y with
  | .int i, .int j => (match mB i j with
    | true => some (.int (i * j))
    | false => none)
  | .lst a, .int j => (match nB a.length j with
    | true => some (.lst (List.replicate j.toNat a).flatten)
    | false => none)
  | _, _ => none
def divD : OpT := fun _ x y => match x, y with
  | .int i, .int j => (match dB j with
    | true => some (.int (i / j))
    | false => none)
  | _, _ => none
def modD : OpT := fun _ x y => match x, y with
  | .int i, .int j => (match pB j with
    | true => some (.int (i % j))
    | false => none)
  | _, _ => none
def powD : OpT := fun _ x y => match x, y with
  | .int i, .int j => (match wB i j with
    | true => some (.int (i ^ j.toNat))
    | false => none)
  | _, _ => none
def eqD : OpT := fun g x y => match pud 8 (snap g x) && pud 8 (snap g y) with
  | true => some (.bl (deq (snap g x) (snap g y)))
  | false => none
def neD : OpT := fun g x y => match pud 8 (snap g x) && pud 8 (snap g y) with
  | true => some (.bl (!deq (snap g x) (snap g y)))
  | false => none
def icD (p : Int → Int → Bool) : OpT := fun _ x y => match x, y with
  | .int i, .int j => some (.bl (p i j))
  | _, _ => none
abbrev ltD : OpT := icD fun i j => decide (i < j)
abbrev leD : OpT := icD fun i j => decide (i ≤ j)
abbrev gtD : OpT := icD fun i j => decide (j < i)
abbrev geD : OpT := icD fun i j => decide (j ≤ i)
def nonD : D → Bool
  | .non => true
  | _ => false
def isN : OpT := fun _ x y => match y with
  | .non => some (.bl (nonD x))
  | _ => none
def notN : OpT := fun _ x y => match y with
  | .non => some (.bl (!nonD x))
  | _ => none
/-- is False: one of None, True, False, ints .. -/
def sqD (g : G) (d : D) : Option (List D) := match d with
  | .tup ds => some ds
  | .dic [] ds => some ds
  | _ => lsD g d
def inD (neg : Bool) : OpT := fun g x y => match y with
  | .rng lo hi => match x with
    | .int i => (match neg with
      | true => none
      | false => some (.bl (decide (lo ≤ i ∧ i < hi))))
    | _ => none
  | _ => match sqD g y with
    | some ds => (match pud 7 x && ds.all (pud 7) with
      | true => some (.bl ((ds.any fun z => deq z x) != neg))
      | false => none)
    | none => none
/-- the items of what is indexed -/
def itD (g : G) (d : D) : Option (List D) := match d with
  | .tup ds => some ds
  | .scr ds => some ds
  | _ => lsD g d
def ixD : OpT := fun g x y => match y with
  | .int i => match itD g x with
    | some ds => atI ds i
    | none => none
  | _ => none
def cutD (xs : List D) (lo hi : Option Int) : List D := (xs.drop (HT.sIx xs.length 0 lo)).take (HT.sIx xs.length xs.length hi - HT.sIx xs.length 0 lo)
def slD (g : G) (x : D) (lo hi : Option Int) : Option D := match x with
  | .tup ds => (match decide (HT.sIx ds.length 0 lo = 0 ∧ HT.sIx ds.length ds.length hi = ds.length) with
    | true => none
    | false => some (.tup (cutD ds lo hi)))
  | _ => match lsD g x with
    | some ds => some (.lst (cutD ds lo hi))
    | none => none
section
variable {Kt : Kit} {Φ : Hp} {ι : List Addr} {F H : Hp} {g : G}
/-- a new list, a new tuple -/
theorem newL (R : RelG Kt Φ ι F g H) {vs : List V} {ds : List D} (r : DVs Kt ι F vs ds) {Q : VK} (h : ∀ ι' F' H' v, Ex ι F ι' F' → RelG Kt Φ ι' F' g H' → DV Kt ι' F' v (.lst ds) → Q v H') (p : Addr) (hp : H p = none) : Q (.ref p) (upd H p (.lst vs)) := by
  obtain ⟨R', x⟩ := R.frz hp (.lst vs)
  exact h _ _ _ _ x R' (.lst upd_same (r.mono x))
theorem newT (R : RelG Kt Φ ι F g H) {vs : List V} {ds : List D} (r : DVs Kt ι F vs ds) {Q : VK} (h : ∀ ι' F' H' v, Ex ι F ι' F' → RelG Kt Φ ι' F' g H' → DV Kt ι' F' v (.tup ds) → Q v H') (p : Addr) (hp : H p = none) : Q (.ref p) (upd H p (.tup vs)) := by
  obtain ⟨R', x⟩ := R.frz hp (.tup vs)
  exact h _ _ _ _ x R' (.tup upd_same (r.mono x))
theorem od_add : OpD Kt (fun x y H Q => rI0 (fun i j => .int (i + j)) x y H Q ∨ rCatT Kt.K x y H Q ∨ rCat x y H Q) addD := by
  intro Φ ι F g H x y d e z R hx hy h Q q
  unfold addD at h
  split at h
  · cases hx; cases hy; cases h
    exact .inl ⟨_, _, rfl, rfl, q _ _ _ _ Ex.refl R (.int _)⟩
  · rename_i a b
    cases hx with
    | tup e1 r1 =>
    cases hy with
    | tup e2 r2 =>
    split at h
    · cases h
    · rename_i hc
      cases h
      rw [Bool.or_eq_false_iff, Bool.not_eq_false', okL_iff] at hc
      refine .inr (.inl ⟨_, _, _, _, rfl, rfl, sqt_mono R.sub (tS e1), sqt_mono R.sub (tS e2), ?_, ?_, fun e => ?_, fun _ => newT R (r1.append r2) q⟩)
      · intro e; subst e; cases r1; exact Bool.noConfusion hc.1
      · rw [r1.length, r2.length]; exact hc.2
      · subst e; cases r2
        rw [List.append_nil] at q
        exact q _ _ _ _ Ex.refl R (.tup e1 r1)
  · split at h
    · rename_i a b h1 h2
      split at h
      · rename_i hl
        cases h
        obtain ⟨p, vs, rfl, e1, r1⟩ := lsD_ok R hx h1
        obtain ⟨p', vs', rfl, e2, r2⟩ := lsD_ok R hy h2
        exact .inr (.inr ⟨_, _, _, _, rfl, rfl, e1, e2, by rw [r1.length, r2.length]; exact okL_iff.mp hl, newL R (r1.append r2) q⟩)
      · cases h
    · cases h
theorem od_sub : OpD Kt (rI0 fun i j => .int (i - j)) subD := by
  intro Φ ι F g H x y d e z R hx hy h Q q
  unfold subD at h
  split at h
  · cases hx; cases hy; cases h
    exact ⟨_, _, rfl, rfl, q _ _ _ _ Ex.refl R (.int _)⟩
  · cases h
theorem od_mul : OpD Kt (fun x y H Q => rI CMul (fun i j => .int (i * j)) x y H Q ∨ rRep x y H Q) mulD := by
  intro Φ ι F g H x y d e z R hx hy h Q q
  unfold mulD at h
  split at h
  · cases hx; cases hy
    split at h
    · rename_i hc
      cases h
      exact .inl ⟨_, _, rfl, rfl, mB_ok hc, q _ _ _ _ Ex.refl R (.int _)⟩
    · cases h
  · rename_i a j
    cases hx with
    | lst e1 r1 =>
    cases hy
    split at h
    · rename_i hc
      cases h
      have hc := nB_ok hc
      exact .inr ⟨_, _, _, rfl, rfl, R.sub _ _ e1, by have := hc.1; omega, by have := hc.2.1; omega, by rw [r1.length]; exact hc.2.2, newL R (r1.rep _) q⟩
    · cases h
  · cases h
theorem od_div : OpD Kt (rI CDiv fun i j => .int (i / j)) divD := by
  intro Φ ι F g H x y d e z R hx hy h Q q
  unfold divD at h
  split at h
  · cases hx; cases hy
    split at h
    · rename_i hc
      cases h
      exact ⟨_, _, rfl, rfl, dB_ok hc, q _ _ _ _ Ex.refl R (.int _)⟩
    · cases h
  · cases h
theorem od_mod : OpD Kt (rI (fun _ j => 0 < j) fun i j => .int (i % j)) modD := by
  intro Φ ι F g H x y d e z R hx hy h Q q
  unfold modD at h
  split at h
  · cases hx; cases hy
    split at h
    · rename_i hc
      cases h
      exact ⟨_, _, rfl, rfl, pB_ok hc, q _ _ _ _ Ex.refl R (.int _)⟩
    · cases h
  · cases h
theorem od_pow : OpD Kt (rI CPow fun i j => .int (i ^ j.toNat)) powD := by
  intro Φ ι F g H x y d e z R hx hy h Q q
  unfold powD at h
  split at h
  · cases hx; cases hy
    split at h
    · rename_i hc
      cases h
      exact ⟨_, _, rfl, rfl, wB_ok hc, q _ _ _ _ Ex.refl R (.int _)⟩
    · cases h
  · cases h
theorem od_eq : OpD Kt (rEqD Kt.K) eqD := by
  intro Φ ι F g H x y d e z R hx hy h Q q
  unfold eqD at h
  split at h
  · rename_i hc
    cases h
    rw [Bool.and_eq_true] at hc
    obtain ⟨a1, a2⟩ := snap_dp R hx hc.1
    obtain ⟨b1, b2⟩ := snap_dp R hy hc.2
    refine ⟨_, _, a1, b1, py_shaped Kt.sk hc.1 (by decide), py_shaped Kt.sk hc.2 (by decide), ?_⟩
    rw [deq_py Kt.nd _ _ 8 8 hc.1 hc.2 a2 b2]
    exact q _ _ _ _ Ex.refl R (.bl _)
  · cases h
theorem od_ne : OpD Kt (rNeD Kt.K) neD := by
  intro Φ ι F g H x y d e z R hx hy h Q q
  unfold neD at h
  split at h
  · rename_i hc
    cases h
    rw [Bool.and_eq_true] at hc
    obtain ⟨a1, a2⟩ := snap_dp R hx hc.1
    obtain ⟨b1, b2⟩ := snap_dp R hy hc.2
    refine ⟨_, _, a1, b1, py_shaped Kt.sk hc.1 (by decide), py_shaped Kt.sk hc.2 (by decide), ?_⟩
    rw [deq_py Kt.nd _ _ 8 8 hc.1 hc.2 a2 b2]
    exact q _ _ _ _ Ex.refl R (.bl _)
  · cases h
theorem od_ic {p : Int → Int → Bool} : OpD Kt (rI0 fun i j => .bl (p i j)) (icD p) := by
  intro Φ ι F g H x y d e z R hx hy h Q q
  unfold icD at h
  split at h
  · cases hx; cases hy; cases h
    exact ⟨_, _, rfl, rfl, q _ _ _ _ Ex.refl R (.bl _)⟩
  · cases h
theorem DV.non_iff {v : V} {d : D} (r : DV Kt ι F v d) : decide (v = .non) = nonD d := by
  cases r <;> simp [nonD]
theorem od_isN : OpD Kt (fun x y H Q => y = .non ∧ Q (.bl (decide (x = .non))) H) isN := by
  intro Φ ι F g H x y d e z R hx hy h Q q
  unfold isN at h
  split at h
  · cases hy; cases h
    refine ⟨rfl, ?_⟩
    rw [hx.non_iff]
    exact q _ _ _ _ Ex.refl R (.bl _)
  · cases h
theorem od_notN : OpD Kt (fun x y H Q => y = .non ∧ Q (.bl (!decide (x = .non))) H) notN := by
  intro Φ ι F g H x y d e z R hx hy h Q q
  unfold notN at h
  split at h
  · cases hy; cases h
    refine ⟨rfl, ?_⟩
    rw [hx.non_iff]
    exact q _ _ _ _ Ex.refl R (.bl _)
  · cases h
/-- in, not in: lists and tuples of data -/
def rInS (K : PySem.W.Frag) (neg : Bool) : R2 := fun x y H Q => ∃ d ds, Dp K H x d ∧ (Dp K H y (.list ds) ∨ Dp K H y (.tuple ds)) ∧ SeqAt.shaped d = true ∧ PyData.canLayAll0 ds = true ∧ Q (.bl ((ds.any fun z => PyData.eqv z d) != neg)) H
theorem any_pys {T : List Str} (nd : T.Nodup) {x : D} (hx : pud 7 x = true) (ix : inT T x) : ∀ {ds : List D}, (∀ z ∈ ds, pud 7 z = true) → inTs T ds → ((pys T ds).any fun z => PyData.eqv z (py T x)) = ds.any fun z => deq z x
  | [], _, _ => rfl
  | d :: ds, h, i => by
    unfold inTs at i
    simp only [pys, List.any_cons]
    rw [deq_py nd d x 7 7 (h d List.mem_cons_self) hx i.1 ix, any_pys nd hx ix (fun z hz => h z (List.mem_cons_of_mem _ hz)) i.2]
theorem od_in {neg : Bool} : OpD Kt (fun x y H Q => rInS Kt.K neg x y H Q ∨ (neg = false ∧ ∃ i a lo hi, x = V.int i ∧ y = V.ref a ∧ H a = some (.rng lo hi) ∧ Q (.bl (decide (lo ≤ i ∧ i < hi))) H)) (inD neg) := by
  intro Φ ι F g H x y d e z R hx hy h Q q
  unfold inD at h
  split at h
  · cases hy with
    | rng e1 =>
    split at h
    · split at h
      · cases h
      · cases h
        cases hx
        exact .inr ⟨rfl, _, _, _, _, rfl, rfl, R.sub _ _ e1, q _ _ _ _ Ex.refl R (.bl _)⟩
    · cases h
  · split at h
    · rename_i ds hs
      split at h
      · rename_i hc
        cases h
        rw [Bool.and_eq_true, List.all_eq_true] at hc
        refine .inl ?_
        have key : ∀ vs, DVs Kt ι F vs ds → (Dp Kt.K H y (.list (pys Kt.tab ds)) ∨ Dp Kt.K H y (.tuple (pys Kt.tab ds))) → rInS Kt.K neg x y H Q := fun vs r hy' => by
          refine ⟨_, _, hx.dp R 7 hc.1, hy', py_shaped Kt.sk hc.1 (by decide), pys_lay Kt.sk ds, ?_⟩
          rw [any_pys Kt.nd hc.1 hx.inT hc.2 r.inTs]
          exact q _ _ _ _ Ex.refl R (.bl _)
        unfold sqD at hs
        split at hs
        · cases hs
          cases hy with
          | tup e1 r1 => exact key _ r1 (.inr (.tup (sqt_mono R.sub (tS e1)) (r1.dp R 7 hc.2)))
        · cases hs
          cases hy with
          | kt e1 r1 => exact key _ r1 (.inr (.tup (sqt_mono R.sub e1) (r1.dp R 7 hc.2)))
        · obtain ⟨a, vs, rfl, e1, r1⟩ := lsD_ok R hy hs
          exact key _ r1 (.inl (.lst (.inl (.inl e1)) (r1.dp R 7 hc.2)))
      · cases h
    · cases h
theorem op_inS {X : Cx} (hu : X.A.units + 65 < cLine) : OpR X (compareOp .In) (rInS X.K false) := by
  intro pins s σ H x y v u Q I rx ry h
  obtain ⟨d, ds, hd, he, sd, se, q⟩ := h
  obtain ⟨as, r1⟩ := Dp.reads I d x v hd rx
  have q' : Q (.bl (ds.any fun z => PyData.eqv z d)) H := by simpa using q
  rcases he with he | he
  · obtain ⟨bs, r2⟩ := Dp.reads I (.list ds) y u he ry
    exact SeqAt.in_list_reads r2 r1 se (SeqAt.canLay_of_shaped sd) (room_in_shaped sd hu) ⟨.bl _, H, I, rfl, q'⟩
  · obtain ⟨bs, r2⟩ := Dp.reads I (.tuple ds) y u he ry
    exact SeqAt.in_tuple_reads r2 r1 se (SeqAt.canLay_of_shaped sd) (room_in_shaped sd hu) ⟨.bl _, H, I, rfl, q'⟩
theorem op_notInS {X : Cx} (hu : X.A.units + 65 < cLine) : OpR X (compareOp .NotIn) (rInS X.K true) := by
  intro pins s σ H x y v u Q I rx ry h
  obtain ⟨d, ds, hd, he, sd, se, q⟩ := h
  obtain ⟨as, r1⟩ := Dp.reads I d x v hd rx
  have q' : Q (.bl (!ds.any fun z => PyData.eqv z d)) H := by simpa using q
  rcases he with he | he
  · obtain ⟨bs, r2⟩ := Dp.reads I (.list ds) y u he ry
    exact SeqAt.notIn_list_reads r2 r1 se (SeqAt.canLay_of_shaped sd) (room_in_shaped sd hu) ⟨.bl _, H, I, rfl, q'⟩
  · obtain ⟨bs, r2⟩ := Dp.reads I (.tuple ds) y u he ry
    exact SeqAt.notIn_tuple_reads r2 r1 se (SeqAt.canLay_of_shaped sd) (room_in_shaped sd hu) ⟨.bl _, H, I, rfl, q'⟩
theorem DVs.atI {vs : List V} {ds : List D} {i : Int} {d : D} (r : DVs Kt ι F vs ds) (h : L2.atI ds i = some d) : ∃ v, L2.atI vs i = some v ∧ DV Kt ι F v d := by
  unfold L2.atI at h ⊢
  rw [r.length]
  cases z : ixN ds.length i with
  | none => rw [z] at h; cases h
  | some j => rw [z] at h; exact r.get h
theorem od_ix : OpD Kt (rIx Kt.K) ixD := by
  intro Φ ι F g H x y d e z R hx hy h Q q
  unfold ixD at h
  split at h
  · cases hy
    split at h
    · rename_i ds hs
      unfold itD at hs
      split at hs
      · cases hs
        cases hx with
        | tup e1 r1 =>
          obtain ⟨v, h1, h2⟩ := r1.atI h
          exact .inr (.inl ⟨_, _, _, _, rfl, rfl, sqt_mono R.sub (tS e1), h1, q _ _ _ _ Ex.refl R h2⟩)
      · cases hs
        cases hx with
        | scr e1 r1 =>
          obtain ⟨v, h1, h2⟩ := r1.atI h
          exact .inl ⟨_, _, _, _, rfl, rfl, sql_mono R.sub e1, h1, q _ _ _ _ Ex.refl R h2⟩
      · obtain ⟨a, vs, rfl, e1, r1⟩ := lsD_ok R hx hs
        obtain ⟨v, h1, h2⟩ := r1.atI h
        exact .inl ⟨_, _, _, _, rfl, rfl, .inl (.inl e1), h1, q _ _ _ _ Ex.refl R h2⟩
    · cases h
  · cases h
theorem DVs.cut {vs : List V} {ds : List D} (r : DVs Kt ι F vs ds) (lo hi : Option Int) : DVs Kt ι F (cutV vs lo hi) (cutD ds lo hi) := by
  unfold cutV cutD
  rw [r.length]
  exact (r.drop _).take _
theorem sd_sl (R : RelG Kt Φ ι F g H) {x : V} {d z : D} {lo hi : Option Int} (hx : DV Kt ι F x d) (h : slD g d lo hi = some z) {Q : VK} (q : ∀ ι' F' H' v, Ex ι F ι' F' → RelG Kt Φ ι' F' g H' → DV Kt ι' F' v z → Q v H') :
    rSlL Kt.K x lo hi H Q ∨ rSlT Kt.K x lo hi H Q := by
  unfold slD at h
  split at h
  · split at h
    · cases h
    · rename_i hc
      cases h
      cases hx with
      | tup e1 r1 => exact .inr ⟨_, _, rfl, sqt_mono R.sub (tS e1), by rw [r1.length]; exact of_decide_eq_false hc, newT R (r1.cut lo hi) q⟩
  · split at h
    · rename_i ds hs
      cases h
      obtain ⟨a, vs, rfl, e1, r1⟩ := lsD_ok R hx hs
      exact .inl ⟨_, _, rfl, .inl (.inl e1), newL R (r1.cut lo hi) q⟩
    · cases h
def negD (g : G) (x : D) : Option D := match x with
  | .int i => some (.int (-i))
  | _ => none
theorem ud_neg : UnD Kt (rU fun i => .int (-i)) negD := by
  intro Φ ι F g H x d z R hx h Q q
  unfold negD at h
  split at h
  · cases hx; cases h
    exact ⟨_, rfl, q _ _ _ _ Ex.refl R (.int _)⟩
  · cases h
end
end Y

set_option Elab.async false
set_option linter.all false
set_option maxRecDepth 100000
namespace Y
open PySem PySem.Spec PyProof.Rows L2

/-! ### expressions -/
def vVar (i : Nat) : EM := fun e g => match e[i]? with
  | some (some d) => .ok d g
  | _ => .stuck
def vC (d : D) : EM := fun _ g => .ok d g
def vUn (o : G → D → Option D) (m : EM) : EM := fun e g => (m e g).bind fun x g1 => oR (o g1 x) g1
def bR (d : D) (g : G) : Res Bool := match d with
  | .bl b => .ok b g
  | _ => .stuck
@[simp] theorem bR_bl {b : Bool} {g : G} : bR (.bl b) g = .ok b g := rfl
def tOf (m : EM) : TM := fun e g => (m e g).bind bR
def tAnd (a b : TM) : TM := fun e g => (a e g).bind fun c g1 => bif c then b e g1 else .ok false g1
def tOr (a b : TM) : TM := fun e g => (a e g).bind fun c g1 => bif c then .ok true g1 else b e g1
def tNot (a : TM) : TM := fun e g => (a e g).bind fun c g1 => .ok (!c) g1
def vAnd (a b : EM) : EM := fun e g => (a e g).bind fun d g1 => (bR d g1).bind fun c g2 => bif c then b e g2 else .ok (.bl false) g2
def vOr (a b : EM) : EM := fun e g => (a e g).bind fun d g1 => (bR d g1).bind fun c g2 => bif c then .ok (.bl true) g2 else b e g2
def vNot (a : EM) : EM := fun e g => (a e g).bind fun d g1 => (bR d g1).bind fun c g2 => .ok (.bl (!c)) g2
def vIf (t : TM) (a b : EM) : EM := fun e g => (t e g).bind fun c g1 => bif c then a e g1 else b e g1
def vChain (o o' : OpT) (a b c : EM) : EM := fun e g => (a e g).bind fun x g1 => (b e g1).bind fun y g2 => (oR (o g2 x y) g2).bind fun z g3 => (bR z g3).bind fun k g4 => bif k then (c e g4).bind fun w g5 => oR (o' g5 y w) g5 else .ok (.bl false) g4
/-- truth -/
def truD (g : G) (d : D) : Option Bool := match snap g d with
  | .non => some false
  | .bl b => some b
  | .int i => some (i != 0)
  | .tup ds => some (!ds.isEmpty)
  | .lst ds => some (!ds.isEmpty)
  | _ => none
def tTru (m : EM) : TM := fun e g => (m e g).bind fun d g1 => match truD g1 d with
  | some b => .ok b g1
  | none => .stuck
def aNil : AM := fun _ g => .ok [] g
def aCons (a : EM) (r : AM) : AM := fun e g => (a e g).bind fun d g1 => (r e g1).bind fun ds g2 => .ok (d :: ds) g2
def vTup (a : AM) : EM := fun e g => (a e g).bind fun ds g1 => match okL ds.length with
  | true => .ok (.tup ds) g1
  | false => .stuck
def vLst (a : AM) : EM := fun e g => (a e g).bind fun ds g1 => match okL ds.length with
  | true => .ok (.lst ds) g1
  | false => .stuck
/-- a list that will change: an object -/
def vLstO (a : AM) : EM := fun e g => (a e g).bind fun ds g1 => match okL ds.length with
  | true => .ok (.ref g1.length) (g1 ++ [.lst ds])
  | false => .stuck
def fldD (cs : List Nat) (n : Nat) (g : G) (d : D) : Option D := match d with
  | .ref l => match g[l]? with
    | some (.ins c fs) => (match cs.contains c with
      | true => lkA n fs
      | false => none)
    | _ => none
  | _ => none
abbrev vFld (cs : List Nat) (n : Nat) (m : EM) : EM := vUn (fldD cs n) m
def vSl (m : EM) (lo hi : Option EM) : EM := fun e g => (m e g).bind fun x g1 => (match lo with
  | none => .ok none g1
  | some a => (a e g1).bind fun d g2 => match d with
    | .int i => .ok (some i) g2
    | _ => .stuck : Res (Option Int)).bind fun l g3 => (match hi with
  | none => .ok none g3
  | some a => (a e g3).bind fun d g2 => match d with
    | .int i => .ok (some i) g2
    | _ => .stuck : Res (Option Int)).bind fun u g4 => oR (slD g4 x l u) g4
/-- a built-in of values -/
def vCB (o : G → List D → Option D) (a : AM) : EM := fun e g => (a e g).bind fun ds g1 => oR (o g1 ds) g1

section
variable {Kt : Kit} {X : Cx} {W : WX} {k : Nat} {a b c : Expr} {ma mb mc : EM} {ta' tb' : TM} {pos : Pos} {es : List Expr} {ms : AM} {σ : L2.St} {H : Hp}
theorem se_var (i : Nat) {x : Str} (hN : X.N[i]? = some x := by rfl) (hv : Vis X.env.scope x := by first | exact Or.inl rfl | exact Or.inr (Or.inl rfl) | exact Or.inr (Or.inr rfl)) (hd : (x == ("__debug__" : Str)) = false := by decide)
    (hcd : (x == ("__classdict__" : Str)) = false := by decide) : PE X (.Name x pos) (te Kt W (vVar i)) :=
  (pv i hN hv hd hcd).imp fun σ H Q ⟨Φ, ι, F, e, g, S, h⟩ => by
    unfold vVar at h
    cases z : e[i]? with
    | none => rw [z] at h; exact h.elim
    | some o =>
      rw [z] at h
      cases o with
      | none => exact h.elim
      | some d =>
        obtain ⟨v, hv, r⟩ := S.env.2 i d z
        exact ⟨v, hv, h _ _ _ _ Ex.refl S.rel r⟩
theorem te_c {v : V} {d : D} (hd : ∀ ι F, DV Kt ι F v d) {Q : VK} (h : te Kt W (vC d) σ H Q) : tC v σ H Q := by
  obtain ⟨Φ, ι, F, e, g, S, h⟩ := h
  exact h _ _ _ _ Ex.refl S.rel (hd _ _)
theorem se_int {i : Int} {j} : PE X (.Constant (.int i) j pos) (te Kt W (vC (.int i))) := pe_int.imp fun _ _ _ => te_c fun _ _ => .int i
theorem se_bl {i : Bool} {j} : PE X (.Constant (.bool i) j pos) (te Kt W (vC (.bl i))) := pe_bl.imp fun _ _ _ => te_c fun _ _ => .bl i
theorem se_non {j} : PE X (.Constant .none j pos) (te Kt W (vC .non)) := pe_non.imp fun _ _ _ => te_c fun _ _ => .non
theorem se_str (n : Nat) {x : Str} {j} (h : Kt.tab[n]? = some x) : PE X (.Constant (.str x) j pos) (te Kt W (vC (.str n))) := pe_str.imp fun _ _ _ => te_c fun _ _ => .str h
theorem se_glob {x : Str} {v : V} {u : Value} {d : D} (A : At Kt X W k) (hm : Kt.mg x = some u) (r : RelV v u) (hd : ∀ ι F, DV Kt ι F v d) (hg : Gl X x := by rfl) (hdb : (x == ("__debug__" : Str)) = false := by decide) : PE X (.Name x pos) (te Kt W (vC d)) :=
  (pe_glob hg (A.em ▸ hm) r hdb).imp fun _ _ _ => te_c hd
theorem se_op {op : Operator} {r : R2} {o : OpT} (ho : OpR X (binaryOp op) r) (hd : OpD Kt r o) (ha : PE X a (te Kt W ma)) (hb : PE X b (te Kt W mb)) : PE X (.BinOp a op b pos) (te Kt W (vOp o ma mb)) :=
  (pe_op ho ha hb).imp fun _ _ _ => te_op hd
theorem or_add (A : At Kt X W k) : OpR X (binaryOp .Add) (fun x y H Q => rI0 (fun i j => .int (i + j)) x y H Q ∨ rCatT Kt.K x y H Q ∨ rCat x y H Q) := op_add.or ((A.eK ▸ op_catT).or op_cat)
theorem or_mul : OpR X (binaryOp .Mult) (fun x y H Q => rI CMul (fun i j => .int (i * j)) x y H Q ∨ rRep x y H Q) := op_mul.or op_rep
theorem se_add (A : At Kt X W k) (ha : PE X a (te Kt W ma)) (hb : PE X b (te Kt W mb)) : PE X (.BinOp a .Add b pos) (te Kt W (vOp addD ma mb)) := se_op (or_add A) od_add ha hb
theorem se_sub (ha : PE X a (te Kt W ma)) (hb : PE X b (te Kt W mb)) : PE X (.BinOp a .Sub b pos) (te Kt W (vOp subD ma mb)) := se_op op_sub od_sub ha hb
theorem se_mul (ha : PE X a (te Kt W ma)) (hb : PE X b (te Kt W mb)) : PE X (.BinOp a .Mult b pos) (te Kt W (vOp mulD ma mb)) := se_op or_mul od_mul ha hb
theorem se_div (ha : PE X a (te Kt W ma)) (hb : PE X b (te Kt W mb)) : PE X (.BinOp a .FloorDiv b pos) (te Kt W (vOp divD ma mb)) := se_op op_fdiv od_div ha hb
theorem se_mod (ha : PE X a (te Kt W ma)) (hb : PE X b (te Kt W mb)) : PE X (.BinOp a .Mod b pos) (te Kt W (vOp modD ma mb)) := se_op op_mod od_mod ha hb
theorem se_pow (ha : PE X a (te Kt W ma)) (hb : PE X b (te Kt W mb)) : PE X (.BinOp a .Pow b pos) (te Kt W (vOp powD ma mb)) := se_op op_pow od_pow ha hb
theorem se_neg (ha : PE X a (te Kt W ma)) : PE X (.UnaryOp .USub a pos) (te Kt W (vUn negD ma)) := (pe_un un_neg ha).imp fun _ _ _ => te_un ud_neg

/-! #### comparisons -/
structure Cmp (Kt : Kit) (X : Cx) (op : CmpOp) (o : OpT) : Prop where
  ex : ∃ r, OpR X (compareOp op) r ∧ OpD Kt r o
theorem cm_eq (A : At Kt X W k) : Cmp Kt X .Eq eqD := ⟨_, A.eK ▸ op_eqD (by have := A.hu; omega), od_eq⟩
theorem cm_ne (A : At Kt X W k) : Cmp Kt X .NotEq neD := ⟨_, A.eK ▸ op_neD (by have := A.hu; omega), od_ne⟩
theorem cm_lt : Cmp Kt X .Lt ltD := ⟨_, op_lt, od_ic⟩
theorem cm_le : Cmp Kt X .LtE leD := ⟨_, op_le, od_ic⟩
theorem cm_gt : Cmp Kt X .Gt gtD := ⟨_, op_gt, od_ic⟩
theorem cm_ge : Cmp Kt X .GtE geD := ⟨_, op_ge, od_ic⟩
theorem cm_is : Cmp Kt X .Is isN := ⟨_, op_isN, od_isN⟩
theorem cm_not : Cmp Kt X .IsNot notN := ⟨_, op_notN, od_notN⟩
theorem op_in_rng1 : OpR X (compareOp .In) (fun x y H Q => false = false ∧ ∃ i a lo hi, x = V.int i ∧ y = V.ref a ∧ H a = some (.rng lo hi) ∧ Q (.bl (decide (lo ≤ i ∧ i < hi))) H) :=
  fun pins s σ H x y v u Q I rx ry h => op_in_rng pins s σ H x y v u Q I rx ry h.2
theorem cm_in (A : At Kt X W k) : Cmp Kt X .In (inD false) := ⟨_, (A.eK ▸ op_inS A.hu : OpR X _ (rInS Kt.K false)).or op_in_rng1, od_in⟩
theorem op_never {f : Value → Value → Sem Value} {r : R2} : OpR X f (fun x y H Q => true = false ∧ r x y H Q) := fun pins s σ H x y v u Q I rx ry h => Bool.noConfusion h.1
theorem cm_notin (A : At Kt X W k) : Cmp Kt X .NotIn (inD true) := ⟨_, (A.eK ▸ op_notInS A.hu : OpR X _ (rInS Kt.K true)).or op_never, od_in⟩
theorem se_cmp {op : CmpOp} {o : OpT} (h : Cmp Kt X op o) (ha : PE X a (te Kt W ma)) (hb : PE X b (te Kt W mb)) (hm : behindInMarks op b = false := by first | exact nomark _ | rfl) : PE X (.Compare a [op] [b] pos) (te Kt W (vOp o ma mb)) :=
  let ⟨r, ho, hd⟩ := h.ex
  (pe_cmpR ho ha hb hm).imp fun _ _ _ => te_op hd
theorem te_tOf {t : TE} {m : EM} (i : ∀ Q, te Kt W m σ H Q → t σ H Q) {Q : Bool → Hp → Prop} (h : tt Kt W (tOf m) σ H Q) : tTest t σ H Q := by
  obtain ⟨Φ, ι, F, e, g, S, h⟩ := h
  refine i _ ⟨Φ, ι, F, e, g, S, (po.bind (Rl := DV Kt) h).imp fun v H1 ⟨ι1, F1, g1, d, x1, R1, r1, h1⟩ => ?_⟩
  cases r1 with
  | bl b => exact ⟨b, rfl, h1 _ _ _ _ Ex.refl R1 rfl⟩
  | _ => exact h1.elim
theorem st_cmp {op : CmpOp} {o : OpT} (h : Cmp Kt X op o) (ha : PE X a (te Kt W ma)) (hb : PE X b (te Kt W mb)) (hm : behindInMarks op b = false := by first | exact nomark _ | rfl) : PT X (.Compare a [op] [b] pos) (tt Kt W (tOf (vOp o ma mb))) :=
  let ⟨r, ho, hd⟩ := h.ex
  (pt_cmpR ho ha hb hm).imp fun _ _ _ => te_tOf fun _ => te_op hd
theorem te_chain {r r' : R2} {o o' : OpT} (hd : OpD Kt r o) (hd' : OpD Kt r' o') {Q : VK} (h : te Kt W (vChain o o' ma mb mc) σ H Q) : tChain r r' (te Kt W ma) (te Kt W mb) (te Kt W mc) σ H Q := by
  obtain ⟨Φ, ι, F, e, g, S, h⟩ := h
  refine ⟨Φ, ι, F, e, g, S, (po.bind (Rl := DV Kt) h).imp fun v H1 ⟨ι1, F1, g1, d1, x1, R1, r1, h1⟩ => ?_⟩
  refine ⟨Φ, ι1, F1, e, g1, ⟨S.env.mono x1, R1⟩, (po.bind (Rl := DV Kt) h1).imp fun v2 H2 ⟨ι2, F2, g2, d2, x2, R2, r2, h2⟩ => ?_⟩
  cases z : o g2 d1 d2 with
  | none => rw [z] at h2; exact h2.elim
  | some d =>
    rw [z] at h2
    refine hd R2 (r1.mono x2) r2 z _ fun ι3 F3 H3 v3 x3 R3 r3 => ?_
    cases r3 with
    | bl c =>
      refine ⟨c, rfl, ?_⟩
      have h3 : po Kt Φ W σ (DV Kt) ι2 F2 (bif c then (mc e g2).bind fun w g5 => oR (o' g5 d2 w) g5 else .ok (.bl false) g2) Q := h2
      cases c with
      | false => rw [if_neg Bool.false_ne_true]; exact h3 _ _ _ _ x3 R3 (.bl _)
      | true =>
        rw [if_pos rfl]
        refine ⟨Φ, ι3, F3, e, g2, ⟨S.env.mono ((x1.trans x2).trans x3), R3⟩, ((po.bind (Rl := DV Kt) (h3.mono x3))).imp fun v4 H4 ⟨ι4, F4, g4, d4, x4, R4, r4, h4⟩ => ?_⟩
        cases z' : o' g4 d2 d4 with
        | none => rw [z'] at h4; exact h4.elim
        | some d5 => rw [z'] at h4; exact hd' R4 (r2.mono (x3.trans x4)) r4 z' Q h4
    | _ => exact h2.elim
theorem se_chain {op op' : CmpOp} {o o' : OpT} (h : Cmp Kt X op o) (h' : Cmp Kt X op' o') (ha : PE X a (te Kt W ma)) (hb : PE X b (te Kt W mb)) (hc : PE X c (te Kt W mc)) (hm : lastMarks [op, op'] [b, c] = false := by with_unfolding_all rfl) :
    PE X (.Compare a [op, op'] [b, c] pos) (te Kt W (vChain o o' ma mb mc)) :=
  let ⟨r, ho, hd⟩ := h.ex
  let ⟨r', ho', hd'⟩ := h'.ex
  (pe_chain ho ho' ha hb hc hm).imp fun _ _ _ => te_chain hd hd'
theorem st_chain {op op' : CmpOp} {o o' : OpT} (h : Cmp Kt X op o) (h' : Cmp Kt X op' o') (ha : PE X a (te Kt W ma)) (hb : PE X b (te Kt W mb)) (hc : PE X c (te Kt W mc)) (hm : lastMarks [op, op'] [b, c] = false := by with_unfolding_all rfl) :
    PT X (.Compare a [op, op'] [b, c] pos) (tt Kt W (tOf (vChain o o' ma mb mc))) :=
  let ⟨r, ho, hd⟩ := h.ex
  let ⟨r', ho', hd'⟩ := h'.ex
  (pt_chain ho ho' ha hb hc hm).imp fun _ _ _ => te_tOf fun _ => te_chain hd hd'

/-! #### and, or, not, if -/
theorem sw_and1 (ha : PT X a (tt Kt W ta')) : PW X (.BoolOp .And [a] pos) (tt Kt W ta') := pw_and1 ha
theorem sw_or1 (ha : PT X a (tt Kt W ta')) : PW X (.BoolOp .Or [a] pos) (tt Kt W ta') := pw_or1 ha
theorem sw_and {rest : List Expr} (ha : PT X a (tt Kt W ta')) (hb : PW X (.BoolOp .And (b :: rest) pos) (tt Kt W tb')) : PW X (.BoolOp .And (a :: b :: rest) pos) (tt Kt W (tAnd ta' tb')) :=
  L2.PW.imp (pw_and ha hb) fun σ H Q ⟨Φ, ι, F, e, g, S, h⟩ => ⟨Φ, ι, F, e, g, S, (po.bind (Rl := RB) h).imp fun v H1 ⟨ι1, F1, g1, d1, x1, R1, r1, h1⟩ => by
    obtain rfl : v = d1 := r1
    cases v with
    | true => rw [if_pos rfl]; exact ⟨Φ, ι1, F1, e, g1, ⟨S.env.mono x1, R1⟩, h1⟩
    | false => rw [if_neg Bool.false_ne_true]; exact h1 _ _ _ _ Ex.refl R1 rfl⟩
theorem sw_or {rest : List Expr} (ha : PT X a (tt Kt W ta')) (hb : PW X (.BoolOp .Or (b :: rest) pos) (tt Kt W tb')) : PW X (.BoolOp .Or (a :: b :: rest) pos) (tt Kt W (tOr ta' tb')) :=
  L2.PW.imp (pw_or ha hb) fun σ H Q ⟨Φ, ι, F, e, g, S, h⟩ => ⟨Φ, ι, F, e, g, S, (po.bind (Rl := RB) h).imp fun v H1 ⟨ι1, F1, g1, d1, x1, R1, r1, h1⟩ => by
    obtain rfl : v = d1 := r1
    cases v with
    | true => rw [if_pos rfl]; exact h1 _ _ _ _ Ex.refl R1 rfl
    | false => rw [if_neg Bool.false_ne_true]; exact ⟨Φ, ι1, F1, e, g1, ⟨S.env.mono x1, R1⟩, h1⟩⟩
theorem st_not (ha : PT X a (tt Kt W ta')) : PT X (.UnaryOp .Not a pos) (tt Kt W (tNot ta')) :=
  (pt_not ha).imp fun σ H Q ⟨Φ, ι, F, e, g, S, h⟩ => ⟨Φ, ι, F, e, g, S, (po.bind (Rl := RB) h).imp fun v H1 ⟨ι1, F1, g1, d1, x1, R1, r1, h1⟩ => by
    obtain rfl : v = d1 := r1
    exact h1 _ _ _ _ Ex.refl R1 rfl⟩
theorem se_one {op} (ha : PE X a (te Kt W ma)) : PE X (.BoolOp op [a] pos) (te Kt W ma) := pe_one ha
theorem se_and {rest : List Expr} (ha : PE X a (te Kt W ma)) (hb : PE X (.BoolOp .And (b :: rest) pos) (te Kt W mb)) : PE X (.BoolOp .And (a :: b :: rest) pos) (te Kt W (vAnd ma mb)) :=
  (pe_and ha hb).imp fun σ H Q ⟨Φ, ι, F, e, g, S, h⟩ => ⟨Φ, ι, F, e, g, S, (po.bind (Rl := DV Kt) h).imp fun v H1 ⟨ι1, F1, g1, d1, x1, R1, r1, h1⟩ => by
    cases r1 with
    | bl c =>
      refine ⟨c, rfl, ?_⟩
      cases c with
      | true => rw [if_pos rfl]; exact ⟨Φ, ι1, F1, e, g1, ⟨S.env.mono x1, R1⟩, h1⟩
      | false => rw [if_neg Bool.false_ne_true]; exact h1 _ _ _ _ Ex.refl R1 (.bl _)
    | _ => exact h1.elim⟩
theorem se_or {rest : List Expr} (ha : PE X a (te Kt W ma)) (hb : PE X (.BoolOp .Or (b :: rest) pos) (te Kt W mb)) : PE X (.BoolOp .Or (a :: b :: rest) pos) (te Kt W (vOr ma mb)) :=
  (pe_or ha hb).imp fun σ H Q ⟨Φ, ι, F, e, g, S, h⟩ => ⟨Φ, ι, F, e, g, S, (po.bind (Rl := DV Kt) h).imp fun v H1 ⟨ι1, F1, g1, d1, x1, R1, r1, h1⟩ => by
    cases r1 with
    | bl c =>
      refine ⟨c, rfl, ?_⟩
      cases c with
      | true => rw [if_pos rfl]; exact h1 _ _ _ _ Ex.refl R1 (.bl _)
      | false => rw [if_neg Bool.false_ne_true]; exact ⟨Φ, ι1, F1, e, g1, ⟨S.env.mono x1, R1⟩, h1⟩
    | _ => exact h1.elim⟩
theorem se_not (ha : PE X a (te Kt W ma)) : PE X (.UnaryOp .Not a pos) (te Kt W (vNot ma)) :=
  (pe_not ha).imp fun σ H Q ⟨Φ, ι, F, e, g, S, h⟩ => ⟨Φ, ι, F, e, g, S, (po.bind (Rl := DV Kt) h).imp fun v H1 ⟨ι1, F1, g1, d1, x1, R1, r1, h1⟩ => by
    cases r1 with
    | bl c => exact ⟨c, rfl, h1 _ _ _ _ Ex.refl R1 (.bl _)⟩
    | _ => exact h1.elim⟩
theorem se_if (hc : PT X c (tt Kt W ta')) (ha : PE X a (te Kt W ma)) (hb : PE X b (te Kt W mb)) : PE X (.IfExp c a b pos) (te Kt W (vIf ta' ma mb)) :=
  (pe_ifExp hc ha hb).imp fun σ H Q ⟨Φ, ι, F, e, g, S, h⟩ => ⟨Φ, ι, F, e, g, S, (po.bind (Rl := RB) h).imp fun v H1 ⟨ι1, F1, g1, d1, x1, R1, r1, h1⟩ => by
    obtain rfl : v = d1 := r1
    cases v with
    | true => rw [if_pos rfl]; exact ⟨Φ, ι1, F1, e, g1, ⟨S.env.mono x1, R1⟩, h1⟩
    | false => rw [if_neg Bool.false_ne_true]; exact ⟨Φ, ι1, F1, e, g1, ⟨S.env.mono x1, R1⟩, h1⟩⟩
/-! #### a value as a test -/
theorem truD_ok {Φ : Hp} {ι : List Addr} {F : Hp} {g : G} {v : V} {d : D} {b : Bool} (R : RelG Kt Φ ι F g H) (r : DV Kt ι F v d) (h : truD g d = some b) : TruV Kt.K v H b := by
  have key : ∀ ds, lsD g d = some ds → TruV Kt.K v H (!ds.isEmpty) := fun ds e => by
    obtain ⟨a, vs, rfl, e1, r1⟩ := lsD_ok R r e
    refine .inl ⟨vs, .inl (.inl e1), ?_⟩
    cases r1 <;> rfl
  unfold truD at h
  cases r with
  | non => simp at h; subst h; rfl
  | bl b => simp at h; subst h; rfl
  | int i => simp at h; subst h; rfl
  | tup e r =>
    cases (show some _ = some b from h)
    refine .inr (.inl ⟨_, sqt_mono R.sub (tS e), ?_⟩)
    cases r <;> rfl
  | lst e r => cases (show some _ = some b from h); exact key _ rfl
  | ref e =>
    rename_i l _
    cases z : snap g (.ref l) with
    | lst es => rw [z] at h; cases (show some _ = some b from h); exact key _ (by unfold lsD; rw [z])
    | non => rw [snap_ref] at z; split at z <;> cases z
    | bl b => rw [snap_ref] at z; split at z <;> cases z
    | int b => rw [snap_ref] at z; split at z <;> cases z
    | tup b => rw [snap_ref] at z; split at z <;> cases z
    | _ => rw [z] at h; simp at h
  | scr e => simp [snap] at h
  | str e => simp at h
  | rng e => simp at h
  | dic e => simp [snap] at h
  | kt e r => simp [snap] at h
theorem st_tru (A : At Kt X W k) (ha : PE X a (te Kt W ma)) (he : ∀ whole, isTrue a X.env whole = (do let v ← whole; standAt a.pos; holding [v] (truthy v)) := by intro _; rfl) : PT X a (tt Kt W (tTru ma)) :=
  (pt_truth ha he).imp fun σ H Q ⟨Φ, ι, F, e, g, S, h⟩ => ⟨Φ, ι, F, e, g, S, (po.bind (Rl := DV Kt) h).imp fun v H1 ⟨ι1, F1, g1, d1, x1, R1, r1, h1⟩ => by
    cases z : truD g1 d1 with
    | none => rw [z] at h1; exact h1.elim
    | some b => rw [z] at h1; exact ⟨b, A.eK ▸ truD_ok R1 r1 z, h1 _ _ _ _ Ex.refl R1 rfl⟩⟩
/-- a call, an attribute that gives a bool -/
theorem st_val (ha : PE X a (te Kt W ma)) (he : ∀ whole, isTrue a X.env whole = (do let v ← whole; standAt a.pos; holding [v] (truthy v)) := by intro _; rfl) : PT X a (tt Kt W (tOf ma)) :=
  (pt_val ha he).imp fun σ H Q h => te_tOf (fun _ q => q) h

/-! #### items, slices, displays, attributes -/
theorem se_ix (A : At Kt X W k) (ha : PE X a (te Kt W ma)) (hb : PE X b (te Kt W mb)) (hs : PlainIx b := by intro _ _; rfl) : PE X (.Subscript a b pos) (te Kt W (vOp ixD ma mb)) :=
  (pe_ix (A.eK ▸ ix_seq : IxR X (rIx Kt.K)) ha hb hs).imp fun _ _ _ => te_op od_ix
def RO (Kt : Kit) : List Addr → Hp → Option Int → Option Int → Prop := fun _ _ a b => a = b
/-- a slice's part -/
structure PSl (Kt : Kit) (X : Cx) (W : WX) (o : Option Expr) (m : Option EM) : Prop where
  ex : ∃ t, PO X o t ∧ ∀ σ H Φ ι F e g (Q : Option Int → Hp → Prop), St' Kt Φ ι F e g σ H → po Kt Φ W σ (RO Kt) ι F (match m with
  | none => .ok none g
  | some a => (a e g).bind fun d g2 => match d with
    | .int i => .ok (some i) g2
    | _ => .stuck : Res (Option Int)) Q → t σ H Q
theorem sl_no : PSl Kt X W none none := ⟨_, po_none, fun σ H Φ ι F e g Q S h => h _ _ _ _ Ex.refl S.rel rfl⟩
theorem sl_so (ha : PE X a (te Kt W ma)) : PSl Kt X W (some a) (some ma) := ⟨_, po_some ha, fun σ H Φ ι F e g Q S h => ⟨Φ, ι, F, e, g, S, (po.bind (Rl := DV Kt) h).imp fun v H1 ⟨ι1, F1, g1, d1, x1, R1, r1, h1⟩ => by
    cases r1 with
    | int i => exact ⟨i, rfl, h1 _ _ _ _ Ex.refl R1 rfl⟩
    | _ => exact h1.elim⟩⟩
theorem se_sl {lo hi : Option Expr} {ml mh : Option EM} {p2 : Pos} (A : At Kt X W k) (ha : PE X a (te Kt W ma)) (hl : PSl Kt X W lo ml) (hh : PSl Kt X W hi mh) : PE X (.Subscript a (.Slice lo hi none p2) pos) (te Kt W (vSl ma ml mh)) := by
  obtain ⟨tl, pl, il⟩ := hl.ex
  obtain ⟨th, ph, ih⟩ := hh.ex
  refine (pe_slice ((A.eK ▸ sl_list : SlR X (rSlL Kt.K)).or (A.eK ▸ sl_tup : SlR X (rSlT Kt.K))) ha pl ph).imp fun σ H Q ⟨Φ, ι, F, e, g, S, h⟩ => ⟨Φ, ι, F, e, g, S, (po.bind (Rl := DV Kt) h).imp fun v H1 ⟨ι1, F1, g1, d1, x1, R1, r1, h1⟩ => ?_⟩
  refine il σ H1 Φ ι1 F1 e g1 _ ⟨S.env.mono x1, R1⟩ ((po.bind (Rl := RO Kt) h1).imp fun v2 H2 ⟨ι2, F2, g2, d2, x2, R2, r2, h2⟩ => ?_)
  refine ih σ H2 Φ ι2 F2 e g2 _ ⟨S.env.mono (x1.trans x2), R2⟩ ((po.bind (Rl := RO Kt) h2).imp fun v3 H3 ⟨ι3, F3, g3, d3, x3, R3, r3, h3⟩ => ?_)
  obtain rfl : v2 = d2 := r2
  obtain rfl : v3 = d3 := r3
  cases z : slD g3 d1 v2 v3 with
  | none => rw [z] at h3; exact h3.elim
  | some d => rw [z] at h3; exact sd_sl R3 (r1.mono (x2.trans x3)) z h3
theorem sa_nil : PA X [] (ta Kt W aNil) := L2.PA.imp pa_nil fun σ H Q ⟨Φ, ι, F, e, g, S, h⟩ => h _ _ _ _ Ex.refl S.rel .nil
theorem sa_cons (ha : PE X a (te Kt W ma)) (hr : PA X es (ta Kt W ms)) (hs : starEach (a :: es) X.env = (false, eval a X.env) :: starEach es X.env := by rfl) : PA X (a :: es) (ta Kt W (aCons ma ms)) :=
  L2.PA.imp (pa_cons ha hr hs) fun σ H Q ⟨Φ, ι, F, e, g, S, h⟩ => ⟨Φ, ι, F, e, g, S, (po.bind (Rl := DV Kt) h).imp fun v H1 ⟨ι1, F1, g1, d1, x1, R1, r1, h1⟩ => by
    refine ⟨Φ, ι1, F1, e, g1, ⟨S.env.mono x1, R1⟩, (po.bind (Rl := DVs Kt) h1).imp fun v2 H2 ⟨ι2, F2, g2, d2, x2, R2, r2, h2⟩ => ?_⟩
    exact h2 _ _ _ _ Ex.refl R2 (.cons (r1.mono x2) r2)⟩
theorem se_tup {x1} (h : PA X es (ta Kt W ms)) : PE X (.Tuple es x1 pos) (te Kt W (vTup ms)) :=
  (pe_tup h).imp fun σ H Q ⟨Φ, ι, F, e, g, S, h⟩ => ⟨Φ, ι, F, e, g, S, (po.bind (Rl := DVs Kt) h).imp fun v H1 ⟨ι1, F1, g1, d1, x1, R1, r1, h1⟩ => by
    split at h1
    · rename_i hl
      exact ⟨by rw [r1.length]; exact okL_iff.mp hl, newT R1 r1 h1⟩
    · exact h1.elim⟩
theorem se_lst (h : PA X es (ta Kt W ms)) : PE X (.List es pos) (te Kt W (vLst ms)) :=
  (pe_lst h).imp fun σ H Q ⟨Φ, ι, F, e, g, S, h⟩ => ⟨Φ, ι, F, e, g, S, (po.bind (Rl := DVs Kt) h).imp fun v H1 ⟨ι1, F1, g1, d1, x1, R1, r1, h1⟩ => by
    split at h1
    · rename_i hl
      exact ⟨by rw [r1.length]; exact okL_iff.mp hl, newL R1 r1 h1⟩
    · exact h1.elim⟩
theorem get_snoc {ι : List Addr} {p : Addr} {n : Nat} (h : ι.length = n) : (ι ++ [p])[n]? = some p := by
  rw [List.getElem?_append_right (by omega), h, Nat.sub_self]; rfl
theorem newO {Φ : Hp} {ι : List Addr} {F : Hp} {g : G} (R : RelG Kt Φ ι F g H) {vs : List V} {ds : List D} (r : DVs Kt ι F vs ds) {Q : VK} (h : ∀ ι' F' H' v, Ex ι F ι' F' → RelG Kt Φ ι' F' (g ++ [.lst ds]) H' → DV Kt ι' F' v (.ref g.length) → Q v H') (p : Addr) (hp : H p = none) : Q (.ref p) (upd H p (.lst vs)) := by
  have fp : F p = none := by
    cases e : F p with
    | none => rfl
    | some u => rw [R.sub p u e] at hp; cases hp
  have x : Ex ι F (ι ++ [p]) F := ⟨fun l a h => by rw [List.getElem?_append_left (List.getElem?_eq_some_iff.mp h).1]; exact h, fun _ _ h => h⟩
  obtain ⟨R', _⟩ := R.new hp (fun a o q => by rw [upd_ne (ne_of_none q hp)]; exact q) (by rw [upd_same]; simp) (o := .lst ds) ⟨fp, vs, upd_same, r.mono x⟩
  exact h _ _ _ _ x R' (.ref (get_snoc R.len))
theorem se_lstO (h : PA X es (ta Kt W ms)) : PE X (.List es pos) (te Kt W (vLstO ms)) :=
  (pe_lst h).imp fun σ H Q ⟨Φ, ι, F, e, g, S, h⟩ => ⟨Φ, ι, F, e, g, S, (po.bind (Rl := DVs Kt) h).imp fun v H1 ⟨ι1, F1, g1, d1, x1, R1, r1, h1⟩ => by
    split at h1
    · rename_i hl
      exact ⟨by rw [r1.length]; exact okL_iff.mp hl, newO R1 r1 h1⟩
    · exact h1.elim⟩
/-- of each of these classes: it is plain, and none of its bases has the name -/
def CA (Kt : Kit) (cs : List Nat) (x : Str) : Prop := ∀ c ∈ cs, ∀ C, Kt.cls[c]? = some C → Cls Kt.K C ∧ NoAttr Kt.K C x
theorem ud_fld {cs : List Nat} {n : Nat} {x : Str} (hx : Kt.tab[n]? = some x) (ca : CA Kt cs x) :
    UnD Kt (fun v H Q => ∃ a C dx fs u, v = .ref a ∧ H a = some (.ins C dx fs) ∧ Cls Kt.K C ∧ NoAttr Kt.K C x ∧ fs.lookup x = some u ∧ Q u H) (fldD cs n) := by
  intro Φ ι F g H v d z R hv h Q q
  unfold fldD at h
  split at h
  · rename_i l
    split at h
    · rename_i c fs e1
      split at h
      · rename_i hc
        cases hv with
        | ref e2 =>
          obtain ⟨_, C, dx, gs, e3, e4, r4⟩ := R.ob l _ _ e1 e2
          obtain ⟨u, l1, l2⟩ := r4.look hx h
          obtain ⟨c1, c2⟩ := ca c (by simpa using hc) C e3
          exact ⟨_, C, dx, gs, u, rfl, e4, c1, c2, l1, q _ _ _ _ Ex.refl R l2⟩
      · cases h
    · cases h
  · cases h
theorem se_fld {n : Nat} {cs : List Nat} {x : Str} (A : At Kt X W k) (hx : Kt.tab[n]? = some x) (ca : CA Kt cs x) (ha : PE X a (te Kt W ma)) (hb : attributeBase a x X.env (eval a X.env) = eval a X.env := by rfl) : PE X (.Attribute a x pos) (te Kt W (vFld cs n ma)) := by
  have h := pe_fld (pos := pos) ha hb
  rw [A.eK] at h
  exact h.imp fun _ _ _ => te_un (ud_fld hx ca)

/-! #### built-ins -/
def CrD (Kt : Kit) (r : List V → Hp → VK → Prop) (o : G → List D → Option D) : Prop := ∀ {Φ : Hp} {ι : List Addr} {F : Hp} {g : G} {H : Hp} {xs : List V} {ds : List D} {z : D}, RelG Kt Φ ι F g H → DVs Kt ι F xs ds → o g ds = some z →
  ∀ Q : VK, (∀ ι' F' H' v, Ex ι F ι' F' → RelG Kt Φ ι' F' g H' → DV Kt ι' F' v z → Q v H') → r xs H Q
theorem te_cb {r : List V → Hp → VK → Prop} {o : G → List D → Option D} (hd : CrD Kt r o) {Q : VK} (h : te Kt W (vCB o ms) σ H Q) : tCB r (ta Kt W ms) σ H Q := by
  obtain ⟨Φ, ι, F, e, g, S, h⟩ := h
  refine ⟨Φ, ι, F, e, g, S, (po.bind (Rl := DVs Kt) h).imp fun v H1 ⟨ι1, F1, g1, a, x1, R1, r1, h1⟩ => ?_⟩
  cases z : o g1 a with
  | none => rw [z] at h1; exact h1.elim
  | some d => rw [z] at h1; exact hd R1 r1 z Q h1
/-- f(e, ..), f a built-in -/
theorem se_cb {x : Str} {id : String} {p : Pos} {r : List V → Hp → VK → Prop} {o : G → List D → Option D} (A : At Kt X W k) (hc : CallR X (.builtin id) r) (hd : CrD Kt r o) (hm : Kt.mg x = none) (hv : bootBuiltins x = some (.builtin id)) (ha : PA X (a :: es) (ta Kt W ms)) (hg : Gl X x := by rfl) (hn : x ≠ "__name__" := by decide)
    (hdb : (x == ("__debug__" : Str)) = false := by decide) (he : starEach (a :: es) X.env = (false, eval a X.env) :: starEach es X.env := by rfl) (hpl : (backTo pos (starEach es X.env)).any (·.1) = false := by rfl) : PE X (.Call (.Name x p) (a :: es) [] pos) (te Kt W (vCB o ms)) :=
  (pe_callB hc hg (A.em ▸ hm) hv ha hn hdb he hpl).imp fun _ _ _ => te_cb hd
theorem se_cty {x : Str} {id : String} {p : Pos} {r : List V → Hp → VK → Prop} {o : G → List D → Option D} (A : At Kt X W k) (hc : CallR X (.type id) r) (hd : CrD Kt r o) (hm : Kt.mg x = none) (hv : bootBuiltins x = some (.type id)) (ha : PA X (a :: es) (ta Kt W ms)) (hg : Gl X x := by rfl) (hn : x ≠ "__name__" := by decide)
    (hdb : (x == ("__debug__" : Str)) = false := by decide) (he : starEach (a :: es) X.env = (false, eval a X.env) :: starEach es X.env := by rfl) (hpl : (backTo pos (starEach es X.env)).any (·.1) = false := by rfl) : PE X (.Call (.Name x p) (a :: es) [] pos) (te Kt W (vCB o ms)) :=
  (pe_callTy hc hg (A.em ▸ hm) hv ha hn hdb he hpl).imp fun _ _ _ => te_cb hd
def lenD (g : G) (ds : List D) : Option D := match ds with
  | [d] => match itD g d with
    | some xs => some (.int xs.length)
    | none => none
  | _ => none
theorem itD_ok {Φ : Hp} {ι : List Addr} {F : Hp} {g : G} {v : V} {d : D} {ds : List D} (R : RelG Kt Φ ι F g H) (r : DV Kt ι F v d) (h : itD g d = some ds) : ∃ a vs, v = .ref a ∧ (SqL Kt.K H a vs ∨ SqT Kt.K H a vs) ∧ DVs Kt ι F vs ds := by
  unfold itD at h
  split at h
  · cases h
    cases r with
    | tup e1 r1 => exact ⟨_, _, rfl, .inr (sqt_mono R.sub (tS e1)), r1⟩
  · cases h
    cases r with
    | scr e1 r1 => exact ⟨_, _, rfl, .inl (sql_mono R.sub e1), r1⟩
  · obtain ⟨a, vs, rfl, e1, r1⟩ := lsD_ok R r h
    exact ⟨_, _, rfl, .inl (.inl (.inl e1)), r1⟩
theorem cd_len : CrD Kt (fun xs H Q => ∃ x n, xs = [x] ∧ LenV Kt.K x H n ∧ Q (.int n) H) lenD := by
  intro Φ ι F g H xs ds z R hv h Q q
  unfold lenD at h
  split at h
  · rename_i d
    cases hv with
    | cons r1 r2 =>
    cases r2
    split at h
    · rename_i ys e
      cases h
      obtain ⟨a, vs, rfl, hs, r⟩ := itD_ok R r1 e
      refine ⟨_, vs.length, rfl, ?_, by rw [r.length]; exact q _ _ _ _ Ex.refl R (.int _)⟩
      rcases hs with hs | hs
      · exact .inl ⟨vs, hs, rfl⟩
      · exact .inr ⟨vs, hs, rfl⟩
    · cases h
  · cases h
def absD (_ : G) (ds : List D) : Option D := match ds with
  | [.int i] => some (.int (if i < 0 then -i else i))
  | _ => none
theorem cd_abs : CrD Kt (fun xs H Q => ∃ i, xs = [.int i] ∧ Q (.int (if i < 0 then -i else i)) H) absD := by
  intro Φ ι F g H xs ds z R hv h Q q
  unfold absD at h
  split at h
  · cases hv with
    | cons r1 r2 => cases r1; cases r2; cases h; exact ⟨_, rfl, q _ _ _ _ Ex.refl R (.int _)⟩
  · cases h
def maxD (_ : G) (ds : List D) : Option D := match ds with
  | [.int i, .int j] => some (.int (if j > i then j else i))
  | _ => none
def minD (_ : G) (ds : List D) : Option D := match ds with
  | [.int i, .int j] => some (.int (if j < i then j else i))
  | _ => none
theorem cd_max : CrD Kt (fun xs H Q => ∃ i j, xs = [.int i, .int j] ∧ Q (.int (if j > i then j else i)) H) maxD := by
  intro Φ ι F g H xs ds z R hv h Q q
  unfold maxD at h
  split at h
  · cases hv with
    | cons r1 r2 =>
      cases r2 with
      | cons r2 r3 => cases r1; cases r2; cases r3; cases h; exact ⟨_, _, rfl, q _ _ _ _ Ex.refl R (.int _)⟩
  · cases h
theorem cd_min : CrD Kt (fun xs H Q => ∃ i j, xs = [.int i, .int j] ∧ Q (.int (if j < i then j else i)) H) minD := by
  intro Φ ι F g H xs ds z R hv h Q q
  unfold minD at h
  split at h
  · cases hv with
    | cons r1 r2 =>
      cases r2 with
      | cons r2 r3 => cases r1; cases r2; cases r3; cases h; exact ⟨_, _, rfl, q _ _ _ _ Ex.refl R (.int _)⟩
  · cases h
def intD (_ : G) (ds : List D) : Option D := match ds with
  | [.int i] => some (.int i)
  | [.bl k] => some (.int (if k then 1 else 0))
  | _ => none
theorem cd_int : CrD Kt (fun xs H Q => (∃ i, xs = [.int i] ∧ Q (.int i) H) ∨ ∃ k, xs = [.bl k] ∧ Q (.int (if k then 1 else 0)) H) intD := by
  intro Φ ι F g H xs ds z R hv h Q q
  unfold intD at h
  split at h
  · cases hv with
    | cons r1 r2 => cases r1; cases r2; cases h; exact .inl ⟨_, rfl, q _ _ _ _ Ex.refl R (.int _)⟩
  · cases hv with
    | cons r1 r2 => cases r1; cases r2; cases h; exact .inr ⟨_, rfl, q _ _ _ _ Ex.refl R (.int _)⟩
  · cases h
/-- list(x), tuple(x): copies that do not change -/
def listD (g : G) (ds : List D) : Option D := match ds with
  | [d] => match itD g d with
    | some xs => some (.lst xs)
    | none => none
  | _ => none
theorem cd_list : CrD Kt (fun xs H Q => ∃ p ys, xs = [.ref p] ∧ (SqL Kt.K H p ys ∨ SqT Kt.K H p ys) ∧ ∀ l, H l = none → Q (.ref l) (upd H l (.lst ys))) listD := by
  intro Φ ι F g H xs ds z R hv h Q q
  unfold listD at h
  split at h
  · rename_i d
    cases hv with
    | cons r1 r2 =>
    cases r2
    split at h
    · rename_i ys e
      cases h
      obtain ⟨a, vs, rfl, hs, r⟩ := itD_ok R r1 e
      exact ⟨_, vs, rfl, hs, newL R r q⟩
    · cases h
  · cases h
def tupleD (g : G) (ds : List D) : Option D := match ds with
  | [d] => match d with
    | .tup xs => some (.tup xs)
    | _ => match lsD g d with
      | some xs => some (.tup xs)
      | none => none
  | _ => none
theorem cd_tuple : CrD Kt (fun xs H Q => ∃ p ys, xs = [.ref p] ∧ ((SqL Kt.K H p ys ∧ ∀ l, H l = none → Q (.ref l) (upd H l (.tup ys))) ∨ (SqT Kt.K H p ys ∧ Q (.ref p) H))) tupleD := by
  intro Φ ι F g H xs ds z R hv h Q q
  unfold tupleD at h
  split at h
  · rename_i d
    cases hv with
    | cons r1 r2 =>
    cases r2
    split at h
    · cases h
      cases r1 with
      | tup e1 r => exact ⟨_, _, rfl, .inr ⟨sqt_mono R.sub (tS e1), q _ _ _ _ Ex.refl R (.tup e1 r)⟩⟩
    · split at h
      · rename_i ys e
        cases h
        obtain ⟨a, vs, rfl, hs, r⟩ := lsD_ok R r1 e
        exact ⟨_, vs, rfl, .inl ⟨.inl (.inl hs), newT R r q⟩⟩
      · cases h
  · cases h
/-- list(x): a copy that will change -/
def vListO (a : AM) : EM := fun e g => (a e g).bind fun ds g1 => match ds with
  | [d] => match itD g1 d with
    | some xs => .ok (.ref g1.length) (g1 ++ [.lst xs])
    | none => .stuck
  | _ => .stuck
theorem se_listO {p : Pos} (A : At Kt X W k) (hm : Kt.mg "list" = none) (ha : PA X (a :: es) (ta Kt W ms)) (hg : Gl X "list" := by rfl) (he : starEach (a :: es) X.env = (false, eval a X.env) :: starEach es X.env := by rfl) (hpl : (backTo pos (starEach es X.env)).any (·.1) = false := by rfl) :
    PE X (.Call (.Name "list" p) (a :: es) [] pos) (te Kt W (vListO ms)) :=
  (pe_callTy (A.eK ▸ call_list_of : CallR X _ (fun xs H Q => ∃ p ys, xs = [.ref p] ∧ (SqL Kt.K H p ys ∨ SqT Kt.K H p ys) ∧ ∀ l, H l = none → Q (.ref l) (upd H l (.lst ys)))) hg (A.em ▸ hm) (by decide +kernel) ha (by decide) (by decide) he hpl).imp fun σ H Q ⟨Φ, ι, F, e, g, S, h⟩ => ⟨Φ, ι, F, e, g, S, (po.bind (Rl := DVs Kt) h).imp fun v H1 ⟨ι1, F1, g1, d1, x1, R1, r1, h1⟩ => by
    split at h1
    · rename_i d
      cases r1 with
      | cons r1 r2 =>
      cases r2
      split at h1
      · rename_i ys e
        obtain ⟨a, vs, rfl, hs, r⟩ := itD_ok R1 r1 e
        exact ⟨_, vs, rfl, hs, newO R1 r h1⟩
      · exact h1.elim
    · exact h1.elim⟩
/-! #### isinstance -/
inductive Ty where | non | bool | int | str | tuple | list
  deriving DecidableEq
def Ty.s : Ty → String
  | .non => "NoneType" | .bool => "bool" | .int => "int" | .str => "str" | .tuple => "tuple" | .list => "list"
def Ty.sub (a b : Ty) : Bool := a == b || (a == .bool && b == .int)
theorem Ty.kit (a b : Ty) : kitB a.s b.s = some (a.sub b) := by cases a <;> cases b <;> decide +kernel
def tyD (g : G) (d : D) : Option Ty := match snap g d with
  | .non => some .non
  | .bl _ => some .bool
  | .int _ => some .int
  | .str _ => some .str
  | .tup _ => some .tuple
  | .lst _ => some .list
  | _ => none
theorem tyD_ok {Φ : Hp} {ι : List Addr} {F : Hp} {g : G} {v : V} {d : D} {t : Ty} (R : RelG Kt Φ ι F g H) (r : DV Kt ι F v d) (h : tyD g d = some t) : TyX Kt.K H v (.type t.s) := by
  have key : ∀ ds, lsD g d = some ds → TyX Kt.K H v (.type "list") := fun ds e => by
    obtain ⟨a, vs, rfl, e1, r1⟩ := lsD_ok R r e
    exact .base (.lst e1)
  unfold tyD at h
  cases r with
  | non => simp at h; subst h; exact .base .non
  | bl b => simp at h; subst h; exact .base (.bl _)
  | int i => simp at h; subst h; exact .base (.int _)
  | str e => simp at h; subst h; exact .base (.str _)
  | tup e r =>
    simp at h; subst h
    exact .base (.tup (R.sub _ _ e))
  | lst e r => simp at h; subst h; exact key _ rfl
  | ref e =>
    rename_i l _
    cases z : snap g (.ref l) with
    | lst es => rw [z] at h; simp at h; subst h; exact key _ (by unfold lsD; rw [z])
    | non => rw [snap_ref] at z; split at z <;> cases z
    | bl b => rw [snap_ref] at z; split at z <;> cases z
    | int b => rw [snap_ref] at z; split at z <;> cases z
    | str b => rw [snap_ref] at z; split at z <;> cases z
    | tup b => rw [snap_ref] at z; split at z <;> cases z
    | _ => rw [z] at h; simp at h
  | scr e => simp [snap] at h
  | rng e => simp at h
  | dic e => simp [snap] at h
  | kt e r => simp [snap] at h
def isiD (t : Ty) (g : G) (d : D) : Option D := match tyD g d with
  | some s => some (.bl (s.sub t))
  | none => none
theorem se_isi {x : Str} {p p2 : Pos} (t : Ty) (A : At Kt X W k) (hm : Kt.mg "isinstance" = none) (hm2 : Kt.mg x = none) (hv : bootBuiltins x = some (.type t.s)) (ha : PE X a (te Kt W ma)) (hg : Gl X "isinstance" := by rfl) (hg2 : Gl X x := by rfl) (hn : x ≠ "__name__" := by decide) (hdb : (x == ("__debug__" : Str)) = false := by decide)
    (he : starEach [a, .Name x p2] X.env = (false, eval a X.env) :: starEach [.Name x p2] X.env := by rfl) (he2 : starEach [.Name x p2] X.env = (false, eval (.Name x p2) X.env) :: starEach [] X.env := by rfl) (hpl : (backTo pos (starEach [.Name x p2] X.env)).any (·.1) = false := by rfl) :
    PE X (.Call (.Name "isinstance" p) [a, .Name x p2] [] pos) (te Kt W (vUn (isiD t) ma)) :=
  (pe_callB (A.eK ▸ call_isi : CallR X _ (rIsi Kt.K)) hg (A.em ▸ hm) PyProof.Rows.boot_isinstance (pa_cons ha (pa_cons (pe_bltn (v := .ty t.s) hg2 (A.em ▸ hm2) hv rfl hn hdb) pa_nil he2) he) (by decide) (by decide) he hpl).imp fun σ H Q ⟨Φ, ι, F, e, g, S, h⟩ => ⟨Φ, ι, F, e, g, S, (po.bind (Rl := DV Kt) h).imp fun v H1 ⟨ι1, F1, g1, d1, x1, R1, r1, h1⟩ => by
    unfold isiD at h1
    cases z : tyD g1 d1 with
    | none => rw [z] at h1; exact h1.elim
    | some s => rw [z] at h1; exact ⟨v, _, _, _, _, rfl, .ty _, tyD_ok R1 r1 z, kit_ty (Ty.kit s t), h1 _ _ _ _ Ex.refl R1 (.bl _)⟩⟩
end
end Y

set_option Elab.async false
set_option linter.all false
set_option maxRecDepth 100000
namespace Y
open PySem PySem.Spec PyProof.Rows L2

/-! ### defs -/
/-- what a def that computes mf promises -/
def spM (Kt : Kit) (n : Nat) (mf : MF) : Sp := fun vs H Q E => vs.length = n ∧ ∃ Φ ι F g ds, RelG Kt Φ ι F g H ∧ DVs Kt ι F vs ds ∧ (match mf ds g with
  | .ok d g' => ∀ ι' F' H' v, Ex ι F ι' F' → RelG Kt Φ ι' F' g' H' → DV Kt ι' F' v d → Q v H'
  | .exn c g' => ∃ C, Kt.cls[c]? = some C ∧ ∀ ι' F' H', Ex ι F ι' F' → RelG Kt Φ ι' F' g' H' → E (.ref C) none H'
  | .stuck => False)
/-- a def that stands at f -/
structure FnAt (Kt : Kit) (k : Nat) (f : Addr) (n : Nat) (mf : MF) : Prop where
  ex : ∃ fd ps, ps.length = n ∧ FnOk Kt.P Kt.w Kt.K Kt.mg Kt.base (L2.CX Kt.P Kt.w) k f fd ps (spM Kt n mf) ∧ Binds Kt.K fd ps []
structure FnK (Kt : Kit) (k : Nat) (x : Str) (n : Nat) (mf : MF) : Prop where
  ex : ∃ f, Kt.mg x = some (.ref f) ∧ PySem.W.keepIn Kt.K (.ref f) = true ∧ FnAt Kt k f n mf
structure MkK (Kt : Kit) (k : Nat) (x : Str) (c : Nat) (n : Nat) (mf : MF) : Prop where
  ex : ∃ C f, Kt.cls[c]? = some C ∧ Kt.mg x = some (.ref C) ∧ Mk Kt.K C f ∧ FnAt Kt k f n mf
/-- a method of the class numbered c -/
structure MeK (Kt : Kit) (k : Nat) (m : Str) (c : Nat) (n : Nat) (mf : MF) : Prop where
  ex : ∃ C f, Kt.cls[c]? = some C ∧ Cls Kt.K C ∧ Meth Kt.K C m f ∧ FnAt Kt k f n mf
theorem FnAt.mono {Kt : Kit} {j k : Nat} {f : Addr} {n : Nat} {mf : MF} (h : FnAt Kt j f n mf) (le : j ≤ k) : FnAt Kt k f n mf := let ⟨fd, ps, e, F, B⟩ := h.ex; ⟨fd, ps, e, F.mono le, B⟩
theorem FnK.mono {Kt : Kit} {j k : Nat} {x : Str} {n : Nat} {mf : MF} (h : FnK Kt j x n mf) (le : j ≤ k) : FnK Kt k x n mf := let ⟨f, a, b, c⟩ := h.ex; ⟨f, a, b, c.mono le⟩
theorem MkK.mono {Kt : Kit} {j k : Nat} {x : Str} {c n : Nat} {mf : MF} (h : MkK Kt j x c n mf) (le : j ≤ k) : MkK Kt k x c n mf := let ⟨C, f, a, b, d, e⟩ := h.ex; ⟨C, f, a, b, d, e.mono le⟩
theorem MeK.mono {Kt : Kit} {j k : Nat} {x : Str} {c n : Nat} {mf : MF} (h : MeK Kt j x c n mf) (le : j ≤ k) : MeK Kt k x c n mf := let ⟨C, f, a, b, d, e⟩ := h.ex; ⟨C, f, a, b, d, e.mono le⟩

def vCall (mf : MF) (a : AM) : EM := fun e g => (a e g).bind mf
def vMake (c : Nat) (mf : MF) (a : AM) : EM := fun e g => (a e g).bind fun ds g1 => (mf (.ref g1.length :: ds) (g1 ++ [.ins c []])).bind fun d g2 => match d with
  | .non => .ok (.ref g1.length) g2
  | _ => .stuck
def lkM (c : Nat) : List (Nat × MF) → Option MF
  | [] => none
  | (m, f) :: r => if m = c then some f else lkM c r
def vMeth (n : Nat) (tbl : List (Nat × MF)) (o : EM) (a : AM) : EM := fun e g => (o e g).bind fun d g1 => match d with
  | .ref l => match g1[l]? with
    | some (.ins c fs) => match lkA n fs with
      | some _ => .stuck
      | none => match lkM c tbl with
        | some mf => (a e g1).bind fun ds g2 => mf (d :: ds) g2
        | none => .stuck
    | _ => .stuck
  | _ => .stuck

section
variable {Kt : Kit} {X : Cx} {W : WX} {k : Nat} {a b c : Expr} {ma mb mc : EM} {pos : Pos} {es : List Expr} {ms : AM}
theorem po_sp {Φ : Hp} {ι : List Addr} {F H : Hp} {g : G} {σ : L2.St} {vs : List V} {ds : List D} {mf : MF} {n : Nat} (hn : vs.length = n) (R : RelG Kt Φ ι F g H) (r : DVs Kt ι F vs ds) {Q : VK} (h : po Kt Φ W σ (DV Kt) ι F (mf ds g) Q) :
    spM Kt n mf vs H Q (WE W σ) := by
  refine ⟨hn, Φ, ι, F, g, ds, R, r, ?_⟩
  cases z : mf ds g with
  | ok d g' => rw [z] at h; exact h
  | exn c g' => rw [z] at h; exact h
  | stuck => rw [z] at h; exact h.elim
/-- a def that is known, called with values -/
theorem run_at {f : Addr} {n : Nat} {mf : MF} (A : At Kt X W k) (G : FnAt Kt k f n mf) {pins : List (Addr × Obj)} {σ : L2.St} {H : Hp} {s : Shared} {Q : VK} {us : List Value} {vs : List V} (I : Inv X pins σ H s) (r : Vals vs us) (h : spM Kt n mf vs H Q (WE W σ)) :
    wpAny (model X.prog X.w) X.A (call (.ref f) us) (EP X pins σ Q) X.xe s := by
  obtain ⟨fd, ps, e, Fk, B⟩ := G.ex
  have F' : FnOk X.prog X.w X.K X.mg X.base (L2.CX X.prog X.w) k f fd ps (spM Kt n mf) := by rw [A.eP, A.ew, A.eK, A.em, A.eb]; exact Fk
  exact run_fnS (E := WE W) F' A.room (A.eK ▸ B) (passAt A.tk σ) I r h
def Len (ms : AM) (n : Nat) : Prop := ∀ e g ds g', ms e g = .ok ds g' → ds.length = n
theorem len_nil : Len aNil 0 := fun e g ds g' h => by cases h; rfl
theorem len_cons {n : Nat} (h : Len ms n) : Len (aCons ma ms) (n + 1) := fun e g ds g' q => by
  unfold aCons at q
  cases z : ma e g with
  | ok d g1 =>
    rw [z] at q
    cases z2 : ms e g1 with
    | ok ds2 g2 => rw [Res.bind] at q; rw [z2] at q; cases q; rw [List.length_cons, h _ _ _ _ z2]
    | exn c g => rw [Res.bind] at q; rw [z2] at q; cases q
    | stuck => rw [Res.bind] at q; rw [z2] at q; cases q
  | exn c g => rw [z] at q; cases q
  | stuck => rw [z] at q; cases q
theorem po_len {Φ : Hp} {ι : List Addr} {F : Hp} {σ : L2.St} {r : Res (List D)} {n : Nat} (hn : ∀ ds g', r = .ok ds g' → ds.length = n) {Q : List V → Hp → Prop} (h : po Kt Φ W σ (DVs Kt) ι F r Q) : po Kt Φ W σ (DVs Kt) ι F r fun vs H => vs.length = n ∧ Q vs H := by
  cases r with
  | ok ds g' => exact fun ι' F' H' v x R q => ⟨q.length.trans (hn ds g' rfl), h ι' F' H' v x R q⟩
  | exn c g => exact h
  | stuck => exact h
theorem se_call {x : Str} {n : Nat} {mf : MF} {p : Pos} (A : At Kt X W k) (G : FnK Kt k x n mf) (ha : PA X (a :: es) (ta Kt W ms)) (hl : Len ms n) (hg : Gl X x := by rfl) (hdb : (x == ("__debug__" : Str)) = false := by decide)
    (he : starEach (a :: es) X.env = (false, eval a X.env) :: starEach es X.env := by rfl) (hpl : (backTo pos (starEach es X.env)).any (·.1) = false := by rfl) : PE X (.Call (.Name x p) (a :: es) [] pos) (te Kt W (vCall mf ms)) := by
  obtain ⟨f, hm, hk, G⟩ := G.ex
  refine ⟨fun pins s σ H Q I ⟨Φ, ι, F, e, g, S, h⟩ => ?_⟩
  refine wpAny_Call_Name_kw (ld_glob I hg (A.em ▸ hm) ?_ hdb)
  have h' := po_len (hl e g) (po.bind (Rl := DVs Kt) (α := List D) (ν := List V) h)
  refine PySem.W.callWith_K (h₀ := X.base) I.ok.mod.kin (A.eK ▸ hk) (thn (ha.run pos pins s σ H _ I ⟨Φ, ι, F, e, g, S, h'⟩) fun us s1 ⟨vs, H1, I1, r, hn, ι1, F1, g1, ds, x1, R1, r1, h1⟩ => ⟨I1.kIn, ?_⟩) he hpl
  exact run_at A G I1 r (po_sp hn R1 r1 h1)
theorem se_call0 {x : Str} {mf : MF} {p : Pos} (A : At Kt X W k) (G : FnK Kt k x 0 mf) (hg : Gl X x := by rfl) (hdb : (x == ("__debug__" : Str)) = false := by decide) : PE X (.Call (.Name x p) [] [] pos) (te Kt W (vCall mf aNil)) := by
  obtain ⟨f, hm, hk, G⟩ := G.ex
  refine ⟨fun pins s σ H Q I ⟨Φ, ι, F, e, g, S, h⟩ => ?_⟩
  refine wpAny_Call_Name_kw (ld_glob I hg (A.em ▸ hm) ?_ hdb)
  exact PySem.W.callWith_K0 I.kIn (A.eK ▸ hk) (run_at (us := []) (vs := []) A G I .nil (po_sp rfl S.rel .nil h))

/-- a new instance -/
theorem run_mk {C f : Addr} {n : Nat} {mf : MF} (A : At Kt X W (k + 1)) (M : Mk Kt.K C f) (G : FnAt Kt k f n mf) {pins : List (Addr × Obj)} {σ : L2.St} {H : Hp} {s : Shared} {Q : VK} {us : List Value} {vs : List V} (I : Inv X pins σ H s) (r : Vals vs us)
    (h : ∀ x dx, H x = none → H dx = none → dx ≠ x → spM Kt n mf (.ref x :: vs) (upd (upd H dx (.own x)) x (.ins C dx [])) (fun v H2 => v = .non ∧ Q (.ref x) H2) (WE W σ)) : wpAny (model X.prog X.w) X.A (call (.ref C) us) (EP X pins σ Q) X.xe s := by
  obtain ⟨fd, ps, e, Fk, B⟩ := G.ex
  have F' : FnOk X.prog X.w X.K X.mg X.base (L2.CX X.prog X.w) k f fd ps (spM Kt n mf) := by rw [A.eP, A.ew, A.eK, A.em, A.eb]; exact Fk
  have M' : Mk X.K C f := A.eK ▸ M
  have B' : Binds X.K fd ps [] := A.eK ▸ B
  have nx : H (s.heap.objs.size + 1) = none := I.hok.fresh (Nat.le_succ _)
  have nd : H s.heap.objs.size = none := I.hok.fresh (Nat.le_refl _)
  have q := h _ _ nx nd (Nat.ne_of_lt (Nat.lt_succ_self _))
  have J := Inv.made (C := C) I
  have rs : Vals (V.ref (s.heap.objs.size + 1) :: vs) (Value.ref (s.heap.objs.size + 1) :: us) := .cons rfl r
  have hl : (Value.ref (s.heap.objs.size + 1) :: us ++ []).length = ps.length := by
    rw [List.append_nil, ← rs.length]
    exact F'.len _ _ _ _ q
  have bt := B' _ (Value.ref (s.heap.objs.size + 1) :: us) J.kIn hl
  rw [List.append_nil] at bt
  have run := F'.run _ X.stack _ _ ⟨Value.ref (s.heap.objs.size + 1) :: us, []⟩ _ _ _ _ (A.room.make C us []) (J.env0.make C us []) bt rs q
  refine wpAny_call (make_map (f := f) I.kIn M'.makes M'.init (beq_iff_eq.mp M'.fn) (codeAny_mono run fun w s' back => ?_))
  match w, back with
  | .error e, back => exact passAt A.tk σ pins _ _ e s' J back
  | .ok (.ret u), back =>
    obtain ⟨v, H', J', rv, ev, fin⟩ := J.after back
    subst ev
    exact ⟨rv, V.ref (s.heap.objs.size + 1), H', J', rfl, fin⟩
theorem po_mk {Φ : Hp} {ι : List Addr} {F H : Hp} {g : G} {σ : L2.St} {vs : List V} {ds : List D} {mf : MF} {n c : Nat} {C : Addr} (hC : Kt.cls[c]? = some C) (hn : vs.length + 1 = n) (R : RelG Kt Φ ι F g H) (r : DVs Kt ι F vs ds) {Q : VK}
    (h : po Kt Φ W σ (DV Kt) ι F ((mf (.ref g.length :: ds) (g ++ [.ins c []])).bind fun d g2 => match d with
  | .non => .ok (.ref g.length) g2
  | _ => .stuck) Q) : ∀ x dx, H x = none → H dx = none → dx ≠ x → spM Kt n mf (.ref x :: vs) (upd (upd H dx (.own x)) x (.ins C dx [])) (fun v H2 => v = .non ∧ Q (.ref x) H2) (WE W σ) := by
  intro x dx hx hdx ne
  have fx : F x = none := by
    cases e : F x with
    | none => rfl
    | some u => rw [R.sub x u e] at hx; cases hx
  have keep : ∀ a o, H a = some o → upd (upd H dx (.own x)) x (.ins C dx []) a = some o := fun a o q => by
    rw [upd_ne (ne_of_none q hx), upd_ne (ne_of_none q hdx)]; exact q
  obtain ⟨R', y⟩ := R.new (p := x) (o := .ins c []) hx keep (by rw [upd_same]; simp) ⟨fx, C, dx, [], hC, upd_same, .nil⟩
  have me : DV Kt (ι ++ [x]) F (.ref x) (.ref g.length) := .ref (get_snoc R.len)
  refine po_sp (by simpa using hn) R' (.cons me (r.mono y)) ?_
  refine (po.bind (Rl := DV Kt) (h.mono y)).imp fun v H1 ⟨ι1, F1, g1, d, x1, R1, r1, h1⟩ => ?_
  cases r1 with
  | non => exact ⟨rfl, h1 _ _ _ _ Ex.refl R1 (me.mono x1)⟩
  | _ => exact h1.elim
theorem se_make {x : Str} {n c : Nat} {mf : MF} {p : Pos} (A : At Kt X W (k + 1)) (G : MkK Kt k x c (n + 1) mf) (ha : PA X (a :: es) (ta Kt W ms)) (hl : Len ms n) (hg : Gl X x := by rfl) (hdb : (x == ("__debug__" : Str)) = false := by decide)
    (he : starEach (a :: es) X.env = (false, eval a X.env) :: starEach es X.env := by rfl) (hpl : (backTo pos (starEach es X.env)).any (·.1) = false := by rfl) : PE X (.Call (.Name x p) (a :: es) [] pos) (te Kt W (vMake c mf ms)) := by
  obtain ⟨C, f, hC, hm, M, G⟩ := G.ex
  refine ⟨fun pins s σ H Q I ⟨Φ, ι, F, e, g, S, h⟩ => ?_⟩
  refine wpAny_Call_Name_kw (ld_glob I hg (A.em ▸ hm) ?_ hdb)
  have h' := po_len (hl e g) (po.bind (Rl := DVs Kt) (α := List D) (ν := List V) h)
  refine PySem.W.callWith_K (h₀ := X.base) I.ok.mod.kin (A.eK ▸ M.kp) (thn (ha.run pos pins s σ H _ I ⟨Φ, ι, F, e, g, S, h'⟩) fun us s1 ⟨vs, H1, I1, r, hn, ι1, F1, g1, ds, x1, R1, r1, h1⟩ => ⟨I1.kIn, ?_⟩) he hpl
  exact run_mk A M G I1 r (po_mk hC (by omega) R1 r1 h1)
theorem se_make0 {x : Str} {c : Nat} {mf : MF} {p : Pos} (A : At Kt X W (k + 1)) (G : MkK Kt k x c 1 mf) (hg : Gl X x := by rfl) (hdb : (x == ("__debug__" : Str)) = false := by decide) : PE X (.Call (.Name x p) [] [] pos) (te Kt W (vMake c mf aNil)) := by
  obtain ⟨C, f, hC, hm, M, G⟩ := G.ex
  refine ⟨fun pins s σ H Q I ⟨Φ, ι, F, e, g, S, h⟩ => ?_⟩
  refine wpAny_Call_Name_kw (ld_glob I hg (A.em ▸ hm) ?_ hdb)
  exact PySem.W.callWith_K0 I.kIn (A.eK ▸ M.kp) (run_mk (us := []) (vs := []) A M G I .nil (po_mk hC rfl S.rel .nil h))

/-- the methods of that name, by class -/
def MT (Kt : Kit) (k : Nat) (m : Str) (n : Nat) (tbl : List (Nat × MF)) : Prop := ∀ c mf, lkM c tbl = some mf → MeK Kt k m c n mf
theorem mt_nil {m : Str} {n : Nat} : MT Kt k m n [] := fun c mf h => by cases h
theorem mt_cons {m : Str} {n c : Nat} {mf : MF} {tbl : List (Nat × MF)} (h : MeK Kt k m c n mf) (r : MT Kt k m n tbl) : MT Kt k m n ((c, mf) :: tbl) := fun c' mf' q => by
  unfold lkM at q
  split at q
  · rename_i e; subst e; cases q; exact h
  · exact r _ _ q
theorem se_meth {o : Expr} {m : Str} {n nm : Nat} {tbl : List (Nat × MF)} {apos : Pos} {pl : Sem Bool} (A : At Kt X W k) (ho : PE X o (te Kt W ma)) (hx : Kt.tab[nm]? = some m) (T : MT Kt k m (n + 1) tbl) (ha : PA X (a :: es) (ta Kt W ms)) (hl : Len ms n)
    (hst : starEach (a :: es) X.env = (false, eval a X.env) :: starEach es X.env := by rfl) (hpl : (backTo pos (starEach es X.env)).any (·.1) = false := by rfl)
    (ht : eval (.Call (.Attribute o m apos) (a :: es) [] pos) X.env = (do
      let ov ← eval o X.env
      standAt apos.atName
      let (f, first) ← holding [ov] (getMethod ov m pl)
      callWith pos f first (backTo pos (starEach (a :: es) X.env)) (backToKw pos (keywordEach [] X.env))) := by rfl) :
    PE X (.Call (.Attribute o m apos) (a :: es) [] pos) (te Kt W (vMeth nm tbl ma ms)) := by
  refine ⟨fun pins s σ H Q I ⟨Φ, ι, F, e, g, S, h⟩ => ?_⟩
  refine PySem.W.methodCall_KW (pl := pl) (thn (ho.run pins s σ H _ I ⟨Φ, ι, F, e, g, S, po.bind (Rl := DV Kt) h⟩) fun u s1 ⟨x, H1, I1, rx, ι1, F1, g1, d, x1, R1, r1, h1⟩ => ?_) ht
  split at h1
  · rename_i l
    split at h1
    · rename_i c fs eg
      split at h1
      · exact h1.elim
      · rename_i en
        split at h1
        · rename_i mf em
          cases r1 with
          | @ref _ ad ei =>
          obtain ⟨fF, C, dx, gs, eC, eH, rf⟩ := R1.ob l _ _ eg ei
          obtain ⟨C', f, eC', cl, hm, G⟩ := (T c mf em).ex
          rw [eC] at eC'; cases eC'
          obtain rfl : u = Value.ref ad := rx
          refine getmeth_ok I1 eH (A.eK ▸ cl) (A.eK ▸ hm) (FR.nolook hx rf en) ?_
          have h' := po_len (hl e g1) (po.bind (Rl := DVs Kt) (α := List D) (ν := List V) h1)
          refine PySem.W.callWith_K (first := [.ref ad]) (h₀ := X.base) I.ok.mod.kin (A.eK ▸ hm.kp) (thn (ha.run pos pins s1 σ H1 _ I1 ⟨Φ, ι1, F1, e, g1, ⟨S.env.mono x1, R1⟩, h'⟩) fun us s2 ⟨vs, H2, I2, r, hn, ι2, F2, g2, ds, x2, R2, r2, h2⟩ => ⟨I2.kIn, ?_⟩) hst hpl
          exact run_at (us := .ref ad :: us) (vs := .ref ad :: vs) A G I2 (.cons rfl r) (po_sp (by simp [hn]) R2 (.cons (.ref (x2.i _ _ ei)) r2) h2)
        · exact h1.elim
    · exact h1.elim
  · exact h1.elim
theorem se_meth0 {o : Expr} {m : Str} {nm : Nat} {tbl : List (Nat × MF)} {apos : Pos} {pl : Sem Bool} (A : At Kt X W k) (ho : PE X o (te Kt W ma)) (hx : Kt.tab[nm]? = some m) (T : MT Kt k m 1 tbl)
    (ht : eval (.Call (.Attribute o m apos) [] [] pos) X.env = (do
      let ov ← eval o X.env
      standAt apos.atName
      let (f, first) ← holding [ov] (getMethod ov m pl)
      callWith pos f first (backTo pos (starEach [] X.env)) (backToKw pos (keywordEach [] X.env))) := by rfl) :
    PE X (.Call (.Attribute o m apos) [] [] pos) (te Kt W (vMeth nm tbl ma aNil)) := by
  refine ⟨fun pins s σ H Q I ⟨Φ, ι, F, e, g, S, h⟩ => ?_⟩
  refine PySem.W.methodCall_KW (pl := pl) (thn (ho.run pins s σ H _ I ⟨Φ, ι, F, e, g, S, po.bind (Rl := DV Kt) h⟩) fun u s1 ⟨x, H1, I1, rx, ι1, F1, g1, d, x1, R1, r1, h1⟩ => ?_) ht
  split at h1
  · rename_i l
    split at h1
    · rename_i c fs eg
      split at h1
      · exact h1.elim
      · rename_i en
        split at h1
        · rename_i mf em
          cases r1 with
          | @ref _ ad ei =>
          obtain ⟨fF, C, dx, gs, eC, eH, rf⟩ := R1.ob l _ _ eg ei
          obtain ⟨C', f, eC', cl, hm, G⟩ := (T c mf em).ex
          rw [eC] at eC'; cases eC'
          obtain rfl : u = Value.ref ad := rx
          refine getmeth_ok I1 eH (A.eK ▸ cl) (A.eK ▸ hm) (FR.nolook hx rf en) ?_
          exact PySem.W.callWith_K0 (first := [.ref ad]) I1.kIn (A.eK ▸ hm.kp) (run_at (us := [.ref ad]) (vs := [.ref ad]) A G I1 (.cons rfl .nil) (po_sp rfl R1 (.cons (.ref ei) .nil) h1))
        · exact h1.elim
    · exact h1.elim
  · exact h1.elim
end
end Y

set_option Elab.async false
set_option linter.all false
set_option maxRecDepth 100000
namespace Y
open PySem PySem.Spec PyProof.Rows L2

/-! ### statements -/
def sNx : SM := fun e g => .nx e g
def sSeq (a b : SM) : SM := fun e g => match a e g with
  | .nx e' g' => b e' g'
  | r => r
def sAsg (i : Nat) (m : EM) : SM := fun e g => sBind (m e g) e fun d g1 => .nx (e.set i (some d)) g1
def sDrop (m : EM) : SM := fun e g => sBind (m e g) e fun _ g1 => .nx e g1
def sRet (m : EM) : SM := fun e g => sBind (m e g) e fun d g1 => .rt d g1
def sIf (t : TM) (a b : SM) : SM := fun e g => sBind (t e g) e fun c g1 => bif c then a e g1 else b e g1
def sBk : SM := fun e g => .bk e g
def sCt : SM := fun e g => .ct e g
def sSetA (cs : List Nat) (n : Nat) (o m : EM) : SM := fun e g => sBind (m e g) e fun y g1 => sBind (o e g1) e fun d g2 => match d with
  | .ref l => match g2[l]? with
    | some (.ins c fs) => (match cs.contains c && decide (fs.length < 1000) with
      | true => .nx e (g2.set l (.ins c (putA n y fs)))
      | false => .stuck)
    | _ => .stuck
  | _ => .stuck
/-- o.x += an int -/
def sAugA (cs : List Nat) (n : Nat) (o m : EM) : SM := fun e g => sBind (o e g) e fun d g1 => match d with
  | .ref l => match g1[l]? with
    | some (.ins c fs) => match cs.contains c, lkA n fs with
      | true, some (.int i) => sBind (m e g1) e fun y g2 => match y with
        | .int j => match g2[l]? with
          | some (.ins c2 fs2) => (match decide (c2 = c ∧ fs2.length < 1000) with
            | true => .nx e (g2.set l (.ins c2 (putA n (.int (i + j)) fs2)))
            | false => .stuck)
          | _ => .stuck
        | _ => .stuck
      | _, _ => .stuck
    | _ => .stuck
  | _ => .stuck
def sAug (i : Nat) (m : EM) : SM := fun e g => match e[i]? with
  | some (some (.int x)) => sBind (m e g) e fun y g1 => match y with
    | .int z => .nx (e.set i (some (.int (x + z)))) g1
    | _ => .stuck
  | _ => .stuck
/-- o[i] = v, o a list that changes -/
def sSub (o i m : EM) : SM := fun e g => sBind (m e g) e fun y g1 => sBind (o e g1) e fun d g2 => sBind (i e g2) e fun j g3 => match d, j with
  | .ref l, .int j => match g3[l]? with
    | some (.lst ds) => match ixN ds.length j with
      | some n => .nx e (g3.set l (.lst (ds.set n y)))
      | none => .stuck
    | _ => .stuck
  | _, _ => .stuck
/-- the value of a list that nobody changes any more -/
def frzD (d : D) (g : G) : Res D := match d with
  | .ref l => match g[l]? with
    | some (.lst ds) => .ok (.lst ds) (g.set l .dead)
    | _ => .ok (.ref l) g
  | d => .ok d g
def vFrz (m : EM) : EM := fun e g => (m e g).bind frzD
def vApp (o m : EM) : EM := fun e g => (o e g).bind fun d g1 => match lsD g1 d with
  | none => .stuck
  | some _ => (m e g1).bind fun y g2 => match d with
    | .ref l => match g2[l]? with
      | some (.lst ds) => (match ltL ds.length with
        | true => .ok .non (g2.set l (.lst (ds ++ [y])))
        | false => .stuck)
      | _ => .stuck
    | _ => .stuck

/-! #### targets -/
abbrev GM := D → G → En → Option En
def gN (i : Nat) : GM := fun d _ e => some (e.set i (some d))
def gsN : List D → G → En → Option En := fun ds _ e => match ds with
  | [] => some e
  | _ => none
def gsC (a : GM) (r : List D → G → En → Option En) : List D → G → En → Option En := fun ds g e => match ds with
  | [] => none
  | d :: ds => match a d g e with
    | some e' => r ds g e'
    | none => none
def gT (n : Nat) (r : List D → G → En → Option En) : GM := fun d g e => match d with
  | .tup ds => (match ds.length == n with
    | true => r ds g e
    | false => none)
  | _ => none
def sTgt (m : EM) (gm : GM) : SM := fun e g => sBind (m e g) e fun d g1 => match gm d g1 e with
  | some e' => .nx e' g1
  | none => .stuck
/-- only these slots are set -/
def Out (vs : List Nat) (σ σ' : L2.St) : Prop := σ'.length = σ.length ∧ ∀ i, i ∉ vs → σ'[i]? = σ[i]?
theorem Out.refl {vs : List Nat} {σ : L2.St} : Out vs σ σ := ⟨rfl, fun _ _ => rfl⟩
theorem Out.trans {vs : List Nat} {σ σ1 σ2 : L2.St} (a : Out vs σ σ1) (b : Out vs σ1 σ2) : Out vs σ σ2 := ⟨b.1.trans a.1, fun i h => (b.2 i h).trans (a.2 i h)⟩
def tgt (Kt : Kit) (vs : List Nat) (gm : GM) : TG := fun v σ H Q => ∃ Φ ι F e g d, St' Kt Φ ι F e g σ H ∧ DV Kt ι F v d ∧ ∃ e', gm d g e = some e' ∧ ∀ σ', Out vs σ σ' → St' Kt Φ ι F e' g σ' H → Q σ' H
def tgts (Kt : Kit) (vs : List Nat) (gm : List D → G → En → Option En) : TGs := fun xs σ H Q => ∃ Φ ι F e g ds, St' Kt Φ ι F e g σ H ∧ DVs Kt ι F xs ds ∧ ∃ e', gm ds g e = some e' ∧ ∀ σ', Out vs σ σ' → St' Kt Φ ι F e' g σ' H → Q σ' H
section
variable {Kt : Kit} {X : Cx} {W : WX} {k : Nat} {a b c : Expr} {ma mb mc : EM} {ta' : TM} {pos : Pos} {es : List Expr} {ms : AM} {vs : List Nat} {gm : GM} {gms : List D → G → En → Option En} {st : Stmt} {sts : List Stmt} {m m' : SM}
theorem PG.imp {e : Expr} {t t' : TG} (h : PG X e t) (i : ∀ v σ H Q, t' v σ H Q → t v σ H Q) : PG X e t' := ⟨fun pins s σ H v u Q I r q => h.run pins s σ H v u Q I r (i v σ H Q q)⟩
theorem PGs.imp {e : List Expr} {t t' : TGs} (h : PGs X e t) (i : ∀ v σ H Q, t' v σ H Q → t v σ H Q) : PGs X e t' := ⟨fun pins s σ H v u Q I r q => h.run pins s σ H v u Q I r (i v σ H Q q)⟩
theorem sg_name (i : Nat) {x : Str} (hN : X.N.Nodup) (hv : i ∈ vs) (hi : X.N[i]? = some x := by rfl) (hx : Loc X.env.scope x := by first | exact Or.inl rfl | exact Or.inr rfl) (hf : X.fn x = true ∨ X.env.scope.names.lookup x = some .local := by first | exact .inl rfl | exact .inr rfl | assumption) :
    PG X (.Name x pos) (tgt Kt vs (gN i)) := PG.imp (pg_name hN hi hx hf) fun v σ H Q ⟨Φ, ι, F, e, g, d, S, r, e', h, q⟩ => by
  cases h
  exact q _ ⟨by simp, fun j hj => by rw [List.getElem?_set_ne]; rintro rfl; exact hj hv⟩ ⟨S.env.set i r, S.rel⟩
theorem sgs_nil : PGs X [] (tgts Kt vs gsN) := PGs.imp pgs_nil fun v σ H Q ⟨Φ, ι, F, e, g, ds, S, r, e', h, q⟩ => by
  cases r with
  | nil => cases h; exact ⟨rfl, q _ Out.refl S⟩
  | cons _ _ => cases h
theorem sgs_cons (h1 : PG X a (tgt Kt vs gm)) (h2 : PGs X es (tgts Kt vs gms)) (hs : (assignEach (a :: es) X.env).map (·.2) = assign a X.env :: (assignEach es X.env).map (·.2) := by rfl) : PGs X (a :: es) (tgts Kt vs (gsC gm gms)) :=
  PGs.imp (pgs_cons h1 h2 hs) fun v σ H Q ⟨Φ, ι, F, e, g, ds, S, r, e', h, q⟩ => by
    cases r with
    | nil => cases h
    | @cons x d xs ds r1 r2 =>
      unfold gsC at h
      simp only at h
      split at h
      · rename_i e1 h1
        exact ⟨x, xs, rfl, Φ, ι, F, e, g, d, S, r1, e1, h1, fun σ' o S' => ⟨Φ, ι, F, e1, g, ds, S', r2, e', h, fun σ2 o2 S2 => q σ2 (o.trans o2) S2⟩⟩
      · cases h
theorem sg_tup {kk : Nat} (n : Nat) (A : At Kt X W k) (h : PGs X es (tgts Kt vs gms)) (hn : (assignEach es X.env).length = n := by rfl) (hst : (assignEach es X.env).findIdx? (·.1) = none := by rfl) : PG X (.Tuple es kk pos) (tgt Kt vs (gT n gms)) :=
  PG.imp (pg_tup A.calm h hn hst) fun v σ H Q ⟨Φ, ι, F, e, g, d, S, r, e', h, q⟩ => by
    unfold gT at h
    split at h
    · split at h
      · rename_i hl
        cases r with
        | tup e1 r1 => exact ⟨_, _, rfl, A.eK ▸ sqt_mono S.rel.sub (tS e1), r1.length.trans (beq_iff_eq.mp hl), Φ, ι, F, e, g, _, S, r1, e', h, q⟩
      · cases h
    · cases h

/-! #### blocks -/
theorem ss_nil : PSs X [] (ts Kt W sNx) := L2.PSs.imp pss_nil fun D σ H ⟨Φ, ι, F, e, g, S, h⟩ => h _ _ _ _ Ex.refl S
theorem so_seq {D : Ends} {Φ : Hp} {ι : List Addr} {F : Hp} {e : En} {g : G} (h : so Kt Φ W D ι F (sSeq m m' e g)) : so Kt Φ W { D with nx := ts Kt W m' D } ι F (m e g) := by
  unfold sSeq at h
  cases z : m e g with
  | nx e1 g1 => rw [z] at h; exact fun ι' F' σ' H' x S => ⟨Φ, ι', F', e1, g1, S, so.mono x h⟩
  | bk e1 g1 => rw [z] at h; exact h
  | ct e1 g1 => rw [z] at h; exact h
  | rt d g1 => rw [z] at h; exact h
  | exn c e1 g1 => rw [z] at h; exact h
  | stuck => rw [z] at h; exact h
theorem ss_cons (h1 : PS X st (ts Kt W m)) (h2 : PSs X sts (ts Kt W m')) : PSs X (st :: sts) (ts Kt W (sSeq m m')) := L2.PSs.imp (pss_cons h1 h2) fun D σ H ⟨Φ, ι, F, e, g, S, h⟩ => ⟨Φ, ι, F, e, g, S, so_seq h⟩
theorem ss_one (h1 : PS X st (ts Kt W m)) : PSs X [st] (ts Kt W m) := pss_one h1
theorem ss_set (i : Nat) {x : Str} {p : Pos} (A : At Kt X W k) (ha : PE X a (te Kt W ma)) (hi : X.N[i]? = some x := by rfl) (hx : Loc X.env.scope x := by first | exact Or.inl rfl | exact Or.inr rfl) (hs : swapsWith a (some (.Name x p)) pos.line X.env = pure false := by rfl)
    (hf : X.fn x = true ∨ X.env.scope.names.lookup x = some .local := by first | exact .inl rfl | exact .inr rfl | assumption) : PS X (.Assign [.Name x p] a pos) (ts Kt W (sAsg i ma)) :=
  L2.PS.imp (ps_set A.nd hi hx ha hs hf) fun D σ H ⟨Φ, ι, F, e, g, S, h⟩ => ⟨Φ, ι, F, e, g, S, (so.bind (Rl := DV Kt) S.env h).imp fun v H1 ⟨ι1, F1, g1, d, x1, R1, r1, h1⟩ => h1 _ _ _ _ Ex.refl ⟨(S.env.mono x1).set i r1, R1⟩⟩
theorem ss_asg (A : At Kt X W k) (ha : PE X a (te Kt W ma)) (hg : PG X b (tgt Kt vs gm)) (hs : swapsWithSole [b] a pos.line X.env = pure false := by rfl) (hw : swappedStores [b] a X.env = pure none := by rfl) (h1 : (assignEach [b] X.env).map (·.2) = [assign b X.env] := by rfl) :
    PS X (.Assign [b] a pos) (ts Kt W (sTgt ma gm)) :=
  L2.PS.imp (ps_asg ha hg hs hw h1) fun D σ H ⟨Φ, ι, F, e, g, S, h⟩ => ⟨Φ, ι, F, e, g, S, (so.bind (Rl := DV Kt) S.env h).imp fun v H1 ⟨ι1, F1, g1, d, x1, R1, r1, h1⟩ => by
    cases z : gm d g1 e with
    | none => rw [z] at h1; exact h1.elim
    | some e' => rw [z] at h1; exact ⟨Φ, ι1, F1, e, g1, d, ⟨S.env.mono x1, R1⟩, r1, e', z, fun σ' _ S' => h1 _ _ _ _ Ex.refl S'⟩⟩
theorem ss_expr (ha : PE X a (te Kt W ma)) (hs : swapsWith a none pos.line X.env = pure false := by rfl) : PS X (.Expr a pos) (ts Kt W (sDrop ma)) :=
  L2.PS.imp (ps_expr ha hs) fun D σ H ⟨Φ, ι, F, e, g, S, h⟩ => ⟨Φ, ι, F, e, g, S, (so.bind (Rl := DV Kt) S.env h).imp fun v H1 ⟨ι1, F1, g1, d, x1, R1, r1, h1⟩ => h1 _ _ _ _ Ex.refl ⟨S.env.mono x1, R1⟩⟩
theorem ss_ret (ha : PE X a (te Kt W ma)) : PS X (.Return (some a) pos) (ts Kt W (sRet ma)) :=
  L2.PS.imp (ps_ret ha) fun D σ H ⟨Φ, ι, F, e, g, S, h⟩ => ⟨Φ, ι, F, e, g, S, (so.bind (Rl := DV Kt) S.env h).imp fun v H1 ⟨ι1, F1, g1, d, x1, R1, r1, h1⟩ => h1 _ _ _ _ Ex.refl R1 r1⟩
theorem ss_retN : PS X (.Return none pos) (ts Kt W (sRet (vC .non))) := L2.PS.imp ps_retN fun D σ H ⟨Φ, ι, F, e, g, S, h⟩ => h _ _ _ _ Ex.refl S.rel .non
theorem ss_if (hc : PT X c (tt Kt W ta')) (ha : PSs X sts (ts Kt W m)) {els : List Stmt} (hb : PSs X els (ts Kt W m')) : PS X (.If c sts els pos) (ts Kt W (sIf ta' m m')) :=
  L2.PS.imp (ps_if hc ha hb) fun D σ H ⟨Φ, ι, F, e, g, S, h⟩ => ⟨Φ, ι, F, e, g, S, (so.bind (Rl := RB) S.env h).imp fun v H1 ⟨ι1, F1, g1, d, x1, R1, r1, h1⟩ => by
    obtain rfl : v = d := r1
    cases v with
    | true => rw [if_pos rfl]; exact ⟨Φ, ι1, F1, e, g1, ⟨S.env.mono x1, R1⟩, h1⟩
    | false => rw [if_neg Bool.false_ne_true]; exact ⟨Φ, ι1, F1, e, g1, ⟨S.env.mono x1, R1⟩, h1⟩⟩
theorem ss_pass : PS X (.Pass pos) (ts Kt W sNx) := L2.PS.imp ps_pass fun D σ H ⟨Φ, ι, F, e, g, S, h⟩ => h _ _ _ _ Ex.refl S
theorem ss_break : PS X (.Break pos) (ts Kt W sBk) := L2.PS.imp ps_break fun D σ H ⟨Φ, ι, F, e, g, S, h⟩ => h _ _ _ _ Ex.refl S
theorem ss_cont : PS X (.Continue pos) (ts Kt W sCt) := L2.PS.imp ps_continue fun D σ H ⟨Φ, ι, F, e, g, S, h⟩ => h _ _ _ _ Ex.refl S
theorem setA_ok {Φ : Hp} {ι : List Addr} {F H : Hp} {g : G} {cs : List Nat} {n l cc : Nat} {x : Str} {fs : List (Nat × D)} {ad : Addr} {v : V} {y : D} (hx : Kt.tab[n]? = some x) (ca : CA Kt cs x) (R : RelG Kt Φ ι F g H) (e1 : g[l]? = some (.ins cc fs)) (hc : (cs.contains cc && decide (fs.length < 1000)) = true)
    (e2 : ι[l]? = some ad) (r : DV Kt ι F v y) : ∃ C dx gs, H ad = some (.ins C dx gs) ∧ Cls Kt.K C ∧ NoAttr Kt.K C x ∧ gs.length < 1000 ∧ RelG Kt Φ ι F (g.set l (.ins cc (putA n y fs))) (upd H ad (.ins C dx (putF x v gs))) := by
  rw [Bool.and_eq_true, decide_eq_true_eq] at hc
  obtain ⟨hF, C, dx, gs, e3, e4, r4⟩ := R.ob l _ _ e1 e2
  obtain ⟨c1, c2⟩ := ca cc (by simpa using hc.1) C e3
  exact ⟨C, dx, gs, e4, c1, c2, by rw [r4.length]; exact hc.2, R.put e2 hF ⟨hF, C, dx, _, e3, upd_same, r4.put hx r⟩⟩
theorem ss_fld {n : Nat} {cs : List Nat} {x : Str} {p : Pos} (A : At Kt X W k) (hx : Kt.tab[n]? = some x) (ca : CA Kt cs x) (ho : PE X a (te Kt W ma)) (hv : PE X b (te Kt W mb)) (hs : swapsWith b (some (.Attribute a x p)) pos.line X.env = pure false := by rfl) :
    PS X (.Assign [.Attribute a x p] b pos) (ts Kt W (sSetA cs n ma mb)) := by
  have h := ps_fld (pos := pos) (pos' := p) ho hv hs
  rw [A.eK] at h
  refine L2.PS.imp h fun D σ H ⟨Φ, ι, F, e, g, S, h⟩ => ⟨Φ, ι, F, e, g, S, (so.bind (Rl := DV Kt) S.env h).imp fun v H1 ⟨ι1, F1, g1, d, x1, R1, r1, h1⟩ => ⟨Φ, ι1, F1, e, g1, ⟨S.env.mono x1, R1⟩, (so.bind (Rl := DV Kt) (S.env.mono x1) h1).imp fun v2 H2 ⟨ι2, F2, g2, d2, x2, R2, r2, h2⟩ => ?_⟩⟩
  split at h2
  · split at h2
    · split at h2
      · cases r2 with
        | ref e2 =>
          obtain ⟨C, dx, gs, q1, q2, q3, q4, R3⟩ := setA_ok hx ca R2 (by assumption) (by assumption) e2 (r1.mono x2)
          exact ⟨_, C, dx, gs, rfl, q1, q2, q3, q4, h2 _ _ _ _ Ex.refl ⟨S.env.mono (x1.trans x2), R3⟩⟩
      · exact h2.elim
    · exact h2.elim
  · exact h2.elim
theorem ss_auga {n : Nat} {cs : List Nat} {x : Str} {p : Pos} (A : At Kt X W k) (hx : Kt.tab[n]? = some x) (ca : CA Kt cs x) (ho : PE X a (te Kt W ma)) (hv : PE X b (te Kt W mb)) : PS X (.AugAssign (.Attribute a x p) .Add b pos) (ts Kt W (sAugA cs n ma mb)) := by
  have h := ps_fldaug (pos := pos) (tpos := p) (f := x) ho hv in_add
  rw [A.eK] at h
  refine L2.PS.imp h fun D σ H ⟨Φ, ι, F, e, g, S, h⟩ => ⟨Φ, ι, F, e, g, S, (so.bind (Rl := DV Kt) S.env h).imp fun v H1 ⟨ι1, F1, g1, d, x1, R1, r1, h1⟩ => ?_⟩
  split at h1
  · rename_i l
    split at h1
    · rename_i cc fs e1
      split at h1
      · rename_i i hc hi
        · cases r1 with
          | @ref _ ad e2 =>
          obtain ⟨hF, C, dx, gs, e3, e4, r4⟩ := R1.ob l _ _ e1 e2
          obtain ⟨u', l1, l2⟩ := r4.look hx hi
          cases l2
          obtain ⟨c1, c2⟩ := ca cc (by simpa using hc) C e3
          refine ⟨ad, C, dx, gs, _, rfl, e4, c1, c2, l1, Φ, ι1, F1, e, g1, ⟨S.env.mono x1, R1⟩, (so.bind (Rl := DV Kt) (S.env.mono x1) h1).imp fun v2 H2 ⟨ι2, F2, g2, d2, x2, R2, r2, h2⟩ => ?_⟩
          split at h2
          · cases r2
            split at h2
            · rename_i cc2 fs2 e5
              split at h2
              · rename_i hc2
                obtain ⟨rfl, hl⟩ := of_decide_eq_true hc2
                obtain ⟨C2, dx2, gs2, q1, q2, q3, q4, R3⟩ := setA_ok hx ca R2 e5 (by rw [hc]; simpa using hl) (x2.i _ _ e2) (.int _)
                have eC : C2 = C := by
                  obtain ⟨_, C3, _, _, e6, e7, _⟩ := R2.ob l _ _ e5 (x2.i _ _ e2)
                  rw [q1] at e7; cases e7
                  rw [e3] at e6; cases e6; rfl
                subst eC
                exact ⟨_, _, rfl, rfl, dx2, gs2, q1, q4, h2 _ _ _ _ Ex.refl ⟨S.env.mono (x1.trans x2), R3⟩⟩
              · exact h2.elim
            · exact h2.elim
          · exact h2.elim
      · exact h1.elim
    · exact h1.elim
  · exact h1.elim
theorem ss_aug (i : Nat) {x : Str} {p : Pos} (A : At Kt X W k) (ha : PE X a (te Kt W ma)) (hi : X.N[i]? = some x := by rfl) (hx : Loc X.env.scope x := by first | exact Or.inl rfl | exact Or.inr rfl) (hf : X.fn x = true ∨ X.env.scope.names.lookup x = some .local := by first | exact .inl rfl | exact .inr rfl | assumption) :
    PS X (.AugAssign (.Name x p) .Add a pos) (ts Kt W (sAug i ma)) :=
  L2.PS.imp (ps_aug A.nd hi hx ha ip_add hf) fun D σ H ⟨Φ, ι, F, e, g, S, h⟩ => by
    unfold sAug at h
    split at h
    · rename_i z hz
      obtain ⟨v, e1, r⟩ := S.env.2 i _ hz
      cases r
      refine ⟨_, e1, Φ, ι, F, e, g, S, (so.bind (Rl := DV Kt) S.env h).imp fun v2 H2 ⟨ι2, F2, g2, d2, x2, R2, r2, h2⟩ => ?_⟩
      split at h2
      · cases r2
        exact ⟨_, _, rfl, rfl, h2 _ _ _ _ Ex.refl ⟨(S.env.mono x2).set i (.int _), R2⟩⟩
      · exact h2.elim
    · exact h.elim
theorem ss_sub (A : At Kt X W k) (ha : PE X a (te Kt W ma)) (hb : PE X b (te Kt W mb)) (hc : PE X c (te Kt W mc)) {p : Pos}
    (h0 : ∀ v, assign (.Subscript a b p) X.env v = (do
      let ov ← holding [v] (eval a X.env)
      let iv ← holding [v, ov] (eval b X.env)
      standAt p
      holding [v, ov, iv] (setItem ov iv v)
      release [v, ov, iv] []) := by intro _; rfl)
    (hs : swapsWithSole [.Subscript a b p] c pos.line X.env = pure false := by rfl) (hw : swappedStores [.Subscript a b p] c X.env = pure none := by rfl) (h1 : (assignEach [.Subscript a b p] X.env).map (·.2) = [assign (.Subscript a b p) X.env] := by rfl) :
    PS X (.Assign [.Subscript a b p] c pos) (ts Kt W (sSub ma mb mc)) :=
  L2.PS.imp (ps_asg hc (pg_sub ha hb set_list h0) hs hw h1) fun D σ H ⟨Φ, ι, F, e, g, S, h⟩ => ⟨Φ, ι, F, e, g, S, (so.bind (Rl := DV Kt) S.env h).imp fun v H1 ⟨ι1, F1, g1, d, x1, R1, r1, h1⟩ =>
    ⟨Φ, ι1, F1, e, g1, ⟨S.env.mono x1, R1⟩, (so.bind (Rl := DV Kt) (S.env.mono x1) h1).imp fun v2 H2 ⟨ι2, F2, g2, d2, x2, R2, r2, h2⟩ =>
      ⟨Φ, ι2, F2, e, g2, ⟨S.env.mono (x1.trans x2), R2⟩, (so.bind (Rl := DV Kt) (S.env.mono (x1.trans x2)) h2).imp fun v3 H3 ⟨ι3, F3, g3, d3, x3, R3, r3, h3⟩ => by
        split at h3
        · rename_i l j
          split at h3
          · rename_i ds e1
            split at h3
            · rename_i n hn
              cases r2 with
              | @ref _ ad e2 =>
              cases r3
              obtain ⟨hF, vs, e3, r4⟩ := R3.ob _ _ _ e1 (x3.i _ _ e2)
              refine ⟨ad, vs, _, n, rfl, rfl, e3, by rw [r4.length]; exact hn, h3 _ _ _ _ Ex.refl ⟨S.env.mono ((x1.trans x2).trans x3), R3.put (x3.i _ _ e2) hF ⟨hF, _, upd_same, DVs.set (r1.mono (x2.trans x3)) n r4⟩⟩⟩
            · exact h3.elim
          · exact h3.elim
        · exact h3.elim⟩⟩⟩
/-! #### lists that change -/
theorem po_frz {Φ : Hp} {ι : List Addr} {F H : Hp} {g : G} {σ : L2.St} {v : V} {d : D} (R : RelG Kt Φ ι F g H) (r : DV Kt ι F v d) {Q : VK} (h : po Kt Φ W σ (DV Kt) ι F (frzD d g) Q) : Q v H := by
  unfold frzD at h
  split at h
  · rename_i l
    split at h
    · rename_i ds e1
      obtain ⟨a, vs, e2, R', x, q⟩ := R.done e1
      cases r with
      | ref e3 =>
      rw [e2] at e3; cases e3
      exact h _ _ _ _ x R' q
    · exact h _ _ _ _ Ex.refl R r
  · exact h _ _ _ _ Ex.refl R r
theorem se_frz (ha : PE X a (te Kt W ma)) : PE X a (te Kt W (vFrz ma)) := L2.PE.imp ha fun σ H Q ⟨Φ, ι, F, e, g, S, h⟩ => ⟨Φ, ι, F, e, g, S, (po.bind (Rl := DV Kt) h).imp fun v H1 ⟨ι1, F1, g1, d, x1, R1, r1, h1⟩ => po_frz R1 r1 h1⟩
theorem tyV_l {Φ : Hp} {ι : List Addr} {F H : Hp} {g : G} {v : V} {d : D} {ds : List D} (R : RelG Kt Φ ι F g H) (r : DV Kt ι F v d) (h : lsD g d = some ds) : tyV Kt.K "list" v H := by
  obtain ⟨a, vs, rfl, e1, _⟩ := lsD_ok R r h
  exact .inl ⟨rfl, vs, .inl (.inl e1)⟩
theorem se_app {p : Pos} (A : At Kt X W k) (ho : PE X a (te Kt W ma)) (hm : PE X b (te Kt W mb)) (hbase : attributeBase a "append" X.env (eval a X.env) = eval a X.env := by rfl)
    (hfew : ((backTo pos (starEach [b] X.env)).all (fun x => !x.1) && (backToKw pos (keywordEach [] X.env)).all (fun x => x.1.isSome)
      && decide ([b].length + ([] : List Keyword).length + (if ([] : List Keyword).isEmpty then 0 else 1) < 30)) = true := by rfl)
    (hline : (p.endLine == pos.line) = true := by rfl) (hs : starEach [b] X.env = (false, eval b X.env) :: starEach [] X.env := by rfl) (hplain : (backTo pos (starEach [] X.env)).any (·.1) = false := by rfl) :
    PE X (.Call (.Attribute a "append" p) [b] [] pos) (te Kt W (vApp ma mb)) := by
  have h := pe_bm (cpos := pos) (apos := p) PySem.F.plainAttrs_list PySem.F.slot_list_append PySem.F.type_list_append mt_append ho (pa_cons hm pa_nil hs) hbase hfew hline hs hplain
  rw [A.eK] at h
  refine L2.PE.imp h fun σ H Q ⟨Φ, ι, F, e, g, S, h⟩ => ⟨Φ, ι, F, e, g, S, (po.bind (Rl := DV Kt) h).imp fun v H1 ⟨ι1, F1, g1, d, x1, R1, r1, h1⟩ => ?_⟩
  split at h1
  · exact h1.elim
  · rename_i ds0 e0
    refine ⟨tyV_l R1 r1 e0, Φ, ι1, F1, e, g1, ⟨S.env.mono x1, R1⟩, (po.bind (Rl := DV Kt) h1).imp fun v2 H2 ⟨ι2, F2, g2, d2, x2, R2, r2, h2⟩ => ?_⟩
    split at h2
    · rename_i l
      split at h2
      · rename_i ds e1
        split at h2
        · rename_i hl
          cases r1 with
          | @ref _ ad e2 =>
          obtain ⟨hF, vs, e3, r4⟩ := R2.ob _ _ _ e1 (x2.i _ _ e2)
          exact ⟨ad, vs, v2, rfl, rfl, e3, by rw [r4.length]; exact ltL_iff.mp hl, h2 _ _ _ _ Ex.refl (R2.put (x2.i _ _ e2) hF ⟨hF, _, upd_same, r4.append (.one r2)⟩) .non⟩
        · exact h2.elim
      · exact h2.elim
    · exact h2.elim
end
end Y

set_option Elab.async false
set_option linter.all false
set_option maxRecDepth 100000
namespace Y
open PySem PySem.Spec PyProof.Rows L2

/-! ### what a loop walks -/
inductive Src where
  | vals (xs : List D) | obj (l : Nat)
def nxS (s : Src) (i : Nat) (g : G) : Option (Option D) := match s with
  | .vals xs => some xs[i]?
  | .obj l => match g[l]? with
    | some (.lst ds) => some ds[i]?
    | _ => none
structure SrcJ (Kt : Kit) (s : Src) (J : It) (ι : List Addr) (F : Hp) : Prop where
  go : ∀ {Φ : Hp} {ι1 : List Addr} {F1 : Hp} {g : G} {H : Hp} {i : Nat} {x : D}, Ex ι F ι1 F1 → RelG Kt Φ ι1 F1 g H → nxS s i g = some (some x) →
    J.go i H ∧ ∀ v H', J.yld i H v H' → ∃ ι2 F2, Ex ι1 F1 ι2 F2 ∧ RelG Kt Φ ι2 F2 g H' ∧ DV Kt ι2 F2 v x
  stop : ∀ {Φ : Hp} {ι1 : List Addr} {F1 : Hp} {g : G} {H : Hp} {i : Nat}, Ex ι F ι1 F1 → RelG Kt Φ ι1 F1 g H → nxS s i g = some none → J.stop i H
abbrev RJ (Kt : Kit) : List Addr → Hp → It → Src → Prop := fun ι F J s => SrcJ Kt s J ι F
abbrev IM := En → G → Res Src
structure PIy (Kt : Kit) (X : Cx) (W : WX) (tg iter : Expr) (im : IM) : Prop where
  ex : ∃ wi, PI X tg iter wi ∧ ∀ (σ : L2.St) (H Φ : Hp) (ι : List Addr) (F : Hp) (e : En) (g : G) (R : It → Hp → Prop), St' Kt Φ ι F e g σ H → po Kt Φ W σ (RJ Kt) ι F (im e g) R → wi σ H R

/-! #### loops -/
def after (r : SR) (k : En → G → SR) : SR := match r with
  | .nx e g => k e g
  | .ct e g => k e g
  | .bk e g => .nx e g
  | r => r
def loopS (gm : GM) (b : SM) (s : Src) : Nat → Nat → En → G → SR
  | 0, i, e, g => match nxS s i g with
    | some none => .nx e g
    | _ => .stuck
  | n + 1, i, e, g => match nxS s i g with
    | none => .stuck
    | some none => .nx e g
    | some (some x) => match gm x g e with
      | none => .stuck
      | some e' => after (b e' g) fun e2 g2 => loopS gm b s n (i + 1) e2 g2
def loopL (gm : GM) (b : SM) : List D → En → G → SR
  | [], e, g => .nx e g
  | x :: xs, e, g => match gm x g e with
    | none => .stuck
    | some e' => after (b e' g) fun e2 g2 => loopL gm b xs e2 g2
theorem loopS_vals (gm : GM) (b : SM) (xs : List D) : ∀ (n i : Nat) (e : En) (g : G), n = xs.length - i → loopS gm b (.vals xs) n i e g = loopL gm b (xs.drop i) e g
  | 0, i, e, g, h => by
    have hx : xs[i]? = none := List.getElem?_eq_none (by omega)
    have hd : xs.drop i = [] := List.drop_eq_nil_of_le (by omega)
    rw [hd]
    unfold loopS loopL nxS
    simp only [hx]
  | n + 1, i, e, g, h => by
    have hi : i < xs.length := by omega
    have hx : xs[i]? = some xs[i] := List.getElem?_eq_getElem hi
    rw [List.drop_eq_getElem_cons hi]
    unfold loopS loopL nxS
    simp only [hx]
    split
    · rfl
    · congr 1
      funext e2 g2
      exact loopS_vals gm b xs n (i + 1) e2 g2 (by omega)
def runS (gm : GM) (b : SM) (s : Src) (e : En) (g : G) : SR := match s with
  | .vals xs => loopL gm b xs e g
  | .obj l => match g[l]? with
    | some (.lst ds) => loopS gm b (.obj l) ds.length 0 e g
    | _ => .stuck
def sFor (im : IM) (gm : GM) (b : SM) : SM := fun e g => sBind (im e g) e fun s g1 => runS gm b s e g1
def loopW (c : TM) (b : SM) : Nat → En → G → SR
  | 0, _, _ => .stuck
  | n + 1, e, g => sBind (c e g) e fun t g1 => bif t then after (b e g1) fun e2 g2 => loopW c b n e2 g2 else .nx e g1
def noX {α : Type} (r : Res α) : Res α := match r with
  | .ok a g => .ok a g
  | _ => .stuck
@[simp] theorem noX_ok {α : Type} {a : α} {g : G} : noX (.ok a g) = .ok a g := rfl
@[simp] theorem noX_stuck {α : Type} : noX (.stuck : Res α) = .stuck := rfl
def wipeE (e : En) : List Nat → En
  | [] => e
  | v :: vs => (wipeE e vs).set v none
def lcS (gm : GM) (t : TM) (m : EM) (s : Src) : Nat → Nat → En → G → Res (List D)
  | 0, i, e, g => match nxS s i g with
    | some none => .ok [] g
    | _ => .stuck
  | n + 1, i, e, g => match nxS s i g with
    | none => .stuck
    | some none => .ok [] g
    | some (some x) => match gm x g e with
      | none => .stuck
      | some e' => (noX (t e' g)).bind fun c g1 => bif c then (noX (m e' g1)).bind fun y g2 => (lcS gm t m s n (i + 1) e g2).bind fun ys g3 => .ok (y :: ys) g3 else lcS gm t m s n (i + 1) e g1
def lcL (gm : GM) (t : TM) (m : EM) : List D → En → G → Res (List D)
  | [], e, g => .ok [] g
  | x :: xs, e, g => match gm x g e with
    | none => .stuck
    | some e' => (noX (t e' g)).bind fun c g1 => bif c then (noX (m e' g1)).bind fun y g2 => (lcL gm t m xs e g2).bind fun ys g3 => .ok (y :: ys) g3 else lcL gm t m xs e g1
theorem lcS_vals (gm : GM) (t : TM) (m : EM) (xs : List D) : ∀ (n i : Nat) (e : En) (g : G), n = xs.length - i → lcS gm t m (.vals xs) n i e g = lcL gm t m (xs.drop i) e g
  | 0, i, e, g, h => by
    have hx : xs[i]? = none := List.getElem?_eq_none (by omega)
    have hd : xs.drop i = [] := List.drop_eq_nil_of_le (by omega)
    rw [hd]
    unfold lcS lcL nxS
    simp only [hx]
  | n + 1, i, e, g, h => by
    have hi : i < xs.length := by omega
    have hx : xs[i]? = some xs[i] := List.getElem?_eq_getElem hi
    rw [List.drop_eq_getElem_cons hi]
    unfold lcS lcL nxS
    simp only [hx]
    have ih := fun e2 g2 => lcS_vals gm t m xs n (i + 1) e2 g2 (by omega)
    simp only [ih]
def srcN (s : Src) (g : G) : Option Nat := match s with
  | .vals xs => some xs.length
  | .obj l => match g[l]? with
    | some (.lst ds) => some ds.length
    | _ => none
def lcR (gm : GM) (t : TM) (m : EM) (s : Src) (e : En) (g : G) : Res (List D) := match s with
  | .vals xs => match okL xs.length with
    | true => lcL gm t m xs e g
    | false => .stuck
  | .obj l => match g[l]? with
    | some (.lst ds) => (match okL ds.length with
      | true => lcS gm t m (.obj l) ds.length 0 e g
      | false => .stuck)
    | _ => .stuck
/-- a comprehension: a list that does not change; one that will -/
def vLc (own : List Nat) (im : IM) (gm : GM) (t : TM) (m : EM) : EM := fun e g => (im e g).bind fun s g1 => (lcR gm t m s (wipeE e own) g1).bind fun ys g2 => .ok (.lst ys) g2
def vLcO (own : List Nat) (im : IM) (gm : GM) (t : TM) (m : EM) : EM := fun e g => (im e g).bind fun s g1 => (lcR gm t m s (wipeE e own) g1).bind fun ys g2 => .ok (.ref g2.length) (g2 ++ [.lst ys])
def tYes : TM := fun _ g => .ok true g
abbrev WF : WX := fun _ _ _ _ => False

section
variable {Kt : Kit} {X : Cx} {W : WX} {k : Nat} {a b c tg iter : Expr} {ma mb mc : EM} {ta' : TM} {pos : Pos} {es : List Expr} {ms : AM} {vs : List Nat} {gm : GM} {st : Stmt} {sts : List Stmt} {m m' : SM} {im : IM}
theorem so_after {D : Ends} {N : L2.St → Hp → Prop} {Φ : Hp} {ι : List Addr} {F : Hp} {r : SR} {kk : En → G → SR} (h : so Kt Φ W D ι F (after r kk))
    (hN : ∀ ι' F' e' g' σ' H', Ex ι F ι' F' → St' Kt Φ ι' F' e' g' σ' H' → so Kt Φ W D ι' F' (kk e' g') → N σ' H') : so Kt Φ W { D with nx := N, ct := N, bk := D.nx } ι F r := by
  cases r with
  | nx e g => exact fun ι' F' σ' H' x S => hN ι' F' e g σ' H' x S (so.mono x h)
  | ct e g => exact fun ι' F' σ' H' x S => hN ι' F' e g σ' H' x S (so.mono x h)
  | bk e g => exact h
  | rt d g => exact h
  | exn c e g => exact h
  | stuck => exact h
theorem for_src {s : Src} {J : It} {D : Ends} {Φ : Hp} {ι : List Addr} {F : Hp} {e : En} {g : G} {σ : L2.St} {H : Hp} {n : Nat} (hJ : SrcJ Kt s J ι F) (S : St' Kt Φ ι F e g σ H) (h : so Kt Φ W D ι F (loopS gm m s n 0 e g)) :
    ∃ Wp : Nat → Nat → L2.St → Hp → Prop, (∃ m, Wp 0 m σ H) ∧ ∀ i k σ H, Wp i k σ H →
      (J.stop i H ∧ D.nx σ H) ∨ (J.go i H ∧ ∃ N : L2.St → Hp → Prop, (∀ σ' H', N σ' H' → ∃ m', m' < k ∧ Wp (i + 1) m' σ' H') ∧ ∀ x H', J.yld i H x H' → tgt Kt vs gm x σ H' fun σ2 H2 => ts Kt W m { D with nx := N, ct := N, bk := D.nx } σ2 H2) := by
  refine ⟨fun i k σ H => ∃ ι1 F1 e1 g1, Ex ι F ι1 F1 ∧ St' Kt Φ ι1 F1 e1 g1 σ H ∧ so Kt Φ W D ι1 F1 (loopS gm m s k i e1 g1), ⟨n, ι, F, e, g, Ex.refl, S, h⟩, ?_⟩
  rintro i k σ H ⟨ι1, F1, e1, g1, x1, S1, h1⟩
  cases z : nxS s i g1 with
  | none => cases k <;> (unfold loopS at h1; rw [z] at h1; exact h1.elim)
  | some o =>
    cases o with
    | none =>
      refine .inl ⟨hJ.stop x1 S1.rel z, ?_⟩
      cases k <;> (unfold loopS at h1; rw [z] at h1; exact h1 _ _ _ _ Ex.refl S1)
    | some y =>
      cases k with
      | zero => unfold loopS at h1; rw [z] at h1; exact h1.elim
      | succ k =>
        unfold loopS at h1
        rw [z] at h1
        obtain ⟨hg, hy⟩ := hJ.go x1 S1.rel z
        refine .inr ⟨hg, fun σ' H' => ∃ ι2 F2 e2 g2, Ex ι1 F1 ι2 F2 ∧ St' Kt Φ ι2 F2 e2 g2 σ' H' ∧ so Kt Φ W D ι2 F2 (loopS gm m s k (i + 1) e2 g2), fun σ' H' ⟨ι2, F2, e2, g2, x2, S2, h2⟩ => ⟨k, Nat.lt_succ_self _, ι2, F2, e2, g2, x1.trans x2, S2, h2⟩, fun v H' yl => ?_⟩
        obtain ⟨ι2, F2, x2, R2, r2⟩ := hy v H' yl
        cases zg : gm y g1 e1 with
        | none => simp only [zg] at h1; exact h1.elim
        | some e' =>
          simp only [zg] at h1
          refine ⟨Φ, ι2, F2, e1, g1, y, ⟨S1.env.mono x2, R2⟩, r2, e', zg, fun σ' _ S' => ⟨Φ, ι2, F2, e', g1, S', so_after (so.mono x2 h1) fun ι3 F3 e3 g3 σ3 H3 x3 S3 h3 => ⟨ι3, F3, e3, g3, x2.trans x3, S3, h3⟩⟩⟩
theorem ss_for (A : At Kt X W k) (hi : PIy Kt X W tg iter im) (hg : PG X tg (tgt Kt vs gm)) (hb : PSs X sts (ts Kt W m)) (hs : ∀ x, foldedSetIterable iter X.env x = pure x := by intro _; rfl) : PS X (.For tg iter sts [] pos) (ts Kt W (sFor im gm m)) := by
  obtain ⟨wi, pi, ii⟩ := hi.ex
  refine L2.PS.imp (ps_for A.pso A.calm pi hg hb hs) fun D σ H ⟨Φ, ι, F, e, g, S, h⟩ => ii σ H Φ ι F e g _ S ((so.bind (Rl := RJ Kt) S.env h).imp fun J H1 ⟨ι1, F1, g1, s, x1, R1, hJ, h1⟩ => ?_)
  have S1 : St' Kt Φ ι1 F1 e g1 σ H1 := ⟨S.env.mono x1, R1⟩
  cases s with
  | vals xs =>
    refine for_src hJ S1 (n := xs.length) ?_
    rw [loopS_vals gm m xs xs.length 0 e g1 rfl]
    exact h1
  | obj l =>
    unfold runS at h1
    simp only at h1
    split at h1
    · exact for_src hJ S1 h1
    · exact h1.elim
theorem ss_while (N : Nat) (A : At Kt X W k) (hc : PT X c (tt Kt W ta')) (hb : PSs X sts (ts Kt W m)) : PS X (.While c sts [] pos) (ts Kt W (loopW ta' m N)) := by
  refine L2.PS.imp (ps_while A.pso hc hb) fun D σ H ⟨Φ, ι, F, e, g, S, h⟩ => ⟨fun n σ H => ∃ ι1 F1 e1 g1, Ex ι F ι1 F1 ∧ St' Kt Φ ι1 F1 e1 g1 σ H ∧ so Kt Φ W D ι1 F1 (loopW ta' m n e1 g1), ⟨N, ι, F, e, g, Ex.refl, S, h⟩, ?_⟩
  rintro n σ H ⟨ι1, F1, e1, g1, x1, S1, h1⟩
  cases n with
  | zero => exact h1.elim
  | succ n =>
    unfold loopW at h1
    refine ⟨Φ, ι1, F1, e1, g1, S1, (so.bind (Rl := RB) S1.env h1).imp fun v H2 ⟨ι2, F2, g2, d, x2, R2, r2, h2⟩ => ?_⟩
    obtain rfl : v = d := r2
    have S2 : St' Kt Φ ι2 F2 e1 g2 σ H2 := ⟨S1.env.mono x2, R2⟩
    cases v with
    | false => rw [if_neg Bool.false_ne_true]; exact h2 _ _ _ _ Ex.refl S2
    | true =>
      rw [if_pos rfl]
      exact ⟨fun σ' H' => ∃ ι3 F3 e3 g3, Ex ι2 F2 ι3 F3 ∧ St' Kt Φ ι3 F3 e3 g3 σ' H' ∧ so Kt Φ W D ι3 F3 (loopW ta' m n e3 g3), fun σ' H' ⟨ι3, F3, e3, g3, x3, S3, h3⟩ => ⟨n, Nat.lt_succ_self _, ι3, F3, e3, g3, (x1.trans x2).trans x3, S3, h3⟩,
        Φ, ι2, F2, e1, g2, S2, so_after h2 fun ι3 F3 e3 g3 σ3 H3 x3 S3 h3 => ⟨ι3, F3, e3, g3, x3, S3, h3⟩⟩

/-! #### sources -/
theorem src_list {a : Addr} {xs : List D} {ι : List Addr} {F : Hp} {ws : List V} (h : SqL Kt.K F a ws) (r : DVs Kt ι F ws xs) : SrcJ Kt (.vals xs) (Itl Kt.K a) ι F where
  go := by
    intro Φ ι1 F1 g H i x y R e
    unfold nxS at e
    have e : xs[i]? = some x := Option.some.inj e
    obtain ⟨v, h1, h2⟩ := r.get e
    have hS : SqL Kt.K H a ws := sql_mono R.sub (sql_mono y.f h)
    refine ⟨⟨ws, v, hS, h1⟩, fun v' H' hy => ?_⟩
    obtain ⟨rfl, hy⟩ := hy
    have := hy ws hS
    rw [h1] at this; cases this
    exact ⟨ι1, F1, Ex.refl, R, h2.mono y⟩
  stop := by
    intro Φ ι1 F1 g H i y R e
    unfold nxS at e
    have e : xs[i]? = none := Option.some.inj e
    exact ⟨ws, sql_mono R.sub (sql_mono y.f h), by rw [r.length]; exact List.getElem?_eq_none_iff.mp e⟩
theorem src_tup {a : Addr} {xs : List D} {ι : List Addr} {F : Hp} {ws : List V} (h : SqT Kt.K F a ws) (r : DVs Kt ι F ws xs) : SrcJ Kt (.vals xs) (Itt Kt.K a) ι F where
  go := by
    intro Φ ι1 F1 g H i x y R e
    unfold nxS at e
    have e : xs[i]? = some x := Option.some.inj e
    obtain ⟨v, h1, h2⟩ := r.get e
    have hS : SqT Kt.K H a ws := sqt_mono R.sub (sqt_mono y.f h)
    refine ⟨⟨ws, v, hS, h1⟩, fun v' H' hy => ?_⟩
    obtain ⟨rfl, hy⟩ := hy
    have := hy ws hS
    rw [h1] at this; cases this
    exact ⟨ι1, F1, Ex.refl, R, h2.mono y⟩
  stop := by
    intro Φ ι1 F1 g H i y R e
    unfold nxS at e
    have e : xs[i]? = none := Option.some.inj e
    exact ⟨ws, sqt_mono R.sub (sqt_mono y.f h), by rw [r.length]; exact List.getElem?_eq_none_iff.mp e⟩
def rngL (lo : Int) (n : Nat) : List D := (List.range n).map fun (i : Nat) => D.int (lo + (i : Int))
theorem src_rng {lo : Int} {n : Nat} {ι : List Addr} {F : Hp} : SrcJ Kt (.vals (rngL lo n)) (Itr lo n) ι F where
  go := by
    intro Φ ι1 F1 g H i x y R e
    unfold nxS rngL at e
    have e : ((List.range n).map fun (i : Nat) => D.int (lo + (i : Int)))[i]? = some x := Option.some.inj e
    rw [List.getElem?_map] at e
    cases z : (List.range n)[i]? with
    | none => rw [z] at e; cases e
    | some j =>
      rw [z] at e
      cases e
      obtain ⟨hi, hj⟩ := List.getElem?_eq_some_iff.mp z
      simp at hi hj
      subst hj
      refine ⟨hi, fun v' H' hy => ?_⟩
      obtain ⟨rfl, rfl⟩ := hy
      exact ⟨ι1, F1, Ex.refl, R, .int _⟩
  stop := by
    intro Φ ι1 F1 g H i y R e
    unfold nxS rngL at e
    have e : ((List.range n).map fun (i : Nat) => D.int (lo + (i : Int)))[i]? = none := Option.some.inj e
    rw [List.getElem?_eq_none_iff, List.length_map, List.length_range] at e
    exact e
theorem src_obj {l : Nat} {a : Addr} {ι : List Addr} {F : Hp} (h : ι[l]? = some a) : SrcJ Kt (.obj l) (Itl Kt.K a) ι F where
  go := by
    intro Φ ι1 F1 g H i x y R e
    unfold nxS at e
    simp only at e
    split at e
    · rename_i ds eg
      have e : ds[i]? = some x := Option.some.inj e
      obtain ⟨_, ws, eH, r⟩ := R.ob l a _ eg (y.i _ _ h)
      obtain ⟨v, h1, h2⟩ := r.get e
      have hS : SqL Kt.K H a ws := .inl (.inl eH)
      refine ⟨⟨ws, v, hS, h1⟩, fun v' H' hy => ?_⟩
      obtain ⟨rfl, hy⟩ := hy
      have := hy ws hS
      rw [h1] at this; cases this
      exact ⟨ι1, F1, Ex.refl, R, h2⟩
    · cases e
  stop := by
    intro Φ ι1 F1 g H i y R e
    unfold nxS at e
    simp only at e
    split at e
    · rename_i ds eg
      have e : ds[i]? = none := Option.some.inj e
      obtain ⟨_, ws, eH, r⟩ := R.ob l a _ eg (y.i _ _ h)
      exact ⟨ws, .inl (.inl eH), by rw [r.length]; exact List.getElem?_eq_none_iff.mp e⟩
    · cases e
/-- a list, by its value -/
def iLst (m : EM) : IM := fun e g => (m e g).bind fun d g1 => match d with
  | .lst xs => .ok (.vals xs) g1
  | .scr xs => .ok (.vals xs) g1
  | .ref l => match g1[l]? with
    | some (.lst _) => .ok (.obj l) g1
    | _ => .stuck
  | _ => .stuck
def iTup (m : EM) : IM := fun e g => (m e g).bind fun d g1 => match d with
  | .tup xs => .ok (.vals xs) g1
  | _ => .stuck
def iRng1 (m : EM) : IM := fun e g => (m e g).bind fun d g1 => match d with
  | .int j => match rB j with
    | true => .ok (.vals (rngL 0 j.toNat)) g1
    | false => .stuck
  | _ => .stuck
def iRng2 (m m' : EM) : IM := fun e g => (m e g).bind fun d g1 => (m' e g1).bind fun d' g2 => match d, d' with
  | .int i, .int j => match rB i && rB j with
    | true => .ok (.vals (rngL i (j - i).toNat)) g2
    | false => .stuck
  | _, _ => .stuck
theorem si_lst (A : At Kt X W k) (h : PE X a (te Kt W ma)) : PIy Kt X W tg a (iLst ma) := by
  have hp := pi_list (tg := tg) h
  rw [A.eK] at hp
  refine ⟨_, hp, fun σ H Φ ι F e g R S q => ⟨Φ, ι, F, e, g, S, (po.bind (Rl := DV Kt) q).imp fun v H1 ⟨ι1, F1, g1, d, x1, R1, r1, h1⟩ => ?_⟩⟩
  cases r1 with
  | @lst ad ws ds eF r => exact ⟨ad, rfl, ⟨ws, .inl (.inl (R1.sub _ _ eF))⟩, h1 _ _ _ _ Ex.refl R1 (src_list (.inl (.inl eF)) r)⟩
  | @scr ad ws ds eF r => exact ⟨ad, rfl, ⟨ws, sql_mono R1.sub eF⟩, h1 _ _ _ _ Ex.refl R1 (src_list eF r)⟩
  | @ref l ad e2 =>
    simp only at h1
    split at h1
    · rename_i ds eg
      obtain ⟨_, ws, eH, r⟩ := R1.ob l ad _ eg e2
      exact ⟨ad, rfl, ⟨ws, .inl (.inl eH)⟩, h1 _ _ _ _ Ex.refl R1 (src_obj e2)⟩
    · exact h1.elim
  | _ => exact h1.elim
theorem si_tup (A : At Kt X W k) (h : PE X a (te Kt W ma)) : PIy Kt X W tg a (iTup ma) := by
  have hp := pi_tup (tg := tg) h
  rw [A.eK] at hp
  refine ⟨_, hp, fun σ H Φ ι F e g R S q => ⟨Φ, ι, F, e, g, S, (po.bind (Rl := DV Kt) q).imp fun v H1 ⟨ι1, F1, g1, d, x1, R1, r1, h1⟩ => ?_⟩⟩
  cases r1 with
  | @tup ad ws ds eF r => exact ⟨ad, rfl, ⟨ws, sqt_mono R1.sub (tS eF)⟩, h1 _ _ _ _ Ex.refl R1 (src_tup (tS eF) r)⟩
  | _ => exact h1.elim
theorem po_one {Φ : Hp} {σ : L2.St} {H : Hp} {e : En} {g : G} {ι : List Addr} {F : Hp} (S : St' Kt Φ ι F e g σ H) {Q : List V → Hp → Prop} (h : po Kt Φ W σ (DV Kt) ι F (ma e g) fun v H' => Q [v] H') : ta Kt W (aCons ma aNil) σ H Q := by
  refine ⟨Φ, ι, F, e, g, S, ?_⟩
  unfold aCons aNil
  cases z : ma e g with
  | ok d g1 =>
    rw [z] at h
    intro ι' F' H' vs x R r
    cases r with
    | cons r1 r2 => cases r2; exact h _ _ _ _ x R r1
  | exn c g1 => rw [z] at h; exact h
  | stuck => rw [z] at h; exact h.elim
theorem si_rng1 {p : Pos} (A : At Kt X W k) (h : PE X a (te Kt W ma)) (hm : Kt.mg "range" = none) (hg : Gl X "range" := by rfl) (hs : starEach [a] X.env = [(false, eval a X.env)] := by rfl) : PIy Kt X W tg (.Call (.Name "range" p) [a] [] pos) (iRng1 ma) :=
  ⟨_, pi_range1 hg (A.em ▸ hm) (pa_cons h pa_nil hs) hs, fun σ H Φ ι F e g R S q => ⟨Φ, ι, F, e, g, S, (po.bind (Rl := DV Kt) q).imp fun v H1 ⟨ι1, F1, g1, d, x1, R1, r1, h1⟩ => by
    split at h1
    · rename_i j
      cases r1
      split at h1
      · rename_i hb
        have hb := rB_ok hb
        exact ⟨j, rfl, hb.1, hb.2, h1 _ _ _ _ Ex.refl R1 src_rng⟩
      · exact h1.elim
    · exact h1.elim⟩⟩
theorem si_rng2 {p : Pos} (A : At Kt X W k) (h : PE X a (te Kt W ma)) (h' : PE X b (te Kt W mb)) (hm : Kt.mg "range" = none) (hg : Gl X "range" := by rfl) (hs : starEach [a, b] X.env = [(false, eval a X.env), (false, eval b X.env)] := by rfl) (hs2 : starEach [b] X.env = [(false, eval b X.env)] := by rfl) :
    PIy Kt X W tg (.Call (.Name "range" p) [a, b] [] pos) (iRng2 ma mb) :=
  ⟨_, pi_range2 hg (A.em ▸ hm) (pa_cons h (pa_cons h' pa_nil hs2) (by rw [hs, hs2])) hs hs2, fun σ H Φ ι F e g R S q => ⟨Φ, ι, F, e, g, S, (po.bind (Rl := DV Kt) q).imp fun v H1 ⟨ι1, F1, g1, d, x1, R1, r1, h1⟩ =>
    ⟨Φ, ι1, F1, e, g1, ⟨S.env.mono x1, R1⟩, (po.bind (Rl := DV Kt) h1).imp fun v2 H2 ⟨ι2, F2, g2, d2, x2, R2, r2, h2⟩ => by
      split at h2
      · rename_i i j
        cases r1; cases r2
        split at h2
        · rename_i hb
          rw [Bool.and_eq_true] at hb
          have hb1 := rB_ok hb.1
          have hb2 := rB_ok hb.2
          exact ⟨_, _, rfl, ⟨hb1.1, hb1.2, hb2.1, hb2.2⟩, h2 _ _ _ _ Ex.refl R2 src_rng⟩
        · exact h2.elim
      · exact h2.elim⟩⟩⟩

/-! #### comprehensions -/
theorem At.blk (A : At Kt X W k) (s : Shared) (H : Hp) (sc : Scope) (ce : Env) (fp : List Addr) : At Kt (X.blk s H sc ce fp) WF k :=
  ⟨A.eP, A.ew, A.eK, A.em, A.eb, A.calm, takes0, A.room, PassesOwn.never, A.nd⟩
structure PTy (Kt : Kit) (X : Cx) (ifs : List Expr) (t : TM) : Prop where
  ex : PTs X ifs (tt Kt WF t)
theorem sts_nil : PTs X [] (tt Kt WF tYes) := ⟨fun pins s σ H Q I ⟨Φ, ι, F, e, g, S, h⟩ => pts_nil.run pins s σ H Q I (h _ _ _ _ Ex.refl S.rel rfl)⟩
theorem sts_one (h : PT X c (tt Kt WF ta')) : PTs X [c] (tt Kt WF ta') := pts_one h
theorem wipe_env {ι : List Addr} {F : Hp} {σ : L2.St} {e : En} (h : EnvR Kt ι F σ e) : ∀ vs : List Nat, EnvR Kt ι F (wipe σ vs) (wipeE e vs)
  | [] => h
  | v :: vs => (wipe_env h vs).unset v
theorem wipe_get {σ : L2.St} : ∀ {vs : List Nat} {i : Nat}, i ∉ vs → (wipe σ vs)[i]? = σ[i]?
  | [], _, _ => rfl
  | v :: vs, i, h => by
    unfold wipe
    rw [List.getElem?_set_ne (fun z => h (by simp [z]))]
    exact wipe_get fun z => h (List.mem_cons_of_mem _ z)
theorem wipe_own {σ : L2.St} : ∀ {vs : List Nat} {i : Nat}, i ∈ vs → i < σ.length → (wipe σ vs)[i]? = some none
  | v :: vs, i, h, hl => by
    unfold wipe
    by_cases z : i = v
    · subst z
      rw [List.getElem?_set_self (by rw [wipe_length]; exact hl)]
    · rw [List.getElem?_set_ne (Ne.symm z)]
      exact wipe_own (by simpa [z] using h) hl
theorem wipe_out' {vs : List Nat} {σ σ' : L2.St} (h : Out vs (wipe σ vs) σ') : wipe σ' vs = wipe σ vs := by
  apply List.ext_getElem?
  intro i
  have hlen : σ'.length = σ.length := h.1.trans (wipe_length σ vs)
  by_cases hi : i ∈ vs
  · by_cases hl : i < σ.length
    · rw [wipe_own hi hl, wipe_own hi (by omega)]
    · rw [List.getElem?_eq_none (by rw [wipe_length]; omega), List.getElem?_eq_none (by rw [wipe_length]; omega)]
  · rw [wipe_get hi, h.2 i hi]
theorem noX_po {α ν : Type} {Φ : Hp} {σ : L2.St} {Rl : List Addr → Hp → ν → α → Prop} {ι : List Addr} {F : Hp} {r : Res α} {Q : ν → Hp → Prop} (h : po Kt Φ W σ Rl ι F (noX r) Q) : po Kt Φ WF σ Rl ι F r Q := by
  cases r with
  | ok a g => exact h
  | exn c g => exact h.elim
  | stuck => exact h.elim
theorem noX_bind {α β ν μ : Type} {Φ : Hp} {σ : L2.St} {Rl : List Addr → Hp → ν → α → Prop} {Rm : List Addr → Hp → μ → β → Prop} {ι : List Addr} {F : Hp} {r : Res α} {kk : α → G → Res β} {Q : μ → Hp → Prop} (h : po Kt Φ W σ Rm ι F ((noX r).bind kk) Q) :
    po Kt Φ WF σ Rl ι F r fun v H1 => ∃ ι1 F1 g1 a, Ex ι F ι1 F1 ∧ RelG Kt Φ ι1 F1 g1 H1 ∧ Rl ι1 F1 v a ∧ po Kt Φ W σ Rm ι1 F1 (kk a g1) Q := noX_po (po.bind h)
theorem lent {Φ : Hp} {ι : List Addr} {F H : Hp} {g : G} {p : Addr} {o : HO} (R : RelG Kt Φ ι F g H) (hp : H p = none) : RelG Kt (upd Φ p o) ι F g (upd H p o) := by
  have nF : F p = none := by
    cases e : F p with
    | none => rfl
    | some u => rw [R.sub p u e] at hp; cases hp
  have np : ∀ (l : Nat) (a : Addr), ι[l]? = some a → a ≠ p := fun l a e z => R.on l a e (z ▸ hp)
  refine ⟨R.len, R.inj, fun a u h => ?_, fun i a e => ?_, fun a u h => ?_, fun l a ob e1 e2 => ?_⟩
  · rw [upd_ne (ne_of_none (R.sub a u h) hp)]; exact R.sub a u h
  · rw [upd_ne (np i a e)]; exact R.on i a e
  · by_cases z : a = p
    · subst z
      rw [upd_same] at h ⊢
      exact ⟨h, nF, fun i q => np i a q rfl⟩
    · rw [upd_ne z] at h ⊢
      exact R.fr a u h
  · exact (R.ob l a ob e1 e2).mono Ex.refl (upd_ne (np l a e2)) fun n => n
theorem relent {Φ : Hp} {ι : List Addr} {F H : Hp} {g : G} {p : Addr} {o o' : HO} (R : RelG Kt (upd Φ p o) ι F g H) : RelG Kt (upd Φ p o') ι F g (upd H p o') ∧ H p = some o := by
  obtain ⟨h1, h2, h3⟩ := R.fr p o upd_same
  have np : ∀ (l : Nat) (a : Addr), ι[l]? = some a → a ≠ p := fun l a e z => h3 l (z ▸ e)
  refine ⟨⟨R.len, R.inj, fun a u h => ?_, fun i a e => ?_, fun a u h => ?_, fun l a ob e1 e2 => ?_⟩, h1⟩
  · rw [upd_ne (ne_of_none h h2)]; exact R.sub a u h
  · rw [upd_ne (np i a e)]; exact R.on i a e
  · by_cases z : a = p
    · subst z
      rw [upd_same] at h ⊢
      exact ⟨h, h2, h3⟩
    · rw [upd_ne z] at h ⊢
      exact R.fr a u (by rw [upd_ne z]; exact h)
  · exact (R.ob l a ob e1 e2).mono Ex.refl (upd_ne (np l a e2)) fun n => n
/-- the new list is handed on: as a value that does not change, as an object -/
theorem back {Φ : Hp} {ι : List Addr} {F H : Hp} {g : G} {p : Addr} {o : HO} (R : RelG Kt (upd Φ p o) ι F g H) (hp : Φ p = none) : RelG Kt Φ ι F g H := by
  refine ⟨R.len, R.inj, R.sub, R.on, fun a u h => R.fr a u ?_, R.ob⟩
  rw [upd_ne (ne_of_none h hp)]; exact h
theorem backF {Φ : Hp} {ι : List Addr} {F H : Hp} {g : G} {p : Addr} {o : HO} (R : RelG Kt (upd Φ p o) ι F g H) (hp : Φ p = none) : RelG Kt Φ ι (upd F p o) g H ∧ Ex ι F ι (upd F p o) := by
  obtain ⟨h1, h2, h3⟩ := R.fr p o upd_same
  have x : Ex ι F ι (upd F p o) := ⟨fun _ _ h => h, fun a u h => by rw [upd_ne (ne_of_none h h2)]; exact h⟩
  have np : ∀ (l : Nat) (a : Addr), ι[l]? = some a → a ≠ p := fun l a e z => h3 l (z ▸ e)
  refine ⟨⟨R.len, R.inj, fun a u h => ?_, R.on, fun a u h => ?_, fun l a ob e1 e2 => ?_⟩, x⟩
  · by_cases z : a = p
    · subst z; rw [upd_same] at h; cases h; exact h1
    · rw [upd_ne z] at h; exact R.sub a u h
  · have z := ne_of_none h hp
    obtain ⟨q1, q2, q3⟩ := R.fr a u (by rw [upd_ne z]; exact h)
    exact ⟨q1, by rw [upd_ne z]; exact q2, q3⟩
  · exact (R.ob l a ob e1 e2).mono x rfl fun n => by rw [upd_ne (np l a e2)]; exact n
theorem backO {Φ : Hp} {ι : List Addr} {F H : Hp} {g : G} {p : Addr} {ws : List V} {ds : List D} (R : RelG Kt (upd Φ p (.lst ws)) ι F g H) (hp : Φ p = none) (r : DVs Kt ι F ws ds) : RelG Kt Φ (ι ++ [p]) F (g ++ [.lst ds]) H ∧ Ex ι F (ι ++ [p]) F := by
  obtain ⟨h1, h2, h3⟩ := R.fr p _ upd_same
  have R0 := back R hp
  have x : Ex ι F (ι ++ [p]) F := ⟨fun l a h => by rw [List.getElem?_append_left (List.getElem?_eq_some_iff.mp h).1]; exact h, fun _ _ h => h⟩
  have sp : ∀ (l : Nat) (a : Addr), (ι ++ [p])[l]? = some a → ι[l]? = some a ∨ (l = ι.length ∧ a = p) := fun l a e => by
    by_cases z : l < ι.length
    · rw [List.getElem?_append_left z] at e; exact .inl e
    · rw [List.getElem?_append_right (by omega)] at e
      have : l - ι.length = 0 := by
        have := (List.getElem?_eq_some_iff.mp e).1
        simp at this; omega
      rw [this] at e
      simp at e
      exact .inr ⟨by omega, e.symm⟩
  refine ⟨⟨by simp [R.len], fun i j a q1 q2 => ?_, R.sub, fun i a e => ?_, fun a u h => ?_, fun l a ob e1 e2 => ?_⟩, x⟩
  · rcases sp i a q1 with q1 | ⟨q1, e1⟩ <;> rcases sp j a q2 with q2 | ⟨q2, e2⟩
    · exact R.inj i j a q1 q2
    · exact absurd (e2 ▸ q1) (h3 i)
    · exact absurd (e1 ▸ q2) (h3 j)
    · omega
  · rcases sp i a e with e | ⟨_, e⟩
    · exact R.on i a e
    · rw [e, h1]; simp
  · obtain ⟨q1, q2, q3⟩ := R0.fr a u h
    refine ⟨q1, q2, fun i q => ?_⟩
    rcases sp i a q with q | ⟨_, q⟩
    · exact q3 i q
    · rw [q] at h; rw [hp] at h; cases h
  · rcases sp l a e2 with e2 | ⟨e2, e3⟩
    · have hl : l < g.length := by rw [← R.len]; exact (List.getElem?_eq_some_iff.mp e2).1
      rw [List.getElem?_append_left hl] at e1
      exact (R.ob l a ob e1 e2).mono x rfl fun n => n
    · rw [e2, R.len, List.getElem?_append_right (Nat.le_refl _), Nat.sub_self] at e1
      simp at e1
      subst e1; subst e3
      exact ⟨h2, ws, h1, r.mono x⟩
/-- the loop of a comprehension -/
theorem lc_src {own : List Nat} {s : Src} {J : It} {Φ : Hp} {ι : List Addr} {F : Hp} {e : En} {g : G} {σ : L2.St} {H1 : Hp} {n : Nat} {t : TM} {Q : Hp → Prop} {p : Addr} (hJ : SrcJ Kt s J ι F) (S : St' Kt Φ ι F e g σ H1) (hp : H1 p = none) (hn : n ≤ LINE)
    (h : ∃ ys g', lcS gm t mb s n 0 (wipeE e own) g = .ok ys g' ∧ ∀ ι' F' H' ws, Ex ι F ι' F' → RelG Kt (upd Φ p (.lst ws)) ι' F' g' H' → DVs Kt ι' F' ws ys → Q H') :
    ∃ Wp : Nat → Nat → Hp → Prop, (∃ m, Wp 0 m (upd H1 p (.lst []))) ∧ ∀ i k H, Wp i k H → (J.stop i H ∧ Q H) ∨ (J.go i H ∧ ∃ N : Hp → Prop, (∀ H', N H' → ∃ m', m' < k ∧ Wp (i + 1) m' H') ∧ ∀ x H', J.yld i H x H' → tgt Kt own gm x (wipe σ own) H' fun σ2 H2 => wipe σ2 own = wipe σ own ∧ tt Kt WF t σ2 H2 fun b H3 =>
      if b = true then te Kt WF mb σ2 H3 fun y H4 => ∃ acc, H4 p = some (.lst acc) ∧ acc.length < sizeLine ∧ N (upd H4 p (.lst (acc ++ [y]))) else N H3) := by
  obtain ⟨ys0, gE, e0, fin⟩ := h
  refine ⟨fun i k H => ∃ ι1 F1 g1 ws ds ys, Ex ι F ι1 F1 ∧ RelG Kt (upd Φ p (.lst ws)) ι1 F1 g1 H ∧ DVs Kt ι1 F1 ws ds ∧ ws.length + k ≤ n ∧ lcS gm t mb s k i (wipeE e own) g1 = .ok ys gE ∧ ys0 = ds ++ ys, ⟨n, ι, F, g, [], [], ys0, Ex.refl, lent S.rel hp, .nil, by simp, e0, rfl⟩, ?_⟩
  rintro i k H ⟨ι1, F1, g1, ws, ds, ys, x1, R1, rw_, hk, e1, ey⟩
  cases z : nxS s i g1 with
  | none => cases k <;> (unfold lcS at e1; rw [z] at e1; cases e1)
  | some o =>
    cases o with
    | none =>
      refine .inl ⟨hJ.stop x1 R1 z, ?_⟩
      have e2 : (Res.ok [] g1 : Res (List D)) = .ok ys gE := by cases k <;> (unfold lcS at e1; rw [z] at e1; exact e1)
      cases e2
      rw [ey, List.append_nil] at fin
      exact fin _ _ _ _ x1 R1 rw_
    | some y =>
      cases k with
      | zero => unfold lcS at e1; rw [z] at e1; cases e1
      | succ k =>
        unfold lcS at e1
        simp only [z] at e1
        obtain ⟨hg, hy⟩ := hJ.go x1 R1 z
        refine .inr ⟨hg, fun H' => ∃ ι2 F2 g2 ws2 ds2 ys2, Ex ι F ι2 F2 ∧ RelG Kt (upd Φ p (.lst ws2)) ι2 F2 g2 H' ∧ DVs Kt ι2 F2 ws2 ds2 ∧ ws2.length + k ≤ n ∧ lcS gm t mb s k (i + 1) (wipeE e own) g2 = .ok ys2 gE ∧ ys0 = ds2 ++ ys2, fun H' q => ⟨k, Nat.lt_succ_self _, q⟩, fun v H' yl => ?_⟩
        obtain ⟨ι2, F2, x2, R2, r2⟩ := hy v H' yl
        cases zg : gm y g1 (wipeE e own) with
        | none => simp only [zg] at e1; cases e1
        | some e' =>
          simp only [zg] at e1
          have S2 : St' Kt (upd Φ p (.lst ws)) ι2 F2 (wipeE e own) g1 (wipe σ own) H' := ⟨wipe_env (S.env.mono (x1.trans x2)) own, R2⟩
          refine ⟨_, ι2, F2, wipeE e own, g1, y, S2, r2, e', zg, fun σ' o S' => ⟨wipe_out' o, _, ι2, F2, e', g1, S', ?_⟩⟩
          cases zt : t e' g1 with
          | exn c g' => rw [zt] at e1; cases e1
          | stuck => rw [zt] at e1; cases e1
          | ok cb g3 =>
            rw [zt] at e1
            intro ι3 F3 H3 v3 x3 R3 ev
            obtain rfl : v3 = cb := ev
            have e1 : (bif v3 then (noX (mb e' g3)).bind fun y g2 => (lcS gm t mb s k (i + 1) (wipeE e own) g2).bind fun ys g3 => .ok (y :: ys) g3 else lcS gm t mb s k (i + 1) (wipeE e own) g3) = .ok ys gE := e1
            cases v3 with
            | false =>
              rw [if_neg Bool.false_ne_true]
              exact ⟨ι3, F3, g3, ws, ds, ys, (x1.trans x2).trans x3, R3, rw_.mono (x2.trans x3), by omega, e1, ey⟩
            | true =>
              rw [if_pos rfl]
              refine ⟨_, ι3, F3, e', g3, ⟨S'.env.mono x3, R3⟩, ?_⟩
              have e1 : ((noX (mb e' g3)).bind fun y g2 => (lcS gm t mb s k (i + 1) (wipeE e own) g2).bind fun ys g3 => .ok (y :: ys) g3) = .ok ys gE := e1
              cases zm : mb e' g3 with
              | exn c g' => rw [zm] at e1; cases e1
              | stuck => rw [zm] at e1; cases e1
              | ok dy g4 =>
                rw [zm] at e1
                intro ι4 F4 H4 v4 x4 R4 r4
                cases zl : lcS gm t mb s k (i + 1) (wipeE e own) g4 with
                | exn c g' => rw [noX_ok, Res.bind, zl] at e1; cases e1
                | stuck => rw [noX_ok, Res.bind, zl] at e1; cases e1
                | ok ys' g5 =>
                  rw [noX_ok, Res.bind, zl] at e1
                  cases e1
                  obtain ⟨R5, eH⟩ := relent (o' := .lst (ws ++ [v4])) R4
                  refine ⟨ws, eH, by rw [← line_eq]; omega, ι4, F4, g4, ws ++ [v4], ds ++ [dy], ys', ((x1.trans x2).trans x3).trans x4, R5, (rw_.mono ((x2.trans x3).trans x4)).append (.one r4), by simp; omega, zl, by rw [ey]; simp⟩
theorem lcR_S {t : TM} {s : Src} {e : En} {g : G} {ys : List D} {g' : G} (h : lcR gm t mb s e g = .ok ys g') : ∃ n, n ≤ LINE ∧ lcS gm t mb s n 0 e g = .ok ys g' := by
  unfold lcR at h
  split at h
  · rename_i xs
    split at h
    · exact ⟨xs.length, by rw [line_eq]; exact okL_iff.mp (by assumption), by rw [lcS_vals gm t mb xs xs.length 0 e g rfl]; exact h⟩
    · cases h
  · split at h
    · split at h
      · exact ⟨_, by rw [line_eq]; exact okL_iff.mp (by assumption), h⟩
      · cases h
    · cases h
theorem lcR_po {t : TM} {s : Src} {e : En} {g : G} {Φ : Hp} {σ : L2.St} {ι : List Addr} {F : Hp} {kk : List D → G → Res D} {Q : VK} (hx : ∀ c g', lcR gm t mb s e g ≠ .exn c g') (h : po Kt Φ W σ (DV Kt) ι F ((lcR gm t mb s e g).bind kk) Q) : ∃ ys g', lcR gm t mb s e g = .ok ys g' ∧ po Kt Φ W σ (DV Kt) ι F (kk ys g') Q := by
  cases z : lcR gm t mb s e g with
  | ok ys g' => rw [z] at h; exact ⟨ys, g', rfl, h⟩
  | exn c g' => exact absurd z (hx c g')
  | stuck => rw [z] at h; exact h.elim
theorem noX_ne {α : Type} {r : Res α} {c : Nat} {g : G} : noX r ≠ .exn c g := by cases r <;> simp [noX]
theorem bind_ne {α β : Type} {r : Res α} {kk : α → G → Res β} {c : Nat} {g : G} (h : ∀ c g, r ≠ .exn c g) (hk : ∀ a g', kk a g' ≠ .exn c g) : r.bind kk ≠ .exn c g := by
  cases r with
  | ok a g' => exact hk a g'
  | exn c' g' => exact absurd rfl (h c' g')
  | stuck => simp
theorem lcS_ne {t : TM} {s : Src} : ∀ {n i : Nat} {e : En} {g : G} {c : Nat} {g' : G}, lcS gm t mb s n i e g ≠ .exn c g'
  | 0, i, e, g, c, g' => by
    unfold lcS
    split <;> simp
  | n + 1, i, e, g, c, g' => by
    unfold lcS
    split
    · simp
    · simp
    · split
      · simp
      · refine bind_ne (fun _ _ => noX_ne) fun b g1 => ?_
        cases b with
        | true => exact bind_ne (fun _ _ => noX_ne) fun y g2 => bind_ne (fun _ _ => lcS_ne) fun ys g3 => by simp
        | false => exact lcS_ne
theorem lcR_ne {t : TM} {s : Src} {e : En} {g : G} (c : Nat) (g' : G) : lcR gm t mb s e g ≠ .exn c g' := by
  unfold lcR
  split
  · rename_i xs
    split
    · have := lcS_vals gm t mb xs xs.length 0 e g rfl
      rw [List.drop_zero] at this
      rw [← this]
      exact lcS_ne
    · simp
  · split
    · split
      · exact lcS_ne
      · simp
    · simp
theorem lc_te {own : List Nat} {wi : TI} {J : It} {s : Src} {Φ : Hp} {ι : List Addr} {F : Hp} {e : En} {g : G} {σ : L2.St} {H1 : Hp} {t : TM} {Q : VK} (hJ : SrcJ Kt s J ι F) (S : St' Kt Φ ι F e g σ H1)
    (h : po Kt Φ W σ (DV Kt) ι F ((lcR gm t mb s (wipeE e own) g).bind fun ys g2 => .ok (.lst ys) g2) Q ∨ po Kt Φ W σ (DV Kt) ι F ((lcR gm t mb s (wipeE e own) g).bind fun ys g2 => .ok (.ref g2.length) (g2 ++ [.lst ys])) Q) :
    ∀ p, H1 p = none → ∃ Wp : Nat → Nat → Hp → Prop, (∃ m, Wp 0 m (upd H1 p (.lst []))) ∧ ∀ i k H, Wp i k H → (J.stop i H ∧ Q (.ref p) H) ∨ (J.go i H ∧ ∃ N : Hp → Prop, (∀ H', N H' → ∃ m', m' < k ∧ Wp (i + 1) m' H') ∧ ∀ x H', J.yld i H x H' → tgt Kt own gm x (wipe σ own) H' fun σ2 H2 => wipe σ2 own = wipe σ own ∧ tt Kt WF t σ2 H2 fun b H3 =>
      if b = true then te Kt WF mb σ2 H3 fun y H4 => ∃ acc, H4 p = some (.lst acc) ∧ acc.length < sizeLine ∧ N (upd H4 p (.lst (acc ++ [y]))) else N H3) := by
  intro p hp
  have hΦ : Φ p = none := by
    cases z : Φ p with
    | none => rfl
    | some o => rw [(S.rel.fr p o z).1] at hp; cases hp
  rcases h with h | h
  · obtain ⟨ys, g', e1, h1⟩ := lcR_po lcR_ne h
    obtain ⟨n, hn, e2⟩ := lcR_S e1
    refine lc_src hJ S hp hn ⟨ys, g', e2, fun ι' F' H' ws x R r => ?_⟩
    obtain ⟨R', x'⟩ := backF R hΦ
    exact h1 _ _ _ _ (x.trans x') R' (.lst upd_same (r.mono x'))
  · obtain ⟨ys, g', e1, h1⟩ := lcR_po lcR_ne h
    obtain ⟨n, hn, e2⟩ := lcR_S e1
    refine lc_src hJ S hp hn ⟨ys, g', e2, fun ι' F' H' ws x R r => ?_⟩
    obtain ⟨R', x'⟩ := backO R hΦ r
    exact h1 _ _ _ _ (x.trans x') R' (.ref (get_snoc R.len))
section
variable {elt : Expr} {ifs : List Expr} {scope : Scope} {own : List (Str × Nat)} {t : TM}
theorem se_lc (A : At Kt X W k) (hi : PIy Kt X W tg iter im) (ok : BlkOk X.N X.env.scope scope own)
    (hg : ∀ (s : Shared) (H : Hp) (C : Addr) (cl : List (Str × Addr)) (fp : List Addr), PG (X.blk s H scope (compEnvC scope cl C X.env) fp) tg (tgt Kt (own.map (·.2)) gm))
    (ht : ∀ (s : Shared) (H : Hp) (C : Addr) (cl : List (Str × Addr)) (fp : List Addr), At Kt (X.blk s H scope (compEnvC scope cl C X.env) fp) WF k → PTs (X.blk s H scope (compEnvC scope cl C X.env) fp) ifs (tt Kt WF t))
    (he : ∀ (s : Shared) (H : Hp) (C : Addr) (cl : List (Str × Addr)) (fp : List Addr), At Kt (X.blk s H scope (compEnvC scope cl C X.env) fp) WF k → PE (X.blk s H scope (compEnvC scope cl C X.env) fp) elt (te Kt WF mb)) (hs : ∀ x, foldedSetIterable iter X.env x = pure x := by intro _; rfl) :
    PE X (.ListComp elt [⟨tg, iter, ifs, 0⟩] scope pos) (te Kt W (vLc (own.map (·.2)) im gm t mb)) := by
  obtain ⟨wi, pi, ii⟩ := hi.ex
  exact L2.PE.imp (pe_lc A.calm A.nd pi ok hg (fun s H C cl fp => ht s H C cl fp (A.blk ..)) (fun s H C cl fp => he s H C cl fp (A.blk ..)) hs) fun σ H Q ⟨Φ, ι, F, e, g, S, h⟩ => ii σ H Φ ι F e g _ S ((po.bind (Rl := RJ Kt) h).imp fun J H1 ⟨ι1, F1, g1, s, x1, R1, hJ, h1⟩ => lc_te (wi := wi) hJ ⟨S.env.mono x1, R1⟩ (.inl h1))
theorem se_lcO (A : At Kt X W k) (hi : PIy Kt X W tg iter im) (ok : BlkOk X.N X.env.scope scope own)
    (hg : ∀ (s : Shared) (H : Hp) (C : Addr) (cl : List (Str × Addr)) (fp : List Addr), PG (X.blk s H scope (compEnvC scope cl C X.env) fp) tg (tgt Kt (own.map (·.2)) gm))
    (ht : ∀ (s : Shared) (H : Hp) (C : Addr) (cl : List (Str × Addr)) (fp : List Addr), At Kt (X.blk s H scope (compEnvC scope cl C X.env) fp) WF k → PTs (X.blk s H scope (compEnvC scope cl C X.env) fp) ifs (tt Kt WF t))
    (he : ∀ (s : Shared) (H : Hp) (C : Addr) (cl : List (Str × Addr)) (fp : List Addr), At Kt (X.blk s H scope (compEnvC scope cl C X.env) fp) WF k → PE (X.blk s H scope (compEnvC scope cl C X.env) fp) elt (te Kt WF mb)) (hs : ∀ x, foldedSetIterable iter X.env x = pure x := by intro _; rfl) :
    PE X (.ListComp elt [⟨tg, iter, ifs, 0⟩] scope pos) (te Kt W (vLcO (own.map (·.2)) im gm t mb)) := by
  obtain ⟨wi, pi, ii⟩ := hi.ex
  exact L2.PE.imp (pe_lc A.calm A.nd pi ok hg (fun s H C cl fp => ht s H C cl fp (A.blk ..)) (fun s H C cl fp => he s H C cl fp (A.blk ..)) hs) fun σ H Q ⟨Φ, ι, F, e, g, S, h⟩ => ii σ H Φ ι F e g _ S ((po.bind (Rl := RJ Kt) h).imp fun J H1 ⟨ι1, F1, g1, s, x1, R1, hJ, h1⟩ => lc_te (wi := wi) hJ ⟨S.env.mono x1, R1⟩ (.inr h1))
/-- y = [..], on one line, y a local -/
theorem ss_lc (i : Nat) {y : Str} {py spos : Pos} (A : At Kt X W k) (hi : PIy Kt X W tg iter im) (ok : BlkOk X.N X.env.scope scope own)
    (hg : ∀ (s : Shared) (H : Hp) (C : Addr) (cl : List (Str × Addr)) (fp : List Addr), PG (X.blk s H scope (compEnvC scope cl C X.env) fp) tg (tgt Kt (own.map (·.2)) gm))
    (ht : ∀ (s : Shared) (H : Hp) (C : Addr) (cl : List (Str × Addr)) (fp : List Addr), At Kt (X.blk s H scope (compEnvC scope cl C X.env) fp) WF k → PTs (X.blk s H scope (compEnvC scope cl C X.env) fp) ifs (tt Kt WF t))
    (he : ∀ (s : Shared) (H : Hp) (C : Addr) (cl : List (Str × Addr)) (fp : List Addr), At Kt (X.blk s H scope (compEnvC scope cl C X.env) fp) WF k → PE (X.blk s H scope (compEnvC scope cl C X.env) fp) elt (te Kt WF mb))
    (hy : X.N[i]? = some y := by rfl) (hyl : X.env.scope.names.lookup y = some .local := by rfl)
    (hsw : swapsWith (.ListComp elt [⟨tg, iter, ifs, 0⟩] scope pos) (some (.Name y py)) spos.line X.env = pure true := by exact sw_true rfl rfl rfl (by decide +kernel))
    (hs : ∀ x, foldedSetIterable iter X.env x = pure x := by intro _; rfl) :
    PS X (.Assign [.Name y py] (.ListComp elt [⟨tg, iter, ifs, 0⟩] scope pos) spos) (ts Kt W (sAsg i (vLc (own.map (·.2)) im gm t mb))) := by
  obtain ⟨wi, pi, ii⟩ := hi.ex
  refine L2.PS.imp (ps_setLc A.calm A.nd hy hyl hsw pi ok hg (fun s H C cl fp => ht s H C cl fp (A.blk ..)) (fun s H C cl fp => he s H C cl fp (A.blk ..)) hs) fun D σ H ⟨Φ, ι, F, e, g, S, h⟩ => ?_
  have h2 := so.bind (Rl := DV Kt) S.env h
  refine ii σ H Φ ι F e g _ S ((po.bind (Rl := RJ Kt) h2).imp fun J H1 ⟨ι1, F1, g1, s, x1, R1, hJ, h1⟩ => ?_)
  exact lc_te (wi := wi) hJ ⟨S.env.mono x1, R1⟩ (.inl (h1.imp fun v H2 ⟨ι2, F2, g2, d, x2, R2, r2, h3⟩ => h3 _ _ _ _ Ex.refl ⟨(S.env.mono x2).set i r2, R2⟩))
/-- .. an object -/
theorem ss_lcO (i : Nat) {y : Str} {py spos : Pos} (A : At Kt X W k) (hi : PIy Kt X W tg iter im) (ok : BlkOk X.N X.env.scope scope own)
    (hg : ∀ (s : Shared) (H : Hp) (C : Addr) (cl : List (Str × Addr)) (fp : List Addr), PG (X.blk s H scope (compEnvC scope cl C X.env) fp) tg (tgt Kt (own.map (·.2)) gm))
    (ht : ∀ (s : Shared) (H : Hp) (C : Addr) (cl : List (Str × Addr)) (fp : List Addr), At Kt (X.blk s H scope (compEnvC scope cl C X.env) fp) WF k → PTs (X.blk s H scope (compEnvC scope cl C X.env) fp) ifs (tt Kt WF t))
    (he : ∀ (s : Shared) (H : Hp) (C : Addr) (cl : List (Str × Addr)) (fp : List Addr), At Kt (X.blk s H scope (compEnvC scope cl C X.env) fp) WF k → PE (X.blk s H scope (compEnvC scope cl C X.env) fp) elt (te Kt WF mb))
    (hy : X.N[i]? = some y := by rfl) (hyl : X.env.scope.names.lookup y = some .local := by rfl)
    (hsw : swapsWith (.ListComp elt [⟨tg, iter, ifs, 0⟩] scope pos) (some (.Name y py)) spos.line X.env = pure true := by exact sw_true rfl rfl rfl (by decide +kernel))
    (hs : ∀ x, foldedSetIterable iter X.env x = pure x := by intro _; rfl) :
    PS X (.Assign [.Name y py] (.ListComp elt [⟨tg, iter, ifs, 0⟩] scope pos) spos) (ts Kt W (sAsg i (vLcO (own.map (·.2)) im gm t mb))) := by
  obtain ⟨wi, pi, ii⟩ := hi.ex
  refine L2.PS.imp (ps_setLc A.calm A.nd hy hyl hsw pi ok hg (fun s H C cl fp => ht s H C cl fp (A.blk ..)) (fun s H C cl fp => he s H C cl fp (A.blk ..)) hs) fun D σ H ⟨Φ, ι, F, e, g, S, h⟩ => ?_
  have h2 := so.bind (Rl := DV Kt) S.env h
  refine ii σ H Φ ι F e g _ S ((po.bind (Rl := RJ Kt) h2).imp fun J H1 ⟨ι1, F1, g1, s, x1, R1, hJ, h1⟩ => ?_)
  exact lc_te (wi := wi) hJ ⟨S.env.mono x1, R1⟩ (.inr (h1.imp fun v H2 ⟨ι2, F2, g2, d, x2, R2, r2, h3⟩ => h3 _ _ _ _ Ex.refl ⟨(S.env.mono x2).set i r2, R2⟩))
end
end
end Y

set_option Elab.async false
set_option linter.all false
set_option maxRecDepth 100000
namespace Y
open PySem PySem.Spec PyProof.Rows L2

/-! ### the built-ins by their names -/
theorem bt_len : bootBuiltins "len" = some (.builtin "len") := by decide +kernel
theorem bt_abs : bootBuiltins "abs" = some (.builtin "abs") := by decide +kernel
theorem bt_max : bootBuiltins "max" = some (.builtin "max") := by decide +kernel
theorem bt_min : bootBuiltins "min" = some (.builtin "min") := by decide +kernel
theorem bt_int : bootBuiltins "int" = some (.type "int") := by decide +kernel
theorem bt_bool : bootBuiltins "bool" = some (.type "bool") := by decide +kernel
theorem bt_str : bootBuiltins "str" = some (.type "str") := by decide +kernel
theorem bt_list : bootBuiltins "list" = some (.type "list") := by decide +kernel
theorem bt_tuple : bootBuiltins "tuple" = some (.type "tuple") := by decide +kernel
section
variable {Kt : Kit} {X : Cx} {W : WX} {k : Nat} {a : Expr} {es : List Expr} {ms : AM} {p pos : Pos}
theorem se_len (A : At Kt X W k) (hm : Kt.mg "len" = none) (ha : PA X (a :: es) (ta Kt W ms)) (hg : Gl X "len" := by rfl) (he : starEach (a :: es) X.env = (false, eval a X.env) :: starEach es X.env := by rfl) (hpl : (backTo pos (starEach es X.env)).any (·.1) = false := by rfl) :
    PE X (.Call (.Name "len" p) (a :: es) [] pos) (te Kt W (vCB lenD ms)) := se_cb A (A.eK ▸ call_len) cd_len hm bt_len ha hg (by decide) (by decide) he hpl
theorem se_abs (A : At Kt X W k) (hm : Kt.mg "abs" = none) (ha : PA X (a :: es) (ta Kt W ms)) (hg : Gl X "abs" := by rfl) (he : starEach (a :: es) X.env = (false, eval a X.env) :: starEach es X.env := by rfl) (hpl : (backTo pos (starEach es X.env)).any (·.1) = false := by rfl) :
    PE X (.Call (.Name "abs" p) (a :: es) [] pos) (te Kt W (vCB absD ms)) := se_cb A call_abs cd_abs hm bt_abs ha hg (by decide) (by decide) he hpl
theorem se_max (A : At Kt X W k) (hm : Kt.mg "max" = none) (ha : PA X (a :: es) (ta Kt W ms)) (hg : Gl X "max" := by rfl) (he : starEach (a :: es) X.env = (false, eval a X.env) :: starEach es X.env := by rfl) (hpl : (backTo pos (starEach es X.env)).any (·.1) = false := by rfl) :
    PE X (.Call (.Name "max" p) (a :: es) [] pos) (te Kt W (vCB maxD ms)) := se_cb A (call_max2 A.calm) cd_max hm bt_max ha hg (by decide) (by decide) he hpl
theorem se_min (A : At Kt X W k) (hm : Kt.mg "min" = none) (ha : PA X (a :: es) (ta Kt W ms)) (hg : Gl X "min" := by rfl) (he : starEach (a :: es) X.env = (false, eval a X.env) :: starEach es X.env := by rfl) (hpl : (backTo pos (starEach es X.env)).any (·.1) = false := by rfl) :
    PE X (.Call (.Name "min" p) (a :: es) [] pos) (te Kt W (vCB minD ms)) := se_cb A (call_min2 A.calm) cd_min hm bt_min ha hg (by decide) (by decide) he hpl
theorem se_int1 (A : At Kt X W k) (hm : Kt.mg "int" = none) (ha : PA X (a :: es) (ta Kt W ms)) (hg : Gl X "int" := by rfl) (he : starEach (a :: es) X.env = (false, eval a X.env) :: starEach es X.env := by rfl) (hpl : (backTo pos (starEach es X.env)).any (·.1) = false := by rfl) :
    PE X (.Call (.Name "int" p) (a :: es) [] pos) (te Kt W (vCB intD ms)) := se_cty A call_int1 cd_int hm bt_int ha hg (by decide) (by decide) he hpl
theorem se_list (A : At Kt X W k) (hm : Kt.mg "list" = none) (ha : PA X (a :: es) (ta Kt W ms)) (hg : Gl X "list" := by rfl) (he : starEach (a :: es) X.env = (false, eval a X.env) :: starEach es X.env := by rfl) (hpl : (backTo pos (starEach es X.env)).any (·.1) = false := by rfl) :
    PE X (.Call (.Name "list" p) (a :: es) [] pos) (te Kt W (vCB listD ms)) := se_cty A (A.eK ▸ call_list_of) cd_list hm bt_list ha hg (by decide) (by decide) he hpl
theorem se_tuple (A : At Kt X W k) (hm : Kt.mg "tuple" = none) (ha : PA X (a :: es) (ta Kt W ms)) (hg : Gl X "tuple" := by rfl) (he : starEach (a :: es) X.env = (false, eval a X.env) :: starEach es X.env := by rfl) (hpl : (backTo pos (starEach es X.env)).any (·.1) = false := by rfl) :
    PE X (.Call (.Name "tuple" p) (a :: es) [] pos) (te Kt W (vCB tupleD ms)) := se_cty A (A.eK ▸ call_tuple_of) cd_tuple hm bt_tuple ha hg (by decide) (by decide) he hpl
end

/-! ### a def -/
def startE (n : Nat) (ds : List D) : En := ds.map some ++ List.replicate (n - ds.length) none
def endM (r : SR) : Res D := match r with
  | .rt d g => .ok d g
  | .nx _ g => .ok .non g
  | .exn c _ g => .exn c g
  | _ => .stuck
/-- a def with so many parameters and names -/
def fnM (n N : Nat) (m : SM) : MF := fun ds g => if ds.length = n then endM (m (startE N ds) g) else .stuck
abbrev cxM (Kt : Kit) (N : List Str) (qual : Str) (scope : Scope) (f : Addr) (cdv : Value) (A : Around) (outer : List Env) (s : Shared) (H : Hp) (E : XK) : Cx := cxOf (L2.CX Kt.P Kt.w) Kt.P Kt.w Kt.K Kt.mg Kt.base N qual scope f cdv A outer s H E
abbrev wM (E : XK) : WX := fun cls d _ H => E cls d H
theorem dvs_map {Kt : Kit} {ι : List Addr} {F : Hp} {vs : List V} {ds : List D} (r : DVs Kt ι F vs ds) (i : Nat) (d : D) (h : (ds.map some)[i]? = some (some d)) : ∃ v, (vs.map some)[i]? = some (some v) ∧ DV Kt ι F v d := by
  rw [List.getElem?_map] at h
  cases z : ds[i]? with
  | none => rw [z] at h; cases h
  | some e =>
    rw [z] at h
    cases h
    obtain ⟨v, h1, h2⟩ := r.get z
    exact ⟨v, by rw [List.getElem?_map, h1]; rfl, h2⟩
theorem env_start {Kt : Kit} {ι : List Addr} {F : Hp} {N : List Str} {vs : List V} {ds : List D} (r : DVs Kt ι F vs ds) : EnvR Kt ι F (L2.start N vs) (startE N.length ds) := by
  refine ⟨by simp [L2.start, startE, r.length], fun i d h => ?_⟩
  unfold L2.start
  unfold startE at h
  by_cases hi : i < ds.length
  · rw [List.getElem?_append_left (by simpa using hi)] at h
    rw [List.getElem?_append_left (by simpa [r.length] using hi)]
    exact dvs_map r i d h
  · rw [List.getElem?_append_right (by simpa using hi), List.getElem?_replicate] at h
    split at h <;> cases h
theorem fn_ok {Kt : Kit} {k : Nat} {x qual : Str} {params : Arguments} {body : List Stmt} {scope : Scope} {f : Addr} {fd : FuncData} {N ps : List Str} {m : SM} (F : FunD Kt.K x qual params body scope [] [] f fd) (S : FnScope N ps scope)
    (hb : ∀ (cdv : Value) (A : Around) (outer : List Env) (s : Shared) (H : Hp) (E : XK), At Kt (cxM Kt N qual scope f cdv A outer s H E) (wM E) k → PSs (cxM Kt N qual scope f cdv A outer s H E) body (ts Kt (wM E) m)) :
    FnOk Kt.P Kt.w Kt.K Kt.mg Kt.base (L2.CX Kt.P Kt.w) (k + 1) f fd ps (spM Kt ps.length (fnM ps.length N.length m)) := by
  refine F.ok S (fun vs H Q E h => h.1) (fun cdv A outer s H vs Q E hr h => ?_)
  have At0 : At Kt (cxM Kt N qual scope f cdv A outer s H E) (wM E) k := ⟨rfl, rfl, rfl, rfl, rfl, rfl, takes_of rfl rfl rfl rfl, hr, passes_of rfl, S.nd⟩
  refine ⟨_, hb cdv A outer s H E At0, ?_⟩
  obtain ⟨hn, Φ, ι, Fz, g, ds, R, r, h⟩ := h
  refine ⟨Φ, ι, Fz, startE N.length ds, g, ⟨env_start r, R⟩, ?_⟩
  unfold fnM at h
  rw [if_pos (r.length.symm.trans hn)] at h
  cases z : m (startE N.length ds) g with
  | nx e' g' => rw [z] at h; exact fun ι' F' σ' H' x S' => h _ _ _ _ x S'.rel .non
  | bk e' g' => rw [z] at h; exact h.elim
  | ct e' g' => rw [z] at h; exact h.elim
  | rt d g' => rw [z] at h; exact h
  | exn c e' g' =>
    rw [z] at h
    obtain ⟨C, hC, h⟩ := h
    exact ⟨C, hC, fun ι' F' σ' H' x S' => h _ _ _ x S'.rel⟩
  | stuck => rw [z] at h; exact h.elim

theorem fn_at {Kt : Kit} {k : Nat} {x qual : Str} {params : Arguments} {body : List Stmt} {scope : Scope} {f : Addr} {fd : FuncData} {N ps : List Str} {m : SM} (F : FunD Kt.K x qual params body scope [] [] f fd) (S : FnScope N ps scope)
    (B : ∀ (kV doc pm : Value) (an : Option Addr) (cdv ct : Value) (us : List Value), us.length = ps.length → bindArgs (PySem.W.fnOf x qual params body scope .none kV doc pm an cdv ct) ⟨us, []⟩ = pure (ps.zip us))
    (hb : ∀ (cdv : Value) (A : Around) (outer : List Env) (s : Shared) (H : Hp) (E : XK), At Kt (cxM Kt N qual scope f cdv A outer s H E) (wM E) k → PSs (cxM Kt N qual scope f cdv A outer s H E) body (ts Kt (wM E) m)) :
    FnAt Kt (k + 1) f ps.length (fnM ps.length N.length m) := ⟨fd, ps, rfl, fn_ok F S hb, F.bindsN B⟩
theorem ca_nil {Kt : Kit} {x : Str} : CA Kt [] x := fun c h => by cases h
theorem ca_cons {Kt : Kit} {x : Str} {c : Nat} {C : Addr} {cs : List Nat} (e : Kt.cls[c]? = some C) (h1 : Cls Kt.K C) (h2 : NoAttr Kt.K C x) (r : CA Kt cs x) : CA Kt (c :: cs) x := fun d hd D eD => by
  rcases List.mem_cons.mp hd with rfl | hd
  · rw [e] at eD; cases eD; exact ⟨h1, h2⟩
  · exact r d hd D eD

/-! ### the law -/
def spLaw (K : PySem.W.Frag) : Sp := fun vs H Q _ => ∃ (a : Addr) (ns : List Int), vs = [.ref a] ∧ SqL K H a (ns.map V.int) ∧ ns.length ≤ 63 ∧ ∀ H', Q (.bl true) H'
theorem dvs_ints {Kt : Kit} {ι : List Addr} {F : Hp} : ∀ ns : List Int, DVs Kt ι F (ns.map V.int) (ns.map D.int)
  | [] => .nil
  | n :: ns => .cons (.int n) (dvs_ints ns)
def Wins (mf : MF) : Prop := ∀ ns : List Int, ns.length ≤ 63 → ∃ g', mf [.scr (ns.map D.int)] [] = .ok (.bl true) g'
theorem law_sp {Kt : Kit} {mf : MF} (h : Wins mf) (vs : List V) (H : Hp) (Q : VK) (E : XK) (q : spLaw Kt.K vs H Q E) : spM Kt 1 mf vs H Q E := by
  obtain ⟨a, ns, rfl, hS, hn, hq⟩ := q
  obtain ⟨g', e⟩ := h ns hn
  have hF : SqL Kt.K (fun b => if b = a then H b else none) a (ns.map V.int) := by
    rcases hS with (z | ⟨o, z⟩) | z
    · exact .inl (.inl ((if_pos rfl).trans z))
    · exact .inl (.inr ⟨o, (if_pos rfl).trans z⟩)
    · exact .inr z
  refine ⟨rfl, fun _ => none, [], fun b => if b = a then H b else none, [], [.scr (ns.map D.int)], ⟨rfl, fun i j a h => by simp at h, fun b o h => ?_, fun i a h => by simp at h, (fun b o h => by cases h), fun l a o h => by simp at h⟩, .cons (.scr hF (dvs_ints ns)) .nil, ?_⟩
  · split at h
    · exact h
    · cases h
  · rw [e]
    intro ι' F' H' v x R r
    cases r
    exact hq H'
theorem law_end {l : PySem.W.OpenLaw} {k : Nat} {q : Program} {loose : List Str} {XP : (Str → Option Value) → Heap → Prop} {YP : World → Heap → Prop} {d : DefRec} {x : Str}
    (hn : l.most = some 63) (hdf : d.params.defaults = []) (hr : Room k callerA) (hname : d.name = ("law" : Str))
    (F : ∀ (w : World) (mg : Str → Option Value) (h : Heap), YP w h → h.Ns mainGlobals mg →
      ∃ (K : PySem.W.Frag) (f : Addr) (fd : FuncData) (mf : MF), K.In h ∧ mg "law" = some (.ref f) ∧ (∀ (s : Shared) (u : Value), BindsTo s fd ⟨[u], []⟩ [(x, u)]) ∧ Wins mf ∧
        ∀ base : Heap, K.In base → base.Ns mainGlobals mg → FnOk l.prog w K mg base (L2.CX l.prog w) k f fd [x] (spLaw K)) :
    PySem.W.WalkO q loose XP YP l.row.toRowW d [] (fun f vs => PySem.call f vs) := by
  refine Att.attach_call hn hdf ?_
  intro w s0 s1 mg mb fa o pm cd doc a vs ns G Y ho hd hcd hmg hobj hints hlen hg
  obtain ⟨K, f, fd, mf, KX, hm, hb, hw, hF⟩ := F w mg _ Y G.T.g
  rw [hname] at hmg
  rw [hm] at hmg
  cases hmg
  exact law_call (CX := L2.CX l.prog w) KX G.T.g G.T.b G.T.builtins G.T.nolimit hg hobj hints (Nat.le_trans hlen (by decide)) hr hF hb
    (fun H hO hS => ⟨a, ns, rfl, hS, hlen, fun _ => rfl⟩)
    (fun H e s' ⟨_, _, _, _, _, _, _, _, _, _, _, _, z⟩ => z)
end Y

set_option Elab.async false
set_option linter.all false
set_option maxRecDepth 100000
namespace Y
open PySem PySem.Spec PyProof.Rows L2

/-! ### exceptions of own classes -/
structure ExK (Kt : Kit) (x : Str) (c : Nat) : Prop where
  ex : ∃ C, Kt.cls[c]? = some C ∧ Kt.mg x = some (.ref C) ∧ PySem.W.excIn Kt.K C He.veBase "ValueError.__new__" = true ∧ PySem.W.keepIn Kt.K (.ref C) = true ∧ PySem.W.subIn Kt.K (.ref C) (.type "BaseException") = some true ∧ PySem.W.typeIn Kt.K (.ref C) = some (.type "type")
/-- a clause for y, at exceptions of the class numbered c; they are of the class z -/
structure CatK (Kt : Kit) (y z : Str) (c : Nat) : Prop where
  ex : ∃ Cy Cz C, Kt.mg y = some (.ref Cy) ∧ Kt.mg z = some (.ref Cz) ∧ Kt.cls[c]? = some C ∧ PySem.W.exmOne Kt.K (.ref C) (.ref Cy) = some true ∧ ExcC Kt.K C ∧ PySem.W.kitOne Kt.K (.ref C) (.ref Cz) = some true
/-- the exception class x; its instances are told to be of the class z -/
def excB (K : PySem.W.Frag) (x z : Str) : Bool :=
  He.eqO (PySem.W.findIn K (.ref (He.ga K x)) "__getattribute__") (some (some (.builtin "BaseException.__getattribute__"))) && (He.eqO (PySem.W.findIn K (.ref (He.ga K x)) "__getattr__") (some none) &&
  (decide (PySem.W.subIn K (.ref (He.ga K x)) (.type "BaseException") = some true) && (PySem.W.hasDictIn K (He.ga K x) && (He.eqO (PySem.W.findIn K (.ref (He.ga K x)) "__class__") (some (some (.builtin "object.__class__"))) &&
  (He.eqO (PySem.W.specialIn K (.builtin "object.__class__") "__get__") (some (some (.builtin "getset_descriptor.__get__"))) && (decide (PySem.W.takesIn K (.builtin "object.__class__") = some true) &&
  (decide (PySem.W.mroIn K (He.ga K x) (.type "object") = some true) && decide (PySem.W.kitOne K (.ref (He.ga K x)) (.ref (He.ga K z)) = some true))))))))
theorem excB_ok {K : PySem.W.Frag} {x z : Str} (h : excB K x z = true) : ExcC K (He.ga K x) ∧ PySem.W.kitOne K (.ref (He.ga K x)) (.ref (He.ga K z)) = some true := by
  unfold excB at h
  obtain ⟨a1, h⟩ := He.ba h
  obtain ⟨a2, h⟩ := He.ba h
  obtain ⟨a3, h⟩ := He.ba h
  obtain ⟨a4, h⟩ := He.ba h
  obtain ⟨a5, h⟩ := He.ba h
  obtain ⟨a6, h⟩ := He.ba h
  obtain ⟨a7, h⟩ := He.ba h
  obtain ⟨a8, a9⟩ := He.ba h
  exact ⟨⟨He.eqO_ok a1, He.eqO_ok a2, of_decide_eq_true a3, a4, He.eqO_ok a5, He.eqO_ok a6, of_decide_eq_true a7, of_decide_eq_true a8⟩, of_decide_eq_true a9⟩

def sRaise (c : Nat) : SM := fun e g => .exn c e g
/-- try: m, except: the exception of the class c is told as [True] -/
def sCat (c : Nat) (m : SM) : SM := fun e g => match m e g with
  | .exn c' _ g' => if c' = c then .rt (.lst [.bl true]) g' else .stuck
  | r => r
section
variable {Kt : Kit} {X : Cx} {W : WX} {k : Nat} {a b : Expr} {ma mb : EM} {pos : Pos} {es : List Expr} {ms : AM} {m : SM}
theorem pmk_own0 {x : Str} {C : Addr} {p : Pos} (q : PySem.W.excIn X.K C He.veBase "ValueError.__new__" = true) (gC : X.mg x = some (.ref C)) (kC : PySem.W.keepIn X.K (.ref C) = true) (r : Raises X (.ref C)) (hg : Gl X x)
    (hdb : (x == ("__debug__" : Str)) = false := by decide) : PMk X (.Call (.Name x p) [] [] pos) (fun _ H Q => Q (.ref C) none H) := by
  intro pins s σ H Q I h
  refine wpAny_Call_Name_kw (ld_glob I hg gC ?_ hdb)
  refine PySem.W.callWith_K0 I.kIn kC ?_
  obtain ⟨bm, N, nm, qn, bs, hdct, sn, sub, ab, col, dd, k0, k1, k2, k3, k5, mN, hC, hN, hni, T⟩ := exc_obj I.kIn q
  exact wpAny_call_exc_subT PySem.F.excBase_ValueError T hC hN hni (fun h' e hm => mk_of I hm r h (I.hok.gone hm.new)) (Nat.zero_le _)
theorem ss_raise {x : Str} {c : Nat} {p pos' : Pos} (A : At Kt X W k) (T : ExK Kt x c) (hg : Gl X x := by rfl) (hdb : (x == ("__debug__" : Str)) = false := by decide) : PS X (.Raise (some (.Call (.Name x p) [] [] pos)) none pos') (ts Kt W (sRaise c)) := by
  obtain ⟨C, hC, hm, h1, h2, h3, h4⟩ := T.ex
  refine L2.PS.imp (L2.ps_raise A.calm A.tk (pmk_own0 (A.eK ▸ h1) (A.em ▸ hm) (A.eK ▸ h2) (raises_own (A.eK ▸ h3) (A.eK ▸ h4)) hg hdb)) fun D σ H ⟨Φ, ι, F, e, g, S, h⟩ => ?_
  obtain ⟨C', hC', h⟩ := h
  rw [hC] at hC'; cases hC'
  exact h _ _ _ _ Ex.refl S
theorem At.tr {W' : WX} {pn : List (Addr × Obj)} {xe : Value → Shared → Prop} (A : At Kt X W k) (tk : Takes (X.tr pn xe) W') (p : PassesOwn (model X.prog X.w) X.A X.env xe) : At Kt (X.tr pn xe) W' k := ⟨A.eP, A.ew, A.eK, A.em, A.eb, A.calm, tk, A.room, p, A.nd⟩
theorem ss_cat (i : Nat) {c : Nat} {y z n : Str} {body : List Stmt} {np p1 p2 p3 p4 p5 p6 p7 : Pos} (A : At Kt X W k) (T : CatK Kt y z c) (hfi : Kt.mg "isinstance" = none)
    (hb : ∀ (W : WX) (pn : List (Addr × Obj)) (xe : Value → Shared → Prop), At Kt (X.tr pn xe) W k → PSs (X.tr pn xe) body (ts Kt W m))
    (hs : X.stack = X.env :: X.outer := by rfl) (hf : X.env.frame = some X.env.locals := by rfl) (hi : X.N[i]? = some n := by rfl) (hln : X.env.kindOf n = some .local := by rfl)
    (hgy : Gl X y := by rfl) (hgz : Gl X z := by rfl) (hgi : Gl X "isinstance" := by rfl) (hdy : (y == ("__debug__" : Str)) = false := by decide) (hdz : (z == ("__debug__" : Str)) = false := by decide)
    (hv : Vis X.env.scope n := by first | exact Or.inl rfl | exact Or.inr (Or.inl rfl) | exact Or.inr (Or.inr rfl)) (hdn : (n == ("__debug__" : Str)) = false := by decide) (hdc : (n == ("__classdict__" : Str)) = false := by decide) :
    PS X (.Try body [.ExceptHandler (some (.Name y np)) (some n) [.Return (some (.List [.Call (.Name "isinstance" p1) [.Name n p2, .Name z p3] [] p4] p5)) p6] p7] [] [] pos) (ts Kt W (sCat c m)) := by
  obtain ⟨Cy, Cz, C, hy, hz, hCc, k1, k2, k3⟩ := T.ex
  refine L2.PS.imp (L2.ps_try_as (ts := fun a cls d D σ H => ∃ C, cls = .ref C ∧ d = none ∧ ExcC X.K C ∧ PySem.W.kitOne X.K (.ref C) (.ref Cz) = some true ∧ (i < σ.length → σ[i]? = some (some (.ref a))) ∧ ∀ p, H p = none → D.rt (.ref p) (upd H p (.lst [.bl true])))
    (tb := fun W => ts Kt W m) (Wout := W) hs hf A.nd hi hln ⟨hgy, hdy, .inl (A.em ▸ hy)⟩ A.tk (fun W' pn xe tk ps => hb W' pn xe (A.tr tk ps)) (fun a oe cls d pn hzc hfl => ?_)) fun D σ H ⟨Φ, ι, F, e, g, S, h⟩ => ⟨Φ, ι, F, e, g, S, ?_⟩
  · refine ⟨fun pins s σ H D I ⟨C, e1, e2, h1, h2, h3, h4⟩ => ?_⟩
    subst e1 e2
    refine (pss_one (X := X.suite a ((a, oe) :: pn)) (ps_ret (pe_lst (pa_cons (pe_callB (call_isE (X := X) h1 hzc hfl) hgi (show X.mg "isinstance" = none from A.em ▸ hfi) (by decide +kernel) (pa_cons (pv i hi hv hdn hdc) (pa_cons (pe_glob (v := .ref Cz) hgz (show X.mg z = some _ from A.em ▸ hz) rfl hdz) pa_nil rfl) rfl) (by decide) (by decide) rfl rfl) pa_nil rfl)))).run pins s σ H D I ?_
    refine ⟨.ref a, h3 (by rw [I.len]; exact (List.getElem?_eq_some_iff.mp hi).1), ?_⟩
    refine ⟨.ref Cz, .ref Cz, true, rfl, fun u r => r, h2, ?_⟩
    exact ⟨by rw [sizeLine_eq]; decide, h4⟩
  · unfold sCat at h
    cases zz : m e g with
    | exn c' e' g' =>
      rw [zz] at h
      simp only at h
      split at h
      · rename_i ec
        subst ec
        refine ⟨C, hCc, fun ι' F' σ' H' x S' => ?_⟩
        refine ⟨true, A.eK ▸ k1, fun _ a ha => ⟨C, rfl, rfl, A.eK ▸ k2, A.eK ▸ k3, ?_, ?_⟩, fun q => Bool.noConfusion q⟩
        · intro hl
          rw [List.length_set] at hl
          rw [List.getElem?_set_self hl]
        · exact newL S'.rel (.one (.bl true)) fun ι2 F2 H2 v x2 R2 r2 => h ι2 F2 H2 v (x.trans x2) R2 r2
      · exact h.elim
    | nx e' g' => rw [zz] at h; exact h
    | bk e' g' => rw [zz] at h; exact h
    | ct e' g' => rw [zz] at h; exact h
    | rt d g' => rw [zz] at h; exact h
    | stuck => rw [zz] at h; exact h

end
/-! ### isinstance of own instances and a built-in type -/
def IsO (Kt : Kit) (t : Ty) (cs : List Nat) : Prop := ∀ c ∈ cs, ∀ C, Kt.cls[c]? = some C → Cls Kt.K C ∧ PySem.W.findIn Kt.K (.ref C) "__class__" = some (some (.builtin "object.__class__")) ∧
  PySem.W.specialIn Kt.K (.builtin "object.__class__") "__get__" = some (some (.builtin "getset_descriptor.__get__")) ∧ PySem.W.takesIn Kt.K (.builtin "object.__class__") = some true ∧ PySem.W.mroIn Kt.K C (.type "object") = some true ∧ PySem.W.kitOne Kt.K (.ref C) (.type t.s) = some false
def isoB (K : PySem.W.Frag) (x : Str) (t : String) : Bool :=
  He.eqO (PySem.W.findIn K (.ref (He.ga K x)) "__class__") (some (some (.builtin "object.__class__"))) && (He.eqO (PySem.W.specialIn K (.builtin "object.__class__") "__get__") (some (some (.builtin "getset_descriptor.__get__"))) &&
  (decide (PySem.W.takesIn K (.builtin "object.__class__") = some true) && (decide (PySem.W.mroIn K (He.ga K x) (.type "object") = some true) && decide (PySem.W.kitOne K (.ref (He.ga K x)) (.type t) = some false))))
theorem iso_nil {Kt : Kit} {t : Ty} : IsO Kt t [] := fun c h => by cases h
theorem iso_cons {Kt : Kit} {t : Ty} {c : Nat} {x : Str} {cs : List Nat} (e : Kt.cls[c]? = some (He.ga Kt.K x)) (h1 : Cls Kt.K (He.ga Kt.K x)) (h : isoB Kt.K x t.s = true) (r : IsO Kt t cs) : IsO Kt t (c :: cs) := fun d hd D eD => by
  rcases List.mem_cons.mp hd with rfl | hd
  · rw [e] at eD; cases eD
    unfold isoB at h
    obtain ⟨a1, h⟩ := He.ba h
    obtain ⟨a2, h⟩ := He.ba h
    obtain ⟨a3, h⟩ := He.ba h
    obtain ⟨a4, a5⟩ := He.ba h
    exact ⟨h1, He.eqO_ok a1, He.eqO_ok a2, of_decide_eq_true a3, of_decide_eq_true a4, of_decide_eq_true a5⟩
  · exact r d hd D eD
def isoD (t : Ty) (cs : List Nat) (g : G) (d : D) : Option D := match isiD t g d with
  | some x => some x
  | none => match d with
    | .ref l => match g[l]? with
      | some (.ins c _) => (match cs.contains c with
        | true => some (.bl false)
        | false => none)
      | _ => none
    | _ => none
theorem se_iso {Kt : Kit} {X : Cx} {W : WX} {k : Nat} {a : Expr} {ma : EM} {pos : Pos} {x : Str} {p p2 : Pos} (t : Ty) {cs : List Nat} (T : IsO Kt t cs) (A : At Kt X W k) (hm : Kt.mg "isinstance" = none) (hm2 : Kt.mg x = none) (hv : bootBuiltins x = some (.type t.s)) (ha : PE X a (te Kt W ma)) (hg : Gl X "isinstance" := by rfl) (hg2 : Gl X x := by rfl) (hn : x ≠ "__name__" := by decide) (hdb : (x == ("__debug__" : Str)) = false := by decide)
    (he : starEach [a, .Name x p2] X.env = (false, eval a X.env) :: starEach [.Name x p2] X.env := by rfl) (he2 : starEach [.Name x p2] X.env = (false, eval (.Name x p2) X.env) :: starEach [] X.env := by rfl) (hpl : (backTo pos (starEach [.Name x p2] X.env)).any (·.1) = false := by rfl) :
    PE X (.Call (.Name "isinstance" p) [a, .Name x p2] [] pos) (te Kt W (vUn (isoD t cs) ma)) :=
  (pe_callB (A.eK ▸ call_isi : CallR X _ (rIsi Kt.K)) hg (A.em ▸ hm) PyProof.Rows.boot_isinstance (pa_cons ha (pa_cons (pe_bltn (v := .ty t.s) hg2 (A.em ▸ hm2) hv rfl hn hdb) pa_nil he2) he) (by decide) (by decide) he hpl).imp fun σ H Q ⟨Φ, ι, F, e, g, S, h⟩ => ⟨Φ, ι, F, e, g, S, (po.bind (Rl := DV Kt) h).imp fun v H1 ⟨ι1, F1, g1, d1, x1, R1, r1, h1⟩ => by
    unfold isoD at h1
    cases z : isiD t g1 d1 with
    | some w =>
      rw [z] at h1
      unfold isiD at z
      cases z2 : tyD g1 d1 with
      | none => rw [z2] at z; cases z
      | some s => rw [z2] at z; cases z; exact ⟨v, _, _, _, _, rfl, .ty _, tyD_ok R1 r1 z2, kit_ty (Ty.kit s t), h1 _ _ _ _ Ex.refl R1 (.bl _)⟩
    | none =>
      rw [z] at h1
      simp only at h1
      split at h1
      · rename_i l
        split at h1
        · rename_i c fs e1
          split at h1
          · rename_i hc
            cases r1 with
            | @ref _ ad e2 =>
            obtain ⟨_, C, dx, gs, e3, e4, r4⟩ := R1.ob l _ _ e1 e2
            obtain ⟨c1, c2, c3, c4, c5, c6⟩ := T c (by simpa using hc) C e3
            exact ⟨_, _, _, _, _, rfl, .ty _, .base (.ins e4 c1 c2 c3 c4 c5), c6, h1 _ _ _ _ Ex.refl R1 (.bl _)⟩
          · exact h1.elim
        · exact h1.elim
      · exact h1.elim⟩
/-! ### more values -/
section
variable {Kt : Kit} {X : Cx} {W : WX} {k : Nat} {a b : Expr} {ma mb : EM} {pos : Pos} {es : List Expr} {ms : AM} {m : SM}
def vSlO (m : EM) (lo hi : Option EM) : EM := fun e g => (m e g).bind fun x g1 => (match lo with
  | none => .ok none g1
  | some a => (a e g1).bind fun d g2 => match d with
    | .int i => .ok (some i) g2
    | _ => .stuck : Res (Option Int)).bind fun l g3 => (match hi with
  | none => .ok none g3
  | some a => (a e g3).bind fun d g2 => match d with
    | .int i => .ok (some i) g2
    | _ => .stuck : Res (Option Int)).bind fun u g4 => match lsD g4 x with
  | some ds => .ok (.ref g4.length) (g4 ++ [.lst (cutD ds l u)])
  | none => .stuck
/-- a slice of a list that is an object -/
theorem se_slO {lo hi : Option Expr} {ml mh : Option EM} {p2 : Pos} (A : At Kt X W k) (ha : PE X a (te Kt W ma)) (hl : PSl Kt X W lo ml) (hh : PSl Kt X W hi mh) : PE X (.Subscript a (.Slice lo hi none p2) pos) (te Kt W (vSlO ma ml mh)) := by
  obtain ⟨tl, pl, il⟩ := hl.ex
  obtain ⟨th, ph, ih⟩ := hh.ex
  refine (pe_slice (A.eK ▸ sl_list : SlR X (rSlL Kt.K)) ha pl ph).imp fun σ H Q ⟨Φ, ι, F, e, g, S, h⟩ => ⟨Φ, ι, F, e, g, S, (po.bind (Rl := DV Kt) h).imp fun v H1 ⟨ι1, F1, g1, d1, x1, R1, r1, h1⟩ => ?_⟩
  refine il σ H1 Φ ι1 F1 e g1 _ ⟨S.env.mono x1, R1⟩ ((po.bind (Rl := RO Kt) h1).imp fun v2 H2 ⟨ι2, F2, g2, d2, x2, R2, r2, h2⟩ => ?_)
  refine ih σ H2 Φ ι2 F2 e g2 _ ⟨S.env.mono (x1.trans x2), R2⟩ ((po.bind (Rl := RO Kt) h2).imp fun v3 H3 ⟨ι3, F3, g3, d3, x3, R3, r3, h3⟩ => ?_)
  obtain rfl : v2 = d2 := r2
  obtain rfl : v3 = d3 := r3
  cases z : lsD g3 d1 with
  | none => rw [z] at h3; exact h3.elim
  | some ds =>
    rw [z] at h3
    obtain ⟨ad, vs, rfl, e1, r4⟩ := lsD_ok R3 (r1.mono (x2.trans x3)) z
    exact ⟨_, _, rfl, .inl (.inl e1), newO R3 (r4.cut v2 v3) h3⟩
/-- bools of a list -/
def bls : List D → Option (List Bool)
  | [] => some []
  | .bl b :: r => (bls r).map (b :: ·)
  | _ => none
theorem bls_ok {ι : List Addr} {F : Hp} : ∀ {vs : List V} {ds : List D} {bs : List Bool}, DVs Kt ι F vs ds → bls ds = some bs → vs = bs.map V.bl
  | _, _, _, .nil, h => by cases h; rfl
  | _, _, bs, .cons (d := d) r1 r2, h => by
    cases r1 with
    | bl b =>
      unfold bls at h
      cases z : bls _ with
      | none => rw [z] at h; cases h
      | some cs => rw [z] at h; cases h; rw [bls_ok r2 z]; rfl
    | _ => simp [bls] at h
def allD (g : G) (ds : List D) : Option D := match ds with
  | [d] => match lsD g d with
    | some xs => (bls xs).map fun bs => .bl (bs.all id)
    | none => none
  | _ => none
def anyD (g : G) (ds : List D) : Option D := match ds with
  | [d] => match lsD g d with
    | some xs => (bls xs).map fun bs => .bl (bs.any id)
    | none => none
  | _ => none
theorem cd_all : CrD Kt (rAll Kt.K) allD := by
  intro Φ ι F g H xs ds z R hv h Q q
  unfold allD at h
  split at h
  · cases hv with
    | cons r1 r2 =>
    cases r2
    split at h
    · rename_i ys e
      cases zb : bls ys with
      | none => rw [zb] at h; cases h
      | some bs =>
        rw [zb] at h; cases h
        obtain ⟨ad, vs, rfl, e1, r⟩ := lsD_ok R r1 e
        have := bls_ok r zb
        subst this
        exact ⟨ad, bs, rfl, .inl (.inl e1), q _ _ _ _ Ex.refl R (.bl _)⟩
    · cases h
  · cases h
theorem cd_any : CrD Kt (rAny Kt.K) anyD := by
  intro Φ ι F g H xs ds z R hv h Q q
  unfold anyD at h
  split at h
  · cases hv with
    | cons r1 r2 =>
    cases r2
    split at h
    · rename_i ys e
      cases zb : bls ys with
      | none => rw [zb] at h; cases h
      | some bs =>
        rw [zb] at h; cases h
        obtain ⟨ad, vs, rfl, e1, r⟩ := lsD_ok R r1 e
        have := bls_ok r zb
        subst this
        exact ⟨ad, bs, rfl, .inl (.inl e1), q _ _ _ _ Ex.refl R (.bl _)⟩
    · cases h
  · cases h
theorem bt_all : bootBuiltins "all" = some (.builtin "all") := by decide +kernel
theorem bt_any : bootBuiltins "any" = some (.builtin "any") := by decide +kernel
theorem se_all {p : Pos} (A : At Kt X W k) (hm : Kt.mg "all" = none) (ha : PA X (a :: es) (ta Kt W ms)) (hg : Gl X "all" := by rfl) (he : starEach (a :: es) X.env = (false, eval a X.env) :: starEach es X.env := by rfl) (hpl : (backTo pos (starEach es X.env)).any (·.1) = false := by rfl) :
    PE X (.Call (.Name "all" p) (a :: es) [] pos) (te Kt W (vCB allD ms)) := se_cb A (A.eK ▸ cr_all A.calm) cd_all hm bt_all ha hg (by decide) (by decide) he hpl
theorem se_any {p : Pos} (A : At Kt X W k) (hm : Kt.mg "any" = none) (ha : PA X (a :: es) (ta Kt W ms)) (hg : Gl X "any" := by rfl) (he : starEach (a :: es) X.env = (false, eval a X.env) :: starEach es X.env := by rfl) (hpl : (backTo pos (starEach es X.env)).any (·.1) = false := by rfl) :
    PE X (.Call (.Name "any" p) (a :: es) [] pos) (te Kt W (vCB anyD ms)) := se_cb A (A.eK ▸ cr_any A.calm) cd_any hm bt_any ha hg (by decide) (by decide) he hpl
end
end Y

set_option Elab.async false
set_option linter.all false
set_option maxRecDepth 100000
namespace Y
open PySem PySem.Spec PyProof.Rows L2 PySem.MeetsSeq
/-! ### o.remove(e), e and the items data -/
/-- the list at l, and what == says of its items and x -/
def RmP (l : Addr) (vs : Array Value) (n : Nat) (x : Value) (q : Value → Bool) (A : Around) (s : Shared) : Prop :=
  s.heap.get? l = some { cls := .type "list", dict := none, data := .seq vs n, slots := #[] } ∧ ∀ y, y ∈ vs → SeqAt.EqAt A.in1 s y x (q y)
theorem rm_loop (l : Addr) (vs : Array Value) (n : Nat) (x : Value) (q : Value → Bool) (j : Nat) (lt : j < vs.size) (yes : q vs[j] = true) (z : vs.size ≤ sizeLine) (m : Nat) : ∀ i : Nat, i + m = j → (∀ c (hc : c < vs.size), c < j → q vs[c] = false) →
    Meets (Builtin.«list.remove.loop» ⟨[.ref l, x, rawInt i], []⟩) (fun A R s => RmP l vs n x q A s ∧ R (.ok (.ret .none)) { s with heap := s.heap.update l (Obj.mapSeq fun u => u.eraseIdxIfInBounds j) }) := by
  induction m with
  | zero =>
    intro i ei no prog w A R s ⟨⟨hl, he⟩, hr⟩
    obtain ⟨hp, gs, dr, tk, os⟩ := s
    obtain rfl : i = j := ei
    wp_walk using wpAny_loadPart' hl
    rw [show vs[((i : Nat) : Int).toNat]? = some vs[i] by simp [lt]]
    refine wpAny_bind (he _ (Array.getElem_mem lt) prog w _ _ ?_)
    rw [yes]
    have zz : (vs.eraseIdxIfInBounds i).size ≤ sizeLine + 1 := Nat.le_trans (size_erased vs _) (Nat.le_succ_of_le z)
    wp_walk using (wpAny_updateSeq hl rfl (hz := z) (_hz' := zz)), wpAny_loadPart' hl
    simpa using hr
  | succ m ih =>
    intro i ei no prog w A R s ⟨⟨hl, he⟩, hr⟩
    obtain ⟨hp, gs, dr, tk, os⟩ := s
    have lt' : i < vs.size := by omega
    wp_walk using wpAny_loadPart' hl
    rw [show vs[((i : Nat) : Int).toNat]? = some vs[i] by simp [lt']]
    refine wpAny_bind (he _ (Array.getElem_mem lt') prog w _ _ ?_)
    rw [no i lt' (by omega)]
    wp_walk
    rw [show ((i : Int) + 1) = ((i + 1 : Nat) : Int) by push_cast; rfl]
    exact ⟨plainId_quiet plain_remove_loop _, codeAny_builtin entry_remove_loop (by
      rw [Around.under_plainId plain_remove_loop _]
      exact ih (i + 1) (by omega) no prog w A R _ ⟨⟨hl, he⟩, hr⟩)⟩
theorem rm_meets (l : Addr) (vs : Array Value) (n : Nat) (x : Value) (q : Value → Bool) (j : Nat) (lt : j < vs.size) (yes : q vs[j] = true) (z : vs.size ≤ sizeLine) (no : ∀ c (hc : c < vs.size), c < j → q vs[c] = false) :
    Meets (Builtin.«list.remove» ⟨[.ref l, x], []⟩) (fun A R s => RmP l vs n x q A s ∧ R (.ok (.ret .none)) { s with heap := s.heap.update l (Obj.mapSeq fun u => u.eraseIdxIfInBounds j) }) := by
  intro prog w A R s ⟨⟨hl, he⟩, hr⟩
  obtain ⟨hp, gs, dr, tk, os⟩ := s
  wp_walk using wpAny_loadPart' hl
  exact ⟨plainId_quiet plain_remove_loop _, codeAny_builtin entry_remove_loop (by
    rw [Around.under_plainId plain_remove_loop _]
    exact rm_loop l vs n x q j lt yes z j 0 (Nat.zero_add j) no prog w A R _ ⟨⟨hl, he⟩, hr⟩)⟩
def rRemD (K : PySem.W.Frag) : V → List V → Hp → VK → Prop := fun x xs H Q => ∃ l vs y d ds j e, x = .ref l ∧ xs = [y] ∧ H l = some (.lst vs) ∧ Dp K H y d ∧ Dp K H (.ref l) (.list ds) ∧ SeqAt.shaped d = true ∧ PyData.canLayAll0 ds = true ∧
  ds[j]? = some e ∧ PyData.eqv e d = true ∧ (∀ m e', m < j → ds[m]? = some e' → PyData.eqv e' d = false) ∧ Q .non (upd H l (.lst (vs.eraseIdx j)))
theorem mt_removeD {X : Cx} (hu : X.A.units + 65 < cLine) : MtM X "list.remove" (rRemD X.K) := by
  intro pins s σ H x xs v us Q I rx rxs h
  obtain ⟨l, vs, y, d, ds, j, e, rfl, rfl, hH, hd, hds, sd, sds, hj, hje, hno, q⟩ := h
  cases rx
  obtain ⟨u, rfl, ru⟩ := rxs.one
  obtain ⟨z, its, n, r, hl, e0⟩ := I.lstM hH
  obtain ⟨as, rd⟩ := Dp.reads I d y u hd ru
  obtain ⟨bs, rl⟩ := Dp.reads I (.list ds) (.ref l) (.ref l) hds rfl
  have key : ∃ cs, ReadsAll s.heap its ds cs := by
    cases rl with
    | list h1 h2 h3 h4 =>
      rw [e0] at h1
      cases h1
      cases h3
      exact ⟨_, by simpa using h4⟩
  obtain ⟨cs, ra⟩ := key
  have rm := SeqAt.readsAll_map ds its cs sds ra
  have hq : ∀ m, m < its.length → ds[m]? = its[m]?.map (SeqAt.readOf s.heap) := fun m _ => by rw [← rm, List.getElem?_map]
  have hjd : j < ds.length := (List.getElem?_eq_some_iff.mp hj).1
  have hlen : ds.length = its.length := by rw [← rm, List.length_map]
  have hji : j < its.toArray.size := by rw [List.size_toArray]; omega
  refine call_meets PySem.F.slot_list_remove ⟨_, e0, rfl⟩ PySem.F.entry_list_remove (PySem.F.args_list_remove_2 _ _)
    (rm_meets l its.toArray n u (fun y => PyData.eqv (SeqAt.readOf s.heap y) d) j hji ?_ (by rw [List.size_toArray]; omega) ?_) ⟨⟨e0, ?_⟩, ?_⟩
  · have h1 := hq j (by omega)
    rw [hj, List.getElem?_eq_getElem (by omega)] at h1
    have h2 := Option.some.inj h1
    simp only [List.getElem_toArray]
    rw [← h2]
    exact hje
  · intro c hc hcj
    have hc' : c < its.length := by simpa using hc
    have h1 := hq c hc'
    rw [List.getElem?_eq_getElem hc'] at h1
    simp only [List.getElem_toArray]
    exact hno c _ hcj h1
  · exact SeqAt.items_eqAt (vs := its.toArray) (by simpa using ra) rd sds (SeqAt.canLay_of_shaped sd) (room_in_shaped sd hu)
  · refine ⟨.non, _, I.lset (its' := its.eraseIdx j) hH e0 ?_ (r.eraseIdx j) ?_, rfl, q⟩
    · show its.toArray.eraseIdxIfInBounds j = (its.eraseIdx j).toArray
      rw [List.eraseIdxIfInBounds_toArray]
    · have := List.length_eraseIdx_le vs j
      omega

def vRem (o m : EM) : EM := fun e g => (o e g).bind fun d g1 => match lsD g1 d with
  | none => .stuck
  | some _ => (m e g1).bind fun y g2 => match d with
    | .ref l => match g2[l]? with
      | some (.lst ds) => (match pud 7 y && ds.all (pud 7), ds.findIdx? (fun z => deq z y) with
        | true, some j => .ok .non (g2.set l (.lst (ds.eraseIdx j)))
        | _, _ => .stuck)
      | _ => .stuck
    | _ => .stuck
def vPopI (o m : EM) : EM := fun e g => (o e g).bind fun d g1 => match lsD g1 d with
  | none => .stuck
  | some _ => (m e g1).bind fun y g2 => match d, y with
    | .ref l, .int i => match g2[l]? with
      | some (.lst ds) => (match rB i, ixN ds.length i with
        | true, some j => match ds[j]? with
          | some z => .ok z (g2.set l (.lst (ds.eraseIdx j)))
          | none => .stuck
        | _, _ => .stuck)
      | _ => .stuck
    | _, _ => .stuck
section
variable {Kt : Kit} {X : Cx} {W : WX} {k : Nat} {a b c : Expr} {ma mb mc : EM} {pos : Pos} {es : List Expr} {ms : AM}
theorem pys_get {T : List Str} : ∀ {ds : List D} {j : Nat}, (pys T ds)[j]? = ds[j]?.map (py T)
  | [], j => by simp [pys]
  | d :: ds, 0 => by simp [pys]
  | d :: ds, j + 1 => by simp [pys, pys_get (ds := ds) (j := j)]
theorem inTs_get {T : List Str} : ∀ {ds : List D} {j : Nat} {d : D}, inTs T ds → ds[j]? = some d → inT T d
  | [], _, _, _, h => by simp at h
  | d :: ds, 0, e, i, h => by
    unfold inTs at i
    simp at h; subst h; exact i.1
  | d :: ds, j + 1, e, i, h => by
    unfold inTs at i
    exact inTs_get i.2 (by simpa using h)
theorem se_rem {p : Pos} (A : At Kt X W k) (ho : PE X a (te Kt W ma)) (hm : PE X b (te Kt W mb)) (hbase : attributeBase a "remove" X.env (eval a X.env) = eval a X.env := by rfl)
    (hfew : ((backTo pos (starEach [b] X.env)).all (fun x => !x.1) && (backToKw pos (keywordEach [] X.env)).all (fun x => x.1.isSome)
      && decide ([b].length + ([] : List Keyword).length + (if ([] : List Keyword).isEmpty then 0 else 1) < 30)) = true := by rfl)
    (hline : (p.endLine == pos.line) = true := by rfl) (hs : starEach [b] X.env = (false, eval b X.env) :: starEach [] X.env := by rfl) (hplain : (backTo pos (starEach [] X.env)).any (·.1) = false := by rfl) :
    PE X (.Call (.Attribute a "remove" p) [b] [] pos) (te Kt W (vRem ma mb)) := by
  have h := pe_bm (cpos := pos) (apos := p) PySem.F.plainAttrs_list PySem.F.slot_list_remove PySem.F.type_list_remove (mt_removeD A.hu) ho (pa_cons hm pa_nil hs) hbase hfew hline hs hplain
  rw [A.eK] at h
  refine L2.PE.imp h fun σ H Q ⟨Φ, ι, F, e, g, S, h⟩ => ⟨Φ, ι, F, e, g, S, (po.bind (Rl := DV Kt) h).imp fun v H1 ⟨ι1, F1, g1, d, x1, R1, r1, h1⟩ => ?_⟩
  split at h1
  · exact h1.elim
  · rename_i ds0 e0
    refine ⟨tyV_l R1 r1 e0, Φ, ι1, F1, e, g1, ⟨S.env.mono x1, R1⟩, (po.bind (Rl := DV Kt) h1).imp fun v2 H2 ⟨ι2, F2, g2, y, x2, R2, r2, h2⟩ => ?_⟩
    split at h2
    · rename_i l
      split at h2
      · rename_i ds e1
        split at h2
        · rename_i j hc hj
          cases r1 with
          | @ref _ ad e2 =>
          obtain ⟨hF, vs, e3, r4⟩ := R2.ob _ _ _ e1 (x2.i _ _ e2)
          rw [Bool.and_eq_true, List.all_eq_true] at hc
          obtain ⟨hc1, hc2⟩ := hc
          obtain ⟨hjl, hj1, hj2⟩ := List.findIdx?_eq_some_iff_getElem.mp hj
          have gj : ds[j]? = some ds[j] := List.getElem?_eq_getElem hjl
          have eqs : ∀ m d', ds[m]? = some d' → PyData.eqv (py Kt.tab d') (py Kt.tab y) = deq d' y := fun m d' hm => deq_py Kt.nd d' y 7 7 (hc2 _ (List.mem_of_getElem? hm)) hc1 (inTs_get r4.inTs hm) r2.inT
          refine ⟨ad, vs, v2, py Kt.tab y, pys Kt.tab ds, j, py Kt.tab ds[j], rfl, rfl, e3, r2.dp R2 7 hc1, .lst (.inl (.inl e3)) (r4.dp R2 7 hc2), py_shaped Kt.sk hc1 (by decide), pys_lay Kt.sk ds, ?_, ?_, ?_, h2 _ _ _ _ Ex.refl (R2.put (x2.i _ _ e2) hF ⟨hF, _, upd_same, r4.eraseIdx j⟩) .non⟩
          · rw [pys_get, gj]; rfl
          · rw [eqs j _ gj]; exact hj1
          · intro m e' hm he
            rw [pys_get] at he
            have hml : m < ds.length := by omega
            rw [List.getElem?_eq_getElem hml] at he
            cases he
            rw [eqs m _ (List.getElem?_eq_getElem hml)]
            simpa using hj2 m hm
        · exact h2.elim
      · exact h2.elim
    · exact h2.elim
theorem se_popI {p : Pos} (A : At Kt X W k) (ho : PE X a (te Kt W ma)) (hm : PE X b (te Kt W mb)) (hbase : attributeBase a "pop" X.env (eval a X.env) = eval a X.env := by rfl)
    (hfew : ((backTo pos (starEach [b] X.env)).all (fun x => !x.1) && (backToKw pos (keywordEach [] X.env)).all (fun x => x.1.isSome)
      && decide ([b].length + ([] : List Keyword).length + (if ([] : List Keyword).isEmpty then 0 else 1) < 30)) = true := by rfl)
    (hline : (p.endLine == pos.line) = true := by rfl) (hs : starEach [b] X.env = (false, eval b X.env) :: starEach [] X.env := by rfl) (hplain : (backTo pos (starEach [] X.env)).any (·.1) = false := by rfl) :
    PE X (.Call (.Attribute a "pop" p) [b] [] pos) (te Kt W (vPopI ma mb)) := by
  have h := pe_bm (cpos := pos) (apos := p) PySem.F.plainAttrs_list PySem.F.slot_list_pop PySem.F.type_list_pop mt_popAt ho (pa_cons hm pa_nil hs) hbase hfew hline hs hplain
  rw [A.eK] at h
  refine L2.PE.imp h fun σ H Q ⟨Φ, ι, F, e, g, S, h⟩ => ⟨Φ, ι, F, e, g, S, (po.bind (Rl := DV Kt) h).imp fun v H1 ⟨ι1, F1, g1, d, x1, R1, r1, h1⟩ => ?_⟩
  split at h1
  · exact h1.elim
  · rename_i ds0 e0
    refine ⟨tyV_l R1 r1 e0, Φ, ι1, F1, e, g1, ⟨S.env.mono x1, R1⟩, (po.bind (Rl := DV Kt) h1).imp fun v2 H2 ⟨ι2, F2, g2, y, x2, R2, r2, h2⟩ => ?_⟩
    split at h2
    · rename_i l i _
      split at h2
      · rename_i ds e1
        split at h2
        · rename_i j hr hj
          have hr := rB_ok hr
          split at h2
          · rename_i z hz
            cases r1 with
            | @ref _ ad e2 =>
            cases r2
            obtain ⟨hF, vs, e3, r4⟩ := R2.ob _ _ _ e1 (x2.i _ _ e2)
            obtain ⟨w, w1, w2⟩ := r4.get hz
            obtain ⟨q1, q2, q3, q4⟩ := ixN_seq hj
            refine ⟨ad, vs, i, j, w, rfl, rfl, e3, ?_, ?_, by rw [r4.length]; exact q1, w1, h2 _ _ _ _ Ex.refl (R2.put (x2.i _ _ e2) hF ⟨hF, _, upd_same, r4.eraseIdx j⟩) w2⟩
            · omega
            · omega
          · exact h2.elim
        · exact h2.elim
      · exact h2.elim
    · exact h2.elim

/-! ### sorted(xs) of ints -/
def insI (x : Int) : List Int → List Int
  | [] => [x]
  | y :: r => if x ≤ y then x :: y :: r else y :: insI x r
def srtI : List Int → List Int
  | [] => []
  | x :: r => insI x (srtI r)
theorem insI_perm (x : Int) : ∀ l : List Int, (insI x l).Perm (x :: l)
  | [] => .refl _
  | y :: r => by
    unfold insI
    split
    · exact .refl _
    · exact ((insI_perm x r).cons y).trans (.swap x y r)
theorem srtI_perm : ∀ l : List Int, (srtI l).Perm l
  | [] => .refl _
  | x :: r => (insI_perm x (srtI r)).trans ((srtI_perm r).cons x)
theorem insI_srt (x : Int) : ∀ l : List Int, l.Pairwise (· ≤ ·) → (insI x l).Pairwise (· ≤ ·)
  | [], _ => by simp [insI]
  | y :: r, h => by
    unfold insI
    rw [List.pairwise_cons] at h
    split
    · rename_i hx
      refine List.pairwise_cons.mpr ⟨fun z hz => ?_, List.pairwise_cons.mpr h⟩
      rcases List.mem_cons.mp hz with rfl | hz
      · exact hx
      · exact Int.le_trans hx (h.1 z hz)
    · rename_i hx
      refine List.pairwise_cons.mpr ⟨fun z hz => ?_, insI_srt x r h.2⟩
      rcases List.mem_cons.mp ((insI_perm x r).mem_iff.mp hz) with rfl | hz
      · omega
      · exact h.1 z hz
theorem srtI_srt : ∀ l : List Int, (srtI l).Pairwise (· ≤ ·)
  | [] => List.Pairwise.nil
  | x :: r => insI_srt x _ (srtI_srt r)
theorem srt_one : ∀ {a b : List Int}, a.Perm b → a.Pairwise (· ≤ ·) → b.Pairwise (· ≤ ·) → a = b
  | [], b, h, _, _ => (List.Perm.nil_eq h)
  | x :: a, [], h, _, _ => absurd h.length_eq (by simp)
  | x :: a, y :: b, h, ha, hb => by
    rw [List.pairwise_cons] at ha hb
    have e : x = y := by
      have h1 : x ∈ y :: b := h.mem_iff.mp List.mem_cons_self
      have h2 : y ∈ x :: a := h.mem_iff.mpr List.mem_cons_self
      rcases List.mem_cons.mp h1 with e | h1
      · exact e
      · rcases List.mem_cons.mp h2 with e | h2
        · exact e.symm
        · have := hb.1 x h1
          have := ha.1 y h2
          omega
    subst e
    rw [srt_one (List.Perm.cons_inv h) ha.2 hb.2]
def intsD : List D → Option (List Int)
  | [] => some []
  | .int i :: r => (intsD r).map (i :: ·)
  | _ => none
theorem intsD_ok {ι : List Addr} {F : Hp} : ∀ {vs : List V} {ds : List D} {bs : List Int}, DVs Kt ι F vs ds → intsD ds = some bs → vs = bs.map V.int
  | _, _, _, .nil, h => by cases h; rfl
  | _, _, bs, .cons (d := d) r1 r2, h => by
    cases r1 with
    | int b =>
      unfold intsD at h
      cases z : intsD _ with
      | none => rw [z] at h; cases h
      | some cs => rw [z] at h; cases h; rw [intsD_ok r2 z]; rfl
    | _ => simp [intsD] at h
def sortedD (g : G) (ds : List D) : Option D := match ds with
  | [d] => match lsD g d with
    | some xs => match intsD xs with
      | some ns => (match Nat.blt ns.length 64 with
        | true => some (.lst ((srtI ns).map D.int))
        | false => none)
      | none => none
    | none => none
  | _ => none
theorem dvs_intsM {ι : List Addr} {F : Hp} : ∀ ns : List Int, DVs Kt ι F (ns.map V.int) (ns.map D.int)
  | [] => .nil
  | n :: ns => .cons (.int n) (dvs_intsM ns)
theorem cd_sorted : CrD Kt (rSorted Kt.K) sortedD := by
  intro Φ ι F g H xs ds z R hv h Q q
  unfold sortedD at h
  split at h
  · cases hv with
    | cons r1 r2 =>
    cases r2
    split at h
    · rename_i ys e
      split at h
      · rename_i ns e2
        split at h
        · rename_i hl
          cases h
          obtain ⟨ad, vs, rfl, e1, r⟩ := lsD_ok R r1 e
          have := intsD_ok r e2
          subst this
          refine ⟨ad, ns, rfl, .inl (.inl e1), by simpa [Nat.blt_eq] using hl, fun ns' p hp hs hn => ?_⟩
          have e3 := srt_one (hp.trans (srtI_perm ns).symm) hs (srtI_srt ns)
          subst e3
          exact newL R (dvs_intsM _) q p hn
        · cases h
      · cases h
    · cases h
  · cases h
theorem bt_sorted : bootBuiltins "sorted" = some (.builtin "sorted") := by decide +kernel
theorem se_sorted {p : Pos} (A : At Kt X W k) (hm : Kt.mg "sorted" = none) (ha : PA X (a :: es) (ta Kt W ms)) (hg : Gl X "sorted" := by rfl) (he : starEach (a :: es) X.env = (false, eval a X.env) :: starEach es X.env := by rfl) (hpl : (backTo pos (starEach es X.env)).any (·.1) = false := by rfl) :
    PE X (.Call (.Name "sorted" p) (a :: es) [] pos) (te Kt W (vCB sortedD ms)) := se_cb A (A.eK ▸ cr_sorted) cd_sorted hm bt_sorted ha hg (by decide) (by decide) he hpl

/-! ### o[i] += e, o a list of its own, an int there -/
def sAugI (o i m : EM) : SM := fun e g => sBind (o e g) e fun d g1 => sBind (i e g1) e fun j g2 => match d, j with
  | .ref l, .int j => match g2[l]? with
    | some (.lst ds) => (match decide (0 ≤ j), rB j, ixN ds.length j with
      | true, true, some n => match ds[n]? with
        | some (.int z) => sBind (m e g2) e fun y g3 => match y with
          | .int w => match g3[l]? with
            | some (.lst ds') => (match ixN ds'.length j with
              | some n' => .nx e (g3.set l (.lst (ds'.set n' (.int (z + w)))))
              | none => .stuck)
            | _ => .stuck
          | _ => .stuck
        | _ => .stuck
      | _, _, _ => .stuck)
    | _ => .stuck
  | _, _ => .stuck
def rGetL (K : PySem.W.Frag) : V → V → Hp → VK → Prop := fun x y H Q => ∃ p xs i j v, x = .ref p ∧ y = .int i ∧ H p = some (.lst xs) ∧ 0 ≤ i ∧ i < 2 ^ 62 ∧ ixN xs.length i = some j ∧ xs[j]? = some v ∧ Q v H
theorem get_list1 : PGet X (rGetL X.K) := by
  intro pins s σ H o i ov iv Q I ro ri h
  obtain ⟨p, xs, k, j, v, rfl, rfl, hp, h0, hb, hj, hv, q⟩ := h
  cases ro
  obtain ⟨t, rfl⟩ := ri
  obtain ⟨its, r, pl, hz⟩ := I.list (.inl (.inl hp))
  obtain ⟨h1, h2, h3, h4⟩ := ixN_seq hj
  obtain ⟨w, ew, rw'⟩ := r.get hv
  have hk : k.toNat = j := by
    rw [seqIndex_of h0 h4] at h1
    exact Option.some.inj h1
  exact wpAny_getItem_list pl.isList h0 (by omega) (by rw [hk]; simpa using ew) ⟨v, H, I, rw', q⟩
theorem ss_augI {tpos : Pos} (A : At Kt X W k) (ho : PE X a (te Kt W ma)) (hi : PE X b (te Kt W mb)) (he : PE X c (te Kt W mc))
    (hx : ∀ ov iv new, augStore b ov iv new = (do holding [new, ov, iv] (setItem ov iv new); release [new, ov, iv] []; pure .next) := by intros; rfl) : PS X (.AugAssign (.Subscript a b tpos) .Add c pos) (ts Kt W (sAugI ma mb mc)) := by
  have h := ps_augS (pos := pos) (tpos := tpos) ho hi get_list1 he ip_add set_list hx
  refine L2.PS.imp h fun D σ H ⟨Φ, ι, F, e, g, S, h⟩ => ⟨Φ, ι, F, e, g, S, (so.bind (Rl := DV Kt) S.env h).imp fun v H1 ⟨ι1, F1, g1, d, x1, R1, r1, h1⟩ =>
    ⟨Φ, ι1, F1, e, g1, ⟨S.env.mono x1, R1⟩, (so.bind (Rl := DV Kt) (S.env.mono x1) h1).imp fun v2 H2 ⟨ι2, F2, g2, d2, x2, R2, r2, h2⟩ => ?_⟩⟩
  split at h2
  · rename_i l j _
    split at h2
    · rename_i ds e1
      split at h2
      · rename_i n h0 hr hn
        split at h2
        · rename_i z hz
          cases r1 with
          | @ref _ ad e2 =>
          cases r2
          have hr := rB_ok hr
          obtain ⟨hF, vs, e3, r4⟩ := R2.ob _ _ _ e1 (x2.i _ _ e2)
          obtain ⟨w, w1, w2⟩ := r4.get hz
          cases w2
          refine ⟨ad, vs, j, n, _, rfl, rfl, e3, of_decide_eq_true h0, by omega, by rw [r4.length]; exact hn, w1, Φ, ι2, F2, e, g2, ⟨S.env.mono (x1.trans x2), R2⟩, (so.bind (Rl := DV Kt) (S.env.mono (x1.trans x2)) h2).imp fun v3 H3 ⟨ι3, F3, g3, d3, x3, R3, r3, h3⟩ => ?_⟩
          split at h3
          · cases r3
            split at h3
            · rename_i ds' e5
              split at h3
              · rename_i n' hn'
                obtain ⟨hF', vs', e6, r6⟩ := R3.ob _ _ _ e5 ((x2.trans x3).i _ _ e2)
                exact ⟨_, _, rfl, rfl, ad, vs', j, n', rfl, rfl, e6, by rw [r6.length]; exact hn', h3 _ _ _ _ Ex.refl ⟨S.env.mono ((x1.trans x2).trans x3), R3.put ((x2.trans x3).i _ _ e2) hF' ⟨hF', _, upd_same, DVs.set (.int _) n' r6⟩⟩⟩
              · exact h3.elim
            · exact h3.elim
          · exact h3.elim
        · exact h2.elim
      · exact h2.elim
    · exact h2.elim
  · exact h2.elim
end
end Y

set_option Elab.async false
set_option linter.all false
set_option maxRecDepth 100000
/-! Y: dicts: of the top (texts to ints), and dicts that change (keys ints and texts, or tuples of these). -/
namespace Y
open PySem PySem.Spec PyProof.Rows L2
/-! ### pairs -/
def lkp : List (D × D) → D → Option D
  | [], _ => none
  | p :: r, d => bif deq p.1 d then some p.2 else lkp r d
def putp (kvs : List (D × D)) (d e : D) : List (D × D) := bif kvs.any fun p => deq p.1 d then kvs.map fun p => bif deq p.1 d then (p.1, e) else p else kvs ++ [(d, e)]
def dropp (kvs : List (D × D)) (d : D) : List (D × D) := kvs.filter fun p => !deq p.1 d
def kyD : D → Bool
  | .int _ => true
  | .str _ => true
  | _ => false
def isKey : Bool → D → Bool
  | false, d => kyD d
  | true, .tup ds => ds.all kyD
  | _, _ => false
/-- what a dict holds: none: not known; some none: no such key -/
def dcG (g : G) (x k : D) : Option (Option D) := match x with
  | .dic (q :: ks) vs => (match k with
    | .str m => some ((dicG (q :: ks) vs m).map .int)
    | _ => none)
  | .ref l => (match g[l]? with
    | some (.dct t kvs) => (match isKey t k with
      | true => some (lkp kvs k)
      | false => none)
    | _ => none)
  | _ => none
def isDc (g : G) (x : D) : Bool := match x with
  | .dic (_ :: _) _ => true
  | .ref l => (match g[l]? with
    | some (.dct _ _) => true
    | _ => false)
  | _ => false
def inC (neg : Bool) : OpT := fun g x y => (dcG g y x).map fun o => .bl (o.isSome != neg)
def ixC : OpT := fun g x y => (dcG g x y).bind fun o => o
def vDGet (o : EM) (ms : AM) : EM := fun e g => (o e g).bind fun x g1 => match isDc g1 x with
  | false => .stuck
  | true => (ms e g1).bind fun ys g2 => match ys with
    | [y] => (match dcG g2 x y with
      | some q => .ok (q.getD .non) g2
      | none => .stuck)
    | [y, z] => (match x with
      | .ref l => (match dcG g2 (.ref l) y with
        | some q => .ok (q.getD z) g2
        | none => .stuck)
      | _ => .stuck)
    | _ => .stuck
def vDPop (o : EM) (ms : AM) : EM := fun e g => (o e g).bind fun x g1 => match isDc g1 x with
  | false => .stuck
  | true => (ms e g1).bind fun ys g2 => match x with
    | .ref l => (match g2[l]? with
      | some (.dct false kvs) => (match ys with
        | [y] => (match kyD y, lkp kvs y with
          | true, some v => .ok v (g2.set l (.dct false (dropp kvs y)))
          | _, _ => .stuck)
        | [y, z] => (match kyD y, lkp kvs y with
          | true, some v => .ok v (g2.set l (.dct false (dropp kvs y)))
          | true, none => .ok z g2
          | _, _ => .stuck)
        | _ => .stuck)
      | _ => .stuck)
    | _ => .stuck
def sSubC (o i m : EM) : SM := fun e g => sBind (m e g) e fun z g1 => sBind (o e g1) e fun x g2 => sBind (i e g2) e fun y g3 => match x with
  | .ref l => (match g3[l]? with
    | some (.dct t kvs) => (match isKey t y && ltL kvs.length with
      | true => .nx e (g3.set l (.dct t (putp kvs y z)))
      | false => .stuck)
    | _ => .stuck)
  | _ => .stuck
def vDct0 (t : Bool) : EM := fun _ g => .ok (.ref g.length) (g ++ [.dct t []])

section
variable {Kt : Kit} {Φ : Hp} {ι : List Addr} {F H : Hp} {g : G}
theorem ky_ex {v : V} {d : D} (r : DV Kt ι F v d) (h : kyD d = true) : ∃ k : Key, v = kV k := by
  cases r with
  | int i => exact ⟨.inl i, rfl⟩
  | str e => exact ⟨.inr _, rfl⟩
  | _ => cases h
theorem kys_ex : ∀ {vs : List V} {ds : List D}, DVs Kt ι F vs ds → ds.all kyD = true → ∃ k : List Key, vs = k.map kV
  | _, _, .nil, _ => ⟨[], rfl⟩
  | _, _, .cons r t, h => by
    rw [List.all_cons, Bool.and_eq_true] at h
    obtain ⟨k, e⟩ := ky_ex r h.1
    obtain ⟨ks, es⟩ := kys_ex t h.2
    exact ⟨k :: ks, by rw [e, es, List.map_cons]⟩
theorem key_deq {k j : Key} {d e : D} (h : DV Kt ι F (kV k) d) (q : DV Kt ι F (kV j) e) : deq d e = decide (k = j) := by
  cases k with
  | inl a =>
    have h : DV Kt ι F (V.int a) d := h
    cases h
    cases j with
    | inl b =>
      have q : DV Kt ι F (V.int b) e := q
      cases q
      simp only [deq]
      rw [Bool.eq_iff_iff]
      simp
    | inr y =>
      have q : DV Kt ι F (V.str y) e := q
      cases q
      simp [deq]
  | inr x =>
    have h : DV Kt ι F (V.str x) d := h
    cases h with
    | str h1 =>
    cases j with
    | inl b =>
      have q : DV Kt ι F (V.int b) e := q
      cases q
      simp [deq]
    | inr y =>
      have q : DV Kt ι F (V.str y) e := q
      cases q with
      | str h2 =>
      simp only [deq]
      rw [Bool.eq_iff_iff]
      simp only [beq_iff_eq, decide_eq_true_eq]
      constructor
      · intro e
        subst e
        rw [h1] at h2
        cases h2
        rfl
      · intro e
        cases e
        exact tab_inj h1 h2
theorem keys_deq : ∀ {k j : List Key} {d e : List D}, DVs Kt ι F (k.map kV) d → DVs Kt ι F (j.map kV) e → deqs d e = decide (k = j)
  | [], [], _, _, .nil, .nil => by simp [deqs]
  | [], b :: j, _, _, .nil, .cons _ _ => by simp [deqs]
  | a :: k, [], _, _, .cons _ _, .nil => by simp [deqs]
  | a :: k, b :: j, _, _, .cons h r, .cons q s => by
    simp only [deqs]
    rw [key_deq h q, keys_deq r s, Bool.eq_iff_iff]
    simp
def oRel (Kt : Kit) (ι : List Addr) (F : Hp) (o : Option D) (q : Option V) : Prop := match o with
  | some e => ∃ v, q = some v ∧ DV Kt ι F v e
  | none => q = none
theorem KR.find {us : List (Key × V)} {kvs : List (D × D)} (r : KR Kt ι F us kvs) {k : Key} {d : D} (hd : DV Kt ι F (kV k) d) : oRel Kt ι F (lkp kvs d) (valV us k) := by
  induction r with
  | nil => rfl
  | @cons j v d' e r s hk hv t ih =>
    unfold lkp
    rw [key_deq hk hd]
    by_cases z : j = k
    · rw [decide_eq_true z]
      exact ⟨v, valV_pos z, hv⟩
    · rw [decide_eq_false z, valV_neg z]
      exact ih
theorem KRT.find {us : List (List Key × V)} {kvs : List (D × D)} (r : KRT Kt ι F us kvs) {k : List Key} {ds : List D} (hd : DVs Kt ι F (k.map kV) ds) : oRel Kt ι F (lkp kvs (.tup ds)) (valV us k) := by
  induction r with
  | nil => rfl
  | @cons j v d' e r s hk hv t ih =>
    unfold lkp
    rw [show deq (.tup d') (.tup ds) = decide (j = k) by simp only [deq]; exact keys_deq hk hd]
    by_cases z : j = k
    · rw [decide_eq_true z]
      exact ⟨v, valV_pos z, hv⟩
    · rw [decide_eq_false z, valV_neg z]
      exact ih
theorem KR.any {us : List (Key × V)} {kvs : List (D × D)} (r : KR Kt ι F us kvs) {k : Key} {d : D} (hd : DV Kt ι F (kV k) d) : (us.any fun p => decide (p.1 = k)) = kvs.any fun p => deq p.1 d := by
  induction r with
  | nil => rfl
  | cons hk hv t ih => rw [List.any_cons, List.any_cons, ih, key_deq hk hd]
theorem KRT.any {us : List (List Key × V)} {kvs : List (D × D)} (r : KRT Kt ι F us kvs) {k : List Key} {ds : List D} (hd : DVs Kt ι F (k.map kV) ds) : (us.any fun p => decide (p.1 = k)) = kvs.any fun p => deq p.1 (.tup ds) := by
  induction r with
  | nil => rfl
  | cons hk hv t ih => rw [List.any_cons, List.any_cons, ih, show deq (.tup _) (.tup ds) = _ by simp only [deq]; exact keys_deq hk hd]
theorem KR.map {us : List (Key × V)} {kvs : List (D × D)} (r : KR Kt ι F us kvs) {k : Key} {d e : D} {v : V} (hd : DV Kt ι F (kV k) d) (he : DV Kt ι F v e) :
    KR Kt ι F (us.map fun p => if p.1 = k then (p.1, v) else p) (kvs.map fun p => bif deq p.1 d then (p.1, e) else p) := by
  induction r with
  | nil => exact .nil
  | @cons j x d' e' r s hk hv t ih =>
    rw [List.map_cons, List.map_cons, key_deq hk hd]
    by_cases z : j = k
    · rw [if_pos z, decide_eq_true z]
      exact .cons hk he ih
    · rw [if_neg z, decide_eq_false z]
      exact .cons hk hv ih
theorem KRT.map {us : List (List Key × V)} {kvs : List (D × D)} (r : KRT Kt ι F us kvs) {k : List Key} {ds : List D} {e : D} {v : V} (hd : DVs Kt ι F (k.map kV) ds) (he : DV Kt ι F v e) :
    KRT Kt ι F (us.map fun p => if p.1 = k then (p.1, v) else p) (kvs.map fun p => bif deq p.1 (.tup ds) then (p.1, e) else p) := by
  induction r with
  | nil => exact .nil
  | @cons j x d' e' r s hk hv t ih =>
    rw [List.map_cons, List.map_cons, show deq (.tup d') (.tup ds) = decide (j = k) by simp only [deq]; exact keys_deq hk hd]
    by_cases z : j = k
    · rw [if_pos z, decide_eq_true z]
      exact .cons hk he ih
    · rw [if_neg z, decide_eq_false z]
      exact .cons hk hv ih
theorem KR.append {us ws : List (Key × V)} {kvs lvs : List (D × D)} (r : KR Kt ι F us kvs) (s : KR Kt ι F ws lvs) : KR Kt ι F (us ++ ws) (kvs ++ lvs) := by
  induction r with
  | nil => exact s
  | cons hk hv t ih => exact .cons hk hv ih
theorem KRT.append {us ws : List (List Key × V)} {kvs lvs : List (D × D)} (r : KRT Kt ι F us kvs) (s : KRT Kt ι F ws lvs) : KRT Kt ι F (us ++ ws) (kvs ++ lvs) := by
  induction r with
  | nil => exact s
  | cons hk hv t ih => exact .cons hk hv ih
theorem KR.put {us : List (Key × V)} {kvs : List (D × D)} (r : KR Kt ι F us kvs) {k : Key} {d e : D} {v : V} (hd : DV Kt ι F (kV k) d) (he : DV Kt ι F v e) : KR Kt ι F (putK us k v) (putp kvs d e) := by
  unfold putK putp
  rw [r.any hd]
  cases kvs.any fun p => deq p.1 d with
  | true => exact r.map hd he
  | false => exact r.append (.cons hd he .nil)
theorem KRT.put {us : List (List Key × V)} {kvs : List (D × D)} (r : KRT Kt ι F us kvs) {k : List Key} {ds : List D} {e : D} {v : V} (hd : DVs Kt ι F (k.map kV) ds) (he : DV Kt ι F v e) : KRT Kt ι F (putK us k v) (putp kvs (.tup ds) e) := by
  unfold putK putp
  rw [r.any hd]
  cases kvs.any fun p => deq p.1 (.tup ds) with
  | true => exact r.map hd he
  | false => exact r.append (.cons hd he .nil)
theorem KR.drop {us : List (Key × V)} {kvs : List (D × D)} (r : KR Kt ι F us kvs) {k : Key} {d : D} (hd : DV Kt ι F (kV k) d) : KR Kt ι F (dropK us k) (dropp kvs d) := by
  unfold dropK dropp
  induction r with
  | nil => exact .nil
  | @cons j v d' e r s hk hv t ih =>
    rw [List.filter_cons, List.filter_cons]
    simp only [key_deq hk hd]
    by_cases z : j = k
    · simp only [z, ne_eq, not_true_eq_false, decide_false, decide_true, Bool.not_true, Bool.false_eq_true, if_false]
      exact ih
    · simp only [z, ne_eq, not_false_eq_true, decide_false, decide_true, Bool.not_false, if_true]
      exact .cons hk hv ih
theorem KR.length {us : List (Key × V)} {kvs : List (D × D)} (r : KR Kt ι F us kvs) : us.length = kvs.length := by
  induction r with
  | nil => rfl
  | cons hk hv t ih => rw [List.length_cons, List.length_cons, ih]
theorem KRT.length {us : List (List Key × V)} {kvs : List (D × D)} (r : KRT Kt ι F us kvs) : us.length = kvs.length := by
  induction r with
  | nil => rfl
  | cons hk hv t ih => rw [List.length_cons, List.length_cons, ih]
/-- what a dict holds, seen in the heap -/
theorem dcG_obj (R : RelG Kt Φ ι F g H) {l : Nat} {x y : V} {k : D} {o : Option D} (hx : DV Kt ι F x (.ref l)) (hy : DV Kt ι F y k) (h : dcG g (.ref l) k = some o) :
    ∃ a q, x = .ref a ∧ DGet H a y q ∧ oRel Kt ι F o q := by
  cases hx with
  | @ref _ a e1 =>
  unfold dcG at h
  simp only at h
  cases z : g[l]? with
  | none => rw [z] at h; cases h
  | some ob =>
    rw [z] at h
    cases ob with
    | dct t kvs =>
      simp only at h
      cases hk : isKey t k with
      | false => rw [hk] at h; cases h
      | true =>
        rw [hk] at h
        cases h
        have ob := R.ob _ _ _ z e1
        cases t with
        | false =>
          obtain ⟨hF, us, e2, r⟩ := ob
          obtain ⟨j, rfl⟩ := ky_ex hy hk
          exact ⟨a, valV us j, rfl, .inl ⟨us, j, .inl e2, rfl, rfl⟩, r.find hy⟩
        | true =>
          obtain ⟨hF, us, e2, r⟩ := ob
          cases hy with
          | @tup b vs ds f1 r1 =>
            obtain ⟨j, rfl⟩ := kys_ex r1 hk
            exact ⟨a, valV us j, rfl, .inr ⟨us, j, b, .inl e2, rfl, R.sub _ _ f1, rfl⟩, r.find r1⟩
          | _ => cases hk
    | _ => cases h
def kRel (o : Option D) (r : Option Value) : Prop := match o with
  | some e => ∃ i t, e = .int i ∧ r = some (.int i t)
  | none => r = none
theorem dcG_kd {ks vs : List D} {q : D} {x y : V} {k : D} {o : Option D} (hx : DV Kt ι F x (.dic (q :: ks) vs)) (hy : DV Kt ι F y k) (h : dcG g (.dic (q :: ks) vs) k = some o) :
    ∃ a es n z r, x = .ref a ∧ y = .str z ∧ KDict Kt.K Kt.w a es n ∧ PySem.W.nsIn Kt.K a z = some r ∧ kRel o r := by
  cases hx with
  | dic hd =>
  obtain ⟨⟨es, n, hd⟩, hv⟩ := hd
  unfold dcG at h
  simp only at h
  cases hy with
  | @str m z e =>
    cases h
    obtain ⟨r, h1, h2⟩ := hv m z e
    refine ⟨_, es, n, z, r, rfl, rfl, hd, h1, ?_⟩
    cases w : dicG (q :: ks) vs m with
    | none => rw [w] at h2; exact h2
    | some i =>
      rw [w] at h2
      obtain ⟨t, h2⟩ := h2
      exact ⟨i, t, rfl, h2⟩
  | _ => cases h
end
/-! ### in, not in, [ ] -/
def rInC (K : PySem.W.Frag) (w : World) (neg : Bool) : R2 := fun x y H Q => (∃ a o, y = .ref a ∧ DGet H a x o ∧ Q (.bl (o.isSome != neg)) H) ∨
  ∃ a es n z r, x = .str z ∧ y = .ref a ∧ KDict K w a es n ∧ PySem.W.nsIn K a z = some r ∧ Q (.bl (r.isSome != neg)) H
theorem op_inC {X : Cx} (hu : X.A.units + 65 < cLine) : OpR X (compareOp .In) (rInC X.K X.w false) := by
  intro pins s σ H x y v u Q I rx ry h
  rcases h with ⟨a, o, rfl, dg, q⟩ | ⟨a, es, n, z, r, rfl, rfl, kd, hn, q⟩
  · cases ry
    exact d_in (by omega) I dg rx fun s' I' => ⟨.bl o.isSome, H, I', rfl, by simpa using q⟩
  · exact op_in_kd kd pins s σ H _ _ v u Q I rx ry ⟨z, r, rfl, rfl, hn, by simpa using q⟩
theorem op_notInC {X : Cx} (hu : X.A.units + 65 < cLine) : OpR X (compareOp .NotIn) (rInC X.K X.w true) := by
  intro pins s σ H x y v u Q I rx ry h
  rcases h with ⟨a, o, rfl, dg, q⟩ | ⟨a, es, n, z, r, rfl, rfl, kd, hn, q⟩
  · cases ry
    exact d_notIn (by omega) I dg rx fun s' I' => ⟨.bl (!o.isSome), H, I', rfl, by simpa using q⟩
  · exact op_notIn_kd kd pins s σ H _ _ v u Q I rx ry ⟨z, r, rfl, rfl, hn, by simpa using q⟩
theorem od_inC {Kt : Kit} {neg : Bool} : OpD Kt (rInC Kt.K Kt.w neg) (inC neg) := by
  intro Φ ι F g H x y d e z R hx hy h Q q
  unfold inC at h
  cases w : dcG g e d with
  | none => rw [w] at h; cases h
  | some o =>
    rw [w] at h
    cases h
    cases e with
    | dic ks vs =>
      cases ks with
      | nil => cases w
      | cons k ks =>
        obtain ⟨a, es, n, z, r, rfl, rfl, kd, hn, hr⟩ := dcG_kd hy hx w
        have e : r.isSome = o.isSome := by
          cases o with
          | none => rw [show r = none from hr]; rfl
          | some e => obtain ⟨i, t, _, rfl⟩ := hr; rfl
        exact .inr ⟨a, es, n, z, r, rfl, rfl, kd, hn, by rw [e]; exact q _ _ _ _ Ex.refl R (.bl _)⟩
    | ref l =>
      obtain ⟨a, p, rfl, dg, hp⟩ := dcG_obj R hy hx w
      have e : p.isSome = o.isSome := by
        cases o with
        | none => rw [show p = none from hp]; rfl
        | some e => obtain ⟨v, rfl, _⟩ := hp; rfl
      exact .inl ⟨a, p, rfl, dg, by rw [e]; exact q _ _ _ _ Ex.refl R (.bl _)⟩
    | _ => cases w
def rIxC (K : PySem.W.Frag) (w : World) : R2 := fun x y H Q => (∃ a v, x = .ref a ∧ DGet H a y (some v) ∧ Q v H) ∨ rIxD K w x y H Q
theorem ix_dct {X : Cx} (hu : X.A.units + 65 < cLine) : IxR X (rIxC X.K X.w) := by
  intro value slice pins s σ H x y v u Q I rx ry h hs
  rcases h with ⟨a, r, rfl, dg, q⟩ | h
  · cases rx
    exact tail_any (dict_typeIs I dg) PySem.F.slot_dict_getitem.lookup (d_getItem (by omega) I dg ry fun w' s' I' rw' => ⟨r, H, I', rw', q⟩) hs
  · exact ix_kdict value slice pins s σ H x y v u Q I rx ry h hs
theorem od_ixC {Kt : Kit} : OpD Kt (rIxC Kt.K Kt.w) ixC := by
  intro Φ ι F g H x y d e z R hx hy h Q q
  unfold ixC at h
  cases w : dcG g d e with
  | none => rw [w] at h; cases h
  | some o =>
    rw [w] at h
    have h : o = some z := h
    subst h
    cases d with
    | dic ks vs =>
      cases ks with
      | nil => cases w
      | cons k ks =>
        obtain ⟨a, es, n, y', r, rfl, rfl, kd, hn, i, t, rfl, rfl⟩ := dcG_kd hx hy w
        exact .inr ⟨a, y', .int i, rfl, rfl, ⟨es, n, _, kd.at_, kd.lit, hn, t, rfl⟩, q _ _ _ _ Ex.refl R (.int _)⟩
    | ref l =>
      obtain ⟨a, p, rfl, dg, v, rfl, r1⟩ := dcG_obj R hx hy w
      exact .inl ⟨a, v, rfl, dg, q _ _ _ _ Ex.refl R r1⟩
    | _ => cases w
section
variable {Kt : Kit} {X : Cx} {W : WX} {k : Nat} {a b c : Expr} {ma mb mc : EM} {pos : Pos} {es : List Expr} {ms : AM}
theorem cm_inC (A : At Kt X W k) : Cmp Kt X .In (inC false) := ⟨_, (A.eK ▸ A.ew ▸ op_inC A.hu : OpR X _ (rInC Kt.K Kt.w false)), od_inC⟩
theorem cm_notinC (A : At Kt X W k) : Cmp Kt X .NotIn (inC true) := ⟨_, (A.eK ▸ A.ew ▸ op_notInC A.hu : OpR X _ (rInC Kt.K Kt.w true)), od_inC⟩
theorem se_ixC (A : At Kt X W k) (ha : PE X a (te Kt W ma)) (hb : PE X b (te Kt W mb)) (hs : PlainIx b := by intro _ _; rfl) : PE X (.Subscript a b pos) (te Kt W (vOp ixC ma mb)) :=
  (pe_ix (A.eK ▸ A.ew ▸ ix_dct A.hu : IxR X (rIxC Kt.K Kt.w)) ha hb hs).imp fun _ _ _ => te_op od_ixC
/-! ### d[k] = v -/
def rSetC : V → V → V → Hp → (Hp → Prop) → Prop := fun o i v H Q => ∃ a H', o = .ref a ∧ DPut H a i v H' ∧ Q H'
theorem set_dct {X : Cx} (hu : X.A.units + 65 < cLine) : PSet X rSetC := by
  intro pins s σ H o i v ov iv u Q I ro ri rv h
  obtain ⟨a, H', rfl, dp, q⟩ := h
  cases ro
  exact d_setItem (by omega) I dp ri rv fun s' I' => ⟨H', I', q⟩
theorem dct_put {Φ : Hp} {ι : List Addr} {F H : Hp} {g : G} (R : RelG Kt Φ ι F g H) {l : Nat} {ad : Addr} {t : Bool} {kvs : List (D × D)} {i v : V} {d z : D} (e1 : g[l]? = some (.dct t kvs)) (e2 : ι[l]? = some ad) (hi : DV Kt ι F i d) (hv : DV Kt ι F v z) (hk : isKey t d = true) (hl : ltL kvs.length = true) :
    ∃ H', DPut H ad i v H' ∧ RelG Kt Φ ι F (g.set l (.dct t (putp kvs d z))) H' := by
  have ob := R.ob _ _ _ e1 e2
  have hl := ltL_iff.mp hl
  cases t with
  | false =>
    obtain ⟨hF, us, e3, r⟩ := ob
    obtain ⟨j, rfl⟩ := ky_ex hi hk
    exact ⟨_, .k e3 (by rw [r.length]; exact hl), R.put e2 hF ⟨hF, _, upd_same, r.put hi hv⟩⟩
  | true =>
    obtain ⟨hF, us, e3, r⟩ := ob
    cases hi with
    | @tup b vs ds f1 r1 =>
      obtain ⟨j, rfl⟩ := kys_ex r1 hk
      exact ⟨_, .t e3 (R.sub _ _ f1) (by rw [r.length]; exact hl), R.put e2 hF ⟨hF, _, upd_same, r.put r1 hv⟩⟩
    | _ => cases hk
theorem ss_subC (A : At Kt X W k) (ha : PE X a (te Kt W ma)) (hb : PE X b (te Kt W mb)) (hc : PE X c (te Kt W mc)) {p : Pos}
    (h0 : ∀ v, assign (.Subscript a b p) X.env v = (do
      let ov ← holding [v] (eval a X.env)
      let iv ← holding [v, ov] (eval b X.env)
      standAt p
      holding [v, ov, iv] (setItem ov iv v)
      release [v, ov, iv] []) := by intro _; rfl)
    (hs : swapsWithSole [.Subscript a b p] c pos.line X.env = pure false := by rfl) (hw : swappedStores [.Subscript a b p] c X.env = pure none := by rfl) (h1 : (assignEach [.Subscript a b p] X.env).map (·.2) = [assign (.Subscript a b p) X.env] := by rfl) :
    PS X (.Assign [.Subscript a b p] c pos) (ts Kt W (sSubC ma mb mc)) :=
  L2.PS.imp (ps_asg hc (pg_sub ha hb (set_dct A.hu) h0) hs hw h1) fun D σ H ⟨Φ, ι, F, e, g, S, h⟩ => ⟨Φ, ι, F, e, g, S, (so.bind (Rl := DV Kt) S.env h).imp fun v H1 ⟨ι1, F1, g1, d, x1, R1, r1, h1⟩ =>
    ⟨Φ, ι1, F1, e, g1, ⟨S.env.mono x1, R1⟩, (so.bind (Rl := DV Kt) (S.env.mono x1) h1).imp fun v2 H2 ⟨ι2, F2, g2, d2, x2, R2, r2, h2⟩ =>
      ⟨Φ, ι2, F2, e, g2, ⟨S.env.mono (x1.trans x2), R2⟩, (so.bind (Rl := DV Kt) (S.env.mono (x1.trans x2)) h2).imp fun v3 H3 ⟨ι3, F3, g3, d3, x3, R3, r3, h3⟩ => by
        split at h3
        · rename_i l
          split at h3
          · rename_i t kvs e1
            split at h3
            · rename_i hh
              rw [Bool.and_eq_true] at hh
              cases r2 with
              | @ref _ ad e2 =>
              obtain ⟨H', dp, R'⟩ := dct_put R3 e1 (x3.i _ _ e2) r3 (r1.mono (x2.trans x3)) hh.1 hh.2
              exact ⟨ad, H', rfl, dp, h3 _ _ _ _ Ex.refl ⟨S.env.mono ((x1.trans x2).trans x3), R'⟩⟩
            · exact h3.elim
          · exact h3.elim
        · exact h3.elim⟩⟩⟩
/-! ### {} -/
theorem newD {Φ : Hp} {ι : List Addr} {F H : Hp} {g : G} (R : RelG Kt Φ ι F g H) {p : Addr} (hp : H p = none) (t : Bool) : ∃ u, (u = match t with
    | false => HO.dK []
    | true => HO.dT []) ∧ RelG Kt Φ (ι ++ [p]) F (g ++ [.dct t []]) (upd H p u) ∧ Ex ι F (ι ++ [p]) F := by
  have fp : F p = none := by
    cases e : F p with
    | none => rfl
    | some u => rw [R.sub p u e] at hp; cases hp
  refine ⟨_, rfl, R.new hp (fun a o h => by rw [upd_ne (ne_of_none h hp)]; exact h) (by rw [upd_same]; simp) ?_⟩
  cases t with
  | false => exact ⟨fp, [], upd_same, .nil⟩
  | true => exact ⟨fp, [], upd_same, .nil⟩
theorem se_dct0 (t : Bool) : PE X (.Dict [] [] pos) (te Kt W (vDct0 t)) := by
  cases t with
  | false =>
    refine L2.PE.imp pe_dnewK fun σ H Q ⟨Φ, ι, F, e, g, S, h⟩ p hp => ?_
    obtain ⟨u, rfl, R, x⟩ := newD S.rel hp false
    exact h _ _ _ _ x R (.ref (get_snoc S.rel.len))
  | true =>
    refine L2.PE.imp pe_dnewT fun σ H Q ⟨Φ, ι, F, e, g, S, h⟩ p hp => ?_
    obtain ⟨u, rfl, R, x⟩ := newD S.rel hp true
    exact h _ _ _ _ x R (.ref (get_snoc S.rel.len))
/-! ### d.get, d.pop -/
def isDK (K : PySem.W.Frag) (w : World) (x : V) (H : Hp) : Prop := ∃ a, x = .ref a ∧ (IsD H a ∨ ∃ es n, KDict K w a es n)
def tDM (K : PySem.W.Frag) (w : World) (r : V → List V → Hp → VK → Prop) (to : TE) (t : TA) : TE := fun σ H Q => to σ H fun x H1 => isDK K w x H1 ∧ t σ H1 fun xs H2 => r x xs H2 Q
theorem isDK_at {X : Cx} {pins : List (Addr × Obj)} {σ : L2.St} {H : Hp} {s : Shared} {x : V} {u : Value} (I : Inv X pins σ H s) (r : RelV x u) (d : isDK X.K X.w x H) :
    s.TypeIs u "dict" ∧ ∀ b, u = .ref b → ∃ ob, s.heap.get? b = some ob ∧ ob.dict = none := by
  obtain ⟨a, rfl, d | ⟨es, n, d⟩⟩ := d
  · cases r
    obtain ⟨h1, h2, _⟩ := isD_at I d
    exact ⟨h1, h2⟩
  · cases r
    refine ⟨kd_type d I, fun b q => ?_⟩
    cases q
    exact ⟨_, I.kIn _ _ d.at_, rfl⟩
theorem pe_dm {o e : Expr} {es : List Expr} {to : TE} {t : TA} {name : Str} {apos cpos : Pos} {id : String} {r : V → List V → Hp → VK → Prop} (slot : Slot "dict" name id) (hty : typeOf (.builtin id) = pure (.type "method_descriptor")) (hm : MtR X id r) (ho : PE X o to) (ha : PA X (e :: es) t)
    (hbase : attributeBase o name X.env (eval o X.env) = eval o X.env)
    (hfew : ((backTo cpos (starEach (e :: es) X.env)).all (fun x => !x.1) && (backToKw cpos (keywordEach [] X.env)).all (fun x => x.1.isSome)
      && decide ((e :: es).length + ([] : List Keyword).length + (if ([] : List Keyword).isEmpty then 0 else 1) < 30)) = true)
    (hline : (apos.endLine == cpos.line) = true) (hs : starEach (e :: es) X.env = (false, eval e X.env) :: starEach es X.env) (hplain : (backTo cpos (starEach es X.env)).any (·.1) = false) :
    PE X (.Call (.Attribute o name apos) (e :: es) [] cpos) (tDM X.K X.w r to t) := by
  refine ⟨fun pins s σ H Q I h => ?_⟩
  refine wpAny_Call_method_late hbase hfew hline rfl (thn (ho.run pins s σ H _ I h) fun v s1 ⟨x, H1, I1, r1, ty, q1⟩ => ?_)
  obtain ⟨h1, h2⟩ := isDK_at I1 r1 ty
  refine ⟨"dict", id, PySem.F.plainAttrs_dict, slot, hty, h1, h2, ?_⟩
  have hA := ha.run cpos pins s1 σ H1 _ I1 q1
  rw [hs] at hA ⊢
  refine Calls.callWith_builtin (by show (false || (backTo cpos (starEach es X.env)).any (·.1)) = false; rw [hplain] <;> rfl) (Calls.evalArgs_plain ?_)
  exact thn hA fun us s2 ⟨vs, H2, I2, r2, q2⟩ => hm pins s2 σ H2 x vs v us Q I2 r1 r2 q2
def rDGet (K : PySem.W.Frag) (w : World) : V → List V → Hp → VK → Prop := fun x xs H Q => ∃ a, x = .ref a ∧ ((∃ y o, xs = [y] ∧ DGet H a y o ∧ Q (o.getD .non) H) ∨ (∃ y z o, xs = [y, z] ∧ DGet H a y o ∧ Q (o.getD z) H) ∨
  ∃ es n t r v, xs = [.str t] ∧ KDict K w a es n ∧ PySem.W.nsIn K a t = some r ∧ RelV v (r.getD .none) ∧ Q v H)
theorem mt_dget {X : Cx} (hu : X.A.units + 65 < cLine) : MtR X "dict.get" (rDGet X.K X.w) := by
  intro pins s σ H x xs v us Q I rx rxs h
  obtain ⟨a, rfl, ⟨y, o, rfl, dg, q⟩ | ⟨y, z, o, rfl, dg, q⟩ | ⟨es, n, t, r, y, rfl, kd, hn, rv, q⟩⟩ := h
  · cases rx
    obtain ⟨u, rfl, ru⟩ := vals1 rxs
    exact d_get1 (by omega) I dg ru fun w' s' I' rw' => ⟨_, H, I', rw', q⟩
  · cases rx
    obtain ⟨u, w, rfl, ru, rw⟩ := vals2 rxs
    exact d_get2 (by omega) I dg ru rw fun w' s' I' rw' => ⟨_, H, I', rw', q⟩
  · cases rx
    obtain ⟨u, rfl, ru⟩ := vals1 rxs
    obtain ⟨tk, rfl⟩ := ru
    refine call_meetsIn PySem.F.slot_dict_get (kd_type kd I) PySem.F.entry_dict_get (PySem.F.args_dict_get_2 _ _) (meets_dict_get (PySem.strKind X.prog X.w) a (PySem.strKind_is X.prog X.w t tk) kd.low) ⟨_, PySem.W.mapOf_K (prog := X.prog) I.kIn kd.at_ kd.lit, ?_⟩
    rw [PySem.W.find_K kd.at_ hn]
    exact ⟨y, H, I.tok _, rv, q⟩
def rDPop : V → List V → Hp → VK → Prop := fun x xs H Q => ∃ a kvs k, x = .ref a ∧ H a = some (.dK kvs) ∧ ((∃ v, xs = [kV k] ∧ valV kvs k = some v ∧ Q v (upd H a (.dK (dropK kvs k)))) ∨
  ∃ z, xs = [kV k, z] ∧ (∀ v, valV kvs k = some v → Q v (upd H a (.dK (dropK kvs k)))) ∧ (valV kvs k = none → Q z H))
theorem isDc_ok {Φ : Hp} {ι : List Addr} {F H : Hp} {g : G} (R : RelG Kt Φ ι F g H) {x : V} {d : D} (r : DV Kt ι F x d) (h : isDc g d = true) : isDK Kt.K Kt.w x H := by
  unfold isDc at h
  cases r with
  | dic hd =>
    obtain ⟨⟨es, n, hd⟩, _⟩ := hd
    exact ⟨_, rfl, .inr ⟨es, n, hd⟩⟩
  | @ref l a e =>
    cases z : g[l]? with
    | none => simp only [z] at h; cases h
    | some o =>
      simp only [z] at h
      cases o with
      | dct t kvs =>
        have ob := R.ob _ _ _ z e
        cases t with
        | false =>
          obtain ⟨_, us, e3, _⟩ := ob
          exact ⟨_, rfl, .inl (.inl ⟨us, .inl e3⟩)⟩
        | true =>
          obtain ⟨_, us, e3, _⟩ := ob
          exact ⟨_, rfl, .inl (.inr ⟨us, .inl e3⟩)⟩
      | _ => cases h
  | _ => cases h
theorem se_dget {p : Pos} (A : At Kt X W k) (ho : PE X a (te Kt W ma)) (hm : PA X (b :: es) (ta Kt W ms)) (hbase : attributeBase a "get" X.env (eval a X.env) = eval a X.env := by rfl)
    (hfew : ((backTo pos (starEach (b :: es) X.env)).all (fun x => !x.1) && (backToKw pos (keywordEach [] X.env)).all (fun x => x.1.isSome)
      && decide ((b :: es).length + ([] : List Keyword).length + (if ([] : List Keyword).isEmpty then 0 else 1) < 30)) = true := by rfl)
    (hline : (p.endLine == pos.line) = true := by rfl) (hs : starEach (b :: es) X.env = (false, eval b X.env) :: starEach es X.env := by rfl) (hplain : (backTo pos (starEach es X.env)).any (·.1) = false := by rfl) :
    PE X (.Call (.Attribute a "get" p) (b :: es) [] pos) (te Kt W (vDGet ma ms)) := by
  have h := pe_dm (cpos := pos) (apos := p) PySem.F.slot_dict_get PySem.F.type_dict_get (mt_dget A.hu) ho hm hbase hfew hline hs hplain
  rw [A.eK, A.ew] at h
  refine L2.PE.imp h fun σ H Q ⟨Φ, ι, F, e, g, S, h⟩ => ⟨Φ, ι, F, e, g, S, (po.bind (Rl := DV Kt) h).imp fun v H1 ⟨ι1, F1, g1, d, x1, R1, r1, h1⟩ => ?_⟩
  split at h1
  · exact h1.elim
  · rename_i hd
    refine ⟨isDc_ok R1 r1 hd, Φ, ι1, F1, e, g1, ⟨S.env.mono x1, R1⟩, (po.bind (Rl := DVs Kt) h1).imp fun vs H2 ⟨ι2, F2, g2, ys, x2, R2, r2, h2⟩ => ?_⟩
    split at h2
    · rename_i y
      split at h2
      · rename_i o ho
        cases r2 with
        | cons ry r0 =>
        cases r0
        cases d with
        | dic ks vs =>
          cases ks with
          | nil => cases ho
          | cons q ks =>
            obtain ⟨ad, es, n, z, r, rfl, rfl, kd, hn, hr⟩ := dcG_kd (r1.mono x2) ry ho
            refine ⟨ad, rfl, .inr (.inr ?_)⟩
            cases o with
            | none =>
              cases (show r = none from hr)
              exact ⟨es, n, z, _, .non, rfl, kd, hn, rfl, h2 _ _ _ _ Ex.refl R2 .non⟩
            | some d =>
              obtain ⟨i, t, rfl, rfl⟩ := hr
              exact ⟨es, n, z, _, .int i, rfl, kd, hn, ⟨t, rfl⟩, h2 _ _ _ _ Ex.refl R2 (.int _)⟩
        | ref l =>
          obtain ⟨ad, q, rfl, dg, hq⟩ := dcG_obj R2 (r1.mono x2) ry ho
          refine ⟨ad, rfl, .inl ⟨_, q, rfl, dg, ?_⟩⟩
          cases o with
          | none =>
            cases (show q = none from hq)
            exact h2 _ _ _ _ Ex.refl R2 .non
          | some d =>
            obtain ⟨v, rfl, rv⟩ := hq
            exact h2 _ _ _ _ Ex.refl R2 rv
        | _ => cases ho
      · exact h2.elim
    · rename_i y z
      split at h2
      · rename_i l
        split at h2
        · rename_i o ho
          cases r2 with
          | cons ry r0 =>
          cases r0 with
          | cons rz r0 =>
          cases r0
          obtain ⟨ad, q, rfl, dg, hq⟩ := dcG_obj R2 (r1.mono x2) ry ho
          refine ⟨ad, rfl, .inr (.inl ⟨_, _, q, rfl, dg, ?_⟩)⟩
          cases o with
          | none =>
            cases (show q = none from hq)
            exact h2 _ _ _ _ Ex.refl R2 rz
          | some d =>
            obtain ⟨v, rfl, rv⟩ := hq
            exact h2 _ _ _ _ Ex.refl R2 rv
        · exact h2.elim
      · exact h2.elim
    · exact h2.elim
end
/-! ### xs + ys that is an object -/
def vAddO (a b : EM) : EM := fun e g => (a e g).bind fun x g1 => (b e g1).bind fun y g2 => match lsD g2 x, lsD g2 y with
  | some xs, some ys => (match okL (xs.length + ys.length) with
    | true => .ok (.ref g2.length) (g2 ++ [.lst (xs ++ ys)])
    | false => .stuck)
  | _, _ => .stuck
section
variable {Kt : Kit} {X : Cx} {W : WX} {k : Nat} {a b c : Expr} {ma mb mc : EM} {pos : Pos} {es : List Expr} {ms : AM}
theorem se_addO (A : At Kt X W k) (ha : PE X a (te Kt W ma)) (hb : PE X b (te Kt W mb)) : PE X (.BinOp a .Add b pos) (te Kt W (vAddO ma mb)) := by
  refine (pe_op (or_add A) ha hb).imp fun σ H Q ⟨Φ, ι, F, e, g, S, h⟩ => ⟨Φ, ι, F, e, g, S, (po.bind (Rl := DV Kt) h).imp fun v H1 ⟨ι1, F1, g1, d, x1, R1, r1, h1⟩ => ?_⟩
  refine ⟨Φ, ι1, F1, e, g1, ⟨S.env.mono x1, R1⟩, (po.bind (Rl := DV Kt) h1).imp fun v2 H2 ⟨ι2, F2, g2, d2, x2, R2, r2, h2⟩ => ?_⟩
  split at h2
  · rename_i xs ys hx hy
    split at h2
    · rename_i hl
      obtain ⟨p, vs, rfl, e1, q1⟩ := lsD_ok R2 (r1.mono x2) hx
      obtain ⟨p', vs', rfl, e2, q2⟩ := lsD_ok R2 r2 hy
      exact .inr (.inr ⟨_, _, _, _, rfl, rfl, e1, e2, by rw [q1.length, q2.length]; exact okL_iff.mp hl, newO R2 (q1.append q2) fun ι' F' H' v x R r => h2 _ _ _ _ x R r⟩)
    · exact h2.elim
  · exact h2.elim
end
/-! ### for the head -/
def kdB (K : PySem.W.Frag) (a : Addr) (T : List Str) (ks vs : List D) : Bool := (List.range T.length).all fun m => match PySem.W.nsIn K a (T.getD m ⟨#[]⟩) with
  | some (some (.int i _)) => decide (dicG ks vs m = some i)
  | some none => (dicG ks vs m).isNone
  | _ => false
theorem kdB_ok {Kt : Kit} {a : Addr} {ks vs : List D} (h : kdB Kt.K a Kt.tab ks vs = true) (d : ∃ es n, KDict Kt.K Kt.w a es n) : KD Kt a ks vs := by
  refine ⟨d, fun m x hx => ?_⟩
  have hm := (List.getElem?_eq_some_iff.mp hx).1
  have q := List.all_eq_true.mp h m (List.mem_range.mpr hm)
  rw [List.getD_eq_getElem?_getD, hx] at q
  simp only [Option.getD_some] at q
  split at q
  · rename_i i t e
    rw [of_decide_eq_true q]
    exact ⟨_, e, t, rfl⟩
  · rename_i e
    rw [Option.isNone_iff_eq_none.mp q]
    exact ⟨_, e, rfl⟩
  · cases q
end Y

set_option Elab.async false
set_option linter.all false
set_option maxRecDepth 100000
/-! Y: displays of dicts. -/
namespace Y
open PySem PySem.Spec PyProof.Rows L2
abbrev PM := En → G → Res (List (D × D))
def pNil : PM := fun _ g => .ok [] g
def pCons (a c : EM) (r : PM) : PM := fun e g => (a e g).bind fun x g1 => (c e g1).bind fun y g2 => (r e g2).bind fun ps g3 => .ok ((x, y) :: ps) g3
def mergep (kvs more : List (D × D)) : List (D × D) := more.foldl (fun acc kv => putp acc kv.1 kv.2) kvs
def vDisp (ps : PM) : EM := fun e g => (ps e (g ++ [.dct false []])).bind fun kvs g2 => match g2[g.length]? with
  | some (.dct false []) => (match decide (kvs.length ≤ 15) && kvs.all fun p => kyD p.1 with
    | true => .ok (.ref g.length) (g2.set g.length (.dct false (mergep [] kvs)))
    | false => .stuck)
  | _ => .stuck
inductive DVps (Kt : Kit) (ι : List Addr) (F : Hp) : List (V × V) → List (D × D) → Prop
  | nil : DVps Kt ι F [] []
  | cons {x y : V} {d e : D} {r : List (V × V)} {s : List (D × D)} : DV Kt ι F x d → DV Kt ι F y e → DVps Kt ι F r s → DVps Kt ι F ((x, y) :: r) ((d, e) :: s)
def tp (Kt : Kit) (W : WX) (m : PM) (σ : L2.St) (H : Hp) (Q : List (V × V) → Hp → Prop) : Prop := ∃ Φ ι F e g, St' Kt Φ ι F e g σ H ∧ po Kt Φ W σ (DVps Kt) ι F (m e g) Q
structure PPy (Kt : Kit) (X : Cx) (W : WX) (pos : Pos) (keys : List (Option Expr)) (vals : List Expr) (m : PM) : Prop where
  ex : ∃ trs, PPs X pos keys vals trs ∧ ∀ σ H Q, tp Kt W m σ H Q → tPairs trs σ H Q
section
variable {Kt : Kit} {X : Cx} {W : WX} {k : Nat} {a b c : Expr} {ma mb mc : EM} {pos : Pos} {keys : List (Option Expr)} {vals : List Expr} {m : PM}
theorem sp_nil : PPy Kt X W pos [] [] pNil := ⟨[], pps_nil, fun σ H Q ⟨Φ, ι, F, e, g, S, h⟩ => h _ _ _ _ Ex.refl S.rel .nil⟩
theorem sp_cons (ha : PE X a (te Kt W ma)) (hc : PE X c (te Kt W mc)) (hr : PPy Kt X W pos keys vals m) : PPy Kt X W pos (some a :: keys) (c :: vals) (pCons ma mc m) := by
  obtain ⟨trs, h1, h2⟩ := hr.ex
  refine ⟨_, pps_cons ha hc h1, fun σ H Q ⟨Φ, ι, F, e, g, S, h⟩ => ?_⟩
  refine ⟨Φ, ι, F, e, g, S, (po.bind (Rl := DV Kt) h).imp fun v H1 ⟨ι1, F1, g1, d, x1, R1, r1, h⟩ => ?_⟩
  refine ⟨Φ, ι1, F1, e, g1, ⟨S.env.mono x1, R1⟩, (po.bind (Rl := DV Kt) h).imp fun v2 H2 ⟨ι2, F2, g2, d2, x2, R2, r2, h⟩ => ?_⟩
  refine h2 _ _ _ ⟨Φ, ι2, F2, e, g2, ⟨S.env.mono (x1.trans x2), R2⟩, (po.bind (Rl := DVps Kt) h).imp fun ps H3 ⟨ι3, F3, g3, kvs, x3, R3, r3, h⟩ => ?_⟩
  exact h _ _ _ _ Ex.refl R3 (.cons (r1.mono (x2.trans x3)) (r2.mono x3) r3)
theorem DVps.ky {ι : List Addr} {F : Hp} {ps : List (V × V)} {kvs : List (D × D)} (r : DVps Kt ι F ps kvs) (h : (kvs.all fun p => kyD p.1) = true) : ∃ us : List (Key × V), ps = us.map (fun kv => (kV kv.1, kv.2)) ∧ KR Kt ι F us kvs := by
  induction r with
  | nil => exact ⟨[], rfl, .nil⟩
  | cons hx hy t ih =>
    rw [List.all_cons, Bool.and_eq_true] at h
    obtain ⟨j, rfl⟩ := ky_ex hx h.1
    obtain ⟨us, rfl, q⟩ := ih h.2
    exact ⟨(j, _) :: us, rfl, .cons hx hy q⟩
theorem KR.merge {ι : List Addr} {F : Hp} {ws : List (Key × V)} {lvs : List (D × D)} (r : KR Kt ι F ws lvs) : ∀ {us : List (Key × V)} {kvs : List (D × D)}, KR Kt ι F us kvs → KR Kt ι F (mergeK us ws) (mergep kvs lvs) := by
  induction r with
  | nil => exact fun q => q
  | cons hk hv t ih => exact fun q => ih (q.put hk hv)
theorem se_disp (h : PPy Kt X W pos keys vals m) (hall : keys.all (·.isSome) = true := by rfl) (hl : keys.length = vals.length := by rfl) (h0 : keys ≠ [] := by intro h; cases h) (h15 : keys.length ≤ 15 := by decide) :
    PE X (.Dict keys vals pos) (te Kt W (vDisp m)) := by
  obtain ⟨trs, h1, h2⟩ := h.ex
  refine L2.PE.imp (pe_disp h1 hall hl h0 h15) fun σ H Q ⟨Φ, ι, F, e, g, S, h⟩ p hp => ?_
  obtain ⟨u, rfl, R, x⟩ := newD S.rel hp false
  refine h2 _ _ _ ⟨Φ, ι ++ [p], F, e, g ++ [.dct false []], ⟨S.env.mono x, R⟩, (po.bind (Rl := DVps Kt) (po.mono x h)).imp fun ps H2 ⟨ι2, F2, g2, kvs, x2, R2, r2, h⟩ => ?_⟩
  have ip : ι2[g.length]? = some p := x2.i _ _ (get_snoc S.rel.len)
  split at h
  · rename_i z
    obtain ⟨hF, us, e3, r3⟩ := R2.ob _ _ _ z ip
    cases r3
    refine ⟨e3, ?_⟩
    split at h
    · rename_i hh
      rw [Bool.and_eq_true] at hh
      obtain ⟨us, rfl, q⟩ := r2.ky hh.2
      exact ⟨us, rfl, by rw [q.length]; exact of_decide_eq_true hh.1, h _ _ _ _ Ex.refl (R2.put ip hF ⟨hF, _, upd_same, q.merge .nil⟩) (.ref ip)⟩
    · exact h.elim
  · exact h.elim
end
/-! ### xs.pop() -/
def vPop0 (o : EM) : EM := fun e g => (o e g).bind fun d g1 => match d with
  | .ref l => (match g1[l]? with
    | some (.lst ds) => (match ds[ds.length - 1]? with
      | some z => .ok z (g1.set l (.lst ds.dropLast))
      | none => .stuck)
    | _ => .stuck)
  | _ => .stuck
section
variable {Kt : Kit} {X : Cx} {W : WX} {k : Nat} {a b c : Expr} {ma mb mc : EM} {pos : Pos}
theorem se_pop0 {p : Pos} (A : At Kt X W k) (ho : PE X a (te Kt W ma)) (hbase : attributeBase a "pop" X.env (eval a X.env) = eval a X.env := by rfl) (hline : (p.endLine == pos.line) = true := by rfl) :
    PE X (.Call (.Attribute a "pop" p) [] [] pos) (te Kt W (vPop0 ma)) := by
  have h := pe_bm0 (cpos := pos) (apos := p) PySem.F.plainAttrs_list PySem.F.slot_list_pop PySem.F.type_list_pop mt_pop ho hbase hline
  rw [A.eK] at h
  refine L2.PE.imp h fun σ H Q ⟨Φ, ι, F, e, g, S, h⟩ => ⟨Φ, ι, F, e, g, S, (po.bind (Rl := DV Kt) h).imp fun v H1 ⟨ι1, F1, g1, d, x1, R1, r1, h1⟩ => ?_⟩
  split at h1
  · rename_i l
    split at h1
    · rename_i ds e1
      split at h1
      · rename_i z hz
        refine ⟨tyV_l R1 r1 (by unfold lsD; rw [snap_ref, e1]), ?_⟩
        cases r1 with
        | @ref _ ad e2 =>
        obtain ⟨hF, vs, e3, r4⟩ := R1.ob _ _ _ e1 e2
        obtain ⟨w, w1, w2⟩ := r4.get hz
        refine ⟨ad, vs, w, rfl, rfl, e3, by rw [r4.length]; exact w1, h1 _ _ _ _ Ex.refl (R1.put e2 hF ⟨hF, _, upd_same, ?_⟩) w2⟩
        rw [List.dropLast_eq_take, List.dropLast_eq_take, r4.length]
        exact r4.take _
      · exact h1.elim
    · exact h1.elim
  · exact h1.elim
end
/-! ### xs * n that is an object -/
def vMulO (a b : EM) : EM := fun e g => (a e g).bind fun x g1 => (b e g1).bind fun y g2 => match x, y with
  | .lst xs, .int j => (match nB xs.length j with
    | true => .ok (.ref g2.length) (g2 ++ [.lst (List.replicate j.toNat xs).flatten])
    | false => .stuck)
  | _, _ => .stuck
section
variable {Kt : Kit} {X : Cx} {W : WX} {k : Nat} {a b c : Expr} {ma mb mc : EM} {pos : Pos}
theorem se_mulO (ha : PE X a (te Kt W ma)) (hb : PE X b (te Kt W mb)) : PE X (.BinOp a .Mult b pos) (te Kt W (vMulO ma mb)) := by
  refine (pe_op or_mul ha hb).imp fun σ H Q ⟨Φ, ι, F, e, g, S, h⟩ => ⟨Φ, ι, F, e, g, S, (po.bind (Rl := DV Kt) h).imp fun v H1 ⟨ι1, F1, g1, d, x1, R1, r1, h1⟩ => ?_⟩
  refine ⟨Φ, ι1, F1, e, g1, ⟨S.env.mono x1, R1⟩, (po.bind (Rl := DV Kt) h1).imp fun v2 H2 ⟨ι2, F2, g2, d2, x2, R2, r2, h2⟩ => ?_⟩
  split at h2
  · rename_i xs j
    split at h2
    · rename_i hc
      have r1 := r1.mono x2
      cases r1 with
      | lst e1 q1 =>
      cases r2
      have hc := nB_ok hc
      exact .inr ⟨_, _, _, rfl, rfl, R2.sub _ _ e1, by have := hc.1; omega, by have := hc.2.1; omega, by rw [q1.length]; exact hc.2.2, newO R2 (q1.rep _) fun ι' F' H' v x R r => h2 _ _ _ _ x R r⟩
    · exact h2.elim
  · exact h2.elim
end
/-! ### dict([(k, v), ..]) -/
def prsD : List D → Option (List (D × D))
  | [] => some []
  | .tup [k, v] :: r => (match kyD k, prsD r with
    | true, some q => some ((k, v) :: q)
    | _, _ => none)
  | _ => none
def vDctP (a : AM) : EM := fun e g => (a e g).bind fun ds g1 => match ds with
  | [d] => (match lsD g1 d with
    | some xs => (match prsD xs with
      | some kvs => .ok (.ref g1.length) (g1 ++ [.dct false (mergep [] kvs)])
      | none => .stuck)
    | none => .stuck)
  | _ => .stuck
section
variable {Kt : Kit} {X : Cx} {W : WX} {k : Nat} {a b c : Expr} {es : List Expr} {ms : AM} {ma mb mc : EM} {pos : Pos}
theorem prs_ok {Φ : Hp} {ι : List Addr} {F H : Hp} {g : G} (R : RelG Kt Φ ι F g H) : ∀ {xs : List D} {vs : List V} {kvs : List (D × D)}, DVs Kt ι F vs xs → prsD xs = some kvs → ∃ (ps : List Addr) (us : List (Key × V)), vs = ps.map V.ref ∧ Paired (fun p kv => SqT Kt.K H p [kV kv.1, kv.2]) ps us ∧ KR Kt ι F us kvs
  | [], _, _, .nil, h => by
    cases h
    exact ⟨[], [], rfl, .nil, .nil⟩
  | x :: r, _, kvs, .cons hx hr, h => by
    unfold prsD at h
    split at h
    · rename_i h0; cases h0
    · rename_i kd vd r' h0
      cases h0
      split at h
      · rename_i q hk hq
        cases h
        obtain ⟨ps, us, e1, e2, e3⟩ := prs_ok R hr hq
        cases hx with
        | @tup p ws _ f1 r1 =>
        cases r1 with
        | cons rk r2 =>
        cases r2 with
        | cons rv r3 =>
        cases r3
        obtain ⟨j, rfl⟩ := ky_ex rk hk
        exact ⟨p :: ps, (j, _) :: us, by rw [e1]; rfl, .cons (.inl (.inl (R.sub _ _ f1))) e2, .cons rk rv e3⟩
      · cases h
    · cases h
theorem se_dctP {p : Pos} (A : At Kt X W k) (hm : Kt.mg "dict" = none) (ha : PA X (a :: es) (ta Kt W ms)) (hg : Gl X "dict" := by rfl) (he : starEach (a :: es) X.env = (false, eval a X.env) :: starEach es X.env := by rfl) (hpl : (backTo pos (starEach es X.env)).any (·.1) = false := by rfl) :
    PE X (.Call (.Name "dict" p) (a :: es) [] pos) (te Kt W (vDctP ms)) := by
  have h := pe_callTy (p := p) (call_dictP A.calm) hg (A.em ▸ hm) (by decide +kernel) ha (by decide) (by decide) he hpl
  rw [A.eK] at h
  refine L2.PE.imp h fun σ H Q ⟨Φ, ι, F, e, g, S, h⟩ => ⟨Φ, ι, F, e, g, S, (po.bind (Rl := DVs Kt) h).imp fun v H1 ⟨ι1, F1, g1, d1, x1, R1, r1, h1⟩ => ?_⟩
  split at h1
  · rename_i d
    cases r1 with
    | cons r1 r2 =>
    cases r2
    split at h1
    · rename_i xs e1
      split at h1
      · rename_i kvs e2
        obtain ⟨ad, vs, rfl, hs, r⟩ := lsD_ok R1 r1 e1
        obtain ⟨ps, us, rfl, p2, p3⟩ := prs_ok R1 r e2
        refine ⟨ad, ps, us, rfl, .inl (.inl hs), p2, fun q hq => ?_⟩
        have fp : F1 q = none := by
          cases e : F1 q with
          | none => rfl
          | some u => rw [R1.sub q u e] at hq; cases hq
        have x : Ex ι1 F1 (ι1 ++ [q]) F1 := ⟨fun l a h => by rw [List.getElem?_append_left (List.getElem?_eq_some_iff.mp h).1]; exact h, fun _ _ h => h⟩
        obtain ⟨R', x'⟩ := R1.new hq (H' := upd H1 q (.dK (mergeK [] us))) (fun a o h => by rw [upd_ne (ne_of_none h hq)]; exact h) (by rw [upd_same]; simp) (o := .dct false (mergep [] kvs)) ⟨fp, _, upd_same, (p3.mono x).merge .nil⟩
        exact h1 _ _ _ _ x' R' (.ref (get_snoc R1.len))
      · exact h1.elim
    · exact h1.elim
  · exact h1.elim
end
end Y

set_option Elab.async false
set_option linter.all false
set_option maxRecDepth 100000
namespace Y
open PySem L2

/-! ### plain: running the data -/
def Le (g g' : G) : Prop := ∀ (l : Nat) (o : Ob), g[l]? = some o → g'[l]? = some o
theorem Le.refl {g : G} : Le g g := fun _ _ h => h
theorem Le.trans {g g1 g2 : G} (a : Le g g1) (b : Le g1 g2) : Le g g2 := fun l o h => b l o (a l o h)
theorem Le.app {g : G} {os : List Ob} : Le g (g ++ os) := fun l o h => by rw [List.getElem?_append_left (List.getElem?_eq_some_iff.mp h).1]; exact h
theorem Le.set {g g' : G} (h : Le g g') {l : Nat} (hl : g.length ≤ l) {o : Ob} : Le g (g'.set l o) := fun m u e => by
  rw [List.getElem?_set_ne (by have := (List.getElem?_eq_some_iff.mp e).1; omega)]
  exact h m u e
theorem lsD_le {g g' : G} (h : Le g g') {d : D} {ds : List D} (e : lsD g d = some ds) : lsD g' d = some ds := by
  unfold lsD at e ⊢
  cases d with
  | ref l =>
    rw [snap_ref] at e ⊢
    cases z : g[l]? with
    | none => rw [z] at e; cases e
    | some o => rw [h l o z]; rw [z] at e; exact e
  | _ => exact e
@[simp] theorem lsD_lst {g : G} {ds : List D} : lsD g (.lst ds) = some ds := rfl
theorem lsD_ref {g : G} {l : Nat} {ds : List D} (h : g[l]? = some (.lst ds)) : lsD g (.ref l) = some ds := by unfold lsD; rw [snap_ref, h]
theorem snap_of {g : G} {d : D} {ds : List D} (h : lsD g d = some ds) : snap g d = .lst ds := by
  unfold lsD at h
  split at h
  · rename_i e; cases h; exact e
  · cases h
theorem itD_of {g : G} {d : D} {ds : List D} (h : lsD g d = some ds) : itD g d = some ds := by
  unfold itD
  cases d with
  | tup _ => cases h
  | scr _ => cases h
  | _ => exact h

/-- a step of a loop -/
def StepOK (r : SR) (P : En → G → Prop) (Q : SR → Prop) : Prop := match r with
  | .nx e g => P e g
  | .ct e g => P e g
  | .bk e g => Q (.nx e g)
  | r => Q r
theorem after_ok {r : SR} {k : En → G → SR} {P : En → G → Prop} {Q : SR → Prop} (h : StepOK r P Q) (hk : ∀ e g, P e g → Q (k e g)) : Q (after r k) := by
  cases r with
  | nx e g => exact hk e g h
  | ct e g => exact hk e g h
  | bk e g => exact h
  | rt d g => exact h
  | exn c e g => exact h
  | stuck => exact h
theorem loopL_inv {gm : GM} {b : SM} {Q : SR → Prop} (P : List D → En → G → Prop) (hs : ∀ x xs e g, P (x :: xs) e g → ∃ e', gm x g e = some e' ∧ StepOK (b e' g) (P xs) Q) (hd : ∀ e g, P [] e g → Q (.nx e g)) : ∀ xs e g, P xs e g → Q (loopL gm b xs e g)
  | [], e, g, h => hd e g h
  | x :: xs, e, g, h => by
    obtain ⟨e', h1, h2⟩ := hs x xs e g h
    unfold loopL
    rw [h1]
    exact after_ok h2 fun e2 g2 h3 => loopL_inv P hs hd xs e2 g2 h3
theorem rngL_cons {lo : Int} {n : Nat} : rngL lo (n + 1) = .int lo :: rngL (lo + 1) n := by
  unfold rngL
  rw [List.range_succ_eq_map, List.map_cons, List.map_map]
  congr 1
  · simp
  · apply List.map_congr_left
    intro i _
    simp only [Function.comp_apply]
    congr 1
    omega
theorem loop_rng {gm : GM} {b : SM} {Q : SR → Prop} {lo : Int} (P : Nat → En → G → Prop) : ∀ (n i : Nat) (e : En) (g : G), (∀ j e g, i ≤ j → j < i + n → P j e g → ∃ e', gm (.int (lo + (j : Int))) g e = some e' ∧ StepOK (b e' g) (P (j + 1)) Q) → (∀ e g, P (i + n) e g → Q (.nx e g)) → P i e g →
    Q (loopL gm b (rngL (lo + (i : Int)) n) e g)
  | 0, i, e, g, hs, hd, h => hd e g h
  | n + 1, i, e, g, hs, hd, h => by
    obtain ⟨e', h1, h2⟩ := hs i e g (Nat.le_refl _) (by omega) h
    rw [rngL_cons]
    unfold loopL
    rw [h1]
    refine after_ok h2 fun e2 g2 h3 => ?_
    have := loop_rng P n (i + 1) e2 g2 (fun j e g a b => hs j e g (by omega) (by omega)) (fun e g z => hd e g (by rw [Nat.add_succ, ← Nat.succ_add]; exact z)) h3
    rw [show lo + (i : Int) + 1 = lo + ((i + 1 : Nat) : Int) by omega]
    exact this
/-- for i in range(n) -/
theorem for_rng {gm : GM} {b : SM} {Q : SR → Prop} {n : Nat} {e : En} {g : G} (P : Nat → En → G → Prop) (h0 : P 0 e g) (hs : ∀ j e g, j < n → P j e g → ∃ e', gm (.int (j : Int)) g e = some e' ∧ StepOK (b e' g) (P (j + 1)) Q) (hd : ∀ e g, P n e g → Q (.nx e g)) :
    Q (loopL gm b (rngL 0 n) e g) := by
  have := loop_rng (lo := 0) P n 0 e g (fun j e g _ h2 h => by simpa using hs j e g (by omega) h) (fun e g h => hd e g (by simpa using h)) h0
  simpa using this
def srcL (g : G) : Src → Option (List D)
  | .vals xs => some xs
  | .obj l => match g[l]? with
    | some (.lst ds) => some ds
    | _ => none
theorem srcL_obj {g : G} {l : Nat} {xs : List D} (h : srcL g (.obj l) = some xs) : g[l]? = some (.lst xs) := by
  have h : (match g[l]? with
    | some (.lst ds) => some ds
    | _ => none) = some xs := h
  cases z : g[l]? with
  | none => rw [z] at h; cases h
  | some o =>
    rw [z] at h
    cases o with
    | lst ds => cases h; rfl
    | _ => cases h
theorem nxS_src {g : G} {s : Src} {xs : List D} (h : srcL g s = some xs) (i : Nat) : nxS s i g = some xs[i]? := by
  cases s with
  | vals ys => cases h; rfl
  | obj l =>
    unfold nxS
    simp only [srcL_obj h]
theorem loopS_pure {gm : GM} {b : SM} {Q : SR → Prop} {g : G} {s : Src} {xs : List D} (hx : srcL g s = some xs) (P : List D → En → Prop) (hs : ∀ x xs e, P (x :: xs) e → ∃ e', gm x g e = some e' ∧ StepOK (b e' g) (fun e2 g2 => g2 = g ∧ P xs e2) Q) (hd : ∀ e, P [] e → Q (.nx e g)) :
    ∀ n i e, n = xs.length - i → P (xs.drop i) e → Q (loopS gm b s n i e g)
  | 0, i, e, hn, h => by
    have hd' : xs.drop i = [] := List.drop_eq_nil_of_le (by omega)
    rw [hd'] at h
    unfold loopS
    rw [nxS_src hx, List.getElem?_eq_none (by omega)]
    exact hd e h
  | n + 1, i, e, hn, h => by
    have hi : i < xs.length := by omega
    rw [List.drop_eq_getElem_cons hi] at h
    obtain ⟨e', h1, h2⟩ := hs _ _ e h
    unfold loopS
    rw [nxS_src hx, List.getElem?_eq_getElem hi]
    simp only [h1]
    refine after_ok h2 fun e2 g2 ⟨eg, h3⟩ => ?_
    subst eg
    exact loopS_pure hx P hs hd n (i + 1) e2 (by omega) h3
/-- a loop that does not change the objects -/
theorem runS_pure {gm : GM} {b : SM} {Q : SR → Prop} {g : G} {s : Src} {xs : List D} {e : En} (hx : srcL g s = some xs) (P : List D → En → Prop) (h0 : P xs e) (hs : ∀ x xs e, P (x :: xs) e → ∃ e', gm x g e = some e' ∧ StepOK (b e' g) (fun e2 g2 => g2 = g ∧ P xs e2) Q) (hd : ∀ e, P [] e → Q (.nx e g)) :
    Q (runS gm b s e g) := by
  have key := loopS_pure hx P hs hd xs.length 0 e rfl (by simpa using h0)
  cases s with
  | vals ys =>
    cases hx
    rw [loopS_vals gm b xs xs.length 0 e g rfl] at key
    exact key
  | obj l =>
    unfold runS
    simp only [srcL_obj hx]
    exact key
theorem lcL_pure {α : Type} {gm : GM} {t : TM} {m : EM} {e : En} {g : G} (c : α → D) (p : α → Bool) (f : α → D) : ∀ (xs : List α), (∀ x ∈ xs, ∃ e', gm (c x) g e = some e' ∧ t e' g = .ok (p x) g ∧ (p x = true → m e' g = .ok (f x) g)) → lcL gm t m (xs.map c) e g = .ok ((xs.filter p).map f) g
  | [], _ => rfl
  | x :: xs, h => by
    obtain ⟨e', h1, h2, h3⟩ := h x List.mem_cons_self
    have ih := lcL_pure c p f xs fun y hy => h y (List.mem_cons_of_mem _ hy)
    rw [List.map_cons]
    unfold lcL
    rw [h1]
    simp only [h2, noX_ok, Res.bind]
    cases hp : p x with
    | true => simp [h3 hp, ih, hp]
    | false => simp [ih, hp]
theorem lcS_pure {gm : GM} {t : TM} {m : EM} {e : En} {g : G} {s : Src} {xs : List D} (hx : srcL g s = some xs) {ys : List D} : ∀ (n i : Nat), n = xs.length - i → (∀ x ∈ xs, ∃ e' b, gm x g e = some e' ∧ t e' g = .ok b g ∧ (b = true → ∃ y, m e' g = .ok y g)) → lcS gm t m s n i e g = lcL gm t m (xs.drop i) e g
  | 0, i, hn, h => by
    have hd' : xs.drop i = [] := List.drop_eq_nil_of_le (by omega)
    rw [hd']
    unfold lcS lcL
    rw [nxS_src hx, List.getElem?_eq_none (by omega)]
  | n + 1, i, hn, h => by
    have hi : i < xs.length := by omega
    obtain ⟨e', b, h1, h2, h3⟩ := h xs[i] (List.getElem_mem hi)
    have ih := lcS_pure (ys := ys) hx n (i + 1) (by omega) h
    rw [List.drop_eq_getElem_cons hi]
    unfold lcS lcL
    rw [nxS_src hx, List.getElem?_eq_getElem hi]
    simp only [h1, h2, noX_ok, Res.bind]
    cases b with
    | true =>
      obtain ⟨y, h4⟩ := h3 rfl
      simp only [h4, noX_ok, cond_true, Res.bind]
      rw [ih]
    | false => simp only [cond_false]; rw [ih]
/-- a comprehension whose parts do not change the objects -/
theorem lcR_pure {α : Type} {gm : GM} {t : TM} {m : EM} {e : En} {g : G} {s : Src} (c : α → D) (p : α → Bool) (f : α → D) (xs : List α) (hx : srcL g s = some (xs.map c)) (hl : okL xs.length = true) (h : ∀ x ∈ xs, ∃ e', gm (c x) g e = some e' ∧ t e' g = .ok (p x) g ∧ (p x = true → m e' g = .ok (f x) g)) :
    lcR gm t m s e g = .ok ((xs.filter p).map f) g := by
  have key := lcL_pure c p f xs h
  unfold lcR
  cases s with
  | vals ys =>
    cases hx
    simp only [List.length_map, hl]
    exact key
  | obj l =>
    have h2 : ∀ z ∈ xs.map c, ∃ e' b, gm z g e = some e' ∧ t e' g = .ok b g ∧ (b = true → ∃ y, m e' g = .ok y g) := fun z hz => by
      obtain ⟨x, hx, rfl⟩ := List.mem_map.mp hz
      obtain ⟨e', a1, a2, a3⟩ := h x hx
      exact ⟨e', p x, a1, a2, fun q => ⟨_, a3 q⟩⟩
    have k2 := lcS_pure (ys := []) hx (xs.map c).length 0 rfl h2
    simp only [srcL_obj hx, List.length_map, hl]
    rw [List.length_map] at k2
    rw [k2]
    exact key
/-! #### the law's tape -/
def tapeB : SM := (sSeq (sAsg 1 (vLstO aNil))
    (sSeq (sFor (iRng1 (vCB lenD (aCons (vVar 0) aNil))) (gN 2) (sSeq (sAsg 3 (vCB absD (aCons (vCB intD (aCons (vOp ixD (vVar 0) (vVar 2)) aNil)) aNil)))
    (sIf (tOf (vOp geD (vVar 3) (vOp powD (vC (.int 10)) (vC (.int 18))))) (sFor (iRng1 (vC (.int 60))) (gN 4) (sIf (tOf (vOp gtD (vVar 3) (vC (.int 0)))) (sSeq (sDrop (vApp (vVar 1) (vOp modD (vVar 3) (vC (.int 1000)))))
    (sAsg 3 (vOp divD (vVar 3) (vC (.int 1000))))) sNx)) (sFor (iRng1 (vC (.int 4))) (gN 4) (sSeq (sAsg 3 (vOp modD (vOp addD (vOp addD (vOp mulD (vVar 3) (vC (.int 48271))) (vOp mulD (vC (.int 69621)) (vOp addD (vVar 2) (vC (.int 1))))) (vOp mulD (vC (.int 7)) (vVar 4))) (vC (.int 2147483647))))
    (sSeq (sAsg 3 (vOp modD (vOp mulD (vVar 3) (vC (.int 16807))) (vC (.int 2147483647))))
    (sDrop (vApp (vVar 1) (vOp modD (vOp divD (vVar 3) (vC (.int 1000))) (vC (.int 1000)))))))))))
    (sRet (vFrz (vVar 1)))))
def Nice (T : List Int) : Prop := ∀ t ∈ T, 0 ≤ t ∧ t < 1000
/-- between two turns -/
def TP (ns : List Int) (l m : Nat) (e : En) (g0 g : G) : Prop := ∃ (T : List Int) (a b c : Option D), e = [some (.scr (ns.map D.int)), some (.ref l), a, b, c] ∧ g = g0 ++ [.lst (T.map D.int)] ∧ l = g0.length ∧ Nice T ∧ T.length ≤ m
theorem get_snoc' {g0 : G} {o : Ob} : (g0 ++ [o])[g0.length]? = some o := by
  rw [List.getElem?_append_right (Nat.le_refl _), Nat.sub_self]; rfl
theorem set_snoc' {g0 : G} {o o' : Ob} : (g0 ++ [o]).set g0.length o' = g0 ++ [o'] := by
  rw [List.set_append_right _ _ (Nat.le_refl _), Nat.sub_self]; rfl
theorem app_tape {e : En} {g0 : G} {T : List Int} {t : Int} {m : EM} {o : EM} (ho : o e (g0 ++ [.lst (T.map D.int)]) = .ok (.ref g0.length) (g0 ++ [.lst (T.map D.int)])) (hm : m e (g0 ++ [.lst (T.map D.int)]) = .ok (.int t) (g0 ++ [.lst (T.map D.int)])) (hl : ltL T.length = true) :
    vApp o m e (g0 ++ [.lst (T.map D.int)]) = .ok .non (g0 ++ [.lst ((T ++ [t]).map D.int)]) := by
  unfold vApp
  rw [ho]
  simp only [Res.bind, lsD_ref get_snoc', hm, get_snoc', List.length_map, hl, set_snoc', List.map_append, List.map_cons, List.map_nil]
theorem nice_snoc {T : List Int} (h : Nice T) {t : Int} (h0 : 0 ≤ t) (h1 : t < 1000) : Nice (T ++ [t]) := fun x hx => by
  rcases List.mem_append.mp hx with hx | hx
  · exact h x hx
  · simp at hx; subst hx; exact ⟨h0, h1⟩
theorem atI_ints (ns : List Int) {j : Nat} (h : j < ns.length) : atI (ns.map D.int) (j : Int) = some (.int ns[j]) := atI_nat (by simp [h])
theorem tape_in1 {ns : List Int} {g0 : G} {m0 j : Nat} {T : List Int} {x : Int} {c : Option D} (hT : Nice T) (hl : T.length ≤ m0) (hm : m0 < 10000) (hx : 0 ≤ x) :
    StepOK (loopL (gN 4) (sIf (tOf (vOp gtD (vVar 3) (vC (.int 0)))) (sSeq (sDrop (vApp (vVar 1) (vOp modD (vVar 3) (vC (.int 1000))))) (sAsg 3 (vOp divD (vVar 3) (vC (.int 1000))))) sNx) (rngL 0 60) [some (.scr (ns.map D.int)), some (.ref g0.length), some (.int j), some (.int x), c] (g0 ++ [.lst (T.map D.int)]))
      (TP ns g0.length (m0 + 60) · g0 ·) (fun _ => False) := by
  refine for_rng (Q := fun r => StepOK r (TP ns g0.length (m0 + 60) · g0 ·) (fun _ => False)) (fun i e g => ∃ (T : List Int) (x : Int) (c : Option D), e = [some (.scr (ns.map D.int)), some (.ref g0.length), some (.int j), some (.int x), c] ∧ g = g0 ++ [.lst (T.map D.int)] ∧ Nice T ∧ T.length ≤ m0 + i ∧ 0 ≤ x) ⟨T, x, c, rfl, rfl, hT, hl, hx⟩ ?_ ?_
  · rintro i e g hi ⟨T, x, c, rfl, rfl, hT, hl, hx⟩
    refine ⟨_, rfl, ?_⟩
    by_cases h0 : 0 < x
    · have e1 := app_tape (e := [some (.scr (ns.map D.int)), some (.ref g0.length), some (.int j), some (.int x), some (.int (i : Int))]) (g0 := g0) (T := T) (t := x % 1000) (m := vOp modD (vVar 3) (vC (.int 1000))) (o := vVar 1) rfl rfl (ltL_of (by omega))
      simp only [sIf, tOf, vOp, vVar, vC, Res.bind, sBind, List.set, List.getElem?_cons_zero, List.getElem?_cons_succ, gtD, icD, oR_some, bR_bl, h0, decide_true, cond_true, sSeq, sDrop] at e1 ⊢
      rw [e1]
      refine ⟨T ++ [x % 1000], x / 1000, some (.int i), rfl, rfl, nice_snoc hT (by omega) (by omega), by simp; omega, by omega⟩
    · simp only [sIf, tOf, vOp, vVar, vC, Res.bind, sBind, List.set, List.getElem?_cons_zero, List.getElem?_cons_succ, gtD, icD, oR_some, bR_bl, h0, decide_false, cond_false]
      exact ⟨T, x, some (.int i), rfl, rfl, hT, by omega, hx⟩
  · rintro e g ⟨T, x, c, rfl, rfl, hT, hl, hx⟩
    exact ⟨T, _, _, _, rfl, rfl, rfl, hT, hl⟩
theorem tape_in2 {ns : List Int} {g0 : G} {m0 j : Nat} {T : List Int} {x : Int} {c : Option D} (hT : Nice T) (hl : T.length ≤ m0) (hm : m0 < 10000) :
    StepOK (loopL (gN 4) (sSeq (sAsg 3 (vOp modD (vOp addD (vOp addD (vOp mulD (vVar 3) (vC (.int 48271))) (vOp mulD (vC (.int 69621)) (vOp addD (vVar 2) (vC (.int 1))))) (vOp mulD (vC (.int 7)) (vVar 4))) (vC (.int 2147483647))))
    (sSeq (sAsg 3 (vOp modD (vOp mulD (vVar 3) (vC (.int 16807))) (vC (.int 2147483647))))
    (sDrop (vApp (vVar 1) (vOp modD (vOp divD (vVar 3) (vC (.int 1000))) (vC (.int 1000))))))) (rngL 0 4) [some (.scr (ns.map D.int)), some (.ref g0.length), some (.int j), some (.int x), c] (g0 ++ [.lst (T.map D.int)]))
      (TP ns g0.length (m0 + 60) · g0 ·) (fun _ => False) := by
  refine for_rng (Q := fun r => StepOK r (TP ns g0.length (m0 + 60) · g0 ·) (fun _ => False)) (fun i e g => ∃ (T : List Int) (x : Int) (c : Option D), e = [some (.scr (ns.map D.int)), some (.ref g0.length), some (.int j), some (.int x), c] ∧ g = g0 ++ [.lst (T.map D.int)] ∧ Nice T ∧ T.length ≤ m0 + i) ⟨T, x, c, rfl, rfl, hT, hl⟩ ?_ ?_
  · rintro i e g hi ⟨T, x, c, rfl, rfl, hT, hl⟩
    refine ⟨_, rfl, ?_⟩
    generalize hy : ((x * 48271 + 69621 * ((j : Int) + 1) + 7 * (i : Int)) % 2147483647) * 16807 % 2147483647 = y
    have y0 : 0 ≤ y := by omega
    have e1 := app_tape (e := [some (.scr (ns.map D.int)), some (.ref g0.length), some (.int j), some (.int y), some (.int (i : Int))]) (g0 := g0) (T := T) (t := y / 1000 % 1000) (m := vOp modD (vOp divD (vVar 3) (vC (.int 1000))) (vC (.int 1000))) (o := vVar 1) rfl rfl (ltL_of (by omega))
    have b1 : mB x 48271 = true := mB_r (by decide) (by decide)
    have b2 : mB 69621 ((j : Int) + 1) = true := mB_l (by decide) (by decide)
    have b3 : mB 7 (i : Int) = true := mB_l (by decide) (by decide)
    have b4 : ∀ z : Int, mB z 16807 = true := fun z => mB_r (by decide) (by decide)
    have b5 : pB 2147483647 = true := rfl
    simp only [sAsg, vOp, vVar, vC, Res.bind, sBind, List.set, List.getElem?_cons_zero, List.getElem?_cons_succ, mulD, addD, modD, oR_some, b1, b2, b3, b4, b5, sSeq, sDrop, hy] at e1 ⊢
    rw [e1]
    exact ⟨T ++ [y / 1000 % 1000], y, some (.int i), rfl, rfl, nice_snoc hT (by omega) (by omega), by simp; omega⟩
  · rintro e g ⟨T, x, c, rfl, rfl, hT, hl⟩
    exact ⟨T, _, _, _, rfl, rfl, rfl, hT, by omega⟩
theorem vLstO_nil {e : En} {g : G} : vLstO aNil e g = .ok (.ref g.length) (g ++ [.lst []]) := by
  rfl
theorem tape_ok (ns : List Int) (hn : ns.length ≤ 63) (g : G) : ∃ T : List Int, Nice T ∧ T.length ≤ 3780 ∧ fnM 1 5 tapeB [.scr (ns.map D.int)] g = .ok (.lst (T.map D.int)) (g ++ [.dead]) := by
  have key : ∃ T : List Int, Nice T ∧ T.length ≤ 3780 ∧ tapeB [some (.scr (ns.map D.int)), none, none, none, none] g = .rt (.lst (T.map D.int)) (g ++ [.dead]) := by
    unfold tapeB
    simp only [sSeq, sAsg, vLstO_nil, sBind, List.set, sFor, iRng1, vCB, aCons, vVar, List.getElem?_cons_zero, lenD, itD, oR_some, List.length_map, aNil, Res.bind]
    simp only [rB_of (show -1000000000 ≤ (ns.length : Int) by omega) (show (ns.length : Int) ≤ 1000000000 by omega), sBind, runS, Int.toNat_natCast]
    refine for_rng (Q := fun r => ∃ T : List Int, Nice T ∧ T.length ≤ 3780 ∧ (match r with
      | .nx e' g' => sRet (vFrz (vVar 1)) e' g'
      | r => r) = .rt (.lst (T.map D.int)) (g ++ [.dead])) (fun j e g' => TP ns g.length (60 * j) e g g') ⟨[], _, _, _, rfl, rfl, rfl, fun _ h => (by cases h), Nat.le_refl _⟩ ?_ ?_
    · rintro j e g' hj ⟨T, a, b, c, rfl, rfl, _, hT, hl⟩
      refine ⟨_, rfl, ?_⟩
      have imp : ∀ {r : SR}, StepOK r (TP ns g.length (60 * j + 60) · g ·) (fun _ => False) → StepOK r (fun e g' => TP ns g.length (60 * (j + 1)) e g g') (fun r => ∃ T : List Int, Nice T ∧ T.length ≤ 3780 ∧ (match r with
        | .nx e' g' => sRet (vFrz (vVar 1)) e' g'
        | r => r) = .rt (.lst (T.map D.int)) (g ++ [.dead])) := by
        intro r h
        rw [show 60 * (j + 1) = 60 * j + 60 by omega]
        cases r with
        | nx e g => exact h
        | ct e g => exact h
        | _ => exact h.elim
      simp only [sSeq, sAsg, vOp, vVar, vC, Res.bind, sBind, List.set, List.getElem?_cons_zero, List.getElem?_cons_succ, vCB, aCons, aNil, ixD, itD, atI_ints ns hj, oR_some, intD, absD, sIf, tOf, powD]
      generalize hx : (if ns[j] < 0 then -ns[j] else ns[j]) = x
      have x0 : 0 ≤ x := by subst hx; split <;> omega
      simp only [show wB 10 18 = true from rfl, oR_some, geD, icD, Res.bind, bR_bl, sBind]
      generalize (10 : Int) ^ (18 : Int).toNat = N
      have t60 : (60 : Int).toNat = 60 := rfl
      have t4 : (4 : Int).toNat = 4 := rfl
      have c60 : rB 60 = true := rfl
      have c4 : rB 4 = true := rfl
      by_cases hb : N ≤ x
      · simp only [decide_eq_true hb, cond_true, sFor, iRng1, vC, Res.bind, sBind, c60, runS, t60]
        exact imp (tape_in1 hT hl (by omega) x0)
      · simp only [decide_eq_false hb, cond_false, sFor, iRng1, vC, Res.bind, sBind, c4, runS, t4]
        exact imp (tape_in2 hT hl (by omega))
    · rintro e g' ⟨T, a, b, c, rfl, rfl, _, hT, hl⟩
      refine ⟨T, hT, by omega, ?_⟩
      simp only [sRet, vFrz, vVar, List.getElem?_cons_zero, List.getElem?_cons_succ, Res.bind, sBind, frzD, get_snoc', set_snoc']
  obtain ⟨T, h1, h2, h3⟩ := key
  refine ⟨T, h1, h2, ?_⟩
  show (if [D.scr (ns.map D.int)].length = 1 then endM (tapeB [some (.scr (ns.map D.int)), none, none, none, none] g) else Res.stuck) = _
  rw [h3]
  rfl
/-! #### equations for simp -/
section
variable {e : En} {g : G} {a b c : EM} {t t' : TM} {m m' : SM} {ms : AM}
@[simp] theorem vVar_e {i : Nat} : vVar i e g = (match e[i]? with
  | some (some d) => .ok d g
  | _ => .stuck) := rfl
@[simp] theorem vC_e {d : D} : vC d e g = .ok d g := rfl
@[simp] theorem vUn_e {o : G → D → Option D} : vUn o a e g = (a e g).bind fun x g1 => oR (o g1 x) g1 := rfl
@[simp] theorem vOp_e {o : OpT} : vOp o a b e g = (a e g).bind fun x g1 => (b e g1).bind fun y g2 => oR (o g2 x y) g2 := rfl
@[simp] theorem tOf_e : tOf a e g = (a e g).bind bR := rfl
@[simp] theorem tAnd_e : tAnd t t' e g = (t e g).bind fun c g1 => bif c then t' e g1 else .ok false g1 := rfl
@[simp] theorem tOr_e : tOr t t' e g = (t e g).bind fun c g1 => bif c then .ok true g1 else t' e g1 := rfl
@[simp] theorem tNot_e : tNot t e g = (t e g).bind fun c g1 => .ok (!c) g1 := rfl
@[simp] theorem vAnd_e : vAnd a b e g = (a e g).bind fun d g1 => (bR d g1).bind fun c g2 => bif c then b e g2 else .ok (.bl false) g2 := rfl
@[simp] theorem vOr_e : vOr a b e g = (a e g).bind fun d g1 => (bR d g1).bind fun c g2 => bif c then .ok (.bl true) g2 else b e g2 := rfl
@[simp] theorem vNot_e : vNot a e g = (a e g).bind fun d g1 => (bR d g1).bind fun c g2 => .ok (.bl (!c)) g2 := rfl
@[simp] theorem vIf_e : vIf t a b e g = (t e g).bind fun c g1 => bif c then a e g1 else b e g1 := rfl
@[simp] theorem vChain_e {o o' : OpT} : vChain o o' a b c e g = (a e g).bind fun x g1 => (b e g1).bind fun y g2 => (oR (o g2 x y) g2).bind fun z g3 => (bR z g3).bind fun k g4 => bif k then (c e g4).bind fun w g5 => oR (o' g5 y w) g5 else .ok (.bl false) g4 := rfl
@[simp] theorem tTru_e : tTru a e g = (a e g).bind fun d g1 => match truD g1 d with
  | some b => .ok b g1
  | none => .stuck := rfl
@[simp] theorem aNil_e : aNil e g = .ok [] g := rfl
@[simp] theorem aCons_e : aCons a ms e g = (a e g).bind fun d g1 => (ms e g1).bind fun ds g2 => .ok (d :: ds) g2 := rfl
@[simp] theorem vCB_e {o : G → List D → Option D} : vCB o ms e g = (ms e g).bind fun ds g1 => oR (o g1 ds) g1 := rfl
@[simp] theorem vCall_e {f : MF} : vCall f ms e g = (ms e g).bind f := rfl
@[simp] theorem sNx_e : sNx e g = .nx e g := rfl
@[simp] theorem sSeq_e : sSeq m m' e g = (match m e g with
  | .nx e' g' => m' e' g'
  | r => r) := rfl
@[simp] theorem sAsg_e {i : Nat} : sAsg i a e g = sBind (a e g) e fun d g1 => .nx (e.set i (some d)) g1 := rfl
@[simp] theorem sDrop_e : sDrop a e g = sBind (a e g) e fun _ g1 => .nx e g1 := rfl
@[simp] theorem sRet_e : sRet a e g = sBind (a e g) e fun d g1 => .rt d g1 := rfl
@[simp] theorem sIf_e : sIf t m m' e g = sBind (t e g) e fun c g1 => bif c then m e g1 else m' e g1 := rfl
@[simp] theorem sFor_e {im : IM} {gm : GM} : sFor im gm m e g = sBind (im e g) e fun s g1 => runS gm m s e g1 := rfl
@[simp] theorem gN_e {i : Nat} {d : D} : gN i d g e = some (e.set i (some d)) := rfl
@[simp] theorem tYes_e : tYes e g = .ok true g := rfl
@[simp] theorem vLc_e {own : List Nat} {im : IM} {gm : GM} : vLc own im gm t a e g = (im e g).bind fun s g1 => (lcR gm t a s (wipeE e own) g1).bind fun ys g2 => .ok (.lst ys) g2 := rfl
@[simp] theorem vLcO_e {own : List Nat} {im : IM} {gm : GM} : vLcO own im gm t a e g = (im e g).bind fun s g1 => (lcR gm t a s (wipeE e own) g1).bind fun ys g2 => .ok (.ref g2.length) (g2 ++ [.lst ys]) := rfl
@[simp] theorem wipeE_nil : wipeE e [] = e := rfl
@[simp] theorem wipeE_cons {i : Nat} {is : List Nat} : wipeE e (i :: is) = (wipeE e is).set i none := rfl
@[simp] theorem endM_rt {d : D} : endM (.rt d g) = .ok d g := rfl
@[simp] theorem endM_nx : endM (.nx e g) = .ok .non g := rfl
@[simp] theorem oR_none : oR none g = .stuck := rfl
@[simp] theorem addD_int {i j : Int} : addD g (.int i) (.int j) = some (.int (i + j)) := rfl
@[simp] theorem subD_int {i j : Int} : subD g (.int i) (.int j) = some (.int (i - j)) := rfl
@[simp] theorem icD_int {p : Int → Int → Bool} {i j : Int} : icD p g (.int i) (.int j) = some (.bl (p i j)) := rfl
@[simp] theorem isN_e {d : D} : isN g d .non = some (.bl (nonD d)) := rfl
@[simp] theorem notN_e {d : D} : notN g d .non = some (.bl (!nonD d)) := rfl
@[simp] theorem nonD_non : nonD .non = true := rfl
@[simp] theorem nonD_int {i : Int} : nonD (.int i) = false := rfl
@[simp] theorem nonD_bl {i : Bool} : nonD (.bl i) = false := rfl
@[simp] theorem nonD_str {i : Nat} : nonD (.str i) = false := rfl
@[simp] theorem nonD_tup {i : List D} : nonD (.tup i) = false := rfl
@[simp] theorem nonD_lst {i : List D} : nonD (.lst i) = false := rfl
@[simp] theorem nonD_ref {i : Nat} : nonD (.ref i) = false := rfl
@[simp] theorem deq_int {i j : Int} : deq (.int i) (.int j) = (i == j) := by simp only [deq]
@[simp] theorem deq_bl {i j : Bool} : deq (.bl i) (.bl j) = (i == j) := by simp only [deq]
@[simp] theorem deq_str {i j : Nat} : deq (.str i) (.str j) = (i == j) := by simp only [deq]
@[simp] theorem deq_non : deq .non .non = true := by simp only [deq]
@[simp] theorem deq_tup {i j : List D} : deq (.tup i) (.tup j) = deqs i j := by simp only [deq]
@[simp] theorem deq_lst {i j : List D} : deq (.lst i) (.lst j) = deqs i j := by simp only [deq]
@[simp] theorem deqs_nil : deqs [] [] = true := by simp only [deqs]
@[simp] theorem deqs_cons {x y : D} {i j : List D} : deqs (x :: i) (y :: j) = (deq x y && deqs i j) := by simp only [deqs]
@[simp] theorem deqs_cn {x : D} {i : List D} : deqs (x :: i) [] = false := by simp only [deqs]
@[simp] theorem deqs_nc {x : D} {i : List D} : deqs [] (x :: i) = false := by simp only [deqs]
@[simp] theorem pud_non {n : Nat} : pud n .non = true := by cases n <;> rfl
@[simp] theorem pud_int {n : Nat} {i : Int} : pud n (.int i) = true := by cases n <;> rfl
@[simp] theorem pud_bl {n : Nat} {i : Bool} : pud n (.bl i) = true := by cases n <;> rfl
@[simp] theorem pud_str {n : Nat} {i : Nat} : pud n (.str i) = true := by cases n <;> rfl
theorem pud_tup {n : Nat} {ds : List D} : pud (n + 1) (.tup ds) = ds.all (pud n) := rfl
theorem pud_lst {n : Nat} {ds : List D} : pud (n + 1) (.lst ds) = ds.all (pud n) := rfl
@[simp] theorem pud8_tup {ds : List D} : pud 8 (.tup ds) = ds.all (pud 7) := rfl
@[simp] theorem pud8_lst {ds : List D} : pud 8 (.lst ds) = ds.all (pud 7) := rfl
@[simp] theorem pud7_tup {ds : List D} : pud 7 (.tup ds) = ds.all (pud 6) := rfl
@[simp] theorem pud7_lst {ds : List D} : pud 7 (.lst ds) = ds.all (pud 6) := rfl
@[simp] theorem pud6_tup {ds : List D} : pud 6 (.tup ds) = ds.all (pud 5) := rfl
@[simp] theorem pud6_lst {ds : List D} : pud 6 (.lst ds) = ds.all (pud 5) := rfl
@[simp] theorem pud5_tup {ds : List D} : pud 5 (.tup ds) = ds.all (pud 4) := rfl
@[simp] theorem truD_bl {b : Bool} : truD g (.bl b) = some b := rfl
@[simp] theorem truD_non : truD g .non = some false := rfl
@[simp] theorem truD_tup {ds : List D} : truD g (.tup ds) = some (!ds.isEmpty) := rfl
@[simp] theorem truD_lst {ds : List D} : truD g (.lst ds) = some (!ds.isEmpty) := rfl
theorem eqD_e {x y : D} (h : (pud 8 (snap g x) && pud 8 (snap g y)) = true) : eqD g x y = some (.bl (deq (snap g x) (snap g y))) := by unfold eqD; rw [h]
theorem neD_e {x y : D} (h : (pud 8 (snap g x) && pud 8 (snap g y)) = true) : neD g x y = some (.bl (!deq (snap g x) (snap g y))) := by unfold neD; rw [h]
@[simp] theorem ixD_tup {ds : List D} {i : Int} : ixD g (.tup ds) (.int i) = atI ds i := rfl
@[simp] theorem ixD_lst {ds : List D} {i : Int} : ixD g (.lst ds) (.int i) = atI ds i := rfl
@[simp] theorem ixD_scr {ds : List D} {i : Int} : ixD g (.scr ds) (.int i) = atI ds i := rfl
@[simp] theorem lenD_tup {ds : List D} : lenD g [.tup ds] = some (.int ds.length) := rfl
@[simp] theorem lenD_lst {ds : List D} : lenD g [.lst ds] = some (.int ds.length) := rfl
@[simp] theorem lenD_scr {ds : List D} : lenD g [.scr ds] = some (.int ds.length) := rfl
theorem lsD_tup {ds : List D} : lsD g (.tup ds) = none := rfl
end
theorem modD_e {g : G} {i j : Int} (h : 0 < j) : modD g (.int i) (.int j) = some (.int (i % j)) := by unfold modD; simp only [pB_of h]
theorem divD_e {g : G} {i j : Int} (h : 0 < j) (h' : j < 1073741824) : divD g (.int i) (.int j) = some (.int (i / j)) := by unfold divD; simp only [dB_of h h']
theorem mulD_r {g : G} {i j : Int} (h : -1000000000000 ≤ j) (h' : j ≤ 1000000000000) : mulD g (.int i) (.int j) = some (.int (i * j)) := by unfold mulD; simp only [mB_r h h']
theorem mulD_l {g : G} {i j : Int} (h : -1000000000000 ≤ i) (h' : i ≤ 1000000000000) : mulD g (.int i) (.int j) = some (.int (i * j)) := by unfold mulD; simp only [mB_l h h']
theorem vTup_e {ms : AM} {e : En} {g g1 : G} {ds : List D} (h : ms e g = .ok ds g1) (hl : okL ds.length = true) : vTup ms e g = .ok (.tup ds) g1 := by unfold vTup; rw [h]; simp only [Res.bind, hl]
theorem vLst_e {ms : AM} {e : En} {g g1 : G} {ds : List D} (h : ms e g = .ok ds g1) (hl : okL ds.length = true) : vLst ms e g = .ok (.lst ds) g1 := by unfold vLst; rw [h]; simp only [Res.bind, hl]
theorem for_rng1 {m : EM} {e : En} {g g1 : G} {n : Int} (h : m e g = .ok (.int n) g1) (hl : -1000000000 ≤ n) (hu : n ≤ 1000000000) : iRng1 m e g = .ok (.vals (rngL 0 n.toNat)) g1 := by unfold iRng1; rw [h]; simp only [Res.bind, rB_of hl hu]
/-! #### the law's reader -/
def atB : SM := (sSeq (sIf (tOf (vOp ltD (vVar 1) (vCB lenD (aCons (vVar 0) aNil)))) (sRet (vOp ixD (vVar 0) (vVar 1))) sNx)
    (sRet (vC (.int 0))))
def tk (T : List Int) (k : Nat) : Int := T.getD k 0
theorem tk_nice {T : List Int} (h : Nice T) (k : Nat) : 0 ≤ tk T k ∧ tk T k < 1000 := by
  unfold tk
  rw [List.getD_eq_getElem?_getD]
  cases e : T[k]? with
  | none => simp
  | some x => exact h x (List.mem_of_getElem? e)
theorem at_ok (T : List Int) (k : Nat) (g : G) : fnM 2 2 atB [.lst (T.map D.int), .int (k : Int)] g = .ok (.int (tk T k)) g := by
  show endM (atB [some (.lst (T.map D.int)), some (.int (k : Int))] g) = _
  unfold atB tk
  by_cases h : k < T.length
  · simp [h, atI_ints T h, List.getD_eq_getElem?_getD, List.getElem?_eq_getElem h]
  · simp [h, List.getD_eq_getElem?_getD, List.getElem?_eq_none (Nat.not_lt.mp h)]
end Y

set_option Elab.async false
set_option linter.all false
set_option maxRecDepth 100000
namespace Y
open PySem L2
/-! ### plain: more -/
theorem meth_e {nm : Nat} {tbl : List (Nat × MF)} {o : EM} {ms : AM} {e : En} {g g1 g2 : G} {l c : Nat} {fs : List (Nat × D)} {mf : MF} {ds : List D} (ho : o e g = .ok (.ref l) g1) (hg : g1[l]? = some (.ins c fs)) (hn : lkA nm fs = none) (hm : lkM c tbl = some mf) (ha : ms e g1 = .ok ds g2) : vMeth nm tbl o ms e g = mf (.ref l :: ds) g2 := by
  unfold vMeth
  simp only [ho, Res.bind, hg, hn, hm, ha]
/-- the source of a list by its value -/
theorem iLst_of {m : EM} {e : En} {g : G} {d : D} {xs : List D} (hm : m e g = .ok d g) (h : lsD g d = some xs) : ∃ s, iLst m e g = .ok s g ∧ srcL g s = some xs := by
  unfold iLst
  rw [hm]
  cases d with
  | lst ys => cases h; exact ⟨_, rfl, rfl⟩
  | ref l =>
    cases z : g[l]? with
    | none => rw [lsD, snap_ref, z] at h; cases h
    | some o =>
      rw [lsD, snap_ref, z] at h
      cases o with
      | lst ds =>
        cases h
        refine ⟨.obj l, ?_, ?_⟩
        · simp only [Res.bind, z]
        · unfold srcL; simp only [z]
      | _ => cases h
  | _ => cases h
theorem fldD_e {cs : List Nat} {n : Nat} {g : G} {l c : Nat} {fs : List (Nat × D)} {d : D} (h : g[l]? = some (.ins c fs)) (hc : cs.contains c = true) (hl : lkA n fs = some d) : fldD cs n g (.ref l) = some d := by
  unfold fldD
  simp only [h, hc, hl]
theorem setA_e {cs : List Nat} {n : Nat} {o m : EM} {e : En} {g g1 g2 : G} {l c : Nat} {fs : List (Nat × D)} {y : D} (hm : m e g = .ok y g1) (ho : o e g1 = .ok (.ref l) g2) (h : g2[l]? = some (.ins c fs)) (hc : cs.contains c = true) (hl : fs.length < 1000) : sSetA cs n o m e g = .nx e (g2.set l (.ins c (putA n y fs))) := by
  unfold sSetA
  simp only [hm, sBind, ho, h, hc, Bool.true_and, decide_eq_true hl]
theorem app_e {o m : EM} {e : En} {g g1 g2 : G} {l : Nat} {ds ds' : List D} {y : D} (ho : o e g = .ok (.ref l) g1) (h1 : g1[l]? = some (.lst ds')) (hm : m e g1 = .ok y g2) (h : g2[l]? = some (.lst ds)) (hl : ds.length < 16777216) : vApp o m e g = .ok .non (g2.set l (.lst (ds ++ [y]))) := by
  unfold vApp
  simp only [ho, Res.bind, lsD_ref h1, hm, h, ltL_of hl]
@[simp] theorem isiD_non {t : Ty} {g : G} : isiD t g .non = some (.bl (Ty.non.sub t)) := rfl
@[simp] theorem isiD_bl {t : Ty} {g : G} {b : Bool} : isiD t g (.bl b) = some (.bl (Ty.bool.sub t)) := rfl
@[simp] theorem isiD_int {t : Ty} {g : G} {b : Int} : isiD t g (.int b) = some (.bl (Ty.int.sub t)) := rfl
@[simp] theorem isiD_str {t : Ty} {g : G} {b : Nat} : isiD t g (.str b) = some (.bl (Ty.str.sub t)) := rfl
@[simp] theorem isiD_tup {t : Ty} {g : G} {b : List D} : isiD t g (.tup b) = some (.bl (Ty.tuple.sub t)) := rfl
@[simp] theorem isiD_lst {t : Ty} {g : G} {b : List D} : isiD t g (.lst b) = some (.bl (Ty.list.sub t)) := rfl
theorem isiD_of {t : Ty} {g : G} {d : D} {ds : List D} (h : lsD g d = some ds) : isiD t g d = some (.bl (Ty.list.sub t)) := by
  unfold isiD tyD
  rw [snap_of h]
@[simp] theorem sub_nt : Ty.non.sub .tuple = false := rfl
@[simp] theorem sub_nl : Ty.non.sub .list = false := rfl
@[simp] theorem sub_ni : Ty.non.sub .int = false := rfl
@[simp] theorem sub_nb : Ty.non.sub .bool = false := rfl
@[simp] theorem sub_ns : Ty.non.sub .str = false := rfl
@[simp] theorem sub_bt : Ty.bool.sub .tuple = false := rfl
@[simp] theorem sub_bl : Ty.bool.sub .list = false := rfl
@[simp] theorem sub_bi : Ty.bool.sub .int = true := rfl
@[simp] theorem sub_bb : Ty.bool.sub .bool = true := rfl
@[simp] theorem sub_bs : Ty.bool.sub .str = false := rfl
@[simp] theorem sub_it : Ty.int.sub .tuple = false := rfl
@[simp] theorem sub_il : Ty.int.sub .list = false := rfl
@[simp] theorem sub_ii : Ty.int.sub .int = true := rfl
@[simp] theorem sub_ib : Ty.int.sub .bool = false := rfl
@[simp] theorem sub_is : Ty.int.sub .str = false := rfl
@[simp] theorem sub_st : Ty.str.sub .tuple = false := rfl
@[simp] theorem sub_sl : Ty.str.sub .list = false := rfl
@[simp] theorem sub_si : Ty.str.sub .int = false := rfl
@[simp] theorem sub_sb : Ty.str.sub .bool = false := rfl
@[simp] theorem sub_ss : Ty.str.sub .str = true := rfl
@[simp] theorem sub_tt : Ty.tuple.sub .tuple = true := rfl
@[simp] theorem sub_tl : Ty.tuple.sub .list = false := rfl
@[simp] theorem sub_ti : Ty.tuple.sub .int = false := rfl
@[simp] theorem sub_tb : Ty.tuple.sub .bool = false := rfl
@[simp] theorem sub_ts : Ty.tuple.sub .str = false := rfl
@[simp] theorem sub_lt : Ty.list.sub .tuple = false := rfl
@[simp] theorem sub_ll : Ty.list.sub .list = true := rfl
@[simp] theorem sub_li : Ty.list.sub .int = false := rfl
@[simp] theorem sub_lb : Ty.list.sub .bool = false := rfl
@[simp] theorem sub_ls : Ty.list.sub .str = false := rfl
@[simp] theorem sRaise_e {c : Nat} {e : En} {g : G} : sRaise c e g = .exn c e g := rfl
@[simp] theorem endM_exn {c : Nat} {e : En} {g : G} : endM (.exn c e g) = .exn c g := rfl
@[simp] theorem sCat_e {c : Nat} {m : SM} {e : En} {g : G} : sCat c m e g = (match m e g with
  | .exn c' _ g' => if c' = c then .rt (.lst [.bl true]) g' else .stuck
  | r => r) := rfl
@[simp] theorem negD_int {g : G} {i : Int} : negD g (.int i) = some (.int (-i)) := rfl
theorem deqs_refl : ∀ (ds : List D), (∀ d ∈ ds, deq d d = true) → deqs ds ds = true
  | [], _ => by simp
  | d :: ds, h => by simp [h d List.mem_cons_self, deqs_refl ds fun x hx => h x (List.mem_cons_of_mem _ hx)]
theorem deq_refl : ∀ (n : Nat) (d : D), pud n d = true → deq d d = true
  | 0, d, h => by cases d <;> simp_all [pud]
  | n + 1, d, h => by
    cases d with
    | tup ds =>
      rw [pud_tup, List.all_eq_true] at h
      rw [deq_tup]
      exact deqs_refl ds fun x hx => deq_refl n x (h x hx)
    | lst ds =>
      rw [pud_lst, List.all_eq_true] at h
      rw [deq_lst]
      exact deqs_refl ds fun x hx => deq_refl n x (h x hx)
    | scr _ => cases h
    | ref _ => cases h
    | rng _ _ => cases h
    | dic _ _ => cases h
    | _ => simp
theorem eq_same {g : G} {x y d : D} (hx : snap g x = d) (hy : snap g y = d) (h : pud 8 d = true) : eqD g x y = some (.bl true) := by
  rw [eqD_e (by rw [hx, hy, h]; rfl), hx, hy, deq_refl 8 d h]
theorem ne_same {g : G} {x y d : D} (hx : snap g x = d) (hy : snap g y = d) (h : pud 8 d = true) : neD g x y = some (.bl false) := by
  rw [neD_e (by rw [hx, hy, h]; rfl), hx, hy, deq_refl 8 d h]
  rfl
theorem pud_mono : ∀ (n : Nat) (d : D), pud n d = true → pud (n + 1) d = true
  | 0, d, h => by cases d <;> simp_all [pud]
  | n + 1, d, h => by
    cases d with
    | tup ds =>
      rw [pud_tup, List.all_eq_true] at h ⊢
      exact fun x hx => pud_mono n x (h x hx)
    | lst ds =>
      rw [pud_lst, List.all_eq_true] at h ⊢
      exact fun x hx => pud_mono n x (h x hx)
    | scr _ => cases h
    | ref _ => cases h
    | rng _ _ => cases h
    | dic _ _ => cases h
    | _ => simp
theorem all_pud {α : Type} {n : Nat} {f : α → D} (xs : List α) (h : ∀ x, pud n (f x) = true) : (xs.map f).all (pud n) = true := by
  rw [List.all_eq_true]
  intro d hd
  obtain ⟨x, _, rfl⟩ := List.mem_map.mp hd
  exact h x
theorem okL_e {n : Nat} (h : n < 16777216) : okL n = true := okL_of (by omega)
/-- a comprehension over range(n) -/
theorem lcR_rng {gm : GM} {t : TM} {m : EM} {e : En} {g : G} (n : Nat) (p : Nat → Bool) (f : Nat → D) (hn : n ≤ 1000000) (h : ∀ i, i < n → ∃ e', gm (.int (i : Int)) g e = some e' ∧ t e' g = .ok (p i) g ∧ (p i = true → m e' g = .ok (f i) g)) :
    lcR gm t m (.vals (rngL 0 n)) e g = .ok (((List.range n).filter p).map f) g := by
  have := lcR_pure (gm := gm) (t := t) (m := m) (e := e) (g := g) (s := .vals (rngL 0 n)) (fun i : Nat => D.int (0 + (i : Int))) p f (List.range n) rfl (okL_of (by simp; omega)) (fun i hi => by
    obtain ⟨e', h1, h2, h3⟩ := h i (List.mem_range.mp hi)
    exact ⟨e', by rw [Int.zero_add]; exact h1, h2, h3⟩)
  exact this
theorem cut1 (xs : List D) : cutD xs (some 1) none = xs.drop 1 := by
  unfold cutD
  have e1 : HT.sIx xs.length 0 (some 1) = min 1 xs.length := HT.sIx_nat xs.length 0 1
  have e2 : HT.sIx xs.length xs.length none = xs.length := HT.sIx_none _ _
  rw [e1, e2, List.take_of_length_le (by simp)]
  cases xs with
  | nil => rfl
  | cons x xs => simp [Nat.min_eq_left]
@[simp] theorem bls_nil : bls [] = some [] := rfl
@[simp] theorem bls_cons {b : Bool} {r : List D} : bls (.bl b :: r) = (bls r).map (b :: ·) := rfl
theorem bls_map : ∀ bs : List Bool, bls (bs.map D.bl) = some bs
  | [] => rfl
  | b :: bs => by simp [bls_map bs]
theorem allD_e {g : G} {bs : List Bool} : allD g [.lst (bs.map D.bl)] = some (.bl (bs.all id)) := by
  unfold allD
  simp only [lsD_lst, bls_map]
  rfl
theorem anyD_e {g : G} {bs : List Bool} : anyD g [.lst (bs.map D.bl)] = some (.bl (bs.any id)) := by
  unfold anyD
  simp only [lsD_lst, bls_map]
  rfl
/-! #### running by simp -/
theorem seq_rng {im : IM} {gm : GM} {b m : SM} {e : En} {g : G} {n : Nat} {Q : SR → Prop} (P : Nat → En → G → Prop) (hi : im e g = .ok (.vals (rngL 0 n)) g) (h0 : P 0 e g)
    (hs : ∀ j e g, j < n → P j e g → ∃ e', gm (.int (j : Int)) g e = some e' ∧ StepOK (b e' g) (P (j + 1)) (fun r => Q (match r with
    | .nx e' g' => m e' g'
    | r => r))) (hd : ∀ e g, P n e g → Q (m e g)) : Q (sSeq (sFor im gm b) m e g) := by
  simp only [sSeq_e, sFor_e, hi, sBind, runS]
  exact for_rng (Q := fun r => Q (match r with
    | .nx e' g' => m e' g'
    | r => r)) P h0 hs hd
theorem rng_of {m : EM} {e : En} {g : G} {n : Nat} (h : m e g = .ok (.int (n : Int)) g) (hn : n ≤ 1000000) : iRng1 m e g = .ok (.vals (rngL 0 n)) g := by
  have := for_rng1 h (by omega) (by omega)
  simpa using this
theorem atI_mem {ds : List D} {i : Int} (h0 : 0 ≤ i) (h1 : i < ds.length) : ∃ d, atI ds i = some d ∧ d ∈ ds := by
  obtain ⟨n, rfl⟩ := Int.eq_ofNat_of_zero_le h0
  have h2 : n < ds.length := by omega
  exact ⟨_, atI_nat (List.getElem?_eq_getElem h2), List.getElem_mem h2⟩
theorem neD_u {g : G} {x y : D} : neD g x y = (match pud 8 (snap g x) && pud 8 (snap g y) with
  | true => some (.bl (!deq (snap g x) (snap g y)))
  | false => none) := rfl
theorem eqD_u {g : G} {x y : D} : eqD g x y = (match pud 8 (snap g x) && pud 8 (snap g y) with
  | true => some (.bl (deq (snap g x) (snap g y)))
  | false => none) := rfl
theorem make_e {c : Nat} {mf : MF} {a : AM} {e : En} {g g1 g2 : G} {ds : List D} (ha : a e g = .ok ds g1) (hm : mf (.ref g1.length :: ds) (g1 ++ [.ins c []]) = .ok .non g2) : vMake c mf a e g = .ok (.ref g1.length) g2 := by
  unfold vMake
  simp only [ha, Res.bind, hm]
theorem okL_s {n : Nat} (h : n < 1000) : okL n = true := okL_of (by omega)
theorem vTup_s {ms : AM} {e : En} {g : G} : vTup ms e g = (ms e g).bind fun ds g1 => match okL ds.length with
  | true => .ok (.tup ds) g1
  | false => .stuck := rfl
theorem vLst_s {ms : AM} {e : En} {g : G} : vLst ms e g = (ms e g).bind fun ds g1 => match okL ds.length with
  | true => .ok (.lst ds) g1
  | false => .stuck := rfl
theorem fnM_s {n N : Nat} {m : SM} {ds : List D} {g : G} : fnM n N m ds g = if ds.length = n then endM (m (ds.map some ++ List.replicate (N - ds.length) none) g) else .stuck := rfl
theorem ne_int {g : G} {i j : Int} : neD g (.int i) (.int j) = some (.bl (!(i == j))) := by rw [neD_e (by simp)]; simp
theorem eq_int {g : G} {i j : Int} : eqD g (.int i) (.int j) = some (.bl (i == j)) := by rw [eqD_e (by simp)]; simp
theorem eq_str {g : G} {i j : Nat} : eqD g (.str i) (.str j) = some (.bl (i == j)) := by rw [eqD_e (by simp)]; simp
theorem ne_str {g : G} {i j : Nat} : neD g (.str i) (.str j) = some (.bl (!(i == j))) := by rw [neD_e (by simp)]; simp
theorem ne_bl {g : G} {i j : Bool} : neD g (.bl i) (.bl j) = some (.bl (!(i == j))) := by rw [neD_e (by simp)]; simp
theorem eq_bl {g : G} {i j : Bool} : eqD g (.bl i) (.bl j) = some (.bl (i == j)) := by rw [eqD_e (by simp)]; simp
theorem at0 {a : D} {r : List D} : atI (a :: r) 0 = some a := atI_nat (j := 0) rfl
theorem at1 {a b : D} {r : List D} : atI (a :: b :: r) 1 = some b := atI_nat (j := 1) rfl
theorem at2 {a b c : D} {r : List D} : atI (a :: b :: c :: r) 2 = some c := atI_nat (j := 2) rfl
theorem at3 {a b c d : D} {r : List D} : atI (a :: b :: c :: d :: r) 3 = some d := atI_nat (j := 3) rfl
theorem at4 {a b c d e : D} {r : List D} : atI (a :: b :: c :: d :: e :: r) 4 = some e := atI_nat (j := 4) rfl
theorem pud_le {n k : Nat} {d : D} (h : n ≤ k) (q : pud n d = true) : pud k d = true := by
  induction h with
  | refl => exact q
  | step _ ih => exact pud_mono _ _ ih
theorem ne_ni {g : G} {j : Int} : neD g .non (.int j) = some (.bl true) := by rw [neD_e (by simp)]; simp [deq]
@[simp] theorem tsub_non_non : Ty.sub .non .non = true := rfl
@[simp] theorem tsub_non_bool : Ty.sub .non .bool = false := rfl
@[simp] theorem tsub_non_int : Ty.sub .non .int = false := rfl
@[simp] theorem tsub_non_str : Ty.sub .non .str = false := rfl
@[simp] theorem tsub_non_tuple : Ty.sub .non .tuple = false := rfl
@[simp] theorem tsub_non_list : Ty.sub .non .list = false := rfl
@[simp] theorem tsub_bool_non : Ty.sub .bool .non = false := rfl
@[simp] theorem tsub_bool_bool : Ty.sub .bool .bool = true := rfl
@[simp] theorem tsub_bool_int : Ty.sub .bool .int = true := rfl
@[simp] theorem tsub_bool_str : Ty.sub .bool .str = false := rfl
@[simp] theorem tsub_bool_tuple : Ty.sub .bool .tuple = false := rfl
@[simp] theorem tsub_bool_list : Ty.sub .bool .list = false := rfl
@[simp] theorem tsub_int_non : Ty.sub .int .non = false := rfl
@[simp] theorem tsub_int_bool : Ty.sub .int .bool = false := rfl
@[simp] theorem tsub_int_int : Ty.sub .int .int = true := rfl
@[simp] theorem tsub_int_str : Ty.sub .int .str = false := rfl
@[simp] theorem tsub_int_tuple : Ty.sub .int .tuple = false := rfl
@[simp] theorem tsub_int_list : Ty.sub .int .list = false := rfl
@[simp] theorem tsub_str_non : Ty.sub .str .non = false := rfl
@[simp] theorem tsub_str_bool : Ty.sub .str .bool = false := rfl
@[simp] theorem tsub_str_int : Ty.sub .str .int = false := rfl
@[simp] theorem tsub_str_str : Ty.sub .str .str = true := rfl
@[simp] theorem tsub_str_tuple : Ty.sub .str .tuple = false := rfl
@[simp] theorem tsub_str_list : Ty.sub .str .list = false := rfl
@[simp] theorem tsub_tuple_non : Ty.sub .tuple .non = false := rfl
@[simp] theorem tsub_tuple_bool : Ty.sub .tuple .bool = false := rfl
@[simp] theorem tsub_tuple_int : Ty.sub .tuple .int = false := rfl
@[simp] theorem tsub_tuple_str : Ty.sub .tuple .str = false := rfl
@[simp] theorem tsub_tuple_tuple : Ty.sub .tuple .tuple = true := rfl
@[simp] theorem tsub_tuple_list : Ty.sub .tuple .list = false := rfl
@[simp] theorem tsub_list_non : Ty.sub .list .non = false := rfl
@[simp] theorem tsub_list_bool : Ty.sub .list .bool = false := rfl
@[simp] theorem tsub_list_int : Ty.sub .list .int = false := rfl
@[simp] theorem tsub_list_str : Ty.sub .list .str = false := rfl
@[simp] theorem tsub_list_tuple : Ty.sub .list .tuple = false := rfl
@[simp] theorem tsub_list_list : Ty.sub .list .list = true := rfl
end Y

set_option Elab.async false
set_option linter.all false
set_option maxRecDepth 100000
set_option maxHeartbeats 4000000
namespace Z
open PySem PySem.Spec PyProof.Rows L2 Y
/-! ### the text by places (printed by gen.py) -/
def top (i : Nat) : Stmt := PySem.Challenge.pw_frametally_k08_whole_invalidations.main.body.getD i (.Pass ⟨0, 0, 0, 0⟩)
def s_Buffer_entries : Stmt := inClass (top 21) 4
def s_is_integer : Stmt := top 12
def s_is_within : Stmt := top 31
def s_Memory_check_cell : Stmt := inClass (top 34) 1
def s_Memory_peek : Stmt := inClass (top 34) 9
def s_Sizes_word : Stmt := inClass (top 32) 3
def s_Box_letters : Stmt := inClass (top 15) 3
def s__law_entries : Stmt := top 40
def s_Sizes_acknowledge : Stmt := inClass (top 32) 2
def s_Stack_value : Stmt := inClass (top 2) 5
def s_Stack_ended : Stmt := inClass (top 2) 4
def s_Invalidating_accept : Stmt := inClass (top 18) 2
def s_Stack_pass_on : Stmt := inClass (top 2) 2
def s_Invalidating_request : Stmt := inClass (top 18) 1
def s_Stack_settle : Stmt := inClass (top 2) 1
def s_Sizes_frame_cell : Stmt := inClass (top 32) 4
def s_Buffer_frame_for : Stmt := inClass (top 21) 2
def s_Memory_use : Stmt := inClass (top 34) 8
def s_Buffer_drop : Stmt := inClass (top 21) 3
def s_Buffer_put : Stmt := inClass (top 21) 1
def s_Box_take : Stmt := inClass (top 15) 2
def s_Owners_is_free : Stmt := inClass (top 7) 1
def s_Owners_take : Stmt := inClass (top 7) 3
def s_Memory_take : Stmt := inClass (top 34) 7
def s_Memory_cell_result : Stmt := inClass (top 34) 6
def s_Memory_result : Stmt := inClass (top 34) 5
def s_is_pair : Stmt := top 13
def s_is_letter : Stmt := top 14
def s_Box_send : Stmt := inClass (top 15) 1
def s_Memory_check_page : Stmt := inClass (top 34) 3
def s_Memory_check_request : Stmt := inClass (top 34) 2
def s_Memory_access : Stmt := inClass (top 34) 4
def s_Stack_step : Stmt := inClass (top 2) 3
def s__law_other : Stmt := top 39
def s__law_at : Stmt := top 37
def s__law_run : Stmt := top 42
def s_Stack___init__ : Stmt := inClass (top 2) 0
def s_Kernel_next_ticket : Stmt := inClass (top 17) 3
def s_Invalidating___init__ : Stmt := inClass (top 18) 0
def s__law_word : Stmt := top 38
def s__law_change : Stmt := top 41
def s_Hand___init__ : Stmt := inClass (top 8) 0
def s_Owners___init__ : Stmt := inClass (top 7) 0
def s_Kernel___init__ : Stmt := inClass (top 17) 0
def s_Box___init__ : Stmt := inClass (top 15) 0
def s_Buffer___init__ : Stmt := inClass (top 21) 0
def s_first_values : Stmt := top 33
def s_Memory___init__ : Stmt := inClass (top 34) 0
def s_Sizes___init__ : Stmt := inClass (top 32) 0
def s__law_tape : Stmt := top 36
def s_law : Stmt := top 43
/-! ### what each def computes -/
def b_Buffer_entries : SM := (sRet (vListO (aCons (vFld [3, 2, 5] 0 (vVar 0)) aNil)))
def m_Buffer_entries : MF := fnM 1 1 b_Buffer_entries
def b_is_integer : SM := (sRet (vAnd (vUn (isiD .int) (vVar 0)) (vNot (vUn (isiD .bool) (vVar 0)))))
def m_is_integer : MF := fnM 1 1 b_is_integer
def b_is_within : SM := (sRet (vAnd (vCall m_is_integer (aCons (vVar 0) aNil)) (vChain leD leD (vVar 1) (vVar 0) (vVar 2))))
def m_is_within : MF := fnM 3 3 b_is_within
def b_Memory_check_cell : SM := (sIf (tNot (tTru (vCall m_is_within (aCons (vVar 1) (aCons (vC (.int 0)) (aCons (vOp subD (vCB lenD (aCons (vFld [5] 1 (vVar 0)) aNil)) (vC (.int 1))) aNil)))))) (sRaise 1) sNx)
def m_Memory_check_cell : MF := fnM 2 2 b_Memory_check_cell
def b_Memory_peek : SM := (sSeq (sDrop (vMeth 28 [(5, m_Memory_check_cell)] (vVar 0) (aCons (vVar 1) aNil))) (sRet (vOp ixD (vFld [5] 1 (vVar 0)) (vVar 1))))
def m_Memory_peek : MF := fnM 2 2 b_Memory_peek
def b_Sizes_word : SM := (sRet (vOp addD (vOp addD (vOp addD (vC (.int 1)) (vFld [4] 4 (vVar 0))) (vOp mulD (vC (.int 8)) (vVar 1))) (vVar 2)))
def m_Sizes_word : MF := fnM 3 3 b_Sizes_word
def b_Box_letters : SM := (sRet (vListO (aCons (vFld [3, 2, 5] 0 (vVar 0)) aNil)))
def m_Box_letters : MF := fnM 1 1 b_Box_letters
/-- the loop of line 393 -/
def c__law_entries_1 : SM := (sSeq (sIf (tOf (vOp neD (vMeth 41 [(3, m_Box_letters)] (vOp ixD (vFld [5] 8 (vVar 0)) (vVar 3)) aNil) (vLst aNil))) (sRet (vC (.bl false))) sNx) (sFor (iLst (vMeth 42 [(2, m_Buffer_entries)] (vOp ixD (vFld [5] 7 (vVar 0)) (vVar 3)) aNil)) (gN 4) (sIf (tOf (vOp (inD false) (vSl (vVar 4) none (some (vC (.int 2)))) (vVar 2))) (sSeq (sAsg 5 (vMeth 35 [(5, m_Memory_peek)] (vVar 0) (aCons (vMeth 25 [(4, m_Sizes_word)] (vFld [9, 10, 5] 2 (vVar 0)) (aCons (vOp ixD (vVar 4) (vC (.int 0))) (aCons (vOp ixD (vVar 4) (vC (.int 1))) aNil))) aNil))) (sIf (tOf (vOp neD (vVar 5) (vTup (aCons (vC (.str 18)) (aCons (vOp ixD (vVar 4) (vC (.int 2))) (aCons (vOp ixD (vVar 4) (vC (.int 3))) aNil)))))) (sRet (vC (.bl false))) sNx)) sNx)))
def b__law_entries : SM := (sSeq (sFor (iRng1 (vVar 1)) (gN 3) c__law_entries_1) (sRet (vC (.bl true))))
def m__law_entries : MF := fnM 3 6 b__law_entries
def b_Sizes_acknowledge : SM := (sRet (vOp addD (vC (.int 1)) (vVar 1)))
def m_Sizes_acknowledge : MF := fnM 2 2 b_Sizes_acknowledge
def b_Stack_value : SM := (sRet (vFld [6] 32 (vVar 0)))
def m_Stack_value : MF := fnM 1 1 b_Stack_value
def b_Stack_ended : SM := (sRet (vOp eqD (vCB lenD (aCons (vFld [6] 46 (vVar 0)) aNil)) (vC (.int 0))))
def m_Stack_ended : MF := fnM 1 1 b_Stack_ended
def b_Invalidating_accept : SM := (sSeq (sSetA [10] 54 (vVar 0) (vOp ixD (vVar 1) (vC (.int 1)))) (sIf (tTru (vFld [10] 51 (vVar 0))) (sSetA [10] 51 (vVar 0) (vSl (vFld [10] 51 (vVar 0)) (some (vC (.int 1))) none)) (sIf (tOf (vOp eqD (vOp ixD (vVar 1) (vC (.int 0))) (vOp ixD (vFld [10] 52 (vVar 0)) (vC (.int 0))))) (sSetA [10] 53 (vVar 0) (vSl (vFld [10] 53 (vVar 0)) (some (vC (.int 1))) none)) sNx)))
def m_Invalidating_accept : MF := fnM 2 2 b_Invalidating_accept
def b_Stack_pass_on : SM := (sIf (tTru (vFld [6] 46 (vVar 0))) (sDrop (vMeth 50 [(10, m_Invalidating_accept)] (vOp ixD (vFld [6] 46 (vVar 0)) (vUn negD (vC (.int 1)))) (aCons (vVar 1) aNil))) (sSetA [6] 32 (vVar 0) (vVar 1)))
def m_Stack_pass_on : MF := fnM 2 2 b_Stack_pass_on
/-- line 186 -/
def c_Invalidating_request_1 : SM := (sRet (vTup (aCons (vC (.str 20)) (aCons (vFld [10] 54 (vVar 0)) aNil))))
/-- line 184 on -/
def c_Invalidating_request_2 : SM := (sSeq (sIf (tTru (vFld [10] 53 (vVar 0))) (sRet (vTup (aCons (vC (.str 9)) (aCons (vMeth 26 [(4, m_Sizes_acknowledge)] (vFld [9, 10, 5] 2 (vVar 0)) (aCons (vOp ixD (vFld [10] 53 (vVar 0)) (vC (.int 0))) aNil)) aNil)))) sNx) c_Invalidating_request_1)
def b_Invalidating_request : SM := (sSeq (sIf (tTru (vFld [10] 51 (vVar 0))) (sRet (vTup (aCons (vC (.str 12)) (aCons (vOp ixD (vFld [10] 51 (vVar 0)) (vC (.int 0))) (aCons (vFld [10] 52 (vVar 0)) aNil))))) sNx) c_Invalidating_request_2)
def m_Invalidating_request : MF := fnM 1 1 b_Invalidating_request
/-- the loop of line 13 -/
def c_Stack_settle_1 : SM := (sSeq (sAsg 1 (vMeth 55 [(10, m_Invalidating_request)] (vOp ixD (vFld [6] 46 (vVar 0)) (vUn negD (vC (.int 1)))) aNil)) (sIf (tOf (vOp eqD (vOp ixD (vVar 1) (vC (.int 0))) (vC (.str 21)))) (sDrop (vApp (vFld [6] 46 (vVar 0)) (vOp ixD (vVar 1) (vC (.int 1))))) (sIf (tOf (vOp eqD (vOp ixD (vVar 1) (vC (.int 0))) (vC (.str 20)))) (sSeq (sDrop (vPop0 (vFld [6] 46 (vVar 0)))) (sDrop (vMeth 49 [(6, m_Stack_pass_on)] (vVar 0) (aCons (vOp ixD (vVar 1) (vC (.int 1))) aNil)))) (sRet (vC .non)))))
def b_Stack_settle : SM := (loopW (tTru (vFld [6] 46 (vVar 0))) c_Stack_settle_1 100000)
def m_Stack_settle : MF := fnM 1 2 b_Stack_settle
def b_Sizes_frame_cell : SM := (sRet (vOp addD (vOp addD (vOp addD (vOp addD (vC (.int 1)) (vFld [4] 4 (vVar 0))) (vOp mulD (vC (.int 4)) (vC (.int 8)))) (vOp mulD (vC (.int 2)) (vVar 1))) (vVar 2)))
def m_Sizes_frame_cell : MF := fnM 3 3 b_Sizes_frame_cell
def b_Buffer_frame_for : SM := (sSeq (sFor (iLst (vFld [3, 2, 5] 0 (vVar 0))) (gN 4) (sIf (tAnd (tOf (vOp eqD (vSl (vVar 4) none (some (vC (.int 2)))) (vTup (aCons (vVar 1) (aCons (vVar 2) aNil))))) (tOr (tTru (vOp ixD (vVar 4) (vC (.int 3)))) (tNot (tTru (vVar 3))))) (sRet (vOp ixD (vVar 4) (vC (.int 2)))) sNx)) (sRet (vC .non)))
def m_Buffer_frame_for : MF := fnM 4 5 b_Buffer_frame_for
/-- line 355 -/
def c_Memory_use_1 : SM := (sRet (vTup (aCons (vC (.str 19)) aNil)))
/-- line 354 on -/
def c_Memory_use_2 : SM := (sSeq (sSub (vFld [5] 1 (vVar 0)) (vVar 5) (vOp ixD (vVar 2) (vC (.int 5)))) c_Memory_use_1)
/-- line 352 on -/
def c_Memory_use_3 : SM := (sSeq (sIf (tOf (vOp neD (vOp ixD (vFld [5] 1 (vVar 0)) (vVar 5)) (vOp ixD (vVar 2) (vC (.int 4))))) (sRet (vTup (aCons (vOp ixD (vFld [5] 1 (vVar 0)) (vVar 5)) aNil))) sNx) c_Memory_use_2)
/-- line 349 on -/
def c_Memory_use_4 : SM := (sSeq (sIf (tOf (vOp eqD (vVar 3) (vC (.str 16)))) (sSeq (sSub (vFld [5] 1 (vVar 0)) (vVar 5) (vOp ixD (vVar 2) (vC (.int 4)))) (sRet (vC (.bl true)))) sNx) c_Memory_use_3)
/-- line 347 on -/
def c_Memory_use_5 : SM := (sSeq (sIf (tOf (vOp eqD (vVar 3) (vC (.str 15)))) (sRet (vTup (aCons (vOp ixD (vFld [5] 1 (vVar 0)) (vVar 5)) aNil))) sNx) c_Memory_use_4)
/-- line 346 on -/
def c_Memory_use_6 : SM := (sSeq (sAsg 5 (vMeth 27 [(4, m_Sizes_frame_cell)] (vFld [9, 10, 5] 2 (vVar 0)) (aCons (vVar 4) (aCons (vOp ixD (vVar 2) (vC (.int 3))) aNil)))) c_Memory_use_5)
/-- line 344 on -/
def c_Memory_use_7 : SM := (sSeq (sIf (tOf (vOp isN (vVar 4) (vC .non))) (sRet (vIf (tOf (vOp eqD (vVar 3) (vC (.str 16)))) (vC (.bl false)) (vC .non))) sNx) c_Memory_use_6)
/-- line 343 on -/
def c_Memory_use_8 : SM := (sSeq (sAsg 4 (vMeth 24 [(2, m_Buffer_frame_for)] (vOp ixD (vFld [5] 7 (vVar 0)) (vVar 1)) (aCons (vOp ixD (vVar 2) (vC (.int 1))) (aCons (vOp ixD (vVar 2) (vC (.int 2))) (aCons (vOp neD (vVar 3) (vC (.str 15))) aNil))))) c_Memory_use_7)
def b_Memory_use : SM := (sSeq (sAsg 3 (vOp ixD (vVar 2) (vC (.int 0)))) c_Memory_use_8)
def m_Memory_use : MF := fnM 3 6 b_Memory_use
def b_Buffer_drop : SM := (sSetA [3, 2, 5] 0 (vVar 0) (vLcO [2] (iLst (vFld [3, 2, 5] 0 (vVar 0))) (gN 2) (tOf (vOp (inD true) (vSl (vVar 2) none (some (vC (.int 2)))) (vVar 1))) (vVar 2)))
def m_Buffer_drop : MF := fnM 2 3 b_Buffer_drop
/-- line 205 -/
def c_Buffer_put_1 : SM := (sSetA [3, 2, 5] 0 (vVar 0) (vSl (vFld [3, 2, 5] 0 (vVar 0)) (some (vUn negD (vC (.int 2)))) none))
/-- line 203 on -/
def c_Buffer_put_2 : SM := (sSeq (sIf (tAnd (tOf (vOp notN (vVar 3) (vC .non))) (tOf (vOp eqD (vOp ixD (vVar 3) (vC (.int 0))) (vC (.str 18))))) (sDrop (vApp (vFld [3, 2, 5] 0 (vVar 0)) (vTup (aCons (vVar 1) (aCons (vVar 2) (aCons (vOp ixD (vVar 3) (vC (.int 1))) (aCons (vOp ixD (vVar 3) (vC (.int 2))) aNil))))))) sNx) c_Buffer_put_1)
def b_Buffer_put : SM := (sSeq (sDrop (vMeth 23 [(2, m_Buffer_drop)] (vVar 0) (aCons (vLst (aCons (vTup (aCons (vVar 1) (aCons (vVar 2) aNil))) aNil)) aNil))) c_Buffer_put_2)
def m_Buffer_put : MF := fnM 4 4 b_Buffer_put
/-- line 136 -/
def c_Box_take_1 : SM := (sRet (vVar 1))
/-- line 135 on -/
def c_Box_take_2 : SM := (sSeq (sSetA [3, 2, 5] 0 (vVar 0) (vSlO (vFld [3, 2, 5] 0 (vVar 0)) (some (vC (.int 1))) none)) c_Box_take_1)
/-- line 134 on -/
def c_Box_take_3 : SM := (sSeq (sAsg 1 (vOp ixD (vFld [3, 2, 5] 0 (vVar 0)) (vC (.int 0)))) c_Box_take_2)
def b_Box_take : SM := (sSeq (sIf (tNot (tTru (vFld [3, 2, 5] 0 (vVar 0)))) (sRet (vC .non)) sNx) c_Box_take_3)
def m_Box_take : MF := fnM 1 2 b_Box_take
def b_Owners_is_free : SM := (sRet (vAnd (vOp eqD (vCB lenD (aCons (vOp ixD (vFld [7] 59 (vVar 0)) (vVar 1)) aNil)) (vC (.int 0))) (vOp (inD true) (vVar 1) (vFld [7] 58 (vVar 0)))))
def m_Owners_is_free : MF := fnM 2 2 b_Owners_is_free
def b_Owners_take : SM := (sSeq (sFor (iRng1 (vFld [7, 8] 56 (vVar 0))) (gN 1) (sIf (tTru (vMeth 57 [(7, m_Owners_is_free)] (vVar 0) (aCons (vVar 1) aNil))) (sSeq (sDrop (vApp (vFld [7] 58 (vVar 0)) (vVar 1))) (sRet (vVar 1))) sNx)) (sRet (vC .non)))
def m_Owners_take : MF := fnM 1 2 b_Owners_take
/-- line 339 -/
def c_Memory_take_1 : SM := (sRet (vC (.bl true)))
/-- line 338 on -/
def c_Memory_take_2 : SM := (sSeq (sSub (vFld [5] 1 (vVar 0)) (vMeth 26 [(4, m_Sizes_acknowledge)] (vFld [9, 10, 5] 2 (vVar 0)) (aCons (vVar 1) aNil)) (vVar 3)) c_Memory_take_1)
/-- line 337 on -/
def c_Memory_take_3 : SM := (sSeq (sDrop (vMeth 23 [(2, m_Buffer_drop)] (vOp ixD (vFld [5] 7 (vVar 0)) (vVar 1)) (aCons (vVar 4) aNil))) c_Memory_take_2)
/-- line 336 on -/
def c_Memory_take_4 : SM := (sSeq (sTgt (vVar 2) (gT 2 (gsC (gN 3) (gsC (gN 4) gsN)))) c_Memory_take_3)
/-- line 334 on -/
def c_Memory_take_5 : SM := (sSeq (sIf (tOf (vOp isN (vVar 2) (vC .non))) (sRet (vC (.bl false))) sNx) c_Memory_take_4)
def b_Memory_take : SM := (sSeq (sAsg 2 (vMeth 13 [(7, m_Owners_take), (3, m_Box_take)] (vOp ixD (vFld [5] 8 (vVar 0)) (vVar 1)) aNil)) c_Memory_take_5)
def m_Memory_take : MF := fnM 2 5 b_Memory_take
/-- line 330 -/
def c_Memory_cell_result_1 : SM := (sRet (vC (.bl true)))
/-- line 329 on -/
def c_Memory_cell_result_2 : SM := (sSeq (sSub (vFld [5] 1 (vVar 0)) (vVar 2) (vOp ixD (vVar 1) (vC (.int 3)))) c_Memory_cell_result_1)
/-- line 327 on -/
def c_Memory_cell_result_3 : SM := (sSeq (sIf (tOf (vOp neD (vOp ixD (vFld [5] 1 (vVar 0)) (vVar 2)) (vOp ixD (vVar 1) (vC (.int 2))))) (sRet (vC (.bl false))) sNx) c_Memory_cell_result_2)
/-- line 324 on -/
def c_Memory_cell_result_4 : SM := (sSeq (sIf (tOf (vOp eqD (vOp ixD (vVar 1) (vC (.int 0))) (vC (.str 10)))) (sSeq (sSub (vFld [5] 1 (vVar 0)) (vVar 2) (vOp ixD (vVar 1) (vC (.int 2)))) (sRet (vC .non))) sNx) c_Memory_cell_result_3)
/-- line 322 on -/
def c_Memory_cell_result_5 : SM := (sSeq (sIf (tOf (vOp eqD (vOp ixD (vVar 1) (vC (.int 0))) (vC (.str 9)))) (sRet (vOp ixD (vFld [5] 1 (vVar 0)) (vVar 2))) sNx) c_Memory_cell_result_4)
def b_Memory_cell_result : SM := (sSeq (sAsg 2 (vOp ixD (vVar 1) (vC (.int 1)))) c_Memory_cell_result_5)
def m_Memory_cell_result : MF := fnM 2 3 b_Memory_cell_result
/-- line 318 -/
def c_Memory_result_1 : SM := (sRet (vMeth 34 [(5, m_Memory_use)] (vVar 0) (aCons (vVar 1) (aCons (vVar 2) aNil))))
/-- line 317 -/
def c_Memory_result_2 : SM := (sRet (vVar 4))
/-- line 316 on -/
def c_Memory_result_3 : SM := (sSeq (sDrop (vMeth 22 [(2, m_Buffer_put)] (vOp ixD (vFld [5] 7 (vVar 0)) (vVar 1)) (aCons (vOp ixD (vVar 2) (vC (.int 1))) (aCons (vOp ixD (vVar 2) (vC (.int 2))) (aCons (vVar 4) aNil))))) c_Memory_result_2)
/-- line 314 on -/
def c_Memory_result_4 : SM := (sSeq (sIf (tOf (vOp eqD (vVar 3) (vC (.str 14)))) (sSeq (sAsg 4 (vOp ixD (vFld [5] 1 (vVar 0)) (vMeth 25 [(4, m_Sizes_word)] (vFld [9, 10, 5] 2 (vVar 0)) (aCons (vOp ixD (vVar 2) (vC (.int 1))) (aCons (vOp ixD (vVar 2) (vC (.int 2))) aNil))))) c_Memory_result_3) sNx) c_Memory_result_1)
/-- line 312 on -/
def c_Memory_result_5 : SM := (sSeq (sIf (tOf (vOp eqD (vVar 3) (vC (.str 13)))) (sRet (vMeth 13 [(5, m_Memory_take)] (vVar 0) (aCons (vVar 1) aNil))) sNx) c_Memory_result_4)
/-- line 310 on -/
def c_Memory_result_6 : SM := (sSeq (sIf (tOf (vOp eqD (vVar 3) (vC (.str 12)))) (sRet (vC .non)) sNx) c_Memory_result_5)
/-- line 308 on -/
def c_Memory_result_7 : SM := (sSeq (sIf (tOf (vOp (inD false) (vVar 3) (vTup (aCons (vC (.str 9)) (aCons (vC (.str 10)) (aCons (vC (.str 11)) aNil)))))) (sRet (vMeth 33 [(5, m_Memory_cell_result)] (vVar 0) (aCons (vVar 2) aNil))) sNx) c_Memory_result_6)
def b_Memory_result : SM := (sSeq (sAsg 3 (vOp ixD (vVar 2) (vC (.int 0)))) c_Memory_result_7)
def m_Memory_result : MF := fnM 3 5 b_Memory_result
def b_is_pair : SM := (sSeq (sIf (tOr (tNot (tTru (vUn (isiD .tuple) (vVar 0)))) (tOr (tOf (vOp neD (vCB lenD (aCons (vVar 0) aNil)) (vC (.int 2)))) (tOr (tNot (tTru (vCall m_is_integer (aCons (vOp ixD (vVar 0) (vC (.int 0))) aNil)))) (tNot (tTru (vCall m_is_integer (aCons (vOp ixD (vVar 0) (vC (.int 1))) aNil))))))) (sRet (vC (.bl false))) sNx) (sRet (vAnd (vChain leD ltD (vC (.int 0)) (vOp ixD (vVar 0) (vC (.int 0))) (vC (.int 4))) (vChain leD ltD (vC (.int 0)) (vOp ixD (vVar 0) (vC (.int 1))) (vC (.int 8))))))
def m_is_pair : MF := fnM 1 1 b_is_pair
/-- line 120 -/
def c_is_letter_1 : SM := (sRet (vAnd (vUn (isiD .tuple) (vVar 1)) (vAnd (vOp gtD (vCB lenD (aCons (vVar 1) aNil)) (vC (.int 0))) (vCB allD (aCons (vLc [2] (iTup (vVar 1)) (gN 2) tYes (vCall m_is_pair (aCons (vVar 2) aNil))) aNil)))))
/-- line 119 on -/
def c_is_letter_2 : SM := (sSeq (sAsg 1 (vOp ixD (vVar 0) (vC (.int 1)))) c_is_letter_1)
def b_is_letter : SM := (sSeq (sIf (tOr (tNot (tTru (vUn (isiD .tuple) (vVar 0)))) (tOr (tOf (vOp neD (vCB lenD (aCons (vVar 0) aNil)) (vC (.int 2)))) (tOr (tNot (tTru (vCall m_is_integer (aCons (vOp ixD (vVar 0) (vC (.int 0))) aNil)))) (tOf (vOp ltD (vOp ixD (vVar 0) (vC (.int 0))) (vC (.int 1))))))) (sRet (vC (.bl false))) sNx) c_is_letter_2)
def m_is_letter : MF := fnM 1 3 b_is_letter
def b_Box_send : SM := (sSeq (sIf (tNot (tTru (vCall m_is_letter (aCons (vVar 1) aNil)))) (sRaise 1) sNx) (sDrop (vApp (vFld [3, 2, 5] 0 (vVar 0)) (vVar 1))))
def m_Box_send : MF := fnM 2 2 b_Box_send
def b_Memory_check_page : SM := (sSeq (sIf (tOr (tNot (tTru (vCall m_is_within (aCons (vOp ixD (vVar 1) (vC (.int 1))) (aCons (vC (.int 0)) (aCons (vOp subD (vC (.int 4)) (vC (.int 1))) aNil)))))) (tNot (tTru (vCall m_is_within (aCons (vOp ixD (vVar 1) (vC (.int 2))) (aCons (vC (.int 0)) (aCons (vOp subD (vC (.int 8)) (vC (.int 1))) aNil))))))) (sRaise 1) sNx) (sIf (tAnd (tOf (vOp neD (vOp ixD (vVar 1) (vC (.int 0))) (vC (.str 14)))) (tNot (tTru (vCall m_is_within (aCons (vOp ixD (vVar 1) (vC (.int 3))) (aCons (vC (.int 0)) (aCons (vOp subD (vC (.int 2)) (vC (.int 1))) aNil))))))) (sRaise 1) sNx))
def m_Memory_check_page : MF := fnM 2 2 b_Memory_check_page
/-- line 284 -/
def c_Memory_check_request_1 : SM := (sIf (tOf (vOp (inD false) (vVar 3) (vTup (aCons (vC (.str 9)) (aCons (vC (.str 10)) (aCons (vC (.str 11)) aNil)))))) (sDrop (vMeth 28 [(5, m_Memory_check_cell)] (vVar 0) (aCons (vOp ixD (vVar 2) (vC (.int 1))) aNil))) (sIf (tOf (vOp eqD (vVar 3) (vC (.str 12)))) (sIf (tNot (tTru (vCall m_is_within (aCons (vOp ixD (vVar 2) (vC (.int 1))) (aCons (vC (.int 0)) (aCons (vOp subD (vFld [4] 4 (vFld [9, 10, 5] 2 (vVar 0))) (vC (.int 1))) aNil)))))) (sRaise 1) sNx) (sIf (tOf (vOp neD (vVar 3) (vC (.str 13)))) (sDrop (vMeth 30 [(5, m_Memory_check_page)] (vVar 0) (aCons (vVar 2) aNil))) sNx)))
/-- line 283 on -/
def c_Memory_check_request_2 : SM := (sSeq (sAsg 3 (vOp ixD (vVar 2) (vC (.int 0)))) c_Memory_check_request_1)
/-- line 281 on -/
def c_Memory_check_request_3 : SM := (sSeq (sIf (tOr (tOf (vOp eqD (vCB lenD (aCons (vVar 2) aNil)) (vC (.int 0)))) (tOf (vOp neD (vDGet (vC (.dic [(.str 9), (.str 10), (.str 11), (.str 12), (.str 13), (.str 14), (.str 15), (.str 16), (.str 17)] [(.int 2), (.int 3), (.int 4), (.int 3), (.int 1), (.int 3), (.int 4), (.int 5), (.int 6)])) (aCons (vOp ixD (vVar 2) (vC (.int 0))) aNil)) (vCB lenD (aCons (vVar 2) aNil))))) (sRaise 1) sNx) c_Memory_check_request_2)
def b_Memory_check_request : SM := (sSeq (sIf (tOr (tNot (tTru (vCall m_is_within (aCons (vVar 1) (aCons (vC (.int 0)) (aCons (vOp subD (vFld [4] 4 (vFld [9, 10, 5] 2 (vVar 0))) (vC (.int 1))) aNil)))))) (tNot (tTru (vUn (isiD .tuple) (vVar 2))))) (sRaise 1) sNx) c_Memory_check_request_3)
def m_Memory_check_request : MF := fnM 3 4 b_Memory_check_request
/-- line 304 -/
def c_Memory_access_1 : SM := (sRet (vTup (aCons (vMeth 32 [(5, m_Memory_result)] (vVar 0) (aCons (vVar 1) (aCons (vVar 2) aNil))) (aCons (vFld [5] 3 (vVar 0)) aNil))))
/-- line 303 on -/
def c_Memory_access_2 : SM := (sSeq (sDrop (vApp (vFld [3, 2, 5] 0 (vVar 0)) (vTup (aCons (vFld [5] 3 (vVar 0)) (aCons (vVar 1) (aCons (vVar 2) aNil)))))) c_Memory_access_1)
/-- line 302 on -/
def c_Memory_access_3 : SM := (sSeq (sAugA [5] 3 (vVar 0) (vC (.int 1))) c_Memory_access_2)
/-- line 300 on -/
def c_Memory_access_4 : SM := (sSeq (sIf (tOf (vOp eqD (vOp ixD (vVar 2) (vC (.int 0))) (vC (.str 12)))) (sDrop (vMeth 12 [(3, m_Box_send)] (vOp ixD (vFld [5] 8 (vVar 0)) (vOp ixD (vVar 2) (vC (.int 1)))) (aCons (vOp ixD (vVar 2) (vC (.int 2))) aNil))) sNx) c_Memory_access_3)
def b_Memory_access : SM := (sSeq (sDrop (vMeth 29 [(5, m_Memory_check_request)] (vVar 0) (aCons (vVar 1) (aCons (vVar 2) aNil)))) c_Memory_access_4)
def m_Memory_access : MF := fnM 3 3 b_Memory_access
/-- line 35 -/
def c_Stack_step_1 : SM := (sRet (vC (.bl true)))
/-- line 34 on -/
def c_Stack_step_2 : SM := (sSeq (sDrop (vMeth 48 [(6, m_Stack_settle)] (vVar 0) aNil)) c_Stack_step_1)
/-- line 33 on -/
def c_Stack_step_3 : SM := (sSeq (sDrop (vMeth 50 [(10, m_Invalidating_accept)] (vVar 3) (aCons (vMeth 31 [(5, m_Memory_access)] (vVar 1) (aCons (vVar 2) (aCons (vMeth 55 [(10, m_Invalidating_request)] (vVar 3) aNil) aNil))) aNil))) c_Stack_step_2)
/-- line 32 on -/
def c_Stack_step_4 : SM := (sSeq (sAsg 3 (vOp ixD (vFld [6] 46 (vVar 0)) (vUn negD (vC (.int 1))))) c_Stack_step_3)
/-- line 30 on -/
def c_Stack_step_5 : SM := (sSeq (sIf (tNot (tTru (vFld [6] 46 (vVar 0)))) (sRet (vC (.bl false))) sNx) c_Stack_step_4)
def b_Stack_step : SM := (sSeq (sDrop (vMeth 48 [(6, m_Stack_settle)] (vVar 0) aNil)) c_Stack_step_5)
def m_Stack_step : MF := fnM 3 4 b_Stack_step
def b__law_other : SM := (sSeq (sAsg 3 (vOp modD (vVar 2) (vC (.int 5)))) (sIf (tOf (vOp ltD (vVar 3) (vC (.int 3)))) (sDrop (vMeth 31 [(5, m_Memory_access)] (vVar 0) (aCons (vVar 1) (aCons (vTup (aCons (vC (.str 14)) (aCons (vOp modD (vOp divD (vVar 2) (vC (.int 5))) (vC (.int 2))) (aCons (vOp modD (vOp divD (vVar 2) (vC (.int 10))) (vC (.int 4))) aNil)))) aNil)))) (sIf (tOf (vOp eqD (vVar 3) (vC (.int 3)))) (sDrop (vMeth 31 [(5, m_Memory_access)] (vVar 0) (aCons (vVar 1) (aCons (vTup (aCons (vC (.str 13)) aNil)) aNil)))) sNx)))
def m__law_other : MF := fnM 3 4 b__law_other
def b__law_at : SM := (sSeq (sIf (tOf (vOp ltD (vVar 1) (vCB lenD (aCons (vVar 0) aNil)))) (sRet (vOp ixD (vVar 0) (vVar 1))) sNx) (sRet (vC (.int 0))))
def m__law_at : MF := fnM 2 2 b__law_at
/-- line 427 -/
def c__law_run_1 : SM := (sRet (vTup (aCons (vVar 5) (aCons (vUn negD (vC (.int 1))) aNil))))
/-- line 421 -/
def c__law_run_2 : SM := (sIf (tTru (vMeth 45 [(6, m_Stack_ended)] (vVar 1) aNil)) (sRet (vTup (aCons (vVar 5) (aCons (vVar 6) aNil)))) sNx)
/-- line 418 on -/
def c__law_run_3 : SM := (sSeq (sIf (tTru (vVar 10)) (sSeq (sAsg 6 (vOp addD (vVar 6) (vC (.int 1)))) (sAsg 5 (vFld [5] 3 (vVar 0)))) sNx) c__law_run_2)
/-- line 416 -/
def c__law_run_4 : SM := (sIf (tOr (tOf (vOp eqD (vVar 9) (vC (.int 0)))) (tAnd (tOf (vOp gtD (vVar 7) (vC (.int 200)))) (tOf (vOp eqD (vOp modD (vVar 7) (vC (.int 3))) (vC (.int 0)))))) (sSeq (sAsg 10 (vMeth 47 [(6, m_Stack_step)] (vVar 1) (aCons (vVar 0) (aCons (vC (.int 0)) aNil)))) c__law_run_3) (sSeq (sDrop (vCall m__law_other (aCons (vVar 0) (aCons (vVar 9) (aCons (vOp divD (vVar 8) (vVar 2)) aNil))))) (sIf (tOf (vOp gtD (vVar 7) (vC (.int 100)))) (sDrop (vMeth 31 [(5, m_Memory_access)] (vVar 0) (aCons (vVar 9) (aCons (vTup (aCons (vC (.str 13)) aNil)) aNil)))) sNx)))
/-- line 415 on -/
def c__law_run_5 : SM := (sSeq (sAsg 9 (vOp modD (vVar 8) (vVar 2))) c__law_run_4)
/-- the loop of line 414 -/
def c__law_run_6 : SM := (sSeq (sAsg 8 (vOp addD (vCall m__law_at (aCons (vVar 3) (aCons (vOp addD (vVar 4) (vOp modD (vVar 7) (vC (.int 40)))) aNil))) (vOp divD (vVar 7) (vC (.int 40))))) c__law_run_5)
/-- line 413 on -/
def c__law_run_7 : SM := (sSeq (sFor (iRng1 (vC (.int 400))) (gN 7) c__law_run_6) c__law_run_1)
/-- line 412 on -/
def c__law_run_8 : SM := (sSeq (sAsg 6 (vC (.int 0))) c__law_run_7)
def b__law_run : SM := (sSeq (sAsg 5 (vC .non)) c__law_run_8)
def m__law_run : MF := fnM 5 11 b__law_run
def b_Stack___init__ : SM := (sSeq (sSetA [6] 46 (vVar 0) (vLstO (aCons (vVar 1) aNil))) (sSetA [6] 32 (vVar 0) (vC .non)))
def m_Stack___init__ : MF := fnM 2 2 b_Stack___init__
def b_Kernel_next_ticket : SM := (sSeq (sAugA [9] 43 (vVar 0) (vC (.int 1))) (sRet (vFld [9] 43 (vVar 0))))
def m_Kernel_next_ticket : MF := fnM 1 1 b_Kernel_next_ticket
/-- line 179 -/
def c_Invalidating___init___1 : SM := (sSetA [10] 53 (vVar 0) (vCB listD (aCons (vFld [10] 51 (vVar 0)) aNil)))
/-- line 178 on -/
def c_Invalidating___init___2 : SM := (sSeq (sSetA [10] 51 (vVar 0) (vLc [4] (iRng1 (vFld [4] 4 (vFld [9, 10, 5] 2 (vVar 0)))) (gN 4) (tOf (vOp neD (vVar 4) (vVar 2))) (vVar 4))) c_Invalidating___init___1)
/-- line 177 on -/
def c_Invalidating___init___3 : SM := (sSeq (sSetA [10] 52 (vVar 0) (vTup (aCons (vMeth 60 [(9, m_Kernel_next_ticket)] (vVar 1) aNil) (aCons (vCB tupleD (aCons (vVar 3) aNil)) aNil)))) c_Invalidating___init___2)
/-- line 175 -/
def c_Invalidating___init___4 : SM := (sIf (tTru (vVar 3)) (sSeq (sDrop (vMeth 23 [(2, m_Buffer_drop)] (vOp ixD (vFld [5] 7 (vFld [9] 61 (vVar 1))) (vVar 2)) (aCons (vCB listD (aCons (vVar 3) aNil)) aNil))) c_Invalidating___init___3) sNx)
/-- line 174 on -/
def c_Invalidating___init___5 : SM := (sSeq (sSetA [10] 52 (vVar 0) (vC .non)) c_Invalidating___init___4)
/-- line 173 on -/
def c_Invalidating___init___6 : SM := (sSeq (sSetA [10] 54 (vVar 0) (vC .non)) c_Invalidating___init___5)
/-- line 172 on -/
def c_Invalidating___init___7 : SM := (sSeq (sSetA [10] 53 (vVar 0) (vLst aNil)) c_Invalidating___init___6)
/-- line 171 on -/
def c_Invalidating___init___8 : SM := (sSeq (sSetA [10] 51 (vVar 0) (vLst aNil)) c_Invalidating___init___7)
def b_Invalidating___init__ : SM := (sSeq (sSetA [9, 10, 5] 2 (vVar 0) (vFld [9, 10, 5] 2 (vVar 1))) c_Invalidating___init___8)
def m_Invalidating___init__ : MF := fnM 4 5 b_Invalidating___init__
def b__law_word : SM := (sRet (vOp ixD (vLst (aCons (vTup (aCons (vC (.str 18)) (aCons (vOp modD (vVar 0) (vC (.int 4))) (aCons (vC (.bl true)) aNil)))) (aCons (vTup (aCons (vC (.str 18)) (aCons (vOp modD (vVar 0) (vC (.int 4))) (aCons (vC (.bl false)) aNil)))) (aCons (vC .non) (aCons (vTup (aCons (vC (.str 11)) (aCons (vC (.int 1)) aNil))) aNil))))) (vOp modD (vOp divD (vVar 0) (vC (.int 4))) (vC (.int 4)))))
def m__law_word : MF := fnM 1 1 b__law_word
/-- line 409 -/
def c__law_change_1 : SM := (sRet (vFrz (vVar 3)))
/-- line 406 -/
def c__law_change_2 : SM := (sIf (tOf (vOp (inD true) (vVar 6) (vVar 3))) (sSeq (sDrop (vApp (vVar 3) (vVar 6))) (sDrop (vMeth 31 [(5, m_Memory_access)] (vVar 0) (aCons (vC (.int 0)) (aCons (vTup (aCons (vC (.str 10)) (aCons (vMeth 25 [(4, m_Sizes_word)] (vFld [9, 10, 5] 2 (vVar 0)) (aCons (vOp ixD (vVar 6) (vC (.int 0))) (aCons (vOp ixD (vVar 6) (vC (.int 1))) aNil))) (aCons (vCall m__law_word (aCons (vOp divD (vVar 5) (vC (.int 8))) aNil)) aNil)))) aNil))))) sNx)
/-- line 405 on -/
def c__law_change_3 : SM := (sSeq (sAsg 6 (vTup (aCons (vOp modD (vVar 5) (vC (.int 2))) (aCons (vOp modD (vOp divD (vVar 5) (vC (.int 2))) (vC (.int 4))) aNil)))) c__law_change_2)
/-- the loop of line 404 -/
def c__law_change_4 : SM := (sSeq (sAsg 5 (vCall m__law_at (aCons (vVar 1) (aCons (vOp addD (vOp addD (vVar 2) (vC (.int 1))) (vVar 4)) aNil)))) c__law_change_3)
/-- line 403 on -/
def c__law_change_5 : SM := (sSeq (sFor (iRng1 (vOp modD (vCall m__law_at (aCons (vVar 1) (aCons (vVar 2) aNil))) (vC (.int 5)))) (gN 4) c__law_change_4) c__law_change_1)
def b__law_change : SM := (sSeq (sAsg 3 (vLstO aNil)) c__law_change_5)
def m__law_change : MF := fnM 3 7 b__law_change
def b_Hand___init__ : SM := (sSeq (sSetA [7, 8] 56 (vVar 0) (vVar 1)) (sSetA [8] 62 (vVar 0) (vC (.int 0))))
def m_Hand___init__ : MF := fnM 2 2 b_Hand___init__
/-- line 53 -/
def c_Owners___init___1 : SM := (sSetA [7] 58 (vVar 0) (vLstO aNil))
/-- line 52 on -/
def c_Owners___init___2 : SM := (sSeq (sSetA [7] 59 (vVar 0) (vLc [2] (iRng1 (vVar 1)) (gN 2) tYes (vLstO aNil))) c_Owners___init___1)
def b_Owners___init__ : SM := (sSeq (sSetA [7, 8] 56 (vVar 0) (vVar 1)) c_Owners___init___2)
def m_Owners___init__ : MF := fnM 2 3 b_Owners___init__
/-- line 150 -/
def c_Kernel___init___1 : SM := (sSetA [9] 43 (vVar 0) (vC (.int 0)))
/-- line 149 on -/
def c_Kernel___init___2 : SM := (sSeq (sSetA [9] 63 (vVar 0) (vMake 8 m_Hand___init__ (aCons (vFld [9, 4] 5 (vFld [9, 10, 5] 2 (vVar 0))) aNil))) c_Kernel___init___1)
/-- line 148 on -/
def c_Kernel___init___3 : SM := (sSeq (sSetA [9, 4] 6 (vVar 0) (vMake 7 m_Owners___init__ (aCons (vFld [9, 4] 6 (vFld [9, 10, 5] 2 (vVar 0))) aNil))) c_Kernel___init___2)
/-- line 147 on -/
def c_Kernel___init___4 : SM := (sSeq (sSetA [9, 4] 5 (vVar 0) (vMake 7 m_Owners___init__ (aCons (vFld [9, 4] 5 (vFld [9, 10, 5] 2 (vVar 0))) aNil))) c_Kernel___init___3)
/-- line 146 on -/
def c_Kernel___init___5 : SM := (sSeq (sSetA [9] 64 (vVar 0) (vDisp (pCons (vC (.int 0)) (vLst aNil) pNil))) c_Kernel___init___4)
/-- line 145 on -/
def c_Kernel___init___6 : SM := (sSeq (sSetA [9, 10, 5] 2 (vVar 0) (vFld [9, 10, 5] 2 (vVar 1))) c_Kernel___init___5)
def b_Kernel___init__ : SM := (sSeq (sSetA [9] 61 (vVar 0) (vVar 1)) c_Kernel___init___6)
def m_Kernel___init__ : MF := fnM 2 2 b_Kernel___init__
def b_Box___init__ : SM := (sSetA [3, 2, 5] 0 (vVar 0) (vLstO aNil))
def m_Box___init__ : MF := fnM 1 1 b_Box___init__
def b_Buffer___init__ : SM := (sSetA [3, 2, 5] 0 (vVar 0) (vLst aNil))
def m_Buffer___init__ : MF := fnM 1 1 b_Buffer___init__
/-- line 263 -/
def c_first_values_1 : SM := (sRet (vAddO (vVar 1) (vOp mulD (vLst (aCons (vTup (aCons (vC (.int 0)) (aCons (vC (.int 0)) aNil))) aNil)) (vOp addD (vFld [9, 4] 6 (vVar 0)) (vOp mulD (vC (.int 2)) (vC (.int 4)))))))
/-- line 262 on -/
def c_first_values_2 : SM := (sSeq (sAsg 1 (vOp addD (vVar 1) (vOp mulD (vLst (aCons (vC (.int 0)) aNil)) (vOp mulD (vC (.int 2)) (vFld [9, 4] 5 (vVar 0)))))) c_first_values_1)
def b_first_values : SM := (sSeq (sAsg 1 (vOp addD (vOp mulD (vLst (aCons (vC (.int 0)) aNil)) (vOp addD (vC (.int 1)) (vFld [4] 4 (vVar 0)))) (vOp mulD (vLst (aCons (vC .non) aNil)) (vOp mulD (vC (.int 4)) (vC (.int 8)))))) c_first_values_2)
def m_first_values : MF := fnM 1 2 b_first_values
/-- line 272 -/
def c_Memory___init___1 : SM := (sSetA [3, 2, 5] 0 (vVar 0) (vLstO aNil))
/-- line 271 on -/
def c_Memory___init___2 : SM := (sSeq (sSetA [5] 8 (vVar 0) (vLc [2] (iRng1 (vFld [4] 4 (vVar 1))) (gN 2) tYes (vMake 3 m_Box___init__ aNil))) c_Memory___init___1)
/-- line 270 on -/
def c_Memory___init___3 : SM := (sSeq (sSetA [5] 7 (vVar 0) (vLc [2] (iRng1 (vFld [4] 4 (vVar 1))) (gN 2) tYes (vMake 2 m_Buffer___init__ aNil))) c_Memory___init___2)
/-- line 269 on -/
def c_Memory___init___4 : SM := (sSeq (sSetA [5] 1 (vVar 0) (vCall m_first_values (aCons (vVar 1) aNil))) c_Memory___init___3)
/-- line 268 on -/
def c_Memory___init___5 : SM := (sSeq (sSetA [5] 3 (vVar 0) (vC (.int 0))) c_Memory___init___4)
def b_Memory___init__ : SM := (sSeq (sSetA [9, 10, 5] 2 (vVar 0) (vVar 1)) c_Memory___init___5)
def m_Memory___init__ : MF := fnM 2 3 b_Memory___init__
/-- line 238 -/
def c_Sizes___init___1 : SM := (sSetA [9, 4] 6 (vVar 0) (vVar 3))
/-- line 237 on -/
def c_Sizes___init___2 : SM := (sSeq (sSetA [9, 4] 5 (vVar 0) (vVar 2)) c_Sizes___init___1)
/-- line 236 on -/
def c_Sizes___init___3 : SM := (sSeq (sSetA [4] 4 (vVar 0) (vVar 1)) c_Sizes___init___2)
/-- line 234 on -/
def c_Sizes___init___4 : SM := (sSeq (sIf (tNot (tTru (vCall m_is_within (aCons (vVar 3) (aCons (vC (.int 0)) (aCons (vC (.int 12)) aNil)))))) (sRaise 1) sNx) c_Sizes___init___3)
def b_Sizes___init__ : SM := (sSeq (sIf (tOr (tNot (tTru (vCall m_is_within (aCons (vVar 1) (aCons (vC (.int 1)) (aCons (vC (.int 3)) aNil)))))) (tNot (tTru (vCall m_is_within (aCons (vVar 2) (aCons (vC (.int 2)) (aCons (vC (.int 12)) aNil))))))) (sRaise 1) sNx) c_Sizes___init___4)
def m_Sizes___init__ : MF := fnM 4 4 b_Sizes___init__
/-- line 378 -/
def c__law_tape_1 : SM := (sRet (vFrz (vVar 1)))
/-- line 377 -/
def c__law_tape_2 : SM := (sDrop (vApp (vVar 1) (vOp modD (vOp divD (vVar 3) (vC (.int 1000))) (vC (.int 1000)))))
/-- line 376 on -/
def c__law_tape_3 : SM := (sSeq (sAsg 3 (vOp modD (vOp mulD (vVar 3) (vC (.int 16807))) (vC (.int 2147483647)))) c__law_tape_2)
/-- the loop of line 375 -/
def c__law_tape_4 : SM := (sSeq (sAsg 3 (vOp modD (vOp addD (vOp addD (vOp mulD (vVar 3) (vC (.int 48271))) (vOp mulD (vC (.int 69621)) (vOp addD (vVar 2) (vC (.int 1))))) (vOp mulD (vC (.int 7)) (vVar 4))) (vC (.int 2147483647)))) c__law_tape_3)
/-- the loop of line 367 -/
def c__law_tape_5 : SM := (sSeq (sAsg 3 (vCB absD (aCons (vCB intD (aCons (vOp ixD (vVar 0) (vVar 2)) aNil)) aNil))) (sIf (tOf (vOp geD (vVar 3) (vOp powD (vC (.int 10)) (vC (.int 18))))) (sFor (iRng1 (vC (.int 60))) (gN 4) (sIf (tOf (vOp gtD (vVar 3) (vC (.int 0)))) (sSeq (sDrop (vApp (vVar 1) (vOp modD (vVar 3) (vC (.int 1000))))) (sAsg 3 (vOp divD (vVar 3) (vC (.int 1000))))) sNx)) (sFor (iRng1 (vC (.int 4))) (gN 4) c__law_tape_4)))
/-- line 366 on -/
def c__law_tape_6 : SM := (sSeq (sFor (iRng1 (vCB lenD (aCons (vVar 0) aNil))) (gN 2) c__law_tape_5) c__law_tape_1)
def b__law_tape : SM := (sSeq (sAsg 1 (vLstO aNil)) c__law_tape_6)
def m__law_tape : MF := fnM 1 5 b__law_tape
/-- line 455 -/
def c_law_1 : SM := (sRet (vC (.bl true)))
/-- line 453 -/
def c_law_2 : SM := (sIf (tOr (tOf (vOp neD (vFld [9] 43 (vVar 4)) (vVar 7))) (tNot (tTru (vCall m__law_entries (aCons (vVar 3) (aCons (vVar 2) (aCons (vVar 11) aNil))))))) (sRet (vC (.bl false))) sNx)
/-- line 448 on -/
def c_law_3 : SM := (sSeq (sIf (tOf (vOp gtD (vCB lenD (aCons (vVar 11) aNil)) (vC (.int 0)))) (sSeq (sAsg 7 (vOp addD (vVar 7) (vC (.int 1)))) (sFor (iRng2 (vC (.int 1)) (vVar 2)) (gN 17) (sIf (tOf (vOp neD (vMeth 35 [(5, m_Memory_peek)] (vVar 3) (aCons (vMeth 26 [(4, m_Sizes_acknowledge)] (vFld [9, 10, 5] 2 (vVar 3)) (aCons (vVar 17) aNil)) aNil)) (vVar 7))) (sRet (vC (.bl false))) sNx))) sNx) c_law_2)
/-- line 446 on -/
def c_law_4 : SM := (sSeq (sIf (tOr (tOf (vOp ltD (vVar 15) (vVar 16))) (tOr (tAnd (tOf (vOp eqD (vVar 16) (vC (.int 0)))) (tOf (vOp neD (vVar 15) (vC (.int 0))))) (tOr (tNot (tTru (vMeth 45 [(6, m_Stack_ended)] (vVar 13) aNil))) (tOr (tOf (vOp neD (vMeth 44 [(6, m_Stack_value)] (vVar 13) aNil) (vVar 14))) (tOf (vOp neD (vVar 12) (vVar 11))))))) (sRet (vC (.bl false))) sNx) c_law_3)
/-- line 445 on -/
def c_law_5 : SM := (sSeq (sAsg 16 (vOp mulD (vOp mulD (vCB intD (aCons (vOp gtD (vCB lenD (aCons (vVar 11) aNil)) (vC (.int 0))) aNil)) (vC (.int 2))) (vOp subD (vVar 2) (vC (.int 1))))) c_law_4)
/-- line 444 on -/
def c_law_6 : SM := (sSeq (sTgt (vCall m__law_run (aCons (vVar 3) (aCons (vVar 13) (aCons (vVar 2) (aCons (vVar 1) (aCons (vOp addD (vOp mulD (vC (.int 5)) (vVar 8)) (vC (.int 2))) aNil)))))) (gT 2 (gsC (gN 14) (gsC (gN 15) gsN)))) c_law_5)
/-- line 443 on -/
def c_law_7 : SM := (sSeq (sAsg 13 (vMake 6 m_Stack___init__ (aCons (vMake 10 m_Invalidating___init__ (aCons (vVar 4) (aCons (vC (.int 0)) (aCons (vVar 12) aNil)))) aNil))) c_law_6)
/-- line 442 on -/
def c_law_8 : SM := (sSeq (sAsg 12 (vCB listD (aCons (vVar 11) aNil))) c_law_7)
/-- line 441 on -/
def c_law_9 : SM := (sSeq (sAsg 11 (vCall m__law_change (aCons (vVar 3) (aCons (vVar 1) (aCons (vOp addD (vOp mulD (vC (.int 7)) (vVar 8)) (vC (.int 1))) aNil))))) c_law_8)
/-- the loop of line 439 -/
def c_law_10 : SM := (sSeq (sAsg 10 (vCall m__law_at (aCons (vVar 1) (aCons (vOp addD (vVar 8) (vVar 9)) aNil)))) (sDrop (vCall m__law_other (aCons (vVar 3) (aCons (vOp modD (vVar 10) (vVar 2)) (aCons (vOp divD (vVar 10) (vVar 2)) aNil))))))
/-- the loop of line 438 -/
def c_law_11 : SM := (sSeq (sFor (iRng1 (vOp modD (vCall m__law_at (aCons (vVar 1) (aCons (vOp addD (vVar 8) (vC (.int 1))) aNil))) (vC (.int 7)))) (gN 9) c_law_10) c_law_9)
/-- line 437 on -/
def c_law_12 : SM := (sSeq (sFor (iRng1 (vCB minD (aCons (vC (.int 6)) (aCons (vOp addD (vC (.int 1)) (vOp divD (vCB lenD (aCons (vVar 1) aNil)) (vC (.int 8)))) aNil)))) (gN 8) c_law_11) c_law_1)
/-- line 436 on -/
def c_law_13 : SM := (sSeq (sAsg 7 (vC (.int 0))) c_law_12)
/-- line 433 on -/
def c_law_14 : SM := (sSeq (sFor (iRng1 (vC (.int 2))) (gN 5) (sFor (iRng1 (vC (.int 4))) (gN 6) (sDrop (vMeth 31 [(5, m_Memory_access)] (vVar 3) (aCons (vC (.int 0)) (aCons (vTup (aCons (vC (.str 10)) (aCons (vMeth 25 [(4, m_Sizes_word)] (vFld [9, 10, 5] 2 (vVar 3)) (aCons (vVar 5) (aCons (vVar 6) aNil))) (aCons (vTup (aCons (vC (.str 18)) (aCons (vVar 6) (aCons (vC (.bl true)) aNil)))) aNil)))) aNil)))))) c_law_13)
/-- line 432 on -/
def c_law_15 : SM := (sSeq (sAsg 4 (vMake 9 m_Kernel___init__ (aCons (vVar 3) aNil))) c_law_14)
/-- line 431 on -/
def c_law_16 : SM := (sSeq (sAsg 3 (vMake 5 m_Memory___init__ (aCons (vMake 4 m_Sizes___init__ (aCons (vVar 2) (aCons (vC (.int 4)) (aCons (vC (.int 2)) aNil)))) aNil))) c_law_15)
/-- line 430 on -/
def c_law_17 : SM := (sSeq (sAsg 2 (vOp addD (vC (.int 1)) (vOp modD (vCall m__law_at (aCons (vVar 1) (aCons (vC (.int 0)) aNil))) (vC (.int 3))))) c_law_16)
def b_law : SM := (sSeq (sAsg 1 (vCall m__law_tape (aCons (vVar 0) aNil))) c_law_17)
def m_law : MF := fnM 1 18 b_law
/-! ### what is asked of the top -/
def TAB : List Str := (["rows", "held", "sizes", "count", "processors", "frames", "blocks", "buffers", "boxes", "read", "write", "swap", "send", "take", "walk", "load", "store", "change", "frame", "done", "end", "call", "put", "drop", "frame_for", "word", "acknowledge", "frame_cell", "check_cell", "check_request"] : List Str) ++ (["check_page", "access", "result", "cell_result", "use", "peek", "log", "lock", "swap_block", "file_block", "cells", "letters", "entries", "ticket", "value", "ended", "machines", "step", "settle", "pass_on", "accept", "sends", "letter", "waits", "last", "request", "many", "is_free", "taken", "lists"] : List Str) ++ (["next_ticket", "memory", "place", "hand", "spaces"] : List Str)
theorem tab_nd : TAB.Nodup := by decide +kernel
theorem tab_sk : TAB.all PyData.strOk = true := by decide +kernel
structure Facts (Kt : Kit) : Prop where
  tb : Kt.tab = TAB
  k_Stack : ∃ C, Kt.cls[6]? = some C ∧ Kt.mg "Stack" = some (.ref C)
  k_Owners : ∃ C, Kt.cls[7]? = some C ∧ Kt.mg "Owners" = some (.ref C)
  k_Hand : ∃ C, Kt.cls[8]? = some C ∧ Kt.mg "Hand" = some (.ref C)
  k_Box : ∃ C, Kt.cls[3]? = some C ∧ Kt.mg "Box" = some (.ref C)
  k_Kernel : ∃ C, Kt.cls[9]? = some C ∧ Kt.mg "Kernel" = some (.ref C)
  k_Invalidating : ∃ C, Kt.cls[10]? = some C ∧ Kt.mg "Invalidating" = some (.ref C)
  k_Buffer : ∃ C, Kt.cls[2]? = some C ∧ Kt.mg "Buffer" = some (.ref C)
  k_Sizes : ∃ C, Kt.cls[4]? = some C ∧ Kt.mg "Sizes" = some (.ref C)
  k_Memory : ∃ C, Kt.cls[5]? = some C ∧ Kt.mg "Memory" = some (.ref C)
  k_PageError : ∃ C, Kt.cls[0]? = some C ∧ Kt.mg "PageError" = some (.ref C)
  k_NotValid : ∃ C, Kt.cls[1]? = some C ∧ Kt.mg "NotValid" = some (.ref C)
  f_range : Kt.mg "range" = none
  f_len : Kt.mg "len" = none
  f_min : Kt.mg "min" = none
  ca_rows : CA Kt [3, 2, 5] "rows"
  f_list : Kt.mg "list" = none
  ca_buffers : CA Kt [5] "buffers"
  ca_held : CA Kt [5] "held"
  f_isinstance : Kt.mg "isinstance" = none
  f_bool : Kt.mg "bool" = none
  f_int : Kt.mg "int" = none
  x_NotValid : ExK Kt "NotValid" 1
  ca_processors : CA Kt [4] "processors"
  i_PAGES : ∃ t, Kt.mg "PAGES" = some (.int 8 t)
  ca_sizes : CA Kt [9, 10, 5] "sizes"
  ca_boxes : CA Kt [5] "boxes"
  ca_ticket : CA Kt [9] "ticket"
  ca_result : CA Kt [6] "result"
  ca_machines : CA Kt [6] "machines"
  ca_count : CA Kt [5] "count"
  ca_sends : CA Kt [10] "sends"
  ca_letter : CA Kt [10] "letter"
  ca_waits : CA Kt [10] "waits"
  ca_last : CA Kt [10] "last"
  i_SPACES : ∃ t, Kt.mg "SPACES" = some (.int 4 t)
  i_CELLS : ∃ t, Kt.mg "CELLS" = some (.int 2 t)
  i_MOST_ENTRIES : ∃ t, Kt.mg "MOST_ENTRIES" = some (.int 2 t)
  ca_many : CA Kt [7, 8] "many"
  ca_taken : CA Kt [7] "taken"
  ca_lists : CA Kt [7] "lists"
  f_tuple : Kt.mg "tuple" = none
  f_all : Kt.mg "all" = none
  i_LENGTHS : ∃ a, Kt.mg "LENGTHS" = some (.ref a) ∧ KD Kt a [.str 9, .str 10, .str 11, .str 12, .str 13, .str 14, .str 15, .str 16, .str 17] [.int 2, .int 3, .int 4, .int 3, .int 1, .int 3, .int 4, .int 5, .int 6]
  ca_memory : CA Kt [9] "memory"
  ca_hand : CA Kt [9] "hand"
  ca_place : CA Kt [8] "place"
  ca_frames : CA Kt [9, 4] "frames"
  ca_blocks : CA Kt [9, 4] "blocks"
  ca_spaces : CA Kt [9] "spaces"
  i_FILES : ∃ t, Kt.mg "FILES" = some (.int 2 t)
  i_FILE_PAGES : ∃ t, Kt.mg "FILE_PAGES" = some (.int 4 t)
  i_MOST_BLOCKS : ∃ t, Kt.mg "MOST_BLOCKS" = some (.int 12 t)
  i_MOST_FRAMES : ∃ t, Kt.mg "MOST_FRAMES" = some (.int 12 t)
  i_LEAST_FRAMES : ∃ t, Kt.mg "LEAST_FRAMES" = some (.int 2 t)
  i_MOST_PROCESSORS : ∃ t, Kt.mg "MOST_PROCESSORS" = some (.int 3 t)
  f_abs : Kt.mg "abs" = none
  mk_Stack : ∀ C, Kt.cls[6]? = some C → ∃ f, Mk Kt.K C f ∧ ∃ fd, FunD Kt.K "__init__" "Stack.__init__" (defArgs s_Stack___init__) (defBody s_Stack___init__) (defScope s_Stack___init__) [] [] f fd
  mk_Owners : ∀ C, Kt.cls[7]? = some C → ∃ f, Mk Kt.K C f ∧ ∃ fd, FunD Kt.K "__init__" "Owners.__init__" (defArgs s_Owners___init__) (defBody s_Owners___init__) (defScope s_Owners___init__) [] [] f fd
  mk_Hand : ∀ C, Kt.cls[8]? = some C → ∃ f, Mk Kt.K C f ∧ ∃ fd, FunD Kt.K "__init__" "Hand.__init__" (defArgs s_Hand___init__) (defBody s_Hand___init__) (defScope s_Hand___init__) [] [] f fd
  mk_Box : ∀ C, Kt.cls[3]? = some C → ∃ f, Mk Kt.K C f ∧ ∃ fd, FunD Kt.K "__init__" "Box.__init__" (defArgs s_Box___init__) (defBody s_Box___init__) (defScope s_Box___init__) [] [] f fd
  mk_Kernel : ∀ C, Kt.cls[9]? = some C → ∃ f, Mk Kt.K C f ∧ ∃ fd, FunD Kt.K "__init__" "Kernel.__init__" (defArgs s_Kernel___init__) (defBody s_Kernel___init__) (defScope s_Kernel___init__) [] [] f fd
  mk_Invalidating : ∀ C, Kt.cls[10]? = some C → ∃ f, Mk Kt.K C f ∧ ∃ fd, FunD Kt.K "__init__" "Invalidating.__init__" (defArgs s_Invalidating___init__) (defBody s_Invalidating___init__) (defScope s_Invalidating___init__) [] [] f fd
  mk_Buffer : ∀ C, Kt.cls[2]? = some C → ∃ f, Mk Kt.K C f ∧ ∃ fd, FunD Kt.K "__init__" "Buffer.__init__" (defArgs s_Buffer___init__) (defBody s_Buffer___init__) (defScope s_Buffer___init__) [] [] f fd
  mk_Sizes : ∀ C, Kt.cls[4]? = some C → ∃ f, Mk Kt.K C f ∧ ∃ fd, FunD Kt.K "__init__" "Sizes.__init__" (defArgs s_Sizes___init__) (defBody s_Sizes___init__) (defScope s_Sizes___init__) [] [] f fd
  mk_Memory : ∀ C, Kt.cls[5]? = some C → ∃ f, Mk Kt.K C f ∧ ∃ fd, FunD Kt.K "__init__" "Memory.__init__" (defArgs s_Memory___init__) (defBody s_Memory___init__) (defScope s_Memory___init__) [] [] f fd
  d_Buffer_entries : ∀ C, Kt.cls[2]? = some C → Cls Kt.K C ∧ ∃ f fd, Meth Kt.K C "entries" f ∧ FunD Kt.K "entries" "Buffer.entries" (defArgs s_Buffer_entries) (defBody s_Buffer_entries) (defScope s_Buffer_entries) [] [] f fd
  d_is_integer : ∃ f fd, Kt.mg "is_integer" = some (.ref f) ∧ PySem.W.keepIn Kt.K (.ref f) = true ∧ FunD Kt.K "is_integer" "is_integer" (defArgs s_is_integer) (defBody s_is_integer) (defScope s_is_integer) [] [] f fd
  d_is_within : ∃ f fd, Kt.mg "is_within" = some (.ref f) ∧ PySem.W.keepIn Kt.K (.ref f) = true ∧ FunD Kt.K "is_within" "is_within" (defArgs s_is_within) (defBody s_is_within) (defScope s_is_within) [] [] f fd
  d_Memory_check_cell : ∀ C, Kt.cls[5]? = some C → Cls Kt.K C ∧ ∃ f fd, Meth Kt.K C "check_cell" f ∧ FunD Kt.K "check_cell" "Memory.check_cell" (defArgs s_Memory_check_cell) (defBody s_Memory_check_cell) (defScope s_Memory_check_cell) [] [] f fd
  d_Memory_peek : ∀ C, Kt.cls[5]? = some C → Cls Kt.K C ∧ ∃ f fd, Meth Kt.K C "peek" f ∧ FunD Kt.K "peek" "Memory.peek" (defArgs s_Memory_peek) (defBody s_Memory_peek) (defScope s_Memory_peek) [] [] f fd
  d_Sizes_word : ∀ C, Kt.cls[4]? = some C → Cls Kt.K C ∧ ∃ f fd, Meth Kt.K C "word" f ∧ FunD Kt.K "word" "Sizes.word" (defArgs s_Sizes_word) (defBody s_Sizes_word) (defScope s_Sizes_word) [] [] f fd
  d_Box_letters : ∀ C, Kt.cls[3]? = some C → Cls Kt.K C ∧ ∃ f fd, Meth Kt.K C "letters" f ∧ FunD Kt.K "letters" "Box.letters" (defArgs s_Box_letters) (defBody s_Box_letters) (defScope s_Box_letters) [] [] f fd
  d__law_entries : ∃ f fd, Kt.mg "_law_entries" = some (.ref f) ∧ PySem.W.keepIn Kt.K (.ref f) = true ∧ FunD Kt.K "_law_entries" "_law_entries" (defArgs s__law_entries) (defBody s__law_entries) (defScope s__law_entries) [] [] f fd
  d_Sizes_acknowledge : ∀ C, Kt.cls[4]? = some C → Cls Kt.K C ∧ ∃ f fd, Meth Kt.K C "acknowledge" f ∧ FunD Kt.K "acknowledge" "Sizes.acknowledge" (defArgs s_Sizes_acknowledge) (defBody s_Sizes_acknowledge) (defScope s_Sizes_acknowledge) [] [] f fd
  d_Stack_value : ∀ C, Kt.cls[6]? = some C → Cls Kt.K C ∧ ∃ f fd, Meth Kt.K C "value" f ∧ FunD Kt.K "value" "Stack.value" (defArgs s_Stack_value) (defBody s_Stack_value) (defScope s_Stack_value) [] [] f fd
  d_Stack_ended : ∀ C, Kt.cls[6]? = some C → Cls Kt.K C ∧ ∃ f fd, Meth Kt.K C "ended" f ∧ FunD Kt.K "ended" "Stack.ended" (defArgs s_Stack_ended) (defBody s_Stack_ended) (defScope s_Stack_ended) [] [] f fd
  d_Invalidating_accept : ∀ C, Kt.cls[10]? = some C → Cls Kt.K C ∧ ∃ f fd, Meth Kt.K C "accept" f ∧ FunD Kt.K "accept" "Invalidating.accept" (defArgs s_Invalidating_accept) (defBody s_Invalidating_accept) (defScope s_Invalidating_accept) [] [] f fd
  d_Stack_pass_on : ∀ C, Kt.cls[6]? = some C → Cls Kt.K C ∧ ∃ f fd, Meth Kt.K C "pass_on" f ∧ FunD Kt.K "pass_on" "Stack.pass_on" (defArgs s_Stack_pass_on) (defBody s_Stack_pass_on) (defScope s_Stack_pass_on) [] [] f fd
  d_Invalidating_request : ∀ C, Kt.cls[10]? = some C → Cls Kt.K C ∧ ∃ f fd, Meth Kt.K C "request" f ∧ FunD Kt.K "request" "Invalidating.request" (defArgs s_Invalidating_request) (defBody s_Invalidating_request) (defScope s_Invalidating_request) [] [] f fd
  d_Stack_settle : ∀ C, Kt.cls[6]? = some C → Cls Kt.K C ∧ ∃ f fd, Meth Kt.K C "settle" f ∧ FunD Kt.K "settle" "Stack.settle" (defArgs s_Stack_settle) (defBody s_Stack_settle) (defScope s_Stack_settle) [] [] f fd
  d_Sizes_frame_cell : ∀ C, Kt.cls[4]? = some C → Cls Kt.K C ∧ ∃ f fd, Meth Kt.K C "frame_cell" f ∧ FunD Kt.K "frame_cell" "Sizes.frame_cell" (defArgs s_Sizes_frame_cell) (defBody s_Sizes_frame_cell) (defScope s_Sizes_frame_cell) [] [] f fd
  d_Buffer_frame_for : ∀ C, Kt.cls[2]? = some C → Cls Kt.K C ∧ ∃ f fd, Meth Kt.K C "frame_for" f ∧ FunD Kt.K "frame_for" "Buffer.frame_for" (defArgs s_Buffer_frame_for) (defBody s_Buffer_frame_for) (defScope s_Buffer_frame_for) [] [] f fd
  d_Memory_use : ∀ C, Kt.cls[5]? = some C → Cls Kt.K C ∧ ∃ f fd, Meth Kt.K C "use" f ∧ FunD Kt.K "use" "Memory.use" (defArgs s_Memory_use) (defBody s_Memory_use) (defScope s_Memory_use) [] [] f fd
  d_Buffer_drop : ∀ C, Kt.cls[2]? = some C → Cls Kt.K C ∧ ∃ f fd, Meth Kt.K C "drop" f ∧ FunD Kt.K "drop" "Buffer.drop" (defArgs s_Buffer_drop) (defBody s_Buffer_drop) (defScope s_Buffer_drop) [] [] f fd
  d_Buffer_put : ∀ C, Kt.cls[2]? = some C → Cls Kt.K C ∧ ∃ f fd, Meth Kt.K C "put" f ∧ FunD Kt.K "put" "Buffer.put" (defArgs s_Buffer_put) (defBody s_Buffer_put) (defScope s_Buffer_put) [] [] f fd
  d_Box_take : ∀ C, Kt.cls[3]? = some C → Cls Kt.K C ∧ ∃ f fd, Meth Kt.K C "take" f ∧ FunD Kt.K "take" "Box.take" (defArgs s_Box_take) (defBody s_Box_take) (defScope s_Box_take) [] [] f fd
  d_Owners_is_free : ∀ C, Kt.cls[7]? = some C → Cls Kt.K C ∧ ∃ f fd, Meth Kt.K C "is_free" f ∧ FunD Kt.K "is_free" "Owners.is_free" (defArgs s_Owners_is_free) (defBody s_Owners_is_free) (defScope s_Owners_is_free) [] [] f fd
  d_Owners_take : ∀ C, Kt.cls[7]? = some C → Cls Kt.K C ∧ ∃ f fd, Meth Kt.K C "take" f ∧ FunD Kt.K "take" "Owners.take" (defArgs s_Owners_take) (defBody s_Owners_take) (defScope s_Owners_take) [] [] f fd
  d_Memory_take : ∀ C, Kt.cls[5]? = some C → Cls Kt.K C ∧ ∃ f fd, Meth Kt.K C "take" f ∧ FunD Kt.K "take" "Memory.take" (defArgs s_Memory_take) (defBody s_Memory_take) (defScope s_Memory_take) [] [] f fd
  d_Memory_cell_result : ∀ C, Kt.cls[5]? = some C → Cls Kt.K C ∧ ∃ f fd, Meth Kt.K C "cell_result" f ∧ FunD Kt.K "cell_result" "Memory.cell_result" (defArgs s_Memory_cell_result) (defBody s_Memory_cell_result) (defScope s_Memory_cell_result) [] [] f fd
  d_Memory_result : ∀ C, Kt.cls[5]? = some C → Cls Kt.K C ∧ ∃ f fd, Meth Kt.K C "result" f ∧ FunD Kt.K "result" "Memory.result" (defArgs s_Memory_result) (defBody s_Memory_result) (defScope s_Memory_result) [] [] f fd
  d_is_pair : ∃ f fd, Kt.mg "is_pair" = some (.ref f) ∧ PySem.W.keepIn Kt.K (.ref f) = true ∧ FunD Kt.K "is_pair" "is_pair" (defArgs s_is_pair) (defBody s_is_pair) (defScope s_is_pair) [] [] f fd
  d_is_letter : ∃ f fd, Kt.mg "is_letter" = some (.ref f) ∧ PySem.W.keepIn Kt.K (.ref f) = true ∧ FunD Kt.K "is_letter" "is_letter" (defArgs s_is_letter) (defBody s_is_letter) (defScope s_is_letter) [] [] f fd
  d_Box_send : ∀ C, Kt.cls[3]? = some C → Cls Kt.K C ∧ ∃ f fd, Meth Kt.K C "send" f ∧ FunD Kt.K "send" "Box.send" (defArgs s_Box_send) (defBody s_Box_send) (defScope s_Box_send) [] [] f fd
  d_Memory_check_page : ∀ C, Kt.cls[5]? = some C → Cls Kt.K C ∧ ∃ f fd, Meth Kt.K C "check_page" f ∧ FunD Kt.K "check_page" "Memory.check_page" (defArgs s_Memory_check_page) (defBody s_Memory_check_page) (defScope s_Memory_check_page) [] [] f fd
  d_Memory_check_request : ∀ C, Kt.cls[5]? = some C → Cls Kt.K C ∧ ∃ f fd, Meth Kt.K C "check_request" f ∧ FunD Kt.K "check_request" "Memory.check_request" (defArgs s_Memory_check_request) (defBody s_Memory_check_request) (defScope s_Memory_check_request) [] [] f fd
  d_Memory_access : ∀ C, Kt.cls[5]? = some C → Cls Kt.K C ∧ ∃ f fd, Meth Kt.K C "access" f ∧ FunD Kt.K "access" "Memory.access" (defArgs s_Memory_access) (defBody s_Memory_access) (defScope s_Memory_access) [] [] f fd
  d_Stack_step : ∀ C, Kt.cls[6]? = some C → Cls Kt.K C ∧ ∃ f fd, Meth Kt.K C "step" f ∧ FunD Kt.K "step" "Stack.step" (defArgs s_Stack_step) (defBody s_Stack_step) (defScope s_Stack_step) [] [] f fd
  d__law_other : ∃ f fd, Kt.mg "_law_other" = some (.ref f) ∧ PySem.W.keepIn Kt.K (.ref f) = true ∧ FunD Kt.K "_law_other" "_law_other" (defArgs s__law_other) (defBody s__law_other) (defScope s__law_other) [] [] f fd
  d__law_at : ∃ f fd, Kt.mg "_law_at" = some (.ref f) ∧ PySem.W.keepIn Kt.K (.ref f) = true ∧ FunD Kt.K "_law_at" "_law_at" (defArgs s__law_at) (defBody s__law_at) (defScope s__law_at) [] [] f fd
  d__law_run : ∃ f fd, Kt.mg "_law_run" = some (.ref f) ∧ PySem.W.keepIn Kt.K (.ref f) = true ∧ FunD Kt.K "_law_run" "_law_run" (defArgs s__law_run) (defBody s__law_run) (defScope s__law_run) [] [] f fd
  d_Kernel_next_ticket : ∀ C, Kt.cls[9]? = some C → Cls Kt.K C ∧ ∃ f fd, Meth Kt.K C "next_ticket" f ∧ FunD Kt.K "next_ticket" "Kernel.next_ticket" (defArgs s_Kernel_next_ticket) (defBody s_Kernel_next_ticket) (defScope s_Kernel_next_ticket) [] [] f fd
  d__law_word : ∃ f fd, Kt.mg "_law_word" = some (.ref f) ∧ PySem.W.keepIn Kt.K (.ref f) = true ∧ FunD Kt.K "_law_word" "_law_word" (defArgs s__law_word) (defBody s__law_word) (defScope s__law_word) [] [] f fd
  d__law_change : ∃ f fd, Kt.mg "_law_change" = some (.ref f) ∧ PySem.W.keepIn Kt.K (.ref f) = true ∧ FunD Kt.K "_law_change" "_law_change" (defArgs s__law_change) (defBody s__law_change) (defScope s__law_change) [] [] f fd
  d_first_values : ∃ f fd, Kt.mg "first_values" = some (.ref f) ∧ PySem.W.keepIn Kt.K (.ref f) = true ∧ FunD Kt.K "first_values" "first_values" (defArgs s_first_values) (defBody s_first_values) (defScope s_first_values) [] [] f fd
  d__law_tape : ∃ f fd, Kt.mg "_law_tape" = some (.ref f) ∧ PySem.W.keepIn Kt.K (.ref f) = true ∧ FunD Kt.K "_law_tape" "_law_tape" (defArgs s__law_tape) (defBody s__law_tape) (defScope s__law_tape) [] [] f fd
  d_law : ∃ f fd, Kt.mg "law" = some (.ref f) ∧ PySem.W.keepIn Kt.K (.ref f) = true ∧ FunD Kt.K "law" "law" (defArgs s_law) (defBody s_law) (defScope s_law) [] [] f fd
section
variable {Kt : Kit}
theorem Facts.s (T : Facts Kt) {n : Nat} {x : Str} (h : TAB[n]? = some x) : Kt.tab[n]? = some x := by rw [T.tb]; exact h
theorem Facts.c_PAGES (T : Facts Kt) {X : Cx} {W : WX} {k : Nat} {pos : Pos} (A : At Kt X W k) (hg : Gl X "PAGES" := by rfl) : PE X (.Name "PAGES" pos) (te Kt W (vC (.int 8))) := by
  obtain ⟨t, h⟩ := T.i_PAGES
  exact se_glob (v := .int 8) A h ⟨t, rfl⟩ (fun _ _ => .int _) hg
theorem Facts.c_SPACES (T : Facts Kt) {X : Cx} {W : WX} {k : Nat} {pos : Pos} (A : At Kt X W k) (hg : Gl X "SPACES" := by rfl) : PE X (.Name "SPACES" pos) (te Kt W (vC (.int 4))) := by
  obtain ⟨t, h⟩ := T.i_SPACES
  exact se_glob (v := .int 4) A h ⟨t, rfl⟩ (fun _ _ => .int _) hg
theorem Facts.c_CELLS (T : Facts Kt) {X : Cx} {W : WX} {k : Nat} {pos : Pos} (A : At Kt X W k) (hg : Gl X "CELLS" := by rfl) : PE X (.Name "CELLS" pos) (te Kt W (vC (.int 2))) := by
  obtain ⟨t, h⟩ := T.i_CELLS
  exact se_glob (v := .int 2) A h ⟨t, rfl⟩ (fun _ _ => .int _) hg
theorem Facts.c_MOST_ENTRIES (T : Facts Kt) {X : Cx} {W : WX} {k : Nat} {pos : Pos} (A : At Kt X W k) (hg : Gl X "MOST_ENTRIES" := by rfl) : PE X (.Name "MOST_ENTRIES" pos) (te Kt W (vC (.int 2))) := by
  obtain ⟨t, h⟩ := T.i_MOST_ENTRIES
  exact se_glob (v := .int 2) A h ⟨t, rfl⟩ (fun _ _ => .int _) hg
theorem Facts.c_LENGTHS (T : Facts Kt) {X : Cx} {W : WX} {k : Nat} {pos : Pos} (A : At Kt X W k) (hg : Gl X "LENGTHS" := by rfl) : PE X (.Name "LENGTHS" pos) (te Kt W (vC (.dic [(.str 9), (.str 10), (.str 11), (.str 12), (.str 13), (.str 14), (.str 15), (.str 16), (.str 17)] [(.int 2), (.int 3), (.int 4), (.int 3), (.int 1), (.int 3), (.int 4), (.int 5), (.int 6)]))) := by
  obtain ⟨a, h, hs⟩ := T.i_LENGTHS
  exact se_glob (v := .ref a) A h rfl (fun _ _ => .dic hs) hg
theorem Facts.c_FILES (T : Facts Kt) {X : Cx} {W : WX} {k : Nat} {pos : Pos} (A : At Kt X W k) (hg : Gl X "FILES" := by rfl) : PE X (.Name "FILES" pos) (te Kt W (vC (.int 2))) := by
  obtain ⟨t, h⟩ := T.i_FILES
  exact se_glob (v := .int 2) A h ⟨t, rfl⟩ (fun _ _ => .int _) hg
theorem Facts.c_FILE_PAGES (T : Facts Kt) {X : Cx} {W : WX} {k : Nat} {pos : Pos} (A : At Kt X W k) (hg : Gl X "FILE_PAGES" := by rfl) : PE X (.Name "FILE_PAGES" pos) (te Kt W (vC (.int 4))) := by
  obtain ⟨t, h⟩ := T.i_FILE_PAGES
  exact se_glob (v := .int 4) A h ⟨t, rfl⟩ (fun _ _ => .int _) hg
theorem Facts.c_MOST_BLOCKS (T : Facts Kt) {X : Cx} {W : WX} {k : Nat} {pos : Pos} (A : At Kt X W k) (hg : Gl X "MOST_BLOCKS" := by rfl) : PE X (.Name "MOST_BLOCKS" pos) (te Kt W (vC (.int 12))) := by
  obtain ⟨t, h⟩ := T.i_MOST_BLOCKS
  exact se_glob (v := .int 12) A h ⟨t, rfl⟩ (fun _ _ => .int _) hg
theorem Facts.c_MOST_FRAMES (T : Facts Kt) {X : Cx} {W : WX} {k : Nat} {pos : Pos} (A : At Kt X W k) (hg : Gl X "MOST_FRAMES" := by rfl) : PE X (.Name "MOST_FRAMES" pos) (te Kt W (vC (.int 12))) := by
  obtain ⟨t, h⟩ := T.i_MOST_FRAMES
  exact se_glob (v := .int 12) A h ⟨t, rfl⟩ (fun _ _ => .int _) hg
theorem Facts.c_LEAST_FRAMES (T : Facts Kt) {X : Cx} {W : WX} {k : Nat} {pos : Pos} (A : At Kt X W k) (hg : Gl X "LEAST_FRAMES" := by rfl) : PE X (.Name "LEAST_FRAMES" pos) (te Kt W (vC (.int 2))) := by
  obtain ⟨t, h⟩ := T.i_LEAST_FRAMES
  exact se_glob (v := .int 2) A h ⟨t, rfl⟩ (fun _ _ => .int _) hg
theorem Facts.c_MOST_PROCESSORS (T : Facts Kt) {X : Cx} {W : WX} {k : Nat} {pos : Pos} (A : At Kt X W k) (hg : Gl X "MOST_PROCESSORS" := by rfl) : PE X (.Name "MOST_PROCESSORS" pos) (te Kt W (vC (.int 3))) := by
  obtain ⟨t, h⟩ := T.i_MOST_PROCESSORS
  exact se_glob (v := .int 3) A h ⟨t, rfl⟩ (fun _ _ => .int _) hg
/-! ### the walks -/
abbrev NN_Buffer_entries : List Str := ["self"]
theorem sc_Buffer_entries : FnScope ["self"] ["self"] (defScope s_Buffer_entries) := ⟨rfl, rfl, rfl, by decide +kernel, rfl, by decide +kernel, by decide +kernel⟩
theorem g_Buffer_entries (T : Facts Kt) : MeK Kt 1 "entries" 2 1 m_Buffer_entries := by
  obtain ⟨C, hC, hm⟩ := T.k_Buffer
  obtain ⟨c, f, fd, M, F⟩ := T.d_Buffer_entries C hC
  exact ⟨C, f, hC, c, M, fn_at F sc_Buffer_entries (fun _ _ _ _ _ _ us hl => match us, hl with | [_], _ => rfl) fun cdv Ar outer s H E A => (ss_one (ss_ret (se_listO A T.f_list (sa_cons (se_fld A (T.s (n := 0) rfl) T.ca_rows (se_var 0)) sa_nil))))⟩
abbrev NN_is_integer : List Str := ["value"]
theorem sc_is_integer : FnScope ["value"] ["value"] (defScope s_is_integer) := ⟨rfl, rfl, rfl, by decide +kernel, rfl, by decide +kernel, by decide +kernel⟩
theorem g_is_integer (T : Facts Kt) : FnK Kt 1 "is_integer" 1 m_is_integer := by
  obtain ⟨f, fd, h1, h2, F⟩ := T.d_is_integer
  exact ⟨f, h1, h2, fn_at F sc_is_integer (fun _ _ _ _ _ _ us hl => match us, hl with | [_], _ => rfl) fun cdv Ar outer s H E A => (ss_one (ss_ret (se_and (se_isi .int A T.f_isinstance T.f_int bt_int (se_var 0)) (se_one (se_not (se_isi .bool A T.f_isinstance T.f_bool bt_bool (se_var 0)))))))⟩
abbrev NN_is_within : List Str := ["value", "low", "high"]
theorem sc_is_within : FnScope ["value", "low", "high"] ["value", "low", "high"] (defScope s_is_within) := ⟨rfl, rfl, rfl, by decide +kernel, rfl, by decide +kernel, by decide +kernel⟩
theorem g_is_within (T : Facts Kt) : FnK Kt 2 "is_within" 3 m_is_within := by
  obtain ⟨f, fd, h1, h2, F⟩ := T.d_is_within
  exact ⟨f, h1, h2, fn_at F sc_is_within (fun _ _ _ _ _ _ us hl => match us, hl with | [_, _, _], _ => rfl) fun cdv Ar outer s H E A => (ss_one (ss_ret (se_and (se_call A ((g_is_integer T).mono (by decide)) (sa_cons (se_var 0) sa_nil) (len_cons len_nil)) (se_one (se_chain cm_le cm_le (se_var 1) (se_var 0) (se_var 2))))))⟩
abbrev NN_Memory_check_cell : List Str := ["self", "cell"]
theorem sc_Memory_check_cell : FnScope ["self", "cell"] ["self", "cell"] (defScope s_Memory_check_cell) := ⟨rfl, rfl, rfl, by decide +kernel, rfl, by decide +kernel, by decide +kernel⟩
theorem g_Memory_check_cell (T : Facts Kt) : MeK Kt 3 "check_cell" 5 2 m_Memory_check_cell := by
  obtain ⟨C, hC, hm⟩ := T.k_Memory
  obtain ⟨c, f, fd, M, F⟩ := T.d_Memory_check_cell C hC
  exact ⟨C, f, hC, c, M, fn_at F sc_Memory_check_cell (fun _ _ _ _ _ _ us hl => match us, hl with | [_, _], _ => rfl) fun cdv Ar outer s H E A => (ss_one (ss_if (st_not (st_tru A (se_call A ((g_is_within T).mono (by decide)) (sa_cons (se_var 1) (sa_cons se_int (sa_cons (se_sub (se_len A T.f_len (sa_cons (se_fld A (T.s (n := 1) rfl) T.ca_held (se_var 0)) sa_nil)) se_int) sa_nil))) (len_cons (len_cons (len_cons len_nil)))))) (ss_one (ss_raise A T.x_NotValid)) ss_nil))⟩
abbrev NN_Memory_peek : List Str := ["self", "cell"]
theorem sc_Memory_peek : FnScope ["self", "cell"] ["self", "cell"] (defScope s_Memory_peek) := ⟨rfl, rfl, rfl, by decide +kernel, rfl, by decide +kernel, by decide +kernel⟩
theorem g_Memory_peek (T : Facts Kt) : MeK Kt 4 "peek" 5 2 m_Memory_peek := by
  obtain ⟨C, hC, hm⟩ := T.k_Memory
  obtain ⟨c, f, fd, M, F⟩ := T.d_Memory_peek C hC
  exact ⟨C, f, hC, c, M, fn_at F sc_Memory_peek (fun _ _ _ _ _ _ us hl => match us, hl with | [_, _], _ => rfl) fun cdv Ar outer s H E A => (ss_cons (ss_expr (se_meth A (se_var 0) (T.s (n := 28) rfl) (mt_cons ((g_Memory_check_cell T).mono (by decide)) mt_nil) (sa_cons (se_var 1) sa_nil) (len_cons len_nil)))
    (ss_one (ss_ret (se_ix A (se_fld A (T.s (n := 1) rfl) T.ca_held (se_var 0)) (se_var 1)))))⟩
abbrev NN_Sizes_word : List Str := ["self", "space", "page"]
theorem sc_Sizes_word : FnScope ["self", "space", "page"] ["self", "space", "page"] (defScope s_Sizes_word) := ⟨rfl, rfl, rfl, by decide +kernel, rfl, by decide +kernel, by decide +kernel⟩
theorem g_Sizes_word (T : Facts Kt) : MeK Kt 1 "word" 4 3 m_Sizes_word := by
  obtain ⟨C, hC, hm⟩ := T.k_Sizes
  obtain ⟨c, f, fd, M, F⟩ := T.d_Sizes_word C hC
  exact ⟨C, f, hC, c, M, fn_at F sc_Sizes_word (fun _ _ _ _ _ _ us hl => match us, hl with | [_, _, _], _ => rfl) fun cdv Ar outer s H E A => (ss_one (ss_ret (se_add A (se_add A (se_add A se_int (se_fld A (T.s (n := 4) rfl) T.ca_processors (se_var 0))) (se_mul (T.c_PAGES A) (se_var 1))) (se_var 2))))⟩
abbrev NN_Box_letters : List Str := ["self"]
theorem sc_Box_letters : FnScope ["self"] ["self"] (defScope s_Box_letters) := ⟨rfl, rfl, rfl, by decide +kernel, rfl, by decide +kernel, by decide +kernel⟩
theorem g_Box_letters (T : Facts Kt) : MeK Kt 1 "letters" 3 1 m_Box_letters := by
  obtain ⟨C, hC, hm⟩ := T.k_Box
  obtain ⟨c, f, fd, M, F⟩ := T.d_Box_letters C hC
  exact ⟨C, f, hC, c, M, fn_at F sc_Box_letters (fun _ _ _ _ _ _ us hl => match us, hl with | [_], _ => rfl) fun cdv Ar outer s H E A => (ss_one (ss_ret (se_listO A T.f_list (sa_cons (se_fld A (T.s (n := 0) rfl) T.ca_rows (se_var 0)) sa_nil))))⟩
abbrev NN__law_entries : List Str := ["_law_memory", "_law_many", "_law_pairs", "_law_p", "_law_row", "_law_word_here"]
theorem sc__law_entries : FnScope ["_law_memory", "_law_many", "_law_pairs", "_law_p", "_law_row", "_law_word_here"] ["_law_memory", "_law_many", "_law_pairs"] (defScope s__law_entries) := ⟨rfl, rfl, rfl, by decide +kernel, rfl, by decide +kernel, by decide +kernel⟩
theorem g__law_entries (T : Facts Kt) : FnK Kt 5 "_law_entries" 3 m__law_entries := by
  obtain ⟨f, fd, h1, h2, F⟩ := T.d__law_entries
  exact ⟨f, h1, h2, fn_at F sc__law_entries (fun _ _ _ _ _ _ us hl => match us, hl with | [_, _, _], _ => rfl) fun cdv Ar outer s H E A => (ss_cons (ss_for (vs := [3]) A (si_rng1 A (se_var 1) T.f_range) (sg_name 3 A.nd (by simp)) (ss_cons (ss_if (st_cmp (cm_ne A) (se_meth0 A (se_ix A (se_fld A (T.s (n := 8) rfl) T.ca_boxes (se_var 0)) (se_var 3)) (T.s (n := 41) rfl) (mt_cons ((g_Box_letters T).mono (by decide)) mt_nil)) (se_lst sa_nil)) (ss_one (ss_ret se_bl)) ss_nil)
    (ss_one (ss_for (vs := [4]) A (si_lst A (se_meth0 A (se_ix A (se_fld A (T.s (n := 7) rfl) T.ca_buffers (se_var 0)) (se_var 3)) (T.s (n := 42) rfl) (mt_cons ((g_Buffer_entries T).mono (by decide)) mt_nil))) (sg_name 4 A.nd (by simp)) (ss_one (ss_if (st_cmp (cm_in A) (se_sl A (se_var 4) sl_no (sl_so se_int)) (se_var 2)) (ss_cons (ss_set 5 A (se_meth A (se_var 0) (T.s (n := 35) rfl) (mt_cons ((g_Memory_peek T).mono (by decide)) mt_nil) (sa_cons (se_meth A (se_fld A (T.s (n := 2) rfl) T.ca_sizes (se_var 0)) (T.s (n := 25) rfl) (mt_cons ((g_Sizes_word T).mono (by decide)) mt_nil) (sa_cons (se_ix A (se_var 4) se_int) (sa_cons (se_ix A (se_var 4) se_int) sa_nil)) (len_cons (len_cons len_nil))) sa_nil) (len_cons len_nil)))
    (ss_one (ss_if (st_cmp (cm_ne A) (se_var 5) (se_tup (sa_cons (se_str 18 (T.s rfl)) (sa_cons (se_ix A (se_var 4) se_int) (sa_cons (se_ix A (se_var 4) se_int) sa_nil))))) (ss_one (ss_ret se_bl)) ss_nil))) ss_nil))))))
    (ss_one (ss_ret se_bl)))⟩
abbrev NN_Sizes_acknowledge : List Str := ["self", "processor"]
theorem sc_Sizes_acknowledge : FnScope ["self", "processor"] ["self", "processor"] (defScope s_Sizes_acknowledge) := ⟨rfl, rfl, rfl, by decide +kernel, rfl, by decide +kernel, by decide +kernel⟩
theorem g_Sizes_acknowledge (T : Facts Kt) : MeK Kt 1 "acknowledge" 4 2 m_Sizes_acknowledge := by
  obtain ⟨C, hC, hm⟩ := T.k_Sizes
  obtain ⟨c, f, fd, M, F⟩ := T.d_Sizes_acknowledge C hC
  exact ⟨C, f, hC, c, M, fn_at F sc_Sizes_acknowledge (fun _ _ _ _ _ _ us hl => match us, hl with | [_, _], _ => rfl) fun cdv Ar outer s H E A => (ss_one (ss_ret (se_add A se_int (se_var 1))))⟩
abbrev NN_Stack_value : List Str := ["self"]
theorem sc_Stack_value : FnScope ["self"] ["self"] (defScope s_Stack_value) := ⟨rfl, rfl, rfl, by decide +kernel, rfl, by decide +kernel, by decide +kernel⟩
theorem g_Stack_value (T : Facts Kt) : MeK Kt 1 "value" 6 1 m_Stack_value := by
  obtain ⟨C, hC, hm⟩ := T.k_Stack
  obtain ⟨c, f, fd, M, F⟩ := T.d_Stack_value C hC
  exact ⟨C, f, hC, c, M, fn_at F sc_Stack_value (fun _ _ _ _ _ _ us hl => match us, hl with | [_], _ => rfl) fun cdv Ar outer s H E A => (ss_one (ss_ret (se_fld A (T.s (n := 32) rfl) T.ca_result (se_var 0))))⟩
abbrev NN_Stack_ended : List Str := ["self"]
theorem sc_Stack_ended : FnScope ["self"] ["self"] (defScope s_Stack_ended) := ⟨rfl, rfl, rfl, by decide +kernel, rfl, by decide +kernel, by decide +kernel⟩
theorem g_Stack_ended (T : Facts Kt) : MeK Kt 1 "ended" 6 1 m_Stack_ended := by
  obtain ⟨C, hC, hm⟩ := T.k_Stack
  obtain ⟨c, f, fd, M, F⟩ := T.d_Stack_ended C hC
  exact ⟨C, f, hC, c, M, fn_at F sc_Stack_ended (fun _ _ _ _ _ _ us hl => match us, hl with | [_], _ => rfl) fun cdv Ar outer s H E A => (ss_one (ss_ret (se_cmp (cm_eq A) (se_len A T.f_len (sa_cons (se_fld A (T.s (n := 46) rfl) T.ca_machines (se_var 0)) sa_nil)) se_int)))⟩
abbrev NN_Invalidating_accept : List Str := ["self", "result"]
theorem sc_Invalidating_accept : FnScope ["self", "result"] ["self", "result"] (defScope s_Invalidating_accept) := ⟨rfl, rfl, rfl, by decide +kernel, rfl, by decide +kernel, by decide +kernel⟩
theorem g_Invalidating_accept (T : Facts Kt) : MeK Kt 1 "accept" 10 2 m_Invalidating_accept := by
  obtain ⟨C, hC, hm⟩ := T.k_Invalidating
  obtain ⟨c, f, fd, M, F⟩ := T.d_Invalidating_accept C hC
  exact ⟨C, f, hC, c, M, fn_at F sc_Invalidating_accept (fun _ _ _ _ _ _ us hl => match us, hl with | [_, _], _ => rfl) fun cdv Ar outer s H E A => (ss_cons (ss_fld A (T.s (n := 54) rfl) T.ca_last (se_var 0) (se_ix A (se_var 1) se_int))
    (ss_one (ss_if (st_tru A (se_fld A (T.s (n := 51) rfl) T.ca_sends (se_var 0))) (ss_one (ss_fld A (T.s (n := 51) rfl) T.ca_sends (se_var 0) (se_sl A (se_fld A (T.s (n := 51) rfl) T.ca_sends (se_var 0)) (sl_so se_int) sl_no))) (ss_one (ss_if (st_cmp (cm_eq A) (se_ix A (se_var 1) se_int) (se_ix A (se_fld A (T.s (n := 52) rfl) T.ca_letter (se_var 0)) se_int)) (ss_one (ss_fld A (T.s (n := 53) rfl) T.ca_waits (se_var 0) (se_sl A (se_fld A (T.s (n := 53) rfl) T.ca_waits (se_var 0)) (sl_so se_int) sl_no))) ss_nil)))))⟩
abbrev NN_Stack_pass_on : List Str := ["self", "value"]
theorem sc_Stack_pass_on : FnScope ["self", "value"] ["self", "value"] (defScope s_Stack_pass_on) := ⟨rfl, rfl, rfl, by decide +kernel, rfl, by decide +kernel, by decide +kernel⟩
theorem g_Stack_pass_on (T : Facts Kt) : MeK Kt 2 "pass_on" 6 2 m_Stack_pass_on := by
  obtain ⟨C, hC, hm⟩ := T.k_Stack
  obtain ⟨c, f, fd, M, F⟩ := T.d_Stack_pass_on C hC
  exact ⟨C, f, hC, c, M, fn_at F sc_Stack_pass_on (fun _ _ _ _ _ _ us hl => match us, hl with | [_, _], _ => rfl) fun cdv Ar outer s H E A => (ss_one (ss_if (st_tru A (se_fld A (T.s (n := 46) rfl) T.ca_machines (se_var 0))) (ss_one (ss_expr (se_meth A (se_ix A (se_fld A (T.s (n := 46) rfl) T.ca_machines (se_var 0)) (se_neg se_int)) (T.s (n := 50) rfl) (mt_cons ((g_Invalidating_accept T).mono (by decide)) mt_nil) (sa_cons (se_var 1) sa_nil) (len_cons len_nil)))) (ss_one (ss_fld A (T.s (n := 32) rfl) T.ca_result (se_var 0) (se_var 1)))))⟩
abbrev NN_Invalidating_request : List Str := ["self"]
theorem sc_Invalidating_request : FnScope ["self"] ["self"] (defScope s_Invalidating_request) := ⟨rfl, rfl, rfl, by decide +kernel, rfl, by decide +kernel, by decide +kernel⟩
theorem g_Invalidating_request (T : Facts Kt) : MeK Kt 2 "request" 10 1 m_Invalidating_request := by
  obtain ⟨C, hC, hm⟩ := T.k_Invalidating
  obtain ⟨c, f, fd, M, F⟩ := T.d_Invalidating_request C hC
  exact ⟨C, f, hC, c, M, fn_at F sc_Invalidating_request (fun _ _ _ _ _ _ us hl => match us, hl with | [_], _ => rfl) fun cdv Ar outer s H E A => (ss_cons (ss_if (st_tru A (se_fld A (T.s (n := 51) rfl) T.ca_sends (se_var 0))) (ss_one (ss_ret (se_tup (sa_cons (se_str 12 (T.s rfl)) (sa_cons (se_ix A (se_fld A (T.s (n := 51) rfl) T.ca_sends (se_var 0)) se_int) (sa_cons (se_fld A (T.s (n := 52) rfl) T.ca_letter (se_var 0)) sa_nil)))))) ss_nil)
    (ss_cons (ss_if (st_tru A (se_fld A (T.s (n := 53) rfl) T.ca_waits (se_var 0))) (ss_one (ss_ret (se_tup (sa_cons (se_str 9 (T.s rfl)) (sa_cons (se_meth A (se_fld A (T.s (n := 2) rfl) T.ca_sizes (se_var 0)) (T.s (n := 26) rfl) (mt_cons ((g_Sizes_acknowledge T).mono (by decide)) mt_nil) (sa_cons (se_ix A (se_fld A (T.s (n := 53) rfl) T.ca_waits (se_var 0)) se_int) sa_nil) (len_cons len_nil)) sa_nil))))) ss_nil)
    (ss_one (ss_ret (se_tup (sa_cons (se_str 20 (T.s rfl)) (sa_cons (se_fld A (T.s (n := 54) rfl) T.ca_last (se_var 0)) sa_nil)))))))⟩
abbrev NN_Stack_settle : List Str := ["self", "request"]
theorem sc_Stack_settle : FnScope ["self", "request"] ["self"] (defScope s_Stack_settle) := ⟨rfl, rfl, rfl, by decide +kernel, rfl, by decide +kernel, by decide +kernel⟩
theorem g_Stack_settle (T : Facts Kt) : MeK Kt 3 "settle" 6 1 m_Stack_settle := by
  obtain ⟨C, hC, hm⟩ := T.k_Stack
  obtain ⟨c, f, fd, M, F⟩ := T.d_Stack_settle C hC
  exact ⟨C, f, hC, c, M, fn_at F sc_Stack_settle (fun _ _ _ _ _ _ us hl => match us, hl with | [_], _ => rfl) fun cdv Ar outer s H E A => (ss_one (ss_while 100000 A (st_tru A (se_fld A (T.s (n := 46) rfl) T.ca_machines (se_var 0))) (ss_cons (ss_set 1 A (se_meth0 A (se_ix A (se_fld A (T.s (n := 46) rfl) T.ca_machines (se_var 0)) (se_neg se_int)) (T.s (n := 55) rfl) (mt_cons ((g_Invalidating_request T).mono (by decide)) mt_nil)))
    (ss_one (ss_if (st_cmp (cm_eq A) (se_ix A (se_var 1) se_int) (se_str 21 (T.s rfl))) (ss_one (ss_expr (se_app A (se_fld A (T.s (n := 46) rfl) T.ca_machines (se_var 0)) (se_ix A (se_var 1) se_int)))) (ss_one (ss_if (st_cmp (cm_eq A) (se_ix A (se_var 1) se_int) (se_str 20 (T.s rfl))) (ss_cons (ss_expr (se_pop0 A (se_fld A (T.s (n := 46) rfl) T.ca_machines (se_var 0))))
    (ss_one (ss_expr (se_meth A (se_var 0) (T.s (n := 49) rfl) (mt_cons ((g_Stack_pass_on T).mono (by decide)) mt_nil) (sa_cons (se_ix A (se_var 1) se_int) sa_nil) (len_cons len_nil))))) (ss_one ss_retN))))))))⟩
abbrev NN_Sizes_frame_cell : List Str := ["self", "frame", "index"]
theorem sc_Sizes_frame_cell : FnScope ["self", "frame", "index"] ["self", "frame", "index"] (defScope s_Sizes_frame_cell) := ⟨rfl, rfl, rfl, by decide +kernel, rfl, by decide +kernel, by decide +kernel⟩
theorem g_Sizes_frame_cell (T : Facts Kt) : MeK Kt 1 "frame_cell" 4 3 m_Sizes_frame_cell := by
  obtain ⟨C, hC, hm⟩ := T.k_Sizes
  obtain ⟨c, f, fd, M, F⟩ := T.d_Sizes_frame_cell C hC
  exact ⟨C, f, hC, c, M, fn_at F sc_Sizes_frame_cell (fun _ _ _ _ _ _ us hl => match us, hl with | [_, _, _], _ => rfl) fun cdv Ar outer s H E A => (ss_one (ss_ret (se_add A (se_add A (se_add A (se_add A se_int (se_fld A (T.s (n := 4) rfl) T.ca_processors (se_var 0))) (se_mul (T.c_SPACES A) (T.c_PAGES A))) (se_mul (T.c_CELLS A) (se_var 1))) (se_var 2))))⟩
abbrev NN_Buffer_frame_for : List Str := ["self", "space", "page", "writing", "row"]
theorem sc_Buffer_frame_for : FnScope ["self", "space", "page", "writing", "row"] ["self", "space", "page", "writing"] (defScope s_Buffer_frame_for) := ⟨rfl, rfl, rfl, by decide +kernel, rfl, by decide +kernel, by decide +kernel⟩
theorem g_Buffer_frame_for (T : Facts Kt) : MeK Kt 1 "frame_for" 2 4 m_Buffer_frame_for := by
  obtain ⟨C, hC, hm⟩ := T.k_Buffer
  obtain ⟨c, f, fd, M, F⟩ := T.d_Buffer_frame_for C hC
  exact ⟨C, f, hC, c, M, fn_at F sc_Buffer_frame_for (fun _ _ _ _ _ _ us hl => match us, hl with | [_, _, _, _], _ => rfl) fun cdv Ar outer s H E A => (ss_cons (ss_for (vs := [4]) A (si_lst A (se_fld A (T.s (n := 0) rfl) T.ca_rows (se_var 0))) (sg_name 4 A.nd (by simp)) (ss_one (ss_if (PW.pt (sw_and (st_cmp (cm_eq A) (se_sl A (se_var 4) sl_no (sl_so se_int)) (se_tup (sa_cons (se_var 1) (sa_cons (se_var 2) sa_nil)))) (sw_and1 (PW.pt (sw_or (st_tru A (se_ix A (se_var 4) se_int)) (sw_or1 (st_not (st_tru A (se_var 3))))))))) (ss_one (ss_ret (se_ix A (se_var 4) se_int))) ss_nil)))
    (ss_one (ss_ret se_non)))⟩
abbrev NN_Memory_use : List Str := ["self", "processor", "request", "kind", "frame", "cell"]
theorem sc_Memory_use : FnScope ["self", "processor", "request", "kind", "frame", "cell"] ["self", "processor", "request"] (defScope s_Memory_use) := ⟨rfl, rfl, rfl, by decide +kernel, rfl, by decide +kernel, by decide +kernel⟩
theorem g_Memory_use (T : Facts Kt) : MeK Kt 2 "use" 5 3 m_Memory_use := by
  obtain ⟨C, hC, hm⟩ := T.k_Memory
  obtain ⟨c, f, fd, M, F⟩ := T.d_Memory_use C hC
  exact ⟨C, f, hC, c, M, fn_at F sc_Memory_use (fun _ _ _ _ _ _ us hl => match us, hl with | [_, _, _], _ => rfl) fun cdv Ar outer s H E A => (ss_cons (ss_set 3 A (se_ix A (se_var 2) se_int))
    (ss_cons (ss_set 4 A (se_meth A (se_ix A (se_fld A (T.s (n := 7) rfl) T.ca_buffers (se_var 0)) (se_var 1)) (T.s (n := 24) rfl) (mt_cons ((g_Buffer_frame_for T).mono (by decide)) mt_nil) (sa_cons (se_ix A (se_var 2) se_int) (sa_cons (se_ix A (se_var 2) se_int) (sa_cons (se_cmp (cm_ne A) (se_var 3) (se_str 15 (T.s rfl))) sa_nil))) (len_cons (len_cons (len_cons len_nil)))))
    (ss_cons (ss_if (st_cmp cm_is (se_var 4) se_non) (ss_one (ss_ret (se_if (st_cmp (cm_eq A) (se_var 3) (se_str 16 (T.s rfl))) se_bl se_non))) ss_nil)
    (ss_cons (ss_set 5 A (se_meth A (se_fld A (T.s (n := 2) rfl) T.ca_sizes (se_var 0)) (T.s (n := 27) rfl) (mt_cons ((g_Sizes_frame_cell T).mono (by decide)) mt_nil) (sa_cons (se_var 4) (sa_cons (se_ix A (se_var 2) se_int) sa_nil)) (len_cons (len_cons len_nil))))
    (ss_cons (ss_if (st_cmp (cm_eq A) (se_var 3) (se_str 15 (T.s rfl))) (ss_one (ss_ret (se_tup (sa_cons (se_ix A (se_fld A (T.s (n := 1) rfl) T.ca_held (se_var 0)) (se_var 5)) sa_nil)))) ss_nil)
    (ss_cons (ss_if (st_cmp (cm_eq A) (se_var 3) (se_str 16 (T.s rfl))) (ss_cons (ss_sub A (se_fld A (T.s (n := 1) rfl) T.ca_held (se_var 0)) (se_var 5) (se_ix A (se_var 2) se_int))
    (ss_one (ss_ret se_bl))) ss_nil)
    (ss_cons (ss_if (st_cmp (cm_ne A) (se_ix A (se_fld A (T.s (n := 1) rfl) T.ca_held (se_var 0)) (se_var 5)) (se_ix A (se_var 2) se_int)) (ss_one (ss_ret (se_tup (sa_cons (se_ix A (se_fld A (T.s (n := 1) rfl) T.ca_held (se_var 0)) (se_var 5)) sa_nil)))) ss_nil)
    (ss_cons (ss_sub A (se_fld A (T.s (n := 1) rfl) T.ca_held (se_var 0)) (se_var 5) (se_ix A (se_var 2) se_int))
    (ss_one (ss_ret (se_tup (sa_cons (se_str 19 (T.s rfl)) sa_nil))))))))))))⟩
abbrev NN_Buffer_drop : List Str := ["self", "pairs", "row"]
theorem sc_Buffer_drop : FnScope ["self", "pairs", "row"] ["self", "pairs"] (defScope s_Buffer_drop) := ⟨rfl, rfl, rfl, by decide +kernel, rfl, by decide +kernel, by decide +kernel⟩
theorem g_Buffer_drop (T : Facts Kt) : MeK Kt 1 "drop" 2 2 m_Buffer_drop := by
  obtain ⟨C, hC, hm⟩ := T.k_Buffer
  obtain ⟨c, f, fd, M, F⟩ := T.d_Buffer_drop C hC
  exact ⟨C, f, hC, c, M, fn_at F sc_Buffer_drop (fun _ _ _ _ _ _ us hl => match us, hl with | [_, _], _ => rfl) fun cdv Ar outer s H E A => (ss_one (ss_fld A (T.s (n := 0) rfl) T.ca_rows (se_var 0) (se_lcO (own := [("row", 2)]) A (si_lst A (se_fld A (T.s (n := 0) rfl) T.ca_rows (se_var 0))) (blkOk_by (N := NN_Buffer_drop) (sc := defScope s_Buffer_drop) (by decide +kernel)) (fun _ _ _ _ _ => (sg_name 2 A.nd (by simp))) (fun _ _ _ _ _ A => (sts_one (st_cmp (cm_notin A) (se_sl A (se_var 2) sl_no (sl_so se_int)) (se_var 1)))) (fun _ _ _ _ _ A => (se_var 2)))))⟩
abbrev NN_Buffer_put : List Str := ["self", "space", "page", "word"]
theorem sc_Buffer_put : FnScope ["self", "space", "page", "word"] ["self", "space", "page", "word"] (defScope s_Buffer_put) := ⟨rfl, rfl, rfl, by decide +kernel, rfl, by decide +kernel, by decide +kernel⟩
theorem g_Buffer_put (T : Facts Kt) : MeK Kt 2 "put" 2 4 m_Buffer_put := by
  obtain ⟨C, hC, hm⟩ := T.k_Buffer
  obtain ⟨c, f, fd, M, F⟩ := T.d_Buffer_put C hC
  exact ⟨C, f, hC, c, M, fn_at F sc_Buffer_put (fun _ _ _ _ _ _ us hl => match us, hl with | [_, _, _, _], _ => rfl) fun cdv Ar outer s H E A => (ss_cons (ss_expr (se_meth A (se_var 0) (T.s (n := 23) rfl) (mt_cons ((g_Buffer_drop T).mono (by decide)) mt_nil) (sa_cons (se_lst (sa_cons (se_tup (sa_cons (se_var 1) (sa_cons (se_var 2) sa_nil))) sa_nil)) sa_nil) (len_cons len_nil)))
    (ss_cons (ss_if (PW.pt (sw_and (st_cmp cm_not (se_var 3) se_non) (sw_and1 (st_cmp (cm_eq A) (se_ix A (se_var 3) se_int) (se_str 18 (T.s rfl)))))) (ss_one (ss_expr (se_app A (se_fld A (T.s (n := 0) rfl) T.ca_rows (se_var 0)) (se_tup (sa_cons (se_var 1) (sa_cons (se_var 2) (sa_cons (se_ix A (se_var 3) se_int) (sa_cons (se_ix A (se_var 3) se_int) sa_nil)))))))) ss_nil)
    (ss_one (ss_fld A (T.s (n := 0) rfl) T.ca_rows (se_var 0) (se_sl A (se_fld A (T.s (n := 0) rfl) T.ca_rows (se_var 0)) (sl_so (se_neg (T.c_MOST_ENTRIES A))) sl_no)))))⟩
abbrev NN_Box_take : List Str := ["self", "letter"]
theorem sc_Box_take : FnScope ["self", "letter"] ["self"] (defScope s_Box_take) := ⟨rfl, rfl, rfl, by decide +kernel, rfl, by decide +kernel, by decide +kernel⟩
theorem g_Box_take (T : Facts Kt) : MeK Kt 1 "take" 3 1 m_Box_take := by
  obtain ⟨C, hC, hm⟩ := T.k_Box
  obtain ⟨c, f, fd, M, F⟩ := T.d_Box_take C hC
  exact ⟨C, f, hC, c, M, fn_at F sc_Box_take (fun _ _ _ _ _ _ us hl => match us, hl with | [_], _ => rfl) fun cdv Ar outer s H E A => (ss_cons (ss_if (st_not (st_tru A (se_fld A (T.s (n := 0) rfl) T.ca_rows (se_var 0)))) (ss_one (ss_ret se_non)) ss_nil)
    (ss_cons (ss_set 1 A (se_ix A (se_fld A (T.s (n := 0) rfl) T.ca_rows (se_var 0)) se_int))
    (ss_cons (ss_fld A (T.s (n := 0) rfl) T.ca_rows (se_var 0) (se_slO A (se_fld A (T.s (n := 0) rfl) T.ca_rows (se_var 0)) (sl_so se_int) sl_no))
    (ss_one (ss_ret (se_var 1))))))⟩
abbrev NN_Owners_is_free : List Str := ["self", "number"]
theorem sc_Owners_is_free : FnScope ["self", "number"] ["self", "number"] (defScope s_Owners_is_free) := ⟨rfl, rfl, rfl, by decide +kernel, rfl, by decide +kernel, by decide +kernel⟩
theorem g_Owners_is_free (T : Facts Kt) : MeK Kt 1 "is_free" 7 2 m_Owners_is_free := by
  obtain ⟨C, hC, hm⟩ := T.k_Owners
  obtain ⟨c, f, fd, M, F⟩ := T.d_Owners_is_free C hC
  exact ⟨C, f, hC, c, M, fn_at F sc_Owners_is_free (fun _ _ _ _ _ _ us hl => match us, hl with | [_, _], _ => rfl) fun cdv Ar outer s H E A => (ss_one (ss_ret (se_and (se_cmp (cm_eq A) (se_len A T.f_len (sa_cons (se_ix A (se_fld A (T.s (n := 59) rfl) T.ca_lists (se_var 0)) (se_var 1)) sa_nil)) se_int) (se_one (se_cmp (cm_notin A) (se_var 1) (se_fld A (T.s (n := 58) rfl) T.ca_taken (se_var 0)))))))⟩
abbrev NN_Owners_take : List Str := ["self", "number"]
theorem sc_Owners_take : FnScope ["self", "number"] ["self"] (defScope s_Owners_take) := ⟨rfl, rfl, rfl, by decide +kernel, rfl, by decide +kernel, by decide +kernel⟩
theorem g_Owners_take (T : Facts Kt) : MeK Kt 2 "take" 7 1 m_Owners_take := by
  obtain ⟨C, hC, hm⟩ := T.k_Owners
  obtain ⟨c, f, fd, M, F⟩ := T.d_Owners_take C hC
  exact ⟨C, f, hC, c, M, fn_at F sc_Owners_take (fun _ _ _ _ _ _ us hl => match us, hl with | [_], _ => rfl) fun cdv Ar outer s H E A => (ss_cons (ss_for (vs := [1]) A (si_rng1 A (se_fld A (T.s (n := 56) rfl) T.ca_many (se_var 0)) T.f_range) (sg_name 1 A.nd (by simp)) (ss_one (ss_if (st_tru A (se_meth A (se_var 0) (T.s (n := 57) rfl) (mt_cons ((g_Owners_is_free T).mono (by decide)) mt_nil) (sa_cons (se_var 1) sa_nil) (len_cons len_nil))) (ss_cons (ss_expr (se_app A (se_fld A (T.s (n := 58) rfl) T.ca_taken (se_var 0)) (se_var 1)))
    (ss_one (ss_ret (se_var 1)))) ss_nil)))
    (ss_one (ss_ret se_non)))⟩
abbrev NN_Memory_take : List Str := ["self", "processor", "letter", "ticket", "pairs"]
theorem sc_Memory_take : FnScope ["self", "processor", "letter", "ticket", "pairs"] ["self", "processor"] (defScope s_Memory_take) := ⟨rfl, rfl, rfl, by decide +kernel, rfl, by decide +kernel, by decide +kernel⟩
theorem g_Memory_take (T : Facts Kt) : MeK Kt 3 "take" 5 2 m_Memory_take := by
  obtain ⟨C, hC, hm⟩ := T.k_Memory
  obtain ⟨c, f, fd, M, F⟩ := T.d_Memory_take C hC
  exact ⟨C, f, hC, c, M, fn_at F sc_Memory_take (fun _ _ _ _ _ _ us hl => match us, hl with | [_, _], _ => rfl) fun cdv Ar outer s H E A => (ss_cons (ss_set 2 A (se_meth0 A (se_ix A (se_fld A (T.s (n := 8) rfl) T.ca_boxes (se_var 0)) (se_var 1)) (T.s (n := 13) rfl) (mt_cons ((g_Owners_take T).mono (by decide)) (mt_cons ((g_Box_take T).mono (by decide)) mt_nil))))
    (ss_cons (ss_if (st_cmp cm_is (se_var 2) se_non) (ss_one (ss_ret se_bl)) ss_nil)
    (ss_cons (ss_asg (vs := [3, 4]) A (se_var 2) (sg_tup 2 A (sgs_cons (sg_name 3 A.nd (by simp)) (sgs_cons (sg_name 4 A.nd (by simp)) sgs_nil))))
    (ss_cons (ss_expr (se_meth A (se_ix A (se_fld A (T.s (n := 7) rfl) T.ca_buffers (se_var 0)) (se_var 1)) (T.s (n := 23) rfl) (mt_cons ((g_Buffer_drop T).mono (by decide)) mt_nil) (sa_cons (se_var 4) sa_nil) (len_cons len_nil)))
    (ss_cons (ss_sub A (se_fld A (T.s (n := 1) rfl) T.ca_held (se_var 0)) (se_meth A (se_fld A (T.s (n := 2) rfl) T.ca_sizes (se_var 0)) (T.s (n := 26) rfl) (mt_cons ((g_Sizes_acknowledge T).mono (by decide)) mt_nil) (sa_cons (se_var 1) sa_nil) (len_cons len_nil)) (se_var 3))
    (ss_one (ss_ret se_bl)))))))⟩
abbrev NN_Memory_cell_result : List Str := ["self", "request", "cell"]
theorem sc_Memory_cell_result : FnScope ["self", "request", "cell"] ["self", "request"] (defScope s_Memory_cell_result) := ⟨rfl, rfl, rfl, by decide +kernel, rfl, by decide +kernel, by decide +kernel⟩
theorem g_Memory_cell_result (T : Facts Kt) : MeK Kt 1 "cell_result" 5 2 m_Memory_cell_result := by
  obtain ⟨C, hC, hm⟩ := T.k_Memory
  obtain ⟨c, f, fd, M, F⟩ := T.d_Memory_cell_result C hC
  exact ⟨C, f, hC, c, M, fn_at F sc_Memory_cell_result (fun _ _ _ _ _ _ us hl => match us, hl with | [_, _], _ => rfl) fun cdv Ar outer s H E A => (ss_cons (ss_set 2 A (se_ix A (se_var 1) se_int))
    (ss_cons (ss_if (st_cmp (cm_eq A) (se_ix A (se_var 1) se_int) (se_str 9 (T.s rfl))) (ss_one (ss_ret (se_ix A (se_fld A (T.s (n := 1) rfl) T.ca_held (se_var 0)) (se_var 2)))) ss_nil)
    (ss_cons (ss_if (st_cmp (cm_eq A) (se_ix A (se_var 1) se_int) (se_str 10 (T.s rfl))) (ss_cons (ss_sub A (se_fld A (T.s (n := 1) rfl) T.ca_held (se_var 0)) (se_var 2) (se_ix A (se_var 1) se_int))
    (ss_one (ss_ret se_non))) ss_nil)
    (ss_cons (ss_if (st_cmp (cm_ne A) (se_ix A (se_fld A (T.s (n := 1) rfl) T.ca_held (se_var 0)) (se_var 2)) (se_ix A (se_var 1) se_int)) (ss_one (ss_ret se_bl)) ss_nil)
    (ss_cons (ss_sub A (se_fld A (T.s (n := 1) rfl) T.ca_held (se_var 0)) (se_var 2) (se_ix A (se_var 1) se_int))
    (ss_one (ss_ret se_bl)))))))⟩
abbrev NN_Memory_result : List Str := ["self", "processor", "request", "kind", "word"]
theorem sc_Memory_result : FnScope ["self", "processor", "request", "kind", "word"] ["self", "processor", "request"] (defScope s_Memory_result) := ⟨rfl, rfl, rfl, by decide +kernel, rfl, by decide +kernel, by decide +kernel⟩
theorem g_Memory_result (T : Facts Kt) : MeK Kt 4 "result" 5 3 m_Memory_result := by
  obtain ⟨C, hC, hm⟩ := T.k_Memory
  obtain ⟨c, f, fd, M, F⟩ := T.d_Memory_result C hC
  exact ⟨C, f, hC, c, M, fn_at F sc_Memory_result (fun _ _ _ _ _ _ us hl => match us, hl with | [_, _, _], _ => rfl) fun cdv Ar outer s H E A => (ss_cons (ss_set 3 A (se_ix A (se_var 2) se_int))
    (ss_cons (ss_if (st_cmp (cm_in A) (se_var 3) (se_tup (sa_cons (se_str 9 (T.s rfl)) (sa_cons (se_str 10 (T.s rfl)) (sa_cons (se_str 11 (T.s rfl)) sa_nil))))) (ss_one (ss_ret (se_meth A (se_var 0) (T.s (n := 33) rfl) (mt_cons ((g_Memory_cell_result T).mono (by decide)) mt_nil) (sa_cons (se_var 2) sa_nil) (len_cons len_nil)))) ss_nil)
    (ss_cons (ss_if (st_cmp (cm_eq A) (se_var 3) (se_str 12 (T.s rfl))) (ss_one (ss_ret se_non)) ss_nil)
    (ss_cons (ss_if (st_cmp (cm_eq A) (se_var 3) (se_str 13 (T.s rfl))) (ss_one (ss_ret (se_meth A (se_var 0) (T.s (n := 13) rfl) (mt_cons ((g_Memory_take T).mono (by decide)) mt_nil) (sa_cons (se_var 1) sa_nil) (len_cons len_nil)))) ss_nil)
    (ss_cons (ss_if (st_cmp (cm_eq A) (se_var 3) (se_str 14 (T.s rfl))) (ss_cons (ss_set 4 A (se_ix A (se_fld A (T.s (n := 1) rfl) T.ca_held (se_var 0)) (se_meth A (se_fld A (T.s (n := 2) rfl) T.ca_sizes (se_var 0)) (T.s (n := 25) rfl) (mt_cons ((g_Sizes_word T).mono (by decide)) mt_nil) (sa_cons (se_ix A (se_var 2) se_int) (sa_cons (se_ix A (se_var 2) se_int) sa_nil)) (len_cons (len_cons len_nil)))))
    (ss_cons (ss_expr (se_meth A (se_ix A (se_fld A (T.s (n := 7) rfl) T.ca_buffers (se_var 0)) (se_var 1)) (T.s (n := 22) rfl) (mt_cons ((g_Buffer_put T).mono (by decide)) mt_nil) (sa_cons (se_ix A (se_var 2) se_int) (sa_cons (se_ix A (se_var 2) se_int) (sa_cons (se_var 4) sa_nil))) (len_cons (len_cons (len_cons len_nil)))))
    (ss_one (ss_ret (se_var 4))))) ss_nil)
    (ss_one (ss_ret (se_meth A (se_var 0) (T.s (n := 34) rfl) (mt_cons ((g_Memory_use T).mono (by decide)) mt_nil) (sa_cons (se_var 1) (sa_cons (se_var 2) sa_nil)) (len_cons (len_cons len_nil))))))))))⟩
abbrev NN_is_pair : List Str := ["value"]
theorem sc_is_pair : FnScope ["value"] ["value"] (defScope s_is_pair) := ⟨rfl, rfl, rfl, by decide +kernel, rfl, by decide +kernel, by decide +kernel⟩
theorem g_is_pair (T : Facts Kt) : FnK Kt 2 "is_pair" 1 m_is_pair := by
  obtain ⟨f, fd, h1, h2, F⟩ := T.d_is_pair
  exact ⟨f, h1, h2, fn_at F sc_is_pair (fun _ _ _ _ _ _ us hl => match us, hl with | [_], _ => rfl) fun cdv Ar outer s H E A => (ss_cons (ss_if (PW.pt (sw_or (st_not (st_tru A (se_isi .tuple A T.f_isinstance T.f_tuple bt_tuple (se_var 0)))) (sw_or (st_cmp (cm_ne A) (se_len A T.f_len (sa_cons (se_var 0) sa_nil)) se_int) (sw_or (st_not (st_tru A (se_call A ((g_is_integer T).mono (by decide)) (sa_cons (se_ix A (se_var 0) se_int) sa_nil) (len_cons len_nil)))) (sw_or1 (st_not (st_tru A (se_call A ((g_is_integer T).mono (by decide)) (sa_cons (se_ix A (se_var 0) se_int) sa_nil) (len_cons len_nil))))))))) (ss_one (ss_ret se_bl)) ss_nil)
    (ss_one (ss_ret (se_and (se_chain cm_le cm_lt se_int (se_ix A (se_var 0) se_int) (T.c_SPACES A)) (se_one (se_chain cm_le cm_lt se_int (se_ix A (se_var 0) se_int) (T.c_PAGES A)))))))⟩
abbrev NN_is_letter : List Str := ["value", "pairs", "pair"]
theorem sc_is_letter : FnScope ["value", "pairs", "pair"] ["value"] (defScope s_is_letter) := ⟨rfl, rfl, rfl, by decide +kernel, rfl, by decide +kernel, by decide +kernel⟩
theorem g_is_letter (T : Facts Kt) : FnK Kt 3 "is_letter" 1 m_is_letter := by
  obtain ⟨f, fd, h1, h2, F⟩ := T.d_is_letter
  exact ⟨f, h1, h2, fn_at F sc_is_letter (fun _ _ _ _ _ _ us hl => match us, hl with | [_], _ => rfl) fun cdv Ar outer s H E A => (ss_cons (ss_if (PW.pt (sw_or (st_not (st_tru A (se_isi .tuple A T.f_isinstance T.f_tuple bt_tuple (se_var 0)))) (sw_or (st_cmp (cm_ne A) (se_len A T.f_len (sa_cons (se_var 0) sa_nil)) se_int) (sw_or (st_not (st_tru A (se_call A ((g_is_integer T).mono (by decide)) (sa_cons (se_ix A (se_var 0) se_int) sa_nil) (len_cons len_nil)))) (sw_or1 (st_cmp cm_lt (se_ix A (se_var 0) se_int) se_int)))))) (ss_one (ss_ret se_bl)) ss_nil)
    (ss_cons (ss_set 1 A (se_ix A (se_var 0) se_int))
    (ss_one (ss_ret (se_and (se_isi .tuple A T.f_isinstance T.f_tuple bt_tuple (se_var 1)) (se_and (se_cmp cm_gt (se_len A T.f_len (sa_cons (se_var 1) sa_nil)) se_int) (se_one (se_all A T.f_all (sa_cons (se_lc (own := [("pair", 2)]) A (si_tup A (se_var 1)) (blkOk_by (N := NN_is_letter) (sc := defScope s_is_letter) (by decide +kernel)) (fun _ _ _ _ _ => (sg_name 2 A.nd (by simp))) (fun _ _ _ _ _ A => sts_nil) (fun _ _ _ _ _ A => (se_call A ((g_is_pair T).mono (by decide)) (sa_cons (se_var 2) sa_nil) (len_cons len_nil)))) sa_nil)))))))))⟩
abbrev NN_Box_send : List Str := ["self", "letter"]
theorem sc_Box_send : FnScope ["self", "letter"] ["self", "letter"] (defScope s_Box_send) := ⟨rfl, rfl, rfl, by decide +kernel, rfl, by decide +kernel, by decide +kernel⟩
theorem g_Box_send (T : Facts Kt) : MeK Kt 4 "send" 3 2 m_Box_send := by
  obtain ⟨C, hC, hm⟩ := T.k_Box
  obtain ⟨c, f, fd, M, F⟩ := T.d_Box_send C hC
  exact ⟨C, f, hC, c, M, fn_at F sc_Box_send (fun _ _ _ _ _ _ us hl => match us, hl with | [_, _], _ => rfl) fun cdv Ar outer s H E A => (ss_cons (ss_if (st_not (st_tru A (se_call A ((g_is_letter T).mono (by decide)) (sa_cons (se_var 1) sa_nil) (len_cons len_nil)))) (ss_one (ss_raise A T.x_NotValid)) ss_nil)
    (ss_one (ss_expr (se_app A (se_fld A (T.s (n := 0) rfl) T.ca_rows (se_var 0)) (se_var 1)))))⟩
abbrev NN_Memory_check_page : List Str := ["self", "request"]
theorem sc_Memory_check_page : FnScope ["self", "request"] ["self", "request"] (defScope s_Memory_check_page) := ⟨rfl, rfl, rfl, by decide +kernel, rfl, by decide +kernel, by decide +kernel⟩
theorem g_Memory_check_page (T : Facts Kt) : MeK Kt 3 "check_page" 5 2 m_Memory_check_page := by
  obtain ⟨C, hC, hm⟩ := T.k_Memory
  obtain ⟨c, f, fd, M, F⟩ := T.d_Memory_check_page C hC
  exact ⟨C, f, hC, c, M, fn_at F sc_Memory_check_page (fun _ _ _ _ _ _ us hl => match us, hl with | [_, _], _ => rfl) fun cdv Ar outer s H E A => (ss_cons (ss_if (PW.pt (sw_or (st_not (st_tru A (se_call A ((g_is_within T).mono (by decide)) (sa_cons (se_ix A (se_var 1) se_int) (sa_cons se_int (sa_cons (se_sub (T.c_SPACES A) se_int) sa_nil))) (len_cons (len_cons (len_cons len_nil)))))) (sw_or1 (st_not (st_tru A (se_call A ((g_is_within T).mono (by decide)) (sa_cons (se_ix A (se_var 1) se_int) (sa_cons se_int (sa_cons (se_sub (T.c_PAGES A) se_int) sa_nil))) (len_cons (len_cons (len_cons len_nil))))))))) (ss_one (ss_raise A T.x_NotValid)) ss_nil)
    (ss_one (ss_if (PW.pt (sw_and (st_cmp (cm_ne A) (se_ix A (se_var 1) se_int) (se_str 14 (T.s rfl))) (sw_and1 (st_not (st_tru A (se_call A ((g_is_within T).mono (by decide)) (sa_cons (se_ix A (se_var 1) se_int) (sa_cons se_int (sa_cons (se_sub (T.c_CELLS A) se_int) sa_nil))) (len_cons (len_cons (len_cons len_nil))))))))) (ss_one (ss_raise A T.x_NotValid)) ss_nil)))⟩
abbrev NN_Memory_check_request : List Str := ["self", "processor", "request", "kind"]
theorem sc_Memory_check_request : FnScope ["self", "processor", "request", "kind"] ["self", "processor", "request"] (defScope s_Memory_check_request) := ⟨rfl, rfl, rfl, by decide +kernel, rfl, by decide +kernel, by decide +kernel⟩
theorem g_Memory_check_request (T : Facts Kt) : MeK Kt 4 "check_request" 5 3 m_Memory_check_request := by
  obtain ⟨C, hC, hm⟩ := T.k_Memory
  obtain ⟨c, f, fd, M, F⟩ := T.d_Memory_check_request C hC
  exact ⟨C, f, hC, c, M, fn_at F sc_Memory_check_request (fun _ _ _ _ _ _ us hl => match us, hl with | [_, _, _], _ => rfl) fun cdv Ar outer s H E A => (ss_cons (ss_if (PW.pt (sw_or (st_not (st_tru A (se_call A ((g_is_within T).mono (by decide)) (sa_cons (se_var 1) (sa_cons se_int (sa_cons (se_sub (se_fld A (T.s (n := 4) rfl) T.ca_processors (se_fld A (T.s (n := 2) rfl) T.ca_sizes (se_var 0))) se_int) sa_nil))) (len_cons (len_cons (len_cons len_nil)))))) (sw_or1 (st_not (st_tru A (se_isi .tuple A T.f_isinstance T.f_tuple bt_tuple (se_var 2))))))) (ss_one (ss_raise A T.x_NotValid)) ss_nil)
    (ss_cons (ss_if (PW.pt (sw_or (st_cmp (cm_eq A) (se_len A T.f_len (sa_cons (se_var 2) sa_nil)) se_int) (sw_or1 (st_cmp (cm_ne A) (se_dget A (T.c_LENGTHS A) (sa_cons (se_ix A (se_var 2) se_int) sa_nil)) (se_len A T.f_len (sa_cons (se_var 2) sa_nil)))))) (ss_one (ss_raise A T.x_NotValid)) ss_nil)
    (ss_cons (ss_set 3 A (se_ix A (se_var 2) se_int))
    (ss_one (ss_if (st_cmp (cm_in A) (se_var 3) (se_tup (sa_cons (se_str 9 (T.s rfl)) (sa_cons (se_str 10 (T.s rfl)) (sa_cons (se_str 11 (T.s rfl)) sa_nil))))) (ss_one (ss_expr (se_meth A (se_var 0) (T.s (n := 28) rfl) (mt_cons ((g_Memory_check_cell T).mono (by decide)) mt_nil) (sa_cons (se_ix A (se_var 2) se_int) sa_nil) (len_cons len_nil)))) (ss_one (ss_if (st_cmp (cm_eq A) (se_var 3) (se_str 12 (T.s rfl))) (ss_one (ss_if (st_not (st_tru A (se_call A ((g_is_within T).mono (by decide)) (sa_cons (se_ix A (se_var 2) se_int) (sa_cons se_int (sa_cons (se_sub (se_fld A (T.s (n := 4) rfl) T.ca_processors (se_fld A (T.s (n := 2) rfl) T.ca_sizes (se_var 0))) se_int) sa_nil))) (len_cons (len_cons (len_cons len_nil)))))) (ss_one (ss_raise A T.x_NotValid)) ss_nil)) (ss_one (ss_if (st_cmp (cm_ne A) (se_var 3) (se_str 13 (T.s rfl))) (ss_one (ss_expr (se_meth A (se_var 0) (T.s (n := 30) rfl) (mt_cons ((g_Memory_check_page T).mono (by decide)) mt_nil) (sa_cons (se_var 2) sa_nil) (len_cons len_nil)))) ss_nil)))))))))⟩
abbrev NN_Memory_access : List Str := ["self", "processor", "request"]
theorem sc_Memory_access : FnScope ["self", "processor", "request"] ["self", "processor", "request"] (defScope s_Memory_access) := ⟨rfl, rfl, rfl, by decide +kernel, rfl, by decide +kernel, by decide +kernel⟩
theorem g_Memory_access (T : Facts Kt) : MeK Kt 5 "access" 5 3 m_Memory_access := by
  obtain ⟨C, hC, hm⟩ := T.k_Memory
  obtain ⟨c, f, fd, M, F⟩ := T.d_Memory_access C hC
  exact ⟨C, f, hC, c, M, fn_at F sc_Memory_access (fun _ _ _ _ _ _ us hl => match us, hl with | [_, _, _], _ => rfl) fun cdv Ar outer s H E A => (ss_cons (ss_expr (se_meth A (se_var 0) (T.s (n := 29) rfl) (mt_cons ((g_Memory_check_request T).mono (by decide)) mt_nil) (sa_cons (se_var 1) (sa_cons (se_var 2) sa_nil)) (len_cons (len_cons len_nil))))
    (ss_cons (ss_if (st_cmp (cm_eq A) (se_ix A (se_var 2) se_int) (se_str 12 (T.s rfl))) (ss_one (ss_expr (se_meth A (se_ix A (se_fld A (T.s (n := 8) rfl) T.ca_boxes (se_var 0)) (se_ix A (se_var 2) se_int)) (T.s (n := 12) rfl) (mt_cons ((g_Box_send T).mono (by decide)) mt_nil) (sa_cons (se_ix A (se_var 2) se_int) sa_nil) (len_cons len_nil)))) ss_nil)
    (ss_cons (ss_auga A (T.s (n := 3) rfl) T.ca_count (se_var 0) se_int)
    (ss_cons (ss_expr (se_app A (se_fld A (T.s (n := 0) rfl) T.ca_rows (se_var 0)) (se_tup (sa_cons (se_fld A (T.s (n := 3) rfl) T.ca_count (se_var 0)) (sa_cons (se_var 1) (sa_cons (se_var 2) sa_nil))))))
    (ss_one (ss_ret (se_tup (sa_cons (se_meth A (se_var 0) (T.s (n := 32) rfl) (mt_cons ((g_Memory_result T).mono (by decide)) mt_nil) (sa_cons (se_var 1) (sa_cons (se_var 2) sa_nil)) (len_cons (len_cons len_nil))) (sa_cons (se_fld A (T.s (n := 3) rfl) T.ca_count (se_var 0)) sa_nil)))))))))⟩
abbrev NN_Stack_step : List Str := ["self", "memory", "processor", "top"]
theorem sc_Stack_step : FnScope ["self", "memory", "processor", "top"] ["self", "memory", "processor"] (defScope s_Stack_step) := ⟨rfl, rfl, rfl, by decide +kernel, rfl, by decide +kernel, by decide +kernel⟩
theorem g_Stack_step (T : Facts Kt) : MeK Kt 6 "step" 6 3 m_Stack_step := by
  obtain ⟨C, hC, hm⟩ := T.k_Stack
  obtain ⟨c, f, fd, M, F⟩ := T.d_Stack_step C hC
  exact ⟨C, f, hC, c, M, fn_at F sc_Stack_step (fun _ _ _ _ _ _ us hl => match us, hl with | [_, _, _], _ => rfl) fun cdv Ar outer s H E A => (ss_cons (ss_expr (se_meth0 A (se_var 0) (T.s (n := 48) rfl) (mt_cons ((g_Stack_settle T).mono (by decide)) mt_nil)))
    (ss_cons (ss_if (st_not (st_tru A (se_fld A (T.s (n := 46) rfl) T.ca_machines (se_var 0)))) (ss_one (ss_ret se_bl)) ss_nil)
    (ss_cons (ss_set 3 A (se_ix A (se_fld A (T.s (n := 46) rfl) T.ca_machines (se_var 0)) (se_neg se_int)))
    (ss_cons (ss_expr (se_meth A (se_var 3) (T.s (n := 50) rfl) (mt_cons ((g_Invalidating_accept T).mono (by decide)) mt_nil) (sa_cons (se_meth A (se_var 1) (T.s (n := 31) rfl) (mt_cons ((g_Memory_access T).mono (by decide)) mt_nil) (sa_cons (se_var 2) (sa_cons (se_meth0 A (se_var 3) (T.s (n := 55) rfl) (mt_cons ((g_Invalidating_request T).mono (by decide)) mt_nil)) sa_nil)) (len_cons (len_cons len_nil))) sa_nil) (len_cons len_nil)))
    (ss_cons (ss_expr (se_meth0 A (se_var 0) (T.s (n := 48) rfl) (mt_cons ((g_Stack_settle T).mono (by decide)) mt_nil)))
    (ss_one (ss_ret se_bl)))))))⟩
abbrev NN__law_other : List Str := ["_law_memory", "_law_p", "_law_number", "_law_kind"]
theorem sc__law_other : FnScope ["_law_memory", "_law_p", "_law_number", "_law_kind"] ["_law_memory", "_law_p", "_law_number"] (defScope s__law_other) := ⟨rfl, rfl, rfl, by decide +kernel, rfl, by decide +kernel, by decide +kernel⟩
theorem g__law_other (T : Facts Kt) : FnK Kt 6 "_law_other" 3 m__law_other := by
  obtain ⟨f, fd, h1, h2, F⟩ := T.d__law_other
  exact ⟨f, h1, h2, fn_at F sc__law_other (fun _ _ _ _ _ _ us hl => match us, hl with | [_, _, _], _ => rfl) fun cdv Ar outer s H E A => (ss_cons (ss_set 3 A (se_mod (se_var 2) se_int))
    (ss_one (ss_if (st_cmp cm_lt (se_var 3) se_int) (ss_one (ss_expr (se_meth A (se_var 0) (T.s (n := 31) rfl) (mt_cons ((g_Memory_access T).mono (by decide)) mt_nil) (sa_cons (se_var 1) (sa_cons (se_tup (sa_cons (se_str 14 (T.s rfl)) (sa_cons (se_mod (se_div (se_var 2) se_int) se_int) (sa_cons (se_mod (se_div (se_var 2) se_int) se_int) sa_nil)))) sa_nil)) (len_cons (len_cons len_nil))))) (ss_one (ss_if (st_cmp (cm_eq A) (se_var 3) se_int) (ss_one (ss_expr (se_meth A (se_var 0) (T.s (n := 31) rfl) (mt_cons ((g_Memory_access T).mono (by decide)) mt_nil) (sa_cons (se_var 1) (sa_cons (se_tup (sa_cons (se_str 13 (T.s rfl)) sa_nil)) sa_nil)) (len_cons (len_cons len_nil))))) ss_nil)))))⟩
abbrev NN__law_at : List Str := ["_law_tape_here", "_law_k"]
theorem sc__law_at : FnScope ["_law_tape_here", "_law_k"] ["_law_tape_here", "_law_k"] (defScope s__law_at) := ⟨rfl, rfl, rfl, by decide +kernel, rfl, by decide +kernel, by decide +kernel⟩
theorem g__law_at (T : Facts Kt) : FnK Kt 1 "_law_at" 2 m__law_at := by
  obtain ⟨f, fd, h1, h2, F⟩ := T.d__law_at
  exact ⟨f, h1, h2, fn_at F sc__law_at (fun _ _ _ _ _ _ us hl => match us, hl with | [_, _], _ => rfl) fun cdv Ar outer s H E A => (ss_cons (ss_if (st_cmp cm_lt (se_var 1) (se_len A T.f_len (sa_cons (se_var 0) sa_nil))) (ss_one (ss_ret (se_ix A (se_var 0) (se_var 1)))) ss_nil)
    (ss_one (ss_ret se_int)))⟩
abbrev NN__law_run : List Str := ["_law_memory", "_law_stack", "_law_many", "_law_tape_here", "_law_place", "_law_last", "_law_made", "_law_k", "_law_number", "_law_p", "_law_moved"]
theorem sc__law_run : FnScope ["_law_memory", "_law_stack", "_law_many", "_law_tape_here", "_law_place", "_law_last", "_law_made", "_law_k", "_law_number", "_law_p", "_law_moved"] ["_law_memory", "_law_stack", "_law_many", "_law_tape_here", "_law_place"] (defScope s__law_run) := ⟨rfl, rfl, rfl, by decide +kernel, rfl, by decide +kernel, by decide +kernel⟩
theorem g__law_run (T : Facts Kt) : FnK Kt 7 "_law_run" 5 m__law_run := by
  obtain ⟨f, fd, h1, h2, F⟩ := T.d__law_run
  exact ⟨f, h1, h2, fn_at F sc__law_run (fun _ _ _ _ _ _ us hl => match us, hl with | [_, _, _, _, _], _ => rfl) fun cdv Ar outer s H E A => (ss_cons (ss_set 5 A se_non)
    (ss_cons (ss_set 6 A se_int)
    (ss_cons (ss_for (vs := [7]) A (si_rng1 A se_int T.f_range) (sg_name 7 A.nd (by simp)) (ss_cons (ss_set 8 A (se_add A (se_call A ((g__law_at T).mono (by decide)) (sa_cons (se_var 3) (sa_cons (se_add A (se_var 4) (se_mod (se_var 7) se_int)) sa_nil)) (len_cons (len_cons len_nil))) (se_div (se_var 7) se_int)))
    (ss_cons (ss_set 9 A (se_mod (se_var 8) (se_var 2)))
    (ss_one (ss_if (PW.pt (sw_or (st_cmp (cm_eq A) (se_var 9) se_int) (sw_or1 (PW.pt (sw_and (st_cmp cm_gt (se_var 7) se_int) (sw_and1 (st_cmp (cm_eq A) (se_mod (se_var 7) se_int) se_int))))))) (ss_cons (ss_set 10 A (se_meth A (se_var 1) (T.s (n := 47) rfl) (mt_cons ((g_Stack_step T).mono (by decide)) mt_nil) (sa_cons (se_var 0) (sa_cons se_int sa_nil)) (len_cons (len_cons len_nil))))
    (ss_cons (ss_if (st_tru A (se_var 10)) (ss_cons (ss_set 6 A (se_add A (se_var 6) se_int))
    (ss_one (ss_set 5 A (se_fld A (T.s (n := 3) rfl) T.ca_count (se_var 0))))) ss_nil)
    (ss_one (ss_if (st_tru A (se_meth0 A (se_var 1) (T.s (n := 45) rfl) (mt_cons ((g_Stack_ended T).mono (by decide)) mt_nil))) (ss_one (ss_ret (se_tup (sa_cons (se_var 5) (sa_cons (se_var 6) sa_nil))))) ss_nil)))) (ss_cons (ss_expr (se_call A ((g__law_other T).mono (by decide)) (sa_cons (se_var 0) (sa_cons (se_var 9) (sa_cons (se_div (se_var 8) (se_var 2)) sa_nil))) (len_cons (len_cons (len_cons len_nil)))))
    (ss_one (ss_if (st_cmp cm_gt (se_var 7) se_int) (ss_one (ss_expr (se_meth A (se_var 0) (T.s (n := 31) rfl) (mt_cons ((g_Memory_access T).mono (by decide)) mt_nil) (sa_cons (se_var 9) (sa_cons (se_tup (sa_cons (se_str 13 (T.s rfl)) sa_nil)) sa_nil)) (len_cons (len_cons len_nil))))) ss_nil))))))))
    (ss_one (ss_ret (se_tup (sa_cons (se_var 5) (sa_cons (se_neg se_int) sa_nil))))))))⟩
abbrev NN_Stack___init__ : List Str := ["self", "machine"]
theorem sc_Stack___init__ : FnScope ["self", "machine"] ["self", "machine"] (defScope s_Stack___init__) := ⟨rfl, rfl, rfl, by decide +kernel, rfl, by decide +kernel, by decide +kernel⟩
theorem mk_Stack (T : Facts Kt) : MkK Kt 1 "Stack" 6 2 m_Stack___init__ := by
  obtain ⟨C, hC, hm⟩ := T.k_Stack
  obtain ⟨f, M, fd, F⟩ := T.mk_Stack C hC
  exact ⟨C, f, hC, hm, M, fn_at F sc_Stack___init__ (fun _ _ _ _ _ _ us hl => match us, hl with | [_, _], _ => rfl) fun cdv Ar outer s H E A => (ss_cons (ss_fld A (T.s (n := 46) rfl) T.ca_machines (se_var 0) (se_lstO (sa_cons (se_var 1) sa_nil)))
    (ss_one (ss_fld A (T.s (n := 32) rfl) T.ca_result (se_var 0) se_non)))⟩
abbrev NN_Kernel_next_ticket : List Str := ["self"]
theorem sc_Kernel_next_ticket : FnScope ["self"] ["self"] (defScope s_Kernel_next_ticket) := ⟨rfl, rfl, rfl, by decide +kernel, rfl, by decide +kernel, by decide +kernel⟩
theorem g_Kernel_next_ticket (T : Facts Kt) : MeK Kt 1 "next_ticket" 9 1 m_Kernel_next_ticket := by
  obtain ⟨C, hC, hm⟩ := T.k_Kernel
  obtain ⟨c, f, fd, M, F⟩ := T.d_Kernel_next_ticket C hC
  exact ⟨C, f, hC, c, M, fn_at F sc_Kernel_next_ticket (fun _ _ _ _ _ _ us hl => match us, hl with | [_], _ => rfl) fun cdv Ar outer s H E A => (ss_cons (ss_auga A (T.s (n := 43) rfl) T.ca_ticket (se_var 0) se_int)
    (ss_one (ss_ret (se_fld A (T.s (n := 43) rfl) T.ca_ticket (se_var 0)))))⟩
abbrev NN_Invalidating___init__ : List Str := ["self", "kernel", "processor", "pairs", "other"]
theorem sc_Invalidating___init__ : FnScope ["self", "kernel", "processor", "pairs", "other"] ["self", "kernel", "processor", "pairs"] (defScope s_Invalidating___init__) := ⟨rfl, rfl, rfl, by decide +kernel, rfl, by decide +kernel, by decide +kernel⟩
theorem mk_Invalidating (T : Facts Kt) : MkK Kt 2 "Invalidating" 10 4 m_Invalidating___init__ := by
  obtain ⟨C, hC, hm⟩ := T.k_Invalidating
  obtain ⟨f, M, fd, F⟩ := T.mk_Invalidating C hC
  exact ⟨C, f, hC, hm, M, fn_at F sc_Invalidating___init__ (fun _ _ _ _ _ _ us hl => match us, hl with | [_, _, _, _], _ => rfl) fun cdv Ar outer s H E A => (ss_cons (ss_fld A (T.s (n := 2) rfl) T.ca_sizes (se_var 0) (se_fld A (T.s (n := 2) rfl) T.ca_sizes (se_var 1)))
    (ss_cons (ss_fld A (T.s (n := 51) rfl) T.ca_sends (se_var 0) (se_lst sa_nil))
    (ss_cons (ss_fld A (T.s (n := 53) rfl) T.ca_waits (se_var 0) (se_lst sa_nil))
    (ss_cons (ss_fld A (T.s (n := 54) rfl) T.ca_last (se_var 0) se_non)
    (ss_cons (ss_fld A (T.s (n := 52) rfl) T.ca_letter (se_var 0) se_non)
    (ss_one (ss_if (st_tru A (se_var 3)) (ss_cons (ss_expr (se_meth A (se_ix A (se_fld A (T.s (n := 7) rfl) T.ca_buffers (se_fld A (T.s (n := 61) rfl) T.ca_memory (se_var 1))) (se_var 2)) (T.s (n := 23) rfl) (mt_cons ((g_Buffer_drop T).mono (by decide)) mt_nil) (sa_cons (se_list A T.f_list (sa_cons (se_var 3) sa_nil)) sa_nil) (len_cons len_nil)))
    (ss_cons (ss_fld A (T.s (n := 52) rfl) T.ca_letter (se_var 0) (se_tup (sa_cons (se_meth0 A (se_var 1) (T.s (n := 60) rfl) (mt_cons ((g_Kernel_next_ticket T).mono (by decide)) mt_nil)) (sa_cons (se_tuple A T.f_tuple (sa_cons (se_var 3) sa_nil)) sa_nil))))
    (ss_cons (ss_fld A (T.s (n := 51) rfl) T.ca_sends (se_var 0) (se_lc (own := [("other", 4)]) A (si_rng1 A (se_fld A (T.s (n := 4) rfl) T.ca_processors (se_fld A (T.s (n := 2) rfl) T.ca_sizes (se_var 0))) T.f_range) (blkOk_by (N := NN_Invalidating___init__) (sc := defScope s_Invalidating___init__) (by decide +kernel)) (fun _ _ _ _ _ => (sg_name 4 A.nd (by simp))) (fun _ _ _ _ _ A => (sts_one (st_cmp (cm_ne A) (se_var 4) (se_var 2)))) (fun _ _ _ _ _ A => (se_var 4))))
    (ss_one (ss_fld A (T.s (n := 53) rfl) T.ca_waits (se_var 0) (se_list A T.f_list (sa_cons (se_fld A (T.s (n := 51) rfl) T.ca_sends (se_var 0)) sa_nil))))))) ss_nil)))))))⟩
abbrev NN__law_word : List Str := ["_law_number"]
theorem sc__law_word : FnScope ["_law_number"] ["_law_number"] (defScope s__law_word) := ⟨rfl, rfl, rfl, by decide +kernel, rfl, by decide +kernel, by decide +kernel⟩
theorem g__law_word (T : Facts Kt) : FnK Kt 1 "_law_word" 1 m__law_word := by
  obtain ⟨f, fd, h1, h2, F⟩ := T.d__law_word
  exact ⟨f, h1, h2, fn_at F sc__law_word (fun _ _ _ _ _ _ us hl => match us, hl with | [_], _ => rfl) fun cdv Ar outer s H E A => (ss_one (ss_ret (se_ix A (se_lst (sa_cons (se_tup (sa_cons (se_str 18 (T.s rfl)) (sa_cons (se_mod (se_var 0) se_int) (sa_cons se_bl sa_nil)))) (sa_cons (se_tup (sa_cons (se_str 18 (T.s rfl)) (sa_cons (se_mod (se_var 0) se_int) (sa_cons se_bl sa_nil)))) (sa_cons se_non (sa_cons (se_tup (sa_cons (se_str 11 (T.s rfl)) (sa_cons se_int sa_nil))) sa_nil))))) (se_mod (se_div (se_var 0) se_int) se_int))))⟩
abbrev NN__law_change : List Str := ["_law_memory", "_law_tape_here", "_law_place", "_law_pairs", "_law_k", "_law_number", "_law_pair"]
theorem sc__law_change : FnScope ["_law_memory", "_law_tape_here", "_law_place", "_law_pairs", "_law_k", "_law_number", "_law_pair"] ["_law_memory", "_law_tape_here", "_law_place"] (defScope s__law_change) := ⟨rfl, rfl, rfl, by decide +kernel, rfl, by decide +kernel, by decide +kernel⟩
theorem g__law_change (T : Facts Kt) : FnK Kt 6 "_law_change" 3 m__law_change := by
  obtain ⟨f, fd, h1, h2, F⟩ := T.d__law_change
  exact ⟨f, h1, h2, fn_at F sc__law_change (fun _ _ _ _ _ _ us hl => match us, hl with | [_, _, _], _ => rfl) fun cdv Ar outer s H E A => (ss_cons (ss_set 3 A (se_lstO sa_nil))
    (ss_cons (ss_for (vs := [4]) A (si_rng1 A (se_mod (se_call A ((g__law_at T).mono (by decide)) (sa_cons (se_var 1) (sa_cons (se_var 2) sa_nil)) (len_cons (len_cons len_nil))) se_int) T.f_range) (sg_name 4 A.nd (by simp)) (ss_cons (ss_set 5 A (se_call A ((g__law_at T).mono (by decide)) (sa_cons (se_var 1) (sa_cons (se_add A (se_add A (se_var 2) se_int) (se_var 4)) sa_nil)) (len_cons (len_cons len_nil))))
    (ss_cons (ss_set 6 A (se_tup (sa_cons (se_mod (se_var 5) se_int) (sa_cons (se_mod (se_div (se_var 5) se_int) se_int) sa_nil))))
    (ss_one (ss_if (st_cmp (cm_notin A) (se_var 6) (se_var 3)) (ss_cons (ss_expr (se_app A (se_var 3) (se_var 6)))
    (ss_one (ss_expr (se_meth A (se_var 0) (T.s (n := 31) rfl) (mt_cons ((g_Memory_access T).mono (by decide)) mt_nil) (sa_cons se_int (sa_cons (se_tup (sa_cons (se_str 10 (T.s rfl)) (sa_cons (se_meth A (se_fld A (T.s (n := 2) rfl) T.ca_sizes (se_var 0)) (T.s (n := 25) rfl) (mt_cons ((g_Sizes_word T).mono (by decide)) mt_nil) (sa_cons (se_ix A (se_var 6) se_int) (sa_cons (se_ix A (se_var 6) se_int) sa_nil)) (len_cons (len_cons len_nil))) (sa_cons (se_call A ((g__law_word T).mono (by decide)) (sa_cons (se_div (se_var 5) se_int) sa_nil) (len_cons len_nil)) sa_nil)))) sa_nil)) (len_cons (len_cons len_nil)))))) ss_nil)))))
    (ss_one (ss_ret (se_frz (se_var 3))))))⟩
abbrev NN_Hand___init__ : List Str := ["self", "many"]
theorem sc_Hand___init__ : FnScope ["self", "many"] ["self", "many"] (defScope s_Hand___init__) := ⟨rfl, rfl, rfl, by decide +kernel, rfl, by decide +kernel, by decide +kernel⟩
theorem mk_Hand (T : Facts Kt) : MkK Kt 1 "Hand" 8 2 m_Hand___init__ := by
  obtain ⟨C, hC, hm⟩ := T.k_Hand
  obtain ⟨f, M, fd, F⟩ := T.mk_Hand C hC
  exact ⟨C, f, hC, hm, M, fn_at F sc_Hand___init__ (fun _ _ _ _ _ _ us hl => match us, hl with | [_, _], _ => rfl) fun cdv Ar outer s H E A => (ss_cons (ss_fld A (T.s (n := 56) rfl) T.ca_many (se_var 0) (se_var 1))
    (ss_one (ss_fld A (T.s (n := 62) rfl) T.ca_place (se_var 0) se_int)))⟩
abbrev NN_Owners___init__ : List Str := ["self", "many", "_"]
theorem sc_Owners___init__ : FnScope ["self", "many", "_"] ["self", "many"] (defScope s_Owners___init__) := ⟨rfl, rfl, rfl, by decide +kernel, rfl, by decide +kernel, by decide +kernel⟩
theorem mk_Owners (T : Facts Kt) : MkK Kt 1 "Owners" 7 2 m_Owners___init__ := by
  obtain ⟨C, hC, hm⟩ := T.k_Owners
  obtain ⟨f, M, fd, F⟩ := T.mk_Owners C hC
  exact ⟨C, f, hC, hm, M, fn_at F sc_Owners___init__ (fun _ _ _ _ _ _ us hl => match us, hl with | [_, _], _ => rfl) fun cdv Ar outer s H E A => (ss_cons (ss_fld A (T.s (n := 56) rfl) T.ca_many (se_var 0) (se_var 1))
    (ss_cons (ss_fld A (T.s (n := 59) rfl) T.ca_lists (se_var 0) (se_lc (own := [("_", 2)]) A (si_rng1 A (se_var 1) T.f_range) (blkOk_by (N := NN_Owners___init__) (sc := defScope s_Owners___init__) (by decide +kernel)) (fun _ _ _ _ _ => (sg_name 2 A.nd (by simp))) (fun _ _ _ _ _ A => sts_nil) (fun _ _ _ _ _ A => (se_lstO sa_nil))))
    (ss_one (ss_fld A (T.s (n := 58) rfl) T.ca_taken (se_var 0) (se_lstO sa_nil)))))⟩
abbrev NN_Kernel___init__ : List Str := ["self", "memory"]
theorem sc_Kernel___init__ : FnScope ["self", "memory"] ["self", "memory"] (defScope s_Kernel___init__) := ⟨rfl, rfl, rfl, by decide +kernel, rfl, by decide +kernel, by decide +kernel⟩
theorem mk_Kernel (T : Facts Kt) : MkK Kt 3 "Kernel" 9 2 m_Kernel___init__ := by
  obtain ⟨C, hC, hm⟩ := T.k_Kernel
  obtain ⟨f, M, fd, F⟩ := T.mk_Kernel C hC
  exact ⟨C, f, hC, hm, M, fn_at F sc_Kernel___init__ (fun _ _ _ _ _ _ us hl => match us, hl with | [_, _], _ => rfl) fun cdv Ar outer s H E A => (ss_cons (ss_fld A (T.s (n := 61) rfl) T.ca_memory (se_var 0) (se_var 1))
    (ss_cons (ss_fld A (T.s (n := 2) rfl) T.ca_sizes (se_var 0) (se_fld A (T.s (n := 2) rfl) T.ca_sizes (se_var 1)))
    (ss_cons (ss_fld A (T.s (n := 64) rfl) T.ca_spaces (se_var 0) (se_disp (sp_cons se_int (se_lst sa_nil) sp_nil)))
    (ss_cons (ss_fld A (T.s (n := 5) rfl) T.ca_frames (se_var 0) (se_make A ((mk_Owners T).mono (by decide)) (sa_cons (se_fld A (T.s (n := 5) rfl) T.ca_frames (se_fld A (T.s (n := 2) rfl) T.ca_sizes (se_var 0))) sa_nil) (len_cons len_nil)))
    (ss_cons (ss_fld A (T.s (n := 6) rfl) T.ca_blocks (se_var 0) (se_make A ((mk_Owners T).mono (by decide)) (sa_cons (se_fld A (T.s (n := 6) rfl) T.ca_blocks (se_fld A (T.s (n := 2) rfl) T.ca_sizes (se_var 0))) sa_nil) (len_cons len_nil)))
    (ss_cons (ss_fld A (T.s (n := 63) rfl) T.ca_hand (se_var 0) (se_make A ((mk_Hand T).mono (by decide)) (sa_cons (se_fld A (T.s (n := 5) rfl) T.ca_frames (se_fld A (T.s (n := 2) rfl) T.ca_sizes (se_var 0))) sa_nil) (len_cons len_nil)))
    (ss_one (ss_fld A (T.s (n := 43) rfl) T.ca_ticket (se_var 0) se_int))))))))⟩
abbrev NN_Box___init__ : List Str := ["self"]
theorem sc_Box___init__ : FnScope ["self"] ["self"] (defScope s_Box___init__) := ⟨rfl, rfl, rfl, by decide +kernel, rfl, by decide +kernel, by decide +kernel⟩
theorem mk_Box (T : Facts Kt) : MkK Kt 1 "Box" 3 1 m_Box___init__ := by
  obtain ⟨C, hC, hm⟩ := T.k_Box
  obtain ⟨f, M, fd, F⟩ := T.mk_Box C hC
  exact ⟨C, f, hC, hm, M, fn_at F sc_Box___init__ (fun _ _ _ _ _ _ us hl => match us, hl with | [_], _ => rfl) fun cdv Ar outer s H E A => (ss_one (ss_fld A (T.s (n := 0) rfl) T.ca_rows (se_var 0) (se_lstO sa_nil)))⟩
abbrev NN_Buffer___init__ : List Str := ["self"]
theorem sc_Buffer___init__ : FnScope ["self"] ["self"] (defScope s_Buffer___init__) := ⟨rfl, rfl, rfl, by decide +kernel, rfl, by decide +kernel, by decide +kernel⟩
theorem mk_Buffer (T : Facts Kt) : MkK Kt 1 "Buffer" 2 1 m_Buffer___init__ := by
  obtain ⟨C, hC, hm⟩ := T.k_Buffer
  obtain ⟨f, M, fd, F⟩ := T.mk_Buffer C hC
  exact ⟨C, f, hC, hm, M, fn_at F sc_Buffer___init__ (fun _ _ _ _ _ _ us hl => match us, hl with | [_], _ => rfl) fun cdv Ar outer s H E A => (ss_one (ss_fld A (T.s (n := 0) rfl) T.ca_rows (se_var 0) (se_lst sa_nil)))⟩
abbrev NN_first_values : List Str := ["sizes", "values"]
theorem sc_first_values : FnScope ["sizes", "values"] ["sizes"] (defScope s_first_values) := ⟨rfl, rfl, rfl, by decide +kernel, rfl, by decide +kernel, by decide +kernel⟩
theorem g_first_values (T : Facts Kt) : FnK Kt 1 "first_values" 1 m_first_values := by
  obtain ⟨f, fd, h1, h2, F⟩ := T.d_first_values
  exact ⟨f, h1, h2, fn_at F sc_first_values (fun _ _ _ _ _ _ us hl => match us, hl with | [_], _ => rfl) fun cdv Ar outer s H E A => (ss_cons (ss_set 1 A (se_add A (se_mul (se_lst (sa_cons se_int sa_nil)) (se_add A se_int (se_fld A (T.s (n := 4) rfl) T.ca_processors (se_var 0)))) (se_mul (se_lst (sa_cons se_non sa_nil)) (se_mul (T.c_SPACES A) (T.c_PAGES A)))))
    (ss_cons (ss_set 1 A (se_add A (se_var 1) (se_mul (se_lst (sa_cons se_int sa_nil)) (se_mul (T.c_CELLS A) (se_fld A (T.s (n := 5) rfl) T.ca_frames (se_var 0))))))
    (ss_one (ss_ret (se_addO A (se_var 1) (se_mul (se_lst (sa_cons (se_tup (sa_cons se_int (sa_cons se_int sa_nil))) sa_nil)) (se_add A (se_fld A (T.s (n := 6) rfl) T.ca_blocks (se_var 0)) (se_mul (T.c_FILES A) (T.c_FILE_PAGES A)))))))))⟩
abbrev NN_Memory___init__ : List Str := ["self", "sizes", "_"]
theorem sc_Memory___init__ : FnScope ["self", "sizes", "_"] ["self", "sizes"] (defScope s_Memory___init__) := ⟨rfl, rfl, rfl, by decide +kernel, rfl, by decide +kernel, by decide +kernel⟩
theorem mk_Memory (T : Facts Kt) : MkK Kt 3 "Memory" 5 2 m_Memory___init__ := by
  obtain ⟨C, hC, hm⟩ := T.k_Memory
  obtain ⟨f, M, fd, F⟩ := T.mk_Memory C hC
  exact ⟨C, f, hC, hm, M, fn_at F sc_Memory___init__ (fun _ _ _ _ _ _ us hl => match us, hl with | [_, _], _ => rfl) fun cdv Ar outer s H E A => (ss_cons (ss_fld A (T.s (n := 2) rfl) T.ca_sizes (se_var 0) (se_var 1))
    (ss_cons (ss_fld A (T.s (n := 3) rfl) T.ca_count (se_var 0) se_int)
    (ss_cons (ss_fld A (T.s (n := 1) rfl) T.ca_held (se_var 0) (se_call A ((g_first_values T).mono (by decide)) (sa_cons (se_var 1) sa_nil) (len_cons len_nil)))
    (ss_cons (ss_fld A (T.s (n := 7) rfl) T.ca_buffers (se_var 0) (se_lc (own := [("_", 2)]) A (si_rng1 A (se_fld A (T.s (n := 4) rfl) T.ca_processors (se_var 1)) T.f_range) (blkOk_by (N := NN_Memory___init__) (sc := defScope s_Memory___init__) (by decide +kernel)) (fun _ _ _ _ _ => (sg_name 2 A.nd (by simp))) (fun _ _ _ _ _ A => sts_nil) (fun _ _ _ _ _ A => (se_make0 A ((mk_Buffer T).mono (by decide))))))
    (ss_cons (ss_fld A (T.s (n := 8) rfl) T.ca_boxes (se_var 0) (se_lc (own := [("_", 2)]) A (si_rng1 A (se_fld A (T.s (n := 4) rfl) T.ca_processors (se_var 1)) T.f_range) (blkOk_by (N := NN_Memory___init__) (sc := defScope s_Memory___init__) (by decide +kernel)) (fun _ _ _ _ _ => (sg_name 2 A.nd (by simp))) (fun _ _ _ _ _ A => sts_nil) (fun _ _ _ _ _ A => (se_make0 A ((mk_Box T).mono (by decide))))))
    (ss_one (ss_fld A (T.s (n := 0) rfl) T.ca_rows (se_var 0) (se_lstO sa_nil))))))))⟩
abbrev NN_Sizes___init__ : List Str := ["self", "processors", "frames", "blocks"]
theorem sc_Sizes___init__ : FnScope ["self", "processors", "frames", "blocks"] ["self", "processors", "frames", "blocks"] (defScope s_Sizes___init__) := ⟨rfl, rfl, rfl, by decide +kernel, rfl, by decide +kernel, by decide +kernel⟩
theorem mk_Sizes (T : Facts Kt) : MkK Kt 3 "Sizes" 4 4 m_Sizes___init__ := by
  obtain ⟨C, hC, hm⟩ := T.k_Sizes
  obtain ⟨f, M, fd, F⟩ := T.mk_Sizes C hC
  exact ⟨C, f, hC, hm, M, fn_at F sc_Sizes___init__ (fun _ _ _ _ _ _ us hl => match us, hl with | [_, _, _, _], _ => rfl) fun cdv Ar outer s H E A => (ss_cons (ss_if (PW.pt (sw_or (st_not (st_tru A (se_call A ((g_is_within T).mono (by decide)) (sa_cons (se_var 1) (sa_cons se_int (sa_cons (T.c_MOST_PROCESSORS A) sa_nil))) (len_cons (len_cons (len_cons len_nil)))))) (sw_or1 (st_not (st_tru A (se_call A ((g_is_within T).mono (by decide)) (sa_cons (se_var 2) (sa_cons (T.c_LEAST_FRAMES A) (sa_cons (T.c_MOST_FRAMES A) sa_nil))) (len_cons (len_cons (len_cons len_nil))))))))) (ss_one (ss_raise A T.x_NotValid)) ss_nil)
    (ss_cons (ss_if (st_not (st_tru A (se_call A ((g_is_within T).mono (by decide)) (sa_cons (se_var 3) (sa_cons se_int (sa_cons (T.c_MOST_BLOCKS A) sa_nil))) (len_cons (len_cons (len_cons len_nil)))))) (ss_one (ss_raise A T.x_NotValid)) ss_nil)
    (ss_cons (ss_fld A (T.s (n := 4) rfl) T.ca_processors (se_var 0) (se_var 1))
    (ss_cons (ss_fld A (T.s (n := 5) rfl) T.ca_frames (se_var 0) (se_var 2))
    (ss_one (ss_fld A (T.s (n := 6) rfl) T.ca_blocks (se_var 0) (se_var 3)))))))⟩
abbrev NN__law_tape : List Str := ["_law_script", "_law_tape_here", "_law_k", "_law_value", "_law_step"]
theorem sc__law_tape : FnScope ["_law_script", "_law_tape_here", "_law_k", "_law_value", "_law_step"] ["_law_script"] (defScope s__law_tape) := ⟨rfl, rfl, rfl, by decide +kernel, rfl, by decide +kernel, by decide +kernel⟩
theorem g__law_tape (T : Facts Kt) : FnK Kt 1 "_law_tape" 1 m__law_tape := by
  obtain ⟨f, fd, h1, h2, F⟩ := T.d__law_tape
  exact ⟨f, h1, h2, fn_at F sc__law_tape (fun _ _ _ _ _ _ us hl => match us, hl with | [_], _ => rfl) fun cdv Ar outer s H E A => (ss_cons (ss_set 1 A (se_lstO sa_nil))
    (ss_cons (ss_for (vs := [2]) A (si_rng1 A (se_len A T.f_len (sa_cons (se_var 0) sa_nil)) T.f_range) (sg_name 2 A.nd (by simp)) (ss_cons (ss_set 3 A (se_abs A T.f_abs (sa_cons (se_int1 A T.f_int (sa_cons (se_ix A (se_var 0) (se_var 2)) sa_nil)) sa_nil)))
    (ss_one (ss_if (st_cmp cm_ge (se_var 3) (se_pow se_int se_int)) (ss_one (ss_for (vs := [4]) A (si_rng1 A se_int T.f_range) (sg_name 4 A.nd (by simp)) (ss_one (ss_if (st_cmp cm_gt (se_var 3) se_int) (ss_cons (ss_expr (se_app A (se_var 1) (se_mod (se_var 3) se_int)))
    (ss_one (ss_set 3 A (se_div (se_var 3) se_int)))) ss_nil)))) (ss_one (ss_for (vs := [4]) A (si_rng1 A se_int T.f_range) (sg_name 4 A.nd (by simp)) (ss_cons (ss_set 3 A (se_mod (se_add A (se_add A (se_mul (se_var 3) se_int) (se_mul se_int (se_add A (se_var 2) se_int))) (se_mul se_int (se_var 4))) se_int))
    (ss_cons (ss_set 3 A (se_mod (se_mul (se_var 3) se_int) se_int))
    (ss_one (ss_expr (se_app A (se_var 1) (se_mod (se_div (se_var 3) se_int) se_int))))))))))))
    (ss_one (ss_ret (se_frz (se_var 1))))))⟩
abbrev NN_law : List Str := ["_law_script", "_law_tape_here", "_law_many", "_law_memory", "_law_kernel", "_law_space", "_law_page", "_law_ticket", "_law_turn", "_law_k", "_law_number", "_law_pairs", "_law_passed", "_law_stack", "_law_last", "_law_made", "_law_least", "_law_p"]
theorem sc_law : FnScope ["_law_script", "_law_tape_here", "_law_many", "_law_memory", "_law_kernel", "_law_space", "_law_page", "_law_ticket", "_law_turn", "_law_k", "_law_number", "_law_pairs", "_law_passed", "_law_stack", "_law_last", "_law_made", "_law_least", "_law_p"] ["_law_script"] (defScope s_law) := ⟨rfl, rfl, rfl, by decide +kernel, rfl, by decide +kernel, by decide +kernel⟩
theorem law_ok (T : Facts Kt) {f : Addr} {fd : FuncData} (F : FunD Kt.K "law" "law" (defArgs s_law) (defBody s_law) (defScope s_law) [] [] f fd) : FnOk Kt.P Kt.w Kt.K Kt.mg Kt.base (L2.CX Kt.P Kt.w) 8 f fd ["_law_script"] (spM Kt 1 m_law) :=
  fn_ok F sc_law fun cdv Ar outer s H E A => (ss_cons (ss_set 1 A (se_call A ((g__law_tape T).mono (by decide)) (sa_cons (se_var 0) sa_nil) (len_cons len_nil)))
    (ss_cons (ss_set 2 A (se_add A se_int (se_mod (se_call A ((g__law_at T).mono (by decide)) (sa_cons (se_var 1) (sa_cons se_int sa_nil)) (len_cons (len_cons len_nil))) se_int)))
    (ss_cons (ss_set 3 A (se_make A ((mk_Memory T).mono (by decide)) (sa_cons (se_make A ((mk_Sizes T).mono (by decide)) (sa_cons (se_var 2) (sa_cons se_int (sa_cons se_int sa_nil))) (len_cons (len_cons (len_cons len_nil)))) sa_nil) (len_cons len_nil)))
    (ss_cons (ss_set 4 A (se_make A ((mk_Kernel T).mono (by decide)) (sa_cons (se_var 3) sa_nil) (len_cons len_nil)))
    (ss_cons (ss_for (vs := [5]) A (si_rng1 A se_int T.f_range) (sg_name 5 A.nd (by simp)) (ss_one (ss_for (vs := [6]) A (si_rng1 A se_int T.f_range) (sg_name 6 A.nd (by simp)) (ss_one (ss_expr (se_meth A (se_var 3) (T.s (n := 31) rfl) (mt_cons ((g_Memory_access T).mono (by decide)) mt_nil) (sa_cons se_int (sa_cons (se_tup (sa_cons (se_str 10 (T.s rfl)) (sa_cons (se_meth A (se_fld A (T.s (n := 2) rfl) T.ca_sizes (se_var 3)) (T.s (n := 25) rfl) (mt_cons ((g_Sizes_word T).mono (by decide)) mt_nil) (sa_cons (se_var 5) (sa_cons (se_var 6) sa_nil)) (len_cons (len_cons len_nil))) (sa_cons (se_tup (sa_cons (se_str 18 (T.s rfl)) (sa_cons (se_var 6) (sa_cons se_bl sa_nil)))) sa_nil)))) sa_nil)) (len_cons (len_cons len_nil))))))))
    (ss_cons (ss_set 7 A se_int)
    (ss_cons (ss_for (vs := [8]) A (si_rng1 A (se_min A T.f_min (sa_cons se_int (sa_cons (se_add A se_int (se_div (se_len A T.f_len (sa_cons (se_var 1) sa_nil)) se_int)) sa_nil))) T.f_range) (sg_name 8 A.nd (by simp)) (ss_cons (ss_for (vs := [9]) A (si_rng1 A (se_mod (se_call A ((g__law_at T).mono (by decide)) (sa_cons (se_var 1) (sa_cons (se_add A (se_var 8) se_int) sa_nil)) (len_cons (len_cons len_nil))) se_int) T.f_range) (sg_name 9 A.nd (by simp)) (ss_cons (ss_set 10 A (se_call A ((g__law_at T).mono (by decide)) (sa_cons (se_var 1) (sa_cons (se_add A (se_var 8) (se_var 9)) sa_nil)) (len_cons (len_cons len_nil))))
    (ss_one (ss_expr (se_call A ((g__law_other T).mono (by decide)) (sa_cons (se_var 3) (sa_cons (se_mod (se_var 10) (se_var 2)) (sa_cons (se_div (se_var 10) (se_var 2)) sa_nil))) (len_cons (len_cons (len_cons len_nil))))))))
    (ss_cons (ss_set 11 A (se_call A ((g__law_change T).mono (by decide)) (sa_cons (se_var 3) (sa_cons (se_var 1) (sa_cons (se_add A (se_mul se_int (se_var 8)) se_int) sa_nil))) (len_cons (len_cons (len_cons len_nil)))))
    (ss_cons (ss_set 12 A (se_list A T.f_list (sa_cons (se_var 11) sa_nil)))
    (ss_cons (ss_set 13 A (se_make A ((mk_Stack T).mono (by decide)) (sa_cons (se_make A ((mk_Invalidating T).mono (by decide)) (sa_cons (se_var 4) (sa_cons se_int (sa_cons (se_var 12) sa_nil))) (len_cons (len_cons (len_cons len_nil)))) sa_nil) (len_cons len_nil)))
    (ss_cons (ss_asg (vs := [14, 15]) A (se_call A ((g__law_run T).mono (by decide)) (sa_cons (se_var 3) (sa_cons (se_var 13) (sa_cons (se_var 2) (sa_cons (se_var 1) (sa_cons (se_add A (se_mul se_int (se_var 8)) se_int) sa_nil))))) (len_cons (len_cons (len_cons (len_cons (len_cons len_nil)))))) (sg_tup 2 A (sgs_cons (sg_name 14 A.nd (by simp)) (sgs_cons (sg_name 15 A.nd (by simp)) sgs_nil))))
    (ss_cons (ss_set 16 A (se_mul (se_mul (se_int1 A T.f_int (sa_cons (se_cmp cm_gt (se_len A T.f_len (sa_cons (se_var 11) sa_nil)) se_int) sa_nil)) se_int) (se_sub (se_var 2) se_int)))
    (ss_cons (ss_if (PW.pt (sw_or (st_cmp cm_lt (se_var 15) (se_var 16)) (sw_or (PW.pt (sw_and (st_cmp (cm_eq A) (se_var 16) se_int) (sw_and1 (st_cmp (cm_ne A) (se_var 15) se_int)))) (sw_or (st_not (st_tru A (se_meth0 A (se_var 13) (T.s (n := 45) rfl) (mt_cons ((g_Stack_ended T).mono (by decide)) mt_nil)))) (sw_or (st_cmp (cm_ne A) (se_meth0 A (se_var 13) (T.s (n := 44) rfl) (mt_cons ((g_Stack_value T).mono (by decide)) mt_nil)) (se_var 14)) (sw_or1 (st_cmp (cm_ne A) (se_var 12) (se_var 11)))))))) (ss_one (ss_ret se_bl)) ss_nil)
    (ss_cons (ss_if (st_cmp cm_gt (se_len A T.f_len (sa_cons (se_var 11) sa_nil)) se_int) (ss_cons (ss_set 7 A (se_add A (se_var 7) se_int))
    (ss_one (ss_for (vs := [17]) A (si_rng2 A se_int (se_var 2) T.f_range) (sg_name 17 A.nd (by simp)) (ss_one (ss_if (st_cmp (cm_ne A) (se_meth A (se_var 3) (T.s (n := 35) rfl) (mt_cons ((g_Memory_peek T).mono (by decide)) mt_nil) (sa_cons (se_meth A (se_fld A (T.s (n := 2) rfl) T.ca_sizes (se_var 3)) (T.s (n := 26) rfl) (mt_cons ((g_Sizes_acknowledge T).mono (by decide)) mt_nil) (sa_cons (se_var 17) sa_nil) (len_cons len_nil)) sa_nil) (len_cons len_nil)) (se_var 7)) (ss_one (ss_ret se_bl)) ss_nil))))) ss_nil)
    (ss_one (ss_if (PW.pt (sw_or (st_cmp (cm_ne A) (se_fld A (T.s (n := 43) rfl) T.ca_ticket (se_var 4)) (se_var 7)) (sw_or1 (st_not (st_tru A (se_call A ((g__law_entries T).mono (by decide)) (sa_cons (se_var 3) (sa_cons (se_var 2) (sa_cons (se_var 11) sa_nil))) (len_cons (len_cons (len_cons len_nil))))))))) (ss_one (ss_ret se_bl)) ss_nil)))))))))))
    (ss_one (ss_ret se_bl)))))))))
end
end Z

set_option Elab.async false
set_option linter.all false
set_option maxRecDepth 100000
namespace Z
open PySem L2 Y
/-! ### a memory -/
section
variable {g : G}
theorem within_ok {v lo hi : Int} (h1 : lo ≤ v) (h2 : v ≤ hi) : m_is_within [.int v, .int lo, .int hi] g = .ok (.bl true) g := by
  simp [m_is_within, fnM_s, b_is_within, m_is_integer, b_is_integer, h1, h2]
theorem within_no {v lo hi : Int} (h : ¬ (lo ≤ v ∧ v ≤ hi)) : m_is_within [.int v, .int lo, .int hi] g = .ok (.bl false) g := by
  by_cases h1 : lo ≤ v
  · have h2 : ¬ v ≤ hi := fun q => h ⟨h1, q⟩
    simp [m_is_within, fnM_s, b_is_within, m_is_integer, b_is_integer, h1, h2]
  · simp [m_is_within, fnM_s, b_is_within, m_is_integer, b_is_integer, h1]
theorem within_bl {v : Bool} {lo hi : D} : m_is_within [.bl v, lo, hi] g = .ok (.bl false) g := by
  simp [m_is_within, fnM_s, b_is_within, m_is_integer, b_is_integer]
theorem pure_snap {n : Nat} {v : D} (h : pud n v = true) : snap g v = v := by
  cases v with
  | ref l => cases n <;> cases h
  | _ => rfl
def memF (s h r : Nat) (cnt : Int) (bs xs : D) : List (Nat × D) := [(2, .ref s), (3, .int cnt), (1, .ref h), (7, bs), (8, xs), (0, .ref r)]
structure MC (g : G) (m s h r : Nat) (P N B cnt : Int) (bs xs : D) (held log : List D) : Prop where
  mo : g[m]? = some (.ins 5 (memF s h r cnt bs xs))
  so : g[s]? = some (.ins 4 [(4, .int P), (5, .int N), (6, .int B)])
  ho : g[h]? = some (.lst held)
  ro : g[r]? = some (.lst log)
  hr : h ≠ r
  hl : held.length < 1000
  ll : log.length < 100000
/-- what an access of a cell does: its result, the cells behind it -/
def cellDo (held : List D) (k : Nat) (c : Int) (rest : List D) : D × List D := match k, rest with
  | 9, _ => ((atI held c).getD .non, held)
  | 10, [x] => (.non, held.set c.toNat x)
  | 11, [x, y] => bif deq ((atI held c).getD .non) x then (.bl true, held.set c.toNat y) else (.bl false, held)
  | _, _ => (.non, held)
theorem cellDo_len {held : List D} {k : Nat} {c : Int} {rest : List D} : (cellDo held k c rest).2.length = held.length := by
  unfold cellDo
  split
  · rfl
  · simp
  · cases deq _ _ <;> simp
  · rfl
/-- what an access does before its result -/
def rowG (g : G) (m s h r : Nat) (cnt : Int) (bs xs : D) (log : List D) (y : D) : G := (g.set m (.ins 5 (memF s h r (cnt + 1) bs xs))).set r (.lst (log ++ [y]))
variable {m s h r : Nat} {P N B cnt : Int} {bs xs : D} {held log : List D}
section
variable (M : MC g m s h r P N B cnt bs xs held log)
include M
theorem MC.mh : m ≠ h := fun e => by have a := M.mo; rw [e, M.ho] at a; cases a
theorem MC.mr : m ≠ r := fun e => by have a := M.mo; rw [e, M.ro] at a; cases a
theorem MC.ms : m ≠ s := fun e => by have a := M.mo; rw [e, M.so] at a; cases a
theorem MC.sh : s ≠ h := fun e => by have a := M.so; rw [e, M.ho] at a; cases a
theorem MC.sr : s ≠ r := fun e => by have a := M.so; rw [e, M.ro] at a; cases a
theorem MC.held_ : fldD [5] 1 g (.ref m) = some (.ref h) := fldD_e M.mo rfl rfl
theorem MC.sizes_ : fldD [9, 10, 5] 2 g (.ref m) = some (.ref s) := fldD_e M.mo rfl rfl
theorem MC.count_ : fldD [5] 3 g (.ref m) = some (.int cnt) := fldD_e M.mo rfl rfl
theorem MC.rows_ : fldD [3, 2, 5] 0 g (.ref m) = some (.ref r) := fldD_e M.mo rfl rfl
theorem MC.procs : fldD [4] 4 g (.ref s) = some (.int P) := fldD_e M.so rfl rfl
theorem MC.frames_ : fldD [9, 4] 5 g (.ref s) = some (.int N) := fldD_e M.so rfl rfl
theorem MC.blocks_ : fldD [9, 4] 6 g (.ref s) = some (.int B) := fldD_e M.so rfl rfl
theorem MC.lenH : lenD g [.ref h] = some (.int held.length) := by simp [lenD, itD, lsD_ref M.ho]
theorem MC.at_ {c : Int} {v : D} (hv : atI held c = some v) : ixD g (.ref h) (.int c) = some v := by
  unfold ixD itD
  simp only [lsD_ref M.ho, hv]
/-- a method of the memory -/
theorem MC.meth {nm : Nat} {tbl : List (Nat × MF)} {o : EM} {ms : AM} {e : En} {mf : MF} {ds : List D} {g2 : G} (ho : o e g = .ok (.ref m) g) (hn : lkA nm (memF s h r cnt bs xs) = none) (hm : lkM 5 tbl = some mf) (ha : ms e g = .ok ds g2) : vMeth nm tbl o ms e g = mf (.ref m :: ds) g2 := meth_e ho M.mo hn hm ha
theorem MC.cell_ok {c : Int} (h0 : 0 ≤ c) (h1 : c < held.length) : m_Memory_check_cell [.ref m, .int c] g = .ok .non g := by
  have w : m_is_within [.int c, .int 0, .int ((held.length : Int) - 1)] g = .ok (.bl true) g := within_ok h0 (by omega)
  simp [m_Memory_check_cell, fnM_s, b_Memory_check_cell, M.held_, M.lenH, w]
theorem MC.cell_no {c : Int} (h0 : ¬ (0 ≤ c ∧ c < held.length)) : m_Memory_check_cell [.ref m, .int c] g = .exn 1 g := by
  have w : m_is_within [.int c, .int 0, .int ((held.length : Int) - 1)] g = .ok (.bl false) g := within_no (by omega)
  simp [m_Memory_check_cell, fnM_s, b_Memory_check_cell, M.held_, M.lenH, w]
theorem MC.cell_bl {c : Bool} : m_Memory_check_cell [.ref m, .bl c] g = .exn 1 g := by
  have w : m_is_within [.bl c, .int 0, .int ((held.length : Int) - 1)] g = .ok (.bl false) g := within_bl
  simp [m_Memory_check_cell, fnM_s, b_Memory_check_cell, M.held_, M.lenH, w]
theorem MC.peek_ok {c : Int} {v : D} (h0 : 0 ≤ c) (h1 : c < held.length) (hv : atI held c = some v) : m_Memory_peek [.ref m, .int c] g = .ok v g := by
  have a := M.meth (nm := 28) (tbl := [(5, m_Memory_check_cell)]) (o := vVar 0) (ms := aCons (vVar 1) aNil) (e := [some (.ref m), some (.int c)]) (g2 := g) rfl rfl rfl rfl
  rw [M.cell_ok h0 h1] at a
  show endM (b_Memory_peek [some (.ref m), some (.int c)] g) = _
  simp [b_Memory_peek, a, M.held_, M.at_ hv]
/-- behind the count and the row of an access -/
theorem MC.row {g1 : G} {y : D} (hl : log.length < 99999) (e : g1 = (g.set m (.ins 5 (memF s h r (cnt + 1) bs xs))).set r (.lst (log ++ [y]))) : MC g1 m s h r P N B (cnt + 1) bs xs held (log ++ [y]) := by
  subst e
  have lm := (List.getElem?_eq_some_iff.mp M.mo).1
  have lr := (List.getElem?_eq_some_iff.mp M.ro).1
  refine ⟨?_, ?_, ?_, ?_, M.hr, M.hl, by simp; omega⟩
  · rw [List.getElem?_set_ne (Ne.symm M.mr), List.getElem?_set_self lm]
  · rw [List.getElem?_set_ne (Ne.symm M.sr), List.getElem?_set_ne M.ms]
    exact M.so
  · rw [List.getElem?_set_ne (Ne.symm M.hr), List.getElem?_set_ne M.mh]
    exact M.ho
  · rw [List.getElem?_set_self (by simpa using lr)]
/-- a cell is written -/
theorem MC.put {hd : List D} (hl : hd.length < 1000) : MC (g.set h (.lst hd)) m s h r P N B cnt bs xs hd log := by
  have lh := (List.getElem?_eq_some_iff.mp M.ho).1
  refine ⟨?_, ?_, ?_, ?_, M.hr, hl, M.ll⟩
  · rw [List.getElem?_set_ne (Ne.symm M.mh)]
    exact M.mo
  · rw [List.getElem?_set_ne (Ne.symm M.sh)]
    exact M.so
  · rw [List.getElem?_set_self lh]
  · rw [List.getElem?_set_ne M.hr]
    exact M.ro
/-- other objects -/
theorem MC.le {g' : G} (hm : g'[m]? = g[m]?) (hs : g'[s]? = g[s]?) (hh : g'[h]? = g[h]?) (hr : g'[r]? = g[r]?) : MC g' m s h r P N B cnt bs xs held log :=
  ⟨hm.trans M.mo, hs.trans M.so, hh.trans M.ho, hr.trans M.ro, M.hr, M.hl, M.ll⟩
theorem MC.app {os : G} : MC (g ++ os) m s h r P N B cnt bs xs held log := by
  have f : ∀ {i : Nat} {o : Ob}, g[i]? = some o → (g ++ os)[i]? = g[i]? := fun e => List.getElem?_append_left (List.getElem?_eq_some_iff.mp e).1
  exact M.le (f M.mo) (f M.so) (f M.ho) (f M.ro)
theorem MC.out {j : Nat} {o : Ob} (h1 : j ≠ m) (h2 : j ≠ s) (h3 : j ≠ h) (h4 : j ≠ r) : MC (g.set j o) m s h r P N B cnt bs xs held log :=
  M.le (List.getElem?_set_ne h1) (List.getElem?_set_ne h2) (List.getElem?_set_ne h3) (List.getElem?_set_ne h4)
theorem MC.acc2 {p : Int} {rq : D} (hl : log.length < 99999) {res : D} {g' : G} {c' : Int} (hr : m_Memory_result [.ref m, .int p, rq] (rowG g m s h r cnt bs xs log (.tup [.int (cnt + 1), .int p, rq])) = .ok res g') (hc : fldD [5] 3 g' (.ref m) = some (.int c')) :
    c_Memory_access_3 [some (.ref m), some (.int p), some rq] g = .rt (.tup [res, .int c']) g' := by
  have M1 : MC (rowG g m s h r cnt bs xs log (.tup [.int (cnt + 1), .int p, rq])) m s h r P N B (cnt + 1) bs xs held (log ++ [.tup [.int (cnt + 1), .int p, rq]]) := M.row hl rfl
  have lm := (List.getElem?_eq_some_iff.mp M.mo).1
  have s1 : sAugA [5] 3 (vVar 0) (vC (.int 1)) [some (.ref m), some (.int p), some rq] g = .nx [some (.ref m), some (.int p), some rq] (g.set m (.ins 5 (memF s h r (cnt + 1) bs xs))) := by
    unfold sAugA
    simp only [vVar_e, List.getElem?_cons_zero, sBind, M.mo]
    simp only [memF, lkA, List.contains, List.elem, BEq.beq, vC_e, sBind]
    simp only [Nat.beq, reduceIte, Nat.reduceEqDiff, M.mo]
    rfl
  have f3 : fldD [5] 3 (g.set m (.ins 5 (memF s h r (cnt + 1) bs xs))) (.ref m) = some (.int (cnt + 1)) := fldD_e (List.getElem?_set_self lm) rfl rfl
  have f0 : fldD [3, 2, 5] 0 (g.set m (.ins 5 (memF s h r (cnt + 1) bs xs))) (.ref m) = some (.ref r) := fldD_e (List.getElem?_set_self lm) rfl rfl
  have gr : (g.set m (.ins 5 (memF s h r (cnt + 1) bs xs)))[r]? = some (.lst log) := by
    rw [List.getElem?_set_ne M.mr]
    exact M.ro
  have s2 : vApp (vFld [3, 2, 5] 0 (vVar 0)) (vTup (aCons (vFld [5] 3 (vVar 0)) (aCons (vVar 1) (aCons (vVar 2) aNil)))) [some (.ref m), some (.int p), some rq] (g.set m (.ins 5 (memF s h r (cnt + 1) bs xs))) = .ok .non (rowG g m s h r cnt bs xs log (.tup [.int (cnt + 1), .int p, rq])) := by
    refine app_e (l := r) (ds := log) (ds' := log) (y := .tup [.int (cnt + 1), .int p, rq]) (g1 := g.set m (.ins 5 (memF s h r (cnt + 1) bs xs))) (g2 := g.set m (.ins 5 (memF s h r (cnt + 1) bs xs))) ?_ gr ?_ gr (by omega)
    · simp [f0]
    · simp [vTup_s, okL_s, f3]
  have a := M1.meth (nm := 32) (tbl := [(5, m_Memory_result)]) (o := vVar 0) (ms := aCons (vVar 1) (aCons (vVar 2) aNil)) (e := [some (.ref m), some (.int p), some rq]) (g2 := rowG g m s h r cnt bs xs log (.tup [.int (cnt + 1), .int p, rq])) rfl rfl rfl rfl
  rw [hr] at a
  unfold c_Memory_access_3 c_Memory_access_2 c_Memory_access_1
  rw [sSeq_e, s1]
  simp only [sSeq_e, sDrop_e, s2, sBind]
  simp [vTup_s, okL_s, a, hc]

/-! #### cells -/
def cellRq (k : Nat) (c : Int) (rest : List D) : D := .tup (.str k :: .int c :: rest)
def okRq (k : Nat) (rest : List D) : Prop := k = 9 ∧ rest = [] ∨ (k = 10 ∧ ∃ v, rest = [v] ∧ pud 5 v = true) ∨ k = 11 ∧ ∃ v w, rest = [v, w] ∧ pud 5 v = true ∧ pud 5 w = true
theorem MC.chk_cell {p c : Int} {k : Nat} {rest : List D} (hp0 : 0 ≤ p) (hp1 : p < P) (hk : okRq k rest) (h0 : 0 ≤ c) (h1 : c < held.length) : m_Memory_check_request [.ref m, .int p, cellRq k c rest] g = .ok .non g := by
  show endM (b_Memory_check_request [some (.ref m), some (.int p), some (cellRq k c rest), none] g) = _
  have w : m_is_within [.int p, .int 0, .int (P - 1)] g = .ok (.bl true) g := within_ok hp0 (by omega)
  have vm : vMeth 28 [(5, m_Memory_check_cell)] (vVar 0) (aCons (vOp ixD (vVar 2) (vC (.int 1))) aNil) [some (.ref m), some (.int p), some (cellRq k c rest), some (.str k)] g = .ok .non g := by
    have a := M.meth (nm := 28) (tbl := [(5, m_Memory_check_cell)]) (o := vVar 0) (ms := aCons (vOp ixD (vVar 2) (vC (.int 1))) aNil) (e := [some (.ref m), some (.int p), some (cellRq k c rest), some (.str k)]) (g2 := g) (ds := [.int c]) rfl rfl rfl (by simp [cellRq, at1])
    rw [a, M.cell_ok h0 h1]
  unfold b_Memory_check_request c_Memory_check_request_3 c_Memory_check_request_2 c_Memory_check_request_1
  rcases hk with ⟨rfl, rfl⟩ | ⟨rfl, v, rfl, q⟩ | ⟨rfl, v, u, rfl, q⟩ <;> (simp only [cellRq] at vm ⊢; simp [M.sizes_, M.procs, w, at0, vDGet, isDc, dcG, dicG, ne_int, eq_int, vTup_s, okL_s, inD, sqD, vm, eq_str])
theorem MC.cres {c : Int} {k : Nat} {rest : List D} {v : D} (hk : okRq k rest) (hv : atI held c = some v) (hc : ixN held.length c = some c.toNat) (pv : pud 5 v = true) :
    (k = 9 → m_Memory_cell_result [.ref m, cellRq k c rest] g = .ok v g) ∧
    (k = 10 → ∃ x, rest = [x] ∧ m_Memory_cell_result [.ref m, cellRq k c rest] g = .ok .non (g.set h (.lst (held.set c.toNat x)))) ∧
    (k = 11 → ∃ x y, rest = [x, y] ∧ m_Memory_cell_result [.ref m, cellRq k c rest] g = if deq v x then .ok (.bl true) (g.set h (.lst (held.set c.toNat y))) else .ok (.bl false) g) := by
  have sub : ∀ (e : En) (i : Nat) (x : D), e[2]? = some (some (.int c)) → e[0]? = some (some (.ref m)) → (vOp ixD (vVar 1) (vC (.int (i : Int)))) e g = .ok x g → sSub (vFld [5] 1 (vVar 0)) (vVar 2) (vOp ixD (vVar 1) (vC (.int (i : Int)))) e g = .nx e (g.set h (.lst (held.set c.toNat x))) := by
    intro e i x e2 e0 hx
    have a1 : vFld [5] 1 (vVar 0) e g = .ok (.ref h) g := by simp [e0, M.held_]
    have a2 : vVar 2 e g = .ok (.int c) g := by simp [e2]
    unfold sSub
    simp only [hx, sBind, a1, a2, M.ho, hc]
  refine ⟨fun e => ?_, fun e => ?_, fun e => ?_⟩
  · subst e
    show endM (b_Memory_cell_result [some (.ref m), some (cellRq 9 c rest), none] g) = _
    simp [b_Memory_cell_result, c_Memory_cell_result_5, cellRq, at0, at1, eq_str, M.held_, M.at_ hv]
  · subst e
    rcases hk with ⟨q, _⟩ | ⟨_, x, rfl, q⟩ | ⟨q, _⟩
    · cases q
    · refine ⟨x, rfl, ?_⟩
      show endM (b_Memory_cell_result [some (.ref m), some (cellRq 10 c [x]), none] g) = _
      have s1 := sub [some (.ref m), some (cellRq 10 c [x]), some (.int c)] 2 x rfl rfl rfl
      simp only [Int.ofNat_eq_natCast, Int.cast_ofNat_Int] at s1
      simp [b_Memory_cell_result, c_Memory_cell_result_5, c_Memory_cell_result_4, cellRq, at0, at1, eq_str]
      simp only [cellRq] at s1
      rw [s1]
      rfl
    · cases q
  · subst e
    rcases hk with ⟨q, _⟩ | ⟨q, _⟩ | ⟨_, x, y, rfl, q1, q2⟩
    · cases q
    · cases q
    · refine ⟨x, y, rfl, ?_⟩
      show endM (b_Memory_cell_result [some (.ref m), some (cellRq 11 c [x, y]), none] g) = _
      have s1 := sub [some (.ref m), some (cellRq 11 c [x, y]), some (.int c)] 3 y rfl rfl rfl
      have nn : neD g v x = some (.bl (!deq v x)) := by
        have e1 := pure_snap (g := g) pv
        have e2 := pure_snap (g := g) q1
        rw [neD_e (by rw [e1, e2, pud_mono _ _ (pud_mono _ _ (pud_mono _ _ pv)), pud_mono _ _ (pud_mono _ _ (pud_mono _ _ q1))]; rfl), e1, e2]
      simp only [Int.ofNat_eq_natCast, Int.cast_ofNat_Int] at s1
      simp only [cellRq] at s1
      simp [b_Memory_cell_result, c_Memory_cell_result_5, c_Memory_cell_result_4, c_Memory_cell_result_3, c_Memory_cell_result_2, c_Memory_cell_result_1, cellRq, at0, at1, at2, eq_str, M.held_, M.at_ hv, nn]
      cases deq v x with
      | false => rfl
      | true =>
        simp only [cond_true, reduceIte]
        rw [s1]
        rfl
theorem MC.acc {p c : Int} {k : Nat} {rest : List D} (hp0 : 0 ≤ p) (hp1 : p < P) (hk : okRq k rest) (h0 : 0 ≤ c) (h1 : c < held.length) (hh : ∀ v ∈ held, pud 5 v = true) (hl : log.length < 99999) :
    ∃ g', m_Memory_access [.ref m, .int p, cellRq k c rest] g = .ok (.tup [(cellDo held k c rest).1, .int (cnt + 1)]) g' ∧ MC g' m s h r P N B (cnt + 1) bs xs (cellDo held k c rest).2 (log ++ [.tup [.int (cnt + 1), .int p, cellRq k c rest]]) ∧ (∀ i, i ≠ m → i ≠ h → i ≠ r → g'[i]? = g[i]?) := by
  obtain ⟨v, hv, vm⟩ := atI_mem h0 h1
  have pv := hh v vm
  have hc : ixN held.length c = some c.toNat := by
    unfold ixN
    have h2 : ¬ c < 0 := by omega
    simp only [h2, if_false, h0, if_true]
    rw [if_pos (by omega)]
  have M1 : MC (rowG g m s h r cnt bs xs log (.tup [.int (cnt + 1), .int p, cellRq k c rest])) m s h r P N B (cnt + 1) bs xs held (log ++ [.tup [.int (cnt + 1), .int p, cellRq k c rest]]) := M.row hl rfl
  have fr : ∀ i, i ≠ m → i ≠ h → i ≠ r → (rowG g m s h r cnt bs xs log (.tup [.int (cnt + 1), .int p, cellRq k c rest]))[i]? = g[i]? := fun i n1 n2 n3 => by
    unfold rowG
    rw [List.getElem?_set_ne (Ne.symm n3), List.getElem?_set_ne (Ne.symm n1)]
  obtain ⟨r9, r10, r11⟩ := M1.cres hk hv hc pv
  generalize hG : rowG g m s h r cnt bs xs log (.tup [.int (cnt + 1), .int p, cellRq k c rest]) = g1 at *
  have res : ∃ g', m_Memory_cell_result [.ref m, cellRq k c rest] g1 = .ok (cellDo held k c rest).1 g' ∧ (g' = g1 ∧ (cellDo held k c rest).2 = held ∨ g' = g1.set h (.lst (cellDo held k c rest).2)) := by
    rcases id hk with ⟨rfl, rfl⟩ | ⟨rfl, x, rfl, q⟩ | ⟨rfl, x, y, rfl, q1, q2⟩
    · exact ⟨g1, by rw [r9 rfl]; simp [cellDo, hv], .inl ⟨rfl, rfl⟩⟩
    · obtain ⟨z, e, q⟩ := r10 rfl
      cases e
      exact ⟨_, q, .inr rfl⟩
    · obtain ⟨z, w, e, q⟩ := r11 rfl
      cases e
      rw [q]
      simp only [cellDo, hv, Option.getD_some]
      cases deq v x with
      | true => exact ⟨_, rfl, .inr rfl⟩
      | false => exact ⟨_, rfl, .inl ⟨rfl, rfl⟩⟩
  obtain ⟨g', hres, hg'⟩ := res
  have M2 : MC g' m s h r P N B (cnt + 1) bs xs (cellDo held k c rest).2 (log ++ [.tup [.int (cnt + 1), .int p, cellRq k c rest]]) := by
    rcases hg' with ⟨rfl, e⟩ | rfl
    · rw [e]
      exact M1
    · exact M1.put (by rw [cellDo_len]; exact M.hl)
  have fr2 : ∀ i, i ≠ m → i ≠ h → i ≠ r → g'[i]? = g[i]? := fun i n1 n2 n3 => by
    rcases hg' with ⟨rfl, e⟩ | rfl
    · exact fr i n1 n2 n3
    · rw [List.getElem?_set_ne (Ne.symm n2)]
      exact fr i n1 n2 n3
  have hr : m_Memory_result [.ref m, .int p, cellRq k c rest] g1 = .ok (cellDo held k c rest).1 g' := by
    show endM (b_Memory_result [some (.ref m), some (.int p), some (cellRq k c rest), none, none] g1) = _
    have a := M1.meth (nm := 33) (tbl := [(5, m_Memory_cell_result)]) (o := vVar 0) (ms := aCons (vVar 2) aNil) (e := [some (.ref m), some (.int p), some (cellRq k c rest), some (.str k), none]) (g2 := g1) rfl rfl rfl rfl
    rw [hres] at a
    unfold b_Memory_result c_Memory_result_7
    have t : (k == 9 || (k == 10 || (k == 11 || false))) = true := by rcases id hk with ⟨rfl, _⟩ | ⟨rfl, _⟩ | ⟨rfl, _⟩ <;> rfl
    have i0 : ixD g1 (cellRq k c rest) (.int 0) = some (.str k) := by simp [cellRq, at0]
    have tt : inD false g1 (.str k) (.tup [.str 9, .str 10, .str 11]) = some (.bl true) := by
      rcases id hk with ⟨rfl, _⟩ | ⟨rfl, _⟩ | ⟨rfl, _⟩ <;> rfl
    simp [i0, vTup_s, okL_s, tt, a]
  refine ⟨g', ?_, M2, fr2⟩
  show endM (b_Memory_access [some (.ref m), some (.int p), some (cellRq k c rest)] g) = _
  have a := M.meth (nm := 29) (tbl := [(5, m_Memory_check_request)]) (o := vVar 0) (ms := aCons (vVar 1) (aCons (vVar 2) aNil)) (e := [some (.ref m), some (.int p), some (cellRq k c rest)]) (g2 := g) rfl rfl rfl rfl
  rw [M.chk_cell hp0 hp1 hk h0 h1] at a
  have i0 : ixD g (cellRq k c rest) (.int 0) = some (.str k) := by simp [cellRq, at0]
  have k12 : (k == 12) = false := by rcases id hk with ⟨rfl, _⟩ | ⟨rfl, _⟩ | ⟨rfl, _⟩ <;> rfl
  have a2 := M.acc2 (p := p) (rq := cellRq k c rest) hl (res := (cellDo held k c rest).1) (g' := g') (c' := cnt + 1) (by rw [hG]; exact hr) M2.count_
  unfold b_Memory_access c_Memory_access_4
  simp only [sSeq_e, sDrop_e, a, sBind, sIf_e, tOf_e, vOp_e, vVar_e, List.getElem?_cons_zero, List.getElem?_cons_succ, Res.bind, vC_e, i0, oR_some, eq_str, k12, bR_bl, cond_false, sNx_e, a2]
  rfl
end
end

/-! ### buffers and boxes -/
abbrev Row := Int × Int × Int × Bool
def rowD (r : Row) : D := .tup [.int r.1, .int r.2.1, .int r.2.2.1, .bl r.2.2.2]
def pairD (p : Int × Int) : D := .tup [.int p.1, .int p.2]
def keepB (P : List (Int × Int)) (r : Row) : Bool := (P.any fun p => p.1 == r.1 && p.2 == r.2.1) != true
inductive Wd where
  | non | frame (f : Int) (w : Bool) | other (d : List D) (n : Nat)
def Wd.d : Wd → D
  | .non => .non
  | .frame f w => .tup [.str 18, .int f, .bl w]
  | .other ds n => .tup (.str n :: ds)
def Wd.ok : Wd → Prop
  | .other _ n => n ≠ 18
  | _ => True
def putL (L : List Row) (s p : Int) (w : Wd) : List Row :=
  let L1 := L.filter (keepB [(s, p)])
  let L2 := match w with
    | .frame f v => L1 ++ [(s, p, f, v)]
    | _ => L1
  if 2 < L2.length then L2.drop 1 else L2
theorem putL_len {L : List Row} {s p : Int} {w : Wd} (h : L.length ≤ 2) : (putL L s p w).length ≤ 2 := by
  have := List.length_filter_le (keepB [(s, p)]) L
  unfold putL
  simp only
  split <;> split <;> simp_all <;> omega
theorem slD_row {g : G} {r : Row} : slD g (rowD r) none (some 2) = some (.tup [.int r.1, .int r.2.1]) := rfl
theorem pud_row {n : Nat} (r : Row) : pud (n + 1) (rowD r) = true := by simp [rowD, pud_tup]
theorem pud_rows (L : List Row) : (L.map rowD).all (pud 7) = true := by
  rw [List.all_eq_true]
  intro x hx
  obtain ⟨r, _, rfl⟩ := List.mem_map.mp hx
  exact pud_row r
theorem pud_pairs {n : Nat} (P : List (Int × Int)) : (P.map pairD).all (pud (n + 1)) = true := by
  rw [List.all_eq_true]
  intro x hx
  obtain ⟨r, _, rfl⟩ := List.mem_map.mp hx
  simp [pairD, pud_tup]
theorem any_pairs (P : List (Int × Int)) (r : Row) : ((P.map pairD).any fun z => deq z (.tup [.int r.1, .int r.2.1])) = P.any fun p => p.1 == r.1 && p.2 == r.2.1 := by
  rw [List.any_map]
  congr 1
  funext p
  simp [pairD]
theorem rows_eq : ∀ (L : List Row), deqs (L.map rowD) (L.map rowD) = true
  | [] => by simp
  | r :: L => by simp [rows_eq L, rowD]
def pairsD (P : List (Int × Int)) (tu : Bool) : D := bif tu then .tup (P.map pairD) else .lst (P.map pairD)
theorem inD_row {g : G} (P : List (Int × Int)) (tu : Bool) (r : Row) : inD true g (.tup [.int r.1, .int r.2.1]) (pairsD P tu) = some (.bl (keepB P r)) := by
  have h : (pud 7 (.tup [.int r.1, .int r.2.1]) && (P.map pairD).all (pud 7)) = true := by rw [pud_pairs]; simp
  cases tu
  · show (match pud 7 (.tup [.int r.1, .int r.2.1]) && (P.map pairD).all (pud 7) with
      | true => some (D.bl (((P.map pairD).any fun z => deq z (.tup [.int r.1, .int r.2.1])) != true))
      | false => none) = _
    rw [h, any_pairs]
    rfl
  · show (match pud 7 (.tup [.int r.1, .int r.2.1]) && (P.map pairD).all (pud 7) with
      | true => some (D.bl (((P.map pairD).any fun z => deq z (.tup [.int r.1, .int r.2.1])) != true))
      | false => none) = _
    rw [h, any_pairs]
    rfl

theorem len_le3 {α : Type} (xs : List α) (h : xs.length ≤ 3) : (xs.drop (HT.sIx xs.length 0 (some (-2)))).take (HT.sIx xs.length xs.length none - HT.sIx xs.length 0 (some (-2))) = if 2 < xs.length then xs.drop 1 else xs := by
  match xs, h with
  | [], _ => rfl
  | [a], _ => rfl
  | [a, b], _ => rfl
  | [a, b, c], _ => rfl
  | a :: b :: c :: d :: r, h => simp at h
theorem cut_rows (L : List Row) (h : L.length ≤ 3) : cutD (L.map rowD) (some (-2)) none = (if 2 < L.length then L.drop 1 else L).map rowD := by
  have := len_le3 (L.map rowD) (by simpa using h)
  rw [List.length_map] at this
  unfold cutD
  rw [List.length_map, this]
  split <;> simp
theorem cut1_rows (L : List Row) (h : 2 < L.length) : cutD (L.map rowD) (some 1) none = (L.drop 1).map rowD := by
  unfold cutD
  have e1 : HT.sIx (L.map rowD).length 0 (some 1) = 1 := by
    have := HT.sIx_nat (L.map rowD).length 0 1
    rw [show ((1 : Nat) : Int) = 1 from rfl] at this
    rw [this, List.length_map]; omega
  have e2 : HT.sIx (L.map rowD).length (L.map rowD).length none = (L.map rowD).length := HT.sIx_none _ _
  rw [e1, e2, List.take_of_length_le (by simp), List.map_drop]

def BufS (g : G) (b : Nat) (d : D) (L : List Row) : Prop := g[b]? = some (.ins 2 [(0, d)]) ∧ lsD g d = some (L.map rowD)
theorem fld_b {g : G} {b : Nat} {d : D} (h : g[b]? = some (.ins 2 [(0, d)])) : fldD [3, 2, 5] 0 g (.ref b) = some d := fldD_e h rfl rfl
theorem fld_x {g : G} {b : Nat} {d : D} (h : g[b]? = some (.ins 3 [(0, d)])) : fldD [3, 2, 5] 0 g (.ref b) = some d := fldD_e h rfl rfl
theorem drop_ok {g : G} {b : Nat} {d : D} {L : List Row} {P : List (Int × Int)} {tu : Bool} (h : BufS g b d L) (hl : L.length ≤ 1000) : m_Buffer_drop [.ref b, pairsD P tu] g = .ok .non ((g ++ [Ob.lst ((L.filter (keepB P)).map rowD)]).set b (.ins 2 [(0, .ref g.length)])) := by
  obtain ⟨h1, h2⟩ := h
  obtain ⟨s, hs, hx⟩ := iLst_of (m := vFld [3, 2, 5] 0 (vVar 0)) (e := [some (.ref b), some (pairsD P tu), none]) (g := g) (d := d) (by simp [fld_b h1]) h2
  have hlc := lcR_pure (gm := gN 2) (t := tOf (vOp (inD true) (vSl (vVar 2) none (some (vC (.int 2)))) (vVar 1))) (m := vVar 2) (e := [some (.ref b), some (pairsD P tu), none]) (g := g) (s := s) rowD (keepB P) rowD L hx (okL_of (by omega)) (fun r hr => by
    refine ⟨_, rfl, ?_, fun _ => rfl⟩
    simp [vSl, slD_row, inD_row])
  have hb : b < g.length := (List.getElem?_eq_some_iff.mp h1).1
  show endM (b_Buffer_drop [some (.ref b), some (pairsD P tu), none] g) = _
  unfold b_Buffer_drop sSetA
  have e1 : (g ++ [Ob.lst ((L.filter (keepB P)).map rowD)])[b]? = some (.ins 2 [(0, d)]) := Le.app _ _ h1
  simp only [vLcO_e, hs, Res.bind, wipeE_cons, wipeE_nil, List.set, hlc, sBind, vVar_e, List.getElem?_cons_zero, e1]
  rfl
theorem put_ok {g : G} {b : Nat} {d : D} {L : List Row} {s p : Int} {w : Wd} (h : BufS g b d L) (hl : L.length ≤ 2) (hw : w.ok) : ∃ g', m_Buffer_put [.ref b, .int s, .int p, w.d] g = .ok .non g' ∧ g'[b]? = some (.ins 2 [(0, .lst ((putL L s p w).map rowD))]) ∧ ∀ i, i < g.length → i ≠ b → g'[i]? = g[i]? := by
  have e1 := drop_ok (P := [(s, p)]) (tu := false) h (by omega)
  have hb : b < g.length := (List.getElem?_eq_some_iff.mp h.1).1
  have hd0 := h.1
  have lf := List.length_filter_le (keepB [(s, p)]) L
  have n1 : g.length ≠ b := by omega
  have n2 : ((g ++ [Ob.lst ((L.filter (keepB [(s, p)])).map rowD)]).set b (.ins 2 [(0, .ref g.length)]))[b]? = some (.ins 2 [(0, .ref g.length)]) := List.getElem?_set_self (by simp; omega)
  have n3 : ((g ++ [Ob.lst ((L.filter (keepB [(s, p)])).map rowD)]).set b (.ins 2 [(0, .ref g.length)]))[g.length]? = some (.lst ((L.filter (keepB [(s, p)])).map rowD)) := by
    rw [List.getElem?_set_ne (by omega), get_snoc']
  have fr1 : ∀ i, i < g.length → i ≠ b → ((g ++ [Ob.lst ((L.filter (keepB [(s, p)])).map rowD)]).set b (.ins 2 [(0, .ref g.length)]))[i]? = g[i]? := fun i hi q => by
    rw [List.getElem?_set_ne (Ne.symm q), List.getElem?_append_left hi]
  generalize hG : (g ++ [Ob.lst ((L.filter (keepB [(s, p)])).map rowD)]).set b (.ins 2 [(0, .ref g.length)]) = g1 at *
  have arg : vLst (aCons (vTup (aCons (vVar 1) (aCons (vVar 2) aNil))) aNil) [some (.ref b), some (.int s), some (.int p), some w.d] g = .ok (pairsD [(s, p)] false) g := by
    refine vLst_e (ds := [pairD (s, p)]) ?_ rfl
    simp only [aCons_e]
    rw [vTup_e (g1 := g) (ds := [.int s, .int p]) (by simp) rfl]
    rfl
  have meth : vMeth 23 [(2, m_Buffer_drop)] (vVar 0) (aCons (vLst (aCons (vTup (aCons (vVar 1) (aCons (vVar 2) aNil))) aNil)) aNil) [some (.ref b), some (.int s), some (.int p), some w.d] g = .ok .non g1 := by
    have q := meth_e (nm := 23) (tbl := [(2, m_Buffer_drop)]) (o := vVar 0) (ms := aCons (vLst (aCons (vTup (aCons (vVar 1) (aCons (vVar 2) aNil))) aNil)) aNil) (e := [some (.ref b), some (.int s), some (.int p), some w.d]) (g := g) (g2 := g) (ds := [pairsD [(s, p)] false]) rfl hd0 rfl rfl (by simp only [aCons_e, arg, Res.bind, aNil_e])
    rw [q, e1]
  have fin : ∀ (g2 : G) (d2 : D) (L2 : List Row), BufS g2 b d2 L2 → L2.length ≤ 3 → (∀ i, i < g.length → i ≠ b → g2[i]? = g1[i]?) → ∃ g', sSetA [3, 2, 5] 0 (vVar 0) (vSl (vFld [3, 2, 5] 0 (vVar 0)) (some (vUn negD (vC (.int 2)))) none) [some (.ref b), some (.int s), some (.int p), some w.d] g2 = .nx [some (.ref b), some (.int s), some (.int p), some w.d] g' ∧ g'[b]? = some (.ins 2 [(0, .lst ((if 2 < L2.length then L2.drop 1 else L2).map rowD))]) ∧ ∀ i, i < g.length → i ≠ b → g'[i]? = g[i]? := by
    rintro g2 d2 L2 ⟨c1, c2⟩ h3 hg
    have hb2 : b < g2.length := (List.getElem?_eq_some_iff.mp c1).1
    refine ⟨g2.set b (.ins 2 [(0, .lst ((if 2 < L2.length then L2.drop 1 else L2).map rowD))]), ?_, List.getElem?_set_self hb2, fun i hi q => by rw [List.getElem?_set_ne (Ne.symm q), hg i hi q]; exact fr1 i hi q⟩
    have sl : slD g2 d2 (some (-2)) none = some (.lst ((if 2 < L2.length then L2.drop 1 else L2).map rowD)) := by
      rw [← cut_rows L2 h3]
      unfold slD
      cases d2 with
      | tup _ => cases c2
      | _ => simp only [c2]
    unfold sSetA vSl
    simp only [vUn_e, vVar_e, List.getElem?_cons_zero, Res.bind, fld_b c1, oR_some, vC_e, negD, sl, sBind, c1]
    rfl
  show ∃ g', endM (b_Buffer_put [some (.ref b), some (.int s), some (.int p), some w.d] g) = _ ∧ _
  unfold b_Buffer_put c_Buffer_put_2 c_Buffer_put_1
  simp only [sSeq_e, sDrop_e, meth, sBind]
  have hn : (L.filter (keepB [(s, p)])).length ≤ 2 := by omega
  cases w with
  | frame f v =>
    have hlg : g.length < g1.length := (List.getElem?_eq_some_iff.mp n3).1
    have p1 : vApp (vFld [3, 2, 5] 0 (vVar 0)) (vTup (aCons (vVar 1) (aCons (vVar 2) (aCons (vOp ixD (vVar 3) (vC (.int 1))) (aCons (vOp ixD (vVar 3) (vC (.int 2))) aNil))))) [some (.ref b), some (.int s), some (.int p), some (Wd.frame f v).d] g1 = .ok .non (g1.set g.length (.lst ((L.filter (keepB [(s, p)]) ++ [(s, p, f, v)]).map rowD))) := by
      have ev : vTup (aCons (vVar 1) (aCons (vVar 2) (aCons (vOp ixD (vVar 3) (vC (.int 1))) (aCons (vOp ixD (vVar 3) (vC (.int 2))) aNil)))) [some (.ref b), some (.int s), some (.int p), some (Wd.frame f v).d] g1 = .ok (rowD (s, p, f, v)) g1 := by
        refine vTup_e (ds := [.int s, .int p, .int f, .bl v]) ?_ rfl
        have i1 : ixD g1 (Wd.frame f v).d (.int 1) = some (.int f) := rfl
        have i2 : ixD g1 (Wd.frame f v).d (.int 2) = some (.bl v) := rfl
        simp [i1, i2]
      unfold vApp
      simp only [vUn_e, vVar_e, List.getElem?_cons_zero, Res.bind, fld_b n2, oR_some, lsD_ref n3, ev, n3, List.length_map, ltL_of (show (L.filter (keepB [(s, p)])).length < 16777216 by omega), List.map_append, List.map_cons, List.map_nil]
    have p2 : BufS (g1.set g.length (.lst ((L.filter (keepB [(s, p)]) ++ [(s, p, f, v)]).map rowD))) b (.ref g.length) (L.filter (keepB [(s, p)]) ++ [(s, p, f, v)]) := ⟨by rw [List.getElem?_set_ne n1]; exact n2, lsD_ref (List.getElem?_set_self hlg)⟩
    obtain ⟨g3, q1, q2, q3⟩ := fin _ _ _ p2 (by simp; omega) (fun i hi q => List.getElem?_set_ne (by omega))
    refine ⟨g3, ?_, q2, q3⟩
    have ix0 : ixD g1 (Wd.frame f v).d (.int 0) = some (.str 18) := rfl
    have e0 : eqD g1 (.str 18) (.str 18) = some (.bl true) := rfl
    have n0 : nonD (Wd.frame f v).d = false := rfl
    simp only [List.map_append, List.map_cons, List.map_nil] at q1
    simp [ix0, e0, n0, p1, q1]
  | non =>
    obtain ⟨g3, q1, q2, q3⟩ := fin g1 _ _ ⟨n2, lsD_ref n3⟩ (by omega) (fun _ _ _ => rfl)
    refine ⟨g3, ?_, q2, q3⟩
    have n0 : nonD Wd.non.d = true := rfl
    simp [n0, q1]
  | other ds n =>
    obtain ⟨g3, q1, q2, q3⟩ := fin g1 _ _ ⟨n2, lsD_ref n3⟩ (by omega) (fun _ _ _ => rfl)
    refine ⟨g3, ?_, q2, q3⟩
    have n0 : nonD (Wd.other ds n).d = false := rfl
    have ix0 : ixD g1 (Wd.other ds n).d (.int 0) = some (.str n) := by
      show atI (D.str n :: ds) 0 = _
      exact atI_nat (j := 0) rfl
    have e0 : eqD g1 (.str n) (.str 18) = some (.bl false) := by
      rw [eqD_e (by simp)]
      have : n ≠ 18 := hw
      simp [this]
    simp [n0, ix0, e0, q1]
def findD (L : List Row) (s p : Int) (w : Bool) : D := match L.find? fun r => (r.1 == s && r.2.1 == p) && (r.2.2.2 || !w) with
  | some r => .int r.2.2.1
  | none => .non
theorem find_body {g : G} {L : List Row} {s p : Int} {w : Bool} {x0 : D} {sc : Src} (hx : srcL g sc = some (L.map rowD)) :
    endM (match runS (gN 4) (sIf (tAnd (tOf (vOp eqD (vSl (vVar 4) none (some (vC (.int 2)))) (vTup (aCons (vVar 1) (aCons (vVar 2) aNil))))) (tOr (tTru (vOp ixD (vVar 4) (vC (.int 3)))) (tNot (tTru (vVar 3))))) (sRet (vOp ixD (vVar 4) (vC (.int 2)))) sNx) sc [some x0, some (.int s), some (.int p), some (.bl w), none] g with
      | .nx e' g' => sRet (vC .non) e' g'
      | r => r) = .ok (findD L s p w) g := by
  refine runS_pure (Q := fun r => endM (match r with
      | .nx e' g' => sRet (vC .non) e' g'
      | r => r) = .ok (findD L s p w) g) hx (fun xs e => ∃ (L' : List Row) (o : Option D), xs = L'.map rowD ∧ e = [some x0, some (.int s), some (.int p), some (.bl w), o] ∧ findD L' s p w = findD L s p w) ⟨L, none, rfl, rfl, rfl⟩ ?_ ?_
  · rintro x xs e ⟨L', o, h1, rfl, h3⟩
    cases L' with
    | nil => cases h1
    | cons r L' =>
      rw [List.map_cons] at h1
      obtain ⟨rfl, rfl⟩ := List.cons.inj h1
      refine ⟨_, rfl, ?_⟩
      have et : vTup (aCons (vVar 1) (aCons (vVar 2) aNil)) [some x0, some (.int s), some (.int p), some (.bl w), some (rowD r)] g = .ok (.tup [.int s, .int p]) g := vTup_e (by simp) rfl
      have ee : eqD g (.tup [.int r.1, .int r.2.1]) (.tup [.int s, .int p]) = some (.bl (r.1 == s && r.2.1 == p)) := by
        rw [eqD_e (by simp)]
        simp
      have i3 : ixD g (rowD r) (.int 3) = some (.bl r.2.2.2) := rfl
      have i2 : ixD g (rowD r) (.int 2) = some (.int r.2.2.1) := rfl
      have fd : findD (r :: L') s p w = if ((r.1 == s && r.2.1 == p) && (r.2.2.2 || !w)) = true then .int r.2.2.1 else findD L' s p w := by
        unfold findD
        rw [List.find?_cons]
        cases ((r.1 == s && r.2.1 == p) && (r.2.2.2 || !w)) <;> rfl
      rw [fd] at h3
      cases h5 : (r.1 == s && r.2.1 == p) with
      | false =>
        rw [h5] at ee h3
        simp [vSl, slD_row, et, ee, StepOK]
        exact ⟨L', rfl, by simpa using h3⟩
      | true =>
        rw [h5] at ee h3
        cases h6 : r.2.2.2 with
        | true =>
          rw [h6] at i3 h3
          simp [vSl, slD_row, et, ee, i3, i2, StepOK]
          simpa using h3
        | false =>
          rw [h6] at i3 h3
          cases w with
          | true =>
            simp [vSl, slD_row, et, ee, i3, i2, StepOK]
            exact ⟨L', rfl, by simpa using h3⟩
          | false =>
            simp [vSl, slD_row, et, ee, i3, i2, StepOK]
            simpa using h3
  · rintro e ⟨L', o, h1, rfl, h3⟩
    have : L' = [] := by simpa using h1.symm
    subst this
    rw [← h3]
    rfl
theorem find_pud (L : List Row) (s p : Int) (w : Bool) {n : Nat} : pud n (findD L s p w) = true := by
  unfold findD
  split <;> simp
theorem find_eq (L : List Row) (s p : Int) (w : Bool) : deq (findD L s p w) (findD L s p w) = true := by
  unfold findD
  split <;> simp
theorem snap_find (L : List Row) (s p : Int) (w : Bool) {g : G} : snap g (findD L s p w) = findD L s p w := by
  unfold findD
  split <;> rfl
theorem framefor_ok {g : G} {b : Nat} {d : D} {L : List Row} {s p : Int} {w : Bool} (h : BufS g b d L) : m_Buffer_frame_for [.ref b, .int s, .int p, .bl w] g = .ok (findD L s p w) g := by
  obtain ⟨h1, h2⟩ := h
  obtain ⟨sc, hs, hx⟩ := iLst_of (m := vFld [3, 2, 5] 0 (vVar 0)) (e := [some (.ref b), some (.int s), some (.int p), some (.bl w), none]) (g := g) (d := d) (by simp [fld_b h1]) h2
  show endM (b_Buffer_frame_for [some (.ref b), some (.int s), some (.int p), some (.bl w), none] g) = _
  unfold b_Buffer_frame_for
  rw [sSeq_e, sFor_e, hs]
  exact find_body hx
theorem entries_ok {g : G} {b : Nat} {d : D} {L : List Row} (h : BufS g b d L) : m_Buffer_entries [.ref b] g = .ok (.ref g.length) (g ++ [.lst (L.map rowD)]) := by
  obtain ⟨h1, h2⟩ := h
  show endM (b_Buffer_entries [some (.ref b)] g) = _
  unfold b_Buffer_entries vListO
  simp only [sRet_e, aCons_e, vUn_e, vVar_e, List.getElem?_cons_zero, Res.bind, fld_b h1, oR_some, aNil_e, itD_of h2, sBind, endM_rt]
/-! #### letters -/
abbrev Lt := Int × List (Int × Int)
def letD (x : Lt) : D := .tup [.int x.1, .tup (x.2.map pairD)]
theorem pud_pair (p : Int × Int) {n : Nat} : pud (n + 1) (pairD p) = true := by simp [pairD, pud_tup]
theorem pud_lt (x : Lt) {n : Nat} : pud (n + 3) (letD x) = true := by
  simp only [letD, pud_tup, List.all_cons, List.all_nil, pud_int, Bool.true_and, Bool.and_true]
  exact pud_pairs (n := n) x.2
def okP (a b : Int) : Bool := (decide (0 ≤ a) && decide (a < 4)) && (decide (0 ≤ b) && decide (b < 8))
theorem isint_int {g : G} {i : Int} : m_is_integer [.int i] g = .ok (.bl true) g := by
  show endM (b_is_integer [some (.int i)] g) = _
  simp [b_is_integer]
theorem ispair_ok {g : G} {a b : Int} : m_is_pair [.tup [.int a, .int b]] g = .ok (.bl (okP a b)) g := by
  show endM (b_is_pair [some (.tup [.int a, .int b])] g) = _
  simp only [b_is_pair, sSeq_e, sIf_e, tOr_e, tNot_e, tTru_e, vUn_e, vVar_e, List.getElem?_cons_zero, Res.bind, isiD_tup, sub_tt, oR_some, truD_bl, Bool.not_true, cond_false, tOf_e, vOp_e, vCB_e, aCons_e, aNil_e, lenD_tup, List.length_cons, List.length_nil, vC_e, ne_int, vCall_e, ixD_tup, at0, at1, isint_int, sBind, bR_bl, sNx_e, sRet_e, vAnd_e, vChain_e, icD_int]
  unfold okP
  by_cases h1 : 0 ≤ a <;> by_cases h2 : a < 4 <;> by_cases h3 : 0 ≤ b <;> by_cases h4 : b < 8 <;> simp [h1, h2, h3, h4, at0, at1]
theorem islet_tup {g : G} {t : Int} (E : List (D × Bool)) (hE : ∀ x ∈ E, m_is_pair [x.1] g = .ok (.bl x.2) g) (hl : E.length ≤ 1000) : m_is_letter [.tup [.int t, .tup (E.map (·.1))]] g = .ok (.bl (decide (1 ≤ t) && (decide (0 < E.length) && E.all (·.2)))) g := by
  show endM (b_is_letter [some (.tup [.int t, .tup (E.map (·.1))]), none, none] g) = _
  have hlc := lcR_pure (gm := gN 2) (t := tYes) (m := vCall m_is_pair (aCons (vVar 2) aNil)) (e := [some (.tup [.int t, .tup (E.map (·.1))]), some (.tup (E.map (·.1))), none]) (g := g) (s := .vals (E.map (·.1))) (fun x : D × Bool => x.1) (fun _ => true) (fun x => D.bl x.2) E rfl (okL_e (by omega)) (fun x hx => ⟨_, rfl, rfl, fun _ => by simp [hE x hx]⟩)
  rw [List.filter_eq_self.mpr (fun _ _ => rfl)] at hlc
  have ha : allD g [.lst (E.map fun x => D.bl x.2)] = some (.bl (E.all (·.2))) := by
    have := allD_e (g := g) (bs := E.map (·.2))
    rw [List.map_map, List.all_map] at this
    exact this
  have hi : iTup (vVar 1) [some (.tup [.int t, .tup (E.map (·.1))]), some (.tup (E.map (·.1))), none] g = .ok (.vals (E.map (·.1))) g := rfl
  simp only [b_is_letter, sSeq_e, sIf_e, tOr_e, tNot_e, tTru_e, vUn_e, vVar_e, List.getElem?_cons_zero, List.getElem?_cons_succ, Res.bind, isiD_tup, sub_tt, oR_some, truD_bl, Bool.not_true, cond_false, tOf_e, vOp_e, vCB_e, aCons_e, aNil_e, lenD_tup, List.length_cons, List.length_nil, vC_e, ne_int, vCall_e, ixD_tup, at0, isint_int, sBind, bR_bl, icD_int]
  by_cases h1 : t < 1
  · simp [h1, show ¬ (1 ≤ t) by omega]
  · simp only [h1, decide_false, c_is_letter_2, c_is_letter_1]
    by_cases h2 : 0 < E.length
    · simp [at1, hi, hlc, ha, h2, show 1 ≤ t by omega]
    · simp [at1, h2, show 1 ≤ t by omega]
theorem islet_ok {g : G} {t : Int} (P : List (Int × Int)) (hl : 1 ≤ P.length) (hl2 : P.length ≤ 10) (hp : P.all (fun q => okP q.1 q.2) = true) : m_is_letter [letD (t, P)] g = .ok (.bl (decide (1 ≤ t))) g := by
  have := islet_tup (g := g) (t := t) (P.map (fun q => (pairD q, okP q.1 q.2))) (fun x hx => by
    obtain ⟨q, _, rfl⟩ := List.mem_map.mp hx
    exact ispair_ok) (by simp; omega)
  rw [List.map_map, List.all_map] at this
  rw [show ((fun x : D × Bool => x.2) ∘ fun q : Int × Int => (pairD q, okP q.1 q.2)) = fun q => okP q.1 q.2 from rfl, hp] at this
  rw [show ((fun x : D × Bool => x.1) ∘ fun q : Int × Int => (pairD q, okP q.1 q.2)) = pairD from rfl] at this
  simpa [show 0 < P.length by omega, letD] using this
theorem send_ok {g : G} {b l : Nat} {L : List Lt} {x : Lt} (h1 : g[b]? = some (.ins 3 [(0, .ref l)])) (h2 : g[l]? = some (.lst (L.map letD))) (hl : L.length ≤ 1000) (h : m_is_letter [letD x] g = .ok (.bl true) g) : m_Box_send [.ref b, letD x] g = .ok .non (g.set l (.lst ((L ++ [x]).map letD))) := by
  have ap := app_e (o := vFld [3, 2, 5] 0 (vVar 0)) (m := vVar 1) (e := [some (.ref b), some (letD x)]) (g := g) (g1 := g) (g2 := g) (l := l) (ds := L.map letD) (ds' := L.map letD) (y := letD x) (by simp [fld_x h1]) h2 rfl h2 (by simp; omega)
  show endM (b_Box_send [some (.ref b), some (letD x)] g) = _
  simp [b_Box_send, h, ap]
theorem letters_ok {g : G} {b l : Nat} {L : List Lt} (h1 : g[b]? = some (.ins 3 [(0, .ref l)])) (h2 : g[l]? = some (.lst (L.map letD))) : m_Box_letters [.ref b] g = .ok (.ref g.length) (g ++ [.lst (L.map letD)]) := by
  show endM (b_Box_letters [some (.ref b)] g) = _
  have hi : itD g (.ref l) = some (L.map letD) := itD_of (lsD_ref h2)
  simp [b_Box_letters, vListO, fld_x h1, hi]
theorem take_nil {g : G} {b l : Nat} (h1 : g[b]? = some (.ins 3 [(0, .ref l)])) (h2 : g[l]? = some (.lst [])) : m_Box_take [.ref b] g = .ok .non g := by
  show endM (b_Box_take [some (.ref b), none] g) = _
  have ht : truD g (.ref l) = some false := by unfold truD; rw [snap_of (lsD_ref h2)]; rfl
  simp [b_Box_take, fld_x h1, ht]
theorem take_cons {g : G} {b l : Nat} {x : Lt} {L : List Lt} (h1 : g[b]? = some (.ins 3 [(0, .ref l)])) (h2 : g[l]? = some (.lst ((x :: L).map letD))) : m_Box_take [.ref b] g = .ok (letD x) ((g ++ [Ob.lst (L.map letD)]).set b (.ins 3 [(0, .ref g.length)])) := by
  have hb := (List.getElem?_eq_some_iff.mp h1).1
  have ht : truD g (.ref l) = some true := by unfold truD; rw [snap_of (lsD_ref h2)]; rfl
  have hx : ixD g (.ref l) (.int 0) = some (letD x) := by unfold ixD; simp only [itD_of (lsD_ref h2)]; exact at0
  have sl : vSlO (vFld [3, 2, 5] 0 (vVar 0)) (some (vC (.int 1))) none [some (.ref b), some (letD x)] g = .ok (.ref g.length) (g ++ [.lst (L.map letD)]) := by
    unfold vSlO
    simp [fld_x h1, lsD_ref h2, cut1]
  have st := setA_e (cs := [3, 2, 5]) (n := 0) (o := vVar 0) sl rfl (Le.app b _ h1) rfl (by simp)
  show endM (b_Box_take [some (.ref b), none] g) = _
  simp only [b_Box_take, c_Box_take_3, c_Box_take_2, c_Box_take_1]
  simp [fld_x h1, ht, hx, st]
  rfl

/-! ### a memory with its buffers and boxes -/
structure MX (g : G) (P : Nat) (bA xA yA : Nat → Nat) (ld : Nat → D) (rows : Nat → List Row) (lets : Nat → List Lt) (St : Nat → Prop) : Prop where
  b : ∀ p, p < P → g[bA p]? = some (.ins 2 [(0, ld p)])
  l : ∀ p, p < P → lsD g (ld p) = some ((rows p).map rowD)
  x : ∀ p, p < P → g[xA p]? = some (.ins 3 [(0, .ref (yA p))])
  y : ∀ p, p < P → g[yA p]? = some (.lst ((lets p).map letD))
  bi : ∀ p q, p < P → q < P → bA p = bA q → p = q
  xi : ∀ p q, p < P → q < P → xA p = xA q → p = q
  yi : ∀ p q, p < P → q < P → yA p = yA q → p = q
  ns : ∀ p, p < P → ¬ St (bA p) ∧ ¬ St (xA p) ∧ ¬ St (yA p)
  ls : ∀ p, p < P → ∀ a, ld p = .ref a → ¬ St a ∧ ∀ q, q < P → a ≠ yA q
  rl : ∀ p, p < P → (rows p).length ≤ 2
  ll : ∀ p, p < P → (lets p).length ≤ 900
def fset {α : Type} (f : Nat → α) (p : Nat) (x : α) : Nat → α := fun q => if q = p then x else f q
@[simp] theorem fset_same {α : Type} {f : Nat → α} {p : Nat} {x : α} : fset f p x p = x := by simp [fset]
theorem fset_ne {α : Type} {f : Nat → α} {p q : Nat} {x : α} (h : q ≠ p) : fset f p x q = f q := by simp [fset, h]
section
variable {g : G} {P : Nat} {bA xA yA : Nat → Nat} {ld : Nat → D} {rows : Nat → List Row} {lets : Nat → List Lt} {St : Nat → Prop}
theorem lsD_le2 {g g' : G} {d : D} {xs : List D} (h : lsD g d = some xs) (e : ∀ a, d = .ref a → g'[a]? = g[a]?) : lsD g' d = some xs := by
  cases d with
  | ref a =>
    rw [← h]
    unfold lsD
    rw [snap_ref, snap_ref, e a rfl]
  | _ => exact h
/-- what is no list of the others, nor the memory's own object, has stayed -/
theorem MX.fr {g' : G} (X : MX g P bA xA yA ld rows lets St) (h : ∀ i, i < g.length → ¬ St i → (∀ fs, g[i]? ≠ some (.ins 5 fs)) → g'[i]? = g[i]?) : MX g' P bA xA yA ld rows lets St := by
  have key : ∀ {i : Nat} {o : Ob}, g[i]? = some o → ¬ St i → (∀ fs, o ≠ .ins 5 fs) → g'[i]? = some o := fun {i o} e n k => by
    rw [h i (List.getElem?_eq_some_iff.mp e).1 n (fun fs q => by rw [e] at q; exact k fs (Option.some.inj q))]
    exact e
  refine ⟨fun p hp => key (X.b p hp) (X.ns p hp).1 (fun fs q => by cases q), fun p hp => lsD_le2 (X.l p hp) fun a ha => ?_, fun p hp => key (X.x p hp) (X.ns p hp).2.1 (fun fs q => by cases q), fun p hp => key (X.y p hp) (X.ns p hp).2.2 (fun fs q => by cases q), X.bi, X.xi, X.yi, X.ns, X.ls, X.rl, X.ll⟩
  have hl := X.l p hp
  rw [ha] at hl
  cases e : g[a]? with
  | none =>
    unfold lsD at hl
    rw [snap_ref, e] at hl
    cases hl
  | some o =>
    exact key e (X.ls p hp a ha).1 fun fs q => by
      subst q
      unfold lsD at hl
      rw [snap_ref, e] at hl
      cases hl
theorem MX.app {os : G} (X : MX g P bA xA yA ld rows lets St) : MX (g ++ os) P bA xA yA ld rows lets St := X.fr fun i hi _ _ => List.getElem?_append_left hi
theorem MX.at_ {a : Nat} {o : Ob} (X : MX g P bA xA yA ld rows lets St) (h : St a) : MX (g.set a o) P bA xA yA ld rows lets St := X.fr fun i hi n _ => List.getElem?_set_ne (fun q => n (by rw [← q]; exact h))
/-- a buffer has other rows -/
theorem MX.buf {g' : G} {p : Nat} (X : MX g P bA xA yA ld rows lets St) (hp : p < P) {d : D} {L : List Row} (hb : g'[bA p]? = some (.ins 2 [(0, d)])) (hl : lsD g' d = some (L.map rowD)) (h : ∀ i, i < g.length → i ≠ bA p → g'[i]? = g[i]?) (hd : ∀ a, d = .ref a → ¬ St a ∧ ∀ q, q < P → a ≠ yA q) (h2 : L.length ≤ 2) :
    MX g' P bA xA yA (fset ld p d) (fset rows p L) lets St := by
  have key : ∀ {i : Nat} {o : Ob}, g[i]? = some o → i ≠ bA p → g'[i]? = some o := fun {i o} e n => by
    rw [h i (List.getElem?_eq_some_iff.mp e).1 n]
    exact e
  refine ⟨fun q hq => ?_, fun q hq => ?_, fun q hq => key (X.x q hq) (fun e => ?_), fun q hq => key (X.y q hq) (fun e => ?_), X.bi, X.xi, X.yi, X.ns, fun q hq a ha => ?_, fun q hq => ?_, X.ll⟩
  · by_cases e : q = p
    · subst e
      rw [fset_same]
      exact hb
    · rw [fset_ne e]
      exact key (X.b q hq) fun z => e (X.bi q p hq hp z)
  · by_cases e : q = p
    · subst e
      rw [fset_same, fset_same]
      exact hl
    · rw [fset_ne e, fset_ne e]
      refine lsD_le2 (X.l q hq) fun a ha => ?_
      have hl := X.l q hq
      rw [ha] at hl
      cases e2 : g[a]? with
      | none =>
        unfold lsD at hl
        rw [snap_ref, e2] at hl
        cases hl
      | some o =>
        refine key e2 fun z => ?_
        rw [z, X.b p hp] at e2
        cases e2
        unfold lsD at hl
        rw [snap_ref, z, X.b p hp] at hl
        cases hl
  · have := X.x q hq
    rw [e, X.b p hp] at this
    cases this
  · have := X.y q hq
    rw [e, X.b p hp] at this
    cases this
  · by_cases e : q = p
    · subst e
      rw [fset_same] at ha
      exact hd a ha
    · rw [fset_ne e] at ha
      exact X.ls q hq a ha
  · by_cases e : q = p
    · subst e
      rw [fset_same]
      exact h2
    · rw [fset_ne e]
      exact X.rl q hq
/-- a letter more -/
theorem MX.send {p : Nat} (X : MX g P bA xA yA ld rows lets St) (hp : p < P) {L : List Lt} (h2 : L.length ≤ 900) : MX (g.set (yA p) (.lst (L.map letD))) P bA xA yA ld rows (fset lets p L) St := by
  have hy := (List.getElem?_eq_some_iff.mp (X.y p hp)).1
  refine ⟨fun q hq => ?_, fun q hq => lsD_le2 (X.l q hq) fun a ha => ?_, fun q hq => ?_, fun q hq => ?_, X.bi, X.xi, X.yi, X.ns, X.ls, X.rl, fun q hq => ?_⟩
  · rw [List.getElem?_set_ne (fun e => by have := X.b q hq; rw [← e, X.y p hp] at this; cases this)]
    exact X.b q hq
  · rw [List.getElem?_set_ne (fun e => (X.ls q hq a ha).2 p hp e.symm)]
  · rw [List.getElem?_set_ne (fun e => by have := X.x q hq; rw [← e, X.y p hp] at this; cases this)]
    exact X.x q hq
  · by_cases e : q = p
    · subst e
      rw [fset_same, List.getElem?_set_self hy]
    · rw [fset_ne e, List.getElem?_set_ne (fun z => e (X.yi q p hq hp z.symm))]
      exact X.y q hq
  · by_cases e : q = p
    · subst e
      rw [fset_same]
      exact h2
    · rw [fset_ne e]
      exact X.ll q hq
/-- a letter less -/
theorem MX.take {p : Nat} (X : MX g P bA xA yA ld rows lets St) (hp : p < P) {L : List Lt} (h2 : L.length ≤ 900) (hn : ¬ St g.length) : MX ((g ++ [Ob.lst (L.map letD)]).set (xA p) (.ins 3 [(0, .ref g.length)])) P bA xA (fset yA p g.length) ld rows (fset lets p L) St := by
  have hx := (List.getElem?_eq_some_iff.mp (X.x p hp)).1
  have lt : ∀ {i : Nat} {o : Ob}, g[i]? = some o → i < g.length := fun e => (List.getElem?_eq_some_iff.mp e).1
  have key : ∀ {i : Nat} {o : Ob}, g[i]? = some o → i ≠ xA p → ((g ++ [Ob.lst (L.map letD)]).set (xA p) (.ins 3 [(0, .ref g.length)]))[i]? = some o := fun {i o} e n => by
    rw [List.getElem?_set_ne (Ne.symm n), List.getElem?_append_left (lt e)]
    exact e
  refine ⟨fun q hq => key (X.b q hq) fun e => ?_, fun q hq => lsD_le2 (X.l q hq) fun a ha => ?_, fun q hq => ?_, fun q hq => ?_, X.bi, X.xi, fun a b ha hb e => ?_, fun q hq => ?_, fun q hq a ha => ?_, X.rl, fun q hq => ?_⟩
  · have := X.b q hq
    rw [e, X.x p hp] at this
    cases this
  · have hl := X.l q hq
    rw [ha] at hl
    cases e2 : g[a]? with
    | none =>
      unfold lsD at hl
      rw [snap_ref, e2] at hl
      cases hl
    | some o =>
      rw [key e2 fun z => by
        rw [z, X.x p hp] at e2
        cases e2
        unfold lsD at hl
        rw [snap_ref, z, X.x p hp] at hl
        cases hl]
  · by_cases e : q = p
    · subst e
      rw [fset_same, List.getElem?_set_self (by simp; omega)]
    · rw [fset_ne e]
      exact key (X.x q hq) fun z => e (X.xi q p hq hp z)
  · by_cases e : q = p
    · subst e
      rw [fset_same, fset_same, List.getElem?_set_ne (by omega), get_snoc']
    · rw [fset_ne e, fset_ne e]
      exact key (X.y q hq) fun z => by
        have := X.y q hq
        rw [z, X.x p hp] at this
        cases this
  · by_cases e1 : a = p
    · subst e1
      by_cases e2 : b = a
      · exact e2.symm
      · rw [fset_same, fset_ne e2] at e
        have := lt (X.y b hb)
        omega
    · by_cases e2 : b = p
      · subst e2
        rw [fset_ne e1, fset_same] at e
        have := lt (X.y a ha)
        omega
      · rw [fset_ne e1, fset_ne e2] at e
        exact X.yi a b ha hb e
  · refine ⟨(X.ns q hq).1, (X.ns q hq).2.1, ?_⟩
    by_cases e : q = p
    · subst e
      rw [fset_same]
      exact hn
    · rw [fset_ne e]
      exact (X.ns q hq).2.2
  · refine ⟨(X.ls q hq a ha).1, fun z hz => ?_⟩
    by_cases e : z = p
    · subst e
      rw [fset_same]
      have hl := X.l q hq
      rw [ha] at hl
      intro e3
      unfold lsD at hl
      rw [snap_ref, e3, List.getElem?_eq_none (Nat.le_refl _)] at hl
      cases hl
    · rw [fset_ne e]
      exact (X.ls q hq a ha).2 z hz
  · by_cases e : q = p
    · subst e
      rw [fset_same]
      exact h2
    · rw [fset_ne e]
      exact X.ll q hq
end
/-! #### the other accesses -/
def refsF (P : Nat) (f : Nat → Nat) : D := .lst ((List.range P).map fun p => .ref (f p))
theorem refs_at {g : G} {P p : Nat} {f : Nat → Nat} (hp : p < P) : ixD g (refsF P f) (.int (p : Int)) = some (.ref (f p)) := by
  unfold refsF
  exact atI_nat (by simp [hp])
section
variable {g : G} {m s h r P : Nat} {N B cnt : Int} {bA xA yA : Nat → Nat} {ld : Nat → D} {rows : Nat → List Row} {lets : Nat → List Lt} {St : Nat → Prop} {held log : List D}
theorem mulS {i j : Int} (h : -1000 ≤ i) (h' : i ≤ 1000) : mulD g (.int i) (.int j) = some (.int (i * j)) := mulD_l (by omega) (by omega)
section
variable (M : MC g m s h r (P : Int) N B cnt (refsF P bA) (refsF P xA) held log)
include M
theorem MC.bufs : fldD [5] 7 g (.ref m) = some (refsF P bA) := fldD_e M.mo rfl rfl
theorem MC.boxs : fldD [5] 8 g (.ref m) = some (refsF P xA) := fldD_e M.mo rfl rfl
theorem MC.smeth {nm : Nat} {tbl : List (Nat × MF)} {o : EM} {ms : AM} {e : En} {mf : MF} {ds : List D} {g2 : G} (ho : o e g = .ok (.ref s) g) (hn : lkA nm [(4, D.int (P : Int)), (5, .int N), (6, .int B)] = none) (hm : lkM 4 tbl = some mf) (ha : ms e g = .ok ds g2) : vMeth nm tbl o ms e g = mf (.ref s :: ds) g2 := meth_e ho M.so hn hm ha
theorem MC.word_ok {a b : Int} : m_Sizes_word [.ref s, .int a, .int b] g = .ok (.int (1 + (P : Int) + 8 * a + b)) g := by
  simp [m_Sizes_word, fnM_s, b_Sizes_word, M.procs, mulS]
theorem MC.fcell_ok {a b : Int} : m_Sizes_frame_cell [.ref s, .int a, .int b] g = .ok (.int (1 + (P : Int) + 32 + 2 * a + b)) g := by
  simp [m_Sizes_frame_cell, fnM_s, b_Sizes_frame_cell, M.procs, mulS]
theorem MC.ack_ok {a : Int} : m_Sizes_acknowledge [.ref s, .int a] g = .ok (.int (1 + a)) g := by
  simp [m_Sizes_acknowledge, fnM_s, b_Sizes_acknowledge]
theorem MC.page_ok {k : Nat} {a b : Int} {rest : List D} (ha : 0 ≤ a ∧ a < 4) (hb : 0 ≤ b ∧ b < 8) (hk : k = 14 ∨ ∃ i r, rest = .int i :: r ∧ 0 ≤ i ∧ i < 2) : m_Memory_check_page [.ref m, .tup (.str k :: .int a :: .int b :: rest)] g = .ok .non g := by
  have w1 : m_is_within [.int a, .int 0, .int 3] g = .ok (.bl true) g := within_ok ha.1 (by omega)
  have w2 : m_is_within [.int b, .int 0, .int 7] g = .ok (.bl true) g := within_ok hb.1 (by omega)
  show endM (b_Memory_check_page [some (.ref m), some (.tup (.str k :: .int a :: .int b :: rest))] g) = _
  by_cases e : k = 14
  · subst e
    simp [b_Memory_check_page, at0, at1, at2, w1, w2, ne_str]
  · rcases hk with hk | ⟨i, r, rfl, i0, i1⟩
    · exact absurd hk e
    · have w3 : m_is_within [.int i, .int 0, .int 1] g = .ok (.bl true) g := within_ok i0 (by omega)
      have e2 : (k == 14) = false := beq_eq_false_iff_ne.mpr e
      simp [b_Memory_check_page, at0, at1, at2, at3, w1, w2, w3, ne_str, e2]
/-- requests that name a page -/
theorem MC.chk_page {p : Int} (hp0 : 0 ≤ p) (hp1 : p < (P : Int)) {k : Nat} {a b : Int} {rest : List D} (hk : k = 14 ∧ rest.length = 0 ∨ (k = 15 ∧ rest.length = 1 ∨ k = 16 ∧ rest.length = 2 ∨ k = 17 ∧ rest.length = 3)) (hc : m_Memory_check_page [.ref m, .tup (.str k :: .int a :: .int b :: rest)] g = .ok .non g) :
    m_Memory_check_request [.ref m, .int p, .tup (.str k :: .int a :: .int b :: rest)] g = .ok .non g := by
  show endM (b_Memory_check_request [some (.ref m), some (.int p), some (.tup (.str k :: .int a :: .int b :: rest)), none] g) = _
  have w : m_is_within [.int p, .int 0, .int ((P : Int) - 1)] g = .ok (.bl true) g := within_ok hp0 (by omega)
  have vm : vMeth 30 [(5, m_Memory_check_page)] (vVar 0) (aCons (vVar 2) aNil) [some (.ref m), some (.int p), some (.tup (.str k :: .int a :: .int b :: rest)), some (.str k)] g = .ok .non g := by
    have q := M.meth (nm := 30) (tbl := [(5, m_Memory_check_page)]) (o := vVar 0) (ms := aCons (vVar 2) aNil) (e := [some (.ref m), some (.int p), some (.tup (.str k :: .int a :: .int b :: rest)), some (.str k)]) (g2 := g) rfl rfl rfl rfl
    rw [q, hc]
  unfold b_Memory_check_request c_Memory_check_request_3 c_Memory_check_request_2 c_Memory_check_request_1
  rcases hk with ⟨rfl, h⟩ | ⟨rfl, h⟩ | ⟨rfl, h⟩ | ⟨rfl, h⟩ <;> simp [M.sizes_, M.procs, w, at0, vDGet, isDc, dcG, dicG, ne_int, eq_int, vTup_s, okL_s, inD, sqD, vm, eq_str, ne_str, h]
/-- an access that sends nothing: its result behind its row -/
theorem MC.acc_of {p : Int} {k : Nat} {rest : List D} (hc : m_Memory_check_request [.ref m, .int p, .tup (.str k :: rest)] g = .ok .non g) (hk : (k == 12) = false) (hl : log.length < 99999) {res : D} {g' : G} {c' : Int} (hr : m_Memory_result [.ref m, .int p, .tup (.str k :: rest)] (rowG g m s h r cnt (refsF P bA) (refsF P xA) log (.tup [.int (cnt + 1), .int p, .tup (.str k :: rest)])) = .ok res g') (h3 : fldD [5] 3 g' (.ref m) = some (.int c')) :
    m_Memory_access [.ref m, .int p, .tup (.str k :: rest)] g = .ok (.tup [res, .int c']) g' := by
  show endM (b_Memory_access [some (.ref m), some (.int p), some (.tup (.str k :: rest))] g) = _
  have a := M.meth (nm := 29) (tbl := [(5, m_Memory_check_request)]) (o := vVar 0) (ms := aCons (vVar 1) (aCons (vVar 2) aNil)) (e := [some (.ref m), some (.int p), some (.tup (.str k :: rest))]) (g2 := g) rfl rfl rfl rfl
  rw [hc] at a
  have a2 := M.acc2 (p := p) (rq := .tup (.str k :: rest)) hl hr h3
  unfold b_Memory_access c_Memory_access_4
  simp only [sSeq_e, sDrop_e, a, sBind, sIf_e, tOf_e, vOp_e, vVar_e, List.getElem?_cons_zero, List.getElem?_cons_succ, Res.bind, vC_e, ixD_tup, at0, oR_some, eq_str, hk, bR_bl, cond_false, sNx_e, a2]
  rfl
end
end

/-- what a use through an entry does -/
def useDo (held : List D) (k : Nat) (fr : D) (P i : Int) (rest : List D) : D × List D := match fr with
  | .int f => (match k, rest with
    | 15, _ => (.tup [(atI held (1 + P + 32 + 2 * f + i)).getD .non], held)
    | 16, [v] => (.bl true, held.set (1 + P + 32 + 2 * f + i).toNat v)
    | 17, [o, v] => bif deq ((atI held (1 + P + 32 + 2 * f + i)).getD .non) o then (.tup [.str 19], held.set (1 + P + 32 + 2 * f + i).toNat v) else (.tup [(atI held (1 + P + 32 + 2 * f + i)).getD .non], held)
    | _, _ => (.non, held))
  | _ => (bif k == 16 then .bl false else .non, held)
/-- what an access leaves as it is -/
def Rest (g g' : G) (m h r P : Nat) (bA xA yA : Nat → Nat) : Prop := ∀ i, i < g.length → i ≠ m → i ≠ h → i ≠ r → (∀ p, p < P → i ≠ bA p ∧ i ≠ xA p ∧ i ≠ yA p) → g'[i]? = g[i]?
section
variable {g : G} {m s h r P : Nat} {N B cnt : Int} {bA xA yA : Nat → Nat} {ld : Nat → D} {rows : Nat → List Row} {lets : Nat → List Lt} {St : Nat → Prop} {held log : List D}
theorem row_len {y : D} {bs xs : D} : (rowG g m s h r cnt bs xs log y).length = g.length := by simp [rowG]
theorem row_fr {y : D} {bs xs : D} {i : Nat} (h1 : i ≠ m) (h2 : i ≠ r) : (rowG g m s h r cnt bs xs log y)[i]? = g[i]? := by
  unfold rowG
  rw [List.getElem?_set_ne (Ne.symm h2), List.getElem?_set_ne (Ne.symm h1)]
section
variable (M : MC g m s h r (P : Int) N B cnt (refsF P bA) (refsF P xA) held log) (X : MX g P bA xA yA ld rows lets St) (hh : St h) (hr : St r)
include M X hh hr
theorem row_mx {y : D} : MX (rowG g m s h r cnt (refsF P bA) (refsF P xA) log y) P bA xA yA ld rows lets St := X.fr fun i hi n k => row_fr (fun e => k (memF s h r cnt (refsF P bA) (refsF P xA)) (by rw [e]; exact M.mo)) (fun e => n (by rw [e]; exact hr))
theorem ins_ne {i : Nat} {c : Nat} {fs : List (Nat × D)} (hi : g[i]? = some (.ins c fs)) (hc : c = 2 ∨ c = 3) : i ≠ m ∧ i ≠ s ∧ i ≠ h ∧ i ≠ r := by
  refine ⟨fun e => ?_, fun e => ?_, fun e => ?_, fun e => ?_⟩
  · rw [e, M.mo] at hi
    cases hi
    rcases hc with hc | hc <;> cases hc
  · rw [e, M.so] at hi
    cases hi
    rcases hc with hc | hc <;> cases hc
  · rw [e, M.ho] at hi
    cases hi
  · rw [e, M.ro] at hi
    cases hi
theorem walk_ok {p : Nat} (hp : p < P) {a b : Int} {w : Wd} (ha : 0 ≤ a ∧ a < 4) (hb : 0 ≤ b ∧ b < 8) (hw : w.ok) (hd : atI held (1 + (P : Int) + 8 * a + b) = some w.d) (hl : log.length < 99999) :
    ∃ g' y ld', m_Memory_access [.ref m, .int (p : Int), .tup [.str 14, .int a, .int b]] g = .ok (.tup [w.d, .int (cnt + 1)]) g' ∧ MC g' m s h r (P : Int) N B (cnt + 1) (refsF P bA) (refsF P xA) held (log ++ [y]) ∧ y = .tup [.int (cnt + 1), .int (p : Int), .tup [.str 14, .int a, .int b]] ∧
      MX g' P bA xA yA ld' (fset rows p (putL (rows p) a b w)) lets St ∧ Rest g g' m h r P bA xA yA ∧ g.length ≤ g'.length := by
  have hc := M.chk_page (p := (p : Int)) (k := 14) (a := a) (b := b) (rest := []) (by omega) (by omega) (.inl ⟨rfl, rfl⟩) (M.page_ok ha hb (.inl rfl))
  have M1 : MC (rowG g m s h r cnt (refsF P bA) (refsF P xA) log (.tup [.int (cnt + 1), .int (p : Int), .tup [.str 14, .int a, .int b]])) m s h r (P : Int) N B (cnt + 1) (refsF P bA) (refsF P xA) held (log ++ [.tup [.int (cnt + 1), .int (p : Int), .tup [.str 14, .int a, .int b]]]) := M.row hl rfl
  have X1 := row_mx M X hh hr (cnt := cnt) (y := .tup [.int (cnt + 1), .int (p : Int), .tup [.str 14, .int a, .int b]])
  have acc := fun {res g' c'} => M.acc_of (k := 14) (rest := [.int a, .int b]) hc rfl hl (res := res) (g' := g') (c' := c')
  have rl := row_len (g := g) (m := m) (s := s) (h := h) (r := r) (cnt := cnt) (bs := refsF P bA) (xs := refsF P xA) (log := log) (y := .tup [.int (cnt + 1), .int (p : Int), .tup [.str 14, .int a, .int b]])
  have rf := fun {i} => row_fr (g := g) (m := m) (s := s) (h := h) (r := r) (cnt := cnt) (bs := refsF P bA) (xs := refsF P xA) (log := log) (y := .tup [.int (cnt + 1), .int (p : Int), .tup [.str 14, .int a, .int b]]) (i := i)
  generalize hG : rowG g m s h r cnt (refsF P bA) (refsF P xA) log (.tup [.int (cnt + 1), .int (p : Int), .tup [.str 14, .int a, .int b]]) = g1 at *
  obtain ⟨g2, run, b1, f2⟩ := put_ok (s := a) (p := b) (w := w) ⟨X1.b p hp, X1.l p hp⟩ (X1.rl p hp) hw
  obtain ⟨n1, n2, n3, n4⟩ := ins_ne M1 X1 hh hr (X1.b p hp) (.inl rfl)
  have lt : ∀ {i : Nat} {o : Ob}, g1[i]? = some o → i < g1.length := fun e => (List.getElem?_eq_some_iff.mp e).1
  have M2 := M1.le (f2 m (lt M1.mo) (Ne.symm n1)) (f2 s (lt M1.so) (Ne.symm n2)) (f2 h (lt M1.ho) (Ne.symm n3)) (f2 r (lt M1.ro) (Ne.symm n4))
  have X2 := X1.buf hp (d := .lst ((putL (rows p) a b w).map rowD)) (L := putL (rows p) a b w) b1 rfl f2 (fun a ha => by cases ha) (putL_len (X1.rl p hp))
  have hres : m_Memory_result [.ref m, .int (p : Int), .tup [.str 14, .int a, .int b]] g1 = .ok w.d g2 := by
    show endM (b_Memory_result [some (.ref m), some (.int (p : Int)), some (.tup [.str 14, .int a, .int b]), none, none] g1) = _
    have wm := M1.smeth (nm := 25) (tbl := [(4, m_Sizes_word)]) (o := vFld [9, 10, 5] 2 (vVar 0)) (ms := aCons (vOp ixD (vVar 2) (vC (.int 1))) (aCons (vOp ixD (vVar 2) (vC (.int 2))) aNil)) (e := [some (.ref m), some (.int (p : Int)), some (.tup [.str 14, .int a, .int b]), some (.str 14), none]) (g2 := g1) (ds := [.int a, .int b]) (by simp [M1.sizes_]) rfl rfl (by simp [at1, at2])
    rw [M1.word_ok] at wm
    have pm := meth_e (nm := 22) (tbl := [(2, m_Buffer_put)]) (o := vOp ixD (vFld [5] 7 (vVar 0)) (vVar 1)) (ms := aCons (vOp ixD (vVar 2) (vC (.int 1))) (aCons (vOp ixD (vVar 2) (vC (.int 2))) (aCons (vVar 4) aNil))) (e := [some (.ref m), some (.int (p : Int)), some (.tup [.str 14, .int a, .int b]), some (.str 14), some w.d]) (g := g1) (g2 := g1) (ds := [.int a, .int b, w.d]) (by simp [M1.bufs, refs_at hp]) (X1.b p hp) rfl rfl (by simp [at1, at2])
    rw [run] at pm
    unfold b_Memory_result c_Memory_result_7 c_Memory_result_6 c_Memory_result_5 c_Memory_result_4 c_Memory_result_3 c_Memory_result_2
    have tt : inD false g1 (.str 14) (.tup [.str 9, .str 10, .str 11]) = some (.bl false) := rfl
    simp [at0, vTup_s, okL_s, tt, eq_str, M1.held_, wm, M1.at_ hd, pm]
  refine ⟨g2, _, _, acc hres M2.count_, M2, rfl, X2, fun i hi i1 i2 i3 i4 => ?_, ?_⟩
  · rw [f2 i (by omega) (i4 p hp).1]
    exact rf i1 i3
  · have := (List.getElem?_eq_some_iff.mp M2.mo).1
    have q : ∀ i, i < g1.length → i < g2.length := fun i hi => by
      by_cases e : i = bA p
      · rw [e]
        exact (List.getElem?_eq_some_iff.mp b1).1
      · have := f2 i hi e
        rw [List.getElem?_eq_getElem hi] at this
        exact (List.getElem?_eq_some_iff.mp this).1
    rw [← rl]
    cases hz : g1.length with
    | zero => omega
    | succ k => exact q k (by omega)
theorem use_to {p : Nat} (hp : p < P) {k : Nat} {a b i : Int} {rest : List D} (hk : k = 15 ∧ rest = [] ∨ (k = 16 ∧ ∃ v, rest = [v]) ∨ k = 17 ∧ ∃ o v, rest = [o, v] ∧ pud 5 o = true) (hh5 : ∀ v ∈ held, pud 5 v = true)
    (hf : ∀ f, findD (rows p) a b (!(k == 15)) = .int f → 0 ≤ 1 + (P : Int) + 32 + 2 * f + i ∧ 1 + (P : Int) + 32 + 2 * f + i < held.length) :
    ∃ g', m_Memory_use [.ref m, .int (p : Int), .tup (.str k :: .int a :: .int b :: .int i :: rest)] g = .ok (useDo held k (findD (rows p) a b (!(k == 15))) P i rest).1 g' ∧ (g' = g ∧ (useDo held k (findD (rows p) a b (!(k == 15))) P i rest).2 = held ∨ g' = g.set h (.lst (useDo held k (findD (rows p) a b (!(k == 15))) P i rest).2)) := by
  have fm := fun (w : Bool) => framefor_ok (s := a) (p := b) (w := w) ⟨X.b p hp, X.l p hp⟩
  have head : m_Memory_use [.ref m, .int (p : Int), .tup (.str k :: .int a :: .int b :: .int i :: rest)] g = endM (c_Memory_use_7 [some (.ref m), some (.int (p : Int)), some (.tup (.str k :: .int a :: .int b :: .int i :: rest)), some (.str k), some (findD (rows p) a b (!(k == 15))), none] g) := by
    show endM (b_Memory_use [some (.ref m), some (.int (p : Int)), some (.tup (.str k :: .int a :: .int b :: .int i :: rest)), none, none, none] g) = _
    have pm := meth_e (nm := 24) (tbl := [(2, m_Buffer_frame_for)]) (o := vOp ixD (vFld [5] 7 (vVar 0)) (vVar 1)) (ms := aCons (vOp ixD (vVar 2) (vC (.int 1))) (aCons (vOp ixD (vVar 2) (vC (.int 2))) (aCons (vOp neD (vVar 3) (vC (.str 15))) aNil))) (e := [some (.ref m), some (.int (p : Int)), some (.tup (.str k :: .int a :: .int b :: .int i :: rest)), some (.str k), none, none]) (g := g) (g2 := g) (ds := [.int a, .int b, .bl (!(k == 15))]) (by simp [M.bufs, refs_at hp]) (X.b p hp) rfl rfl (by simp [at1, at2, ne_str])
    rw [fm] at pm
    unfold b_Memory_use c_Memory_use_8
    simp only [sSeq_e, sAsg_e, vOp_e, vVar_e, List.getElem?_cons_zero, List.getElem?_cons_succ, Res.bind, vC_e, ixD_tup, at0, oR_some, sBind, List.set, pm]
  rw [head]
  unfold c_Memory_use_7
  cases hfd : findD (rows p) a b (!(k == 15)) with
  | int f =>
    obtain ⟨c0, c1⟩ := hf f hfd
    obtain ⟨v0, hv, vm⟩ := atI_mem c0 c1
    have pv := hh5 v0 vm
    have fc := M.smeth (nm := 27) (tbl := [(4, m_Sizes_frame_cell)]) (o := vFld [9, 10, 5] 2 (vVar 0)) (ms := aCons (vVar 4) (aCons (vOp ixD (vVar 2) (vC (.int 3))) aNil)) (e := [some (.ref m), some (.int (p : Int)), some (.tup (.str k :: .int a :: .int b :: .int i :: rest)), some (.str k), some (.int f), none]) (g2 := g) (ds := [.int f, .int i]) (by simp [M.sizes_]) rfl rfl (by simp [at3])
    rw [M.fcell_ok] at fc
    have hc : ixN held.length (1 + (P : Int) + 32 + 2 * f + i) = some (1 + (P : Int) + 32 + 2 * f + i).toNat := by
      unfold ixN
      have h2 : ¬ 1 + (P : Int) + 32 + 2 * f + i < 0 := by omega
      simp only [h2, if_false, c0, if_true]
      rw [if_pos (by omega)]
    generalize hcc : 1 + (P : Int) + 32 + 2 * f + i = cc at *
    have sub : ∀ (j : Nat) (x : D), (vOp ixD (vVar 2) (vC (.int (j : Int)))) [some (.ref m), some (.int (p : Int)), some (.tup (.str k :: .int a :: .int b :: .int i :: rest)), some (.str k), some (.int f), some (.int cc)] g = .ok x g → sSub (vFld [5] 1 (vVar 0)) (vVar 5) (vOp ixD (vVar 2) (vC (.int (j : Int)))) [some (.ref m), some (.int (p : Int)), some (.tup (.str k :: .int a :: .int b :: .int i :: rest)), some (.str k), some (.int f), some (.int cc)] g = .nx [some (.ref m), some (.int (p : Int)), some (.tup (.str k :: .int a :: .int b :: .int i :: rest)), some (.str k), some (.int f), some (.int cc)] (g.set h (.lst (held.set cc.toNat x))) := by
      intro j x hx
      unfold sSub
      simp only [hx, sBind, vUn_e, vVar_e, List.getElem?_cons_zero, List.getElem?_cons_succ, Res.bind, M.held_, oR_some, M.ho, hc]
    have hd6 : (sSeq (sIf (tOf (vOp isN (vVar 4) (vC .non))) (sRet (vIf (tOf (vOp eqD (vVar 3) (vC (.str 16)))) (vC (.bl false)) (vC .non))) sNx) c_Memory_use_6) [some (.ref m), some (.int (p : Int)), some (.tup (.str k :: .int a :: .int b :: .int i :: rest)), some (.str k), some (.int f), none] g = c_Memory_use_5 [some (.ref m), some (.int (p : Int)), some (.tup (.str k :: .int a :: .int b :: .int i :: rest)), some (.str k), some (.int f), some (.int cc)] g := by
      unfold c_Memory_use_6
      simp only [sSeq_e, sIf_e, tOf_e, vOp_e, vVar_e, List.getElem?_cons_zero, List.getElem?_cons_succ, Res.bind, vC_e, isN_e, nonD_int, oR_some, bR_bl, sBind, cond_false, sNx_e, sAsg_e, fc, List.set]
    rw [hd6]
    unfold c_Memory_use_5
    rcases hk with ⟨rfl, rfl⟩ | ⟨rfl, v, rfl⟩ | ⟨rfl, o, v, rfl, po⟩
    · have ud : useDo held 15 (.int f) P i [] = (.tup [v0], held) := by simp [useDo, hcc, hv]
      rw [ud]
      refine ⟨g, ?_, .inl ⟨rfl, rfl⟩⟩
      simp [eq_str, M.held_, M.at_ hv, vTup_s, okL_s]
    · have ud : useDo held 16 (.int f) P i [v] = (.bl true, held.set cc.toNat v) := by simp [useDo, hcc]
      rw [ud]
      refine ⟨_, ?_, .inr rfl⟩
      have s1 := sub 4 v (by rfl)
      simp only [Int.ofNat_eq_natCast, Int.cast_ofNat_Int] at s1
      unfold c_Memory_use_4
      simp only [sSeq_e, sIf_e, tOf_e, vOp_e, vVar_e, List.getElem?_cons_zero, List.getElem?_cons_succ, Res.bind, vC_e, eq_str, oR_some, bR_bl, sBind, (show ((16 : Nat) == 15) = false from rfl), (show ((16 : Nat) == 16) = true from rfl), cond_false, cond_true, sNx_e]
      rw [s1]
      rfl
    · have s1 := sub 5 v (by rfl)
      simp only [Int.ofNat_eq_natCast, Int.cast_ofNat_Int] at s1
      have i4 : ixD g (.tup [.str 17, .int a, .int b, .int i, o, v]) (.int 4) = some o := rfl
      have nn : neD g v0 o = some (.bl (!deq v0 o)) := by
        have e1 := pure_snap (g := g) pv
        have e2 := pure_snap (g := g) po
        rw [neD_e (by rw [e1, e2, pud_le (by decide) pv, pud_le (by decide) po]; rfl), e1, e2]
      have ud : useDo held 17 (.int f) P i [o, v] = bif deq v0 o then (.tup [.str 19], held.set cc.toNat v) else (.tup [v0], held) := by
        simp [useDo, hcc, hv]
      rw [ud]
      unfold c_Memory_use_4 c_Memory_use_3
      cases hq : deq v0 o with
      | true =>
        rw [hq] at nn
        refine ⟨_, ?_, .inr rfl⟩
        unfold c_Memory_use_2 c_Memory_use_1
        simp only [sSeq_e, sIf_e, tOf_e, vOp_e, vVar_e, List.getElem?_cons_zero, List.getElem?_cons_succ, Res.bind, vC_e, eq_str, oR_some, bR_bl, sBind, (show ((17 : Nat) == 15) = false from rfl), (show ((17 : Nat) == 16) = false from rfl), cond_false, sNx_e, vUn_e, M.held_, M.at_ hv, i4, nn, Bool.not_true]
        rw [s1]
        rfl
      | false =>
        rw [hq] at nn
        refine ⟨g, ?_, .inl ⟨rfl, rfl⟩⟩
        simp only [sSeq_e, sIf_e, tOf_e, vOp_e, vVar_e, List.getElem?_cons_zero, List.getElem?_cons_succ, Res.bind, vC_e, eq_str, oR_some, bR_bl, sBind, (show ((17 : Nat) == 15) = false from rfl), (show ((17 : Nat) == 16) = false from rfl), cond_false, cond_true, sNx_e, vUn_e, M.held_, M.at_ hv, i4, nn, Bool.not_false, sRet_e, vTup_s, aCons_e, aNil_e, (show okL [v0].length = true from rfl), endM_rt]
  | non =>
    refine ⟨g, ?_, .inl ⟨rfl, rfl⟩⟩
    simp only [sSeq_e, sIf_e, tOf_e, vOp_e, vVar_e, List.getElem?_cons_zero, List.getElem?_cons_succ, Res.bind, vC_e, isN_e, nonD_non, oR_some, bR_bl, sBind, cond_true, sRet_e, vIf_e, eq_str, useDo]
    cases k == 16 <;> rfl
  | _ =>
    exfalso
    unfold findD at hfd
    split at hfd <;> cases hfd
theorem use_ok {p : Nat} (hp : p < P) {k : Nat} {a b i : Int} {rest : List D} (ha : 0 ≤ a ∧ a < 4) (hb : 0 ≤ b ∧ b < 8) (hi : 0 ≤ i ∧ i < 2) (hk : k = 15 ∧ rest = [] ∨ (k = 16 ∧ ∃ v, rest = [v]) ∨ k = 17 ∧ ∃ o v, rest = [o, v] ∧ pud 5 o = true) (hh5 : ∀ v ∈ held, pud 5 v = true)
    (hf : ∀ f, findD (rows p) a b (!(k == 15)) = .int f → 0 ≤ 1 + (P : Int) + 32 + 2 * f + i ∧ 1 + (P : Int) + 32 + 2 * f + i < held.length) (hl : log.length < 99999) :
    ∃ g' y, m_Memory_access [.ref m, .int (p : Int), .tup (.str k :: .int a :: .int b :: .int i :: rest)] g = .ok (.tup [(useDo held k (findD (rows p) a b (!(k == 15))) P i rest).1, .int (cnt + 1)]) g' ∧ MC g' m s h r (P : Int) N B (cnt + 1) (refsF P bA) (refsF P xA) (useDo held k (findD (rows p) a b (!(k == 15))) P i rest).2 (log ++ [y]) ∧ y = .tup [.int (cnt + 1), .int (p : Int), .tup (.str k :: .int a :: .int b :: .int i :: rest)] ∧
      MX g' P bA xA yA ld rows lets St ∧ Rest g g' m h r P bA xA yA ∧ g.length ≤ g'.length := by
  have hk2 : k = 14 ∧ (D.int i :: rest).length = 0 ∨ (k = 15 ∧ (D.int i :: rest).length = 1 ∨ k = 16 ∧ (D.int i :: rest).length = 2 ∨ k = 17 ∧ (D.int i :: rest).length = 3) := by
    rcases hk with ⟨rfl, rfl⟩ | ⟨rfl, v, rfl⟩ | ⟨rfl, o, v, rfl, _⟩
    · exact .inr (.inl ⟨rfl, rfl⟩)
    · exact .inr (.inr (.inl ⟨rfl, rfl⟩))
    · exact .inr (.inr (.inr ⟨rfl, rfl⟩))
  have hc := M.chk_page (p := (p : Int)) (k := k) (a := a) (b := b) (rest := .int i :: rest) (by omega) (by omega) hk2 (M.page_ok ha hb (.inr ⟨i, rest, rfl, hi.1, hi.2⟩))
  have k12 : (k == 12) = false := by rcases hk with ⟨rfl, _⟩ | ⟨rfl, _⟩ | ⟨rfl, _⟩ <;> rfl
  have M1 : MC (rowG g m s h r cnt (refsF P bA) (refsF P xA) log (.tup [.int (cnt + 1), .int (p : Int), .tup (.str k :: .int a :: .int b :: .int i :: rest)])) m s h r (P : Int) N B (cnt + 1) (refsF P bA) (refsF P xA) held (log ++ [.tup [.int (cnt + 1), .int (p : Int), .tup (.str k :: .int a :: .int b :: .int i :: rest)]]) := M.row hl rfl
  have X1 := row_mx M X hh hr (cnt := cnt) (y := .tup [.int (cnt + 1), .int (p : Int), .tup (.str k :: .int a :: .int b :: .int i :: rest)])
  have acc := fun {res g' c'} => M.acc_of (k := k) (rest := .int a :: .int b :: .int i :: rest) hc k12 hl (res := res) (g' := g') (c' := c')
  have rl := row_len (g := g) (m := m) (s := s) (h := h) (r := r) (cnt := cnt) (bs := refsF P bA) (xs := refsF P xA) (log := log) (y := .tup [.int (cnt + 1), .int (p : Int), .tup (.str k :: .int a :: .int b :: .int i :: rest)])
  have rf := fun {j} => row_fr (g := g) (m := m) (s := s) (h := h) (r := r) (cnt := cnt) (bs := refsF P bA) (xs := refsF P xA) (log := log) (y := .tup [.int (cnt + 1), .int (p : Int), .tup (.str k :: .int a :: .int b :: .int i :: rest)]) (i := j)
  generalize hG : rowG g m s h r cnt (refsF P bA) (refsF P xA) log (.tup [.int (cnt + 1), .int (p : Int), .tup (.str k :: .int a :: .int b :: .int i :: rest)]) = g1 at *
  obtain ⟨g2, run, hg2⟩ := use_to M1 X1 hh hr hp hk hh5 hf
  have ul : (useDo held k (findD (rows p) a b (!(k == 15))) P i rest).2.length = held.length := by
    unfold useDo
    split
    · split
      · rfl
      · simp
      · cases deq _ _ <;> simp
      · rfl
    · rfl
  have M2 : MC g2 m s h r (P : Int) N B (cnt + 1) (refsF P bA) (refsF P xA) (useDo held k (findD (rows p) a b (!(k == 15))) P i rest).2 (log ++ [.tup [.int (cnt + 1), .int (p : Int), .tup (.str k :: .int a :: .int b :: .int i :: rest)]]) := by
    rcases hg2 with ⟨rfl, e⟩ | rfl
    · rw [e]
      exact M1
    · exact M1.put (by rw [ul]; exact M.hl)
  have X2 : MX g2 P bA xA yA ld rows lets St := by
    rcases hg2 with ⟨rfl, e⟩ | rfl
    · exact X1
    · exact X1.at_ hh
  have hres : m_Memory_result [.ref m, .int (p : Int), .tup (.str k :: .int a :: .int b :: .int i :: rest)] g1 = .ok (useDo held k (findD (rows p) a b (!(k == 15))) P i rest).1 g2 := by
    show endM (b_Memory_result [some (.ref m), some (.int (p : Int)), some (.tup (.str k :: .int a :: .int b :: .int i :: rest)), none, none] g1) = _
    have um := M1.meth (nm := 34) (tbl := [(5, m_Memory_use)]) (o := vVar 0) (ms := aCons (vVar 1) (aCons (vVar 2) aNil)) (e := [some (.ref m), some (.int (p : Int)), some (.tup (.str k :: .int a :: .int b :: .int i :: rest)), some (.str k), none]) (g2 := g1) rfl rfl rfl rfl
    rw [run] at um
    unfold b_Memory_result c_Memory_result_7 c_Memory_result_6 c_Memory_result_5 c_Memory_result_4 c_Memory_result_1
    have tt : inD false g1 (.str k) (.tup [.str 9, .str 10, .str 11]) = some (.bl false) := by rcases hk with ⟨rfl, _⟩ | ⟨rfl, _⟩ | ⟨rfl, _⟩ <;> rfl
    have k13 : (k == 13) = false := by rcases hk with ⟨rfl, _⟩ | ⟨rfl, _⟩ | ⟨rfl, _⟩ <;> rfl
    have k14 : (k == 14) = false := by rcases hk with ⟨rfl, _⟩ | ⟨rfl, _⟩ | ⟨rfl, _⟩ <;> rfl
    simp only [sSeq_e, sAsg_e, vOp_e, vVar_e, List.getElem?_cons_zero, List.getElem?_cons_succ, Res.bind, vC_e, ixD_tup, at0, oR_some, sBind, List.set, sIf_e, tOf_e, vTup_s, aCons_e, aNil_e, (show okL [D.str 9, .str 10, .str 11].length = true from rfl), tt, bR_bl, cond_false, sNx_e, eq_str, k12, k13, k14, sRet_e, um, endM_rt]
  refine ⟨g2, _, acc hres M2.count_, M2, rfl, X2, fun j hj i1 i2 i3 i4 => ?_, ?_⟩
  · rcases hg2 with ⟨rfl, e⟩ | rfl
    · exact rf i1 i3
    · rw [List.getElem?_set_ne (Ne.symm i2)]
      exact rf i1 i3
  · rcases hg2 with ⟨rfl, e⟩ | rfl
    · omega
    · rw [List.length_set]
      omega
theorem send_acc {p q : Nat} (hp : p < P) (hq : q < P) {x : Lt} (hx : m_is_letter [letD x] g = .ok (.bl true) g) (hL : (lets q ++ [x]).length ≤ 900) (hl : log.length < 99999) :
    ∃ g' y, m_Memory_access [.ref m, .int (p : Int), .tup [.str 12, .int (q : Int), letD x]] g = .ok (.tup [.non, .int (cnt + 1)]) g' ∧ MC g' m s h r (P : Int) N B (cnt + 1) (refsF P bA) (refsF P xA) held (log ++ [y]) ∧ y = .tup [.int (cnt + 1), .int (p : Int), .tup [.str 12, .int (q : Int), letD x]] ∧
      MX g' P bA xA yA ld rows (fset lets q (lets q ++ [x])) St ∧ Rest g g' m h r P bA xA yA ∧ g.length ≤ g'.length := by
  have w : m_is_within [.int (p : Int), .int 0, .int ((P : Int) - 1)] g = .ok (.bl true) g := within_ok (by omega) (by omega)
  have w2 : m_is_within [.int (q : Int), .int 0, .int ((P : Int) - 1)] g = .ok (.bl true) g := within_ok (by omega) (by omega)
  have hc : m_Memory_check_request [.ref m, .int (p : Int), .tup [.str 12, .int (q : Int), letD x]] g = .ok .non g := by
    show endM (b_Memory_check_request [some (.ref m), some (.int (p : Int)), some (.tup [.str 12, .int (q : Int), letD x]), none] g) = _
    unfold b_Memory_check_request c_Memory_check_request_3 c_Memory_check_request_2 c_Memory_check_request_1
    simp [M.sizes_, M.procs, w, w2, at0, at1, vDGet, isDc, dcG, dicG, ne_int, eq_int, vTup_s, okL_s, inD, sqD, eq_str, ne_str]
  have sd := send_ok (x := x) (X.x q hq) (X.y q hq) (by have := X.ll q hq; omega) hx
  have yq := X.y q hq
  have ny := (X.ns q hq).2.2
  have M1 : MC (g.set (yA q) (.lst ((lets q ++ [x]).map letD))) m s h r (P : Int) N B cnt (refsF P bA) (refsF P xA) held log := M.out (fun e => by rw [e, M.mo] at yq; cases yq) (fun e => by rw [e, M.so] at yq; cases yq) (fun e => ny (by rw [e]; exact hh)) (fun e => ny (by rw [e]; exact hr))
  have X1 := X.send hq hL
  have a := M.meth (nm := 29) (tbl := [(5, m_Memory_check_request)]) (o := vVar 0) (ms := aCons (vVar 1) (aCons (vVar 2) aNil)) (e := [some (.ref m), some (.int (p : Int)), some (.tup [.str 12, .int (q : Int), letD x])]) (g2 := g) rfl rfl rfl rfl
  rw [hc] at a
  have sm := meth_e (nm := 12) (tbl := [(3, m_Box_send)]) (o := vOp ixD (vFld [5] 8 (vVar 0)) (vOp ixD (vVar 2) (vC (.int 1)))) (ms := aCons (vOp ixD (vVar 2) (vC (.int 2))) aNil) (e := [some (.ref m), some (.int (p : Int)), some (.tup [.str 12, .int (q : Int), letD x])]) (g := g) (g2 := g) (ds := [letD x]) (by simp [M.boxs, at1, refs_at hq]) (X.x q hq) rfl rfl (by simp [at2])
  rw [sd] at sm
  have lg1 : (g.set (yA q) (.lst ((lets q ++ [x]).map letD))).length = g.length := by simp
  have fr1 : ∀ i, i ≠ yA q → (g.set (yA q) (.lst ((lets q ++ [x]).map letD)))[i]? = g[i]? := fun i e => List.getElem?_set_ne (Ne.symm e)
  generalize hG : g.set (yA q) (.lst ((lets q ++ [x]).map letD)) = g1 at *
  have M2 : MC (rowG g1 m s h r cnt (refsF P bA) (refsF P xA) log (.tup [.int (cnt + 1), .int (p : Int), .tup [.str 12, .int (q : Int), letD x]])) m s h r (P : Int) N B (cnt + 1) (refsF P bA) (refsF P xA) held (log ++ [.tup [.int (cnt + 1), .int (p : Int), .tup [.str 12, .int (q : Int), letD x]]]) := M1.row hl rfl
  have X2 := row_mx M1 X1 hh hr (cnt := cnt) (y := .tup [.int (cnt + 1), .int (p : Int), .tup [.str 12, .int (q : Int), letD x]])
  have hres : m_Memory_result [.ref m, .int (p : Int), .tup [.str 12, .int (q : Int), letD x]] (rowG g1 m s h r cnt (refsF P bA) (refsF P xA) log (.tup [.int (cnt + 1), .int (p : Int), .tup [.str 12, .int (q : Int), letD x]])) = .ok .non (rowG g1 m s h r cnt (refsF P bA) (refsF P xA) log (.tup [.int (cnt + 1), .int (p : Int), .tup [.str 12, .int (q : Int), letD x]])) := by
    generalize rowG g1 m s h r cnt (refsF P bA) (refsF P xA) log (.tup [.int (cnt + 1), .int (p : Int), .tup [.str 12, .int (q : Int), letD x]]) = g2
    show endM (b_Memory_result [some (.ref m), some (.int (p : Int)), some (.tup [.str 12, .int (q : Int), letD x]), none, none] g2) = _
    unfold b_Memory_result c_Memory_result_7 c_Memory_result_6
    have tt : inD false g2 (.str 12) (.tup [.str 9, .str 10, .str 11]) = some (.bl false) := rfl
    simp [at0, vTup_s, okL_s, tt, eq_str]
  have a2 := M1.acc2 (p := (p : Int)) (rq := .tup [.str 12, .int (q : Int), letD x]) hl hres M2.count_
  refine ⟨_, _, ?_, M2, rfl, X2, fun i hi i1 i2 i3 i4 => ?_, ?_⟩
  · show endM (b_Memory_access [some (.ref m), some (.int (p : Int)), some (.tup [.str 12, .int (q : Int), letD x])] g) = _
    unfold b_Memory_access c_Memory_access_4
    simp only [sSeq_e, sDrop_e, a, sBind, sIf_e, tOf_e, vOp_e, vVar_e, List.getElem?_cons_zero, List.getElem?_cons_succ, Res.bind, vC_e, ixD_tup, at0, oR_some, eq_str, (show ((12 : Nat) == 12) = true from rfl), bR_bl, cond_true, sm, a2]
    rfl
  · rw [row_fr i1 i3]
    exact fr1 i (i4 q hq).2.2
  · rw [row_len]
    omega
theorem chk_take {p : Nat} (hp : p < P) : m_Memory_check_request [.ref m, .int (p : Int), .tup [.str 13]] g = .ok .non g := by
  have w : m_is_within [.int (p : Int), .int 0, .int ((P : Int) - 1)] g = .ok (.bl true) g := within_ok (by omega) (by omega)
  show endM (b_Memory_check_request [some (.ref m), some (.int (p : Int)), some (.tup [.str 13]), none] g) = _
  unfold b_Memory_check_request c_Memory_check_request_3 c_Memory_check_request_2 c_Memory_check_request_1
  simp [M.sizes_, M.procs, w, at0, vDGet, isDc, dcG, dicG, ne_int, eq_int, vTup_s, okL_s, inD, sqD, eq_str, ne_str]
theorem take_no {p : Nat} (hp : p < P) (hL : lets p = []) (hl : log.length < 99999) :
    ∃ g' y, m_Memory_access [.ref m, .int (p : Int), .tup [.str 13]] g = .ok (.tup [.bl false, .int (cnt + 1)]) g' ∧ MC g' m s h r (P : Int) N B (cnt + 1) (refsF P bA) (refsF P xA) held (log ++ [y]) ∧ y = .tup [.int (cnt + 1), .int (p : Int), .tup [.str 13]] ∧
      MX g' P bA xA yA ld rows lets St ∧ Rest g g' m h r P bA xA yA ∧ g.length ≤ g'.length := by
  have hc := chk_take M X hh hr hp
  have M1 : MC (rowG g m s h r cnt (refsF P bA) (refsF P xA) log (.tup [.int (cnt + 1), .int (p : Int), .tup [.str 13]])) m s h r (P : Int) N B (cnt + 1) (refsF P bA) (refsF P xA) held (log ++ [.tup [.int (cnt + 1), .int (p : Int), .tup [.str 13]]]) := M.row hl rfl
  have X1 := row_mx M X hh hr (cnt := cnt) (y := .tup [.int (cnt + 1), .int (p : Int), .tup [.str 13]])
  have hres : m_Memory_result [.ref m, .int (p : Int), .tup [.str 13]] (rowG g m s h r cnt (refsF P bA) (refsF P xA) log (.tup [.int (cnt + 1), .int (p : Int), .tup [.str 13]])) = .ok (.bl false) (rowG g m s h r cnt (refsF P bA) (refsF P xA) log (.tup [.int (cnt + 1), .int (p : Int), .tup [.str 13]])) := by
    generalize rowG g m s h r cnt (refsF P bA) (refsF P xA) log (.tup [.int (cnt + 1), .int (p : Int), .tup [.str 13]]) = g1 at *
    have tn := take_nil (X1.x p hp) (by have := X1.y p hp; rw [hL] at this; exact this)
    have tk : m_Memory_take [.ref m, .int (p : Int)] g1 = .ok (.bl false) g1 := by
      show endM (b_Memory_take [some (.ref m), some (.int (p : Int)), none, none, none] g1) = _
      have bm := meth_e (nm := 13) (tbl := [(7, m_Owners_take), (3, m_Box_take)]) (o := vOp ixD (vFld [5] 8 (vVar 0)) (vVar 1)) (ms := aNil) (e := [some (.ref m), some (.int (p : Int)), none, none, none]) (g := g1) (g2 := g1) (ds := []) (by simp [M1.boxs, refs_at hp]) (X1.x p hp) rfl rfl rfl
      rw [tn] at bm
      unfold b_Memory_take c_Memory_take_5
      simp [bm]
    show endM (b_Memory_result [some (.ref m), some (.int (p : Int)), some (.tup [.str 13]), none, none] g1) = _
    have um := M1.meth (nm := 13) (tbl := [(5, m_Memory_take)]) (o := vVar 0) (ms := aCons (vVar 1) aNil) (e := [some (.ref m), some (.int (p : Int)), some (.tup [.str 13]), some (.str 13), none]) (g2 := g1) rfl rfl rfl rfl
    rw [tk] at um
    unfold b_Memory_result c_Memory_result_7 c_Memory_result_6 c_Memory_result_5
    have tt : inD false g1 (.str 13) (.tup [.str 9, .str 10, .str 11]) = some (.bl false) := rfl
    simp [at0, vTup_s, okL_s, tt, eq_str, um]
  refine ⟨_, _, M.acc_of (k := 13) (rest := []) hc rfl hl hres M1.count_, M1, rfl, X1, fun i hi i1 i2 i3 i4 => row_fr i1 i3, Nat.le_of_eq row_len.symm⟩
theorem take_yes {p : Nat} (hp : p < P) {x : Lt} {L : List Lt} (hL : lets p = x :: L) (hS : ∀ i, St i → i < g.length) (hlen : 1 + P ≤ held.length) (hl : log.length < 99999) :
    ∃ g' y ld' yA', m_Memory_access [.ref m, .int (p : Int), .tup [.str 13]] g = .ok (.tup [.bl true, .int (cnt + 1)]) g' ∧ MC g' m s h r (P : Int) N B (cnt + 1) (refsF P bA) (refsF P xA) (held.set (1 + p) (.int x.1)) (log ++ [y]) ∧ y = .tup [.int (cnt + 1), .int (p : Int), .tup [.str 13]] ∧
      MX g' P bA xA yA' ld' (fset rows p ((rows p).filter (keepB x.2))) (fset lets p L) St ∧ Rest g g' m h r P bA xA yA ∧ g.length ≤ g'.length := by
  have hc := chk_take M X hh hr hp
  have M1 : MC (rowG g m s h r cnt (refsF P bA) (refsF P xA) log (.tup [.int (cnt + 1), .int (p : Int), .tup [.str 13]])) m s h r (P : Int) N B (cnt + 1) (refsF P bA) (refsF P xA) held (log ++ [.tup [.int (cnt + 1), .int (p : Int), .tup [.str 13]]]) := M.row hl rfl
  have X1 := row_mx M X hh hr (cnt := cnt) (y := .tup [.int (cnt + 1), .int (p : Int), .tup [.str 13]])
  have acc := fun {res g' c'} => M.acc_of (k := 13) (rest := []) hc rfl hl (res := res) (g' := g') (c' := c')
  have rl := row_len (g := g) (m := m) (s := s) (h := h) (r := r) (cnt := cnt) (bs := refsF P bA) (xs := refsF P xA) (log := log) (y := .tup [.int (cnt + 1), .int (p : Int), .tup [.str 13]])
  have rf := fun {j} => row_fr (g := g) (m := m) (s := s) (h := h) (r := r) (cnt := cnt) (bs := refsF P bA) (xs := refsF P xA) (log := log) (y := .tup [.int (cnt + 1), .int (p : Int), .tup [.str 13]]) (i := j)
  generalize hG : rowG g m s h r cnt (refsF P bA) (refsF P xA) log (.tup [.int (cnt + 1), .int (p : Int), .tup [.str 13]]) = g1 at *
  have hLl : L.length ≤ 900 := by
    have := X.ll p hp
    rw [hL, List.length_cons] at this
    omega
  have tn := take_cons (X1.x p hp) (by have := X1.y p hp; rw [hL] at this; exact this)
  obtain ⟨n1, n2, n3, n4⟩ := ins_ne M1 X1 hh hr (X1.x p hp) (.inr rfl)
  obtain ⟨b1, b2, b3, b4⟩ := ins_ne M1 X1 hh hr (X1.b p hp) (.inl rfl)
  have lt : ∀ {i : Nat} {o : Ob}, g1[i]? = some o → i < g1.length := fun e => (List.getElem?_eq_some_iff.mp e).1
  have f2 : ∀ i, i < g1.length → i ≠ xA p → ((g1 ++ [Ob.lst (L.map letD)]).set (xA p) (.ins 3 [(0, .ref g1.length)]))[i]? = g1[i]? := fun i hi e => by
    rw [List.getElem?_set_ne (Ne.symm e), List.getElem?_append_left hi]
  have l2 : ((g1 ++ [Ob.lst (L.map letD)]).set (xA p) (.ins 3 [(0, .ref g1.length)])).length = g1.length + 1 := by simp
  have M2 : MC ((g1 ++ [Ob.lst (L.map letD)]).set (xA p) (.ins 3 [(0, .ref g1.length)])) m s h r (P : Int) N B (cnt + 1) (refsF P bA) (refsF P xA) held (log ++ [.tup [.int (cnt + 1), .int (p : Int), .tup [.str 13]]]) := M1.le (f2 m (lt M1.mo) (Ne.symm n1)) (f2 s (lt M1.so) (Ne.symm n2)) (f2 h (lt M1.ho) (Ne.symm n3)) (f2 r (lt M1.ro) (Ne.symm n4))
  have X2 := X1.take hp hLl (fun e => by have := hS _ e; omega)
  have bx : bA p ≠ xA p := fun e => by
    have := X1.b p hp
    rw [e, X1.x p hp] at this
    cases this
  generalize hG2 : (g1 ++ [Ob.lst (L.map letD)]).set (xA p) (.ins 3 [(0, .ref g1.length)]) = g2 at *
  have dr := drop_ok (P := x.2) (tu := true) ⟨X2.b p hp, X2.l p hp⟩ (by have := X2.rl p hp; omega)
  have hbl := lt (X1.b p hp)
  have lf := List.length_filter_le (keepB x.2) (rows p)
  have f3 : ∀ i, i < g2.length → i ≠ bA p → ((g2 ++ [Ob.lst (((rows p).filter (keepB x.2)).map rowD)]).set (bA p) (.ins 2 [(0, .ref g2.length)]))[i]? = g2[i]? := fun i hi e => by
    rw [List.getElem?_set_ne (Ne.symm e), List.getElem?_append_left hi]
  have l3 : ((g2 ++ [Ob.lst (((rows p).filter (keepB x.2)).map rowD)]).set (bA p) (.ins 2 [(0, .ref g2.length)])).length = g2.length + 1 := by simp
  have lt2 : ∀ {i : Nat} {o : Ob}, g2[i]? = some o → i < g2.length := fun e => (List.getElem?_eq_some_iff.mp e).1
  have M3 : MC ((g2 ++ [Ob.lst (((rows p).filter (keepB x.2)).map rowD)]).set (bA p) (.ins 2 [(0, .ref g2.length)])) m s h r (P : Int) N B (cnt + 1) (refsF P bA) (refsF P xA) held (log ++ [.tup [.int (cnt + 1), .int (p : Int), .tup [.str 13]]]) := M2.le (f3 m (lt2 M2.mo) (Ne.symm b1)) (f3 s (lt2 M2.so) (Ne.symm b2)) (f3 h (lt2 M2.ho) (Ne.symm b3)) (f3 r (lt2 M2.ro) (Ne.symm b4))
  have X3 : MX ((g2 ++ [Ob.lst (((rows p).filter (keepB x.2)).map rowD)]).set (bA p) (.ins 2 [(0, .ref g2.length)])) P bA xA (fset yA p g1.length) (fset ld p (.ref g2.length)) (fset rows p ((rows p).filter (keepB x.2))) (fset lets p L) St := by
    refine X2.buf hp ?_ ?_ f3 (fun a ha => ?_) (by have := X.rl p hp; omega)
    · rw [List.getElem?_set_self (by simp; omega)]
    · refine lsD_ref ?_
      rw [List.getElem?_set_ne (by omega), get_snoc']
    · cases ha
      refine ⟨fun e => by have := hS _ e; omega, fun q hq e => ?_⟩
      have := lt2 (X2.y q hq)
      omega
  generalize hG3 : (g2 ++ [Ob.lst (((rows p).filter (keepB x.2)).map rowD)]).set (bA p) (.ins 2 [(0, .ref g2.length)]) = g3 at *
  have hix : ixN held.length (1 + (p : Int)) = some (1 + p) := by
    have := hlen
    unfold ixN
    have h0 : 0 ≤ 1 + (p : Int) := by omega
    simp only [h0, if_true]
    rw [if_pos (by omega)]
    congr 1
  have sb : sSub (vFld [5] 1 (vVar 0)) (vMeth 26 [(4, m_Sizes_acknowledge)] (vFld [9, 10, 5] 2 (vVar 0)) (aCons (vVar 1) aNil)) (vVar 3) [some (.ref m), some (.int (p : Int)), some (letD x), some (.int x.1), some (.tup (x.2.map pairD))] g3 = .nx [some (.ref m), some (.int (p : Int)), some (letD x), some (.int x.1), some (.tup (x.2.map pairD))] (g3.set h (.lst (held.set (1 + p) (.int x.1)))) := by
    have am := M3.smeth (nm := 26) (tbl := [(4, m_Sizes_acknowledge)]) (o := vFld [9, 10, 5] 2 (vVar 0)) (ms := aCons (vVar 1) aNil) (e := [some (.ref m), some (.int (p : Int)), some (letD x), some (.int x.1), some (.tup (x.2.map pairD))]) (g2 := g3) (ds := [.int (p : Int)]) (by simp [M3.sizes_]) rfl rfl rfl
    rw [M3.ack_ok] at am
    unfold sSub
    simp only [vVar_e, List.getElem?_cons_zero, List.getElem?_cons_succ, sBind, vUn_e, Res.bind, M3.held_, oR_some, am, M3.ho, hix]
  have M4 : MC (g3.set h (.lst (held.set (1 + p) (.int x.1)))) m s h r (P : Int) N B (cnt + 1) (refsF P bA) (refsF P xA) (held.set (1 + p) (.int x.1)) (log ++ [.tup [.int (cnt + 1), .int (p : Int), .tup [.str 13]]]) := M3.put (by rw [List.length_set]; exact M.hl)
  have X4 := X3.at_ (o := .lst (held.set (1 + p) (.int x.1))) hh
  have tk : m_Memory_take [.ref m, .int (p : Int)] g1 = .ok (.bl true) (g3.set h (.lst (held.set (1 + p) (.int x.1)))) := by
    show endM (b_Memory_take [some (.ref m), some (.int (p : Int)), none, none, none] g1) = _
    have bm := meth_e (nm := 13) (tbl := [(7, m_Owners_take), (3, m_Box_take)]) (o := vOp ixD (vFld [5] 8 (vVar 0)) (vVar 1)) (ms := aNil) (e := [some (.ref m), some (.int (p : Int)), none, none, none]) (g := g1) (g2 := g1) (ds := []) (by simp [M1.boxs, refs_at hp]) (X1.x p hp) rfl rfl rfl
    rw [tn] at bm
    have dm := meth_e (nm := 23) (tbl := [(2, m_Buffer_drop)]) (o := vOp ixD (vFld [5] 7 (vVar 0)) (vVar 1)) (ms := aCons (vVar 4) aNil) (e := [some (.ref m), some (.int (p : Int)), some (letD x), some (.int x.1), some (.tup (x.2.map pairD))]) (g := g2) (g2 := g2) (ds := [.tup (x.2.map pairD)]) (by simp [M2.bufs, refs_at hp]) (X2.b p hp) rfl rfl rfl
    have dr2 : m_Buffer_drop [.ref (bA p), .tup (x.2.map pairD)] g2 = .ok .non g3 := dr
    rw [dr2] at dm
    have tg : sTgt (vVar 2) (gT 2 (gsC (gN 3) (gsC (gN 4) gsN))) [some (.ref m), some (.int (p : Int)), some (letD x), none, none] g2 = .nx [some (.ref m), some (.int (p : Int)), some (letD x), some (.int x.1), some (.tup (x.2.map pairD))] g2 := rfl
    have nx : nonD (letD x) = false := rfl
    unfold b_Memory_take c_Memory_take_5 c_Memory_take_4 c_Memory_take_3 c_Memory_take_2 c_Memory_take_1
    rw [sSeq_e]
    simp only [sAsg_e, bm, sBind, List.set]
    rw [sSeq_e]
    simp only [sIf_e, tOf_e, vOp_e, vVar_e, List.getElem?_cons_zero, List.getElem?_cons_succ, Res.bind, vC_e, isN_e, nx, oR_some, bR_bl, sBind, cond_false, sNx_e]
    rw [sSeq_e, tg]
    simp only [sSeq_e, sDrop_e, dm, sBind, sb, sRet_e, vC_e, endM_rt]
  have hres : m_Memory_result [.ref m, .int (p : Int), .tup [.str 13]] g1 = .ok (.bl true) (g3.set h (.lst (held.set (1 + p) (.int x.1)))) := by
    show endM (b_Memory_result [some (.ref m), some (.int (p : Int)), some (.tup [.str 13]), none, none] g1) = _
    have um := M1.meth (nm := 13) (tbl := [(5, m_Memory_take)]) (o := vVar 0) (ms := aCons (vVar 1) aNil) (e := [some (.ref m), some (.int (p : Int)), some (.tup [.str 13]), some (.str 13), none]) (g2 := g1) rfl rfl rfl rfl
    rw [tk] at um
    unfold b_Memory_result c_Memory_result_7 c_Memory_result_6 c_Memory_result_5
    have tt : inD false g1 (.str 13) (.tup [.str 9, .str 10, .str 11]) = some (.bl false) := rfl
    simp [at0, vTup_s, okL_s, tt, eq_str, um]
  refine ⟨_, _, _, _, acc hres M4.count_, M4, rfl, X4, fun i hi i1 i2 i3 i4 => ?_, ?_⟩
  · rw [List.getElem?_set_ne (Ne.symm i2), f3 i (by omega) (i4 p hp).1, f2 i (by omega) (i4 p hp).2.1]
    exact rf i1 i3
  · rw [List.length_set]
    omega
end
end

/-! ### the requests that are drawn, and what they do -/
def Wd.ok4 : Wd → Prop
  | .other ds n => n ≠ 18 ∧ ∀ d ∈ ds, pud 3 d = true
  | .frame f _ => 0 ≤ f ∧ f < 4
  | .non => True
theorem Wd.ok4.ok {w : Wd} (h : w.ok4) : w.ok := by
  cases w with
  | other ds n => exact h.1
  | _ => trivial
theorem wd_pud {w : Wd} (h : w.ok4) : pud 5 w.d = true := by
  cases w with
  | other ds n =>
    simp only [Wd.d, pud_tup, List.all_cons, pud_str, Bool.true_and, List.all_eq_true]
    exact fun d hd => pud_le (by decide) (h.2 d hd)
  | _ => rfl
def wdOf : D → Wd
  | .tup (.str n :: ds) => (match n == 18, ds with
    | true, [.int f, .bl v] => .frame f v
    | _, _ => .other ds n)
  | _ => .non
theorem wdOf_d {w : Wd} (h : w.ok4) : wdOf w.d = w := by
  cases w with
  | non => rfl
  | frame f v => rfl
  | other ds n =>
    have hn : (n == 18) = false := beq_eq_false_iff_ne.mpr h.1
    simp only [Wd.d, wdOf, hn]
inductive Rq4 where
  | word (a b : Int) (w : Wd) | cell (j v : Int) | walk (a b : Int) | load (a b i : Int) | store (a b i v : Int) | change (a b i o v : Int) | send (q : Nat) (x : Lt) | take
def Rq4.d (P : Nat) : Rq4 → D
  | .word a b w => .tup [.str 10, .int (1 + (P : Int) + 8 * a + b), w.d]
  | .cell j v => .tup [.str 10, .int (33 + (P : Int) + j), .int v]
  | .walk a b => .tup [.str 14, .int a, .int b]
  | .load a b i => .tup [.str 15, .int a, .int b, .int i]
  | .store a b i v => .tup [.str 16, .int a, .int b, .int i, .int v]
  | .change a b i o v => .tup [.str 17, .int a, .int b, .int i, .int o, .int v]
  | .send q x => .tup [.str 12, .int (q : Int), letD x]
  | .take => .tup [.str 13]
def pgOk (a b : Int) : Prop := (0 ≤ a ∧ a < 4) ∧ 0 ≤ b ∧ b < 8
def Rq4.ok (P : Nat) : Rq4 → Prop
  | .word a b w => pgOk a b ∧ w.ok4
  | .cell j _ => 0 ≤ j ∧ j < 8
  | .walk a b => pgOk a b
  | .load a b i => pgOk a b ∧ 0 ≤ i ∧ i < 2
  | .store a b i _ => pgOk a b ∧ 0 ≤ i ∧ i < 2
  | .change a b i _ _ => pgOk a b ∧ 0 ≤ i ∧ i < 2
  | .send q x => q < P ∧ 1 ≤ x.1 ∧ 1 ≤ x.2.length ∧ x.2.length ≤ 10 ∧ x.2.all (fun q => okP q.1 q.2) = true
  | .take => True
structure S4 where
  held : List D
  rows : Nat → List Row
  lets : Nat → List Lt
def S4.use (S : S4) (P p k : Nat) (a b i : Int) (rest : List D) : D × S4 := ((useDo S.held k (findD (S.rows p) a b (!(k == 15))) P i rest).1, { S with held := (useDo S.held k (findD (S.rows p) a b (!(k == 15))) P i rest).2 })
def doR (P : Nat) (S : S4) (p : Nat) : Rq4 → D × S4
  | .word a b w => (.non, { S with held := S.held.set (1 + (P : Int) + 8 * a + b).toNat w.d })
  | .cell j v => (.non, { S with held := S.held.set (33 + (P : Int) + j).toNat (.int v) })
  | .walk a b => ((atI S.held (1 + (P : Int) + 8 * a + b)).getD .non, { S with rows := fset S.rows p (putL (S.rows p) a b (wdOf ((atI S.held (1 + (P : Int) + 8 * a + b)).getD .non))) })
  | .load a b i => S.use P p 15 a b i []
  | .store a b i v => S.use P p 16 a b i [.int v]
  | .change a b i o v => S.use P p 17 a b i [.int o, .int v]
  | .send q x => (.non, { S with lets := fset S.lets q (S.lets q ++ [x]) })
  | .take => (match S.lets p with
    | [] => (.bl false, S)
    | x :: L => (.bl true, ⟨S.held.set (1 + p) (.int x.1), fset S.rows p ((S.rows p).filter (keepB x.2)), fset S.lets p L⟩))
/-- what stays true -/
structure Ok4 (P n : Nat) (S : S4) : Prop where
  len : S.held.length = 51 + P
  pv : ∀ v ∈ S.held, pud 5 v = true
  wd : ∀ c : Nat, 1 + P ≤ c → c < 33 + P → ∃ w : Wd, w.ok4 ∧ S.held[c]? = some w.d
  fr : ∀ p, ∀ r ∈ S.rows p, 0 ≤ r.2.2.1 ∧ r.2.2.1 < 4
  rl : ∀ p, (S.rows p).length ≤ 2
  ll : ∀ p, (S.lets p).length ≤ n
theorem find_fr {L : List Row} {s p : Int} {w : Bool} {f : Int} (h : findD L s p w = .int f) (hL : ∀ r ∈ L, 0 ≤ r.2.2.1 ∧ r.2.2.1 < 4) : 0 ≤ f ∧ f < 4 := by
  unfold findD at h
  split at h
  · rename_i r hr
    cases h
    exact hL r (List.mem_of_find?_eq_some hr)
  · cases h
theorem Ok4.put {P n : Nat} {S : S4} (h : Ok4 P n S) {c : Nat} {v : D} (hv : pud 5 v = true) (hw : 1 + P ≤ c → c < 33 + P → ∃ w : Wd, w.ok4 ∧ v = w.d) : Ok4 P n { S with held := S.held.set c v } := by
  refine ⟨by simp [h.len], fun x hx => ?_, fun i h1 h2 => ?_, h.fr, h.rl, h.ll⟩
  · rcases List.mem_or_eq_of_mem_set hx with z | z
    · exact h.pv x z
    · rw [z]
      exact hv
  · by_cases e : i = c
    · subst e
      obtain ⟨w, w1, w2⟩ := hw h1 h2
      refine ⟨w, w1, ?_⟩
      rw [List.getElem?_set_self (by have := h.len; omega), w2]
    · rw [List.getElem?_set_ne (Ne.symm e)]
      exact h.wd i h1 h2
theorem putL_fr {L : List Row} {a b : Int} {w : Wd} (hL : ∀ r ∈ L, 0 ≤ r.2.2.1 ∧ r.2.2.1 < 4) (hw : w.ok4) : ∀ r ∈ putL L a b w, 0 ≤ r.2.2.1 ∧ r.2.2.1 < 4 := by
  have k : ∀ r ∈ L.filter (keepB [(a, b)]), 0 ≤ r.2.2.1 ∧ r.2.2.1 < 4 := fun r hr => hL r (List.mem_filter.mp hr).1
  have fin : ∀ L2 : List Row, (∀ r ∈ L2, 0 ≤ r.2.2.1 ∧ r.2.2.1 < 4) → ∀ r ∈ (if 2 < L2.length then L2.drop 1 else L2), 0 ≤ r.2.2.1 ∧ r.2.2.1 < 4 := fun L2 h2 r hr => by
    split at hr
    · exact h2 r (List.mem_of_mem_drop hr)
    · exact h2 r hr
  unfold putL
  cases w with
  | frame f v =>
    refine fin _ fun r hr => ?_
    rcases List.mem_append.mp hr with z | z
    · exact k r z
    · rw [List.mem_singleton.mp z]
      exact hw
  | non => exact fin _ k
  | other ds n => exact fin _ k
theorem use_ok4 {P n p k : Nat} {S : S4} (h : Ok4 P n S) {a b i : Int} {rest : List D} (hi : 0 ≤ i ∧ i < 2) (hr : rest.all (pud 5) = true) : Ok4 P n (S.use P p k a b i rest).2 ∧ pud 6 (S.use P p k a b i rest).1 = true := by
  unfold S4.use
  have idx : ∀ f, findD (S.rows p) a b (!(k == 15)) = .int f → 33 + P ≤ (1 + (P : Int) + 32 + 2 * f + i).toNat := fun f e => by
    have := find_fr e (h.fr p)
    omega
  have gd : ∀ c : Int, pud 5 ((atI S.held c).getD .non) = true := fun c => by
    cases e : atI S.held c with
    | none => rfl
    | some d =>
      unfold L2.atI at e
      cases z : ixN S.held.length c with
      | none => rw [z] at e; cases e
      | some j =>
        rw [z] at e
        exact h.pv d (List.mem_of_getElem? e)
  unfold useDo
  split
  · rename_i f hf
    have ix := idx f hf
    split
    · exact ⟨h, by simp [gd]⟩
    · rename_i v
      simp only [List.all_cons, List.all_nil, Bool.and_true] at hr
      exact ⟨h.put hr (by omega), rfl⟩
    · rename_i o v
      simp only [List.all_cons, List.all_nil, Bool.and_true, Bool.and_eq_true] at hr
      cases deq ((atI S.held (1 + (P : Int) + 32 + 2 * f + i)).getD .non) o with
      | true => exact ⟨h.put hr.2 (by omega), rfl⟩
      | false => exact ⟨h, by simp [gd]⟩
    · exact ⟨h, rfl⟩
  · exact ⟨h, by cases k == 16 <;> rfl⟩
theorem do_ok4 {P n p : Nat} {S : S4} (h : Ok4 P n S) {R : Rq4} (hR : R.ok P) (hp : p < P) : Ok4 P (n + 1) (doR P S p R).2 ∧ pud 6 (doR P S p R).1 = true := by
  have up : ∀ {S : S4}, Ok4 P n S → Ok4 P (n + 1) S := fun h => ⟨h.len, h.pv, h.wd, h.fr, h.rl, fun p => Nat.le_succ_of_le (h.ll p)⟩
  cases R with
  | word a b w => exact ⟨up (h.put (wd_pud hR.2) fun _ _ => ⟨w, hR.2, rfl⟩), rfl⟩
  | cell j v =>
    obtain ⟨j0, j1⟩ : 0 ≤ j ∧ j < 8 := hR
    exact ⟨up (h.put rfl fun h1 h2 => by omega), rfl⟩
  | walk a b =>
    obtain ⟨⟨a0, a1⟩, b0, b1⟩ : pgOk a b := hR
    obtain ⟨w, w1, w2⟩ := h.wd (1 + (P : Int) + 8 * a + b).toNat (by omega) (by omega)
    have e : atI S.held (1 + (P : Int) + 8 * a + b) = some w.d := by
      have := atI_nat w2
      rwa [show (((1 + (P : Int) + 8 * a + b).toNat : Nat) : Int) = 1 + (P : Int) + 8 * a + b by omega] at this
    simp only [doR, e, Option.getD_some, wdOf_d w1]
    refine ⟨up ⟨h.len, h.pv, h.wd, fun q r hr => ?_, fun q => ?_, h.ll⟩, pud_le (by decide) (wd_pud w1)⟩
    · by_cases z : q = p
      · subst z
        have hr : r ∈ fset S.rows q (putL (S.rows q) a b w) q := hr
        rw [fset_same] at hr
        exact putL_fr (h.fr q) w1 r hr
      · have hr : r ∈ fset S.rows p (putL (S.rows p) a b w) q := hr
        rw [fset_ne z] at hr
        exact h.fr q r hr
    · by_cases z : q = p
      · subst z
        show (fset S.rows q (putL (S.rows q) a b w) q).length ≤ 2
        rw [fset_same]
        exact putL_len (h.rl q)
      · show (fset S.rows p (putL (S.rows p) a b w) q).length ≤ 2
        rw [fset_ne z]
        exact h.rl q
  | load a b i =>
    have := use_ok4 (p := p) (k := 15) (a := a) (b := b) (rest := []) h hR.2 rfl
    exact ⟨up this.1, this.2⟩
  | store a b i v =>
    have := use_ok4 (p := p) (k := 16) (a := a) (b := b) (rest := [.int v]) h hR.2 rfl
    exact ⟨up this.1, this.2⟩
  | change a b i o v =>
    have := use_ok4 (p := p) (k := 17) (a := a) (b := b) (rest := [.int o, .int v]) h hR.2 rfl
    exact ⟨up this.1, this.2⟩
  | send q x =>
    refine ⟨⟨h.len, h.pv, h.wd, h.fr, h.rl, fun z => ?_⟩, rfl⟩
    by_cases e : z = q
    · subst e
      show (fset S.lets z (S.lets z ++ [x]) z).length ≤ n + 1
      rw [fset_same, List.length_append]
      have := h.ll z
      simp
      omega
    · show (fset S.lets q (S.lets q ++ [x]) z).length ≤ n + 1
      rw [fset_ne e]
      exact Nat.le_succ_of_le (h.ll z)
  | take =>
    unfold doR
    cases hL : S.lets p with
    | nil => exact ⟨up h, rfl⟩
    | cons x L =>
      have q := h.put (c := 1 + p) (v := .int x.1) rfl fun h1 h2 => by omega
      refine ⟨⟨q.len, q.pv, q.wd, fun z r hr => ?_, fun z => ?_, fun z => ?_⟩, rfl⟩
      · by_cases e : z = p
        · subst e
          have hr : r ∈ fset S.rows z ((S.rows z).filter (keepB x.2)) z := hr
          rw [fset_same] at hr
          exact h.fr z r (List.mem_filter.mp hr).1
        · have hr : r ∈ fset S.rows p ((S.rows p).filter (keepB x.2)) z := hr
          rw [fset_ne e] at hr
          exact h.fr z r hr
      · by_cases e : z = p
        · subst e
          show (fset S.rows z ((S.rows z).filter (keepB x.2)) z).length ≤ 2
          rw [fset_same]
          exact Nat.le_trans (List.length_filter_le _ _) (h.rl z)
        · show (fset S.rows p ((S.rows p).filter (keepB x.2)) z).length ≤ 2
          rw [fset_ne e]
          exact h.rl z
      · have := h.ll p
        rw [hL, List.length_cons] at this
        by_cases e : z = p
        · subst e
          show (fset S.lets z L z).length ≤ n + 1
          rw [fset_same]
          omega
        · show (fset S.lets p L z).length ≤ n + 1
          rw [fset_ne e]
          exact Nat.le_succ_of_le (h.ll z)

/-! ### the memory does it -/
section
variable {g : G} {m s h r P : Nat} {N B cnt : Int} {bA xA yA : Nat → Nat} {ld : Nat → D} {St : Nat → Prop} {log : List D} {S : S4}
theorem mem_do (M : MC g m s h r (P : Int) N B cnt (refsF P bA) (refsF P xA) S.held log) (X : MX g P bA xA yA ld S.rows S.lets St) (hh : St h) (hr : St r) {n : Nat} (hn : n < 800) (hO : Ok4 P n S) {p : Nat} (hp : p < P) {R : Rq4} (hR : R.ok P) (hS : ∀ i, St i → i < g.length) (hl : log.length < 99999) :
    ∃ g' yA' ld', m_Memory_access [.ref m, .int (p : Int), R.d P] g = .ok (.tup [(doR P S p R).1, .int (cnt + 1)]) g' ∧ MC g' m s h r (P : Int) N B (cnt + 1) (refsF P bA) (refsF P xA) (doR P S p R).2.held (log ++ [.tup [.int (cnt + 1), .int (p : Int), R.d P]]) ∧
      MX g' P bA xA yA' ld' (doR P S p R).2.rows (doR P S p R).2.lets St ∧ Rest g g' m h r P bA xA yA ∧ g.length ≤ g'.length := by
  have cw : ∀ {c : Int} {v : D}, 0 ≤ c → c < S.held.length → pud 5 v = true → ∃ g', m_Memory_access [.ref m, .int (p : Int), .tup [.str 10, .int c, v]] g = .ok (.tup [.non, .int (cnt + 1)]) g' ∧ MC g' m s h r (P : Int) N B (cnt + 1) (refsF P bA) (refsF P xA) (S.held.set c.toNat v) (log ++ [.tup [.int (cnt + 1), .int (p : Int), .tup [.str 10, .int c, v]]]) ∧ MX g' P bA xA yA ld S.rows S.lets St ∧ Rest g g' m h r P bA xA yA ∧ g.length ≤ g'.length := by
    intro c v c0 c1 pv
    obtain ⟨g', ha, M1, f1⟩ := M.acc (p := (p : Int)) (c := c) (k := 10) (rest := [v]) (by omega) (by omega) (.inr (.inl ⟨rfl, v, rfl, pv⟩)) c0 c1 hO.pv hl
    refine ⟨g', ha, M1, X.fr fun i hi n1 n2 => f1 i (fun e => n2 (memF s h r cnt (refsF P bA) (refsF P xA)) (by rw [e]; exact M.mo)) (fun e => n1 (by rw [e]; exact hh)) (fun e => n1 (by rw [e]; exact hr)), fun i hi i1 i2 i3 _ => f1 i i1 i2 i3, ?_⟩
    cases hz : g.length with
    | zero => omega
    | succ k =>
      have hk : k < g.length := by omega
      by_cases e1 : k = m
      · have := (List.getElem?_eq_some_iff.mp M1.mo).1
        omega
      · by_cases e2 : k = h
        · have := (List.getElem?_eq_some_iff.mp M1.ho).1
          omega
        · by_cases e3 : k = r
          · have := (List.getElem?_eq_some_iff.mp M1.ro).1
            omega
          · have := f1 k e1 e2 e3
            rw [List.getElem?_eq_getElem hk] at this
            have := (List.getElem?_eq_some_iff.mp this).1
            omega
  have us : ∀ {k : Nat} {a b i : Int} {rest : List D}, pgOk a b → (0 ≤ i ∧ i < 2) → (k = 15 ∧ rest = [] ∨ (k = 16 ∧ ∃ v, rest = [v]) ∨ k = 17 ∧ ∃ o v, rest = [o, v] ∧ pud 5 o = true) →
      ∃ g' yA' ld', m_Memory_access [.ref m, .int (p : Int), .tup (.str k :: .int a :: .int b :: .int i :: rest)] g = .ok (.tup [(S.use P p k a b i rest).1, .int (cnt + 1)]) g' ∧ MC g' m s h r (P : Int) N B (cnt + 1) (refsF P bA) (refsF P xA) (S.use P p k a b i rest).2.held (log ++ [.tup [.int (cnt + 1), .int (p : Int), .tup (.str k :: .int a :: .int b :: .int i :: rest)]]) ∧ MX g' P bA xA yA' ld' (S.use P p k a b i rest).2.rows (S.use P p k a b i rest).2.lets St ∧ Rest g g' m h r P bA xA yA ∧ g.length ≤ g'.length := by
    intro k a b i rest hab hi hk
    obtain ⟨g', y, ha, M1, rfl, X1, R1, l1⟩ := use_ok M X hh hr hp hab.1 hab.2 hi hk hO.pv (fun f e => by
      have := find_fr e (hO.fr p)
      have := hO.len
      omega) hl
    exact ⟨g', yA, ld, ha, M1, X1, R1, l1⟩
  cases R with
  | word a b w =>
    obtain ⟨⟨⟨a0, a1⟩, b0, b1⟩, hw⟩ : pgOk a b ∧ w.ok4 := hR
    obtain ⟨g', ha, M1, X1, R1, l1⟩ := cw (c := 1 + (P : Int) + 8 * a + b) (v := w.d) (by omega) (by have := hO.len; omega) (wd_pud hw)
    exact ⟨g', yA, ld, ha, M1, X1, R1, l1⟩
  | cell j v =>
    obtain ⟨j0, j1⟩ : 0 ≤ j ∧ j < 8 := hR
    obtain ⟨g', ha, M1, X1, R1, l1⟩ := cw (c := 33 + (P : Int) + j) (v := .int v) (by omega) (by have := hO.len; omega) rfl
    exact ⟨g', yA, ld, ha, M1, X1, R1, l1⟩
  | walk a b =>
    obtain ⟨⟨a0, a1⟩, b0, b1⟩ : pgOk a b := hR
    obtain ⟨w, w1, w2⟩ := hO.wd (1 + (P : Int) + 8 * a + b).toNat (by omega) (by omega)
    have e : atI S.held (1 + (P : Int) + 8 * a + b) = some w.d := by
      have := atI_nat w2
      rwa [show (((1 + (P : Int) + 8 * a + b).toNat : Nat) : Int) = 1 + (P : Int) + 8 * a + b by omega] at this
    obtain ⟨g', y, ld', ha, M1, rfl, X1, R1, l1⟩ := walk_ok M X hh hr hp ⟨a0, a1⟩ ⟨b0, b1⟩ w1.ok e hl
    simp only [doR, e, Option.getD_some, wdOf_d w1]
    exact ⟨g', yA, ld', ha, M1, X1, R1, l1⟩
  | load a b i => exact us hR.1 hR.2 (.inl ⟨rfl, rfl⟩)
  | store a b i v => exact us hR.1 hR.2 (.inr (.inl ⟨rfl, _, rfl⟩))
  | change a b i o v => exact us hR.1 hR.2 (.inr (.inr ⟨rfl, _, _, rfl, rfl⟩))
  | send q x =>
    obtain ⟨hq, x1, x2, x3, x4⟩ : q < P ∧ 1 ≤ x.1 ∧ 1 ≤ x.2.length ∧ x.2.length ≤ 10 ∧ x.2.all (fun q => okP q.1 q.2) = true := hR
    have il := islet_ok (g := g) (t := x.1) x.2 x2 x3 x4
    rw [decide_eq_true x1] at il
    obtain ⟨g', y, ha, M1, rfl, X1, R1, l1⟩ := send_acc M X hh hr hp hq (x := x) il (by have := hO.ll q; simp; omega) hl
    exact ⟨g', yA, ld, ha, M1, X1, R1, l1⟩
  | take =>
    cases hL : S.lets p with
    | nil =>
      obtain ⟨g', y, ha, M1, rfl, X1, R1, l1⟩ := take_no M X hh hr hp hL hl
      simp only [doR, hL]
      exact ⟨g', yA, ld, ha, M1, X1, R1, l1⟩
    | cons x L =>
      obtain ⟨g', y, ld', yA', ha, M1, rfl, X1, R1, l1⟩ := take_yes M X hh hr hp hL hS (by have := hO.len; omega) hl
      simp only [doR, hL]
      exact ⟨g', yA', ld', ha, M1, X1, R1, l1⟩
end

/-! ### the heap: a memory, and objects of other kinds beside it -/
def StK (r : Nat) : Nat → Prop := fun i => i = 3 ∨ i = r
def Own (o : Ob) : Prop := (∃ c fs, o = .ins c fs ∧ (c = 6 ∨ c = 9 ∨ c = 10)) ∨ ∃ l, o = .lst [.ref l]
structure Hq (g : G) (P r : Nat) (bA xA yA : Nat → Nat) (ld : Nat → D) (S : S4) (log : List D) (Ex : List (Nat × Ob)) : Prop where
  M : MC g 2 1 3 r (P : Int) 4 2 log.length (refsF P bA) (refsF P xA) S.held log
  X : MX g P bA xA yA ld S.rows S.lets (StK r)
  O : Ok4 P 1 S
  ex : ∀ z ∈ Ex, g[z.1]? = some z.2 ∧ Own z.2 ∧ 3 < z.1 ∧ z.1 ≠ r
section
variable {g : G} {P r : Nat} {bA xA yA : Nat → Nat} {ld : Nat → D} {S : S4} {log : List D} {Ex : List (Nat × Ob)}
theorem Ok4.low {n k : Nat} (h : Ok4 P n S) (hk : ∀ q, (S.lets q).length ≤ k) : Ok4 P k S := ⟨h.len, h.pv, h.wd, h.fr, h.rl, hk⟩
theorem Hq.stl (H : Hq g P r bA xA yA ld S log Ex) : ∀ i, StK r i → i < g.length := fun i h => by
  rcases h with rfl | rfl
  · exact (List.getElem?_eq_some_iff.mp H.M.ho).1
  · exact (List.getElem?_eq_some_iff.mp H.M.ro).1
theorem Hq.off (H : Hq g P r bA xA yA ld S log Ex) {z : Nat × Ob} (hz : z ∈ Ex) {p : Nat} (hp : p < P) : z.1 ≠ bA p ∧ z.1 ≠ xA p ∧ z.1 ≠ yA p := by
  obtain ⟨e, o, _, _⟩ := H.ex z hz
  refine ⟨fun h => ?_, fun h => ?_, fun h => ?_⟩
  · rw [h, H.X.b p hp] at e
    rcases o with ⟨c, fs, h1, h2⟩ | ⟨l, h1⟩
    · rw [h1] at e
      cases e
      rcases h2 with h2 | h2 | h2 <;> cases h2
    · rw [h1] at e
      cases e
  · rw [h, H.X.x p hp] at e
    rcases o with ⟨c, fs, h1, h2⟩ | ⟨l, h1⟩
    · rw [h1] at e
      cases e
      rcases h2 with h2 | h2 | h2 <;> cases h2
    · rw [h1] at e
      cases e
  · rw [h, H.X.y p hp] at e
    rcases o with ⟨c, fs, h1, h2⟩ | ⟨l, h1⟩
    · rw [h1] at e
      cases e
    · rw [h1] at e
      have e := Ob.lst.inj (Option.some.inj e)
      cases hl : S.lets p with
      | nil =>
        rw [hl] at e
        cases e
      | cons x L =>
        rw [hl] at e
        cases e
theorem Hq.acc (H : Hq g P r bA xA yA ld S log Ex) {p : Nat} (hp : p < P) {R : Rq4} (hR : R.ok P) (h1 : ∀ q, ((doR P S p R).2.lets q).length ≤ 1) (hl : log.length < 99999) :
    ∃ g' yA' ld' y, m_Memory_access [.ref 2, .int (p : Int), R.d P] g = .ok (.tup [(doR P S p R).1, .int ((log ++ [y]).length : Int)]) g' ∧ Hq g' P r bA xA yA' ld' (doR P S p R).2 (log ++ [y]) Ex := by
  obtain ⟨g', yA', ld', ha, M1, X1, R1, l1⟩ := mem_do H.M H.X (.inl rfl) (.inr rfl) (n := 1) (by decide) H.O hp hR H.stl hl
  have hlen : ((log ++ [D.tup [.int ((log.length : Int) + 1), .int (p : Int), R.d P]]).length : Int) = (log.length : Int) + 1 := by simp
  refine ⟨g', yA', ld', _, by rw [hlen]; exact ha, ⟨by rw [hlen]; exact M1, X1, (do_ok4 H.O hR hp).1.low h1, fun z hz => ?_⟩⟩
  obtain ⟨e, o, a, b⟩ := H.ex z hz
  refine ⟨?_, o, a, b⟩
  rw [R1 z.1 (List.getElem?_eq_some_iff.mp e).1 (by omega) (by omega) b (fun q hq => H.off hz hq)]
  exact e
theorem Hq.read (H : Hq g P r bA xA yA ld S log Ex) {p : Nat} (hp : p < P) {c : Nat} {v : D} (hv : S.held[c]? = some v) (hl : log.length < 99999) :
    ∃ g' y, m_Memory_access [.ref 2, .int (p : Int), .tup [.str 9, .int (c : Int)]] g = .ok (.tup [v, .int ((log ++ [y]).length : Int)]) g' ∧ Hq g' P r bA xA yA ld S (log ++ [y]) Ex := by
  have c1 := (List.getElem?_eq_some_iff.mp hv).1
  obtain ⟨g', ha, M1, f1⟩ := H.M.acc (p := (p : Int)) (c := (c : Int)) (k := 9) (rest := []) (by omega) (by omega) (.inl ⟨rfl, rfl⟩) (by omega) (by omega) H.O.pv hl
  have e : cellDo S.held 9 (c : Int) [] = (v, S.held) := by
    have := atI_nat hv
    simp [cellDo, this]
  rw [e] at ha M1
  have hlen : ((log ++ [D.tup [.int ((log.length : Int) + 1), .int (p : Int), cellRq 9 (c : Int) []]]).length : Int) = (log.length : Int) + 1 := by simp
  refine ⟨g', _, by rw [hlen]; exact ha, ⟨by rw [hlen]; exact M1, ?_, H.O, fun z hz => ?_⟩⟩
  · exact H.X.fr fun i hi n1 n2 => f1 i (fun e => n2 (memF 1 3 r (log.length : Int) (refsF P bA) (refsF P xA)) (by rw [e]; exact H.M.mo)) (fun e => n1 (by rw [e]; exact .inl rfl)) (fun e => n1 (by rw [e]; exact .inr rfl))
  · obtain ⟨e, o, a, b⟩ := H.ex z hz
    refine ⟨?_, o, a, b⟩
    rw [f1 z.1 (by omega) (by omega) b]
    exact e
/-- a change of one of the other objects -/
theorem Hq.set (H : Hq g P r bA xA yA ld S log Ex) {j : Nat} {o o' : Ob} (hj : (j, o) ∈ Ex) (ho : Own o') {Ex' : List (Nat × Ob)} (h : ∀ z ∈ Ex', z = (j, o') ∨ (z ∈ Ex ∧ z.1 ≠ j)) : Hq (g.set j o') P r bA xA yA ld S log Ex' := by
  obtain ⟨e0, o0, a0, b0⟩ := H.ex _ hj
  have lj := (List.getElem?_eq_some_iff.mp e0).1
  refine ⟨H.M.out (by omega) (by omega) (by omega) b0, ?_, H.O, fun z hz => ?_⟩
  · have := H.X
    have k : ∀ p, p < P → j ≠ bA p ∧ j ≠ xA p ∧ j ≠ yA p := fun p hp => H.off hj hp
    refine ⟨fun p hp => ?_, fun p hp => lsD_le2 (this.l p hp) fun a ha => ?_, fun p hp => ?_, fun p hp => ?_, this.bi, this.xi, this.yi, this.ns, this.ls, this.rl, this.ll⟩
    · rw [List.getElem?_set_ne (k p hp).1]
      exact this.b p hp
    · rw [List.getElem?_set_ne]
      intro e
      have hl := this.l p hp
      rw [ha, ← e] at hl
      unfold lsD at hl
      rw [snap_ref, e0] at hl
      rcases o0 with ⟨c, fs, h1, h2⟩ | ⟨l, h1⟩
      · subst h1
        cases hl
      · have h1 : o = .lst [.ref l] := h1
        subst h1
        have hl := Option.some.inj hl
        cases hr : S.rows p with
        | nil =>
          rw [hr] at hl
          cases hl
        | cons x L =>
          rw [hr] at hl
          cases hl
    · rw [List.getElem?_set_ne (k p hp).2.1]
      exact this.x p hp
    · rw [List.getElem?_set_ne (k p hp).2.2]
      exact this.y p hp
  · rcases h z hz with rfl | ⟨h1, h2⟩
    · exact ⟨List.getElem?_set_self lj, ho, a0, b0⟩
    · obtain ⟨e, o, a, b⟩ := H.ex z h1
      refine ⟨?_, o, a, b⟩
      rw [List.getElem?_set_ne (Ne.symm h2)]
      exact e
theorem Hq.app (H : Hq g P r bA xA yA ld S log Ex) {os : List Ob} {Ex' : List (Nat × Ob)} (h : ∀ z ∈ Ex', z ∈ Ex ∨ (g.length ≤ z.1 ∧ (g ++ os)[z.1]? = some z.2 ∧ Own z.2)) : Hq (g ++ os) P r bA xA yA ld S log Ex' := by
  refine ⟨H.M.app, H.X.app, H.O, fun z hz => ?_⟩
  rcases h z hz with h1 | ⟨h1, h2, h3⟩
  · obtain ⟨e, o, a, b⟩ := H.ex z h1
    refine ⟨?_, o, a, b⟩
    rw [List.getElem?_append_left (List.getElem?_eq_some_iff.mp e).1]
    exact e
  · have a := (List.getElem?_eq_some_iff.mp H.M.ho).1
    have b := (List.getElem?_eq_some_iff.mp H.M.ro).1
    exact ⟨h2, h3, by omega, by omega⟩
end
/-! ### the stack with its machine -/
def intsL (l : List Nat) : D := .lst (l.map fun q : Nat => D.int (q : Int))
def invO (se wa : List Nat) (last letter : D) : Ob := .ins 10 [(2, .ref 1), (51, intsL se), (53, intsL wa), (54, last), (52, letter)]
def stkO (K : Nat) (res : D) : Ob := .ins 6 [(46, .ref (K + 1)), (32, res)]
/-- what lies beside the memory in a run -/
def ExR (kr L K : Nat) (ker : Ob) (se wa : List Nat) (last letter : D) : List (Nat × Ob) := [(kr, ker), (L, invO se wa last letter), (K, stkO K .non), (K + 1, .lst [.ref L])]
section
variable {g : G} {P r kr L K : Nat} {bA xA yA : Nat → Nat} {ld : Nat → D} {S : S4} {log : List D} {ker : Ob} {se wa : List Nat} {last letter : D}
section
variable (H : Hq g P r bA xA yA ld S log (ExR kr L K ker se wa last letter))
include H
theorem Hq.gL : g[L]? = some (invO se wa last letter) := (H.ex (L, invO se wa last letter) (.tail _ (.head _))).1
theorem Hq.gK : g[K]? = some (stkO K .non) := (H.ex (K, stkO K .non) (.tail _ (.tail _ (.head _)))).1
theorem Hq.gK1 : g[K + 1]? = some (.lst [.ref L]) := (H.ex (K + 1, .lst [.ref L]) (.tail _ (.tail _ (.tail _ (.head _))))).1
theorem Hq.LK : L ≠ K ∧ L ≠ K + 1 := by
  have a := H.gL
  have b := H.gK
  have c := H.gK1
  refine ⟨fun e => ?_, fun e => ?_⟩
  · rw [← e, a] at b
    cases b
  · rw [← e, a] at c
    cases c
theorem Hq.msF : fldD [6] 46 g (.ref K) = some (.ref (K + 1)) := fldD_e H.gK rfl rfl
theorem Hq.topF : ixD g (.ref (K + 1)) (.int (-1)) = some (.ref L) := by
  unfold ixD itD
  simp only [lsD_ref H.gK1]
  rfl
theorem Hq.truF : truD g (.ref (K + 1)) = some true := by
  unfold truD
  rw [snap_of (lsD_ref H.gK1)]
  rfl
theorem Hq.fS : fldD [10] 51 g (.ref L) = some (intsL se) := fldD_e H.gL rfl rfl
theorem Hq.fW : fldD [10] 53 g (.ref L) = some (intsL wa) := fldD_e H.gL rfl rfl
theorem Hq.fLast : fldD [10] 54 g (.ref L) = some last := fldD_e H.gL rfl rfl
theorem Hq.fLet : fldD [10] 52 g (.ref L) = some letter := fldD_e H.gL rfl rfl
theorem Hq.fSz : fldD [9, 10, 5] 2 g (.ref L) = some (.ref 1) := fldD_e H.gL rfl rfl
end
def reqD (se wa : List Nat) (last letter : D) : D := match se, wa with
  | q :: _, _ => .tup [.str 12, .int (q : Int), letter]
  | [], q :: _ => .tup [.str 9, .int (1 + (q : Int))]
  | [], [] => .tup [.str 20, last]
theorem tru_ints {l : List Nat} : truD g (intsL l) = some (!l.isEmpty) := by
  unfold intsL
  rw [truD_lst, List.isEmpty_map]
theorem at_ints {q : Nat} {l : List Nat} : ixD g (intsL (q :: l)) (.int 0) = some (.int (q : Int)) := by
  unfold intsL
  exact at0
theorem Hq.req (H : Hq g P r bA xA yA ld S log (ExR kr L K ker se wa last letter)) : m_Invalidating_request [.ref L] g = .ok (reqD se wa last letter) g := by
  show endM (b_Invalidating_request [some (.ref L)] g) = _
  unfold b_Invalidating_request c_Invalidating_request_2 c_Invalidating_request_1
  cases se with
  | cons q l => simp [H.fS, tru_ints, at_ints, vTup_s, okL_s, H.fLet, reqD]
  | nil =>
    cases wa with
    | cons q l =>
      have am := H.M.smeth (nm := 26) (tbl := [(4, m_Sizes_acknowledge)]) (o := vFld [9, 10, 5] 2 (vVar 0)) (ms := aCons (vOp ixD (vFld [10] 53 (vVar 0)) (vC (.int 0))) aNil) (e := [some (.ref L)]) (g2 := g) (ds := [.int (q : Int)]) (by simp [H.fSz]) rfl rfl (by simp [H.fW, at_ints])
      rw [H.M.ack_ok] at am
      simp [H.fS, tru_ints, at_ints, vTup_s, okL_s, H.fW, am, reqD]
    | nil => simp [H.fS, tru_ints, vTup_s, okL_s, H.fW, H.fLast, reqD]
theorem Hq.vreq (H : Hq g P r bA xA yA ld S log (ExR kr L K ker se wa last letter)) {o : EM} {e : En} (ho : o e g = .ok (.ref L) g) : vMeth 55 [(10, m_Invalidating_request)] o aNil e g = .ok (reqD se wa last letter) g := by
  have a := meth_e (nm := 55) (tbl := [(10, m_Invalidating_request)]) (o := o) (ms := aNil) (e := e) (g2 := g) (ds := []) ho H.gL rfl rfl rfl
  rw [a, H.req]
theorem loopW_e {c : TM} {b : SM} {n : Nat} {e : En} {g : G} : loopW c b (n + 1) e g = sBind (c e g) e fun t g1 => bif t then after (b e g1) fun e2 g2 => loopW c b n e2 g2 else .nx e g1 := rfl
theorem Hq.stay (H : Hq g P r bA xA yA ld S log (ExR kr L K ker se wa last letter)) (hn : se ≠ [] ∨ wa ≠ []) : m_Stack_settle [.ref K] g = .ok .non g := by
  show endM (b_Stack_settle [some (.ref K), none] g) = _
  have a := H.vreq (o := vOp ixD (vFld [6] 46 (vVar 0)) (vUn negD (vC (.int 1)))) (e := [some (.ref K), none]) (by simp [H.msF, negD, H.topF])
  obtain ⟨k, rs, hk, k1, k2⟩ : ∃ k rs, reqD se wa last letter = .tup (.str k :: rs) ∧ (k == 20) = false ∧ (k == 21) = false := by
    cases se with
    | cons q l => exact ⟨_, _, rfl, rfl, rfl⟩
    | nil =>
      cases wa with
      | cons q l => exact ⟨_, _, rfl, rfl, rfl⟩
      | nil => rcases hn with h | h <;> exact absurd rfl h
  rw [hk] at a
  unfold b_Stack_settle
  rw [show (100000 : Nat) = 99999 + 1 from rfl, loopW_e]
  unfold c_Stack_settle_1
  simp [H.msF, H.truF, a, at0, eq_str, k1, k2, after]
/-- what lies beside the memory behind a run -/
def ExE (kr K : Nat) (ker : Ob) (last : D) : List (Nat × Ob) := [(kr, ker), (K, stkO K last)]
theorem Hq.end_ (H : Hq g P r bA xA yA ld S log (ExR kr L K ker [] [] last letter)) (hkK : kr ≠ K ∧ kr ≠ K + 1) : ∃ g', m_Stack_settle [.ref K] g = .ok .non g' ∧ Hq g' P r bA xA yA ld S log (ExE kr K ker last) ∧ g'[K + 1]? = some (.lst []) := by
  have a := H.vreq (o := vOp ixD (vFld [6] 46 (vVar 0)) (vUn negD (vC (.int 1)))) (e := [some (.ref K), none]) (by simp [H.msF, negD, H.topF])
  have l2 := (List.getElem?_eq_some_iff.mp H.gK1).1
  have l1 := (List.getElem?_eq_some_iff.mp H.gK).1
  have pp : ∀ e : En, e[0]? = some (some (.ref K)) → vPop0 (vFld [6] 46 (vVar 0)) e g = .ok (.ref L) (g.set (K + 1) (.lst [])) := fun e he => by
    unfold vPop0
    simp [he, H.msF, H.gK1]
  have st1 : (g.set (K + 1) (.lst []))[K]? = some (stkO K .non) := by
    rw [List.getElem?_set_ne (by omega)]
    exact H.gK
  have ml1 : (g.set (K + 1) (.lst []))[K + 1]? = some (.lst []) := List.getElem?_set_self l2
  have f1 : fldD [6] 46 (g.set (K + 1) (.lst [])) (.ref K) = some (.ref (K + 1)) := fldD_e st1 rfl rfl
  have t1 : truD (g.set (K + 1) (.lst [])) (.ref (K + 1)) = some false := by
    unfold truD
    rw [snap_of (lsD_ref ml1)]
    rfl
  have sa := setA_e (cs := [6]) (n := 32) (o := vVar 0) (m := vVar 1) (e := [some (.ref K), some last]) (g := g.set (K + 1) (.lst [])) (g1 := g.set (K + 1) (.lst [])) (g2 := g.set (K + 1) (.lst [])) (y := last) rfl rfl st1 rfl (by simp)
  have ps : m_Stack_pass_on [.ref K, last] (g.set (K + 1) (.lst [])) = .ok .non ((g.set (K + 1) (.lst [])).set K (stkO K last)) := by
    show endM (b_Stack_pass_on [some (.ref K), some last] (g.set (K + 1) (.lst []))) = _
    have e : putA 32 last [(46, D.ref (K + 1)), (32, .non)] = [(46, .ref (K + 1)), (32, last)] := rfl
    rw [e] at sa
    simp [b_Stack_pass_on, f1, t1, sa]
    rfl
  have b := meth_e (nm := 49) (tbl := [(6, m_Stack_pass_on)]) (o := vVar 0) (ms := aCons (vOp ixD (vVar 1) (vC (.int 1))) aNil) (e := [some (.ref K), some (.tup [.str 20, last])]) (g := g.set (K + 1) (.lst [])) (g2 := g.set (K + 1) (.lst [])) (ds := [last]) rfl st1 rfl rfl (by simp [at1])
  rw [ps] at b
  have st2 : ((g.set (K + 1) (.lst [])).set K (stkO K last))[K]? = some (stkO K last) := List.getElem?_set_self (by simpa using l1)
  have f2 : fldD [6] 46 ((g.set (K + 1) (.lst [])).set K (stkO K last)) (.ref K) = some (.ref (K + 1)) := fldD_e st2 rfl rfl
  have ml2 : ((g.set (K + 1) (.lst [])).set K (stkO K last))[K + 1]? = some (.lst []) := by
    rw [List.getElem?_set_ne (by omega)]
    exact ml1
  have t2 : truD ((g.set (K + 1) (.lst [])).set K (stkO K last)) (.ref (K + 1)) = some false := by
    unfold truD
    rw [snap_of (lsD_ref ml2)]
    rfl
  have hn := H.LK
  refine ⟨(g.set (K + 1) (.lst [])).set K (stkO K last), ?_, ?_, ml2⟩
  · show endM (b_Stack_settle [some (.ref K), none] g) = _
    unfold b_Stack_settle
    rw [show (100000 : Nat) = 99999 + 1 from rfl, loopW_e]
    unfold c_Stack_settle_1
    have pe := pp [some (.ref K), some (.tup [.str 20, last])] rfl
    have hr : reqD [] [] last letter = .tup [.str 20, last] := rfl
    simp only [tTru_e, vUn_e, vVar_e, List.getElem?_cons_zero, List.getElem?_cons_succ, Res.bind, H.msF, oR_some, H.truF, sBind, cond_true, sSeq_e, sAsg_e, a, List.set, sIf_e, tOf_e, vOp_e, hr, vC_e, ixD_tup, at0, eq_str, bR_bl, (show ((20 : Nat) == 21) = false from rfl), (show ((20 : Nat) == 20) = true from rfl), cond_false, sDrop_e, pe, b, after]
    rw [show (99999 : Nat) = 99998 + 1 from rfl, loopW_e]
    simp only [tTru_e, vUn_e, vVar_e, List.getElem?_cons_zero, List.getElem?_cons_succ, Res.bind, f2, oR_some, t2, sBind, cond_false]
    rfl
  · have H1 : Hq (g.set (K + 1) (.lst [.ref L])) P r bA xA yA ld S log (ExR kr L K ker [] [] last letter) := by
      have e : g.set (K + 1) (.lst [.ref L]) = g := by
        apply List.ext_getElem?
        intro i
        by_cases h : i = K + 1
        · subst h
          rw [List.getElem?_set_self l2, H.gK1]
        · rw [List.getElem?_set_ne (Ne.symm h)]
      rw [e]
      exact H
    have H2 := H.set (j := K + 1) (o' := .ins 6 []) (o := .lst [.ref L]) (.tail _ (.tail _ (.tail _ (.head _)))) (.inl ⟨_, _, rfl, .inl rfl⟩) (Ex' := [(kr, ker), (K, stkO K .non), (K + 1, .ins 6 [])]) (fun z hz => by
      simp only [List.mem_cons, List.not_mem_nil, or_false] at hz
      rcases hz with rfl | rfl | rfl
      · exact .inr ⟨.head _, hkK.2⟩
      · exact .inr ⟨.tail _ (.tail _ (.head _)), by simp⟩
      · exact .inl rfl)
    have H3 : Hq (g.set (K + 1) (.lst [])) P r bA xA yA ld S log [(kr, ker), (K, stkO K .non)] := by
      have fr : ∀ i, i ≠ K + 1 → (g.set (K + 1) (.lst []))[i]? = (g.set (K + 1) (.ins 6 []))[i]? := fun i h => by
        rw [List.getElem?_set_ne (Ne.symm h), List.getElem?_set_ne (Ne.symm h)]
      have mm : (K + 1, Ob.ins 6 []) ∈ [(kr, ker), (K, stkO K .non), (K + 1, .ins 6 [])] := .tail _ (.tail _ (.head _))
      obtain ⟨e5, o5, a5, b5⟩ := H2.ex _ mm
      have k := fun p hp => H2.off mm (p := p) hp
      refine ⟨H2.M.le (fr _ (by omega)) (fr _ (by omega)) (fr _ (by omega)) (fr _ (Ne.symm b5)), ?_, H2.O, fun z hz => ?_⟩
      · have t := H2.X
        refine ⟨fun p hp => ?_, fun p hp => lsD_le2 (t.l p hp) fun a ha => ?_, fun p hp => ?_, fun p hp => ?_, t.bi, t.xi, t.yi, t.ns, t.ls, t.rl, t.ll⟩
        · rw [fr _ (Ne.symm (k p hp).1)]
          exact t.b p hp
        · rw [fr]
          intro e
          have hl := t.l p hp
          rw [ha, e] at hl
          unfold lsD at hl
          rw [snap_ref, e5] at hl
          cases hl
        · rw [fr _ (Ne.symm (k p hp).2.1)]
          exact t.x p hp
        · rw [fr _ (Ne.symm (k p hp).2.2)]
          exact t.y p hp
      · simp only [List.mem_cons, List.not_mem_nil, or_false] at hz
        rcases hz with rfl | rfl
        · obtain ⟨e, o, a, b⟩ := H2.ex _ (.head _)
          exact ⟨by rw [fr _ hkK.2]; exact e, o, a, b⟩
        · obtain ⟨e, o, a, b⟩ := H2.ex _ (.tail _ (.head _))
          exact ⟨by rw [fr _ (show K ≠ K + 1 by omega)]; exact e, o, a, b⟩
    exact H3.set (.tail _ (.head _)) (.inl ⟨_, _, rfl, .inl rfl⟩) (fun z hz => by
      simp only [ExE, List.mem_cons, List.not_mem_nil, or_false] at hz
      rcases hz with rfl | rfl
      · exact .inr ⟨.head _, hkK.1⟩
      · exact .inl rfl)

/-- the machine takes the result of its access -/
theorem Hq.accept (H : Hq g P r bA xA yA ld S log (ExR kr L K ker se wa last letter)) (hkL : kr ≠ L) {v y : D} {t : Int} {Q : D} (hl : letter = .tup [.int t, Q]) (hv : se = [] → ∃ i, v = .int i) {se' wa' : List Nat} (h : (∃ q, se = q :: se' ∧ wa' = wa) ∨ (se = [] ∧ se' = [] ∧ ((v = .int t ∧ wa' = wa.drop 1) ∨ (v ≠ .int t ∧ wa' = wa)))) :
    ∃ g', m_Invalidating_accept [.ref L, .tup [v, y]] g = .ok .non g' ∧ Hq g' P r bA xA yA ld S log (ExR kr L K ker se' wa' y letter) := by
  have ll := (List.getElem?_eq_some_iff.mp H.gL).1
  have hn := H.LK
  -- one change of the machine
  have ch : ∀ {g : G} {se wa : List Nat} {last : D}, Hq g P r bA xA yA ld S log (ExR kr L K ker se wa last letter) → ∀ (se' wa' : List Nat) (last' : D), Hq (g.set L (invO se' wa' last' letter)) P r bA xA yA ld S log (ExR kr L K ker se' wa' last' letter) := fun H se' wa' last' => H.set (.tail _ (.head _)) (.inl ⟨_, _, rfl, .inr (.inr rfl)⟩) (fun z hz => by
    simp only [ExR, List.mem_cons, List.not_mem_nil, or_false] at hz
    rcases hz with rfl | rfl | rfl | rfl
    · exact .inr ⟨.head _, hkL⟩
    · exact .inl rfl
    · exact .inr ⟨.tail _ (.tail _ (.head _)), Ne.symm hn.1⟩
    · exact .inr ⟨.tail _ (.tail _ (.tail _ (.head _))), Ne.symm hn.2⟩)
  have sl : ∀ {g : G} {l : List Nat}, slD g (intsL l) (some 1) none = some (intsL (l.drop 1)) := fun {g l} => by
    show some (D.lst (cutD (l.map fun q : Nat => D.int (q : Int)) (some 1) none)) = _
    rw [cut1, intsL, List.map_drop]
  have s1 := setA_e (cs := [10]) (n := 54) (o := vVar 0) (m := vOp ixD (vVar 1) (vC (.int 1))) (e := [some (.ref L), some (.tup [v, y])]) (g := g) (g1 := g) (g2 := g) (y := y) (by simp [at1]) rfl H.gL rfl (by simp)
  have p1 : Ob.ins 10 (putA 54 y [(2, .ref 1), (51, intsL se), (53, intsL wa), (54, last), (52, letter)]) = invO se wa y letter := rfl
  rw [p1] at s1
  have H1 := ch H se wa y
  generalize g.set L (invO se wa y letter) = g1 at *
  rcases h with ⟨q, rfl, rfl⟩ | ⟨rfl, rfl, h⟩
  · have s2 := setA_e (cs := [10]) (n := 51) (o := vVar 0) (m := vSl (vFld [10] 51 (vVar 0)) (some (vC (.int 1))) none) (e := [some (.ref L), some (.tup [v, y])]) (g := g1) (g1 := g1) (g2 := g1) (y := intsL se') (by simp [vSl, H1.fS, sl]) rfl H1.gL rfl (by simp)
    refine ⟨_, ?_, ch H1 se' wa' y⟩
    show endM (b_Invalidating_accept [some (.ref L), some (.tup [v, y])] g) = _
    unfold b_Invalidating_accept
    rw [sSeq_e, s1]
    simp only [sIf_e, tTru_e, vUn_e, vVar_e, List.getElem?_cons_zero, Res.bind, H1.fS, oR_some, tru_ints, List.isEmpty_cons, Bool.not_false, sBind, cond_true]
    rw [s2]
    rfl
  · have ix : ixD g1 letter (.int 0) = some (.int t) := by rw [hl, ixD_tup, at0]
    obtain ⟨vi, rfl⟩ := hv rfl
    rcases h with ⟨h, rfl⟩ | ⟨h, rfl⟩
    · have h : vi = t := by cases h; rfl
      subst h
      have s2 := setA_e (cs := [10]) (n := 53) (o := vVar 0) (m := vSl (vFld [10] 53 (vVar 0)) (some (vC (.int 1))) none) (e := [some (.ref L), some (.tup [.int vi, y])]) (g := g1) (g1 := g1) (g2 := g1) (y := intsL (wa.drop 1)) (by simp [vSl, H1.fW, sl]) rfl H1.gL rfl (by simp)
      refine ⟨_, ?_, ch H1 [] (wa.drop 1) y⟩
      show endM (b_Invalidating_accept [some (.ref L), some (.tup [.int vi, y])] g) = _
      unfold b_Invalidating_accept
      rw [sSeq_e, s1]
      simp only [sIf_e, tTru_e, tOf_e, vOp_e, vC_e, vUn_e, vVar_e, List.getElem?_cons_zero, List.getElem?_cons_succ, Res.bind, H1.fS, H1.fLet, oR_some, tru_ints, List.isEmpty_nil, Bool.not_true, sBind, cond_false, ixD_tup, at0, ix, eq_int, beq_self_eq_true, bR_bl, cond_true]
      rw [s2]
      rfl
    · have hb : (vi == t) = false := beq_eq_false_iff_ne.mpr fun e => h (by rw [e])
      refine ⟨_, ?_, H1⟩
      show endM (b_Invalidating_accept [some (.ref L), some (.tup [.int vi, y])] g) = _
      unfold b_Invalidating_accept
      rw [sSeq_e, s1]
      simp only [sIf_e, tTru_e, tOf_e, vOp_e, vC_e, vUn_e, vVar_e, List.getElem?_cons_zero, List.getElem?_cons_succ, Res.bind, H1.fS, H1.fLet, oR_some, tru_ints, List.isEmpty_nil, Bool.not_true, sBind, cond_false, ixD_tup, at0, ix, eq_int, hb, bR_bl, sNx_e]
      rfl
/-- a step of the stack, up to what follows the taking -/
theorem Hq.step (H : Hq g P r bA xA yA ld S log (ExR kr L K ker se wa last letter)) (hn : se ≠ [] ∨ wa ≠ []) {g1 g2 : G} {res : D} (ha : m_Memory_access [.ref 2, .int 0, reqD se wa last letter] g = .ok res g1) (hL1 : g1[L]? = some (invO se wa last letter)) (hac : m_Invalidating_accept [.ref L, res] g1 = .ok .non g2) (hK2 : g2[K]? = some (stkO K .non)) {g3 : G} (hs : m_Stack_settle [.ref K] g2 = .ok .non g3) :
    m_Stack_step [.ref K, .ref 2, .int 0] g = .ok (.bl true) g3 := by
  show endM (b_Stack_step [some (.ref K), some (.ref 2), some (.int 0), none] g) = _
  have st := H.stay hn
  have a := meth_e (nm := 48) (tbl := [(6, m_Stack_settle)]) (o := vVar 0) (ms := aNil) (e := [some (.ref K), some (.ref 2), some (.int 0), none]) (g := g) (g2 := g) (ds := []) rfl H.gK rfl rfl rfl
  rw [st] at a
  have rq := H.vreq (o := vVar 3) (e := [some (.ref K), some (.ref 2), some (.int 0), some (.ref L)]) rfl
  have b := H.M.meth (nm := 31) (tbl := [(5, m_Memory_access)]) (o := vVar 1) (ms := aCons (vVar 2) (aCons (vMeth 55 [(10, m_Invalidating_request)] (vVar 3) aNil) aNil)) (e := [some (.ref K), some (.ref 2), some (.int 0), some (.ref L)]) (g2 := g) (ds := [.int 0, reqD se wa last letter]) rfl rfl rfl (by simp only [aCons_e, vVar_e, List.getElem?_cons_zero, List.getElem?_cons_succ, Res.bind, rq, aNil_e])
  rw [ha] at b
  have d := meth_e (nm := 50) (tbl := [(10, m_Invalidating_accept)]) (o := vVar 3) (ms := aCons (vMeth 31 [(5, m_Memory_access)] (vVar 1) (aCons (vVar 2) (aCons (vMeth 55 [(10, m_Invalidating_request)] (vVar 3) aNil) aNil))) aNil) (e := [some (.ref K), some (.ref 2), some (.int 0), some (.ref L)]) (g := g) (g1 := g) (g2 := g1) (ds := [res]) rfl H.gL rfl rfl (by simp only [aCons_e, b, Res.bind, aNil_e])
  rw [hac] at d
  have f := meth_e (nm := 48) (tbl := [(6, m_Stack_settle)]) (o := vVar 0) (ms := aNil) (e := [some (.ref K), some (.ref 2), some (.int 0), some (.ref L)]) (g := g2) (g2 := g2) (ds := []) rfl hK2 rfl rfl rfl
  rw [hs] at f
  unfold b_Stack_step c_Stack_step_5 c_Stack_step_4 c_Stack_step_3 c_Stack_step_2 c_Stack_step_1
  simp only [sSeq_e, sDrop_e, a, sBind, sIf_e, tNot_e, tTru_e, vUn_e, vVar_e, List.getElem?_cons_zero, Res.bind, H.msF, oR_some, H.truF, Bool.not_true, cond_false, sNx_e, sAsg_e, vOp_e, vC_e, negD, H.topF, List.set, d, f, sRet_e, endM_rt]
/-- a letter is sent -/
theorem Hq.step_send (H : Hq g P r bA xA yA ld S log (ExR kr L K ker se wa last letter)) (hkL : kr ≠ L) {q : Nat} {se' : List Nat} {x : Lt} (hse : se = q :: se') (hlet : letter = letD x) (hwa : wa ≠ []) (hR : (Rq4.send q x).ok P) (hP0 : 0 < P) (h1 : ∀ z, S.lets z = [] ∨ (z ≠ q ∧ (S.lets z).length ≤ 1)) (hl : log.length < 99999) :
    ∃ g' yA' ld' y, m_Stack_step [.ref K, .ref 2, .int 0] g = .ok (.bl true) g' ∧ Hq g' P r bA xA yA' ld' (doR P S 0 (.send q x)).2 (log ++ [y]) (ExR kr L K ker se' wa (.int ((log ++ [y]).length : Int)) letter) := by
  obtain ⟨g1, yA1, ld1, y, ha, H1⟩ := H.acc hP0 hR (fun z => by
    show (fset S.lets q (S.lets q ++ [x]) z).length ≤ 1
    by_cases e : z = q
    · subst e
      rw [fset_same]
      rcases h1 z with h | h
      · rw [h]
        exact Nat.le_refl 1
      · exact absurd rfl h.1
    · rw [fset_ne e]
      rcases h1 z with h | h
      · rw [h]
        decide
      · exact h.2) hl
  obtain ⟨g2, hac, H2⟩ := H1.accept hkL (v := .non) (y := .int ((log ++ [y]).length : Int)) hlet (fun e => by rw [hse] at e; cases e) (.inl ⟨q, hse, rfl⟩)
  refine ⟨g2, yA1, ld1, y, H.step (.inr hwa) (g1 := g1) (g2 := g2) (res := .tup [.non, .int ((log ++ [y]).length : Int)]) ?_ H1.gL hac H2.gK (H2.stay (.inr hwa)), H2⟩
  have e : reqD se wa last letter = (Rq4.send q x).d P := by rw [hse, hlet]; rfl
  rw [e]
  exact ha
/-- an acknowledgement is read -/
theorem Hq.step_read (H : Hq g P r bA xA yA ld S log (ExR kr L K ker [] wa last letter)) (hkL : kr ≠ L) (hkK : kr ≠ K ∧ kr ≠ K + 1) {q : Nat} {wa' : List Nat} {x : Lt} (hwa : wa = q :: wa') (hlet : letter = letD x) (hP0 : 0 < P) {i : Int} (hv : S.held[1 + q]? = some (.int i)) (hl : log.length < 99999) :
    ∃ g' y, m_Stack_step [.ref K, .ref 2, .int 0] g = .ok (.bl true) g' ∧
      ((i = x.1 ∧ wa' = [] ∧ Hq g' P r bA xA yA ld S (log ++ [y]) (ExE kr K ker (.int ((log ++ [y]).length : Int))) ∧ g'[K + 1]? = some (.lst [])) ∨
       (∃ wa2, ((i = x.1 ∧ wa2 = wa' ∧ wa' ≠ []) ∨ (i ≠ x.1 ∧ wa2 = wa)) ∧ Hq g' P r bA xA yA ld S (log ++ [y]) (ExR kr L K ker [] wa2 (.int ((log ++ [y]).length : Int)) letter))) := by
  obtain ⟨g1, y, ha, H1⟩ := H.read hP0 hv hl
  have hn : ([] : List Nat) ≠ [] ∨ wa ≠ [] := .inr (by rw [hwa]; simp)
  have e : reqD [] wa last letter = .tup [.str 9, .int ((1 + q : Nat) : Int)] := by rw [hwa]; simp [reqD]
  have fin : ∀ {g2 g3 : G}, m_Invalidating_accept [.ref L, .tup [.int i, .int ((log ++ [y]).length : Int)]] g1 = .ok .non g2 → g2[K]? = some (stkO K .non) → m_Stack_settle [.ref K] g2 = .ok .non g3 → m_Stack_step [.ref K, .ref 2, .int 0] g = .ok (.bl true) g3 := fun hac hK hs => by
    refine H.step hn (g1 := g1) (res := .tup [.int i, .int ((log ++ [y]).length : Int)]) ?_ H1.gL hac hK hs
    rw [e]
    exact ha
  by_cases h : i = x.1
  · obtain ⟨g2, hac, H2⟩ := H1.accept hkL (v := .int i) (y := .int ((log ++ [y]).length : Int)) hlet (fun _ => ⟨i, rfl⟩) (se' := []) (wa' := wa.drop 1) (.inr ⟨rfl, rfl, .inl ⟨by rw [h], rfl⟩⟩)
    have e2 : wa.drop 1 = wa' := by rw [hwa]; rfl
    rw [e2] at H2
    by_cases hw : wa' = []
    · rw [hw] at H2
      obtain ⟨g3, hs, H3, e3⟩ := H2.end_ hkK
      exact ⟨g3, y, fin hac H2.gK hs, .inl ⟨h, hw, H3, e3⟩⟩
    · exact ⟨g2, y, fin hac H2.gK (H2.stay (.inr hw)), .inr ⟨wa', .inl ⟨h, rfl, hw⟩, H2⟩⟩
  · obtain ⟨g2, hac, H2⟩ := H1.accept hkL (v := .int i) (y := .int ((log ++ [y]).length : Int)) hlet (fun _ => ⟨i, rfl⟩) (se' := []) (wa' := wa) (.inr ⟨rfl, rfl, .inr ⟨fun z => h (D.int.inj z), rfl⟩⟩)
    exact ⟨g2, y, fin hac H2.gK (H2.stay (.inr (by rw [hwa]; simp))), .inr ⟨wa, .inr ⟨h, rfl⟩, H2⟩⟩
/-- a stack with nothing to do -/
theorem Hq.step_idle (H : Hq g P r bA xA yA ld S log (ExR kr L K ker [] [] last letter)) (hkK : kr ≠ K ∧ kr ≠ K + 1) : ∃ g', m_Stack_step [.ref K, .ref 2, .int 0] g = .ok (.bl false) g' ∧ Hq g' P r bA xA yA ld S log (ExE kr K ker last) ∧ g'[K + 1]? = some (.lst []) := by
  obtain ⟨g1, hs, H1, e1⟩ := H.end_ hkK
  refine ⟨g1, ?_, H1, e1⟩
  show endM (b_Stack_step [some (.ref K), some (.ref 2), some (.int 0), none] g) = _
  have a := meth_e (nm := 48) (tbl := [(6, m_Stack_settle)]) (o := vVar 0) (ms := aNil) (e := [some (.ref K), some (.ref 2), some (.int 0), none]) (g := g) (g2 := g) (ds := []) rfl H.gK rfl rfl rfl
  rw [hs] at a
  have gK : g1[K]? = some (stkO K last) := (H1.ex (K, stkO K last) (.tail _ (.head _))).1
  have f1 : fldD [6] 46 g1 (.ref K) = some (.ref (K + 1)) := fldD_e gK rfl rfl
  have t1 : truD g1 (.ref (K + 1)) = some false := by
    unfold truD
    rw [snap_of (lsD_ref e1)]
    rfl
  unfold b_Stack_step c_Stack_step_5
  simp only [sSeq_e, sDrop_e, a, sBind, sIf_e, tNot_e, tTru_e, vUn_e, vVar_e, List.getElem?_cons_zero, Res.bind, f1, oR_some, t1, Bool.not_false, cond_true, sRet_e, vC_e, endM_rt]
theorem ended_no {o : EM} {e : En} (H : Hq g P r bA xA yA ld S log (ExR kr L K ker se wa last letter)) (ho : o e g = .ok (.ref K) g) : vMeth 45 [(6, m_Stack_ended)] o aNil e g = .ok (.bl false) g := by
  have a := meth_e (nm := 45) (tbl := [(6, m_Stack_ended)]) (o := o) (ms := aNil) (e := e) (g2 := g) (ds := []) ho H.gK rfl rfl rfl
  rw [a]
  show endM (b_Stack_ended [some (.ref K)] g) = _
  have ln : lenD g [.ref (K + 1)] = some (.int 1) := by simp [lenD, itD, lsD_ref H.gK1]
  simp [b_Stack_ended, H.msF, ln, eq_int]
theorem ended_yes {o : EM} {e : En} (H : Hq g P r bA xA yA ld S log (ExE kr K ker last)) (hK : g[K + 1]? = some (.lst [])) (ho : o e g = .ok (.ref K) g) : vMeth 45 [(6, m_Stack_ended)] o aNil e g = .ok (.bl true) g := by
  have gK : g[K]? = some (stkO K last) := (H.ex (K, stkO K last) (.tail _ (.head _))).1
  have a := meth_e (nm := 45) (tbl := [(6, m_Stack_ended)]) (o := o) (ms := aNil) (e := e) (g2 := g) (ds := []) ho gK rfl rfl rfl
  rw [a]
  show endM (b_Stack_ended [some (.ref K)] g) = _
  have ln : lenD g [.ref (K + 1)] = some (.int 0) := by simp [lenD, itD, lsD_ref hK]
  have f1 : fldD [6] 46 g (.ref K) = some (.ref (K + 1)) := fldD_e gK rfl rfl
  simp [b_Stack_ended, f1, ln, eq_int]
theorem value_of {o : EM} {e : En} (H : Hq g P r bA xA yA ld S log (ExE kr K ker last)) (ho : o e g = .ok (.ref K) g) : vMeth 44 [(6, m_Stack_value)] o aNil e g = .ok last g := by
  have gK : g[K]? = some (stkO K last) := (H.ex (K, stkO K last) (.tail _ (.head _))).1
  have a := meth_e (nm := 44) (tbl := [(6, m_Stack_value)]) (o := o) (ms := aNil) (e := e) (g2 := g) (ds := []) ho gK rfl rfl rfl
  rw [a]
  show endM (b_Stack_value [some (.ref K)] g) = _
  have f1 : fldD [6] 32 g (.ref K) = some last := fldD_e gK rfl rfl
  simp [b_Stack_value, f1]
/-- what another processor does -/
theorem other_ok {Ex : List (Nat × Ob)} (H : Hq g P r bA xA yA ld S log Ex) {p : Nat} (hp : p < P) {n : Int} (n0 : 0 ≤ n) (h1 : ∀ q, (S.lets q).length ≤ 1) (hl : log.length < 99998) :
    ∃ g' yA' ld' S' log', m__law_other [.ref 2, .int (p : Int), .int n] g = .ok .non g' ∧ Hq g' P r bA xA yA' ld' S' log' Ex ∧ log'.length ≤ log.length + 1 ∧ (S' = S ∨ ∃ R, S' = (doR P S p R).2 ∧ (R = .take ∨ ∃ a b, R = .walk a b ∧ pgOk a b)) := by
  have m5 : modD g (.int n) (.int 5) = some (.int (n % 5)) := modD_e (by decide)
  have d5 : divD g (.int n) (.int 5) = some (.int (n / 5)) := divD_e (by decide) (by decide)
  have d10 : divD g (.int n) (.int 10) = some (.int (n / 10)) := divD_e (by decide) (by decide)
  have m2 : modD g (.int (n / 5)) (.int 2) = some (.int (n / 5 % 2)) := modD_e (by decide)
  have m4 : modD g (.int (n / 10)) (.int 4) = some (.int (n / 10 % 4)) := modD_e (by decide)
  by_cases hw : n % 5 < 3
  · have hR : (Rq4.walk (n / 5 % 2) (n / 10 % 4)).ok P := by
      show pgOk _ _
      unfold pgOk
      omega
    obtain ⟨g', yA', ld', y, ha, H'⟩ := H.acc hp hR (fun q => h1 q) (by omega)
    have b := H.M.meth (nm := 31) (tbl := [(5, m_Memory_access)]) (o := vVar 0) (ms := aCons (vVar 1) (aCons (vTup (aCons (vC (.str 14)) (aCons (vOp modD (vOp divD (vVar 2) (vC (.int 5))) (vC (.int 2))) (aCons (vOp modD (vOp divD (vVar 2) (vC (.int 10))) (vC (.int 4))) aNil)))) aNil)) (e := [some (.ref 2), some (.int (p : Int)), some (.int n), some (.int (n % 5))]) (g2 := g) (ds := [.int (p : Int), (Rq4.walk (n / 5 % 2) (n / 10 % 4)).d P]) rfl rfl rfl (by simp [vTup_s, okL_s, d5, d10, m2, m4, Rq4.d])
    rw [ha] at b
    refine ⟨g', yA', ld', _, _, ?_, H', by simp, .inr ⟨_, rfl, .inr ⟨_, _, rfl, hR⟩⟩⟩
    show endM (b__law_other [some (.ref 2), some (.int (p : Int)), some (.int n), none] g) = _
    unfold b__law_other
    simp only [sSeq_e, sAsg_e, vOp_e, vVar_e, List.getElem?_cons_zero, List.getElem?_cons_succ, vC_e, Res.bind, m5, oR_some, sBind, List.set, sIf_e, tOf_e, ltD, icD_int, decide_eq_true hw, bR_bl, cond_true, sDrop_e, b, endM_nx]
  · by_cases ht : n % 5 = 3
    · obtain ⟨g', yA', ld', y, ha, H'⟩ := H.acc (R := .take) hp trivial (fun q => by
        unfold doR
        cases hL : S.lets p with
        | nil => exact h1 q
        | cons x L =>
          show (fset S.lets p L q).length ≤ 1
          by_cases e : q = p
          · subst e
            rw [fset_same]
            have := h1 q
            rw [hL, List.length_cons] at this
            omega
          · rw [fset_ne e]
            exact h1 q) (by omega)
      have b := H.M.meth (nm := 31) (tbl := [(5, m_Memory_access)]) (o := vVar 0) (ms := aCons (vVar 1) (aCons (vTup (aCons (vC (.str 13)) aNil)) aNil)) (e := [some (.ref 2), some (.int (p : Int)), some (.int n), some (.int (n % 5))]) (g2 := g) (ds := [.int (p : Int), Rq4.take.d P]) rfl rfl rfl (by simp [vTup_s, okL_s, Rq4.d])
      rw [ha] at b
      refine ⟨g', yA', ld', _, _, ?_, H', by simp, .inr ⟨_, rfl, .inl rfl⟩⟩
      show endM (b__law_other [some (.ref 2), some (.int (p : Int)), some (.int n), none] g) = _
      unfold b__law_other
      simp only [sSeq_e, sAsg_e, vOp_e, vVar_e, List.getElem?_cons_zero, List.getElem?_cons_succ, vC_e, Res.bind, m5, oR_some, sBind, List.set, sIf_e, tOf_e, ltD, icD_int, decide_eq_false hw, bR_bl, cond_false, eq_int, ht, beq_self_eq_true, cond_true, sDrop_e]
      rw [ht] at b
      rw [b]
      rfl
    · refine ⟨g, yA, ld, S, log, ?_, H, by omega, .inl rfl⟩
      show endM (b__law_other [some (.ref 2), some (.int (p : Int)), some (.int n), none] g) = _
      unfold b__law_other
      have hb : (n % 5 == 3) = false := beq_eq_false_iff_ne.mpr ht
      simp only [sSeq_e, sAsg_e, vOp_e, vVar_e, List.getElem?_cons_zero, List.getElem?_cons_succ, vC_e, Res.bind, m5, oR_some, sBind, List.set, sIf_e, tOf_e, ltD, icD_int, decide_eq_false hw, bR_bl, cond_false, eq_int, hb, sNx_e, endM_nx]

end
/-! ### what an invalidation keeps, with no program in sight -/
def Oth (P p : Nat) (S S' : S4) : Prop := S' = S ∨ ∃ R, S' = (doR P S p R).2 ∧ (R = .take ∨ ∃ a b, R = .walk a b ∧ pgOk a b)
def Good (P : Nat) (Q : List (Int × Int)) (S : S4) (q : Nat) : Prop := ∀ r ∈ S.rows q, (r.1, r.2.1) ∈ Q → atI S.held (1 + (P : Int) + 8 * r.1 + r.2.1) = some (Wd.frame r.2.2.1 r.2.2.2).d
def Ack (S : S4) (q : Nat) (t : Int) : Prop := S.held[1 + q]? = some (.int t)
def Ph (P : Nat) (t : Int) (Q : List (Int × Int)) (S : S4) (a q : Nat) : Prop :=
  (a < q ∧ S.lets q = [] ∧ Ack S q (t - 1)) ∨ (q ≤ a ∧ S.lets q = [(t, Q)] ∧ Ack S q (t - 1)) ∨ (q ≤ a ∧ S.lets q = [] ∧ Ack S q t ∧ Good P Q S q)
structure Busy (P : Nat) (t : Int) (Q : List (Int × Int)) (S : S4) (a b : Nat) : Prop where
  aP : a + 1 ≤ P
  bP : b + 1 ≤ P
  ph : ∀ q, 1 ≤ q → q < P → Ph P t Q S a q
  l0 : S.lets 0 = []
  g0 : Good P Q S 0
  bq : ∀ q, 1 ≤ q → q ≤ b → Ack S q t
  ok : ∀ z ∈ Q, pgOk z.1 z.2
structure Post (P : Nat) (t : Int) (Q : List (Int × Int)) (S : S4) : Prop where
  l : ∀ q, q < P → S.lets q = []
  gd : ∀ q, q < P → Good P Q S q
  ak : ∀ q, 1 ≤ q → q < P → Ack S q t
section
variable {P : Nat} {t : Int} {Q : List (Int × Int)} {S S' : S4} {a b : Nat}
theorem mem_putL {L : List Row} {s p : Int} {w : Wd} {r : Row} (h : r ∈ putL L s p w) : r ∈ L ∨ ∃ f v, w = .frame f v ∧ r = (s, p, f, v) := by
  have k : ∀ r, r ∈ L.filter (keepB [(s, p)]) → r ∈ L := fun r hr => (List.mem_filter.mp hr).1
  have fin : ∀ L2 : List Row, r ∈ (if 2 < L2.length then L2.drop 1 else L2) → r ∈ L2 := fun L2 hr => by
    split at hr
    · exact List.mem_of_mem_drop hr
    · exact hr
  unfold putL at h
  cases w with
  | frame f v =>
    rcases List.mem_append.mp (fin _ h) with z | z
    · exact .inl (k r z)
    · exact .inr ⟨f, v, rfl, List.mem_singleton.mp z⟩
  | non => exact .inl (k r (fin _ h))
  | other ds n => exact .inl (k r (fin _ h))
theorem ixN_i {n : Nat} {c : Int} (h0 : 0 ≤ c) (h1 : c < n) : ixN n c = some c.toNat := by
  unfold ixN
  have h2 : ¬ c < 0 := by omega
  simp only [h2, if_false, h0, if_true]
  rw [if_pos (by omega)]
theorem atI_set {ds : List D} {c : Int} {j : Nat} {v : D} (h0 : 0 ≤ c) (hj : (j : Int) ≠ c) : atI (ds.set j v) c = atI ds c := by
  obtain ⟨n, rfl⟩ := Int.eq_ofNat_of_zero_le h0
  unfold L2.atI
  rw [List.length_set]
  by_cases h : n < ds.length
  · rw [ixN_i h0 (by omega)]
    show (ds.set j v)[((n : Int)).toNat]? = ds[((n : Int)).toNat]?
    rw [List.getElem?_set_ne (by simp; omega)]
  · cases z : ixN ds.length (n : Int) with
    | none => rfl
    | some m =>
      exfalso
      unfold ixN at z
      simp only [Int.natCast_nonneg, if_true, show ¬ ((n : Int) < 0) by omega, if_false] at z
      split at z
      · omega
      · cases z
/-- a walk keeps what is good -/
theorem good_walk {p q : Nat} {x y : Int} {n : Nat} (hO : Ok4 P n S) (hxy : pgOk x y) (h : Good P Q S q) : Good P Q (doR P S p (.walk x y)).2 q := by
  intro r hr hQ
  show atI S.held _ = _
  by_cases e : q = p
  · subst e
    have hr : r ∈ fset S.rows q (putL (S.rows q) x y (wdOf ((atI S.held (1 + (P : Int) + 8 * x + y)).getD .non))) q := hr
    rw [fset_same] at hr
    rcases mem_putL hr with z | ⟨f, v, h1, rfl⟩
    · exact h r z hQ
    · obtain ⟨⟨a0, a1⟩, b0, b1⟩ := hxy
      obtain ⟨w, w1, w2⟩ := hO.wd (1 + (P : Int) + 8 * x + y).toNat (by omega) (by omega)
      have e : atI S.held (1 + (P : Int) + 8 * x + y) = some w.d := by
        have := atI_nat w2
        rwa [show (((1 + (P : Int) + 8 * x + y).toNat : Nat) : Int) = 1 + (P : Int) + 8 * x + y by omega] at this
      rw [e, Option.getD_some, wdOf_d w1] at h1
      show atI S.held (1 + (P : Int) + 8 * x + y) = some (Wd.frame f v).d
      rw [e, h1]
  · have hr : r ∈ fset S.rows p (putL (S.rows p) x y (wdOf ((atI S.held (1 + (P : Int) + 8 * x + y)).getD .non))) q := hr
    rw [fset_ne e] at hr
    exact h r hr hQ
theorem le1_oth {p : Nat} (h : Oth P p S S') (h1 : ∀ q, (S.lets q).length ≤ 1) : ∀ q, (S'.lets q).length ≤ 1 := by
  rcases h with rfl | ⟨R, rfl, rfl | ⟨x, y, rfl, _⟩⟩
  · exact h1
  · intro q
    unfold doR
    cases hL : S.lets p with
    | nil => exact h1 q
    | cons x L =>
      show (fset S.lets p L q).length ≤ 1
      by_cases e : q = p
      · subst e
        rw [fset_same]
        have := h1 q
        rw [hL, List.length_cons] at this
        omega
      · rw [fset_ne e]
        exact h1 q
  · exact h1
/-- taking a letter that is the run's, or none -/
theorem take_ack {p q : Nat} {s : Int} (hl : S.lets p = [] ∨ S.lets p = [(t, Q)]) (hlen : S.held.length = 51 + P) (hq : q < P) (h : Ack S q t) : Ack (doR P S p .take).2 q t := by
  unfold doR
  rcases hl with hl | hl
  · rw [hl]
    exact h
  · rw [hl]
    show (S.held.set (1 + p) (.int t))[1 + q]? = _
    by_cases e : q = p
    · subst e
      exact List.getElem?_set_self (by omega)
    · rw [List.getElem?_set_ne (by omega)]
      exact h
theorem good_take {p q : Nat} (hp : p < P) (hl : S.lets p = [] ∨ S.lets p = [(t, Q)]) (hQ : ∀ z ∈ Q, pgOk z.1 z.2) (h : Good P Q S q) : Good P Q (doR P S p .take).2 q := by
  unfold doR
  rcases hl with hl | hl
  · rw [hl]
    exact h
  · rw [hl]
    intro r hr hQr
    obtain ⟨⟨a0, a1⟩, b0, b1⟩ := hQ _ hQr
    simp only at a0 b0
    show atI (S.held.set (1 + p) (.int t)) _ = _
    rw [atI_set (by omega) (by omega)]
    have hr : r ∈ fset S.rows p ((S.rows p).filter (keepB Q)) q := hr
    by_cases e : q = p
    · subst e
      rw [fset_same] at hr
      exact h r (List.mem_filter.mp hr).1 hQr
    · rw [fset_ne e] at hr
      exact h r hr hQr
theorem good_taken {p : Nat} (hl : S.lets p = [(t, Q)]) : Good P Q (doR P S p .take).2 p := by
  unfold doR
  rw [hl]
  intro r hr hQr
  have hr : r ∈ fset S.rows p ((S.rows p).filter (keepB Q)) p := hr
  rw [fset_same] at hr
  have := (List.mem_filter.mp hr).2
  exfalso
  unfold keepB at this
  have k : (Q.any fun p => p.1 == r.1 && p.2 == r.2.1) = true := List.any_eq_true.mpr ⟨_, hQr, by simp⟩
  rw [k] at this
  cases this
theorem Busy.lets (B : Busy P t Q S a b) {q : Nat} (h : q < P) : S.lets q = [] ∨ S.lets q = [(t, Q)] := by
  by_cases e : q = 0
  · subst e
    exact .inl B.l0
  · rcases B.ph q (by omega) h with ⟨_, h, _⟩ | ⟨_, h, _⟩ | ⟨_, h, _⟩
    · exact .inl h
    · exact .inr h
    · exact .inl h
theorem Busy.walk {p n : Nat} {x y : Int} (B : Busy P t Q S a b) (hO : Ok4 P n S) (hxy : pgOk x y) : Busy P t Q (doR P S p (.walk x y)).2 a b := by
  refine ⟨B.aP, B.bP, fun q h1 h2 => ?_, B.l0, good_walk hO hxy B.g0, B.bq, B.ok⟩
  rcases B.ph q h1 h2 with h | h | ⟨h, i, j, k⟩
  · exact .inl h
  · exact .inr (.inl h)
  · exact .inr (.inr ⟨h, i, j, good_walk hO hxy k⟩)
theorem Busy.take {p n : Nat} (B : Busy P t Q S a b) (hO : Ok4 P n S) (hp : p < P) (hp0 : 1 ≤ p) : Busy P t Q (doR P S p .take).2 a b ∧ (a + 1 = P → Ack (doR P S p .take).2 p t) := by
  have hl := B.lets hp
  have lets_ : ∀ q, q ≠ p → (doR P S p .take).2.lets q = S.lets q := fun q e => by
    unfold doR
    rcases hl with h | h
    · rw [h]
    · rw [h]
      exact fset_ne e
  have acks : ∀ q, q ≠ p → ∀ v, Ack S q v → Ack (doR P S p .take).2 q v := fun q e v h => by
    unfold doR
    rcases hl with h' | h'
    · rw [h']
      exact h
    · rw [h']
      show (S.held.set (1 + p) (.int t))[1 + q]? = _
      rw [List.getElem?_set_ne (by omega)]
      exact h
  have own : Ph P t Q (doR P S p .take).2 a p ∧ (p ≤ a → Ack (doR P S p .take).2 p t) := by
    rcases B.ph p hp0 hp with ⟨h1, h2, h3⟩ | ⟨h1, h2, h3⟩ | ⟨h1, h2, h3, h4⟩
    · have e : (doR P S p .take).2 = S := by
        unfold doR
        rw [h2]
      rw [e]
      exact ⟨.inl ⟨h1, h2, h3⟩, fun h => absurd h (by omega)⟩
    · have ak : Ack (doR P S p .take).2 p t := by
        unfold doR
        rw [h2]
        exact List.getElem?_set_self (by have := hO.len; omega)
      have le : (doR P S p .take).2.lets p = [] := by
        unfold doR
        rw [h2]
        exact fset_same
      exact ⟨.inr (.inr ⟨h1, le, ak, good_taken h2⟩), fun _ => ak⟩
    · have e : (doR P S p .take).2 = S := by
        unfold doR
        rw [h2]
      rw [e]
      exact ⟨.inr (.inr ⟨h1, h2, h3, h4⟩), fun _ => h3⟩
  refine ⟨⟨B.aP, B.bP, fun q h1 h2 => ?_, ?_, good_take hp hl B.ok B.g0, fun q h1 h2 => take_ack (s := 0) hl hO.len (by have := B.bP; omega) (B.bq q h1 h2), B.ok⟩, fun e => own.2 (by omega)⟩
  · by_cases e : q = p
    · rw [e]
      exact own.1
    · rcases B.ph q h1 h2 with ⟨i, j, k⟩ | ⟨i, j, k⟩ | ⟨i, j, k, l⟩
      · exact .inl ⟨i, by rw [lets_ q e]; exact j, acks q e _ k⟩
      · exact .inr (.inl ⟨i, by rw [lets_ q e]; exact j, acks q e _ k⟩)
      · exact .inr (.inr ⟨i, by rw [lets_ q e]; exact j, acks q e _ k, good_take hp hl B.ok l⟩)
  · rw [lets_ 0 (by omega)]
    exact B.l0
theorem Busy.oth {p n : Nat} (B : Busy P t Q S a b) (hO : Ok4 P n S) (hp : p < P) (hp0 : 1 ≤ p) (h : Oth P p S S') : Busy P t Q S' a b := by
  rcases h with rfl | ⟨R, rfl, rfl | ⟨x, y, rfl, hxy⟩⟩
  · exact B
  · exact (B.take hO hp hp0).1
  · exact B.walk hO hxy
theorem Busy.ack_oth {p n q : Nat} (B : Busy P t Q S a b) (hO : Ok4 P n S) (hp : p < P) (hq : q < P) (h : Oth P p S S') (k : Ack S q t) : Ack S' q t := by
  rcases h with rfl | ⟨R, rfl, rfl | ⟨x, y, rfl, hxy⟩⟩
  · exact k
  · exact take_ack (s := 0) (B.lets hp) hO.len hq k
  · exact k
/-- a letter is sent -/
theorem Busy.send {p : Nat} (B : Busy P t Q S a b) (ha : a + 1 < P) : Busy P t Q (doR P S p (.send (a + 1) (t, Q))).2 (a + 1) b := by
  have hl : S.lets (a + 1) = [] := by
    rcases B.ph (a + 1) (by omega) ha with ⟨_, h, _⟩ | ⟨h, _⟩ | ⟨h, _⟩
    · exact h
    · omega
    · omega
  have le : ∀ q, q ≠ a + 1 → (doR P S p (.send (a + 1) (t, Q))).2.lets q = S.lets q := fun q e => fset_ne e
  refine ⟨by omega, B.bP, fun q h1 h2 => ?_, ?_, B.g0, B.bq, B.ok⟩
  · by_cases e : q = a + 1
    · subst e
      rcases B.ph (a + 1) h1 h2 with ⟨i, j, k⟩ | ⟨h, _⟩ | ⟨h, _⟩
      · refine .inr (.inl ⟨Nat.le_refl _, ?_, k⟩)
        show fset S.lets (a + 1) (S.lets (a + 1) ++ [(t, Q)]) (a + 1) = _
        rw [fset_same, hl]
        rfl
      · omega
      · omega
    · rcases B.ph q h1 h2 with ⟨i, j, k⟩ | ⟨i, j, k⟩ | ⟨i, j, k, l⟩
      · exact .inl ⟨by omega, by rw [le q e]; exact j, k⟩
      · exact .inr (.inl ⟨by omega, by rw [le q e]; exact j, k⟩)
      · exact .inr (.inr ⟨by omega, by rw [le q e]; exact j, k, l⟩)
  · rw [le 0 (by omega)]
    exact B.l0
theorem Busy.post (B : Busy P t Q S a b) (hb : b + 1 = P) : Post P t Q S := by
  have ak : ∀ q, 1 ≤ q → q < P → Ack S q t := fun q h1 h2 => B.bq q h1 (by omega)
  have k : ∀ q, 1 ≤ q → q < P → S.lets q = [] ∧ Good P Q S q := fun q h1 h2 => by
    have a0 := ak q h1 h2
    unfold Ack at a0
    rcases B.ph q h1 h2 with ⟨_, _, h⟩ | ⟨_, _, h⟩ | ⟨_, h, _, h'⟩
    · unfold Ack at h
      rw [a0] at h
      have := D.int.inj (Option.some.inj h)
      omega
    · unfold Ack at h
      rw [a0] at h
      have := D.int.inj (Option.some.inj h)
      omega
    · exact ⟨h, h'⟩
  refine ⟨fun q h => ?_, fun q h => ?_, ak⟩
  · by_cases e : q = 0
    · subst e
      exact B.l0
    · exact (k q (by omega) h).1
  · by_cases e : q = 0
    · subst e
      exact B.g0
    · exact (k q (by omega) h).2
theorem Post.oth {p n : Nat} (B : Post P t Q S) (hO : Ok4 P n S) (hp : p < P) (h : Oth P p S S') : Post P t Q S' := by
  rcases h with rfl | ⟨R, rfl, rfl | ⟨x, y, rfl, hxy⟩⟩
  · exact B
  · have e : (doR P S p .take).2 = S := by
      unfold doR
      rw [B.l p hp]
    rw [e]
    exact B
  · exact ⟨B.l, fun q h => good_walk hO hxy (B.gd q h), B.ak⟩
end
/-! #### who is picked -/
def nk (T : List Int) (pl j : Nat) : Int := tk T (pl + j % 40) + ((j / 40 : Nat) : Int)
def pk (T : List Int) (pl P j : Nat) : Nat := (nk T pl j % (P : Int)).toNat
def stp (T : List Int) (pl P j : Nat) : Bool := (pk T pl P j == 0) || (decide (200 < j) && j % 3 == 0)
def zc (f : Nat → Bool) : Nat → Nat
  | 0 => 0
  | k + 1 => zc f k + (bif f k then 1 else 0)
theorem zc_mono (f : Nat → Bool) {i : Nat} : ∀ {j : Nat}, i ≤ j → zc f i ≤ zc f j
  | 0, h => by
    have : i = 0 := by omega
    subst this
    exact Nat.le_refl _
  | j + 1, h => by
    by_cases e : i = j + 1
    · subst e
      exact Nat.le_refl _
    · have := zc_mono f (i := i) (j := j) (by omega)
      show _ ≤ zc f j + _
      omega
theorem zc_one (f : Nat → Bool) {i m n : Nat} (hf : f i = true) (h1 : m ≤ i) (h2 : i < n) : zc f m + 1 ≤ zc f n := by
  have a := zc_mono f h1
  have b := zc_mono f (show i + 1 ≤ n by omega)
  have c : zc f (i + 1) = zc f i + 1 := by
    show zc f i + (bif f i then 1 else 0) = _
    rw [hf]
    rfl
  omega
theorem zc_two (f : Nat → Bool) {i j m n : Nat} (hi : f i = true) (hj : f j = true) (h1 : m ≤ i) (h2 : i < j) (h3 : j < n) : zc f m + 2 ≤ zc f n := by
  have a := zc_one f hi h1 (show i < i + 1 by omega)
  have b := zc_one f hj (show i + 1 ≤ j by omega) h3
  omega
section
variable {T : List Int} {pl P : Nat}
theorem stp3 {j : Nat} (h : 200 < j) (h3 : j % 3 = 0) : stp T pl P j = true := by
  unfold stp
  simp [h, h3]
theorem stp_no {j q : Nat} (h : pk T pl P j = q) (hq : 1 ≤ q) (h3 : j ≤ 200 ∨ j % 3 ≠ 0) : stp T pl P j = false := by
  unfold stp
  have e : (pk T pl P j == 0) = false := beq_eq_false_iff_ne.mpr (by omega)
  rw [e]
  rcases h3 with h3 | h3
  · simp [show ¬ 200 < j by omega]
  · simp [h3]
/-- each of the others is picked behind the sending, and not too late -/
theorem picked (hT : Nice T) (hP : P = 2 ∨ P = 3) {q : Nat} (h1 : 1 ≤ q) (h2 : q < P) : ∃ k, k < 361 ∧ 100 < k ∧ stp T pl P k = false ∧ pk T pl P k = q ∧ P ≤ zc (stp T pl P) k + 1 := by
  have late : ∀ k, 205 ≤ k → P ≤ zc (stp T pl P) k + 1 := fun k hk => by
    have := zc_two (stp T pl P) (i := 201) (j := 204) (m := 0) (n := k) (stp3 (by decide) (by decide)) (stp3 (by decide) (by decide)) (by omega) (by omega) (by omega)
    have e : zc (stp T pl P) 0 = 0 := rfl
    rcases hP with rfl | rfl <;> omega
  rcases hP with rfl | rfl
  · have hq : q = 1 := by omega
    subst hq
    obtain ⟨t0, t1⟩ := tk_nice hT pl
    have a : nk T pl 280 = tk T pl + 7 := rfl
    have b : nk T pl 320 = tk T pl + 8 := rfl
    by_cases h : (tk T pl + 7) % 2 = 1
    · have e : pk T pl 2 280 = 1 := by
        unfold pk
        rw [a]
        omega
      exact ⟨280, by decide, by decide, stp_no e (by decide) (.inr (by decide)), e, late _ (by decide)⟩
    · have e : pk T pl 2 320 = 1 := by
        unfold pk
        rw [b]
        omega
      exact ⟨320, by decide, by decide, stp_no e (by decide) (.inr (by decide)), e, late _ (by decide)⟩
  · by_cases h : ∃ j, j < 40 ∧ (tk T (pl + j) - q - j) % 3 ≠ 0
    · obtain ⟨j, hj, h⟩ := h
      have key : ∀ i : Nat, nk T pl (40 * i + j) = tk T (pl + j) + i := fun i => by
        unfold nk
        rw [show (40 * i + j) % 40 = j by omega, show (40 * i + j) / 40 = i by omega]
      have pick : ∀ i : Nat, 6 ≤ i → i ≤ 8 → (tk T (pl + j) + i - q) % 3 = 0 → ∃ k, k < 361 ∧ 100 < k ∧ stp T pl 3 k = false ∧ pk T pl 3 k = q ∧ 3 ≤ zc (stp T pl 3) k + 1 := fun i i0 i1 hi => by
        obtain ⟨t0, t1⟩ := tk_nice hT (pl + j)
        have e : pk T pl 3 (40 * i + j) = q := by
          unfold pk
          rw [key]
          omega
        exact ⟨40 * i + j, by omega, by omega, stp_no e h1 (.inr (by omega)), e, late _ (by omega)⟩
      rcases show (tk T (pl + j) + (6 : Nat) - q) % 3 = 0 ∨ (tk T (pl + j) + (7 : Nat) - q) % 3 = 0 ∨ (tk T (pl + j) + (8 : Nat) - q) % 3 = 0 by omega with h | h | h
      · exact pick 6 (by decide) (by decide) h
      · exact pick 7 (by decide) (by decide) h
      · exact pick 8 (by decide) (by decide) h
    · have all : ∀ j, j < 40 → (tk T (pl + j) - q - j) % 3 = 0 := fun j hj => Classical.byContradiction fun e => h ⟨j, hj, e⟩
      have e : pk T pl 3 102 = q := by
        unfold pk
        have a : nk T pl 102 = tk T (pl + 22) + 2 := rfl
        have b := all 22 (by decide)
        obtain ⟨t0, t1⟩ := tk_nice hT (pl + 22)
        rw [a]
        omega
      have st : ∀ j, j < 40 → (q + j) % 3 = 0 → stp T pl 3 j = true := fun j hj h3 => by
        have b := all j hj
        have c : nk T pl j = tk T (pl + j) + 0 := by
          unfold nk
          rw [Nat.mod_eq_of_lt hj, Nat.div_eq_of_lt hj]
          rfl
        have e : pk T pl 3 j = 0 := by
          unfold pk
          rw [c]
          omega
        unfold stp
        rw [e]
        rfl
      refine ⟨102, by decide, by decide, stp_no e h1 (.inl (by decide)), e, ?_⟩
      have z0 : zc (stp T pl 3) 0 = 0 := rfl
      have hq : q = 1 ∨ q = 2 := by omega
      rcases hq with rfl | rfl
      · have := zc_two (stp T pl 3) (i := 2) (j := 5) (m := 0) (n := 102) (st 2 (by decide) (by decide)) (st 5 (by decide) (by decide)) (by decide) (by decide) (by decide)
        omega
      · have := zc_two (stp T pl 3) (i := 1) (j := 4) (m := 0) (n := 102) (st 1 (by decide) (by decide)) (st 4 (by decide) (by decide)) (by decide) (by decide) (by decide)
        omega
end
structure Prog (T : List Int) (pl P : Nat) (t : Int) (S : S4) (a b k : Nat) : Prop where
  i1 : P ≤ a + 1 ∨ zc (stp T pl P) k ≤ a
  i2 : ∀ q k', 1 ≤ q → q < P → k' < k → 100 < k' → stp T pl P k' = false → pk T pl P k' = q → P ≤ zc (stp T pl P) k' + 1 → Ack S q t
  i3 : ∀ k', k' ≤ k → (∀ q, 1 ≤ q → q < P → ∃ c, c < k' ∧ 100 < c ∧ stp T pl P c = false ∧ pk T pl P c = q ∧ P ≤ zc (stp T pl P) c + 1) → zc (stp T pl P) k ≤ zc (stp T pl P) k' + b
theorem prog_end {T : List Int} {pl P : Nat} {t : Int} {S : S4} {a b : Nat} (hT : Nice T) (hP : P = 2 ∨ P = 3) (h : Prog T pl P t S a b 400) (hb : b + 1 < P) : False := by
  have := h.i3 361 (by decide) fun q h1 h2 => picked hT hP h1 h2
  have two := zc_two (stp T pl P) (i := 363) (j := 366) (m := 361) (n := 400) (stp3 (by decide) (by decide)) (stp3 (by decide) (by decide)) (by decide) (by decide) (by decide)
  omega

/-! ### the run -/
theorem range_drop {P a : Nat} (h : a + 1 < P) : (List.range P).drop (a + 1) = (a + 1) :: (List.range P).drop (a + 2) := by
  rw [List.drop_eq_getElem_cons (by simpa using h), List.getElem_range]
theorem range_drop0 {P a : Nat} (h : P ≤ a + 1) : (List.range P).drop (a + 1) = [] := List.drop_eq_nil_of_le (by simpa using h)
section
variable {g : G} {P r kr L K pl j : Nat} {bA xA yA : Nat → Nat} {ld : Nat → D} {S : S4} {log : List D} {ker : Ob} {T : List Int} {e5 e6 e8 e9 e10 : Option D}
/-- the picks up to the choice -/
theorem run_pick (hP0 : 0 < P) (hP : P ≤ 3) (hT : Nice T) : c__law_run_6 [some (.ref 2), some (.ref K), some (.int (P : Int)), some (.lst (T.map D.int)), some (.int (pl : Int)), e5, e6, some (.int (j : Int)), e8, e9, e10] g =
    c__law_run_4 [some (.ref 2), some (.ref K), some (.int (P : Int)), some (.lst (T.map D.int)), some (.int (pl : Int)), e5, e6, some (.int (j : Int)), some (.int (nk T pl j)), some (.int (pk T pl P j : Int)), e10] g ∧ pk T pl P j < P ∧ 0 ≤ nk T pl j := by
  have a : m__law_at [.lst (T.map D.int), .int (((pl + j % 40 : Nat)) : Int)] g = .ok (.int (tk T (pl + j % 40))) g := at_ok T (pl + j % 40) g
  obtain ⟨t0, t1⟩ := tk_nice hT (pl + j % 40)
  have n0 : 0 ≤ nk T pl j := by unfold nk; omega
  have m0 : 0 ≤ nk T pl j % (P : Int) := Int.emod_nonneg _ (by omega)
  have m1 : nk T pl j % (P : Int) < P := Int.emod_lt_of_pos _ (by omega)
  have e1 : ((pk T pl P j : Nat) : Int) = nk T pl j % (P : Int) := by unfold pk; omega
  refine ⟨?_, by omega, n0⟩
  have m40 : modD g (.int (j : Int)) (.int 40) = some (.int ((j : Int) % 40)) := modD_e (by decide)
  have d40 : divD g (.int (j : Int)) (.int 40) = some (.int ((j : Int) / 40)) := divD_e (by decide) (by decide)
  have mP : modD g (.int (nk T pl j)) (.int (P : Int)) = some (.int (nk T pl j % (P : Int))) := modD_e (by omega)
  have c1 : (pl : Int) + (j : Int) % 40 = ((pl + j % 40 : Nat) : Int) := by omega
  have c2 : tk T (pl + j % 40) + (j : Int) / 40 = nk T pl j := by unfold nk; omega
  unfold c__law_run_6 c__law_run_5
  simp only [sSeq_e, sAsg_e, vOp_e, vCall_e, aCons_e, aNil_e, vVar_e, vC_e, List.getElem?_cons_zero, List.getElem?_cons_succ, Res.bind, m40, d40, oR_some, addD_int, c1, a, c2, sBind, List.set, mP, e1]
theorem run_test {n : Int} {e : En} (h9 : e[9]? = some (some (.int (pk T pl P j : Int)))) (h7 : e[7]? = some (some (.int (j : Int)))) :
    tOr (tOf (vOp eqD (vVar 9) (vC (.int 0)))) (tAnd (tOf (vOp gtD (vVar 7) (vC (.int 200)))) (tOf (vOp eqD (vOp modD (vVar 7) (vC (.int 3))) (vC (.int 0))))) e g = .ok (stp T pl P j) g := by
  have m3 : modD g (.int (j : Int)) (.int 3) = some (.int ((j : Int) % 3)) := modD_e (by decide)
  have c1 : (((pk T pl P j : Nat) : Int) == 0) = (pk T pl P j == 0) := by
    rw [Bool.eq_iff_iff, beq_iff_eq, beq_iff_eq]
    omega
  have c2 : ((j : Int) % 3 == 0) = (j % 3 == 0) := by
    rw [Bool.eq_iff_iff, beq_iff_eq, beq_iff_eq]
    omega
  have c3 : decide ((200 : Int) < (j : Int)) = decide (200 < j) := by
    rw [Bool.eq_iff_iff, decide_eq_true_iff, decide_eq_true_iff]
    omega
  simp only [tOr_e, tAnd_e, tOf_e, vOp_e, vVar_e, vC_e, h9, h7, Res.bind, eq_int, oR_some, bR_bl, c1, gtD, icD_int, c3, m3, c2]
  unfold stp
  cases (pk T pl P j == 0) <;> cases decide (200 < j) <;> rfl
/-- another processor's turn -/
theorem run_other {Ex : List (Nat × Ob)} (H : Hq g P r bA xA yA ld S log Ex) (hP0 : 0 < P) (hP : P ≤ 3) (hn : 0 ≤ nk T pl j) (hp : pk T pl P j < P) (hs : stp T pl P j = false) (h1 : ∀ q, (S.lets q).length ≤ 1) (hl : log.length < 99990) :
    ∃ g' yA' ld' S1 S' log', c__law_run_4 [some (.ref 2), some (.ref K), some (.int (P : Int)), some (.lst (T.map D.int)), some (.int (pl : Int)), e5, e6, some (.int (j : Int)), some (.int (nk T pl j)), some (.int (pk T pl P j : Int)), e10] g = .nx [some (.ref 2), some (.ref K), some (.int (P : Int)), some (.lst (T.map D.int)), some (.int (pl : Int)), e5, e6, some (.int (j : Int)), some (.int (nk T pl j)), some (.int (pk T pl P j : Int)), e10] g' ∧
      Hq g' P r bA xA yA' ld' S' log' Ex ∧ log'.length ≤ log.length + 2 ∧ Oth P (pk T pl P j) S S1 ∧ Ok4 P 1 S1 ∧ ((100 < j ∧ S' = (doR P S1 (pk T pl P j) .take).2) ∨ (j ≤ 100 ∧ S' = S1)) := by
  have dP : divD g (.int (nk T pl j)) (.int (P : Int)) = some (.int (nk T pl j / (P : Int))) := divD_e (by omega) (by omega)
  have d0 : 0 ≤ nk T pl j / (P : Int) := Int.ediv_nonneg hn (by omega)
  obtain ⟨g1, yA1, ld1, S1, log1, ho, H1, l1, o1⟩ := other_ok H hp d0 h1 (by omega)
  have t := run_test (T := T) (pl := pl) (P := P) (j := j) (n := 0) (g := g) (e := [some (.ref 2), some (.ref K), some (.int (P : Int)), some (.lst (T.map D.int)), some (.int (pl : Int)), e5, e6, some (.int (j : Int)), some (.int (nk T pl j)), some (.int (pk T pl P j : Int)), e10]) rfl rfl
  rw [hs] at t
  have h2 := le1_oth o1 h1
  have gt : gtD g1 (.int (j : Int)) (.int 100) = some (.bl (decide (100 < j))) := by
    show some (D.bl (decide ((100 : Int) < (j : Int)))) = _
    congr 2
    rw [Bool.eq_iff_iff, decide_eq_true_iff, decide_eq_true_iff]
    omega
  by_cases h100 : 100 < j
  · obtain ⟨g2, yA2, ld2, y, ha, H2⟩ := H1.acc (R := .take) hp trivial (le1_oth (.inr ⟨.take, rfl, .inl rfl⟩) h2) (by omega)
    have b := H1.M.meth (nm := 31) (tbl := [(5, m_Memory_access)]) (o := vVar 0) (ms := aCons (vVar 9) (aCons (vTup (aCons (vC (.str 13)) aNil)) aNil)) (e := [some (.ref 2), some (.ref K), some (.int (P : Int)), some (.lst (T.map D.int)), some (.int (pl : Int)), e5, e6, some (.int (j : Int)), some (.int (nk T pl j)), some (.int (pk T pl P j : Int)), e10]) (g2 := g1) (ds := [.int (pk T pl P j : Int), Rq4.take.d P]) rfl rfl rfl (by simp [vTup_s, okL_s, Rq4.d])
    rw [ha] at b
    refine ⟨g2, yA2, ld2, S1, _, _, ?_, H2, by simp; omega, o1, H1.O, .inl ⟨h100, rfl⟩⟩
    unfold c__law_run_4
    rw [sIf_e, t]
    simp only [sBind, cond_false, sSeq_e, sDrop_e, vCall_e, aCons_e, aNil_e, vVar_e, vOp_e, vC_e, List.getElem?_cons_zero, List.getElem?_cons_succ, Res.bind, dP, oR_some, ho, sIf_e, tOf_e, gt, bR_bl, decide_eq_true h100, cond_true, b]
  · refine ⟨g1, yA1, ld1, S1, S1, log1, ?_, H1, by omega, o1, H1.O, .inr ⟨by omega, rfl⟩⟩
    unfold c__law_run_4
    rw [sIf_e, t]
    simp only [sBind, cond_false, sSeq_e, sDrop_e, vCall_e, aCons_e, aNil_e, vVar_e, vOp_e, vC_e, List.getElem?_cons_zero, List.getElem?_cons_succ, Res.bind, dP, oR_some, ho, sIf_e, tOf_e, gt, bR_bl, decide_eq_false h100, sNx_e]
/-- the run of an invalidation that makes accesses -/
theorem run_busy {ker : Ob} {t : Int} {Q : List (Int × Int)} (hP : P = 2 ∨ P = 3) (hT : Nice T) (H : Hq g P r bA xA yA ld S log (ExR kr L K ker ((List.range P).drop 1) ((List.range P).drop 1) .non (letD (t, Q)))) (B : Busy P t Q S 0 0) (hx : kr ≠ L ∧ kr ≠ K ∧ kr ≠ K + 1) (ht : 1 ≤ t) (hQ : 1 ≤ Q.length ∧ Q.length ≤ 10) (hl : log.length < 99000) :
    ∃ g' yA' ld' S' log' m, m__law_run [.ref 2, .ref K, .int (P : Int), .lst (T.map D.int), .int (pl : Int)] g = .ok (.tup [.int (log'.length : Int), .int (m : Nat)]) g' ∧
      Hq g' P r bA xA yA' ld' S' log' (ExE kr K ker (.int (log'.length : Int))) ∧ g'[K + 1]? = some (.lst []) ∧ Post P t Q S' ∧ 2 * (P - 1) ≤ m ∧ log'.length ≤ log.length + 800 := by
  have hP0 : 0 < P := by omega
  have hP3 : P ≤ 3 := by omega
  suffices h : ∃ g' yA' ld' S' log', ∃ m : Nat, b__law_run [some (.ref 2), some (.ref K), some (.int (P : Int)), some (.lst (T.map D.int)), some (.int (pl : Int)), none, none, none, none, none, none] g = .rt (.tup [.int (log'.length : Int), .int m]) g' ∧
      Hq g' P r bA xA yA' ld' S' log' (ExE kr K ker (.int (log'.length : Int))) ∧ g'[K + 1]? = some (.lst []) ∧ Post P t Q S' ∧ 2 * (P - 1) ≤ m ∧ log'.length ≤ log.length + 800 by
    obtain ⟨g', yA', ld', S', log', m, h, h2⟩ := h
    refine ⟨g', yA', ld', S', log', m, ?_, h2⟩
    show endM (b__law_run [some (.ref 2), some (.ref K), some (.int (P : Int)), some (.lst (T.map D.int)), some (.int (pl : Int)), none, none, none, none, none, none] g) = _
    rw [h]
    rfl
  unfold b__law_run c__law_run_8 c__law_run_7
  rw [sSeq_e]
  simp only [sAsg_e, vC_e, sBind, List.set]
  rw [sSeq_e]
  simp only [sAsg_e, vC_e, sBind, List.set]
  refine seq_rng (n := 400) (Q := fun R => ∃ g' yA' ld' S' log', ∃ m : Nat, R = .rt (.tup [.int (log'.length : Int), .int m]) g' ∧
      Hq g' P r bA xA yA' ld' S' log' (ExE kr K ker (.int (log'.length : Int))) ∧ g'[K + 1]? = some (.lst []) ∧ Post P t Q S' ∧ 2 * (P - 1) ≤ m ∧ log'.length ≤ log.length + 800)
    (fun k e g => ∃ (yA : Nat → Nat) (ld : Nat → D) (S : S4) (log2 : List D) (a b m : Nat) (d5 last : D) (e7 e8 e9 e10 : Option D), e = [some (.ref 2), some (.ref K), some (.int (P : Int)), some (.lst (T.map D.int)), some (.int (pl : Int)), some d5, some (.int (m : Int)), e7, e8, e9, e10] ∧
      Hq g P r bA xA yA ld S log2 (ExR kr L K ker ((List.range P).drop (a + 1)) ((List.range P).drop (b + 1)) last (letD (t, Q))) ∧ Busy P t Q S a b ∧ b + 1 < P ∧ (b = 0 ∨ a + 1 = P) ∧ a + b ≤ m ∧ log2.length ≤ log.length + 2 * k ∧ Prog T pl P t S a b k) (rng_of (n := 400) rfl (by decide)) ?_ ?_ ?_
  · exact ⟨yA, ld, S, log, 0, 0, 0, .non, .non, _, _, _, _, rfl, H, B, by omega, .inl rfl, Nat.le_refl _, by omega, ⟨.inr (Nat.le_refl 0), fun q k' _ _ h => absurd h (Nat.not_lt_zero _), fun k' h _ => by rw [Nat.le_zero.mp h]; exact Nat.le_refl _⟩⟩
  · rintro k e g hk ⟨yA, ld, S, log2, a, b, m, d5, last, e7, e8, e9, e10, rfl, H, B, hb, hab, hm, hlg, Gp⟩
    refine ⟨_, rfl, ?_⟩
    simp only [List.set]
    obtain ⟨hpick, hp, hn⟩ := run_pick (g := g) (K := K) (pl := pl) (j := k) (e5 := some d5) (e6 := some (.int (m : Int))) (e8 := e8) (e9 := e9) (e10 := e10) hP0 hP3 hT
    rw [hpick]
    have h1 : ∀ q, (S.lets q).length ≤ 1 := H.O.ll
    have hzk : zc (stp T pl P) (k + 1) = zc (stp T pl P) k + (bif stp T pl P k then 1 else 0) := rfl
    cases hs : stp T pl P k with
    | false =>
      rw [hs] at hzk
      obtain ⟨g', yA', ld', S1, S', log', run, H', ll', o1, O1, hS'⟩ := run_other (K := K) (e5 := some d5) (e6 := some (.int (m : Int))) (e10 := e10) H hP0 hP3 hn hp hs h1 (by omega)
      rw [run]
      have hp1 : 1 ≤ pk T pl P k := by
        unfold stp at hs
        rw [Bool.or_eq_false_iff] at hs
        have := beq_eq_false_iff_ne.mp hs.1
        omega
      have B1 := B.oth H.O hp hp1 o1
      have fin : Busy P t Q S' a b ∧ (∀ q, 1 ≤ q → q < P → Ack S q t → Ack S' q t) ∧ (100 < k → a + 1 = P → Ack S' (pk T pl P k) t) := by
        rcases hS' with ⟨h100, rfl⟩ | ⟨h100, rfl⟩
        · obtain ⟨B2, k2⟩ := B1.take O1 hp hp1
          exact ⟨B2, fun q q1 q2 h => B1.ack_oth O1 hp q2 (.inr ⟨.take, rfl, .inl rfl⟩) (B.ack_oth H.O hp q2 o1 h), fun _ h => k2 h⟩
        · exact ⟨B1, fun q q1 q2 h => B.ack_oth H.O hp q2 o1 h, fun h => absurd h (by omega)⟩
      obtain ⟨B2, mono, own⟩ := fin
      refine ⟨yA', ld', S', log', a, b, m, d5, last, _, _, _, _, rfl, H', B2, hb, hab, hm, by omega, ⟨?_, ?_, ?_⟩⟩
      · rcases Gp.i1 with h | h
        · exact .inl h
        · refine .inr ?_
          simp only [cond_false] at hzk
          omega
      · intro q k' q1 q2 hk' h100 hs' hpk hz
        by_cases e : k' = k
        · subst e
          rw [← hpk]
          refine own h100 ?_
          have := B.aP
          rcases Gp.i1 with h | h <;> omega
        · exact mono q q1 q2 (Gp.i2 q k' q1 q2 (by omega) h100 hs' hpk hz)
      · intro k' hk' all
        simp only [cond_false] at hzk
        by_cases e : k' = k + 1
        · subst e
          omega
        · have := Gp.i3 k' (by omega) all
          omega
    | true =>
      rw [hs] at hzk
      simp only [cond_true] at hzk
      have tst : ∀ {e5 e6 e10 : Option D}, tOr (tOf (vOp eqD (vVar 9) (vC (.int 0)))) (tAnd (tOf (vOp gtD (vVar 7) (vC (.int 200)))) (tOf (vOp eqD (vOp modD (vVar 7) (vC (.int 3))) (vC (.int 0))))) [some (.ref 2), some (.ref K), some (.int (P : Int)), some (.lst (T.map D.int)), some (.int (pl : Int)), e5, e6, some (.int (k : Int)), some (.int (nk T pl k)), some (.int (pk T pl P k : Int)), e10] g = .ok true g := fun {e5 e6 e10} => by
        rw [run_test (T := T) (pl := pl) (P := P) (j := k) (n := 0) rfl rfl, hs]
      have b0 := meth_e (nm := 47) (tbl := [(6, m_Stack_step)]) (o := vVar 1) (ms := aCons (vVar 0) (aCons (vC (.int 0)) aNil)) (e := [some (.ref 2), some (.ref K), some (.int (P : Int)), some (.lst (T.map D.int)), some (.int (pl : Int)), some d5, some (.int (m : Int)), some (.int (k : Int)), some (.int (nk T pl k)), some (.int (pk T pl P k : Int)), e10]) (g := g) (g2 := g) (ds := [.ref 2, .int 0]) rfl H.gK rfl rfl rfl
      -- it goes on
      have goes : ∀ {g' : G} {yA' : Nat → Nat} {ld' : Nat → D} {S' : S4} {y : D} {se wa : List Nat}, m_Stack_step [.ref K, .ref 2, .int 0] g = .ok (.bl true) g' → Hq g' P r bA xA yA' ld' S' (log2 ++ [y]) (ExR kr L K ker se wa (.int ((log2 ++ [y]).length : Int)) (letD (t, Q))) →
          c__law_run_4 [some (.ref 2), some (.ref K), some (.int (P : Int)), some (.lst (T.map D.int)), some (.int (pl : Int)), some d5, some (.int (m : Int)), some (.int (k : Int)), some (.int (nk T pl k)), some (.int (pk T pl P k : Int)), e10] g = .nx [some (.ref 2), some (.ref K), some (.int (P : Int)), some (.lst (T.map D.int)), some (.int (pl : Int)), some (.int ((log2 ++ [y]).length : Int)), some (.int ((m + 1 : Nat) : Int)), some (.int (k : Int)), some (.int (nk T pl k)), some (.int (pk T pl P k : Int)), some (.bl true)] g' := by
        intro g' yA' ld' S' y se wa hst H'
        rw [hst] at b0
        have en := ended_no H' (o := vVar 1) (e := [some (.ref 2), some (.ref K), some (.int (P : Int)), some (.lst (T.map D.int)), some (.int (pl : Int)), some (.int ((log2 ++ [y]).length : Int)), some (.int ((m : Int) + 1)), some (.int (k : Int)), some (.int (nk T pl k)), some (.int (pk T pl P k : Int)), some (.bl true)]) rfl
        unfold c__law_run_4
        rw [sIf_e, tst]
        unfold c__law_run_3 c__law_run_2
        simp only [sBind, cond_true, sSeq_e, sAsg_e, b0, List.set, sIf_e, tTru_e, vVar_e, List.getElem?_cons_zero, List.getElem?_cons_succ, Res.bind, truD_bl, vOp_e, vC_e, addD_int, oR_some, vUn_e, H'.M.count_, en, cond_false, sNx_e]
        congr 4
      rcases Nat.lt_or_ge (a + 1) P with ha | ha
      · -- a letter
        have hb0 : b = 0 := by
          rcases hab with h | h
          · exact h
          · omega
        subst hb0
        obtain ⟨g', yA', ld', y, hst, H'⟩ := H.step_send hx.1 (q := a + 1) (se' := (List.range P).drop (a + 2)) (x := (t, Q)) (range_drop ha) rfl (by rw [range_drop (a := 0) (by omega)]; simp) ⟨ha, ht, hQ.1, hQ.2, by
          rw [List.all_eq_true]
          intro z hz
          obtain ⟨⟨a0, a1⟩, b0, b1⟩ := B.ok z hz
          unfold okP
          simp [a0, a1, b0, b1]⟩ hP0 (fun z => by
            by_cases e : z = a + 1
            · subst e
              rcases B.ph (a + 1) (by omega) ha with ⟨_, h, _⟩ | ⟨h, _⟩ | ⟨h, _⟩
              · exact .inl h
              · omega
              · omega
            · exact .inr ⟨e, h1 z⟩) (by omega)
        rw [goes hst H']
        refine ⟨yA', ld', _, _, a + 1, 0, m + 1, _, _, _, _, _, _, rfl, H', B.send ha, hb, .inl rfl, by omega, by simp; omega, ⟨?_, ?_, ?_⟩⟩
        · rcases Gp.i1 with h | h
          · omega
          · exact .inr (by omega)
        · intro q k' q1 q2 hk' h100 hs' hpk hz
          have : k' ≠ k := fun e => by
            rw [e, hs] at hs'
            cases hs'
          have := zc_mono (stp T pl P) (show k' ≤ k by omega)
          rcases Gp.i1 with h | h <;> omega
        · intro k' hk' all
          by_cases e : k' = k + 1
          · subst e
            omega
          · obtain ⟨c, c1, _, _, _, c5⟩ := all 1 (Nat.le_refl _) (by omega)
            have := zc_mono (stp T pl P) (show c ≤ k by omega)
            rcases Gp.i1 with h | h <;> omega
      · -- an acknowledgement
        have haP : a + 1 = P := by
          have := B.aP
          omega
        have e0 : (List.range P).drop (a + 1) = [] := range_drop0 ha
        rw [e0] at H
        have hv : ∃ i, S.held[1 + (b + 1)]? = some (.int i) := by
          rcases B.ph (b + 1) (by omega) hb with ⟨_, _, h⟩ | ⟨_, _, h⟩ | ⟨_, _, h, _⟩ <;> exact ⟨_, h⟩
        obtain ⟨i, hi⟩ := hv
        obtain ⟨g', y, hst, hcase⟩ := H.step_read hx.1 hx.2 (q := b + 1) (wa' := (List.range P).drop (b + 2)) (x := (t, Q)) (range_drop hb) rfl hP0 hi (by omega)
        have Bn : i = t → b + 2 ≤ P → Busy P t Q S a (b + 1) := fun e h2 => ⟨B.aP, h2, B.ph, B.l0, B.g0, fun q q1 q2 => by
          by_cases z : q = b + 1
          · subst z
            unfold Ack
            rw [hi, e]
          · exact B.bq q q1 (by omega), B.ok⟩
        rcases hcase with ⟨ei, hw, H', hK'⟩ | ⟨wa2, hw, H'⟩
        · -- the last one
          have hbP : b + 2 = P := by
            rcases Nat.lt_or_ge (b + 2) P with h | h
            · rw [range_drop h] at hw
              cases hw
            · omega
          rw [hst] at b0
          have en := ended_yes H' hK' (o := vVar 1) (e := [some (.ref 2), some (.ref K), some (.int (P : Int)), some (.lst (T.map D.int)), some (.int (pl : Int)), some (.int ((log2 ++ [y]).length : Int)), some (.int ((m : Int) + 1)), some (.int (k : Int)), some (.int (nk T pl k)), some (.int (pk T pl P k : Int)), some (.bl true)]) rfl
          have run : c__law_run_4 [some (.ref 2), some (.ref K), some (.int (P : Int)), some (.lst (T.map D.int)), some (.int (pl : Int)), some d5, some (.int (m : Int)), some (.int (k : Int)), some (.int (nk T pl k)), some (.int (pk T pl P k : Int)), e10] g = .rt (.tup [.int ((log2 ++ [y]).length : Int), .int ((m + 1 : Nat) : Int)]) g' := by
            unfold c__law_run_4
            rw [sIf_e, tst]
            unfold c__law_run_3 c__law_run_2
            simp only [sBind, cond_true, sSeq_e, sAsg_e, b0, List.set, sIf_e, tTru_e, vVar_e, List.getElem?_cons_zero, List.getElem?_cons_succ, Res.bind, truD_bl, vOp_e, vC_e, addD_int, oR_some, vUn_e, H'.M.count_, en, sRet_e, vTup_s, aCons_e, aNil_e, List.length_cons, List.length_nil, okL_s (show 0 + 1 + 1 < 1000 by decide)]
            congr 3
          rw [run]
          exact ⟨g', _, _, S, log2 ++ [y], m + 1, rfl, H', hK', (Bn ei (by omega)).post (by omega), by omega, by simp; omega⟩
        · rw [goes hst H']
          rcases hw with ⟨ei, rfl, hw⟩ | ⟨ei, rfl⟩
          · have hb2 : b + 2 < P := by
              rcases Nat.lt_or_ge (b + 2) P with h | h
              · exact h
              · exact absurd (range_drop0 (a := b + 1) h) hw
            refine ⟨_, _, S, _, a, b + 1, m + 1, _, _, _, _, _, _, rfl, by rw [e0]; exact H', Bn ei (by omega), hb2, .inr haP, by omega, by simp; omega, ⟨.inl (by omega), ?_, ?_⟩⟩
            · intro q k' q1 q2 hk' h100 hs' hpk hz
              have : k' ≠ k := fun e => by
                rw [e, hs] at hs'
                cases hs'
              exact Gp.i2 q k' q1 q2 (by omega) h100 hs' hpk hz
            · intro k' hk' all
              by_cases e : k' = k + 1
              · subst e
                omega
              · have := Gp.i3 k' (by omega) all
                omega
          · refine ⟨_, _, S, _, a, b, m + 1, _, _, _, _, _, _, rfl, by rw [e0]; exact H', B, hb, .inr haP, by omega, by simp; omega, ⟨.inl (by omega), ?_, ?_⟩⟩
            · intro q k' q1 q2 hk' h100 hs' hpk hz
              have : k' ≠ k := fun e => by
                rw [e, hs] at hs'
                cases hs'
              exact Gp.i2 q k' q1 q2 (by omega) h100 hs' hpk hz
            · intro k' hk' all
              by_cases e : k' = k + 1
              · subst e
                omega
              · exfalso
                obtain ⟨c, c1, c2, c3, c4, c5⟩ := all (b + 1) (by omega) hb
                have := Gp.i2 (b + 1) c (by omega) hb (by omega) c2 c3 c4 c5
                unfold Ack at this
                rw [hi] at this
                exact ei (D.int.inj (Option.some.inj this))
  · rintro e g ⟨yA, ld, S, log2, a, b, m, d5, last, e7, e8, e9, e10, rfl, H, B, hb, hab, hm, hlg, Gp⟩
    exact (prog_end hT hP Gp hb).elim
/-- the run of an invalidation with nothing to do -/
theorem run_quiet {ker : Ob} {t : Int} {Q : List (Int × Int)} {letter : D} (hP0 : 0 < P) (hP3 : P ≤ 3) (hT : Nice T) (H : Hq g P r bA xA yA ld S log (ExR kr L K ker [] [] .non letter)) (B : Post P t Q S) (hx : kr ≠ K ∧ kr ≠ K + 1) (hl : log.length < 99000) :
    ∃ g' yA' ld' S' log', m__law_run [.ref 2, .ref K, .int (P : Int), .lst (T.map D.int), .int (pl : Int)] g = .ok (.tup [.non, .int 0]) g' ∧
      Hq g' P r bA xA yA' ld' S' log' (ExE kr K ker .non) ∧ g'[K + 1]? = some (.lst []) ∧ Post P t Q S' ∧ log'.length ≤ log.length + 800 := by
  suffices h : ∃ g' yA' ld' S' log', b__law_run [some (.ref 2), some (.ref K), some (.int (P : Int)), some (.lst (T.map D.int)), some (.int (pl : Int)), none, none, none, none, none, none] g = .rt (.tup [.non, .int 0]) g' ∧
      Hq g' P r bA xA yA' ld' S' log' (ExE kr K ker .non) ∧ g'[K + 1]? = some (.lst []) ∧ Post P t Q S' ∧ log'.length ≤ log.length + 800 by
    obtain ⟨g', yA', ld', S', log', h, h2⟩ := h
    refine ⟨g', yA', ld', S', log', ?_, h2⟩
    show endM (b__law_run [some (.ref 2), some (.ref K), some (.int (P : Int)), some (.lst (T.map D.int)), some (.int (pl : Int)), none, none, none, none, none, none] g) = _
    rw [h]
    rfl
  unfold b__law_run c__law_run_8 c__law_run_7
  rw [sSeq_e]
  simp only [sAsg_e, vC_e, sBind, List.set]
  rw [sSeq_e]
  simp only [sAsg_e, vC_e, sBind, List.set]
  refine seq_rng (n := 400) (Q := fun R => ∃ g' yA' ld' S' log', R = .rt (.tup [.non, .int 0]) g' ∧
      Hq g' P r bA xA yA' ld' S' log' (ExE kr K ker .non) ∧ g'[K + 1]? = some (.lst []) ∧ Post P t Q S' ∧ log'.length ≤ log.length + 800)
    (fun k e g => ∃ (yA : Nat → Nat) (ld : Nat → D) (S : S4) (log2 : List D) (e7 e8 e9 e10 : Option D), e = [some (.ref 2), some (.ref K), some (.int (P : Int)), some (.lst (T.map D.int)), some (.int (pl : Int)), some .non, some (.int 0), e7, e8, e9, e10] ∧
      Hq g P r bA xA yA ld S log2 (ExR kr L K ker [] [] .non letter) ∧ Post P t Q S ∧ log2.length ≤ log.length + 2 * k ∧ k ≤ 201) (rng_of (n := 400) rfl (by decide)) ?_ ?_ ?_
  · exact ⟨yA, ld, S, log, _, _, _, _, rfl, H, B, by omega, by decide⟩
  · rintro k e g hk ⟨yA, ld, S, log2, e7, e8, e9, e10, rfl, H, B, hlg, hk2⟩
    refine ⟨_, rfl, ?_⟩
    simp only [List.set]
    obtain ⟨hpick, hp, hn⟩ := run_pick (g := g) (K := K) (pl := pl) (j := k) (e5 := some .non) (e6 := some (.int 0)) (e8 := e8) (e9 := e9) (e10 := e10) hP0 hP3 hT
    rw [hpick]
    have h1 : ∀ q, (S.lets q).length ≤ 1 := H.O.ll
    cases hs : stp T pl P k with
    | false =>
      obtain ⟨g', yA', ld', S1, S', log', run, H', ll', o1, O1, hS'⟩ := run_other (K := K) (e5 := some .non) (e6 := some (.int 0)) (e10 := e10) H hP0 hP3 hn hp hs h1 (by omega)
      rw [run]
      have B1 := B.oth H.O hp o1
      have B2 : Post P t Q S' := by
        rcases hS' with ⟨_, rfl⟩ | ⟨_, rfl⟩
        · exact B1.oth O1 hp (.inr ⟨.take, rfl, .inl rfl⟩)
        · exact B1
      refine ⟨yA', ld', S', log', _, _, _, _, rfl, H', B2, by omega, ?_⟩
      rcases Nat.lt_or_ge k 201 with h | h
      · omega
      · have : k = 201 := by omega
        subst this
        rw [stp3 (by decide) (by decide)] at hs
        cases hs
    | true =>
      have b0 := meth_e (nm := 47) (tbl := [(6, m_Stack_step)]) (o := vVar 1) (ms := aCons (vVar 0) (aCons (vC (.int 0)) aNil)) (e := [some (.ref 2), some (.ref K), some (.int (P : Int)), some (.lst (T.map D.int)), some (.int (pl : Int)), some .non, some (.int 0), some (.int (k : Int)), some (.int (nk T pl k)), some (.int (pk T pl P k : Int)), e10]) (g := g) (g2 := g) (ds := [.ref 2, .int 0]) rfl H.gK rfl rfl rfl
      obtain ⟨g', hst, H', hK'⟩ := H.step_idle hx
      rw [hst] at b0
      have en := ended_yes H' hK' (o := vVar 1) (e := [some (.ref 2), some (.ref K), some (.int (P : Int)), some (.lst (T.map D.int)), some (.int (pl : Int)), some .non, some (.int 0), some (.int (k : Int)), some (.int (nk T pl k)), some (.int (pk T pl P k : Int)), some (.bl false)]) rfl
      have run : c__law_run_4 [some (.ref 2), some (.ref K), some (.int (P : Int)), some (.lst (T.map D.int)), some (.int (pl : Int)), some .non, some (.int 0), some (.int (k : Int)), some (.int (nk T pl k)), some (.int (pk T pl P k : Int)), e10] g = .rt (.tup [.non, .int 0]) g' := by
        unfold c__law_run_4
        rw [sIf_e, run_test (T := T) (pl := pl) (P := P) (j := k) (n := 0) rfl rfl, hs]
        unfold c__law_run_3 c__law_run_2
        simp only [sBind, cond_true, sSeq_e, sAsg_e, b0, List.set, sIf_e, tTru_e, vVar_e, List.getElem?_cons_zero, List.getElem?_cons_succ, Res.bind, truD_bl, cond_false, sNx_e, en, sRet_e, vTup_s, aCons_e, aNil_e, List.length_cons, List.length_nil, okL_s (show 0 + 1 + 1 < 1000 by decide)]
      rw [run]
      exact ⟨g', _, _, S, log2, rfl, H', hK', B, by omega⟩
  · rintro e g ⟨yA, ld, S, log2, e7, e8, e9, e10, rfl, H, B, hlg, hk2⟩
    omega

end
/-! ### a turn -/
theorem Hq.weak {g : G} {P r : Nat} {bA xA yA : Nat → Nat} {ld : Nat → D} {S : S4} {log : List D} {Ex Ex' : List (Nat × Ob)} (H : Hq g P r bA xA yA ld S log Ex) (h : ∀ z ∈ Ex', z ∈ Ex) : Hq g P r bA xA yA ld S log Ex' := ⟨H.M, H.X, H.O, fun z hz => H.ex z (h z hz)⟩
/-- an address that nothing leads to -/
def Fre (P r : Nat) (bA xA yA : Nat → Nat) (ld : Nat → D) (Ex : List (Nat × Ob)) (l : Nat) : Prop := 3 < l ∧ l ≠ r ∧ (∀ p, p < P → l ≠ bA p ∧ l ≠ xA p ∧ l ≠ yA p ∧ ld p ≠ .ref l) ∧ ∀ z ∈ Ex, z.1 ≠ l
section
variable {g : G} {P r : Nat} {bA xA yA : Nat → Nat} {ld : Nat → D} {S : S4} {log : List D} {Ex : List (Nat × Ob)}
theorem Hq.fre (H : Hq g P r bA xA yA ld S log Ex) : Fre P r bA xA yA ld Ex g.length := by
  have lt : ∀ {i : Nat} {o : Ob}, g[i]? = some o → i ≠ g.length := fun e => by
    have := (List.getElem?_eq_some_iff.mp e).1
    omega
  have h3 := (List.getElem?_eq_some_iff.mp H.M.ho).1
  refine ⟨by omega, Ne.symm (lt H.M.ro), fun p hp => ⟨Ne.symm (lt (H.X.b p hp)), Ne.symm (lt (H.X.x p hp)), Ne.symm (lt (H.X.y p hp)), fun e => ?_⟩, fun z hz => lt (H.ex z hz).1⟩
  have hl := H.X.l p hp
  rw [e] at hl
  unfold lsD at hl
  rw [snap_ref, List.getElem?_eq_none (Nat.le_refl _)] at hl
  cases hl
theorem Hq.at_ (H : Hq g P r bA xA yA ld S log Ex) {l : Nat} (hf : Fre P r bA xA yA ld Ex l) {o : Ob} : Hq (g.set l o) P r bA xA yA ld S log Ex := by
  obtain ⟨f1, f2, f3, f4⟩ := hf
  have t := H.X
  refine ⟨H.M.out (by omega) (by omega) (by omega) f2, ⟨fun p hp => ?_, fun p hp => lsD_le2 (t.l p hp) fun a ha => ?_, fun p hp => ?_, fun p hp => ?_, t.bi, t.xi, t.yi, t.ns, t.ls, t.rl, t.ll⟩, H.O, fun z hz => ?_⟩
  · rw [List.getElem?_set_ne (f3 p hp).1]
    exact t.b p hp
  · rw [List.getElem?_set_ne (fun e => (f3 p hp).2.2.2 (by rw [ha, e]))]
  · rw [List.getElem?_set_ne (f3 p hp).2.1]
    exact t.x p hp
  · rw [List.getElem?_set_ne (f3 p hp).2.2.1]
    exact t.y p hp
  · obtain ⟨e, o, a, b⟩ := H.ex z hz
    exact ⟨by rw [List.getElem?_set_ne (Ne.symm (f4 z hz))]; exact e, o, a, b⟩
theorem Hq.word (H : Hq g P r bA xA yA ld S log Ex) {p : Nat} (hp : p < P) {a b : Int} {w : Wd} (hab : pgOk a b) (hw : w.ok4) (hl : log.length < 99999) :
    ∃ g' y, m_Memory_access [.ref 2, .int (p : Int), .tup [.str 10, .int (1 + (P : Int) + 8 * a + b), w.d]] g = .ok (.tup [.non, .int ((log ++ [y]).length : Int)]) g' ∧ Hq g' P r bA xA yA ld (doR P S p (.word a b w)).2 (log ++ [y]) Ex ∧ ∀ i, i ≠ 2 → i ≠ 3 → i ≠ r → g'[i]? = g[i]? := by
  obtain ⟨⟨a0, a1⟩, b0, b1⟩ := hab
  have hc := H.O.len
  obtain ⟨g', ha, M1, f1⟩ := H.M.acc (p := (p : Int)) (c := 1 + (P : Int) + 8 * a + b) (k := 10) (rest := [w.d]) (by omega) (by omega) (.inr (.inl ⟨rfl, _, rfl, wd_pud hw⟩)) (by omega) (by omega) H.O.pv hl
  have hlen : ((log ++ [D.tup [.int ((log.length : Int) + 1), .int (p : Int), cellRq 10 (1 + (P : Int) + 8 * a + b) [w.d]]]).length : Int) = (log.length : Int) + 1 := by simp
  refine ⟨g', _, by rw [hlen]; exact ha, ⟨by rw [hlen]; exact M1, ?_, (do_ok4 (R := .word a b w) H.O ⟨⟨⟨a0, a1⟩, b0, b1⟩, hw⟩ hp).1.low H.O.ll, fun z hz => ?_⟩, f1⟩
  · exact H.X.fr fun i hi n1 n2 => f1 i (fun e => n2 (memF 1 3 r (log.length : Int) (refsF P bA) (refsF P xA)) (by rw [e]; exact H.M.mo)) (fun e => n1 (by rw [e]; exact .inl rfl)) (fun e => n1 (by rw [e]; exact .inr rfl))
  · obtain ⟨e, o, a, b⟩ := H.ex z hz
    refine ⟨?_, o, a, b⟩
    rw [f1 z.1 (by omega) (by omega) b]
    exact e
theorem lawword_ok {n : Int} (h0 : 0 ≤ n) : ∃ w : Wd, w.ok4 ∧ m__law_word [.int n] g = .ok w.d g := by
  have m4 : modD g (.int n) (.int 4) = some (.int (n % 4)) := modD_e (by decide)
  have d4 : divD g (.int n) (.int 4) = some (.int (n / 4)) := divD_e (by decide) (by decide)
  have m4' : modD g (.int (n / 4)) (.int 4) = some (.int (n / 4 % 4)) := modD_e (by decide)
  have k : m__law_word [.int n] g = endM (b__law_word [some (.int n)] g) := rfl
  have f0 : 0 ≤ n % 4 ∧ n % 4 < 4 := by omega
  have cases4 : n / 4 % 4 = 0 ∨ n / 4 % 4 = 1 ∨ n / 4 % 4 = 2 ∨ n / 4 % 4 = 3 := by omega
  unfold b__law_word at k
  simp only [sRet_e, vOp_e, vC_e, vVar_e, List.getElem?_cons_zero, Res.bind, m4, d4, m4', oR_some, vTup_s, vLst_s, aCons_e, aNil_e, List.length_cons, List.length_nil, okL_s (show 0 + 1 + 1 + 1 < 1000 by decide), okL_s (show 0 + 1 + 1 < 1000 by decide), okL_s (show 0 + 1 + 1 + 1 + 1 < 1000 by decide), ixD_lst] at k
  rcases cases4 with h | h | h | h
  · rw [h, at0] at k
    exact ⟨.frame (n % 4) true, f0, k⟩
  · rw [h, at1] at k
    exact ⟨.frame (n % 4) false, f0, k⟩
  · rw [h, at2] at k
    exact ⟨.non, trivial, k⟩
  · rw [h, at3] at k
    exact ⟨.other [.int 1] 11, ⟨by decide, fun d hd => by rw [List.mem_singleton.mp hd]; rfl⟩, k⟩
theorem ack_word {P : Nat} {S : S4} {p q : Nat} {a b t : Int} {w : Wd} (hab : pgOk a b) (hq : q < P) (h : Ack S q t) : Ack (doR P S p (.word a b w)).2 q t := by
  obtain ⟨⟨a0, a1⟩, b0, b1⟩ := hab
  show (S.held.set (1 + (P : Int) + 8 * a + b).toNat w.d)[1 + q]? = _
  rw [List.getElem?_set_ne (by omega)]
  exact h
theorem post_nil {P : Nat} {t : Int} {S : S4} (h1 : ∀ q, q < P → S.lets q = []) (h2 : ∀ q, 1 ≤ q → q < P → Ack S q t) : Post P t [] S := ⟨h1, (fun q _ r _ h => absurd h List.not_mem_nil), h2⟩
theorem inD_pair {l : Nat} {Q : List (Int × Int)} (h : g[l]? = some (.lst (Q.map pairD))) (a b : Int) : inD true g (.tup [.int a, .int b]) (.ref l) = some (.bl ((((Q.map pairD).any fun z => deq z (.tup [.int a, .int b])) != true))) := by
  unfold inD sqD
  simp only [lsD_ref h, pud_pairs, pud_tup, List.all_cons, List.all_nil, pud_int, Bool.and_self]
/-- the words that are changed -/
theorem change_ok {T : List Int} {t : Int} {k : Nat} (hP0 : 0 < P) (hT : Nice T) (H : Hq g P r bA xA yA ld S log Ex) (B : Post P t [] S) (hl : log.length < 99000) :
    ∃ (g' : Y.G) (S' : S4) (log' : List D) (Q : List (Int × Int)), m__law_change [.ref 2, .lst (T.map D.int), .int (k : Int)] g = .ok (.lst (Q.map pairD)) g' ∧ Hq g' P r bA xA yA ld S' log' Ex ∧ Post P t [] S' ∧ Q.length ≤ 4 ∧ (∀ z ∈ Q, pgOk z.1 z.2) ∧ log'.length ≤ log.length + 4 := by
  suffices h : ∃ (g' : Y.G) (S' : S4) (log' : List D) (Q : List (Int × Int)), b__law_change [some (.ref 2), some (.lst (T.map D.int)), some (.int (k : Int)), none, none, none, none] g = .rt (.lst (Q.map pairD)) g' ∧ Hq g' P r bA xA yA ld S' log' Ex ∧ Post P t [] S' ∧ Q.length ≤ 4 ∧ (∀ z ∈ Q, pgOk z.1 z.2) ∧ log'.length ≤ log.length + 4 by
    obtain ⟨g', S', log', Q, h, h2⟩ := h
    refine ⟨g', S', log', Q, ?_, h2⟩
    show endM (b__law_change [some (.ref 2), some (.lst (T.map D.int)), some (.int (k : Int)), none, none, none, none] g) = _
    rw [h]
    rfl
  have hf := H.fre
  have H0 : Hq (g ++ [Ob.lst []]) P r bA xA yA ld S log Ex := H.app fun z hz => .inl hz
  have l0 : (g ++ [Ob.lst []])[g.length]? = some (.lst (([] : List (Int × Int)).map pairD)) := by simp
  have v : vLstO aNil [some (.ref 2), some (.lst (T.map D.int)), some (.int (k : Int)), none, none, none, none] g = .ok (.ref g.length) (g ++ [.lst []]) := rfl
  generalize g.length = l at *
  generalize g ++ [Ob.lst []] = g0 at *
  unfold b__law_change c__law_change_5
  rw [sSeq_e]
  simp only [sAsg_e, v, sBind, List.set]
  obtain ⟨t0, t1⟩ := tk_nice hT k
  have a0 : ∀ g : G, m__law_at [.lst (T.map D.int), .int (k : Int)] g = .ok (.int (tk T k)) g := fun g => at_ok T k g
  have m5 : ∀ g : G, modD g (.int (tk T k)) (.int 5) = some (.int (tk T k % 5)) := fun g => modD_e (by decide)
  obtain ⟨n, hn⟩ := Int.eq_ofNat_of_zero_le (show 0 ≤ tk T k % 5 by omega)
  have hn4 : n ≤ 4 := by omega
  refine seq_rng (n := n) (Q := fun R => ∃ (g' : Y.G) (S' : S4) (log' : List D) (Q : List (Int × Int)), R = .rt (.lst (Q.map pairD)) g' ∧ Hq g' P r bA xA yA ld S' log' Ex ∧ Post P t [] S' ∧ Q.length ≤ 4 ∧ (∀ z ∈ Q, pgOk z.1 z.2) ∧ log'.length ≤ log.length + 4)
    (fun j e g => ∃ (S' : S4) (log' : List D) (Q : List (Int × Int)) (e4 e5 e6 : Option D), e = [some (.ref 2), some (.lst (T.map D.int)), some (.int (k : Int)), some (.ref l), e4, e5, e6] ∧ Hq g P r bA xA yA ld S' log' Ex ∧ g[l]? = some (.lst ((Q : List (Int × Int)).map pairD)) ∧ Post P t [] S' ∧ Q.length ≤ j ∧ (∀ z ∈ Q, pgOk z.1 z.2) ∧ log'.length ≤ log.length + j)
    (rng_of (n := n) (by simp [a0, m5, hn]) (by omega)) ?_ ?_ ?_
  · exact ⟨S, log, [], _, _, _, rfl, H0, l0, B, Nat.le_refl _, (fun z hz => absurd hz List.not_mem_nil), by omega⟩
  · rintro j e g hj ⟨S', log', Q, e4, e5, e6, rfl, H', hg, B', hQ, hQ2, hl'⟩
    refine ⟨_, rfl, ?_⟩
    simp only [List.set]
    have a1 : m__law_at [.lst (T.map D.int), .int ((k + 1 + j : Nat) : Int)] g = .ok (.int (tk T (k + 1 + j))) g := at_ok T (k + 1 + j) g
    rw [show ((k + 1 + j : Nat) : Int) = (k : Int) + 1 + (j : Int) by omega] at a1
    obtain ⟨x0, x1⟩ := tk_nice hT (k + 1 + j)
    generalize tk T (k + 1 + j) = x at *
    have m2 : modD g (.int x) (.int 2) = some (.int (x % 2)) := modD_e (by decide)
    have d2 : divD g (.int x) (.int 2) = some (.int (x / 2)) := divD_e (by decide) (by decide)
    have m4 : modD g (.int (x / 2)) (.int 4) = some (.int (x / 2 % 4)) := modD_e (by decide)
    have hab : pgOk (x % 2) (x / 2 % 4) := by unfold pgOk; omega
    generalize x % 2 = a at *
    generalize x / 2 % 4 = b at *
    have ind := inD_pair hg a b
    unfold c__law_change_4 c__law_change_3
    rw [sSeq_e]
    simp only [sAsg_e, vCall_e, aCons_e, aNil_e, vOp_e, vVar_e, vC_e, List.getElem?_cons_zero, List.getElem?_cons_succ, Res.bind, addD_int, oR_some, a1, sBind, List.set]
    rw [sSeq_e]
    simp only [sAsg_e, vTup_s, aCons_e, aNil_e, vOp_e, vVar_e, vC_e, List.getElem?_cons_zero, List.getElem?_cons_succ, Res.bind, m2, d2, m4, oR_some, List.length_cons, List.length_nil, okL_s (show 0 + 1 + 1 < 1000 by decide), sBind, List.set]
    unfold c__law_change_2
    cases hin : ((Q.map pairD).any fun z => deq z (.tup [.int a, .int b])) with
    | true =>
      rw [hin] at ind
      simp only [sIf_e, tOf_e, vOp_e, vVar_e, List.getElem?_cons_zero, List.getElem?_cons_succ, Res.bind, ind, oR_some, bR_bl, sBind, bne_self_eq_false, cond_false, sNx_e]
      exact ⟨S', log', Q, _, _, _, rfl, H', hg, B', by omega, hQ2, by omega⟩
    | false =>
      rw [hin] at ind
      have ap := app_e (o := vVar 3) (m := vVar 6) (e := [some (.ref 2), some (.lst (T.map D.int)), some (.int (k : Int)), some (.ref l), some (.int (j : Int)), some (.int x), some (.tup [.int a, .int b])]) (g := g) (g1 := g) (g2 := g) (l := l) (y := .tup [.int a, .int b]) rfl hg rfl hg (by simp; omega)
      have e1 : Q.map pairD ++ [D.tup [.int a, .int b]] = (Q ++ [(a, b)]).map pairD := by rw [List.map_append]; rfl
      rw [e1] at ap
      have H1 := H'.at_ hf (o := .lst ((Q ++ [(a, b)]).map pairD))
      have hg1 : (g.set l (.lst ((Q ++ [(a, b)]).map pairD)))[l]? = some (.lst ((Q ++ [(a, b)]).map pairD)) := List.getElem?_set_self (List.getElem?_eq_some_iff.mp hg).1
      generalize g.set l (.lst ((Q ++ [(a, b)]).map pairD)) = g1 at *
      have d8 : divD g1 (.int x) (.int 8) = some (.int (x / 8)) := divD_e (by decide) (by decide)
      obtain ⟨w, w1, w2⟩ := lawword_ok (g := g1) (n := x / 8) (by omega)
      obtain ⟨g2, y, ha, H2, fr⟩ := H1.word (p := 0) hP0 hab w1 (by omega)
      have sm := H1.M.smeth (nm := 25) (tbl := [(4, m_Sizes_word)]) (o := vFld [9, 10, 5] 2 (vVar 0)) (ms := aCons (vOp ixD (vVar 6) (vC (.int 0))) (aCons (vOp ixD (vVar 6) (vC (.int 1))) aNil)) (e := [some (.ref 2), some (.lst (T.map D.int)), some (.int (k : Int)), some (.ref l), some (.int (j : Int)), some (.int x), some (.tup [.int a, .int b])]) (g2 := g1) (ds := [.int a, .int b]) (by simp [H1.M.sizes_]) rfl rfl (by simp [at0, at1])
      rw [H1.M.word_ok] at sm
      have ac := H1.M.meth (nm := 31) (tbl := [(5, m_Memory_access)]) (o := vVar 0) (ms := aCons (vC (.int 0)) (aCons (vTup (aCons (vC (.str 10)) (aCons (vMeth 25 [(4, m_Sizes_word)] (vFld [9, 10, 5] 2 (vVar 0)) (aCons (vOp ixD (vVar 6) (vC (.int 0))) (aCons (vOp ixD (vVar 6) (vC (.int 1))) aNil))) (aCons (vCall m__law_word (aCons (vOp divD (vVar 5) (vC (.int 8))) aNil)) aNil)))) aNil)) (e := [some (.ref 2), some (.lst (T.map D.int)), some (.int (k : Int)), some (.ref l), some (.int (j : Int)), some (.int x), some (.tup [.int a, .int b])]) (g2 := g1) (ds := [.int 0, .tup [.str 10, .int (1 + (P : Int) + 8 * a + b), w.d]]) rfl rfl rfl (by simp only [aCons_e, aNil_e, vC_e, vTup_s, Res.bind, sm, vCall_e, vOp_e, vVar_e, List.getElem?_cons_zero, List.getElem?_cons_succ, d8, oR_some, w2, List.length_cons, List.length_nil, okL_s (show 0 + 1 + 1 + 1 < 1000 by decide)])
      rw [show (0 : Int) = ((0 : Nat) : Int) from rfl, ha] at ac
      simp only [Int.natCast_zero] at ac
      simp only [sIf_e, tOf_e, vOp_e, vVar_e, List.getElem?_cons_zero, List.getElem?_cons_succ, Res.bind, ind, oR_some, bR_bl, sBind, (show (false != true) = true from rfl), cond_true, sSeq_e, sDrop_e, ap]
      rw [ac]
      refine ⟨_, _, Q ++ [(a, b)], _, _, _, rfl, H2, ?_, post_nil B'.l (fun q q1 q2 => ack_word hab q2 (B'.ak q q1 q2)), by simp; omega, fun z hz => ?_, by simp; omega⟩
      · rw [fr l (by have := hf.1; omega) (by have := hf.1; omega) hf.2.1]
        exact hg1
      · rcases List.mem_append.mp hz with h | h
        · exact hQ2 z h
        · rw [List.mem_singleton.mp h]
          exact hab
  · rintro e g ⟨S', log', Q, e4, e5, e6, rfl, H', hg, B', hQ, hQ2, hl'⟩
    refine ⟨g.set l .dead, S', log', Q, ?_, H'.at_ hf, B', by omega, hQ2, by omega⟩
    unfold c__law_change_1 vFrz
    simp only [sRet_e, vVar_e, List.getElem?_cons_zero, List.getElem?_cons_succ, Res.bind, frzD, hg, sBind]
end

/-! ### the machine of an invalidation -/
def kerO (a b c d : Nat) (t : Int) : Ob := .ins 9 [(61, .ref 2), (2, .ref 1), (64, .ref a), (5, .ref b), (6, .ref c), (63, .ref d), (43, .int t)]
theorem own_ker {a b c d : Nat} {t : Int} : Own (kerO a b c d t) := .inl ⟨_, _, rfl, .inr (.inl rfl)⟩
section
variable {g : G} {P r kr L a b c d : Nat} {bA xA yA : Nat → Nat} {ld : Nat → D} {S : S4} {log : List D} {t : Int} {fs : List (Nat × D)}
def Ex2 (kr : Nat) (ker : Ob) (L : Nat) (fs : List (Nat × D)) : List (Nat × Ob) := [(kr, ker), (L, .ins 10 fs)]
theorem Hq.setL {ker : Ob} {g1 : G} (H : Hq g1 P r bA xA yA ld S log (Ex2 kr ker L fs)) (hkL : kr ≠ L) {cs : List Nat} {n : Nat} {m : EM} {e : En} {y : D} (hm : m e g = .ok y g1) (he : e[0]? = some (some (.ref L))) (hc : cs.contains 10 = true) (hl : fs.length < 1000) :
    ∃ g', sSetA cs n (vVar 0) m e g = .nx e g' ∧ Hq g' P r bA xA yA ld S log (Ex2 kr ker L (putA n y fs)) := by
  have gL := (H.ex (L, .ins 10 fs) (.tail _ (.head _))).1
  exact ⟨_, setA_e hm (by simp [he]) gL hc hl, H.set (.tail _ (.head _)) (.inl ⟨_, _, rfl, .inr (.inr rfl)⟩) fun z hz => by
    simp only [Ex2, List.mem_cons, List.not_mem_nil, or_false] at hz
    rcases hz with rfl | rfl
    · exact .inr ⟨.head _, hkL⟩
    · exact .inl rfl⟩
theorem Hq.drop {Ex : List (Nat × Ob)} (H : Hq g P r bA xA yA ld S log Ex) {p : Nat} (hp : p < P) (Q : List (Int × Int)) :
    ∃ g' ld', m_Buffer_drop [.ref (bA p), .lst (Q.map pairD)] g = .ok .non g' ∧ Hq g' P r bA xA yA ld' { S with rows := fset S.rows p ((S.rows p).filter (keepB Q)) } log Ex := by
  have dr := drop_ok (P := Q) (tu := false) ⟨H.X.b p hp, H.X.l p hp⟩ (by have := H.X.rl p hp; omega)
  have lt : ∀ {i : Nat} {o : Ob}, g[i]? = some o → i < g.length := fun e => (List.getElem?_eq_some_iff.mp e).1
  have hbl := lt (H.X.b p hp)
  obtain ⟨b1, b2, b3, b4⟩ := ins_ne H.M H.X (.inl rfl) (.inr rfl) (H.X.b p hp) (.inl rfl)
  have lf := List.length_filter_le (keepB Q) (S.rows p)
  have f3 : ∀ i, i < g.length → i ≠ bA p → ((g ++ [Ob.lst (((S.rows p).filter (keepB Q)).map rowD)]).set (bA p) (.ins 2 [(0, .ref g.length)]))[i]? = g[i]? := fun i hi e => by
    rw [List.getElem?_set_ne (Ne.symm e), List.getElem?_append_left hi]
  refine ⟨_, fset ld p (.ref g.length), dr, H.M.le (f3 2 (lt H.M.mo) (Ne.symm b1)) (f3 1 (lt H.M.so) (Ne.symm b2)) (f3 3 (lt H.M.ho) (Ne.symm b3)) (f3 r (lt H.M.ro) (Ne.symm b4)), ?_, ⟨H.O.len, H.O.pv, H.O.wd, fun q x hx => ?_, fun q => ?_, H.O.ll⟩, fun z hz => ?_⟩
  · refine H.X.buf hp ?_ ?_ f3 (fun x ha => ?_) (by have := H.X.rl p hp; omega)
    · rw [List.getElem?_set_self (by simp; omega)]
    · refine lsD_ref ?_
      rw [List.getElem?_set_ne (by omega), get_snoc']
    · cases ha
      refine ⟨fun e => by have := H.stl _ e; omega, fun q hq e => ?_⟩
      have := lt (H.X.y q hq)
      omega
  · have hx : x ∈ fset S.rows p ((S.rows p).filter (keepB Q)) q := hx
    by_cases e : q = p
    · subst e
      rw [fset_same] at hx
      exact H.O.fr q x (List.mem_filter.mp hx).1
    · rw [fset_ne e] at hx
      exact H.O.fr q x hx
  · show (fset S.rows p ((S.rows p).filter (keepB Q)) q).length ≤ 2
    by_cases e : q = p
    · subst e
      rw [fset_same]
      have := H.O.rl q
      omega
    · rw [fset_ne e]
      exact H.O.rl q
  · obtain ⟨e, o, h1, h2⟩ := H.ex z hz
    exact ⟨by rw [f3 z.1 (lt e) (H.off hz hp).1]; exact e, o, h1, h2⟩
theorem next_ticket (H : Hq g P r bA xA yA ld S log (Ex2 kr (kerO a b c d t) L fs)) (hkL : kr ≠ L) {o : EM} {e : En} (ho : o e g = .ok (.ref kr) g) :
    ∃ g', vMeth 60 [(9, m_Kernel_next_ticket)] o aNil e g = .ok (.int (t + 1)) g' ∧ Hq g' P r bA xA yA ld S log (Ex2 kr (kerO a b c d (t + 1)) L fs) := by
  have gk := (H.ex (kr, kerO a b c d t) (.head _)).1
  have lk := (List.getElem?_eq_some_iff.mp gk).1
  have H1 := H.set (j := kr) (o := kerO a b c d t) (o' := kerO a b c d (t + 1)) (.head _) own_ker (Ex' := Ex2 kr (kerO a b c d (t + 1)) L fs) fun z hz => by
    simp only [Ex2, List.mem_cons, List.not_mem_nil, or_false] at hz
    rcases hz with rfl | rfl
    · exact .inl rfl
    · exact .inr ⟨.tail _ (.head _), Ne.symm hkL⟩
  refine ⟨_, ?_, H1⟩
  have m := meth_e (nm := 60) (tbl := [(9, m_Kernel_next_ticket)]) (o := o) (ms := aNil) (e := e) (g2 := g) (ds := []) ho gk rfl rfl rfl
  rw [m]
  show endM (b_Kernel_next_ticket [some (.ref kr)] g) = _
  have gk1 := (H1.ex (kr, kerO a b c d (t + 1)) (.head _)).1
  have f1 : fldD [9] 43 (g.set kr (kerO a b c d (t + 1))) (.ref kr) = some (.int (t + 1)) := fldD_e gk1 rfl rfl
  have s : sAugA [9] 43 (vVar 0) (vC (.int 1)) [some (.ref kr)] g = .nx [some (.ref kr)] (g.set kr (kerO a b c d (t + 1))) := by
    unfold sAugA
    simp only [vVar_e, List.getElem?_cons_zero, sBind, gk, kerO, vC_e]
    rfl
  unfold b_Kernel_next_ticket
  rw [sSeq_e, s]
  simp only [sRet_e, vUn_e, vVar_e, List.getElem?_cons_zero, Res.bind, f1, oR_some, sBind, endM_rt]
theorem filt0 : ∀ P, P ≤ 3 → (List.range P).filter (fun i => !(i == 0)) = (List.range P).drop 1 := by decide
def dropQ (S : S4) (Q : List (Int × Int)) : S4 := if Q = [] then S else { S with rows := fset S.rows 0 ((S.rows 0).filter (keepB Q)) }
theorem mkInv {Q : List (Int × Int)} (hP0 : 0 < P) (hP : P ≤ 3) (H : Hq g P r bA xA yA ld S log [(kr, kerO a b c d t)]) {ms : AM} {e : En} (hms : ms e g = .ok [.ref kr, .int 0, .lst (Q.map pairD)] g) (hQ : Q.length ≤ 4) :
    ∃ g' ld', vMake 10 m_Invalidating___init__ ms e g = .ok (.ref g.length) g' ∧ kr ≠ g.length ∧ kr < g'.length ∧ g.length < g'.length ∧
      ((Q = [] ∧ Hq g' P r bA xA yA ld' S log [(kr, kerO a b c d t), (g.length, invO [] [] .non .non)]) ∨
       (Q ≠ [] ∧ Hq g' P r bA xA yA ld' (dropQ S Q) log [(kr, kerO a b c d (t + 1)), (g.length, invO ((List.range P).drop 1) ((List.range P).drop 1) .non (letD (t + 1, Q)))])) := by
  have gk0 := (H.ex (kr, kerO a b c d t) (.head _)).1
  have hkL : kr ≠ g.length := by
    have := (List.getElem?_eq_some_iff.mp gk0).1
    omega
  suffices h : ∃ g' ld', m_Invalidating___init__ [.ref g.length, .ref kr, .int 0, .lst (Q.map pairD)] (g ++ [.ins 10 []]) = .ok .non g' ∧
      ((Q = [] ∧ Hq g' P r bA xA yA ld' S log [(kr, kerO a b c d t), (g.length, invO [] [] .non .non)]) ∨
       (Q ≠ [] ∧ Hq g' P r bA xA yA ld' (dropQ S Q) log [(kr, kerO a b c d (t + 1)), (g.length, invO ((List.range P).drop 1) ((List.range P).drop 1) .non (letD (t + 1, Q)))])) by
    obtain ⟨g', ld', h, h2⟩ := h
    refine ⟨g', ld', make_e hms h, hkL, ?_, ?_, h2⟩
    · rcases h2 with ⟨_, h2⟩ | ⟨_, h2⟩ <;> exact (List.getElem?_eq_some_iff.mp (h2.ex _ (.head _)).1).1
    · rcases h2 with ⟨_, h2⟩ | ⟨_, h2⟩ <;> exact (List.getElem?_eq_some_iff.mp (h2.ex _ (.tail _ (.head _))).1).1
  have H0 : Hq (g ++ [Ob.ins 10 []]) P r bA xA yA ld S log (Ex2 kr (kerO a b c d t) g.length []) := H.app fun z hz => by
    simp only [Ex2, List.mem_cons, List.not_mem_nil, or_false] at hz
    rcases hz with rfl | rfl
    · exact .inl (.head _)
    · exact .inr ⟨Nat.le_refl _, get_snoc', .inl ⟨_, _, rfl, .inr (.inr rfl)⟩⟩
  generalize g.length = L at *
  generalize g ++ [Ob.ins 10 []] = g0 at *
  have fK : ∀ {g : G} {ld : Nat → D} {S : S4} {t : Int} {fs : List (Nat × D)}, Hq g P r bA xA yA ld S log (Ex2 kr (kerO a b c d t) L fs) → fldD [9, 10, 5] 2 g (.ref kr) = some (.ref 1) ∧ fldD [9] 61 g (.ref kr) = some (.ref 2) := fun H => by
    have gk := (H.ex _ (.head _)).1
    exact ⟨fldD_e gk rfl rfl, fldD_e gk rfl rfl⟩
  obtain ⟨g1, s1, H1⟩ := H0.setL (g := g0) hkL (cs := [9, 10, 5]) (n := 2) (m := vFld [9, 10, 5] 2 (vVar 1)) (e := [some (.ref L), some (.ref kr), some (.int 0), some (.lst (Q.map pairD)), none]) (y := .ref 1) (by simp [(fK H0).1]) rfl rfl (by simp)
  obtain ⟨g2, s2, H2⟩ := H1.setL (g := g1) hkL (cs := [10]) (n := 51) (m := vLst aNil) (e := [some (.ref L), some (.ref kr), some (.int 0), some (.lst (Q.map pairD)), none]) (y := .lst []) rfl rfl rfl (by simp [putA])
  obtain ⟨g3, s3, H3⟩ := H2.setL (g := g2) hkL (cs := [10]) (n := 53) (m := vLst aNil) (e := [some (.ref L), some (.ref kr), some (.int 0), some (.lst (Q.map pairD)), none]) (y := .lst []) rfl rfl rfl (by simp [putA])
  obtain ⟨g4, s4, H4⟩ := H3.setL (g := g3) hkL (cs := [10]) (n := 54) (m := vC .non) (e := [some (.ref L), some (.ref kr), some (.int 0), some (.lst (Q.map pairD)), none]) (y := .non) rfl rfl rfl (by simp [putA])
  obtain ⟨g5, s5, H5⟩ := H4.setL (g := g4) hkL (cs := [10]) (n := 52) (m := vC .non) (e := [some (.ref L), some (.ref kr), some (.int 0), some (.lst (Q.map pairD)), none]) (y := .non) rfl rfl rfl (by simp [putA])
  have e5 : putA 52 (.non : D) (putA 54 .non (putA 53 (.lst []) (putA 51 (.lst []) (putA 2 (.ref 1) [])))) = [(2, .ref 1), (51, .lst []), (53, .lst []), (54, .non), (52, .non)] := rfl
  rw [e5] at H5
  have run : m_Invalidating___init__ [.ref L, .ref kr, .int 0, .lst (Q.map pairD)] g0 = endM (c_Invalidating___init___4 [some (.ref L), some (.ref kr), some (.int 0), some (.lst (Q.map pairD)), none] g5) := by
    show endM (b_Invalidating___init__ [some (.ref L), some (.ref kr), some (.int 0), some (.lst (Q.map pairD)), none] g0) = _
    unfold b_Invalidating___init__ c_Invalidating___init___8 c_Invalidating___init___7 c_Invalidating___init___6 c_Invalidating___init___5
    rw [sSeq_e, s1]
    simp only []
    rw [sSeq_e, s2]
    simp only []
    rw [sSeq_e, s3]
    simp only []
    rw [sSeq_e, s4]
    simp only []
    rw [sSeq_e, s5]
  rw [run]
  unfold c_Invalidating___init___4
  by_cases hq : Q = []
  · subst hq
    refine ⟨g5, ld, ?_, .inl ⟨rfl, H5⟩⟩
    simp
  · have tr : truD g5 (.lst (Q.map pairD)) = some true := by
      cases Q with
      | nil => exact absurd rfl hq
      | cons x Q => rfl
    obtain ⟨g6, ld6, dr, H6⟩ := H5.drop hP0 Q
    have dm := meth_e (nm := 23) (tbl := [(2, m_Buffer_drop)]) (o := vOp ixD (vFld [5] 7 (vFld [9] 61 (vVar 1))) (vVar 2)) (ms := aCons (vCB listD (aCons (vVar 3) aNil)) aNil) (e := [some (.ref L), some (.ref kr), some (.int 0), some (.lst (Q.map pairD)), none]) (g := g5) (g2 := g5) (ds := [.lst (Q.map pairD)]) (by
      have := refs_at (g := g5) (f := bA) hP0
      simp only [Int.natCast_zero] at this
      simp [(fK H5).2, H5.M.bufs, this]) (H5.X.b 0 hP0) rfl rfl (by
      have : listD g5 [.lst (Q.map pairD)] = some (.lst (Q.map pairD)) := rfl
      simp [this])
    rw [dr] at dm
    have eD : dropQ S Q = { S with rows := fset S.rows 0 ((S.rows 0).filter (keepB Q)) } := if_neg hq
    rw [← eD] at H6
    generalize dropQ S Q = S6 at *
    obtain ⟨g7, nt, H7⟩ := next_ticket (o := vVar 1) (e := [some (.ref L), some (.ref kr), some (.int 0), some (.lst (Q.map pairD)), none]) H6 hkL rfl
    have tD : tupleD g7 [.lst (Q.map pairD)] = some (.tup (Q.map pairD)) := rfl
    obtain ⟨g8, s8, H8⟩ := H7.setL (g := g6) hkL (cs := [10]) (n := 52) (m := vTup (aCons (vMeth 60 [(9, m_Kernel_next_ticket)] (vVar 1) aNil) (aCons (vCB tupleD (aCons (vVar 3) aNil)) aNil))) (e := [some (.ref L), some (.ref kr), some (.int 0), some (.lst (Q.map pairD)), none]) (y := letD (t + 1, Q)) (by simp [vTup_s, okL_s, nt, tD, letD]) rfl rfl (by simp)
    have gL8 := (H8.ex _ (.tail _ (.head _))).1
    have f8 : fldD [9, 10, 5] 2 g8 (.ref L) = some (.ref 1) := fldD_e gL8 rfl rfl
    have mk : vLc [4] (iRng1 (vFld [4] 4 (vFld [9, 10, 5] 2 (vVar 0)))) (gN 4) (tOf (vOp neD (vVar 4) (vVar 2))) (vVar 4) [some (.ref L), some (.ref kr), some (.int 0), some (.lst (Q.map pairD)), none] g8 = .ok (intsL ((List.range P).drop 1)) g8 := by
      have ir : iRng1 (vFld [4] 4 (vFld [9, 10, 5] 2 (vVar 0))) [some (.ref L), some (.ref kr), some (.int 0), some (.lst (Q.map pairD)), none] g8 = .ok (.vals (rngL 0 P)) g8 := rng_of (n := P) (by simp [f8, H8.M.procs]) (by omega)
      have lc := lcR_rng (gm := gN 4) (t := tOf (vOp neD (vVar 4) (vVar 2))) (m := vVar 4) (e := [some (.ref L), some (.ref kr), some (.int 0), some (.lst (Q.map pairD)), none]) (g := g8) P (fun i => !(i == 0)) (fun i => .int (i : Int)) (by omega) (fun i hi => by
        refine ⟨_, rfl, ?_, fun _ => rfl⟩
        have : ((i : Int) == 0) = (i == 0) := by
          rw [Bool.eq_iff_iff, beq_iff_eq, beq_iff_eq]
          omega
        simp [ne_int, this])
      simp only [vLc_e, ir, Res.bind, wipeE_cons, wipeE_nil, List.set]
      rw [lc, filt0 P hP]
      rfl
    obtain ⟨g9, s9, H9⟩ := H8.setL hkL (cs := [10]) (n := 51) (e := [some (.ref L), some (.ref kr), some (.int 0), some (.lst (Q.map pairD)), none]) mk rfl rfl (by simp [putA])
    have gL9 := (H9.ex _ (.tail _ (.head _))).1
    have f9 : fldD [10] 51 g9 (.ref L) = some (intsL ((List.range P).drop 1)) := fldD_e gL9 rfl rfl
    have lD : listD g9 [intsL ((List.range P).drop 1)] = some (intsL ((List.range P).drop 1)) := rfl
    obtain ⟨ga, sa, Ha⟩ := H9.setL (g := g9) hkL (cs := [10]) (n := 53) (m := vCB listD (aCons (vFld [10] 51 (vVar 0)) aNil)) (e := [some (.ref L), some (.ref kr), some (.int 0), some (.lst (Q.map pairD)), none]) (y := intsL ((List.range P).drop 1)) (by simp only [vCB_e, aCons_e, vUn_e, vVar_e, List.getElem?_cons_zero, Res.bind, f9, oR_some, aNil_e, lD]) rfl rfl (by simp [putA])
    refine ⟨ga, ld6, ?_, .inr ⟨hq, Ha⟩⟩
    unfold c_Invalidating___init___3 c_Invalidating___init___2 c_Invalidating___init___1
    simp only [sIf_e, tTru_e, vVar_e, List.getElem?_cons_zero, List.getElem?_cons_succ, Res.bind, tr, sBind, cond_true, sDrop_e, dm, sSeq_e, s8, s9, sa, endM_nx]
theorem mkStack {ma : EM} {e : En} {g g1 : G} {L : Nat} (hm : ma e g = .ok (.ref L) g1) : vMake 6 m_Stack___init__ (aCons ma aNil) e g = .ok (.ref g1.length) (g1 ++ [stkO g1.length .non, .lst [.ref L]]) := by
  refine make_e (c := 6) (mf := m_Stack___init__) (a := aCons ma aNil) (e := e) (g := g) (g1 := g1) (ds := [.ref L]) (by simp only [aCons_e, hm, Res.bind, aNil_e]) ?_
  show endM (b_Stack___init__ [some (.ref g1.length), some (.ref L)] (g1 ++ [Ob.ins 6 []])) = _
  have l3 : (g1 ++ [Ob.ins 6 []]).length = g1.length + 1 := by simp
  have v : vLstO (aCons (vVar 1) aNil) [some (.ref g1.length), some (.ref L)] (g1 ++ [Ob.ins 6 []]) = .ok (.ref (g1.length + 1)) ((g1 ++ [Ob.ins 6 []]) ++ [.lst [.ref L]]) := by
    rw [← l3]
    rfl
  have x1 : ((g1 ++ [Ob.ins 6 []]) ++ [Ob.lst [.ref L]])[g1.length]? = some (.ins 6 []) := by
    rw [List.append_assoc, List.getElem?_append_right (Nat.le_refl _), Nat.sub_self]
    rfl
  have s1 := setA_e (cs := [6]) (n := 46) (o := vVar 0) (m := vLstO (aCons (vVar 1) aNil)) (e := [some (.ref g1.length), some (.ref L)]) (l := g1.length) (c := 6) (fs := []) v rfl x1 rfl (by simp)
  have e1 : ((g1 ++ [Ob.ins 6 []]) ++ [Ob.lst [.ref L]]).set g1.length (.ins 6 (putA 46 (.ref (g1.length + 1)) [])) = g1 ++ [.ins 6 [(46, .ref (g1.length + 1))], .lst [.ref L]] := by
    rw [List.append_assoc, List.set_append_right _ _ (Nat.le_refl _), Nat.sub_self]
    rfl
  rw [e1] at s1
  have x2 : (g1 ++ [Ob.ins 6 [(46, .ref (g1.length + 1))], .lst [.ref L]])[g1.length]? = some (.ins 6 [(46, .ref (g1.length + 1))]) := by
    rw [List.getElem?_append_right (Nat.le_refl _), Nat.sub_self]
    rfl
  have s2 := setA_e (cs := [6]) (n := 32) (o := vVar 0) (m := vC .non) (e := [some (.ref g1.length), some (.ref L)]) (l := g1.length) (c := 6) (fs := [(46, .ref (g1.length + 1))]) (g := g1 ++ [Ob.ins 6 [(46, .ref (g1.length + 1))], .lst [.ref L]]) (g1 := g1 ++ [Ob.ins 6 [(46, .ref (g1.length + 1))], .lst [.ref L]]) (g2 := g1 ++ [Ob.ins 6 [(46, .ref (g1.length + 1))], .lst [.ref L]]) (y := .non) rfl rfl x2 rfl (by simp)
  have e2 : (g1 ++ [Ob.ins 6 [(46, .ref (g1.length + 1))], .lst [.ref L]]).set g1.length (.ins 6 (putA 32 .non [(46, .ref (g1.length + 1))])) = g1 ++ [stkO g1.length .non, .lst [.ref L]] := by
    rw [List.set_append_right _ _ (Nat.le_refl _), Nat.sub_self]
    rfl
  rw [e2] at s2
  unfold b_Stack___init__
  simp only [sSeq_e, s1, s2]
  rfl
/-- the check of the entries -/
theorem entries_law {Q : List (Int × Int)} {Ex : List (Nat × Ob)} (hP3 : P ≤ 3) (H : Hq g P r bA xA yA ld S log Ex) (B : Post P t Q S) (hQ : ∀ z ∈ Q, pgOk z.1 z.2) :
    ∃ g', m__law_entries [.ref 2, .int (P : Int), .lst (Q.map pairD)] g = .ok (.bl true) g' ∧ Hq g' P r bA xA yA ld S log Ex := by
  suffices h : ∃ g', b__law_entries [some (.ref 2), some (.int (P : Int)), some (.lst (Q.map pairD)), none, none, none] g = .rt (.bl true) g' ∧ Hq g' P r bA xA yA ld S log Ex by
    obtain ⟨g', h, h2⟩ := h
    refine ⟨g', ?_, h2⟩
    show endM (b__law_entries [some (.ref 2), some (.int (P : Int)), some (.lst (Q.map pairD)), none, none, none] g) = _
    rw [h]
    rfl
  unfold b__law_entries
  refine seq_rng (n := P) (Q := fun R => ∃ g', R = .rt (.bl true) g' ∧ Hq g' P r bA xA yA ld S log Ex) (fun j e g => ∃ e3 e4 e5, e = [some (.ref 2), some (.int (P : Int)), some (.lst (Q.map pairD)), e3, e4, e5] ∧ Hq g P r bA xA yA ld S log Ex) (rng_of (n := P) rfl (by omega)) ⟨_, _, _, rfl, H⟩ ?_ ?_
  · rintro j e g hj ⟨e3, e4, e5, rfl, H⟩
    refine ⟨_, rfl, ?_⟩
    simp only [List.set]
    have lm := meth_e (nm := 41) (tbl := [(3, m_Box_letters)]) (o := vOp ixD (vFld [5] 8 (vVar 0)) (vVar 3)) (ms := aNil) (e := [some (.ref 2), some (.int (P : Int)), some (.lst (Q.map pairD)), some (.int (j : Int)), e4, e5]) (g := g) (g2 := g) (ds := []) (by simp [H.M.boxs, refs_at hj]) (H.X.x j hj) rfl rfl rfl
    rw [letters_ok (H.X.x j hj) (H.X.y j hj), B.l j hj] at lm
    have ne1 := ne_same (g := g ++ [.lst (([] : List Lt).map letD)]) (x := .ref g.length) (y := .lst []) (d := .lst []) (snap_of (lsD_ref get_snoc')) rfl rfl
    have H1 : Hq (g ++ [Ob.lst (([] : List Lt).map letD)]) P r bA xA yA ld S log Ex := H.app fun z hz => .inl hz
    generalize g ++ [Ob.lst (([] : List Lt).map letD)] = g1 at *
    have em := meth_e (nm := 42) (tbl := [(2, m_Buffer_entries)]) (o := vOp ixD (vFld [5] 7 (vVar 0)) (vVar 3)) (ms := aNil) (e := [some (.ref 2), some (.int (P : Int)), some (.lst (Q.map pairD)), some (.int (j : Int)), e4, e5]) (g := g1) (g2 := g1) (ds := []) (by simp [H1.M.bufs, refs_at hj]) (H1.X.b j hj) rfl rfl rfl
    rw [entries_ok ⟨H1.X.b j hj, H1.X.l j hj⟩] at em
    have H2 : Hq (g1 ++ [Ob.lst ((S.rows j).map rowD)]) P r bA xA yA ld S log Ex := H1.app fun z hz => .inl hz
    have sc : ∃ s, iLst (vMeth 42 [(2, m_Buffer_entries)] (vOp ixD (vFld [5] 7 (vVar 0)) (vVar 3)) aNil) [some (.ref 2), some (.int (P : Int)), some (.lst (Q.map pairD)), some (.int (j : Int)), e4, e5] g1 = .ok s (g1 ++ [Ob.lst ((S.rows j).map rowD)]) ∧ srcL (g1 ++ [Ob.lst ((S.rows j).map rowD)]) s = some ((S.rows j).map rowD) := by
      refine ⟨.obj g1.length, ?_, ?_⟩
      · unfold iLst
        rw [em]
        simp only [Res.bind, get_snoc']
      · unfold srcL
        simp only [get_snoc']
    obtain ⟨s, hs, hx⟩ := sc
    generalize g1 ++ [Ob.lst ((S.rows j).map rowD)] = g2 at *
    unfold c__law_entries_1
    have nl : vLst aNil [some (.ref 2), some (.int (P : Int)), some (.lst (Q.map pairD)), some (.int (j : Int)), e4, e5] g1 = .ok (.lst []) g1 := rfl
    simp only [sSeq_e, sIf_e, tOf_e, vOp_e, lm, Res.bind, nl, ne1, oR_some, bR_bl, sBind, cond_false, sNx_e, sFor_e, hs]
    refine runS_pure (Q := fun R => StepOK R (fun e g => ∃ e3 e4 e5, e = [some (.ref 2), some (.int (P : Int)), some (.lst (Q.map pairD)), e3, e4, e5] ∧ Hq g P r bA xA yA ld S log Ex) _) hx (fun xs e => ∃ (R : List Row) (e4 e5 : Option D), xs = R.map rowD ∧ (∀ x ∈ R, x ∈ S.rows j) ∧ e = [some (.ref 2), some (.int (P : Int)), some (.lst (Q.map pairD)), some (.int (j : Int)), e4, e5]) ⟨S.rows j, e4, e5, rfl, fun _ h => h, rfl⟩ ?_ ?_
    · rintro x xs e ⟨R, e4, e5, hxs, hR, rfl⟩
      cases R with
      | nil => cases hxs
      | cons x' R =>
        rw [List.map_cons] at hxs
        injection hxs with h1 h2
        subst h1
        subst h2
        refine ⟨_, rfl, ?_⟩
        simp only [List.set]
        have sl : slD g2 (rowD x') none (some 2) = some (.tup [.int x'.1, .int x'.2.1]) := slD_row
        have ind : inD false g2 (.tup [.int x'.1, .int x'.2.1]) (.lst (Q.map pairD)) = some (.bl (Q.any fun p => p.1 == x'.1 && p.2 == x'.2.1)) := by
          unfold inD sqD
          simp only [lsD_lst, pud_pairs, pud_tup, List.all_cons, List.all_nil, pud_int, Bool.and_self, any_pairs, Bool.bne_false]
        cases hin : (Q.any fun p => p.1 == x'.1 && p.2 == x'.2.1) with
        | false =>
          rw [hin] at ind
          have run : sIf (tOf (vOp (inD false) (vSl (vVar 4) none (some (vC (.int 2)))) (vVar 2))) (sSeq (sAsg 5 (vMeth 35 [(5, m_Memory_peek)] (vVar 0) (aCons (vMeth 25 [(4, m_Sizes_word)] (vFld [9, 10, 5] 2 (vVar 0)) (aCons (vOp ixD (vVar 4) (vC (.int 0))) (aCons (vOp ixD (vVar 4) (vC (.int 1))) aNil))) aNil))) (sIf (tOf (vOp neD (vVar 5) (vTup (aCons (vC (.str 18)) (aCons (vOp ixD (vVar 4) (vC (.int 2))) (aCons (vOp ixD (vVar 4) (vC (.int 3))) aNil)))))) (sRet (vC (.bl false))) sNx)) sNx
              [some (.ref 2), some (.int (P : Int)), some (.lst (Q.map pairD)), some (.int (j : Int)), some (rowD x'), e5] g2 = .nx [some (.ref 2), some (.int (P : Int)), some (.lst (Q.map pairD)), some (.int (j : Int)), some (rowD x'), e5] g2 := by
            simp only [sIf_e, tOf_e, vOp_e, vSl, vVar_e, vC_e, List.getElem?_cons_zero, List.getElem?_cons_succ, Res.bind, sl, ind, oR_some, bR_bl, sBind, cond_false, sNx_e]
          rw [run]
          exact ⟨rfl, R, _, _, rfl, fun z hz => hR z (.tail _ hz), rfl⟩
        | true =>
          rw [hin] at ind
          obtain ⟨z, hz, hz2⟩ := List.any_eq_true.mp hin
          rw [Bool.and_eq_true, beq_iff_eq, beq_iff_eq] at hz2
          have hmem : (x'.1, x'.2.1) ∈ Q := by
            rw [← hz2.1, ← hz2.2]
            exact hz
          obtain ⟨⟨a0, a1⟩, b0, b1⟩ := hQ _ hmem
          simp only at a0 a1 b0 b1
          have gd := B.gd j hj x' (hR x' (.head _)) hmem
          have sm := H2.M.smeth (nm := 25) (tbl := [(4, m_Sizes_word)]) (o := vFld [9, 10, 5] 2 (vVar 0)) (ms := aCons (vOp ixD (vVar 4) (vC (.int 0))) (aCons (vOp ixD (vVar 4) (vC (.int 1))) aNil)) (e := [some (.ref 2), some (.int (P : Int)), some (.lst (Q.map pairD)), some (.int (j : Int)), some (rowD x'), e5]) (g2 := g2) (ds := [.int x'.1, .int x'.2.1]) (by simp [H2.M.sizes_]) rfl rfl (by simp [rowD, at0, at1])
          rw [H2.M.word_ok] at sm
          have pk := H2.M.meth (nm := 35) (tbl := [(5, m_Memory_peek)]) (o := vVar 0) (ms := aCons (vMeth 25 [(4, m_Sizes_word)] (vFld [9, 10, 5] 2 (vVar 0)) (aCons (vOp ixD (vVar 4) (vC (.int 0))) (aCons (vOp ixD (vVar 4) (vC (.int 1))) aNil))) aNil) (e := [some (.ref 2), some (.int (P : Int)), some (.lst (Q.map pairD)), some (.int (j : Int)), some (rowD x'), e5]) (g2 := g2) (ds := [.int (1 + (P : Int) + 8 * x'.1 + x'.2.1)]) rfl rfl rfl (by simp only [aCons_e, sm, Res.bind, aNil_e])
          have ln := H2.O.len
          rw [H2.M.peek_ok (by omega) (by omega) gd] at pk
          have tp : ∀ e : En, e[4]? = some (some (rowD x')) → vTup (aCons (vC (.str 18)) (aCons (vOp ixD (vVar 4) (vC (.int 2))) (aCons (vOp ixD (vVar 4) (vC (.int 3))) aNil))) e g2 = .ok (Wd.frame x'.2.2.1 x'.2.2.2).d g2 := fun e he => by
            have i2 : ixD g2 (rowD x') (.int 2) = some (.int x'.2.2.1) := rfl
            have i3 : ixD g2 (rowD x') (.int 3) = some (.bl x'.2.2.2) := rfl
            simp [vTup_s, okL_s, he, i2, i3, Wd.d]
          have ne := ne_same (g := g2) (x := (Wd.frame x'.2.2.1 x'.2.2.2).d) (y := (Wd.frame x'.2.2.1 x'.2.2.2).d) rfl rfl rfl
          have run : sIf (tOf (vOp (inD false) (vSl (vVar 4) none (some (vC (.int 2)))) (vVar 2))) (sSeq (sAsg 5 (vMeth 35 [(5, m_Memory_peek)] (vVar 0) (aCons (vMeth 25 [(4, m_Sizes_word)] (vFld [9, 10, 5] 2 (vVar 0)) (aCons (vOp ixD (vVar 4) (vC (.int 0))) (aCons (vOp ixD (vVar 4) (vC (.int 1))) aNil))) aNil))) (sIf (tOf (vOp neD (vVar 5) (vTup (aCons (vC (.str 18)) (aCons (vOp ixD (vVar 4) (vC (.int 2))) (aCons (vOp ixD (vVar 4) (vC (.int 3))) aNil)))))) (sRet (vC (.bl false))) sNx)) sNx
              [some (.ref 2), some (.int (P : Int)), some (.lst (Q.map pairD)), some (.int (j : Int)), some (rowD x'), e5] g2 = .nx [some (.ref 2), some (.int (P : Int)), some (.lst (Q.map pairD)), some (.int (j : Int)), some (rowD x'), some (Wd.frame x'.2.2.1 x'.2.2.2).d] g2 := by
            have tp' := tp [some (.ref 2), some (.int (P : Int)), some (.lst (Q.map pairD)), some (.int (j : Int)), some (rowD x'), some (Wd.frame x'.2.2.1 x'.2.2.2).d] rfl
            simp only [sIf_e, tOf_e, vOp_e, vSl, vVar_e, vC_e, List.getElem?_cons_zero, List.getElem?_cons_succ, Res.bind, sl, ind, oR_some, bR_bl, sBind, cond_true, sSeq_e, sAsg_e, pk, List.set, tp', ne, cond_false, sNx_e]
          rw [run]
          exact ⟨rfl, R, _, _, rfl, fun z hz => hR z (.tail _ hz), rfl⟩
    · rintro e ⟨R, e4, e5, hxs, hR, rfl⟩
      exact ⟨_, _, _, rfl, H2⟩
  · rintro e g ⟨e3, e4, e5, rfl, H⟩
    exact ⟨g, rfl, H⟩
end

section
variable {g : G} {P r kr K L a b c d : Nat} {bA xA yA : Nat → Nat} {ld : Nat → D} {S : S4} {log : List D} {t t' : Int} {Q : List (Int × Int)}
/-- the acknowledge words are looked at -/
theorem acks_ok {Ex : List (Nat × Ob)} (hP0 : 0 < P) (hP : P ≤ 3) (H : Hq g P r bA xA yA ld S log Ex) (B : Post P t Q S) {f : Option D → En} (h2 : ∀ x, (f x)[2]? = some (some (.int (P : Int)))) (h3 : ∀ x, (f x)[3]? = some (some (.ref 2))) (h7 : ∀ x, (f x)[7]? = some (some (.int t))) (h17 : ∀ x, (f x)[17]? = some x) (hs : ∀ x y, (f x).set 17 y = f y) {x0 : Option D} :
    ∃ x, sFor (iRng2 (vC (.int 1)) (vVar 2)) (gN 17) (sIf (tOf (vOp neD (vMeth 35 [(5, m_Memory_peek)] (vVar 3) (aCons (vMeth 26 [(4, m_Sizes_acknowledge)] (vFld [9, 10, 5] 2 (vVar 3)) (aCons (vVar 17) aNil)) aNil)) (vVar 7))) (sRet (vC (.bl false))) sNx) (f x0) g = .nx (f x) g := by
  have ir : iRng2 (vC (.int 1)) (vVar 2) (f x0) g = .ok (.vals (rngL 1 (P - 1))) g := by
    unfold Y.iRng2
    have r1 : rB 1 = true := rfl
    have r2 : rB (P : Int) = true := rB_of (by omega) (by omega)
    simp only [vC_e, Res.bind, vVar_e, h2, r1, r2, Bool.and_self]
    congr 2
    congr 1
    omega
  simp only [sFor_e, ir, sBind, runS]
  have lp := loop_rng (gm := gN 17) (b := sIf (tOf (vOp neD (vMeth 35 [(5, m_Memory_peek)] (vVar 3) (aCons (vMeth 26 [(4, m_Sizes_acknowledge)] (vFld [9, 10, 5] 2 (vVar 3)) (aCons (vVar 17) aNil)) aNil)) (vVar 7))) (sRet (vC (.bl false))) sNx) (Q := fun R => ∃ x, R = .nx (f x) g) (lo := 1) (fun j e g' => g' = g ∧ ∃ x, e = f x) (P - 1) 0 (f x0) g ?_ ?_ ⟨rfl, x0, rfl⟩
  · simpa using lp
  · rintro j e g' _ hj ⟨rfl, x, rfl⟩
    refine ⟨_, rfl, ?_⟩
    rw [hs]
    have hq : 1 + j < P := by omega
    have ak := B.ak (1 + j) (by omega) hq
    unfold Ack at ak
    have am := H.M.smeth (nm := 26) (tbl := [(4, m_Sizes_acknowledge)]) (o := vFld [9, 10, 5] 2 (vVar 3)) (ms := aCons (vVar 17) aNil) (e := f (some (.int (1 + (j : Int))))) (g2 := g') (ds := [.int (1 + (j : Int))]) (by simp [h3, H.M.sizes_]) rfl rfl (by simp [h17])
    rw [H.M.ack_ok] at am
    have pk := H.M.meth (nm := 35) (tbl := [(5, m_Memory_peek)]) (o := vVar 3) (ms := aCons (vMeth 26 [(4, m_Sizes_acknowledge)] (vFld [9, 10, 5] 2 (vVar 3)) (aCons (vVar 17) aNil)) aNil) (e := f (some (.int (1 + (j : Int))))) (g2 := g') (ds := [.int (1 + (1 + (j : Int)))]) (by simp [h3]) rfl rfl (by simp only [aCons_e, am, Res.bind, aNil_e])
    have at_ := atI_nat ak
    have ln := H.O.len
    rw [show ((1 + (1 + j) : Nat) : Int) = 1 + (1 + (j : Int)) by omega] at at_
    rw [H.M.peek_ok (by omega) (by omega) at_] at pk
    have run : sIf (tOf (vOp neD (vMeth 35 [(5, m_Memory_peek)] (vVar 3) (aCons (vMeth 26 [(4, m_Sizes_acknowledge)] (vFld [9, 10, 5] 2 (vVar 3)) (aCons (vVar 17) aNil)) aNil)) (vVar 7))) (sRet (vC (.bl false))) sNx (f (some (.int (1 + (j : Int))))) g' = .nx (f (some (.int (1 + (j : Int))))) g' := by
      simp only [sIf_e, tOf_e, vOp_e, pk, Res.bind, vVar_e, h7, ne_int, beq_self_eq_true, Bool.not_true, oR_some, bR_bl, sBind, cond_false, sNx_e]
    rw [run]
    exact ⟨rfl, _, rfl⟩
  · rintro e g' ⟨rfl, x, rfl⟩
    exact ⟨x, rfl⟩
theorem tail_ok {Sc Tp e5 e6 e9 e10 e16 e17 : Option D} {j m : Nat} {last : D} (hP0 : 0 < P) (hP : P ≤ 3) (H : Hq g P r bA xA yA ld S log (ExE kr K (kerO a b c d t') last)) (hK : g[K + 1]? = some (.lst [])) (B : Post P t' Q S) (hQ : ∀ z ∈ Q, pgOk z.1 z.2) (hl : last = .non ∨ ∃ i, last = .int i) (hm : (Q = [] ∧ t' = t ∧ m = 0) ∨ (Q ≠ [] ∧ t' = t + 1 ∧ 2 * (P - 1) ≤ m ∧ (P = 1 → m = 0))) :
    ∃ g' f16 f17, c_law_5 [Sc, Tp, some (.int (P : Int)), some (.ref 2), some (.ref kr), e5, e6, some (.int t), some (.int (j : Int)), e9, e10, some (.lst (Q.map pairD)), some (.lst (Q.map pairD)), some (.ref K), some last, some (.int (m : Int)), e16, e17] g =
      .nx [Sc, Tp, some (.int (P : Int)), some (.ref 2), some (.ref kr), e5, e6, some (.int t'), some (.int (j : Int)), e9, e10, some (.lst (Q.map pairD)), some (.lst (Q.map pairD)), some (.ref K), some last, some (.int (m : Int)), f16, f17] g' ∧ Hq g' P r bA xA yA ld S log [(kr, kerO a b c d t')] := by
  obtain ⟨g', hen, H'⟩ := entries_law hP H B hQ
  have gk := (H.ex _ (.head _)).1
  have ft : fldD [9] 43 g (.ref kr) = some (.int t') := fldD_e gk rfl rfl
  have ln : lenD g [.lst (Q.map pairD)] = some (.int (Q.length : Int)) := by rw [lenD_lst, List.length_map]
  have gt0 : gtD g (.int (Q.length : Int)) (.int 0) = some (.bl (decide ((0 : Int) < (Q.length : Int)))) := rfl
  have iD : ∀ k : Bool, intD g [.bl k] = some (.int (if k then 1 else 0)) := fun k => rfl
  have m2 : ∀ k : Bool, mulD g (.int (if k then 1 else 0)) (.int 2) = some (.int ((if k then 1 else 0) * 2)) := fun k => by
    cases k <;> rfl
  have mP : ∀ k : Bool, mulD g (.int ((if k then 1 else 0) * 2)) (.int ((P : Int) - 1)) = some (.int ((if k then 1 else 0) * 2 * ((P : Int) - 1))) := fun k => mulS (by cases k <;> decide) (by cases k <;> decide)
  have e1 := fun (x16 x17 : Option D) => ended_yes H hK (o := vVar 13) (e := [Sc, Tp, some (.int (P : Int)), some (.ref 2), some (.ref kr), e5, e6, some (.int t), some (.int (j : Int)), e9, e10, some (.lst (Q.map pairD)), some (.lst (Q.map pairD)), some (.ref K), some last, some (.int (m : Int)), x16, x17]) rfl
  have e2 := fun (x16 x17 : Option D) => value_of H (o := vVar 13) (e := [Sc, Tp, some (.int (P : Int)), some (.ref 2), some (.ref kr), e5, e6, some (.int t), some (.int (j : Int)), e9, e10, some (.lst (Q.map pairD)), some (.lst (Q.map pairD)), some (.ref K), some last, some (.int (m : Int)), x16, x17]) rfl
  have pl : neD g last last = some (.bl false) := by
    rcases hl with rfl | ⟨i, rfl⟩
    · rfl
    · rw [ne_int]
      simp
  have pq : neD g (.lst (Q.map pairD)) (.lst (Q.map pairD)) = some (.bl false) := ne_same (d := .lst (Q.map pairD)) rfl rfl (by rw [pud8_lst]; exact pud_pairs Q)
  obtain ⟨lst, hlst, c1, c2⟩ : ∃ lst : Int, (if decide ((0 : Int) < (Q.length : Int)) = true then (1 : Int) else 0) * 2 * ((P : Int) - 1) = lst ∧ decide ((m : Int) < lst) = false ∧ ((lst == 0) = true → ((m : Int) == 0) = true) := by
    refine ⟨_, rfl, ?_, ?_⟩
    · rw [decide_eq_false_iff_not]
      rcases hm with ⟨rfl, _, rfl⟩ | ⟨h, _, h2, _⟩
      · simp
      · split <;> omega
    · intro h
      rw [beq_iff_eq] at h ⊢
      rcases hm with ⟨rfl, _, rfl⟩ | ⟨hq, _, h2, h3⟩
      · rfl
      · have q1 : (0 : Int) < (Q.length : Int) := by
          cases Q with
          | nil => exact absurd rfl hq
          | cons x Q => simp
        rw [decide_eq_true q1] at h
        simp only [if_true] at h
        have := h3 (by omega)
        omega
  have test : ∀ x17 : Option D, tOr (tOf (vOp ltD (vVar 15) (vVar 16))) (tOr (tAnd (tOf (vOp eqD (vVar 16) (vC (.int 0)))) (tOf (vOp neD (vVar 15) (vC (.int 0))))) (tOr (tNot (tTru (vMeth 45 [(6, m_Stack_ended)] (vVar 13) aNil))) (tOr (tOf (vOp neD (vMeth 44 [(6, m_Stack_value)] (vVar 13) aNil) (vVar 14))) (tOf (vOp neD (vVar 12) (vVar 11))))))
      [Sc, Tp, some (.int (P : Int)), some (.ref 2), some (.ref kr), e5, e6, some (.int t), some (.int (j : Int)), e9, e10, some (.lst (Q.map pairD)), some (.lst (Q.map pairD)), some (.ref K), some last, some (.int (m : Int)), some (.int lst), x17] g = .ok false g := by
    intro x17
    have lt : ltD g (.int (m : Int)) (.int lst) = some (.bl (decide ((m : Int) < lst))) := rfl
    cases hz : (lst == 0) with
    | true =>
      have := c2 hz
      simp only [tOr_e, tAnd_e, tNot_e, tTru_e, tOf_e, vOp_e, vVar_e, vC_e, List.getElem?_cons_zero, List.getElem?_cons_succ, Res.bind, lt, c1, oR_some, bR_bl, cond_false, eq_int, hz, cond_true, ne_int, this, Bool.not_true, e1, truD_bl, e2, pl, pq]
    | false =>
      simp only [tOr_e, tAnd_e, tNot_e, tTru_e, tOf_e, vOp_e, vVar_e, vC_e, List.getElem?_cons_zero, List.getElem?_cons_succ, Res.bind, lt, c1, oR_some, bR_bl, cond_false, eq_int, hz, cond_true, ne_int, Bool.not_true, e1, truD_bl, e2, pl, pq]
  -- the last test
  have last2 : ∀ x17 : Option D, c_law_2 [Sc, Tp, some (.int (P : Int)), some (.ref 2), some (.ref kr), e5, e6, some (.int t'), some (.int (j : Int)), e9, e10, some (.lst (Q.map pairD)), some (.lst (Q.map pairD)), some (.ref K), some last, some (.int (m : Int)), some (.int lst), x17] g = .nx [Sc, Tp, some (.int (P : Int)), some (.ref 2), some (.ref kr), e5, e6, some (.int t'), some (.int (j : Int)), e9, e10, some (.lst (Q.map pairD)), some (.lst (Q.map pairD)), some (.ref K), some last, some (.int (m : Int)), some (.int lst), x17] g' := by
    intro x17
    unfold c_law_2
    simp only [sIf_e, tOr_e, tOf_e, tNot_e, tTru_e, vOp_e, vUn_e, vVar_e, List.getElem?_cons_zero, List.getElem?_cons_succ, Res.bind, ft, oR_some, ne_int, beq_self_eq_true, Bool.not_true, bR_bl, cond_false, vCall_e, aCons_e, aNil_e, hen, truD_bl, sBind, sNx_e]
  have pre : ∀ R : SR, c_law_3 [Sc, Tp, some (.int (P : Int)), some (.ref 2), some (.ref kr), e5, e6, some (.int t), some (.int (j : Int)), e9, e10, some (.lst (Q.map pairD)), some (.lst (Q.map pairD)), some (.ref K), some last, some (.int (m : Int)), some (.int lst), e17] g = R → c_law_5 [Sc, Tp, some (.int (P : Int)), some (.ref 2), some (.ref kr), e5, e6, some (.int t), some (.int (j : Int)), e9, e10, some (.lst (Q.map pairD)), some (.lst (Q.map pairD)), some (.ref K), some last, some (.int (m : Int)), e16, e17] g = R := by
    intro R hR
    unfold c_law_5
    rw [sSeq_e]
    simp only [sAsg_e, vOp_e, vCB_e, aCons_e, aNil_e, vVar_e, vC_e, List.getElem?_cons_zero, List.getElem?_cons_succ, Res.bind, ln, oR_some, gt0, iD, m2, subD_int, mP, hlst, sBind, List.set]
    unfold c_law_4
    rw [sSeq_e, sIf_e, test]
    simp only [sBind, cond_false, sNx_e]
    exact hR
  have We : Hq g' P r bA xA yA ld S log [(kr, kerO a b c d t')] := H'.weak fun z hz => by
    rw [List.mem_singleton.mp hz]
    exact .head _
  rcases hm with ⟨hq, rfl, hm0⟩ | ⟨hq, ht, _⟩
  · refine ⟨g', some (.int lst), e17, pre _ ?_, We⟩
    have z : decide ((0 : Int) < (Q.length : Int)) = false := by rw [hq]; rfl
    unfold c_law_3
    rw [sSeq_e]
    simp only [sIf_e, tOf_e, vOp_e, vCB_e, aCons_e, aNil_e, vVar_e, vC_e, List.getElem?_cons_zero, List.getElem?_cons_succ, Res.bind, ln, oR_some, gt0, z, bR_bl, sBind, cond_false, sNx_e]
    exact last2 e17
  · obtain ⟨x, hx⟩ := acks_ok (f := fun x => [Sc, Tp, some (.int (P : Int)), some (.ref 2), some (.ref kr), e5, e6, some (.int t'), some (.int (j : Int)), e9, e10, some (.lst (Q.map pairD)), some (.lst (Q.map pairD)), some (.ref K), some last, some (.int (m : Int)), some (.int lst), x]) (x0 := e17) hP0 hP H B (fun _ => rfl) (fun _ => rfl) (fun _ => rfl) (fun _ => rfl) (fun _ _ => rfl)
    refine ⟨g', some (.int lst), x, pre _ ?_, We⟩
    have z : decide ((0 : Int) < (Q.length : Int)) = true := by
      cases Q with
      | nil => exact absurd rfl hq
      | cons x Q =>
        rw [decide_eq_true_iff]
        simp
    unfold c_law_3
    rw [sSeq_e]
    simp only [sIf_e, tOf_e, vOp_e, vCB_e, aCons_e, aNil_e, vVar_e, vC_e, List.getElem?_cons_zero, List.getElem?_cons_succ, Res.bind, ln, oR_some, gt0, z, bR_bl, sBind, cond_true]
    rw [sSeq_e]
    simp only [sAsg_e, vOp_e, vVar_e, vC_e, List.getElem?_cons_zero, List.getElem?_cons_succ, Res.bind, addD_int, oR_some, sBind, List.set]
    rw [← ht, hx]
    exact last2 x
/-- a turn behind the others' accesses -/
theorem turn_ok {Sc e5 e6 e9 e10 e11 e12 e13 e14 e15 e16 e17 : Option D} {T : List Int} {j : Nat} (hP0 : 0 < P) (hP : P ≤ 3) (hT : Nice T) (H : Hq g P r bA xA yA ld S log [(kr, kerO a b c d t)]) (B : Post P t [] S) (ht : 0 ≤ t) (hl : log.length < 50000) :
    ∃ g' yA' ld' S' log' t' f11 f12 f13 f14 f15 f16 f17, c_law_9 [Sc, some (.lst (T.map D.int)), some (.int (P : Int)), some (.ref 2), some (.ref kr), e5, e6, some (.int t), some (.int (j : Int)), e9, e10, e11, e12, e13, e14, e15, e16, e17] g =
      .nx [Sc, some (.lst (T.map D.int)), some (.int (P : Int)), some (.ref 2), some (.ref kr), e5, e6, some (.int t'), some (.int (j : Int)), e9, e10, f11, f12, f13, f14, f15, f16, f17] g' ∧ Hq g' P r bA xA yA' ld' S' log' [(kr, kerO a b c d t')] ∧ Post P t' [] S' ∧ 0 ≤ t' ∧ log'.length ≤ log.length + 810 := by
  obtain ⟨g1, S1, log1, Q, hch, H1, B1, q1, q2, l1⟩ := change_ok (k := 7 * j + 1) hP0 hT H B (by omega)
  have lD : listD g1 [.lst (Q.map pairD)] = some (.lst (Q.map pairD)) := rfl
  have c1 : (7 : Int) * (j : Int) + 1 = ((7 * j + 1 : Nat) : Int) := by omega
  have c2 : (5 : Int) * (j : Int) + 2 = ((5 * j + 2 : Nat) : Int) := by omega
  obtain ⟨g2, ld2, hmk, hkL, l2, l3, hcase⟩ := mkInv (Q := Q) hP0 hP H1 (ms := aCons (vVar 4) (aCons (vC (.int 0)) (aCons (vVar 12) aNil))) (e := [Sc, some (.lst (T.map D.int)), some (.int (P : Int)), some (.ref 2), some (.ref kr), e5, e6, some (.int t), some (.int (j : Int)), e9, e10, some (.lst (Q.map pairD)), some (.lst (Q.map pairD)), e13, e14, e15, e16, e17]) rfl q1
  have hst := mkStack hmk
  -- the run
  have run : ∃ g' yA' ld' S' log' t' last, ∃ m : Nat, m__law_run [.ref 2, .ref g2.length, .int (P : Int), .lst (T.map D.int), .int ((5 * j + 2 : Nat) : Int)] (g2 ++ [stkO g2.length .non, .lst [.ref g1.length]]) = .ok (.tup [last, .int (m : Int)]) g' ∧ Hq g' P r bA xA yA' ld' S' log' (ExE kr g2.length (kerO a b c d t') last) ∧ g'[g2.length + 1]? = some (.lst []) ∧ Post P t' Q S' ∧ (last = .non ∨ ∃ i, last = .int i) ∧ ((Q = [] ∧ t' = t ∧ m = 0) ∨ (Q ≠ [] ∧ t' = t + 1 ∧ 2 * (P - 1) ≤ m ∧ (P = 1 → m = 0))) ∧ log'.length ≤ log1.length + 800 := by
    have ex : ∀ {S : S4} {ker : Ob} {o : Ob}, Hq g2 P r bA xA yA ld2 S log1 [(kr, ker), (g1.length, o)] → ∀ {se wa : List Nat} {letter : D}, o = invO se wa .non letter → Hq (g2 ++ [stkO g2.length .non, .lst [.ref g1.length]]) P r bA xA yA ld2 S log1 (ExR kr g1.length g2.length ker se wa .non letter) := fun {S ker o} H {se wa letter} ho => H.app fun z hz => by
      simp only [ExR, List.mem_cons, List.not_mem_nil, or_false] at hz
      rcases hz with rfl | rfl | rfl | rfl
      · exact .inl (.head _)
      · rw [ho]
        exact .inl (.tail _ (.head _))
      · exact .inr ⟨Nat.le_refl _, by rw [List.getElem?_append_right (Nat.le_refl _), Nat.sub_self]; rfl, .inl ⟨_, _, rfl, .inl rfl⟩⟩
      · exact .inr ⟨by simp, by rw [List.getElem?_append_right (by simp), show g2.length + 1 - g2.length = 1 by omega]; rfl, .inr ⟨_, rfl⟩⟩
    have rows0 : Q ≠ [] → (dropQ S1 Q).rows = fset S1.rows 0 ((S1.rows 0).filter (keepB Q)) ∧ (dropQ S1 Q).held = S1.held ∧ (dropQ S1 Q).lets = S1.lets := fun h => by
      unfold dropQ
      rw [if_neg h]
      exact ⟨rfl, rfl, rfl⟩
    have good0 : Q ≠ [] → Good P Q (dropQ S1 Q) 0 := fun h => by
      intro x hx hQx
      rw [(rows0 h).1, fset_same] at hx
      have := (List.mem_filter.mp hx).2
      exfalso
      unfold keepB at this
      have k : (Q.any fun p => p.1 == x.1 && p.2 == x.2.1) = true := List.any_eq_true.mpr ⟨_, hQx, by simp⟩
      rw [k] at this
      cases this
    rcases hcase with ⟨hq, H2⟩ | ⟨hq, H2⟩
    · subst hq
      obtain ⟨g', yA', ld', S', log', hr, H3, hK, B3, l4⟩ := run_quiet (pl := 5 * j + 2) hP0 hP hT (ex H2 rfl) B1 ⟨by omega, by omega⟩ (by omega)
      exact ⟨g', yA', ld', S', log', t, .non, 0, hr, H3, hK, B3, .inl rfl, .inl ⟨rfl, rfl, rfl⟩, l4⟩
    · by_cases hP1 : P = 1
      · subst hP1
        have B2 : Post 1 (t + 1) Q (dropQ S1 Q) := by
          refine ⟨fun q h => ?_, fun q h => ?_, fun q h1 h2 => absurd h1 (by omega)⟩
          · rw [(rows0 hq).2.2]
            exact B1.l q h
          · have : q = 0 := by omega
            rw [this]
            exact good0 hq
        obtain ⟨g', yA', ld', S', log', hr, H3, hK, B3, l4⟩ := run_quiet (pl := 5 * j + 2) hP0 hP hT (ex H2 (se := []) (wa := []) rfl) B2 ⟨by omega, by omega⟩ (by omega)
        exact ⟨g', yA', ld', S', log', t + 1, .non, 0, hr, H3, hK, B3, .inl rfl, .inr ⟨hq, rfl, by decide, fun _ => rfl⟩, l4⟩
      · have B2 : Busy P (t + 1) Q (dropQ S1 Q) 0 0 := by
          refine ⟨by omega, by omega, fun q h1 h2 => .inl ⟨h1, ?_, ?_⟩, ?_, good0 hq, fun q h1 h2 => absurd h1 (by omega), q2⟩
          · rw [(rows0 hq).2.2]
            exact B1.l q h2
          · unfold Ack
            rw [(rows0 hq).2.1, show t + 1 - 1 = t by omega]
            exact B1.ak q h1 h2
          · rw [(rows0 hq).2.2]
            exact B1.l 0 hP0
        have q3 : 1 ≤ Q.length := by
          cases Q with
          | nil => exact absurd rfl hq
          | cons x Q => simp
        obtain ⟨g', yA', ld', S', log', m, hr, H3, hK, B3, hm, l4⟩ := run_busy (pl := 5 * j + 2) (by omega) hT (ex H2 rfl) B2 ⟨hkL, by omega, by omega⟩ (by omega) ⟨q3, by omega⟩ (by omega)
        exact ⟨g', yA', ld', S', log', t + 1, _, m, hr, H3, hK, B3, .inr ⟨_, rfl⟩, .inr ⟨hq, rfl, hm, fun h => absurd h hP1⟩, l4⟩
  obtain ⟨g3, yA3, ld3, S3, log3, t', last, m, hr, H3, hK, B3, hlast, hcs, l4⟩ := run
  obtain ⟨g4, f16, f17, htl, H4⟩ := tail_ok (Sc := Sc) (Tp := some (.lst (T.map D.int))) (e5 := e5) (e6 := e6) (e9 := e9) (e10 := e10) (e16 := e16) (e17 := e17) (j := j) (t := t) hP0 hP H3 hK B3 q2 hlast hcs
  refine ⟨g4, yA3, ld3, S3, log3, t', some (.lst (Q.map pairD)), some (.lst (Q.map pairD)), some (.ref g2.length), some last, some (.int (m : Int)), f16, f17, ?_, H4, post_nil B3.l B3.ak, ?_, by omega⟩
  · unfold c_law_9 c_law_8 c_law_7 c_law_6
    have m7 : mulD g (.int 7) (.int (j : Int)) = some (.int (7 * (j : Int))) := mulD_l (by decide) (by decide)
    have m5 : mulD (g2 ++ [stkO g2.length .non, .lst [.ref g1.length]]) (.int 5) (.int (j : Int)) = some (.int (5 * (j : Int))) := mulD_l (by decide) (by decide)
    rw [sSeq_e]
    simp only [sAsg_e, vCall_e, aCons_e, aNil_e, vOp_e, vVar_e, vC_e, List.getElem?_cons_zero, List.getElem?_cons_succ, Res.bind, m7, addD_int, oR_some, c1, hch, sBind, List.set]
    rw [sSeq_e]
    simp only [sAsg_e, vCB_e, aCons_e, aNil_e, vVar_e, List.getElem?_cons_zero, List.getElem?_cons_succ, Res.bind, lD, oR_some, sBind, List.set]
    rw [sSeq_e]
    simp only [sAsg_e, hst, sBind, List.set]
    rw [sSeq_e]
    unfold sTgt
    simp only [vCall_e, aCons_e, aNil_e, vOp_e, vVar_e, vC_e, List.getElem?_cons_zero, List.getElem?_cons_succ, Res.bind, m5, addD_int, oR_some, c2, hr, sBind]
    exact htl
  · rcases hcs with ⟨_, h, _⟩ | ⟨_, h, _⟩ <;> omega
end

/-! ### the whole -/
def S0 (held : List D) : S4 := ⟨held, fun _ => [], fun _ => []⟩
def held1 : List D := List.replicate 2 (.int 0) ++ List.replicate 32 .non ++ List.replicate 8 (.int 0) ++ List.replicate 10 (.tup [.int 0, .int 0])
def mem1 : G := [.dead, .ins 4 [(4, .int 1), (5, .int 4), (6, .int 2)], .ins 5 (memF 1 3 7 0 (.lst [.ref 4]) (.lst [.ref 5])), .lst held1, .ins 2 [(0, .lst [])], .ins 3 [(0, .ref 6)], .lst [], .lst []]
def all1 : G := mem1 ++ [kerO 9 10 16 20 0, .dct false [(.int 0, .lst [])], .ins 7 [(56, .int 4), (59, .lst [.ref 11, .ref 12, .ref 13, .ref 14]), (58, .ref 15)], .lst [], .lst [], .lst [], .lst [], .lst [], .ins 7 [(56, .int 2), (59, .lst [.ref 17, .ref 18]), (58, .ref 19)], .lst [], .lst [], .lst [], .ins 8 [(56, .int 4), (62, .int 0)]]
theorem M1 : MC mem1 2 1 3 7 1 4 2 0 (refsF 1 fun p => 4 + p) (refsF 1 fun p => 4 + 1 + 2 * p) held1 [] := ⟨rfl, rfl, rfl, rfl, by decide, by decide, by decide⟩
theorem init1 {Sc Tp : Option D} : c_law_16 [Sc, Tp, some (.int 1), none, none, none, none, none, none, none, none, none, none, none, none, none, none, none] [.dead] = c_law_14 [Sc, Tp, some (.int 1), some (.ref 2), some (.ref 8), none, none, none, none, none, none, none, none, none, none, none, none, none] all1 := by
  have v3 : vMake 5 m_Memory___init__ (aCons (vMake 4 m_Sizes___init__ (aCons (vVar 2) (aCons (vC (.int 4)) (aCons (vC (.int 2)) aNil)))) aNil) [Sc, Tp, some (.int 1), none, none, none, none, none, none, none, none, none, none, none, none, none, none, none] [.dead] = .ok (.ref 2) mem1 := rfl
  have v4 : vMake 9 m_Kernel___init__ (aCons (vVar 3) aNil) [Sc, Tp, some (.int 1), some (.ref 2), none, none, none, none, none, none, none, none, none, none, none, none, none, none] mem1 = .ok (.ref 8) all1 := rfl
  unfold c_law_16 c_law_15
  rw [sSeq_e]
  simp only [sAsg_e, v3, sBind, List.set]
  rw [sSeq_e]
  simp only [sAsg_e, v4, sBind, List.set]
theorem st1 : Hq all1 1 7 (fun p => 4 + p) (fun p => 4 + 1 + 2 * p) (fun p => 5 + 1 + 2 * p) (fun _ => .lst []) (S0 held1) [] [(8, kerO 9 10 16 20 0)] := by
  have lt : ∀ p, p < 1 → p = 0 := fun p hp => by omega
  refine ⟨M1.app, ⟨?_, fun p hp => rfl, ?_, ?_, fun p q _ _ e => by omega, fun p q _ _ e => by omega, fun p q _ _ e => by omega, fun p hp => ?_, fun p hp a ha => (by cases ha), fun p hp => Nat.zero_le 2, fun p hp => Nat.zero_le 900⟩, ⟨rfl, ?_, ?_, fun p r hr => absurd hr List.not_mem_nil, fun p => Nat.zero_le 2, fun p => Nat.zero_le 1⟩, ?_⟩
  · intro p hp
    rcases lt p hp with rfl <;> rfl
  · intro p hp
    rcases lt p hp with rfl <;> rfl
  · intro p hp
    rcases lt p hp with rfl <;> rfl
  · unfold StK
    omega
  · have : held1.all (pud 5) = true := by decide
    exact List.all_eq_true.mp this
  · intro c h1 h2
    refine ⟨.non, trivial, ?_⟩
    show (List.replicate 2 (D.int 0) ++ List.replicate 32 .non ++ List.replicate 8 (.int 0) ++ List.replicate 10 (.tup [.int 0, .int 0]))[c]? = some .non
    rw [List.getElem?_append_left (by simp; omega), List.getElem?_append_left (by simp; omega), List.getElem?_append_right (by simp; omega), List.getElem?_replicate, if_pos (by simp; omega)]
  · intro z hz
    rw [List.mem_singleton.mp hz]
    exact ⟨rfl, own_ker, by decide, by decide⟩
theorem po1 : Post 1 0 [] (S0 held1) := by
  refine post_nil (fun _ _ => rfl) fun q h1 h2 => ?_
  have lt : ∀ p, p < 1 → p = 0 := fun p hp => by omega
  rcases lt q h2 with rfl <;> rfl
def held2 : List D := List.replicate 3 (.int 0) ++ List.replicate 32 .non ++ List.replicate 8 (.int 0) ++ List.replicate 10 (.tup [.int 0, .int 0])
def mem2 : G := [.dead, .ins 4 [(4, .int 2), (5, .int 4), (6, .int 2)], .ins 5 (memF 1 3 10 0 (.lst [.ref 4, .ref 5]) (.lst [.ref 6, .ref 8])), .lst held2, .ins 2 [(0, .lst [])], .ins 2 [(0, .lst [])], .ins 3 [(0, .ref 7)], .lst [], .ins 3 [(0, .ref 9)], .lst [], .lst []]
def all2 : G := mem2 ++ [kerO 12 13 19 23 0, .dct false [(.int 0, .lst [])], .ins 7 [(56, .int 4), (59, .lst [.ref 14, .ref 15, .ref 16, .ref 17]), (58, .ref 18)], .lst [], .lst [], .lst [], .lst [], .lst [], .ins 7 [(56, .int 2), (59, .lst [.ref 20, .ref 21]), (58, .ref 22)], .lst [], .lst [], .lst [], .ins 8 [(56, .int 4), (62, .int 0)]]
theorem M2 : MC mem2 2 1 3 10 2 4 2 0 (refsF 2 fun p => 4 + p) (refsF 2 fun p => 4 + 2 + 2 * p) held2 [] := ⟨rfl, rfl, rfl, rfl, by decide, by decide, by decide⟩
theorem init2 {Sc Tp : Option D} : c_law_16 [Sc, Tp, some (.int 2), none, none, none, none, none, none, none, none, none, none, none, none, none, none, none] [.dead] = c_law_14 [Sc, Tp, some (.int 2), some (.ref 2), some (.ref 11), none, none, none, none, none, none, none, none, none, none, none, none, none] all2 := by
  have v3 : vMake 5 m_Memory___init__ (aCons (vMake 4 m_Sizes___init__ (aCons (vVar 2) (aCons (vC (.int 4)) (aCons (vC (.int 2)) aNil)))) aNil) [Sc, Tp, some (.int 2), none, none, none, none, none, none, none, none, none, none, none, none, none, none, none] [.dead] = .ok (.ref 2) mem2 := rfl
  have v4 : vMake 9 m_Kernel___init__ (aCons (vVar 3) aNil) [Sc, Tp, some (.int 2), some (.ref 2), none, none, none, none, none, none, none, none, none, none, none, none, none, none] mem2 = .ok (.ref 11) all2 := rfl
  unfold c_law_16 c_law_15
  rw [sSeq_e]
  simp only [sAsg_e, v3, sBind, List.set]
  rw [sSeq_e]
  simp only [sAsg_e, v4, sBind, List.set]
theorem st2 : Hq all2 2 10 (fun p => 4 + p) (fun p => 4 + 2 + 2 * p) (fun p => 5 + 2 + 2 * p) (fun _ => .lst []) (S0 held2) [] [(11, kerO 12 13 19 23 0)] := by
  have lt : ∀ p, p < 2 → p = 0 ∨ p = 1 := fun p hp => by omega
  refine ⟨M2.app, ⟨?_, fun p hp => rfl, ?_, ?_, fun p q _ _ e => by omega, fun p q _ _ e => by omega, fun p q _ _ e => by omega, fun p hp => ?_, fun p hp a ha => (by cases ha), fun p hp => Nat.zero_le 2, fun p hp => Nat.zero_le 900⟩, ⟨rfl, ?_, ?_, fun p r hr => absurd hr List.not_mem_nil, fun p => Nat.zero_le 2, fun p => Nat.zero_le 1⟩, ?_⟩
  · intro p hp
    rcases lt p hp with rfl | rfl <;> rfl
  · intro p hp
    rcases lt p hp with rfl | rfl <;> rfl
  · intro p hp
    rcases lt p hp with rfl | rfl <;> rfl
  · unfold StK
    omega
  · have : held2.all (pud 5) = true := by decide
    exact List.all_eq_true.mp this
  · intro c h1 h2
    refine ⟨.non, trivial, ?_⟩
    show (List.replicate 3 (D.int 0) ++ List.replicate 32 .non ++ List.replicate 8 (.int 0) ++ List.replicate 10 (.tup [.int 0, .int 0]))[c]? = some .non
    rw [List.getElem?_append_left (by simp; omega), List.getElem?_append_left (by simp; omega), List.getElem?_append_right (by simp; omega), List.getElem?_replicate, if_pos (by simp; omega)]
  · intro z hz
    rw [List.mem_singleton.mp hz]
    exact ⟨rfl, own_ker, by decide, by decide⟩
theorem po2 : Post 2 0 [] (S0 held2) := by
  refine post_nil (fun _ _ => rfl) fun q h1 h2 => ?_
  have lt : ∀ p, p < 2 → p = 0 ∨ p = 1 := fun p hp => by omega
  rcases lt q h2 with rfl | rfl <;> rfl
def held3 : List D := List.replicate 4 (.int 0) ++ List.replicate 32 .non ++ List.replicate 8 (.int 0) ++ List.replicate 10 (.tup [.int 0, .int 0])
def mem3 : G := [.dead, .ins 4 [(4, .int 3), (5, .int 4), (6, .int 2)], .ins 5 (memF 1 3 13 0 (.lst [.ref 4, .ref 5, .ref 6]) (.lst [.ref 7, .ref 9, .ref 11])), .lst held3, .ins 2 [(0, .lst [])], .ins 2 [(0, .lst [])], .ins 2 [(0, .lst [])], .ins 3 [(0, .ref 8)], .lst [], .ins 3 [(0, .ref 10)], .lst [], .ins 3 [(0, .ref 12)], .lst [], .lst []]
def all3 : G := mem3 ++ [kerO 15 16 22 26 0, .dct false [(.int 0, .lst [])], .ins 7 [(56, .int 4), (59, .lst [.ref 17, .ref 18, .ref 19, .ref 20]), (58, .ref 21)], .lst [], .lst [], .lst [], .lst [], .lst [], .ins 7 [(56, .int 2), (59, .lst [.ref 23, .ref 24]), (58, .ref 25)], .lst [], .lst [], .lst [], .ins 8 [(56, .int 4), (62, .int 0)]]
theorem M3 : MC mem3 2 1 3 13 3 4 2 0 (refsF 3 fun p => 4 + p) (refsF 3 fun p => 4 + 3 + 2 * p) held3 [] := ⟨rfl, rfl, rfl, rfl, by decide, by decide, by decide⟩
theorem init3 {Sc Tp : Option D} : c_law_16 [Sc, Tp, some (.int 3), none, none, none, none, none, none, none, none, none, none, none, none, none, none, none] [.dead] = c_law_14 [Sc, Tp, some (.int 3), some (.ref 2), some (.ref 14), none, none, none, none, none, none, none, none, none, none, none, none, none] all3 := by
  have v3 : vMake 5 m_Memory___init__ (aCons (vMake 4 m_Sizes___init__ (aCons (vVar 2) (aCons (vC (.int 4)) (aCons (vC (.int 2)) aNil)))) aNil) [Sc, Tp, some (.int 3), none, none, none, none, none, none, none, none, none, none, none, none, none, none, none] [.dead] = .ok (.ref 2) mem3 := rfl
  have v4 : vMake 9 m_Kernel___init__ (aCons (vVar 3) aNil) [Sc, Tp, some (.int 3), some (.ref 2), none, none, none, none, none, none, none, none, none, none, none, none, none, none] mem3 = .ok (.ref 14) all3 := rfl
  unfold c_law_16 c_law_15
  rw [sSeq_e]
  simp only [sAsg_e, v3, sBind, List.set]
  rw [sSeq_e]
  simp only [sAsg_e, v4, sBind, List.set]
theorem st3 : Hq all3 3 13 (fun p => 4 + p) (fun p => 4 + 3 + 2 * p) (fun p => 5 + 3 + 2 * p) (fun _ => .lst []) (S0 held3) [] [(14, kerO 15 16 22 26 0)] := by
  have lt : ∀ p, p < 3 → p = 0 ∨ p = 1 ∨ p = 2 := fun p hp => by omega
  refine ⟨M3.app, ⟨?_, fun p hp => rfl, ?_, ?_, fun p q _ _ e => by omega, fun p q _ _ e => by omega, fun p q _ _ e => by omega, fun p hp => ?_, fun p hp a ha => (by cases ha), fun p hp => Nat.zero_le 2, fun p hp => Nat.zero_le 900⟩, ⟨rfl, ?_, ?_, fun p r hr => absurd hr List.not_mem_nil, fun p => Nat.zero_le 2, fun p => Nat.zero_le 1⟩, ?_⟩
  · intro p hp
    rcases lt p hp with rfl | rfl | rfl <;> rfl
  · intro p hp
    rcases lt p hp with rfl | rfl | rfl <;> rfl
  · intro p hp
    rcases lt p hp with rfl | rfl | rfl <;> rfl
  · unfold StK
    omega
  · have : held3.all (pud 5) = true := by decide
    exact List.all_eq_true.mp this
  · intro c h1 h2
    refine ⟨.non, trivial, ?_⟩
    show (List.replicate 4 (D.int 0) ++ List.replicate 32 .non ++ List.replicate 8 (.int 0) ++ List.replicate 10 (.tup [.int 0, .int 0]))[c]? = some .non
    rw [List.getElem?_append_left (by simp; omega), List.getElem?_append_left (by simp; omega), List.getElem?_append_right (by simp; omega), List.getElem?_replicate, if_pos (by simp; omega)]
  · intro z hz
    rw [List.mem_singleton.mp hz]
    exact ⟨rfl, own_ker, by decide, by decide⟩
theorem po3 : Post 3 0 [] (S0 held3) := by
  refine post_nil (fun _ _ => rfl) fun q h1 h2 => ?_
  have lt : ∀ p, p < 3 → p = 0 ∨ p = 1 ∨ p = 2 := fun p hp => by omega
  rcases lt q h2 with rfl | rfl | rfl <;> rfl
theorem min6 {g : G} {n : Nat} : minD g [.int 6, .int (1 + (n : Int) / 8)] = some (.int ((min 6 (1 + n / 8) : Nat) : Int)) := by
  show some (D.int (if (1 + (n : Int) / 8) < 6 then 1 + (n : Int) / 8 else 6)) = _
  congr 2
  split <;> omega
theorem loop_ok {T : List Int} {Sc : Option D} {g : G} {P r kr a b c d : Nat} {bA xA yA : Nat → Nat} {ld : Nat → D} {S : S4} (hT : Nice T) (hlT : T.length ≤ 3780) (hP : P ≤ 3) (hP0 : 0 < P) (H : Hq g P r bA xA yA ld S [] [(kr, kerO a b c d 0)]) (B : Post P 0 [] S) :
    ∃ g', c_law_14 [Sc, some (.lst (T.map D.int)), some (.int (P : Int)), some (.ref 2), some (.ref kr), none, none, none, none, none, none, none, none, none, none, none, none, none] g = .rt (.bl true) g' := by
  unfold c_law_14
  refine seq_rng (n := 2) (Q := fun R => ∃ g', R = .rt (.bl true) g') (fun j e g => ∃ S log e5 e6, e = [Sc, some (.lst (T.map D.int)), some (.int (P : Int)), some (.ref 2), some (.ref kr), e5, e6, none, none, none, none, none, none, none, none, none, none, none] ∧ Hq g P r bA xA yA ld S log [(kr, kerO a b c d 0)] ∧ Post P 0 [] S ∧ log.length ≤ 4 * j) (rng_of (n := 2) rfl (by decide)) ⟨S, [], _, _, rfl, H, B, Nat.le_refl _⟩ ?_ ?_
  · rintro j e g hj ⟨S, log, e5, e6, rfl, H, B, hl⟩
    refine ⟨_, rfl, ?_⟩
    simp only [List.set]
    have ir : iRng1 (vC (.int 4)) [Sc, some (.lst (T.map D.int)), some (.int (P : Int)), some (.ref 2), some (.ref kr), some (.int (j : Int)), e6, none, none, none, none, none, none, none, none, none, none, none] g = .ok (.vals (rngL 0 4)) g := rng_of (n := 4) rfl (by decide)
    simp only [sFor_e, ir, sBind, runS]
    refine for_rng (Q := fun R => StepOK R (fun e g => ∃ S log e5 e6, e = [Sc, some (.lst (T.map D.int)), some (.int (P : Int)), some (.ref 2), some (.ref kr), e5, e6, none, none, none, none, none, none, none, none, none, none, none] ∧ Hq g P r bA xA yA ld S log [(kr, kerO a b c d 0)] ∧ Post P 0 [] S ∧ log.length ≤ 4 * (j + 1)) _) (fun k e g => ∃ S log e6, e = [Sc, some (.lst (T.map D.int)), some (.int (P : Int)), some (.ref 2), some (.ref kr), some (.int (j : Int)), e6, none, none, none, none, none, none, none, none, none, none, none] ∧ Hq g P r bA xA yA ld S log [(kr, kerO a b c d 0)] ∧ Post P 0 [] S ∧ log.length ≤ 4 * j + k) ⟨S, log, e6, rfl, H, B, by omega⟩ ?_ ?_
    · rintro k e g hk ⟨S, log, e6, rfl, H, B, hl⟩
      refine ⟨_, rfl, ?_⟩
      simp only [List.set]
      have hab : pgOk (j : Int) (k : Int) := by unfold pgOk; omega
      obtain ⟨g2, y, ha, H2, fr⟩ := H.word (p := 0) (w := .frame (k : Int) true) hP0 hab (show 0 ≤ (k : Int) ∧ (k : Int) < 4 by omega) (by omega)
      have sm := H.M.smeth (nm := 25) (tbl := [(4, m_Sizes_word)]) (o := vFld [9, 10, 5] 2 (vVar 3)) (ms := aCons (vVar 5) (aCons (vVar 6) aNil)) (e := [Sc, some (.lst (T.map D.int)), some (.int (P : Int)), some (.ref 2), some (.ref kr), some (.int (j : Int)), some (.int (k : Int)), none, none, none, none, none, none, none, none, none, none, none]) (g2 := g) (ds := [.int (j : Int), .int (k : Int)]) (by simp [H.M.sizes_]) rfl rfl rfl
      rw [H.M.word_ok] at sm
      have ac := H.M.meth (nm := 31) (tbl := [(5, m_Memory_access)]) (o := vVar 3) (ms := aCons (vC (.int 0)) (aCons (vTup (aCons (vC (.str 10)) (aCons (vMeth 25 [(4, m_Sizes_word)] (vFld [9, 10, 5] 2 (vVar 3)) (aCons (vVar 5) (aCons (vVar 6) aNil))) (aCons (vTup (aCons (vC (.str 18)) (aCons (vVar 6) (aCons (vC (.bl true)) aNil)))) aNil)))) aNil)) (e := [Sc, some (.lst (T.map D.int)), some (.int (P : Int)), some (.ref 2), some (.ref kr), some (.int (j : Int)), some (.int (k : Int)), none, none, none, none, none, none, none, none, none, none, none]) (g2 := g) (ds := [.int ((0 : Nat) : Int), .tup [.str 10, .int (1 + (P : Int) + 8 * (j : Int) + (k : Int)), (Wd.frame (k : Int) true).d]]) rfl rfl rfl (by simp only [aCons_e, aNil_e, vC_e, vTup_s, Res.bind, sm, vVar_e, List.getElem?_cons_zero, List.getElem?_cons_succ, List.length_cons, List.length_nil, okL_s (show 0 + 1 + 1 + 1 < 1000 by decide)]; rfl)
      rw [ha] at ac
      simp only [sDrop_e, ac, sBind]
      exact ⟨_, _, _, rfl, H2, post_nil B.l (fun q q1 q2 => ack_word hab q2 (B.ak q q1 q2)), by simp; omega⟩
    · rintro e g ⟨S, log, e6, rfl, H, B, hl⟩
      exact ⟨S, log, _, _, rfl, H, B, by omega⟩
  · rintro e g ⟨S, log, e5, e6, rfl, H, B, hl⟩
    unfold c_law_13
    rw [sSeq_e]
    simp only [sAsg_e, vC_e, sBind, List.set]
    unfold c_law_12
    have d8 : divD g (.int (T.length : Int)) (.int 8) = some (.int ((T.length : Int) / 8)) := divD_e (by decide) (by decide)
    refine seq_rng (n := min 6 (1 + T.length / 8)) (Q := fun R => ∃ g', R = .rt (.bl true) g') (fun j e g => ∃ yA ld S log t e8 e9 e10 e11 e12 e13 e14 e15 e16 e17, e = [Sc, some (.lst (T.map D.int)), some (.int (P : Int)), some (.ref 2), some (.ref kr), e5, e6, some (.int t), e8, e9, e10, e11, e12, e13, e14, e15, e16, e17] ∧ Hq g P r bA xA yA ld S log [(kr, kerO a b c d t)] ∧ Post P t [] S ∧ 0 ≤ t ∧ log.length ≤ 8 + 820 * j) (rng_of (n := min 6 (1 + T.length / 8)) (by
      simp only [vCB_e, aCons_e, aNil_e, vOp_e, vC_e, vVar_e, List.getElem?_cons_zero, List.getElem?_cons_succ, Res.bind, lenD_lst, List.length_map, oR_some, d8, addD_int, min6]) (by omega)) ?_ ?_ ?_
    · exact ⟨yA, ld, S, log, 0, _, _, _, _, _, _, _, _, _, _, rfl, H, B, Int.le_refl 0, by omega⟩
    · rintro j e g hj ⟨yA, ld, S, log, t, e8, e9, e10, e11, e12, e13, e14, e15, e16, e17, rfl, H, B, ht, hl⟩
      refine ⟨_, rfl, ?_⟩
      simp only [List.set]
      unfold c_law_11
      have hj6 : j < 6 := by omega
      have a0 : m__law_at [.lst (T.map D.int), .int ((j : Int) + 1)] g = .ok (.int (tk T (j + 1))) g := at_ok T (j + 1) g
      obtain ⟨t0, t1⟩ := tk_nice hT (j + 1)
      have m7 : modD g (.int (tk T (j + 1))) (.int 7) = some (.int (tk T (j + 1) % 7)) := modD_e (by decide)
      obtain ⟨n, hn⟩ := Int.eq_ofNat_of_zero_le (show 0 ≤ tk T (j + 1) % 7 by omega)
      have hn7 : n < 7 := by omega
      refine seq_rng (n := n) (Q := fun R => StepOK R _ _) (fun k e g => ∃ yA ld S log e9 e10, e = [Sc, some (.lst (T.map D.int)), some (.int (P : Int)), some (.ref 2), some (.ref kr), e5, e6, some (.int t), some (.int (j : Int)), e9, e10, e11, e12, e13, e14, e15, e16, e17] ∧ Hq g P r bA xA yA ld S log [(kr, kerO a b c d t)] ∧ Post P t [] S ∧ log.length ≤ 8 + 820 * j + k) (rng_of (n := n) (by simp [a0, m7, hn]) (by omega)) ?_ ?_ ?_
      · exact ⟨yA, ld, S, log, _, _, rfl, H, B, by omega⟩
      · rintro k e g hk ⟨yA, ld, S, log, e9, e10, rfl, H, B, hl⟩
        refine ⟨_, rfl, ?_⟩
        simp only [List.set]
        have a1 : m__law_at [.lst (T.map D.int), .int ((j : Int) + (k : Int))] g = .ok (.int (tk T (j + k))) g := by
          have := at_ok T (j + k) g
          rw [show ((j + k : Nat) : Int) = (j : Int) + (k : Int) by omega] at this
          exact this
        obtain ⟨x0, x1⟩ := tk_nice hT (j + k)
        generalize tk T (j + k) = x at *
        have mP : modD g (.int x) (.int (P : Int)) = some (.int (x % (P : Int))) := modD_e (by omega)
        have dP : divD g (.int x) (.int (P : Int)) = some (.int (x / (P : Int))) := divD_e (by omega) (by omega)
        have p0 : 0 ≤ x % (P : Int) := Int.emod_nonneg _ (by omega)
        have p1 : x % (P : Int) < P := Int.emod_lt_of_pos _ (by omega)
        have d0 : 0 ≤ x / (P : Int) := Int.ediv_nonneg x0 (by omega)
        obtain ⟨p, hp⟩ := Int.eq_ofNat_of_zero_le p0
        rw [hp] at mP p1
        obtain ⟨g2, yA2, ld2, S2, log2, ho, H2, l2, o2⟩ := other_ok H (p := p) (by omega) d0 H.O.ll (by omega)
        have B2 := B.oth H.O (by omega) o2
        unfold c_law_10
        simp only [sSeq_e, sAsg_e, sDrop_e, vCall_e, aCons_e, aNil_e, vOp_e, vVar_e, vC_e, List.getElem?_cons_zero, List.getElem?_cons_succ, Res.bind, addD_int, oR_some, a1, sBind, List.set, mP, dP]
        rw [ho]
        exact ⟨yA2, ld2, S2, log2, _, _, rfl, H2, B2, by omega⟩
      · rintro e g ⟨yA, ld, S, log, e9, e10, rfl, H, B, hl⟩
        obtain ⟨g', yA', ld', S', log', t', f11, f12, f13, f14, f15, f16, f17, h1, H', B', ht', l'⟩ := turn_ok (Sc := Sc) (e5 := e5) (e6 := e6) (e9 := e9) (e10 := e10) (e11 := e11) (e12 := e12) (e13 := e13) (e14 := e14) (e15 := e15) (e16 := e16) (e17 := e17) (j := j) hP0 hP hT H B ht (by omega)
        rw [h1]
        exact ⟨yA', ld', S', log', t', _, _, _, _, _, _, _, _, _, _, rfl, H', B', ht', by omega⟩
    · rintro e g -
      exact ⟨g, rfl⟩
theorem wins : Wins m_law := by
  intro ns hn
  obtain ⟨T, hT, hTl, e0⟩ := tape_ok ns hn []
  have e1 : m__law_tape [.scr (ns.map D.int)] [] = .ok (.lst (T.map D.int)) [Ob.dead] := e0
  suffices h : ∃ g', b_law [some (.scr (ns.map D.int)), none, none, none, none, none, none, none, none, none, none, none, none, none, none, none, none, none] [] = .rt (.bl true) g' by
    obtain ⟨g', h⟩ := h
    refine ⟨g', ?_⟩
    show endM (b_law [some (.scr (ns.map D.int)), none, none, none, none, none, none, none, none, none, none, none, none, none, none, none, none, none] []) = _
    rw [h]
    rfl
  have a0 : m__law_at [.lst (T.map D.int), .int 0] [.dead] = .ok (.int (tk T 0)) [.dead] := at_ok T 0 [.dead]
  obtain ⟨k0, k1⟩ := tk_nice hT 0
  generalize tk T 0 = k at a0 k0 k1
  have m3 : modD [Ob.dead] (.int k) (.int 3) = some (.int (k % 3)) := modD_e (by decide)
  have hk : 1 + k % 3 = 1 ∨ 1 + k % 3 = 2 ∨ 1 + k % 3 = 3 := by omega
  unfold b_law c_law_17
  rw [sSeq_e]
  simp only [sAsg_e, vCall_e, aCons_e, aNil_e, vVar_e, List.getElem?_cons_zero, Res.bind, e1, sBind, List.set]
  rw [sSeq_e]
  simp only [sAsg_e, vOp_e, vC_e, vCall_e, aCons_e, aNil_e, vVar_e, List.getElem?_cons_zero, List.getElem?_cons_succ, Res.bind, a0, m3, addD_int, oR_some, sBind, List.set]
  rcases hk with h | h | h
  · rw [h, init1]
    exact loop_ok (P := 1) hT hTl (by decide) (by decide) st1 po1
  · rw [h, init2]
    exact loop_ok (P := 2) hT hTl (by decide) (by decide) st2 po2
  · rw [h, init3]
    exact loop_ok (P := 3) hT hTl (by decide) (by decide) st3 po3

end Z

/-! ### the head (printed by gen.py) -/
namespace Z
open PySem PySem.Spec PyProof.Rows L2 Y
abbrev R : PySem.W.OpenRow := PySem.W.OpenLaw.row PySem.Challenge.rw_frametally_k08_whole_invalidations
def D_Buffer_entries : He.DefD := ⟨("Buffer", some "entries"), "entries", "Buffer.entries", defArgs s_Buffer_entries, defBody s_Buffer_entries, defScope s_Buffer_entries, [], []⟩
def D_is_integer : He.DefD := ⟨("is_integer", none), "is_integer", "is_integer", defArgs s_is_integer, defBody s_is_integer, defScope s_is_integer, [], []⟩
def D_is_within : He.DefD := ⟨("is_within", none), "is_within", "is_within", defArgs s_is_within, defBody s_is_within, defScope s_is_within, [], []⟩
def D_Memory_check_cell : He.DefD := ⟨("Memory", some "check_cell"), "check_cell", "Memory.check_cell", defArgs s_Memory_check_cell, defBody s_Memory_check_cell, defScope s_Memory_check_cell, [], []⟩
def D_Memory_peek : He.DefD := ⟨("Memory", some "peek"), "peek", "Memory.peek", defArgs s_Memory_peek, defBody s_Memory_peek, defScope s_Memory_peek, [], []⟩
def D_Sizes_word : He.DefD := ⟨("Sizes", some "word"), "word", "Sizes.word", defArgs s_Sizes_word, defBody s_Sizes_word, defScope s_Sizes_word, [], []⟩
def D_Box_letters : He.DefD := ⟨("Box", some "letters"), "letters", "Box.letters", defArgs s_Box_letters, defBody s_Box_letters, defScope s_Box_letters, [], []⟩
def D__law_entries : He.DefD := ⟨("_law_entries", none), "_law_entries", "_law_entries", defArgs s__law_entries, defBody s__law_entries, defScope s__law_entries, [], []⟩
def D_Sizes_acknowledge : He.DefD := ⟨("Sizes", some "acknowledge"), "acknowledge", "Sizes.acknowledge", defArgs s_Sizes_acknowledge, defBody s_Sizes_acknowledge, defScope s_Sizes_acknowledge, [], []⟩
def D_Stack_value : He.DefD := ⟨("Stack", some "value"), "value", "Stack.value", defArgs s_Stack_value, defBody s_Stack_value, defScope s_Stack_value, [], []⟩
def D_Stack_ended : He.DefD := ⟨("Stack", some "ended"), "ended", "Stack.ended", defArgs s_Stack_ended, defBody s_Stack_ended, defScope s_Stack_ended, [], []⟩
def D_Invalidating_accept : He.DefD := ⟨("Invalidating", some "accept"), "accept", "Invalidating.accept", defArgs s_Invalidating_accept, defBody s_Invalidating_accept, defScope s_Invalidating_accept, [], []⟩
def D_Stack_pass_on : He.DefD := ⟨("Stack", some "pass_on"), "pass_on", "Stack.pass_on", defArgs s_Stack_pass_on, defBody s_Stack_pass_on, defScope s_Stack_pass_on, [], []⟩
def D_Invalidating_request : He.DefD := ⟨("Invalidating", some "request"), "request", "Invalidating.request", defArgs s_Invalidating_request, defBody s_Invalidating_request, defScope s_Invalidating_request, [], []⟩
def D_Stack_settle : He.DefD := ⟨("Stack", some "settle"), "settle", "Stack.settle", defArgs s_Stack_settle, defBody s_Stack_settle, defScope s_Stack_settle, [], []⟩
def D_Sizes_frame_cell : He.DefD := ⟨("Sizes", some "frame_cell"), "frame_cell", "Sizes.frame_cell", defArgs s_Sizes_frame_cell, defBody s_Sizes_frame_cell, defScope s_Sizes_frame_cell, [], []⟩
def D_Buffer_frame_for : He.DefD := ⟨("Buffer", some "frame_for"), "frame_for", "Buffer.frame_for", defArgs s_Buffer_frame_for, defBody s_Buffer_frame_for, defScope s_Buffer_frame_for, [], []⟩
def D_Memory_use : He.DefD := ⟨("Memory", some "use"), "use", "Memory.use", defArgs s_Memory_use, defBody s_Memory_use, defScope s_Memory_use, [], []⟩
def D_Buffer_drop : He.DefD := ⟨("Buffer", some "drop"), "drop", "Buffer.drop", defArgs s_Buffer_drop, defBody s_Buffer_drop, defScope s_Buffer_drop, [], []⟩
def D_Buffer_put : He.DefD := ⟨("Buffer", some "put"), "put", "Buffer.put", defArgs s_Buffer_put, defBody s_Buffer_put, defScope s_Buffer_put, [], []⟩
def D_Box_take : He.DefD := ⟨("Box", some "take"), "take", "Box.take", defArgs s_Box_take, defBody s_Box_take, defScope s_Box_take, [], []⟩
def D_Owners_is_free : He.DefD := ⟨("Owners", some "is_free"), "is_free", "Owners.is_free", defArgs s_Owners_is_free, defBody s_Owners_is_free, defScope s_Owners_is_free, [], []⟩
def D_Owners_take : He.DefD := ⟨("Owners", some "take"), "take", "Owners.take", defArgs s_Owners_take, defBody s_Owners_take, defScope s_Owners_take, [], []⟩
def D_Memory_take : He.DefD := ⟨("Memory", some "take"), "take", "Memory.take", defArgs s_Memory_take, defBody s_Memory_take, defScope s_Memory_take, [], []⟩
def D_Memory_cell_result : He.DefD := ⟨("Memory", some "cell_result"), "cell_result", "Memory.cell_result", defArgs s_Memory_cell_result, defBody s_Memory_cell_result, defScope s_Memory_cell_result, [], []⟩
def D_Memory_result : He.DefD := ⟨("Memory", some "result"), "result", "Memory.result", defArgs s_Memory_result, defBody s_Memory_result, defScope s_Memory_result, [], []⟩
def D_is_pair : He.DefD := ⟨("is_pair", none), "is_pair", "is_pair", defArgs s_is_pair, defBody s_is_pair, defScope s_is_pair, [], []⟩
def D_is_letter : He.DefD := ⟨("is_letter", none), "is_letter", "is_letter", defArgs s_is_letter, defBody s_is_letter, defScope s_is_letter, [], []⟩
def D_Box_send : He.DefD := ⟨("Box", some "send"), "send", "Box.send", defArgs s_Box_send, defBody s_Box_send, defScope s_Box_send, [], []⟩
def D_Memory_check_page : He.DefD := ⟨("Memory", some "check_page"), "check_page", "Memory.check_page", defArgs s_Memory_check_page, defBody s_Memory_check_page, defScope s_Memory_check_page, [], []⟩
def D_Memory_check_request : He.DefD := ⟨("Memory", some "check_request"), "check_request", "Memory.check_request", defArgs s_Memory_check_request, defBody s_Memory_check_request, defScope s_Memory_check_request, [], []⟩
def D_Memory_access : He.DefD := ⟨("Memory", some "access"), "access", "Memory.access", defArgs s_Memory_access, defBody s_Memory_access, defScope s_Memory_access, [], []⟩
def D_Stack_step : He.DefD := ⟨("Stack", some "step"), "step", "Stack.step", defArgs s_Stack_step, defBody s_Stack_step, defScope s_Stack_step, [], []⟩
def D__law_other : He.DefD := ⟨("_law_other", none), "_law_other", "_law_other", defArgs s__law_other, defBody s__law_other, defScope s__law_other, [], []⟩
def D__law_at : He.DefD := ⟨("_law_at", none), "_law_at", "_law_at", defArgs s__law_at, defBody s__law_at, defScope s__law_at, [], []⟩
def D__law_run : He.DefD := ⟨("_law_run", none), "_law_run", "_law_run", defArgs s__law_run, defBody s__law_run, defScope s__law_run, [], []⟩
def D_Stack___init__ : He.DefD := ⟨("Stack", some "__init__"), "__init__", "Stack.__init__", defArgs s_Stack___init__, defBody s_Stack___init__, defScope s_Stack___init__, [], []⟩
def D_Kernel_next_ticket : He.DefD := ⟨("Kernel", some "next_ticket"), "next_ticket", "Kernel.next_ticket", defArgs s_Kernel_next_ticket, defBody s_Kernel_next_ticket, defScope s_Kernel_next_ticket, [], []⟩
def D_Invalidating___init__ : He.DefD := ⟨("Invalidating", some "__init__"), "__init__", "Invalidating.__init__", defArgs s_Invalidating___init__, defBody s_Invalidating___init__, defScope s_Invalidating___init__, [], []⟩
def D__law_word : He.DefD := ⟨("_law_word", none), "_law_word", "_law_word", defArgs s__law_word, defBody s__law_word, defScope s__law_word, [], []⟩
def D__law_change : He.DefD := ⟨("_law_change", none), "_law_change", "_law_change", defArgs s__law_change, defBody s__law_change, defScope s__law_change, [], []⟩
def D_Hand___init__ : He.DefD := ⟨("Hand", some "__init__"), "__init__", "Hand.__init__", defArgs s_Hand___init__, defBody s_Hand___init__, defScope s_Hand___init__, [], []⟩
def D_Owners___init__ : He.DefD := ⟨("Owners", some "__init__"), "__init__", "Owners.__init__", defArgs s_Owners___init__, defBody s_Owners___init__, defScope s_Owners___init__, [], []⟩
def D_Kernel___init__ : He.DefD := ⟨("Kernel", some "__init__"), "__init__", "Kernel.__init__", defArgs s_Kernel___init__, defBody s_Kernel___init__, defScope s_Kernel___init__, [], []⟩
def D_Box___init__ : He.DefD := ⟨("Box", some "__init__"), "__init__", "Box.__init__", defArgs s_Box___init__, defBody s_Box___init__, defScope s_Box___init__, [], []⟩
def D_Buffer___init__ : He.DefD := ⟨("Buffer", some "__init__"), "__init__", "Buffer.__init__", defArgs s_Buffer___init__, defBody s_Buffer___init__, defScope s_Buffer___init__, [], []⟩
def D_first_values : He.DefD := ⟨("first_values", none), "first_values", "first_values", defArgs s_first_values, defBody s_first_values, defScope s_first_values, [], []⟩
def D_Memory___init__ : He.DefD := ⟨("Memory", some "__init__"), "__init__", "Memory.__init__", defArgs s_Memory___init__, defBody s_Memory___init__, defScope s_Memory___init__, [], []⟩
def D_Sizes___init__ : He.DefD := ⟨("Sizes", some "__init__"), "__init__", "Sizes.__init__", defArgs s_Sizes___init__, defBody s_Sizes___init__, defScope s_Sizes___init__, [], []⟩
def D__law_tape : He.DefD := ⟨("_law_tape", none), "_law_tape", "_law_tape", defArgs s__law_tape, defBody s__law_tape, defScope s__law_tape, [], []⟩
def D_law : He.DefD := ⟨("law", none), "law", "law", defArgs s_law, defBody s_law, defScope s_law, [], []⟩
def fn : List He.DefD := [D_Buffer_entries, D_is_integer, D_is_within, D_Memory_check_cell, D_Memory_peek, D_Sizes_word, D_Box_letters, D__law_entries, D_Sizes_acknowledge, D_Stack_value, D_Stack_ended, D_Invalidating_accept, D_Stack_pass_on, D_Invalidating_request, D_Stack_settle, D_Sizes_frame_cell, D_Buffer_frame_for, D_Memory_use, D_Buffer_drop, D_Buffer_put, D_Box_take, D_Owners_is_free, D_Owners_take, D_Memory_take, D_Memory_cell_result, D_Memory_result, D_is_pair, D_is_letter, D_Box_send, D_Memory_check_page] ++ [D_Memory_check_request, D_Memory_access, D_Stack_step, D__law_other, D__law_at, D__law_run, D_Stack___init__, D_Kernel_next_ticket, D_Invalidating___init__, D__law_word, D__law_change, D_Hand___init__, D_Owners___init__, D_Kernel___init__, D_Box___init__, D_Buffer___init__, D_first_values, D_Memory___init__, D_Sizes___init__, D__law_tape, D_law]
def fa : List He.Fa := [.glo "Stack", .glo "Owners", .glo "Hand", .glo "Box", .glo "Kernel", .glo "Invalidating", .glo "Buffer", .glo "Sizes", .glo "Memory", .glo "PageError", .glo "NotValid", .free "range", .free "len", .free "min", .cls "Memory", .noat "Memory" "rows", .cls "Buffer", .noat "Buffer" "rows", .cls "Box", .noat "Box" "rows", .free "list", .noat "Memory" "buffers", .noat "Memory" "held", .free "isinstance", .free "bool", .free "int", .exc "NotValid", .cls "Sizes", .noat "Sizes" "processors", .int "PAGES" (8)] ++ [.noat "Memory" "sizes", .cls "Invalidating", .noat "Invalidating" "sizes", .cls "Kernel", .noat "Kernel" "sizes", .noat "Memory" "boxes", .noat "Kernel" "ticket", .cls "Stack", .noat "Stack" "result", .noat "Stack" "machines", .noat "Memory" "count", .noat "Invalidating" "sends", .noat "Invalidating" "letter", .noat "Invalidating" "waits", .noat "Invalidating" "last", .int "SPACES" (4), .int "CELLS" (2), .int "MOST_ENTRIES" (2), .cls "Hand", .noat "Hand" "many", .cls "Owners", .noat "Owners" "many", .noat "Owners" "taken", .noat "Owners" "lists", .free "tuple", .free "all", .glo "LENGTHS", .noat "Kernel" "memory", .noat "Kernel" "hand", .noat "Hand" "place"] ++ [.noat "Sizes" "frames", .noat "Kernel" "frames", .noat "Sizes" "blocks", .noat "Kernel" "blocks", .noat "Kernel" "spaces", .int "FILES" (2), .int "FILE_PAGES" (4), .int "MOST_BLOCKS" (12), .int "MOST_FRAMES" (12), .int "LEAST_FRAMES" (2), .int "MOST_PROCESSORS" (3), .free "abs", .mkr "Stack", .mkr "Owners", .mkr "Hand", .mkr "Box", .mkr "Kernel", .mkr "Invalidating", .mkr "Buffer", .mkr "Sizes", .mkr "Memory", .meth "Buffer" "entries", .glo "is_integer", .glo "is_within", .meth "Memory" "check_cell", .meth "Memory" "peek", .meth "Sizes" "word", .meth "Box" "letters", .glo "_law_entries", .meth "Sizes" "acknowledge"] ++ [.meth "Stack" "value", .meth "Stack" "ended", .meth "Invalidating" "accept", .meth "Stack" "pass_on", .meth "Invalidating" "request", .meth "Stack" "settle", .meth "Sizes" "frame_cell", .meth "Buffer" "frame_for", .meth "Memory" "use", .meth "Buffer" "drop", .meth "Buffer" "put", .meth "Box" "take", .meth "Owners" "is_free", .meth "Owners" "take", .meth "Memory" "take", .meth "Memory" "cell_result", .meth "Memory" "result", .glo "is_pair", .glo "is_letter", .meth "Box" "send", .meth "Memory" "check_page", .meth "Memory" "check_request", .meth "Memory" "access", .meth "Stack" "step", .glo "_law_other", .glo "_law_at", .glo "_law_run", .meth "Kernel" "next_ticket", .glo "_law_word", .glo "_law_change"] ++ [.glo "first_values", .glo "_law_tape", .glo "law"]
def loose : List PySem.Str := (["_wall", "Stack", "PageError", "NotValid", "Owners", "Hand", "SPACES", "PAGES", "is_integer", "is_pair", "is_letter", "Box", "Kernel", "Invalidating", "MOST_ENTRIES", "Buffer", "CELLS", "FILES", "FILE_PAGES", "MOST_PROCESSORS", "LEAST_FRAMES", "MOST_FRAMES", "MOST_BLOCKS", "LENGTHS", "is_within", "Sizes", "first_values", "Memory", "_law_tape", "_law_at"] : List PySem.Str) ++ (["_law_word", "_law_other", "_law_entries", "_law_change", "_law_run"] : List PySem.Str)
def ex (K : PySem.W.Frag) : Bool := (kdB K (He.ga K "LENGTHS") TAB [.str 9, .str 10, .str 11, .str 12, .str 13, .str 14, .str 15, .str 16, .str 17] [.int 2, .int 3, .int 4, .int 3, .int 1, .int 3, .int 4, .int 5, .int 6])
def ts : List He.Tab := [(fun K => He.ga K "LENGTHS", ["read", "write", "swap", "send", "take", "walk", "load", "store", "change"])]
abbrev hk : PySem.W.Hook := He.hookX 4 fa fn ts [] ex
def ob (s : PySem.W.SharedT) : He.AlX := He.obsX 4 fa fn ts [] ex (HandSHeadRun.getT s)
theorem ob_eq (s : PySem.W.SharedT) : ob s = hk.obs s.abs := He.obsX_eq (HandSHeadRun.getT_eq s)
def ftK : String := "special-get-raises"
def ftW (w : World) (b : Bool) : World := { w with params := { w.params with followText := fun s => bif s == ftK then b else w.params.followText s } }
theorem ftW_eq (w : World) : ftW w (w.params.followText ftK) = w := by
  have e : (fun s => bif s == ftK then w.params.followText ftK else w.params.followText s) = w.params.followText := by
    funext s
    cases h : s == ftK with
    | true => rw [beq_iff_eq.mp h]; rfl
    | false => rfl
  show ({ w with params := { w.params with followText := fun s => bif s == ftK then w.params.followText ftK else w.params.followText s } } : World) = w
  rw [e]
theorem run0 (w : World) (b : Bool) : HandSHeadRun.RunEq R (PySem.W.view R.prog [43]) hk ob 9000 loose (ftW w b) := by
  intro os
  cases b <;> kernel_rfl
theorem run (w : World) : HandSHeadRun.RunEq R (PySem.W.view R.prog [43]) hk ob 9000 loose w := by
  rw [← ftW_eq w]
  exact run0 w _
abbrev kit (P : Program) (w : World) (K : PySem.W.Frag) (mg : Str → Option Value) (base : Heap) : Kit := ⟨P, w, K, mg, base, TAB, [He.ga K "PageError", He.ga K "NotValid", He.ga K "Buffer", He.ga K "Box", He.ga K "Sizes", He.ga K "Memory", He.ga K "Stack", He.ga K "Owners", He.ga K "Hand", He.ga K "Kernel", He.ga K "Invalidating"], tab_nd, tab_sk⟩
theorem facts {P : Program} {w : World} {K : PySem.W.Frag} {h base : Heap} {mg : Str → Option Value} (X : K.In h) (G : h.Ns mainGlobals mg) (ct : He.SaysT fa fn ts w K) (xt : ex K = true) :
    Facts (kit P w K mg base) := by
  have c := ct.d
  unfold ex at xt
  have EX0 := xt
  exact {
    tb := rfl
    k_Stack := ⟨_, rfl, He.glo_ok X G (c.fact 0 (f := .glo "Stack") rfl)⟩
    k_Owners := ⟨_, rfl, He.glo_ok X G (c.fact 1 (f := .glo "Owners") rfl)⟩
    k_Hand := ⟨_, rfl, He.glo_ok X G (c.fact 2 (f := .glo "Hand") rfl)⟩
    k_Box := ⟨_, rfl, He.glo_ok X G (c.fact 3 (f := .glo "Box") rfl)⟩
    k_Kernel := ⟨_, rfl, He.glo_ok X G (c.fact 4 (f := .glo "Kernel") rfl)⟩
    k_Invalidating := ⟨_, rfl, He.glo_ok X G (c.fact 5 (f := .glo "Invalidating") rfl)⟩
    k_Buffer := ⟨_, rfl, He.glo_ok X G (c.fact 6 (f := .glo "Buffer") rfl)⟩
    k_Sizes := ⟨_, rfl, He.glo_ok X G (c.fact 7 (f := .glo "Sizes") rfl)⟩
    k_Memory := ⟨_, rfl, He.glo_ok X G (c.fact 8 (f := .glo "Memory") rfl)⟩
    k_PageError := ⟨_, rfl, He.glo_ok X G (c.fact 9 (f := .glo "PageError") rfl)⟩
    k_NotValid := ⟨_, rfl, He.glo_ok X G (c.fact 10 (f := .glo "NotValid") rfl)⟩
    f_range := He.free_ok X G (c.fact 11 (f := .free "range") rfl)
    f_len := He.free_ok X G (c.fact 12 (f := .free "len") rfl)
    f_min := He.free_ok X G (c.fact 13 (f := .free "min") rfl)
    ca_rows := (ca_cons (c := 3) (C := He.ga K "Box") rfl (He.cls_ok (c.fact 18 (f := .cls "Box") rfl)) (He.noat_ok (c.fact 19 (f := .noat "Box" "rows") rfl)) (ca_cons (c := 2) (C := He.ga K "Buffer") rfl (He.cls_ok (c.fact 16 (f := .cls "Buffer") rfl)) (He.noat_ok (c.fact 17 (f := .noat "Buffer" "rows") rfl)) (ca_cons (c := 5) (C := He.ga K "Memory") rfl (He.cls_ok (c.fact 14 (f := .cls "Memory") rfl)) (He.noat_ok (c.fact 15 (f := .noat "Memory" "rows") rfl)) ca_nil)))
    f_list := He.free_ok X G (c.fact 20 (f := .free "list") rfl)
    ca_buffers := (ca_cons (c := 5) (C := He.ga K "Memory") rfl (He.cls_ok (c.fact 14 (f := .cls "Memory") rfl)) (He.noat_ok (c.fact 21 (f := .noat "Memory" "buffers") rfl)) ca_nil)
    ca_held := (ca_cons (c := 5) (C := He.ga K "Memory") rfl (He.cls_ok (c.fact 14 (f := .cls "Memory") rfl)) (He.noat_ok (c.fact 22 (f := .noat "Memory" "held") rfl)) ca_nil)
    f_isinstance := He.free_ok X G (c.fact 23 (f := .free "isinstance") rfl)
    f_bool := He.free_ok X G (c.fact 24 (f := .free "bool") rfl)
    f_int := He.free_ok X G (c.fact 25 (f := .free "int") rfl)
    x_NotValid := ⟨_, rfl, He.glo_ok X G (c.fact 10 (f := .glo "NotValid") rfl), (He.exc_ok (c.fact 26 (f := .exc "NotValid") rfl)).1, (He.exc_ok (c.fact 26 (f := .exc "NotValid") rfl)).2.1, (He.exc_ok (c.fact 26 (f := .exc "NotValid") rfl)).2.2.1, (He.exc_ok (c.fact 26 (f := .exc "NotValid") rfl)).2.2.2⟩
    ca_processors := (ca_cons (c := 4) (C := He.ga K "Sizes") rfl (He.cls_ok (c.fact 27 (f := .cls "Sizes") rfl)) (He.noat_ok (c.fact 28 (f := .noat "Sizes" "processors") rfl)) ca_nil)
    i_PAGES := He.int_ok X G (c.fact 29 (f := .int "PAGES" (8)) rfl)
    ca_sizes := (ca_cons (c := 9) (C := He.ga K "Kernel") rfl (He.cls_ok (c.fact 33 (f := .cls "Kernel") rfl)) (He.noat_ok (c.fact 34 (f := .noat "Kernel" "sizes") rfl)) (ca_cons (c := 10) (C := He.ga K "Invalidating") rfl (He.cls_ok (c.fact 31 (f := .cls "Invalidating") rfl)) (He.noat_ok (c.fact 32 (f := .noat "Invalidating" "sizes") rfl)) (ca_cons (c := 5) (C := He.ga K "Memory") rfl (He.cls_ok (c.fact 14 (f := .cls "Memory") rfl)) (He.noat_ok (c.fact 30 (f := .noat "Memory" "sizes") rfl)) ca_nil)))
    ca_boxes := (ca_cons (c := 5) (C := He.ga K "Memory") rfl (He.cls_ok (c.fact 14 (f := .cls "Memory") rfl)) (He.noat_ok (c.fact 35 (f := .noat "Memory" "boxes") rfl)) ca_nil)
    ca_ticket := (ca_cons (c := 9) (C := He.ga K "Kernel") rfl (He.cls_ok (c.fact 33 (f := .cls "Kernel") rfl)) (He.noat_ok (c.fact 36 (f := .noat "Kernel" "ticket") rfl)) ca_nil)
    ca_result := (ca_cons (c := 6) (C := He.ga K "Stack") rfl (He.cls_ok (c.fact 37 (f := .cls "Stack") rfl)) (He.noat_ok (c.fact 38 (f := .noat "Stack" "result") rfl)) ca_nil)
    ca_machines := (ca_cons (c := 6) (C := He.ga K "Stack") rfl (He.cls_ok (c.fact 37 (f := .cls "Stack") rfl)) (He.noat_ok (c.fact 39 (f := .noat "Stack" "machines") rfl)) ca_nil)
    ca_count := (ca_cons (c := 5) (C := He.ga K "Memory") rfl (He.cls_ok (c.fact 14 (f := .cls "Memory") rfl)) (He.noat_ok (c.fact 40 (f := .noat "Memory" "count") rfl)) ca_nil)
    ca_sends := (ca_cons (c := 10) (C := He.ga K "Invalidating") rfl (He.cls_ok (c.fact 31 (f := .cls "Invalidating") rfl)) (He.noat_ok (c.fact 41 (f := .noat "Invalidating" "sends") rfl)) ca_nil)
    ca_letter := (ca_cons (c := 10) (C := He.ga K "Invalidating") rfl (He.cls_ok (c.fact 31 (f := .cls "Invalidating") rfl)) (He.noat_ok (c.fact 42 (f := .noat "Invalidating" "letter") rfl)) ca_nil)
    ca_waits := (ca_cons (c := 10) (C := He.ga K "Invalidating") rfl (He.cls_ok (c.fact 31 (f := .cls "Invalidating") rfl)) (He.noat_ok (c.fact 43 (f := .noat "Invalidating" "waits") rfl)) ca_nil)
    ca_last := (ca_cons (c := 10) (C := He.ga K "Invalidating") rfl (He.cls_ok (c.fact 31 (f := .cls "Invalidating") rfl)) (He.noat_ok (c.fact 44 (f := .noat "Invalidating" "last") rfl)) ca_nil)
    i_SPACES := He.int_ok X G (c.fact 45 (f := .int "SPACES" (4)) rfl)
    i_CELLS := He.int_ok X G (c.fact 46 (f := .int "CELLS" (2)) rfl)
    i_MOST_ENTRIES := He.int_ok X G (c.fact 47 (f := .int "MOST_ENTRIES" (2)) rfl)
    ca_many := (ca_cons (c := 7) (C := He.ga K "Owners") rfl (He.cls_ok (c.fact 50 (f := .cls "Owners") rfl)) (He.noat_ok (c.fact 51 (f := .noat "Owners" "many") rfl)) (ca_cons (c := 8) (C := He.ga K "Hand") rfl (He.cls_ok (c.fact 48 (f := .cls "Hand") rfl)) (He.noat_ok (c.fact 49 (f := .noat "Hand" "many") rfl)) ca_nil))
    ca_taken := (ca_cons (c := 7) (C := He.ga K "Owners") rfl (He.cls_ok (c.fact 50 (f := .cls "Owners") rfl)) (He.noat_ok (c.fact 52 (f := .noat "Owners" "taken") rfl)) ca_nil)
    ca_lists := (ca_cons (c := 7) (C := He.ga K "Owners") rfl (He.cls_ok (c.fact 50 (f := .cls "Owners") rfl)) (He.noat_ok (c.fact 53 (f := .noat "Owners" "lists") rfl)) ca_nil)
    f_tuple := He.free_ok X G (c.fact 54 (f := .free "tuple") rfl)
    f_all := He.free_ok X G (c.fact 55 (f := .free "all") rfl)
    i_LENGTHS := ⟨_, He.glo_ok X G (c.fact 56 (f := .glo "LENGTHS") rfl), kdB_ok (Kt := kit P w K mg base) EX0 (ct.tab 0 rfl)⟩
    ca_memory := (ca_cons (c := 9) (C := He.ga K "Kernel") rfl (He.cls_ok (c.fact 33 (f := .cls "Kernel") rfl)) (He.noat_ok (c.fact 57 (f := .noat "Kernel" "memory") rfl)) ca_nil)
    ca_hand := (ca_cons (c := 9) (C := He.ga K "Kernel") rfl (He.cls_ok (c.fact 33 (f := .cls "Kernel") rfl)) (He.noat_ok (c.fact 58 (f := .noat "Kernel" "hand") rfl)) ca_nil)
    ca_place := (ca_cons (c := 8) (C := He.ga K "Hand") rfl (He.cls_ok (c.fact 48 (f := .cls "Hand") rfl)) (He.noat_ok (c.fact 59 (f := .noat "Hand" "place") rfl)) ca_nil)
    ca_frames := (ca_cons (c := 9) (C := He.ga K "Kernel") rfl (He.cls_ok (c.fact 33 (f := .cls "Kernel") rfl)) (He.noat_ok (c.fact 61 (f := .noat "Kernel" "frames") rfl)) (ca_cons (c := 4) (C := He.ga K "Sizes") rfl (He.cls_ok (c.fact 27 (f := .cls "Sizes") rfl)) (He.noat_ok (c.fact 60 (f := .noat "Sizes" "frames") rfl)) ca_nil))
    ca_blocks := (ca_cons (c := 9) (C := He.ga K "Kernel") rfl (He.cls_ok (c.fact 33 (f := .cls "Kernel") rfl)) (He.noat_ok (c.fact 63 (f := .noat "Kernel" "blocks") rfl)) (ca_cons (c := 4) (C := He.ga K "Sizes") rfl (He.cls_ok (c.fact 27 (f := .cls "Sizes") rfl)) (He.noat_ok (c.fact 62 (f := .noat "Sizes" "blocks") rfl)) ca_nil))
    ca_spaces := (ca_cons (c := 9) (C := He.ga K "Kernel") rfl (He.cls_ok (c.fact 33 (f := .cls "Kernel") rfl)) (He.noat_ok (c.fact 64 (f := .noat "Kernel" "spaces") rfl)) ca_nil)
    i_FILES := He.int_ok X G (c.fact 65 (f := .int "FILES" (2)) rfl)
    i_FILE_PAGES := He.int_ok X G (c.fact 66 (f := .int "FILE_PAGES" (4)) rfl)
    i_MOST_BLOCKS := He.int_ok X G (c.fact 67 (f := .int "MOST_BLOCKS" (12)) rfl)
    i_MOST_FRAMES := He.int_ok X G (c.fact 68 (f := .int "MOST_FRAMES" (12)) rfl)
    i_LEAST_FRAMES := He.int_ok X G (c.fact 69 (f := .int "LEAST_FRAMES" (2)) rfl)
    i_MOST_PROCESSORS := He.int_ok X G (c.fact 70 (f := .int "MOST_PROCESSORS" (3)) rfl)
    f_abs := He.free_ok X G (c.fact 71 (f := .free "abs") rfl)
    mk_Stack := fun C e => by cases e; exact ⟨_, He.mkr_ok (c.fact 72 (f := .mkr "Stack") rfl), c.def_ 36 (d := D_Stack___init__) rfl⟩
    mk_Owners := fun C e => by cases e; exact ⟨_, He.mkr_ok (c.fact 73 (f := .mkr "Owners") rfl), c.def_ 42 (d := D_Owners___init__) rfl⟩
    mk_Hand := fun C e => by cases e; exact ⟨_, He.mkr_ok (c.fact 74 (f := .mkr "Hand") rfl), c.def_ 41 (d := D_Hand___init__) rfl⟩
    mk_Box := fun C e => by cases e; exact ⟨_, He.mkr_ok (c.fact 75 (f := .mkr "Box") rfl), c.def_ 44 (d := D_Box___init__) rfl⟩
    mk_Kernel := fun C e => by cases e; exact ⟨_, He.mkr_ok (c.fact 76 (f := .mkr "Kernel") rfl), c.def_ 43 (d := D_Kernel___init__) rfl⟩
    mk_Invalidating := fun C e => by cases e; exact ⟨_, He.mkr_ok (c.fact 77 (f := .mkr "Invalidating") rfl), c.def_ 38 (d := D_Invalidating___init__) rfl⟩
    mk_Buffer := fun C e => by cases e; exact ⟨_, He.mkr_ok (c.fact 78 (f := .mkr "Buffer") rfl), c.def_ 45 (d := D_Buffer___init__) rfl⟩
    mk_Sizes := fun C e => by cases e; exact ⟨_, He.mkr_ok (c.fact 79 (f := .mkr "Sizes") rfl), c.def_ 48 (d := D_Sizes___init__) rfl⟩
    mk_Memory := fun C e => by cases e; exact ⟨_, He.mkr_ok (c.fact 80 (f := .mkr "Memory") rfl), c.def_ 47 (d := D_Memory___init__) rfl⟩
    d_Buffer_entries := fun C e => by cases e; exact ⟨He.cls_ok (c.fact 16 (f := .cls "Buffer") rfl), _, (c.def_ 0 (d := D_Buffer_entries) rfl).choose, He.meth_ok (c.fact 81 (f := .meth "Buffer" "entries") rfl), (c.def_ 0 (d := D_Buffer_entries) rfl).choose_spec⟩
    d_is_integer := ⟨_, (c.def_ 1 (d := D_is_integer) rfl).choose, He.glo_ok X G (c.fact 82 (f := .glo "is_integer") rfl), (c.def_ 1 (d := D_is_integer) rfl).choose_spec.kp, (c.def_ 1 (d := D_is_integer) rfl).choose_spec⟩
    d_is_within := ⟨_, (c.def_ 2 (d := D_is_within) rfl).choose, He.glo_ok X G (c.fact 83 (f := .glo "is_within") rfl), (c.def_ 2 (d := D_is_within) rfl).choose_spec.kp, (c.def_ 2 (d := D_is_within) rfl).choose_spec⟩
    d_Memory_check_cell := fun C e => by cases e; exact ⟨He.cls_ok (c.fact 14 (f := .cls "Memory") rfl), _, (c.def_ 3 (d := D_Memory_check_cell) rfl).choose, He.meth_ok (c.fact 84 (f := .meth "Memory" "check_cell") rfl), (c.def_ 3 (d := D_Memory_check_cell) rfl).choose_spec⟩
    d_Memory_peek := fun C e => by cases e; exact ⟨He.cls_ok (c.fact 14 (f := .cls "Memory") rfl), _, (c.def_ 4 (d := D_Memory_peek) rfl).choose, He.meth_ok (c.fact 85 (f := .meth "Memory" "peek") rfl), (c.def_ 4 (d := D_Memory_peek) rfl).choose_spec⟩
    d_Sizes_word := fun C e => by cases e; exact ⟨He.cls_ok (c.fact 27 (f := .cls "Sizes") rfl), _, (c.def_ 5 (d := D_Sizes_word) rfl).choose, He.meth_ok (c.fact 86 (f := .meth "Sizes" "word") rfl), (c.def_ 5 (d := D_Sizes_word) rfl).choose_spec⟩
    d_Box_letters := fun C e => by cases e; exact ⟨He.cls_ok (c.fact 18 (f := .cls "Box") rfl), _, (c.def_ 6 (d := D_Box_letters) rfl).choose, He.meth_ok (c.fact 87 (f := .meth "Box" "letters") rfl), (c.def_ 6 (d := D_Box_letters) rfl).choose_spec⟩
    d__law_entries := ⟨_, (c.def_ 7 (d := D__law_entries) rfl).choose, He.glo_ok X G (c.fact 88 (f := .glo "_law_entries") rfl), (c.def_ 7 (d := D__law_entries) rfl).choose_spec.kp, (c.def_ 7 (d := D__law_entries) rfl).choose_spec⟩
    d_Sizes_acknowledge := fun C e => by cases e; exact ⟨He.cls_ok (c.fact 27 (f := .cls "Sizes") rfl), _, (c.def_ 8 (d := D_Sizes_acknowledge) rfl).choose, He.meth_ok (c.fact 89 (f := .meth "Sizes" "acknowledge") rfl), (c.def_ 8 (d := D_Sizes_acknowledge) rfl).choose_spec⟩
    d_Stack_value := fun C e => by cases e; exact ⟨He.cls_ok (c.fact 37 (f := .cls "Stack") rfl), _, (c.def_ 9 (d := D_Stack_value) rfl).choose, He.meth_ok (c.fact 90 (f := .meth "Stack" "value") rfl), (c.def_ 9 (d := D_Stack_value) rfl).choose_spec⟩
    d_Stack_ended := fun C e => by cases e; exact ⟨He.cls_ok (c.fact 37 (f := .cls "Stack") rfl), _, (c.def_ 10 (d := D_Stack_ended) rfl).choose, He.meth_ok (c.fact 91 (f := .meth "Stack" "ended") rfl), (c.def_ 10 (d := D_Stack_ended) rfl).choose_spec⟩
    d_Invalidating_accept := fun C e => by cases e; exact ⟨He.cls_ok (c.fact 31 (f := .cls "Invalidating") rfl), _, (c.def_ 11 (d := D_Invalidating_accept) rfl).choose, He.meth_ok (c.fact 92 (f := .meth "Invalidating" "accept") rfl), (c.def_ 11 (d := D_Invalidating_accept) rfl).choose_spec⟩
    d_Stack_pass_on := fun C e => by cases e; exact ⟨He.cls_ok (c.fact 37 (f := .cls "Stack") rfl), _, (c.def_ 12 (d := D_Stack_pass_on) rfl).choose, He.meth_ok (c.fact 93 (f := .meth "Stack" "pass_on") rfl), (c.def_ 12 (d := D_Stack_pass_on) rfl).choose_spec⟩
    d_Invalidating_request := fun C e => by cases e; exact ⟨He.cls_ok (c.fact 31 (f := .cls "Invalidating") rfl), _, (c.def_ 13 (d := D_Invalidating_request) rfl).choose, He.meth_ok (c.fact 94 (f := .meth "Invalidating" "request") rfl), (c.def_ 13 (d := D_Invalidating_request) rfl).choose_spec⟩
    d_Stack_settle := fun C e => by cases e; exact ⟨He.cls_ok (c.fact 37 (f := .cls "Stack") rfl), _, (c.def_ 14 (d := D_Stack_settle) rfl).choose, He.meth_ok (c.fact 95 (f := .meth "Stack" "settle") rfl), (c.def_ 14 (d := D_Stack_settle) rfl).choose_spec⟩
    d_Sizes_frame_cell := fun C e => by cases e; exact ⟨He.cls_ok (c.fact 27 (f := .cls "Sizes") rfl), _, (c.def_ 15 (d := D_Sizes_frame_cell) rfl).choose, He.meth_ok (c.fact 96 (f := .meth "Sizes" "frame_cell") rfl), (c.def_ 15 (d := D_Sizes_frame_cell) rfl).choose_spec⟩
    d_Buffer_frame_for := fun C e => by cases e; exact ⟨He.cls_ok (c.fact 16 (f := .cls "Buffer") rfl), _, (c.def_ 16 (d := D_Buffer_frame_for) rfl).choose, He.meth_ok (c.fact 97 (f := .meth "Buffer" "frame_for") rfl), (c.def_ 16 (d := D_Buffer_frame_for) rfl).choose_spec⟩
    d_Memory_use := fun C e => by cases e; exact ⟨He.cls_ok (c.fact 14 (f := .cls "Memory") rfl), _, (c.def_ 17 (d := D_Memory_use) rfl).choose, He.meth_ok (c.fact 98 (f := .meth "Memory" "use") rfl), (c.def_ 17 (d := D_Memory_use) rfl).choose_spec⟩
    d_Buffer_drop := fun C e => by cases e; exact ⟨He.cls_ok (c.fact 16 (f := .cls "Buffer") rfl), _, (c.def_ 18 (d := D_Buffer_drop) rfl).choose, He.meth_ok (c.fact 99 (f := .meth "Buffer" "drop") rfl), (c.def_ 18 (d := D_Buffer_drop) rfl).choose_spec⟩
    d_Buffer_put := fun C e => by cases e; exact ⟨He.cls_ok (c.fact 16 (f := .cls "Buffer") rfl), _, (c.def_ 19 (d := D_Buffer_put) rfl).choose, He.meth_ok (c.fact 100 (f := .meth "Buffer" "put") rfl), (c.def_ 19 (d := D_Buffer_put) rfl).choose_spec⟩
    d_Box_take := fun C e => by cases e; exact ⟨He.cls_ok (c.fact 18 (f := .cls "Box") rfl), _, (c.def_ 20 (d := D_Box_take) rfl).choose, He.meth_ok (c.fact 101 (f := .meth "Box" "take") rfl), (c.def_ 20 (d := D_Box_take) rfl).choose_spec⟩
    d_Owners_is_free := fun C e => by cases e; exact ⟨He.cls_ok (c.fact 50 (f := .cls "Owners") rfl), _, (c.def_ 21 (d := D_Owners_is_free) rfl).choose, He.meth_ok (c.fact 102 (f := .meth "Owners" "is_free") rfl), (c.def_ 21 (d := D_Owners_is_free) rfl).choose_spec⟩
    d_Owners_take := fun C e => by cases e; exact ⟨He.cls_ok (c.fact 50 (f := .cls "Owners") rfl), _, (c.def_ 22 (d := D_Owners_take) rfl).choose, He.meth_ok (c.fact 103 (f := .meth "Owners" "take") rfl), (c.def_ 22 (d := D_Owners_take) rfl).choose_spec⟩
    d_Memory_take := fun C e => by cases e; exact ⟨He.cls_ok (c.fact 14 (f := .cls "Memory") rfl), _, (c.def_ 23 (d := D_Memory_take) rfl).choose, He.meth_ok (c.fact 104 (f := .meth "Memory" "take") rfl), (c.def_ 23 (d := D_Memory_take) rfl).choose_spec⟩
    d_Memory_cell_result := fun C e => by cases e; exact ⟨He.cls_ok (c.fact 14 (f := .cls "Memory") rfl), _, (c.def_ 24 (d := D_Memory_cell_result) rfl).choose, He.meth_ok (c.fact 105 (f := .meth "Memory" "cell_result") rfl), (c.def_ 24 (d := D_Memory_cell_result) rfl).choose_spec⟩
    d_Memory_result := fun C e => by cases e; exact ⟨He.cls_ok (c.fact 14 (f := .cls "Memory") rfl), _, (c.def_ 25 (d := D_Memory_result) rfl).choose, He.meth_ok (c.fact 106 (f := .meth "Memory" "result") rfl), (c.def_ 25 (d := D_Memory_result) rfl).choose_spec⟩
    d_is_pair := ⟨_, (c.def_ 26 (d := D_is_pair) rfl).choose, He.glo_ok X G (c.fact 107 (f := .glo "is_pair") rfl), (c.def_ 26 (d := D_is_pair) rfl).choose_spec.kp, (c.def_ 26 (d := D_is_pair) rfl).choose_spec⟩
    d_is_letter := ⟨_, (c.def_ 27 (d := D_is_letter) rfl).choose, He.glo_ok X G (c.fact 108 (f := .glo "is_letter") rfl), (c.def_ 27 (d := D_is_letter) rfl).choose_spec.kp, (c.def_ 27 (d := D_is_letter) rfl).choose_spec⟩
    d_Box_send := fun C e => by cases e; exact ⟨He.cls_ok (c.fact 18 (f := .cls "Box") rfl), _, (c.def_ 28 (d := D_Box_send) rfl).choose, He.meth_ok (c.fact 109 (f := .meth "Box" "send") rfl), (c.def_ 28 (d := D_Box_send) rfl).choose_spec⟩
    d_Memory_check_page := fun C e => by cases e; exact ⟨He.cls_ok (c.fact 14 (f := .cls "Memory") rfl), _, (c.def_ 29 (d := D_Memory_check_page) rfl).choose, He.meth_ok (c.fact 110 (f := .meth "Memory" "check_page") rfl), (c.def_ 29 (d := D_Memory_check_page) rfl).choose_spec⟩
    d_Memory_check_request := fun C e => by cases e; exact ⟨He.cls_ok (c.fact 14 (f := .cls "Memory") rfl), _, (c.def_ 30 (d := D_Memory_check_request) rfl).choose, He.meth_ok (c.fact 111 (f := .meth "Memory" "check_request") rfl), (c.def_ 30 (d := D_Memory_check_request) rfl).choose_spec⟩
    d_Memory_access := fun C e => by cases e; exact ⟨He.cls_ok (c.fact 14 (f := .cls "Memory") rfl), _, (c.def_ 31 (d := D_Memory_access) rfl).choose, He.meth_ok (c.fact 112 (f := .meth "Memory" "access") rfl), (c.def_ 31 (d := D_Memory_access) rfl).choose_spec⟩
    d_Stack_step := fun C e => by cases e; exact ⟨He.cls_ok (c.fact 37 (f := .cls "Stack") rfl), _, (c.def_ 32 (d := D_Stack_step) rfl).choose, He.meth_ok (c.fact 113 (f := .meth "Stack" "step") rfl), (c.def_ 32 (d := D_Stack_step) rfl).choose_spec⟩
    d__law_other := ⟨_, (c.def_ 33 (d := D__law_other) rfl).choose, He.glo_ok X G (c.fact 114 (f := .glo "_law_other") rfl), (c.def_ 33 (d := D__law_other) rfl).choose_spec.kp, (c.def_ 33 (d := D__law_other) rfl).choose_spec⟩
    d__law_at := ⟨_, (c.def_ 34 (d := D__law_at) rfl).choose, He.glo_ok X G (c.fact 115 (f := .glo "_law_at") rfl), (c.def_ 34 (d := D__law_at) rfl).choose_spec.kp, (c.def_ 34 (d := D__law_at) rfl).choose_spec⟩
    d__law_run := ⟨_, (c.def_ 35 (d := D__law_run) rfl).choose, He.glo_ok X G (c.fact 116 (f := .glo "_law_run") rfl), (c.def_ 35 (d := D__law_run) rfl).choose_spec.kp, (c.def_ 35 (d := D__law_run) rfl).choose_spec⟩
    d_Kernel_next_ticket := fun C e => by cases e; exact ⟨He.cls_ok (c.fact 33 (f := .cls "Kernel") rfl), _, (c.def_ 37 (d := D_Kernel_next_ticket) rfl).choose, He.meth_ok (c.fact 117 (f := .meth "Kernel" "next_ticket") rfl), (c.def_ 37 (d := D_Kernel_next_ticket) rfl).choose_spec⟩
    d__law_word := ⟨_, (c.def_ 39 (d := D__law_word) rfl).choose, He.glo_ok X G (c.fact 118 (f := .glo "_law_word") rfl), (c.def_ 39 (d := D__law_word) rfl).choose_spec.kp, (c.def_ 39 (d := D__law_word) rfl).choose_spec⟩
    d__law_change := ⟨_, (c.def_ 40 (d := D__law_change) rfl).choose, He.glo_ok X G (c.fact 119 (f := .glo "_law_change") rfl), (c.def_ 40 (d := D__law_change) rfl).choose_spec.kp, (c.def_ 40 (d := D__law_change) rfl).choose_spec⟩
    d_first_values := ⟨_, (c.def_ 46 (d := D_first_values) rfl).choose, He.glo_ok X G (c.fact 120 (f := .glo "first_values") rfl), (c.def_ 46 (d := D_first_values) rfl).choose_spec.kp, (c.def_ 46 (d := D_first_values) rfl).choose_spec⟩
    d__law_tape := ⟨_, (c.def_ 49 (d := D__law_tape) rfl).choose, He.glo_ok X G (c.fact 121 (f := .glo "_law_tape") rfl), (c.def_ 49 (d := D__law_tape) rfl).choose_spec.kp, (c.def_ 49 (d := D__law_tape) rfl).choose_spec⟩
    d_law := ⟨_, (c.def_ 50 (d := D_law) rfl).choose, He.glo_ok X G (c.fact 122 (f := .glo "law") rfl), (c.def_ 50 (d := D_law) rfl).choose_spec.kp, (c.def_ 50 (d := D_law) rfl).choose_spec⟩
  }
end Z
open PySem PySem.W PySem.Calls PyProof.Rows
set_option maxRecDepth 100000 in
set_option maxHeartbeats 0 in
theorem PySem.Challenge.cw_frametally_k08_whole_invalidations_holds : PySem.Challenge.rw_frametally_k08_whole_invalidations.Holds := by
  w_on; o_law
  refine HandSHeadRun.head_any (r := OpenLaw.row PySem.Challenge.rw_frametally_k08_whole_invalidations) (q := view (OpenLaw.row PySem.Challenge.rw_frametally_k08_whole_invalidations).prog [43]) (H := Z.hk) (ob := Z.ob) (M := 9000) (loose := Z.loose) (d := HandSHeadRun.topDef (OpenLaw.row PySem.Challenge.rw_frametally_k08_whole_invalidations).prog 43) (kwd := []) Z.ob_eq
    (by kernel_rfl) (fun s => by kernel_rfl) Z.run (by kernel_rfl) (by kernel_rfl) (by kernel_rfl) (by rfl) (by first | assumption | decide +kernel) (by decide +kernel) ⟨rfl, rfl, rfl, rfl, rfl, by decide +kernel⟩ ?hw ?hc
  case hw => w_witness2
  case hc =>
    refine Y.law_end (l := PySem.Challenge.rw_frametally_k08_whole_invalidations) (k := 8) (x := "_law_script") rfl (by kernel_rfl) ⟨rfl, by decide, by decide⟩ (by kernel_rfl) ?F
    intro w mg h Y G
    obtain ⟨K, KX, c⟩ := Y
    obtain ⟨f, fd, h1, h2, F⟩ := (Z.facts (P := (PySem.Challenge.rw_frametally_k08_whole_invalidations).prog) (w := w) (base := h) KX G c.t c.more).d_law
    refine ⟨K, f, fd, Z.m_law, KX, h1, fun s v => L2.FunD.bindsA (ps := ["_law_script"]) F (fun _ _ _ _ _ _ us hl => match us, hl with | [_], _ => rfl) s [v] rfl, Z.wins, fun base KB GB => ?_⟩
    exact (Z.law_ok (Z.facts (P := (PySem.Challenge.rw_frametally_k08_whole_invalidations).prog) (w := w) (base := base) KX G c.t c.more) F).imp (Y.law_sp (Kt := Z.kit (PySem.Challenge.rw_frametally_k08_whole_invalidations).prog w K mg base) Z.wins)

