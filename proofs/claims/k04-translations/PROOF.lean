import PyProof.Rows.All
import Wide.All
import OpenK.AllK
import Wide.FinOn
import HandS.ForMost
import HandS.ForExc
import HandS.Deep
import HandS.TryOnly
import HandS.IsInst
import HandS.Flow
import HandS.Sort
import HandS.SortKw
import HandS.SuiteRaise
import HandS.More
import HandS.Dict
import HandS.HeadEnd
import HandS.HeadHook4
import HandS.ExcOwn
import HandS.ExcIs
import HandS.SetFor
import HandS.Head2
import PySem.Challenge.RW_frametally_k04_whole_translations
set_option Elab.async false
set_option linter.all false
set_option maxRecDepth 100000
/-! Y: a layer over HandS: deep values D, a heap G of numbered objects, every def a total function over them. -/
namespace Y
open PySem PySem.Spec PyProof.Rows L2

/-- a value of the program as data: texts by their number in a table, mutable objects by their number -/
inductive D where
  | non | bl (b : Bool) | int (i : Int) | str (n : Nat)
  | tup (ds : List D) | lst (ds : List D) | scr (ds : List D) | ref (l : Nat) | rng (lo hi : Int) | dic (ks vs : List D)

/-- an object that may change -/
inductive Ob where
  | dead | lst (ds : List D) | ins (c : Nat) (fs : List (Nat × D)) | dct (t : Bool) (kvs : List (D × D))
abbrev G := List Ob

inductive Res (α : Type) where
  | ok (a : α) (g : G) | exn (c : Nat) (g : G) | stuck
abbrev En := List (Option D)
abbrev EM := En → G → Res D
abbrev TM := En → G → Res Bool
abbrev AM := En → G → Res (List D)
abbrev MF := List D → G → Res D
inductive SR where
  | nx (e : En) (g : G) | rt (d : D) (g : G) | bk (e : En) (g : G) | ct (e : En) (g : G) | exn (c : Nat) (e : En) (g : G) | stuck
abbrev SM := En → G → SR

@[simp] def Res.bind {α β : Type} (r : Res α) (k : α → G → Res β) : Res β := match r with
  | .ok a g => k a g
  | .exn c g => .exn c g
  | .stuck => .stuck

/-! ### equality of data -/
mutual
def deq : D → D → Bool
  | .non, .non => true
  | .bl a, .bl b => a == b
  | .bl a, .int j => (if a then 1 else 0) == j
  | .int i, .bl b => i == (if b then 1 else 0)
  | .int i, .int j => i == j
  | .str m, .str n => m == n
  | .tup xs, .tup ys => deqs xs ys
  | .lst xs, .lst ys => deqs xs ys
  | _, _ => false
def deqs : List D → List D → Bool
  | [], [] => true
  | x :: xs, y :: ys => deq x y && deqs xs ys
  | _, _ => false
end
/-- data at most so deep, without objects -/
def pud : Nat → D → Bool
  | _, .non => true
  | _, .bl _ => true
  | _, .int _ => true
  | _, .str _ => true
  | n + 1, .tup ds => ds.all (pud n)
  | n + 1, .lst ds => ds.all (pud n)
  | _, _ => false

/-! ### what is fixed through a proof -/
structure Kit where
  P : Program
  w : World
  K : PySem.W.Frag
  mg : Str → Option Value
  base : Heap
  tab : List Str
  cls : List Addr
  nd : tab.Nodup
  sk : tab.all PyData.strOk = true

/-- what a dict of the top holds at a text -/
def dicG : List D → List D → Nat → Option Int
  | .str k :: ks, .int v :: vs, m => bif k == m then some v else dicG ks vs m
  | _, _, _ => none
/-- a dict of the top -/
def KD (Kt : Kit) (a : Addr) (ks vs : List D) : Prop := (∃ es n, KDict Kt.K Kt.w a es n) ∧ ∀ (m : Nat) (x : Str), Kt.tab[m]? = some x → ∃ r : Option Value, PySem.W.nsIn Kt.K a x = some r ∧ (match dicG ks vs m with
  | some i => ∃ t, r = some (.int i t)
  | none => r = none)
mutual
inductive DV (Kt : Kit) (ι : List Addr) (F : Hp) : V → D → Prop
  | non : DV Kt ι F .non .non
  | bl (b : Bool) : DV Kt ι F (.bl b) (.bl b)
  | int (i : Int) : DV Kt ι F (.int i) (.int i)
  | str {n : Nat} {x : Str} : Kt.tab[n]? = some x → DV Kt ι F (.str x) (.str n)
  | tup {a : Addr} {vs : List V} {ds : List D} : F a = some (.tup vs) → DVs Kt ι F vs ds → DV Kt ι F (.ref a) (.tup ds)
  | lst {a : Addr} {vs : List V} {ds : List D} : F a = some (.lst vs) → DVs Kt ι F vs ds → DV Kt ι F (.ref a) (.lst ds)
  | scr {a : Addr} {vs : List V} {ds : List D} : SqL Kt.K F a vs → DVs Kt ι F vs ds → DV Kt ι F (.ref a) (.scr ds)
  | ref {l : Nat} {a : Addr} : ι[l]? = some a → DV Kt ι F (.ref a) (.ref l)
  | rng {a : Addr} {lo hi : Int} : F a = some (.rng lo hi) → DV Kt ι F (.ref a) (.rng lo hi)
  | dic {a : Addr} {k : D} {ks vs : List D} : KD Kt a (k :: ks) vs → DV Kt ι F (.ref a) (.dic (k :: ks) vs)
  | kt {a : Addr} {vs : List V} {ds : List D} : SqT Kt.K F a vs → DVs Kt ι F vs ds → DV Kt ι F (.ref a) (.dic [] ds)
inductive DVs (Kt : Kit) (ι : List Addr) (F : Hp) : List V → List D → Prop
  | nil : DVs Kt ι F [] []
  | cons {v : V} {d : D} {vs : List V} {ds : List D} : DV Kt ι F v d → DVs Kt ι F vs ds → DVs Kt ι F (v :: vs) (d :: ds)
end

/-- grows -/
structure Ex (ι : List Addr) (F : Hp) (ι' : List Addr) (F' : Hp) : Prop where
  i : ∀ (l : Nat) (a : Addr), ι[l]? = some a → ι'[l]? = some a
  f : ∀ a o, F a = some o → F' a = some o
theorem Ex.refl {ι : List Addr} {F : Hp} : Ex ι F ι F := ⟨fun _ _ h => h, fun _ _ h => h⟩
theorem Ex.trans {ι ι1 ι2 : List Addr} {F F1 F2 : Hp} (a : Ex ι F ι1 F1) (b : Ex ι1 F1 ι2 F2) : Ex ι F ι2 F2 := ⟨fun l x h => b.i l x (a.i l x h), fun l x h => b.f l x (a.f l x h)⟩
theorem rd_mono {F F' : Hp} (f : ∀ a o, F a = some o → F' a = some o) {a : Addr} {u : HO} (h : Rd F a u) : Rd F' a u := by
  rcases h with h | ⟨o, h⟩
  · exact .inl (f _ _ h)
  · exact .inr ⟨o, f _ _ h⟩
theorem sqt_mono {K : PySem.W.Frag} {F F' : Hp} (f : ∀ a o, F a = some o → F' a = some o) {a : Addr} {xs : List V} (h : SqT K F a xs) : SqT K F' a xs := by
  rcases h with h | h
  · exact .inl (rd_mono f h)
  · exact .inr h
theorem tS {K : PySem.W.Frag} {F : Hp} {a : Addr} {xs : List V} (h : F a = some (.tup xs)) : SqT K F a xs := .inl (.inl h)
theorem sql_mono {K : PySem.W.Frag} {F F' : Hp} (f : ∀ a o, F a = some o → F' a = some o) {a : Addr} {xs : List V} (h : SqL K F a xs) : SqL K F' a xs := by
  rcases h with h | h
  · exact .inl (rd_mono f h)
  · exact .inr h
mutual
theorem DV.mono {Kt : Kit} {ι ι' : List Addr} {F F' : Hp} (x : Ex ι F ι' F') : ∀ {v : V} {d : D}, DV Kt ι F v d → DV Kt ι' F' v d
  | _, _, .non => .non
  | _, _, .bl b => .bl b
  | _, _, .int i => .int i
  | _, _, .str h => .str h
  | _, _, .tup h r => .tup (x.f _ _ h) (DVs.mono x r)
  | _, _, .lst h r => .lst (x.f _ _ h) (DVs.mono x r)
  | _, _, .scr h r => .scr (sql_mono x.f h) (DVs.mono x r)
  | _, _, .ref h => .ref (x.i _ _ h)
  | _, _, .rng h => .rng (x.f _ _ h)
  | _, _, .dic h => .dic h
  | _, _, .kt h r => .kt (sqt_mono x.f h) (DVs.mono x r)
theorem DVs.mono {Kt : Kit} {ι ι' : List Addr} {F F' : Hp} (x : Ex ι F ι' F') : ∀ {v : List V} {d : List D}, DVs Kt ι F v d → DVs Kt ι' F' v d
  | _, _, .nil => .nil
  | _, _, .cons h r => .cons (DV.mono x h) (DVs.mono x r)
end
section
variable {Kt : Kit} {ι : List Addr} {F : Hp}
theorem DVs.length : ∀ {vs : List V} {ds : List D}, DVs Kt ι F vs ds → vs.length = ds.length
  | _, _, .nil => rfl
  | _, _, .cons _ r => congrArg (· + 1) (DVs.length r)
theorem DVs.append : ∀ {vs ws : List V} {ds es : List D}, DVs Kt ι F vs ds → DVs Kt ι F ws es → DVs Kt ι F (vs ++ ws) (ds ++ es)
  | _, _, _, _, .nil, s => s
  | _, _, _, _, .cons h r, s => .cons h (DVs.append r s)
theorem DVs.get : ∀ {vs : List V} {ds : List D} {i : Nat} {d : D}, DVs Kt ι F vs ds → ds[i]? = some d → ∃ v, vs[i]? = some v ∧ DV Kt ι F v d
  | _, _, _, _, .nil, e => by simp at e
  | _, _, 0, _, .cons r _, e => by simp at e; subst e; exact ⟨_, rfl, r⟩
  | _, _, i + 1, d, .cons _ t, e => by
    obtain ⟨v, h1, h2⟩ := DVs.get (i := i) (d := d) t (by simpa using e)
    exact ⟨v, by simpa using h1, h2⟩
theorem DVs.get' : ∀ {vs : List V} {ds : List D} {i : Nat} {v : V}, DVs Kt ι F vs ds → vs[i]? = some v → ∃ d, ds[i]? = some d ∧ DV Kt ι F v d
  | _, _, _, _, .nil, e => by simp at e
  | _, _, 0, _, .cons r _, e => by simp at e; subst e; exact ⟨_, rfl, r⟩
  | _, _, i + 1, d, .cons _ t, e => by
    obtain ⟨v, h1, h2⟩ := DVs.get' (i := i) (v := d) t (by simpa using e)
    exact ⟨v, by simpa using h1, h2⟩
theorem DVs.take : ∀ {vs : List V} {ds : List D} (n : Nat), DVs Kt ι F vs ds → DVs Kt ι F (vs.take n) (ds.take n)
  | _, _, 0, _ => by simp; exact .nil
  | _, _, _ + 1, .nil => .nil
  | _, _, n + 1, .cons h r => .cons h (DVs.take n r)
theorem DVs.drop : ∀ {vs : List V} {ds : List D} (n : Nat), DVs Kt ι F vs ds → DVs Kt ι F (vs.drop n) (ds.drop n)
  | _, _, 0, h => by simpa using h
  | _, _, _ + 1, .nil => .nil
  | _, _, n + 1, .cons _ r => DVs.drop n r
theorem DVs.set {v : V} {d : D} (h : DV Kt ι F v d) : ∀ {vs : List V} {ds : List D} (n : Nat), DVs Kt ι F vs ds → DVs Kt ι F (vs.set n v) (ds.set n d)
  | _, _, _, .nil => .nil
  | _, _, 0, .cons _ r => .cons h r
  | _, _, n + 1, .cons q r => .cons q (DVs.set h n r)
theorem DVs.one {v : V} {d : D} (h : DV Kt ι F v d) : DVs Kt ι F [v] [d] := .cons h .nil
theorem DVs.rep {vs : List V} {ds : List D} (h : DVs Kt ι F vs ds) : ∀ k : Nat, DVs Kt ι F (List.replicate k vs).flatten (List.replicate k ds).flatten
  | 0 => .nil
  | k + 1 => by
    rw [List.replicate_succ, List.replicate_succ, List.flatten_cons, List.flatten_cons]
    exact h.append (DVs.rep h k)
theorem DVs.eraseIdx : ∀ {vs : List V} {ds : List D} (n : Nat), DVs Kt ι F vs ds → DVs Kt ι F (vs.eraseIdx n) (ds.eraseIdx n)
  | _, _, _, .nil => .nil
  | _, _, 0, .cons _ r => r
  | _, _, n + 1, .cons q r => .cons q (DVs.eraseIdx n r)
end

/-! ### objects -/
/-- attributes -/
inductive FR (Kt : Kit) (ι : List Addr) (F : Hp) : List (Str × V) → List (Nat × D) → Prop
  | nil : FR Kt ι F [] []
  | cons {x : Str} {n : Nat} {v : V} {d : D} {fs : List (Str × V)} {gs : List (Nat × D)} : Kt.tab[n]? = some x → DV Kt ι F v d → FR Kt ι F fs gs → FR Kt ι F ((x, v) :: fs) ((n, d) :: gs)
/-- a dict's pairs: keys ints and texts -/
inductive KR (Kt : Kit) (ι : List Addr) (F : Hp) : List (Key × V) → List (D × D) → Prop
  | nil : KR Kt ι F [] []
  | cons {k : Key} {v : V} {d e : D} {r : List (Key × V)} {s : List (D × D)} : DV Kt ι F (kV k) d → DV Kt ι F v e → KR Kt ι F r s → KR Kt ι F ((k, v) :: r) ((d, e) :: s)
/-- .. keys tuples of these -/
inductive KRT (Kt : Kit) (ι : List Addr) (F : Hp) : List (List Key × V) → List (D × D) → Prop
  | nil : KRT Kt ι F [] []
  | cons {k : List Key} {v : V} {ds : List D} {e : D} {r : List (List Key × V)} {s : List (D × D)} : DVs Kt ι F (k.map kV) ds → DV Kt ι F v e → KRT Kt ι F r s → KRT Kt ι F ((k, v) :: r) ((.tup ds, e) :: s)
theorem KR.mono {Kt : Kit} {ι ι' : List Addr} {F F' : Hp} (x : Ex ι F ι' F') : ∀ {fs : List (Key × V)} {gs : List (D × D)}, KR Kt ι F fs gs → KR Kt ι' F' fs gs
  | _, _, .nil => .nil
  | _, _, .cons e h r => .cons (e.mono x) (h.mono x) (KR.mono x r)
theorem KRT.mono {Kt : Kit} {ι ι' : List Addr} {F F' : Hp} (x : Ex ι F ι' F') : ∀ {fs : List (List Key × V)} {gs : List (D × D)}, KRT Kt ι F fs gs → KRT Kt ι' F' fs gs
  | _, _, .nil => .nil
  | _, _, .cons e h r => .cons (e.mono x) (h.mono x) (KRT.mono x r)
def ObR (Kt : Kit) (ι : List Addr) (F H : Hp) (a : Addr) : Ob → Prop
  | .dead => True
  | .lst ds => F a = none ∧ ∃ vs, H a = some (.lst vs) ∧ DVs Kt ι F vs ds
  | .ins c fs => F a = none ∧ ∃ C dx gs, Kt.cls[c]? = some C ∧ H a = some (.ins C dx gs) ∧ FR Kt ι F gs fs
  | .dct t kvs => F a = none ∧ (match t with
    | false => ∃ us, H a = some (.dK us) ∧ KR Kt ι F us kvs
    | true => ∃ us, H a = some (.dT us) ∧ KRT Kt ι F us kvs)
structure RelG (Kt : Kit) (Φ : Hp) (ι : List Addr) (F : Hp) (g : G) (H : Hp) : Prop where
  len : ι.length = g.length
  inj : ∀ (i j : Nat) (a : Addr), ι[i]? = some a → ι[j]? = some a → i = j
  sub : ∀ a o, F a = some o → H a = some o
  on : ∀ (i : Nat) (a : Addr), ι[i]? = some a → H a ≠ none
  fr : ∀ a o, Φ a = some o → H a = some o ∧ F a = none ∧ ∀ i : Nat, ι[i]? ≠ some a
  ob : ∀ (l : Nat) (a : Addr) (o : Ob), g[l]? = some o → ι[l]? = some a → ObR Kt ι F H a o
theorem FR.mono {Kt : Kit} {ι ι' : List Addr} {F F' : Hp} (x : Ex ι F ι' F') : ∀ {fs : List (Str × V)} {gs : List (Nat × D)}, FR Kt ι F fs gs → FR Kt ι' F' fs gs
  | _, _, .nil => .nil
  | _, _, .cons e h r => .cons e (h.mono x) (FR.mono x r)
theorem FR.length {Kt : Kit} {ι : List Addr} {F : Hp} : ∀ {fs : List (Str × V)} {gs : List (Nat × D)}, FR Kt ι F fs gs → fs.length = gs.length
  | _, _, .nil => rfl
  | _, _, .cons _ _ r => congrArg (· + 1) (FR.length r)
theorem tab_inj {Kt : Kit} {m n : Nat} {x : Str} (h : Kt.tab[m]? = some x) (k : Kt.tab[n]? = some x) : m = n := nodup_ix Kt.nd h k
/-- an attribute -/
def lkA (n : Nat) : List (Nat × D) → Option D
  | [] => none
  | (m, d) :: r => if m = n then some d else lkA n r
def putA (n : Nat) (v : D) : List (Nat × D) → List (Nat × D)
  | [] => [(n, v)]
  | (m, d) :: r => if m = n then (m, v) :: r else (m, d) :: putA n v r
theorem FR.look {Kt : Kit} {ι : List Addr} {F : Hp} {n : Nat} {x : Str} (hx : Kt.tab[n]? = some x) : ∀ {fs : List (Str × V)} {gs : List (Nat × D)}, FR Kt ι F fs gs → ∀ {d : D}, lkA n gs = some d → ∃ v, fs.lookup x = some v ∧ DV Kt ι F v d
  | _, _, .nil, d, h => by simp [lkA] at h
  | _, _, .cons (x := y) (n := m) e q r, d, h => by
    unfold lkA at h
    by_cases z : m = n
    · rw [if_pos z] at h
      cases h
      subst z
      rw [e] at hx; cases hx
      exact ⟨_, by simp [List.lookup], q⟩
    · rw [if_neg z] at h
      obtain ⟨v, h1, h2⟩ := FR.look hx r h
      refine ⟨v, ?_, h2⟩
      have hne : (x == y) = false := by
        apply beq_eq_false_iff_ne.mpr
        rintro rfl
        exact z (tab_inj e hx)
      simp only [List.lookup, hne, h1]
theorem FR.nolook {Kt : Kit} {ι : List Addr} {F : Hp} {n : Nat} {x : Str} (hx : Kt.tab[n]? = some x) : ∀ {fs : List (Str × V)} {gs : List (Nat × D)}, FR Kt ι F fs gs → lkA n gs = none → fs.lookup x = none
  | _, _, .nil, h => rfl
  | _, _, .cons (x := y) (n := m) e q r, h => by
    unfold lkA at h
    by_cases z : m = n
    · rw [if_pos z] at h; cases h
    · rw [if_neg z] at h
      have h1 := FR.nolook hx r h
      have hne : (x == y) = false := by
        apply beq_eq_false_iff_ne.mpr
        rintro rfl
        exact z (tab_inj e hx)
      simp only [List.lookup, hne, h1]
theorem FR.put {Kt : Kit} {ι : List Addr} {F : Hp} {n : Nat} {x : Str} {v : V} {d : D} (hx : Kt.tab[n]? = some x) (hv : DV Kt ι F v d) : ∀ {fs : List (Str × V)} {gs : List (Nat × D)}, FR Kt ι F fs gs → FR Kt ι F (putF x v fs) (putA n d gs)
  | _, _, .nil => .cons hx hv .nil
  | _, _, .cons (x := y) (n := m) e q r => by
    unfold putA putF
    by_cases z : m = n
    · subst z
      rw [e] at hx; cases hx
      rw [if_pos rfl, if_pos rfl]
      exact .cons e hv r
    · have z' : ¬ y = x := by
        rintro rfl
        exact z (tab_inj e hx)
      rw [if_neg z, if_neg z']
      exact .cons e q (FR.put hx hv r)
theorem ObR.mono {Kt : Kit} {ι ι' : List Addr} {F F' H H' : Hp} (x : Ex ι F ι' F') {a : Addr} (h : H' a = H a) (hf : F a = none → F' a = none) : ∀ {o : Ob}, ObR Kt ι F H a o → ObR Kt ι' F' H' a o
  | .dead, _ => trivial
  | .lst ds, ⟨n, vs, e, r⟩ => ⟨hf n, vs, h.trans e, r.mono x⟩
  | .ins c fs, ⟨n, C, dx, gs, e1, e2, r⟩ => ⟨hf n, C, dx, gs, e1, h.trans e2, r.mono x⟩
  | .dct false _, ⟨n, us, e, r⟩ => ⟨hf n, us, h.trans e, r.mono x⟩
  | .dct true _, ⟨n, us, e, r⟩ => ⟨hf n, us, h.trans e, r.mono x⟩
section
variable {Kt : Kit} {Φ : Hp} {ι : List Addr} {F H : Hp} {g : G}
/-- a new thing that never changes -/
theorem RelG.frz (R : RelG Kt Φ ι F g H) {p : Addr} (hp : H p = none) (o : HO) : RelG Kt Φ ι (upd F p o) g (upd H p o) ∧ Ex ι F ι (upd F p o) := by
  have fp : F p = none := by
    cases e : F p with
    | none => rfl
    | some u => rw [R.sub p u e] at hp; cases hp
  have x : Ex ι F ι (upd F p o) := ⟨fun _ _ h => h, fun a u h => by rw [upd_ne (ne_of_none h fp)]; exact h⟩
  have np : ∀ (l : Nat) (a : Addr), ι[l]? = some a → a ≠ p := fun l a e z => R.on l a e (z ▸ hp)
  refine ⟨⟨R.len, R.inj, fun a u h => ?_, fun i a e => ?_, fun a u h => ?_, fun l a ob e1 e2 => ?_⟩, x⟩
  · by_cases z : a = p
    · subst z; rw [upd_same] at h ⊢; exact h
    · rw [upd_ne z] at h ⊢; exact R.sub a u h
  · rw [upd_ne (np i a e)]; exact R.on i a e
  · obtain ⟨h1, h2, h3⟩ := R.fr a u h
    rw [upd_ne (ne_of_none h1 hp), upd_ne (ne_of_none h1 hp)]
    exact ⟨h1, h2, h3⟩
  · exact (R.ob l a ob e1 e2).mono x (upd_ne (np l a e2)) fun n => by rw [upd_ne (np l a e2)]; exact n
/-- a new object -/
theorem RelG.new (R : RelG Kt Φ ι F g H) {H' : Hp} {p : Addr} (hp : H p = none) (hH : ∀ a o, H a = some o → H' a = some o) (hp' : H' p ≠ none) {o : Ob} (ho : ObR Kt (ι ++ [p]) F H' p o) : RelG Kt Φ (ι ++ [p]) F (g ++ [o]) H' ∧ Ex ι F (ι ++ [p]) F := by
  have x : Ex ι F (ι ++ [p]) F := ⟨fun l a h => by rw [List.getElem?_append_left (List.getElem?_eq_some_iff.mp h).1]; exact h, fun _ _ h => h⟩
  have np : ∀ (l : Nat) (a : Addr), ι[l]? = some a → a ≠ p := fun l a e z => R.on l a e (z ▸ hp)
  have sp : ∀ (l : Nat) (a : Addr), (ι ++ [p])[l]? = some a → ι[l]? = some a ∨ (l = ι.length ∧ a = p) := fun l a e => by
    by_cases z : l < ι.length
    · rw [List.getElem?_append_left z] at e; exact .inl e
    · rw [List.getElem?_append_right (by omega)] at e
      have : l - ι.length = 0 := by
        have := (List.getElem?_eq_some_iff.mp e).1
        simp at this; omega
      rw [this] at e
      simp at e
      exact .inr ⟨by omega, e.symm⟩
  refine ⟨⟨by simp [R.len], fun i j a h1 h2 => ?_, fun a u h => hH a u (R.sub a u h), fun i a e => ?_, fun a u h => ?_, fun l a ob e1 e2 => ?_⟩, x⟩
  · rcases sp i a h1 with h1 | ⟨h1, e1⟩ <;> rcases sp j a h2 with h2 | ⟨h2, e2⟩
    · exact R.inj i j a h1 h2
    · exact absurd e2 (np i a h1)
    · exact absurd e1 (np j a h2)
    · omega
  · rcases sp i a e with e | ⟨_, e⟩
    · cases q : H a with
      | none => exact absurd q (R.on i a e)
      | some u => rw [hH a u q]; simp
    · rw [e]; exact hp'
  · obtain ⟨h1, h2, h3⟩ := R.fr a u h
    refine ⟨hH a u h1, h2, fun i q => ?_⟩
    rcases sp i a q with q | ⟨_, q⟩
    · exact h3 i q
    · exact (ne_of_none h1 hp) q
  · rcases sp l a e2 with e2 | ⟨e2, e3⟩
    · have hl : l < g.length := by rw [← R.len]; exact (List.getElem?_eq_some_iff.mp e2).1
      rw [List.getElem?_append_left hl] at e1
      cases q : H a with
      | none => exact absurd q (R.on l a e2)
      | some u => exact (R.ob l a ob e1 e2).mono x (by rw [hH a u q, q]) fun n => n
    · rw [e2, R.len, List.getElem?_append_right (Nat.le_refl _), Nat.sub_self] at e1
      simp at e1
      subst e1; subst e3
      exact ho
/-- an object changes -/
theorem RelG.put (R : RelG Kt Φ ι F g H) {l : Nat} {a : Addr} (e : ι[l]? = some a) (hF : F a = none) {u : HO} {o : Ob} (ho : ObR Kt ι F (upd H a u) a o) : RelG Kt Φ ι F (g.set l o) (upd H a u) := by
  refine ⟨by simp [R.len], R.inj, fun b v h => ?_, fun i b h => ?_, fun b v h => ?_, fun m b ob e1 e2 => ?_⟩
  · rw [upd_ne (ne_of_none h hF)]; exact R.sub b v h
  · by_cases z : b = a
    · subst z; rw [upd_same]; simp
    · rw [upd_ne z]; exact R.on i b h
  · obtain ⟨h1, h2, h3⟩ := R.fr b v h
    have nb : b ≠ a := fun z => h3 l (by rw [z]; exact e)
    rw [upd_ne nb]
    exact ⟨h1, h2, h3⟩
  · by_cases z : m = l
    · subst z
      rw [e] at e2; cases e2
      have hl : m < g.length := by rw [← R.len]; exact (List.getElem?_eq_some_iff.mp e).1
      rw [List.getElem?_set_self hl] at e1
      cases e1
      exact ho
    · rw [List.getElem?_set_ne (Ne.symm z)] at e1
      have zb : b ≠ a := fun q => z (R.inj m l a (q ▸ e2) e)
      exact (R.ob m b ob e1 e2).mono Ex.refl (upd_ne zb) fun n => n
/-- a list that nobody changes any more -/
theorem RelG.done (R : RelG Kt Φ ι F g H) {l : Nat} {ds : List D} (h : g[l]? = some (.lst ds)) :
    ∃ a vs, ι[l]? = some a ∧ RelG Kt Φ ι (upd F a (.lst vs)) (g.set l .dead) H ∧ Ex ι F ι (upd F a (.lst vs)) ∧ DV Kt ι (upd F a (.lst vs)) (.ref a) (.lst ds) := by
  have hl : l < ι.length := by rw [R.len]; exact (List.getElem?_eq_some_iff.mp h).1
  have e : ι[l]? = some ι[l] := List.getElem?_eq_getElem hl
  obtain ⟨hF, vs, hH, r⟩ : F ι[l] = none ∧ ∃ vs, H ι[l] = some (.lst vs) ∧ DVs Kt ι F vs ds := R.ob l _ _ h e
  have x : Ex ι F ι (upd F ι[l] (.lst vs)) := ⟨fun _ _ h => h, fun a u h => by rw [upd_ne (ne_of_none h hF)]; exact h⟩
  refine ⟨ι[l], vs, e, ⟨by simp [R.len], R.inj, fun b v q => ?_, R.on, fun b v q => ?_, fun m b ob e1 e2 => ?_⟩, x, .lst upd_same (r.mono x)⟩
  · by_cases z : b = ι[l]
    · subst z; rw [upd_same] at q; cases q; exact hH
    · rw [upd_ne z] at q; exact R.sub b v q
  · obtain ⟨h1, h2, h3⟩ := R.fr b v q
    have nb : b ≠ ι[l] := fun z => h3 l (by rw [z]; exact e)
    rw [upd_ne nb]
    exact ⟨h1, h2, h3⟩
  · by_cases z : m = l
    · subst z
      have hl : m < g.length := by rw [← R.len]; exact (List.getElem?_eq_some_iff.mp e).1
      rw [List.getElem?_set_self hl] at e1
      cases e1
      exact trivial
    · rw [List.getElem?_set_ne (Ne.symm z)] at e1
      have zb : b ≠ ι[l] := fun q => z (R.inj m l _ (q ▸ e2) e)
      exact (R.ob m b ob e1 e2).mono x rfl fun n => by rw [upd_ne zb]; exact n
theorem RelG.at_ (R : RelG Kt Φ ι F g H) {l : Nat} {o : Ob} (h : g[l]? = some o) : ∃ a, ι[l]? = some a ∧ ObR Kt ι F H a o := by
  have hl : l < ι.length := by rw [R.len]; exact (List.getElem?_eq_some_iff.mp h).1
  exact ⟨ι[l], List.getElem?_eq_getElem hl, R.ob l _ _ h (List.getElem?_eq_getElem hl)⟩
end

/-! ### the frame -/
def EnvR (Kt : Kit) (ι : List Addr) (F : Hp) (σ : L2.St) (e : En) : Prop := σ.length = e.length ∧ ∀ (i : Nat) (d : D), e[i]? = some (some d) → ∃ v, σ[i]? = some (some v) ∧ DV Kt ι F v d
theorem EnvR.mono {Kt : Kit} {ι ι' : List Addr} {F F' : Hp} {σ : L2.St} {e : En} (x : Ex ι F ι' F') (h : EnvR Kt ι F σ e) : EnvR Kt ι' F' σ e := ⟨h.1, fun i d q => let ⟨v, a, b⟩ := h.2 i d q; ⟨v, a, b.mono x⟩⟩
theorem EnvR.set {Kt : Kit} {ι : List Addr} {F : Hp} {σ : L2.St} {e : En} (h : EnvR Kt ι F σ e) (i : Nat) {v : V} {d : D} (r : DV Kt ι F v d) : EnvR Kt ι F (σ.set i (some v)) (e.set i (some d)) := by
  refine ⟨by simp [h.1], fun j d' q => ?_⟩
  by_cases z : j = i
  · subst z
    by_cases hj : j < e.length
    · rw [List.getElem?_set_self hj] at q
      cases q
      exact ⟨v, by rw [List.getElem?_set_self (by rw [h.1]; exact hj)], r⟩
    · rw [List.getElem?_eq_none (by simpa using hj)] at q; cases q
  · rw [List.getElem?_set_ne (Ne.symm z)] at q ⊢
    exact h.2 j d' q
theorem EnvR.unset {Kt : Kit} {ι : List Addr} {F : Hp} {σ : L2.St} {e : En} (h : EnvR Kt ι F σ e) (i : Nat) : EnvR Kt ι F (σ.set i none) (e.set i none) := by
  refine ⟨by simp [h.1], fun j d' q => ?_⟩
  by_cases z : j = i
  · subst z
    by_cases hj : j < e.length
    · rw [List.getElem?_set_self hj] at q
      cases q
    · rw [List.getElem?_eq_none (by simpa using hj)] at q; cases q
  · rw [List.getElem?_set_ne (Ne.symm z)] at q ⊢
    exact h.2 j d' q

/-! ### readings -/
/-- where one stands: the state of the data beside the state of the machine -/
structure St' (Kt : Kit) (Φ : Hp) (ι : List Addr) (F : Hp) (e : En) (g : G) (σ : L2.St) (H : Hp) : Prop where
  env : EnvR Kt ι F σ e
  rel : RelG Kt Φ ι F g H
def exP (Kt : Kit) (Φ : Hp) (W : WX) (ι : List Addr) (F : Hp) (σ : L2.St) (c : Nat) (g' : G) : Prop :=
  ∃ C, Kt.cls[c]? = some C ∧ ∀ ι' F' H', Ex ι F ι' F' → RelG Kt Φ ι' F' g' H' → W (.ref C) none σ H'
/-- what is wanted behind a computation -/
def po {α ν : Type} (Kt : Kit) (Φ : Hp) (W : WX) (σ : L2.St) (Rl : List Addr → Hp → ν → α → Prop) (ι : List Addr) (F : Hp) (r : Res α) (Q : ν → Hp → Prop) : Prop := match r with
  | .ok a g' => ∀ ι' F' H' v, Ex ι F ι' F' → RelG Kt Φ ι' F' g' H' → Rl ι' F' v a → Q v H'
  | .exn c g' => exP Kt Φ W ι F σ c g'
  | .stuck => False
abbrev RB : List Addr → Hp → Bool → Bool → Prop := fun _ _ b c => b = c
def te (Kt : Kit) (W : WX) (m : EM) : TE := fun σ H Q => ∃ Φ ι F e g, St' Kt Φ ι F e g σ H ∧ po Kt Φ W σ (DV Kt) ι F (m e g) Q
def tt (Kt : Kit) (W : WX) (m : TM) : TT := fun σ H Q => ∃ Φ ι F e g, St' Kt Φ ι F e g σ H ∧ po Kt Φ W σ RB ι F (m e g) Q
def ta (Kt : Kit) (W : WX) (m : AM) : TA := fun σ H Q => ∃ Φ ι F e g, St' Kt Φ ι F e g σ H ∧ po Kt Φ W σ (DVs Kt) ι F (m e g) Q
theorem exP.mono {Kt : Kit} {Φ : Hp} {W : WX} {ι ι1 : List Addr} {F F1 : Hp} {σ : L2.St} {c : Nat} {g : G} (x : Ex ι F ι1 F1) (h : exP Kt Φ W ι F σ c g) : exP Kt Φ W ι1 F1 σ c g :=
  let ⟨C, e, q⟩ := h
  ⟨C, e, fun ι' F' H' y R => q ι' F' H' (x.trans y) R⟩
theorem po.mono {α ν : Type} {Kt : Kit} {Φ : Hp} {W : WX} {σ : L2.St} {Rl : List Addr → Hp → ν → α → Prop} {ι ι1 : List Addr} {F F1 : Hp} {r : Res α} {Q : ν → Hp → Prop} (x : Ex ι F ι1 F1) (h : po Kt Φ W σ Rl ι F r Q) : po Kt Φ W σ Rl ι1 F1 r Q := by
  cases r with
  | ok a g => exact fun ι' F' H' v y R q => h ι' F' H' v (x.trans y) R q
  | exn c g => exact exP.mono x h
  | stuck => exact h
theorem po.bind {α β ν μ : Type} {Kt : Kit} {Φ : Hp} {W : WX} {σ : L2.St} {Rl : List Addr → Hp → ν → α → Prop} {Rm : List Addr → Hp → μ → β → Prop} {ι : List Addr} {F : Hp} {r : Res α} {k : α → G → Res β} {Q : μ → Hp → Prop}
    (h : po Kt Φ W σ Rm ι F (r.bind k) Q) : po Kt Φ W σ Rl ι F r fun v H1 => ∃ ι1 F1 g1 a, Ex ι F ι1 F1 ∧ RelG Kt Φ ι1 F1 g1 H1 ∧ Rl ι1 F1 v a ∧ po Kt Φ W σ Rm ι1 F1 (k a g1) Q := by
  cases r with
  | ok a g => exact fun ι' F' H' v y R q => ⟨ι', F', g, a, y, R, q, po.mono y h⟩
  | exn c g => exact h
  | stuck => exact h
theorem po.imp {α ν : Type} {Kt : Kit} {Φ : Hp} {W : WX} {σ : L2.St} {Rl : List Addr → Hp → ν → α → Prop} {ι : List Addr} {F : Hp} {r : Res α} {Q Q' : ν → Hp → Prop} (h : po Kt Φ W σ Rl ι F r Q) (i : ∀ v H, Q v H → Q' v H) : po Kt Φ W σ Rl ι F r Q' := by
  cases r with
  | ok a g => exact fun ι' F' H' v y R q => i _ _ (h ι' F' H' v y R q)
  | exn c g => exact h
  | stuck => exact h
/-- what is wanted behind a statement's end -/
def so (Kt : Kit) (Φ : Hp) (W : WX) (D : Ends) (ι : List Addr) (F : Hp) (r : SR) : Prop := match r with
  | .nx e' g' => ∀ ι' F' σ' H', Ex ι F ι' F' → St' Kt Φ ι' F' e' g' σ' H' → D.nx σ' H'
  | .bk e' g' => ∀ ι' F' σ' H', Ex ι F ι' F' → St' Kt Φ ι' F' e' g' σ' H' → D.bk σ' H'
  | .ct e' g' => ∀ ι' F' σ' H', Ex ι F ι' F' → St' Kt Φ ι' F' e' g' σ' H' → D.ct σ' H'
  | .rt d g' => ∀ ι' F' H' v, Ex ι F ι' F' → RelG Kt Φ ι' F' g' H' → DV Kt ι' F' v d → D.rt v H'
  | .exn c e' g' => ∃ C, Kt.cls[c]? = some C ∧ ∀ ι' F' σ' H', Ex ι F ι' F' → St' Kt Φ ι' F' e' g' σ' H' → W (.ref C) none σ' H'
  | .stuck => False
def ts (Kt : Kit) (W : WX) (m : SM) : TS := fun D σ H => ∃ Φ ι F e g, St' Kt Φ ι F e g σ H ∧ so Kt Φ W D ι F (m e g)
theorem so.mono {Kt : Kit} {Φ : Hp} {W : WX} {D : Ends} {ι ι1 : List Addr} {F F1 : Hp} {r : SR} (x : Ex ι F ι1 F1) (h : so Kt Φ W D ι F r) : so Kt Φ W D ι1 F1 r := by
  cases r with
  | nx e g => exact fun ι' F' σ' H' y S => h ι' F' σ' H' (x.trans y) S
  | bk e g => exact fun ι' F' σ' H' y S => h ι' F' σ' H' (x.trans y) S
  | ct e g => exact fun ι' F' σ' H' y S => h ι' F' σ' H' (x.trans y) S
  | rt d g => exact fun ι' F' H' v y R q => h ι' F' H' v (x.trans y) R q
  | exn c e g => exact let ⟨C, q, h⟩ := h; ⟨C, q, fun ι' F' σ' H' y S => h ι' F' σ' H' (x.trans y) S⟩
  | stuck => exact h
@[simp] def sBind {α : Type} (r : Res α) (e : En) (k : α → G → SR) : SR := match r with
  | .ok a g => k a g
  | .exn c g => .exn c e g
  | .stuck => .stuck
theorem so.bind {α ν : Type} {Kt : Kit} {Φ : Hp} {W : WX} {D : Ends} {σ : L2.St} {Rl : List Addr → Hp → ν → α → Prop} {ι : List Addr} {F : Hp} {e : En} {r : Res α} {k : α → G → SR} (S : EnvR Kt ι F σ e) (h : so Kt Φ W D ι F (sBind r e k)) :
    po Kt Φ W σ Rl ι F r fun v H1 => ∃ ι1 F1 g1 a, Ex ι F ι1 F1 ∧ RelG Kt Φ ι1 F1 g1 H1 ∧ Rl ι1 F1 v a ∧ so Kt Φ W D ι1 F1 (k a g1) := by
  cases r with
  | ok a g => exact fun ι' F' H' v y R q => ⟨ι', F', g, a, y, R, q, so.mono y h⟩
  | exn c g => exact let ⟨C, q, h⟩ := h; ⟨C, q, fun ι' F' H' y R => h ι' F' _ H' y ⟨S.mono y, R⟩⟩
  | stuck => exact h
end Y

namespace L2
open PySem PySem.Spec PyProof.Rows
section
variable {X : Cx}
theorem PE.imp {e : Expr} {t t' : TE} (h : PE X e t) (i : ∀ σ H Q, t' σ H Q → t σ H Q) : PE X e t' := ⟨fun pins s σ H Q I q => h.run pins s σ H Q I (i σ H Q q)⟩
theorem PT.imp {e : Expr} {t t' : TT} (h : PT X e t) (i : ∀ σ H Q, t' σ H Q → t σ H Q) : PT X e t' := ⟨fun pins s σ H Q I q => h.run pins s σ H Q I (i σ H Q q)⟩
theorem PA.imp {e : List Expr} {t t' : TA} (h : PA X e t) (i : ∀ σ H Q, t' σ H Q → t σ H Q) : PA X e t' := ⟨fun pos pins s σ H Q I q => h.run pos pins s σ H Q I (i σ H Q q)⟩
theorem PS.imp {e : Stmt} {t t' : TS} (h : PS X e t) (i : ∀ D σ H, t' D σ H → t D σ H) : PS X e t' := ⟨fun pins s σ H D I q => h.run pins s σ H D I (i D σ H q)⟩
theorem PSs.imp {e : List Stmt} {t t' : TS} (h : PSs X e t) (i : ∀ D σ H, t' D σ H → t D σ H) : PSs X e t' := ⟨fun pins s σ H D I q => h.run pins s σ H D I (i D σ H q)⟩
end
theorem PW.imp {X : Cx} {e : Expr} {t t' : TT} (h : PW X e t) (i : ∀ σ H Q, t' σ H Q → t σ H Q) : PW X e t' := ⟨fun wh pins s σ H Q I q => h.run wh pins s σ H Q I (i σ H Q q)⟩
end L2

set_option Elab.async false
set_option linter.all false
set_option maxRecDepth 100000
namespace Y
open PySem PySem.Spec PyProof.Rows L2

/-- where a body runs -/
structure At (Kt : Kit) (X : Cx) (W : WX) (k : Nat) : Prop where
  eP : X.prog = Kt.P
  ew : X.w = Kt.w
  eK : X.K = Kt.K
  em : X.mg = Kt.mg
  eb : X.base = Kt.base
  calm : X.calm = true
  tk : Takes X W
  room : Room k X.A
  pso : PassesOwn (model X.prog X.w) X.A X.env X.xe
  nd : X.N.Nodup
theorem At.hu {Kt : Kit} {X : Cx} {W : WX} {k : Nat} (A : At Kt X W k) : X.A.units + 65 < cLine := by have := A.room.un; omega

def LINE : Nat := 16777216
theorem line_eq : LINE = sizeLine := sizeLine_eq.symm
/-! the tests upon sizes, by name; what is not written stands first, so that nobody reckons with it -/
def okL (n : Nat) : Bool := Nat.ble n 16777216
def ltL (n : Nat) : Bool := Nat.ble n 16777215
def rB (j : Int) : Bool := Nat.ble j.natAbs 4611686018427387903
def mB (i j : Int) : Bool := Nat.ble i.natAbs 18446744073709551615 || Nat.ble j.natAbs 18446744073709551615
def dB (j : Int) : Bool := Nat.ble 1 j.toNat && Nat.ble j.toNat 1073741823
def pB (j : Int) : Bool := Nat.ble 1 j.toNat
def wB (i j : Int) : Bool := Nat.ble (-j).toNat 0 && (Nat.ble j.toNat 1000000 && Nat.ble i.natAbs 18446744073709551615)
def nB (n : Nat) (j : Int) : Bool := Nat.ble (-j).toNat 0 && (Nat.ble j.toNat 1048575 && Nat.ble (n * j.toNat) 16777216)
theorem okL_iff {n : Nat} : okL n = true ↔ n ≤ sizeLine := by unfold okL; rw [Nat.ble_eq, ← line_eq]; rfl
theorem ltL_iff {n : Nat} : ltL n = true ↔ n < sizeLine := by unfold ltL; rw [Nat.ble_eq, ← line_eq]; exact Nat.lt_succ_iff.symm
theorem okL_of {n : Nat} (h : n ≤ 16777216) : okL n = true := Nat.ble_eq.mpr h
theorem ltL_of {n : Nat} (h : n < 16777216) : ltL n = true := Nat.ble_eq.mpr (Nat.le_of_lt_succ h)
theorem rB_ok {j : Int} (h : rB j = true) : -(2 ^ 62) ≤ j ∧ j < 2 ^ 62 := by
  have h := Nat.ble_eq.mp h
  rw [show (2 : Int) ^ 62 = 4611686018427387904 by decide]
  omega
theorem mB_ok {i j : Int} (h : mB i j = true) : (-(2 ^ 64) < i ∧ i < 2 ^ 64) ∨ (-(2 ^ 64) < j ∧ j < 2 ^ 64) := by
  unfold mB at h
  rw [Bool.or_eq_true, Nat.ble_eq, Nat.ble_eq] at h
  rw [show (2 : Int) ^ 64 = 18446744073709551616 by decide]
  omega
theorem dB_ok {j : Int} (h : dB j = true) : 0 < j ∧ j < 1073741824 := by
  unfold dB at h
  rw [Bool.and_eq_true, Nat.ble_eq, Nat.ble_eq] at h
  omega
theorem pB_ok {j : Int} (h : pB j = true) : 0 < j := by
  unfold pB at h
  rw [Nat.ble_eq] at h
  omega
theorem wB_ok {i j : Int} (h : wB i j = true) : 0 ≤ j ∧ j ≤ 1000000 ∧ i.natAbs < 2 ^ 64 := by
  unfold wB at h
  rw [Bool.and_eq_true, Bool.and_eq_true, Nat.ble_eq, Nat.ble_eq, Nat.ble_eq] at h
  rw [show 2 ^ 64 = 18446744073709551616 by decide]
  omega
theorem nB_ok {n : Nat} {j : Int} (h : nB n j = true) : 0 ≤ j ∧ j < 1048576 ∧ n * j.toNat ≤ sizeLine := by
  unfold nB at h
  rw [Bool.and_eq_true, Bool.and_eq_true, Nat.ble_eq, Nat.ble_eq, Nat.ble_eq] at h
  exact ⟨by omega, by omega, by rw [← line_eq]; exact h.2.2⟩
theorem rB_of {j : Int} (h : -1000000000 ≤ j) (h' : j ≤ 1000000000) : rB j = true := Nat.ble_eq.mpr (by omega)
theorem mB_r {i j : Int} (h : -1000000000000 ≤ j) (h' : j ≤ 1000000000000) : mB i j = true := by unfold mB; rw [Bool.or_eq_true, Nat.ble_eq, Nat.ble_eq]; omega
theorem mB_l {i j : Int} (h : -1000000000000 ≤ i) (h' : i ≤ 1000000000000) : mB i j = true := by unfold mB; rw [Bool.or_eq_true, Nat.ble_eq, Nat.ble_eq]; omega
theorem dB_of {j : Int} (h : 0 < j) (h' : j < 1073741824) : dB j = true := by unfold dB; rw [Bool.and_eq_true, Nat.ble_eq, Nat.ble_eq]; omega
theorem pB_of {j : Int} (h : 0 < j) : pB j = true := by unfold pB; rw [Nat.ble_eq]; omega
theorem nB_of {n : Nat} {j : Int} (h : 0 ≤ j) (h' : j < 1048576) (h2 : n * j.toNat ≤ 16777216) : nB n j = true := by unfold nB; rw [Bool.and_eq_true, Bool.and_eq_true, Nat.ble_eq, Nat.ble_eq, Nat.ble_eq]; exact ⟨by omega, by omega, h2⟩

/-! ### data by the heap -/
def snap (g : G) : D → D
  | .ref l => match g[l]? with
    | some (.lst ds) => .lst ds
    | _ => .ref l
  | d => d
@[simp] theorem snap_non {g : G} : snap g .non = .non := rfl
@[simp] theorem snap_bl {g : G} {b : Bool} : snap g (.bl b) = .bl b := rfl
@[simp] theorem snap_int {g : G} {b : Int} : snap g (.int b) = .int b := rfl
@[simp] theorem snap_str {g : G} {b : Nat} : snap g (.str b) = .str b := rfl
@[simp] theorem snap_tup {g : G} {b : List D} : snap g (.tup b) = .tup b := rfl
@[simp] theorem snap_lst {g : G} {b : List D} : snap g (.lst b) = .lst b := rfl
@[simp] theorem snap_rng {g : G} {a b : Int} : snap g (.rng a b) = .rng a b := rfl
theorem snap_ref {g : G} {l : Nat} : snap g (.ref l) = match g[l]? with
    | some (.lst ds) => .lst ds
    | _ => .ref l := rfl
/-- a list's items -/
def lsD (g : G) (d : D) : Option (List D) := match snap g d with
  | .lst ds => some ds
  | _ => none
section
variable {Kt : Kit} {Φ : Hp} {ι : List Addr} {F H : Hp} {g : G} {v : V} {d : D} {ds : List D}
theorem lsD_ok (R : RelG Kt Φ ι F g H) (r : DV Kt ι F v d) (h : lsD g d = some ds) : ∃ a vs, v = .ref a ∧ H a = some (.lst vs) ∧ DVs Kt ι F vs ds := by
  unfold lsD at h
  cases r with
  | lst e q => simp at h; subst h; exact ⟨_, _, rfl, R.sub _ _ e, q⟩
  | @ref l a e =>
    rw [snap_ref] at h
    cases z : g[l]? with
    | none => rw [z] at h; simp at h
    | some o =>
      rw [z] at h
      cases o with
      | lst es =>
        simp at h; subst h
        obtain ⟨_, vs, e2, q⟩ := R.ob l a _ z e
        exact ⟨a, vs, rfl, e2, q⟩
      | _ => simp at h
  | non => simp at h
  | bl b => simp at h
  | int i => simp at h
  | str e => simp at h
  | tup e r => simp at h
  | scr e r => simp [snap] at h
  | rng e => simp at h
  | dic e => simp [snap] at h
  | kt e r => simp [snap] at h

/-! ### as the model's data -/
mutual
def py (T : List Str) : D → PyData
  | .bl b => .bool b
  | .int i => .int i
  | .str n => .str (T.getD n ⟨#[]⟩)
  | .tup ds => .tuple (pys T ds)
  | .lst ds => .list (pys T ds)
  | _ => .none
def pys (T : List Str) : List D → List PyData
  | [] => []
  | d :: ds => py T d :: pys T ds
end
mutual
/-- the texts are in the table -/
def inT (T : List Str) : D → Prop
  | .str n => n < T.length
  | .tup ds => inTs T ds
  | .lst ds => inTs T ds
  | _ => True
def inTs (T : List Str) : List D → Prop
  | [] => True
  | d :: ds => inT T d ∧ inTs T ds
end
mutual
theorem DV.inT : ∀ {v : V} {d : D}, DV Kt ι F v d → inT Kt.tab d
  | _, _, .non => by simp [Y.inT]
  | _, _, .bl b => by simp [Y.inT]
  | _, _, .int i => by simp [Y.inT]
  | _, _, .str h => by unfold Y.inT; exact (List.getElem?_eq_some_iff.mp h).1
  | _, _, .tup h r => by unfold Y.inT; exact DVs.inTs r
  | _, _, .lst h r => by unfold Y.inT; exact DVs.inTs r
  | _, _, .scr h r => by simp [Y.inT]
  | _, _, .ref h => by simp [Y.inT]
  | _, _, .rng h => by simp [Y.inT]
  | _, _, .dic h => by simp [Y.inT]
  | _, _, .kt h r => by simp [Y.inT]
theorem DVs.inTs : ∀ {v : List V} {d : List D}, DVs Kt ι F v d → inTs Kt.tab d
  | _, _, .nil => by simp [Y.inTs]
  | _, _, .cons h r => by unfold Y.inTs; exact ⟨DV.inT h, DVs.inTs r⟩
end
theorem getD_inj {T : List Str} (nd : T.Nodup) {m n : Nat} (hm : m < T.length) (hn : n < T.length) : (T.getD m ⟨#[]⟩ == T.getD n ⟨#[]⟩) = (m == n) := by
  rw [List.getD_eq_getElem?_getD, List.getD_eq_getElem?_getD, List.getElem?_eq_getElem hm, List.getElem?_eq_getElem hn]
  rw [Bool.eq_iff_iff]
  simp only [Option.getD_some, beq_iff_eq]
  exact ⟨fun e => (List.getElem_inj nd).mp e, fun e => by subst e; rfl⟩
mutual
theorem deq_py {T : List Str} (nd : T.Nodup) : ∀ (d e : D) (n m : Nat), pud n d = true → pud m e = true → inT T d → inT T e → PyData.eqv (py T d) (py T e) = deq d e
  | .non, e, n, m, hd, he, id, ie => by cases e <;> simp [py, PyData.eqv, deq] <;> simp [pud] at he
  | .bl b, e, n, m, hd, he, id, ie => by cases e <;> simp [py, PyData.eqv, deq] <;> simp [pud] at he
  | .int i, e, n, m, hd, he, id, ie => by cases e <;> simp [py, PyData.eqv, deq] <;> simp [pud] at he
  | .str k, e, n, m, hd, he, id, ie => by
    cases e <;> simp only [py, PyData.eqv, deq] <;> first
      | (simp [pud] at he; done)
      | exact getD_inj nd (by simpa [inT] using id) (by simpa [inT] using ie)
  | .tup ds, e, n, m, hd, he, id, ie => by
    cases e <;> simp only [py, PyData.eqv, deq] <;> first
      | (simp [pud] at he; done)
      | (cases n with
        | zero => simp [pud] at hd
        | succ n =>
          cases m with
          | zero => simp [pud] at he
          | succ m => exact deqs_py nd ds _ n m (by simpa [pud] using hd) (by simpa [pud] using he) (by simpa [inT] using id) (by simpa [inT] using ie))
  | .lst ds, e, n, m, hd, he, id, ie => by
    cases e <;> simp only [py, PyData.eqv, deq] <;> first
      | (simp [pud] at he; done)
      | (cases n with
        | zero => simp [pud] at hd
        | succ n =>
          cases m with
          | zero => simp [pud] at he
          | succ m => exact deqs_py nd ds _ n m (by simpa [pud] using hd) (by simpa [pud] using he) (by simpa [inT] using id) (by simpa [inT] using ie))
  | .scr ds, e, n, m, hd, he, id, ie => by simp [pud] at hd
  | .ref l, e, n, m, hd, he, id, ie => by simp [pud] at hd
  | .rng a b, e, n, m, hd, he, id, ie => by simp [pud] at hd
  | .dic a b, e, n, m, hd, he, id, ie => by simp [pud] at hd
theorem deqs_py {T : List Str} (nd : T.Nodup) : ∀ (d e : List D) (n m : Nat), (∀ x ∈ d, pud n x = true) → (∀ x ∈ e, pud m x = true) → inTs T d → inTs T e → PyData.eqvAll (pys T d) (pys T e) = deqs d e
  | [], e, n, m, hd, he, id, ie => by cases e <;> simp [pys, PyData.eqvAll, deqs]
  | x :: d, e, n, m, hd, he, id, ie => by
    cases e with
    | nil => simp [pys, PyData.eqvAll, deqs]
    | cons y e =>
      unfold inTs at id ie
      simp only [pys, PyData.eqvAll, deqs]
      rw [deq_py nd x y n m (hd x List.mem_cons_self) (he y List.mem_cons_self) id.1 ie.1, deqs_py nd d e n m (fun z hz => hd z (List.mem_cons_of_mem _ hz)) (fun z hz => he z (List.mem_cons_of_mem _ hz)) id.2 ie.2]
end
theorem sk_getD {T : List Str} (sk : T.all PyData.strOk = true) (n : Nat) : PyData.strOk (T.getD n ⟨#[]⟩) = true := by
  rw [List.getD_eq_getElem?_getD]
  cases e : T[n]? with
  | none => decide +kernel
  | some x => exact List.all_eq_true.mp sk x (List.mem_of_getElem? e)
mutual
theorem py_lay {T : List Str} (sk : T.all PyData.strOk = true) : ∀ (d : D), (py T d).canLay0 = true
  | .non => rfl
  | .bl b => rfl
  | .int i => rfl
  | .str n => by simp only [py, PyData.canLay0]; exact sk_getD sk n
  | .tup ds => by simp only [py, PyData.canLay0]; exact pys_lay sk ds
  | .lst ds => by simp only [py, PyData.canLay0]; exact pys_lay sk ds
  | .scr _ => rfl
  | .ref _ => rfl
  | .rng _ _ => rfl
  | .dic _ _ => rfl
theorem pys_lay {T : List Str} (sk : T.all PyData.strOk = true) : ∀ (d : List D), PyData.canLayAll0 (pys T d) = true
  | [] => rfl
  | d :: ds => by simp only [pys, PyData.canLayAll0, py_lay sk d, pys_lay sk ds, Bool.and_self]
end
mutual
theorem py_depth {T : List Str} : ∀ (d : D) (n : Nat), pud n d = true → (py T d).depth ≤ n
  | .non, n, h => by simp [py, PyData.depth]
  | .bl b, n, h => by simp [py, PyData.depth]
  | .int i, n, h => by simp [py, PyData.depth]
  | .str k, n, h => by simp [py, PyData.depth]
  | .tup ds, n, h => by
    cases n with
    | zero => simp [pud] at h
    | succ n =>
      simp only [py, PyData.depth]
      have := pys_depth (T := T) ds n (by simpa [pud] using h)
      omega
  | .lst ds, n, h => by
    cases n with
    | zero => simp [pud] at h
    | succ n =>
      simp only [py, PyData.depth]
      have := pys_depth (T := T) ds n (by simpa [pud] using h)
      omega
  | .scr _, n, h => by simp [pud] at h
  | .ref _, n, h => by simp [pud] at h
  | .rng _ _, n, h => by simp [pud] at h
  | .dic _ _, n, h => by simp [pud] at h
theorem pys_depth {T : List Str} : ∀ (d : List D) (n : Nat), (∀ x ∈ d, pud n x = true) → PyData.depthAll (pys T d) ≤ n
  | [], n, h => by simp [pys, PyData.depthAll]
  | d :: ds, n, h => by
    simp only [pys, PyData.depthAll]
    have h1 := py_depth (T := T) d n (h d List.mem_cons_self)
    have h2 := pys_depth (T := T) ds n fun x hx => h x (List.mem_cons_of_mem _ hx)
    omega
end
theorem py_shaped {T : List Str} (sk : T.all PyData.strOk = true) {d : D} {n : Nat} (h : pud n d = true) (hn : n ≤ 64) : SeqAt.shaped (py T d) = true := by
  unfold SeqAt.shaped
  rw [py_lay sk, Bool.true_and, decide_eq_true_eq]
  exact Nat.le_trans (py_depth d n h) hn
mutual
theorem DV.dp (R : RelG Kt Φ ι F g H) : ∀ {v : V} {d : D} (n : Nat), DV Kt ι F v d → pud n d = true → Dp Kt.K H v (py Kt.tab d)
  | _, _, n, .non, h => .non
  | _, _, n, .bl b, h => .bl b
  | _, _, n, .int i, h => .int i
  | _, _, n, .str (n := m) (x := x) e, h => by
    unfold py
    rw [List.getD_eq_getElem?_getD, e]
    exact .str x
  | _, _, 0, .tup e r, h => by simp [pud] at h
  | _, _, n + 1, .tup e r, h => by
    unfold py
    exact .tup (sqt_mono R.sub (tS e)) (DVs.dp R n r (by simpa [pud] using h))
  | _, _, 0, .lst e r, h => by simp [pud] at h
  | _, _, n + 1, .lst e r, h => by
    unfold py
    exact .lst (.inl (.inl (R.sub _ _ e))) (DVs.dp R n r (by simpa [pud] using h))
  | _, _, n, .scr e r, h => by simp [pud] at h
  | _, _, n, .ref e, h => by simp [pud] at h
  | _, _, n, .rng e, h => by simp [pud] at h
  | _, _, n, .dic e, h => by simp [pud] at h
  | _, _, n, .kt e r, h => by simp [pud] at h
theorem DVs.dp (R : RelG Kt Φ ι F g H) : ∀ {v : List V} {d : List D} (n : Nat), DVs Kt ι F v d → (∀ x ∈ d, pud n x = true) → DpAll Kt.K H v (pys Kt.tab d)
  | _, _, n, .nil, h => .nil
  | _, _, n, .cons e r, h => .cons (DV.dp R n e (h _ List.mem_cons_self)) (DVs.dp R n r fun x hx => h x (List.mem_cons_of_mem _ hx))
end
theorem snap_dp (R : RelG Kt Φ ι F g H) (r : DV Kt ι F v d) (h : pud 8 (snap g d) = true) : Dp Kt.K H v (py Kt.tab (snap g d)) ∧ inT Kt.tab (snap g d) := by
  cases r with
  | @ref l a e =>
    rw [snap_ref] at h ⊢
    cases z : g[l]? with
    | none => rw [z] at h; simp [pud] at h
    | some o =>
      rw [z] at h
      cases o with
      | lst es =>
        simp only at h ⊢
        obtain ⟨_, vs, e2, q⟩ := R.ob l a _ z e
        unfold py inT
        exact ⟨.lst (.inl (.inl e2)) (DVs.dp R 7 q (by simpa [pud] using h)), q.inTs⟩
      | _ => simp [pud] at h
  | non => exact ⟨.non, by simp [inT]⟩
  | bl b => exact ⟨.bl b, by simp [inT]⟩
  | int i => exact ⟨.int i, by simp [inT]⟩
  | str e => exact ⟨DV.dp R 8 (.str e) rfl, DV.inT (.str (ι := ι) (F := F) e)⟩
  | tup e r => exact ⟨DV.dp R 8 (.tup e r) h, DV.inT (.tup e r)⟩
  | lst e r => exact ⟨DV.dp R 8 (.lst e r) h, DV.inT (.lst e r)⟩
  | scr e r => simp [snap, pud] at h
  | rng e => simp [snap, pud] at h
  | dic e => simp [snap, pud] at h
  | kt e r => simp [snap, pud] at h
end

/-! ### operators -/
abbrev OpT := G → D → D → Option D
def oR (o : Option D) (g : G) : Res D := match o with
  | some d => .ok d g
  | none => .stuck
@[simp] theorem oR_some {d : D} {g : G} : oR (some d) g = .ok d g := rfl
def vOp (o : OpT) (a b : EM) : EM := fun e g => (a e g).bind fun x g1 => (b e g1).bind fun y g2 => oR (o g2 x y) g2
/-- what a value operator of the data says of the values -/
def OpD (Kt : Kit) (r : R2) (o : OpT) : Prop := ∀ {Φ : Hp} {ι : List Addr} {F : Hp} {g : G} {H : Hp} {x y : V} {d e z : D}, RelG Kt Φ ι F g H → DV Kt ι F x d → DV Kt ι F y e → o g d e = some z →
  ∀ Q : VK, (∀ ι' F' H' v, Ex ι F ι' F' → RelG Kt Φ ι' F' g H' → DV Kt ι' F' v z → Q v H') → r x y H Q
def UnD (Kt : Kit) (r : V → Hp → VK → Prop) (o : G → D → Option D) : Prop := ∀ {Φ : Hp} {ι : List Addr} {F : Hp} {g : G} {H : Hp} {x : V} {d z : D}, RelG Kt Φ ι F g H → DV Kt ι F x d → o g d = some z →
  ∀ Q : VK, (∀ ι' F' H' v, Ex ι F ι' F' → RelG Kt Φ ι' F' g H' → DV Kt ι' F' v z → Q v H') → r x H Q
section
variable {Kt : Kit} {W : WX} {ma mb mc : EM} {r : R2} {o : OpT} {σ : L2.St} {H : Hp} {Q : VK}
theorem te_op (hd : OpD Kt r o) (h : te Kt W (vOp o ma mb) σ H Q) : tOp r (te Kt W ma) (te Kt W mb) σ H Q := by
  obtain ⟨Φ, ι, F, e, g, S, h⟩ := h
  refine ⟨Φ, ι, F, e, g, S, (po.bind (Rl := DV Kt) h).imp fun v H1 ⟨ι1, F1, g1, a, x1, R1, r1, h1⟩ => ?_⟩
  refine ⟨Φ, ι1, F1, e, g1, ⟨S.env.mono x1, R1⟩, (po.bind (Rl := DV Kt) h1).imp fun v2 H2 ⟨ι2, F2, g2, b, x2, R2, r2, h2⟩ => ?_⟩
  cases z : o g2 a b with
  | none => rw [z] at h2; exact h2.elim
  | some d => rw [z] at h2; exact hd R2 (r1.mono x2) r2 z Q h2
/-- an answer that is at hand -/
theorem te_un {r : V → Hp → VK → Prop} {o : G → D → Option D} (hd : UnD Kt r o) (h : te Kt W (fun e g => (ma e g).bind fun x g1 => oR (o g1 x) g1) σ H Q) : tUn r (te Kt W ma) σ H Q := by
  obtain ⟨Φ, ι, F, e, g, S, h⟩ := h
  refine ⟨Φ, ι, F, e, g, S, (po.bind (Rl := DV Kt) h).imp fun v H1 ⟨ι1, F1, g1, a, x1, R1, r1, h1⟩ => ?_⟩
  cases z : o g1 a with
  | none => rw [z] at h1; exact h1.elim
  | some d => rw [z] at h1; exact hd R1 r1 z Q h1
end

/-! #### the operators -/
def addD : OpT := fun g x y => match x, y with
  | .int i, .int j => some (.int (i + j))
  | .tup a, .tup b => (match a.isEmpty || !okL (a.length + b.length) with
    | true => none
    | false => some (.tup (a ++ b)))
  | _, _ => match lsD g x, lsD g y with
    | some a, some b => (match okL (a.length + b.length) with
    | true => some (.lst (a ++ b))
    | false => none)
    | _, _ => none
def subD : OpT := fun _ x y => match x, y with
  | .int i, .int j => some (.int (i - j))
  | _, _ => none
def mulD : OpT := fun _ x y => match x, y with
  | .int i, .int j => (match mB i j with
    | true => some (.int (i * j))
    | false => none)
  | .lst a, .int j => (match nB a.length j with
    | true => some (.lst (List.replicate j.toNat a).flatten)
    | false => none)
  | _, _ => none
def divD : OpT := fun _ x y => match x, y with
  | .int i, .int j => (match dB j with
    | true => some (.int (i / j))
    | false => none)
  | _, _ => none
def modD : OpT := fun _ x y => match x, y with
  | .int i, .int j => (match pB j with
    | true => some (.int (i % j))
    | false => none)
  | _, _ => none
def powD : OpT := fun _ x y => match x, y with
  | .int i, .int j => (match wB i j with
    | true => some (.int (i ^ j.toNat))
    | false => none)
  | _, _ => none
def eqD : OpT := fun g x y => match pud 8 (snap g x) && pud 8 (snap g y) with
  | true => some (.bl (deq (snap g x) (snap g y)))
  | false => none
def neD : OpT := fun g x y => match pud 8 (snap g x) && pud 8 (snap g y) with
  | true => some (.bl (!deq (snap g x) (snap g y)))
  | false => none
def icD (p : Int → Int → Bool) : OpT := fun _ x y => match x, y with
  | .int i, .int j => some (.bl (p i j))
  | _, _ => none
abbrev ltD : OpT := icD fun i j => decide (i < j)
abbrev leD : OpT := icD fun i j => decide (i ≤ j)
abbrev gtD : OpT := icD fun i j => decide (j < i)
abbrev geD : OpT := icD fun i j => decide (j ≤ i)
def nonD : D → Bool
  | .non => true
  | _ => false
def isN : OpT := fun _ x y => match y with
  | .non => some (.bl (nonD x))
  | _ => none
def notN : OpT := fun _ x y => match y with
  | .non => some (.bl (!nonD x))
  | _ => none
/-- is False: one of None, True, False, ints .. -/
def sqD (g : G) (d : D) : Option (List D) := match d with
  | .tup ds => some ds
  | .dic [] ds => some ds
  | _ => lsD g d
def inD (neg : Bool) : OpT := fun g x y => match y with
  | .rng lo hi => match x with
    | .int i => (match neg with
      | true => none
      | false => some (.bl (decide (lo ≤ i ∧ i < hi))))
    | _ => none
  | _ => match sqD g y with
    | some ds => (match pud 7 x && ds.all (pud 7) with
      | true => some (.bl ((ds.any fun z => deq z x) != neg))
      | false => none)
    | none => none
/-- the items of what is indexed -/
def itD (g : G) (d : D) : Option (List D) := match d with
  | .tup ds => some ds
  | .scr ds => some ds
  | _ => lsD g d
def ixD : OpT := fun g x y => match y with
  | .int i => match itD g x with
    | some ds => atI ds i
    | none => none
  | _ => none
def cutD (xs : List D) (lo hi : Option Int) : List D := (xs.drop (HT.sIx xs.length 0 lo)).take (HT.sIx xs.length xs.length hi - HT.sIx xs.length 0 lo)
def slD (g : G) (x : D) (lo hi : Option Int) : Option D := match x with
  | .tup ds => (match decide (HT.sIx ds.length 0 lo = 0 ∧ HT.sIx ds.length ds.length hi = ds.length) with
    | true => none
    | false => some (.tup (cutD ds lo hi)))
  | _ => match lsD g x with
    | some ds => some (.lst (cutD ds lo hi))
    | none => none
section
variable {Kt : Kit} {Φ : Hp} {ι : List Addr} {F H : Hp} {g : G}
/-- a new list, a new tuple -/
theorem newL (R : RelG Kt Φ ι F g H) {vs : List V} {ds : List D} (r : DVs Kt ι F vs ds) {Q : VK} (h : ∀ ι' F' H' v, Ex ι F ι' F' → RelG Kt Φ ι' F' g H' → DV Kt ι' F' v (.lst ds) → Q v H') (p : Addr) (hp : H p = none) : Q (.ref p) (upd H p (.lst vs)) := by
  obtain ⟨R', x⟩ := R.frz hp (.lst vs)
  exact h _ _ _ _ x R' (.lst upd_same (r.mono x))
theorem newT (R : RelG Kt Φ ι F g H) {vs : List V} {ds : List D} (r : DVs Kt ι F vs ds) {Q : VK} (h : ∀ ι' F' H' v, Ex ι F ι' F' → RelG Kt Φ ι' F' g H' → DV Kt ι' F' v (.tup ds) → Q v H') (p : Addr) (hp : H p = none) : Q (.ref p) (upd H p (.tup vs)) := by
  obtain ⟨R', x⟩ := R.frz hp (.tup vs)
  exact h _ _ _ _ x R' (.tup upd_same (r.mono x))
theorem od_add : OpD Kt (fun x y H Q => rI0 (fun i j => .int (i + j)) x y H Q ∨ rCatT Kt.K x y H Q ∨ rCat x y H Q) addD := by
  intro Φ ι F g H x y d e z R hx hy h Q q
  unfold addD at h
  split at h
  · cases hx; cases hy; cases h
    exact .inl ⟨_, _, rfl, rfl, q _ _ _ _ Ex.refl R (.int _)⟩
  · rename_i a b
    cases hx with
    | tup e1 r1 =>
    cases hy with
    | tup e2 r2 =>
    split at h
    · cases h
    · rename_i hc
      cases h
      rw [Bool.or_eq_false_iff, Bool.not_eq_false', okL_iff] at hc
      refine .inr (.inl ⟨_, _, _, _, rfl, rfl, sqt_mono R.sub (tS e1), sqt_mono R.sub (tS e2), ?_, ?_, fun e => ?_, fun _ => newT R (r1.append r2) q⟩)
      · intro e; subst e; cases r1; exact Bool.noConfusion hc.1
      · rw [r1.length, r2.length]; exact hc.2
      · subst e; cases r2
        rw [List.append_nil] at q
        exact q _ _ _ _ Ex.refl R (.tup e1 r1)
  · split at h
    · rename_i a b h1 h2
      split at h
      · rename_i hl
        cases h
        obtain ⟨p, vs, rfl, e1, r1⟩ := lsD_ok R hx h1
        obtain ⟨p', vs', rfl, e2, r2⟩ := lsD_ok R hy h2
        exact .inr (.inr ⟨_, _, _, _, rfl, rfl, e1, e2, by rw [r1.length, r2.length]; exact okL_iff.mp hl, newL R (r1.append r2) q⟩)
      · cases h
    · cases h
theorem od_sub : OpD Kt (rI0 fun i j => .int (i - j)) subD := by
  intro Φ ι F g H x y d e z R hx hy h Q q
  unfold subD at h
  split at h
  · cases hx; cases hy; cases h
    exact ⟨_, _, rfl, rfl, q _ _ _ _ Ex.refl R (.int _)⟩
  · cases h
theorem od_mul : OpD Kt (fun x y H Q => rI CMul (fun i j => .int (i * j)) x y H Q ∨ rRep x y H Q) mulD := by
  intro Φ ι F g H x y d e z R hx hy h Q q
  unfold mulD at h
  split at h
  · cases hx; cases hy
    split at h
    · rename_i hc
      cases h
      exact .inl ⟨_, _, rfl, rfl, mB_ok hc, q _ _ _ _ Ex.refl R (.int _)⟩
    · cases h
  · rename_i a j
    cases hx with
    | lst e1 r1 =>
    cases hy
    split at h
    · rename_i hc
      cases h
      have hc := nB_ok hc
      exact .inr ⟨_, _, _, rfl, rfl, R.sub _ _ e1, by have := hc.1; omega, by have := hc.2.1; omega, by rw [r1.length]; exact hc.2.2, newL R (r1.rep _) q⟩
    · cases h
  · cases h
theorem od_div : OpD Kt (rI CDiv fun i j => .int (i / j)) divD := by
  intro Φ ι F g H x y d e z R hx hy h Q q
  unfold divD at h
  split at h
  · cases hx; cases hy
    split at h
    · rename_i hc
      cases h
      exact ⟨_, _, rfl, rfl, dB_ok hc, q _ _ _ _ Ex.refl R (.int _)⟩
    · cases h
  · cases h
theorem od_mod : OpD Kt (rI (fun _ j => 0 < j) fun i j => .int (i % j)) modD := by
  intro Φ ι F g H x y d e z R hx hy h Q q
  unfold modD at h
  split at h
  · cases hx; cases hy
    split at h
    · rename_i hc
      cases h
      exact ⟨_, _, rfl, rfl, pB_ok hc, q _ _ _ _ Ex.refl R (.int _)⟩
    · cases h
  · cases h
theorem od_pow : OpD Kt (rI CPow fun i j => .int (i ^ j.toNat)) powD := by
  intro Φ ι F g H x y d e z R hx hy h Q q
  unfold powD at h
  split at h
  · cases hx; cases hy
    split at h
    · rename_i hc
      cases h
      exact ⟨_, _, rfl, rfl, wB_ok hc, q _ _ _ _ Ex.refl R (.int _)⟩
    · cases h
  · cases h
theorem od_eq : OpD Kt (rEqD Kt.K) eqD := by
  intro Φ ι F g H x y d e z R hx hy h Q q
  unfold eqD at h
  split at h
  · rename_i hc
    cases h
    rw [Bool.and_eq_true] at hc
    obtain ⟨a1, a2⟩ := snap_dp R hx hc.1
    obtain ⟨b1, b2⟩ := snap_dp R hy hc.2
    refine ⟨_, _, a1, b1, py_shaped Kt.sk hc.1 (by decide), py_shaped Kt.sk hc.2 (by decide), ?_⟩
    rw [deq_py Kt.nd _ _ 8 8 hc.1 hc.2 a2 b2]
    exact q _ _ _ _ Ex.refl R (.bl _)
  · cases h
theorem od_ne : OpD Kt (rNeD Kt.K) neD := by
  intro Φ ι F g H x y d e z R hx hy h Q q
  unfold neD at h
  split at h
  · rename_i hc
    cases h
    rw [Bool.and_eq_true] at hc
    obtain ⟨a1, a2⟩ := snap_dp R hx hc.1
    obtain ⟨b1, b2⟩ := snap_dp R hy hc.2
    refine ⟨_, _, a1, b1, py_shaped Kt.sk hc.1 (by decide), py_shaped Kt.sk hc.2 (by decide), ?_⟩
    rw [deq_py Kt.nd _ _ 8 8 hc.1 hc.2 a2 b2]
    exact q _ _ _ _ Ex.refl R (.bl _)
  · cases h
theorem od_ic {p : Int → Int → Bool} : OpD Kt (rI0 fun i j => .bl (p i j)) (icD p) := by
  intro Φ ι F g H x y d e z R hx hy h Q q
  unfold icD at h
  split at h
  · cases hx; cases hy; cases h
    exact ⟨_, _, rfl, rfl, q _ _ _ _ Ex.refl R (.bl _)⟩
  · cases h
theorem DV.non_iff {v : V} {d : D} (r : DV Kt ι F v d) : decide (v = .non) = nonD d := by
  cases r <;> simp [nonD]
theorem od_isN : OpD Kt (fun x y H Q => y = .non ∧ Q (.bl (decide (x = .non))) H) isN := by
  intro Φ ι F g H x y d e z R hx hy h Q q
  unfold isN at h
  split at h
  · cases hy; cases h
    refine ⟨rfl, ?_⟩
    rw [hx.non_iff]
    exact q _ _ _ _ Ex.refl R (.bl _)
  · cases h
theorem od_notN : OpD Kt (fun x y H Q => y = .non ∧ Q (.bl (!decide (x = .non))) H) notN := by
  intro Φ ι F g H x y d e z R hx hy h Q q
  unfold notN at h
  split at h
  · cases hy; cases h
    refine ⟨rfl, ?_⟩
    rw [hx.non_iff]
    exact q _ _ _ _ Ex.refl R (.bl _)
  · cases h
/-- in, not in: lists and tuples of data -/
def rInS (K : PySem.W.Frag) (neg : Bool) : R2 := fun x y H Q => ∃ d ds, Dp K H x d ∧ (Dp K H y (.list ds) ∨ Dp K H y (.tuple ds)) ∧ SeqAt.shaped d = true ∧ PyData.canLayAll0 ds = true ∧ Q (.bl ((ds.any fun z => PyData.eqv z d) != neg)) H
theorem any_pys {T : List Str} (nd : T.Nodup) {x : D} (hx : pud 7 x = true) (ix : inT T x) : ∀ {ds : List D}, (∀ z ∈ ds, pud 7 z = true) → inTs T ds → ((pys T ds).any fun z => PyData.eqv z (py T x)) = ds.any fun z => deq z x
  | [], _, _ => rfl
  | d :: ds, h, i => by
    unfold inTs at i
    simp only [pys, List.any_cons]
    rw [deq_py nd d x 7 7 (h d List.mem_cons_self) hx i.1 ix, any_pys nd hx ix (fun z hz => h z (List.mem_cons_of_mem _ hz)) i.2]
theorem od_in {neg : Bool} : OpD Kt (fun x y H Q => rInS Kt.K neg x y H Q ∨ (neg = false ∧ ∃ i a lo hi, x = V.int i ∧ y = V.ref a ∧ H a = some (.rng lo hi) ∧ Q (.bl (decide (lo ≤ i ∧ i < hi))) H)) (inD neg) := by
  intro Φ ι F g H x y d e z R hx hy h Q q
  unfold inD at h
  split at h
  · cases hy with
    | rng e1 =>
    split at h
    · split at h
      · cases h
      · cases h
        cases hx
        exact .inr ⟨rfl, _, _, _, _, rfl, rfl, R.sub _ _ e1, q _ _ _ _ Ex.refl R (.bl _)⟩
    · cases h
  · split at h
    · rename_i ds hs
      split at h
      · rename_i hc
        cases h
        rw [Bool.and_eq_true, List.all_eq_true] at hc
        refine .inl ?_
        have key : ∀ vs, DVs Kt ι F vs ds → (Dp Kt.K H y (.list (pys Kt.tab ds)) ∨ Dp Kt.K H y (.tuple (pys Kt.tab ds))) → rInS Kt.K neg x y H Q := fun vs r hy' => by
          refine ⟨_, _, hx.dp R 7 hc.1, hy', py_shaped Kt.sk hc.1 (by decide), pys_lay Kt.sk ds, ?_⟩
          rw [any_pys Kt.nd hc.1 hx.inT hc.2 r.inTs]
          exact q _ _ _ _ Ex.refl R (.bl _)
        unfold sqD at hs
        split at hs
        · cases hs
          cases hy with
          | tup e1 r1 => exact key _ r1 (.inr (.tup (sqt_mono R.sub (tS e1)) (r1.dp R 7 hc.2)))
        · cases hs
          cases hy with
          | kt e1 r1 => exact key _ r1 (.inr (.tup (sqt_mono R.sub e1) (r1.dp R 7 hc.2)))
        · obtain ⟨a, vs, rfl, e1, r1⟩ := lsD_ok R hy hs
          exact key _ r1 (.inl (.lst (.inl (.inl e1)) (r1.dp R 7 hc.2)))
      · cases h
    · cases h
theorem op_inS {X : Cx} (hu : X.A.units + 65 < cLine) : OpR X (compareOp .In) (rInS X.K false) := by
  intro pins s σ H x y v u Q I rx ry h
  obtain ⟨d, ds, hd, he, sd, se, q⟩ := h
  obtain ⟨as, r1⟩ := Dp.reads I d x v hd rx
  have q' : Q (.bl (ds.any fun z => PyData.eqv z d)) H := by simpa using q
  rcases he with he | he
  · obtain ⟨bs, r2⟩ := Dp.reads I (.list ds) y u he ry
    exact SeqAt.in_list_reads r2 r1 se (SeqAt.canLay_of_shaped sd) (room_in_shaped sd hu) ⟨.bl _, H, I, rfl, q'⟩
  · obtain ⟨bs, r2⟩ := Dp.reads I (.tuple ds) y u he ry
    exact SeqAt.in_tuple_reads r2 r1 se (SeqAt.canLay_of_shaped sd) (room_in_shaped sd hu) ⟨.bl _, H, I, rfl, q'⟩
theorem op_notInS {X : Cx} (hu : X.A.units + 65 < cLine) : OpR X (compareOp .NotIn) (rInS X.K true) := by
  intro pins s σ H x y v u Q I rx ry h
  obtain ⟨d, ds, hd, he, sd, se, q⟩ := h
  obtain ⟨as, r1⟩ := Dp.reads I d x v hd rx
  have q' : Q (.bl (!ds.any fun z => PyData.eqv z d)) H := by simpa using q
  rcases he with he | he
  · obtain ⟨bs, r2⟩ := Dp.reads I (.list ds) y u he ry
    exact SeqAt.notIn_list_reads r2 r1 se (SeqAt.canLay_of_shaped sd) (room_in_shaped sd hu) ⟨.bl _, H, I, rfl, q'⟩
  · obtain ⟨bs, r2⟩ := Dp.reads I (.tuple ds) y u he ry
    exact SeqAt.notIn_tuple_reads r2 r1 se (SeqAt.canLay_of_shaped sd) (room_in_shaped sd hu) ⟨.bl _, H, I, rfl, q'⟩
theorem DVs.atI {vs : List V} {ds : List D} {i : Int} {d : D} (r : DVs Kt ι F vs ds) (h : L2.atI ds i = some d) : ∃ v, L2.atI vs i = some v ∧ DV Kt ι F v d := by
  unfold L2.atI at h ⊢
  rw [r.length]
  cases z : ixN ds.length i with
  | none => rw [z] at h; cases h
  | some j => rw [z] at h; exact r.get h
theorem od_ix : OpD Kt (rIx Kt.K) ixD := by
  intro Φ ι F g H x y d e z R hx hy h Q q
  unfold ixD at h
  split at h
  · cases hy
    split at h
    · rename_i ds hs
      unfold itD at hs
      split at hs
      · cases hs
        cases hx with
        | tup e1 r1 =>
          obtain ⟨v, h1, h2⟩ := r1.atI h
          exact .inr (.inl ⟨_, _, _, _, rfl, rfl, sqt_mono R.sub (tS e1), h1, q _ _ _ _ Ex.refl R h2⟩)
      · cases hs
        cases hx with
        | scr e1 r1 =>
          obtain ⟨v, h1, h2⟩ := r1.atI h
          exact .inl ⟨_, _, _, _, rfl, rfl, sql_mono R.sub e1, h1, q _ _ _ _ Ex.refl R h2⟩
      · obtain ⟨a, vs, rfl, e1, r1⟩ := lsD_ok R hx hs
        obtain ⟨v, h1, h2⟩ := r1.atI h
        exact .inl ⟨_, _, _, _, rfl, rfl, .inl (.inl e1), h1, q _ _ _ _ Ex.refl R h2⟩
    · cases h
  · cases h
theorem DVs.cut {vs : List V} {ds : List D} (r : DVs Kt ι F vs ds) (lo hi : Option Int) : DVs Kt ι F (cutV vs lo hi) (cutD ds lo hi) := by
  unfold cutV cutD
  rw [r.length]
  exact (r.drop _).take _
theorem sd_sl (R : RelG Kt Φ ι F g H) {x : V} {d z : D} {lo hi : Option Int} (hx : DV Kt ι F x d) (h : slD g d lo hi = some z) {Q : VK} (q : ∀ ι' F' H' v, Ex ι F ι' F' → RelG Kt Φ ι' F' g H' → DV Kt ι' F' v z → Q v H') :
    rSlL Kt.K x lo hi H Q ∨ rSlT Kt.K x lo hi H Q := by
  unfold slD at h
  split at h
  · split at h
    · cases h
    · rename_i hc
      cases h
      cases hx with
      | tup e1 r1 => exact .inr ⟨_, _, rfl, sqt_mono R.sub (tS e1), by rw [r1.length]; exact of_decide_eq_false hc, newT R (r1.cut lo hi) q⟩
  · split at h
    · rename_i ds hs
      cases h
      obtain ⟨a, vs, rfl, e1, r1⟩ := lsD_ok R hx hs
      exact .inl ⟨_, _, rfl, .inl (.inl e1), newL R (r1.cut lo hi) q⟩
    · cases h
def negD (g : G) (x : D) : Option D := match x with
  | .int i => some (.int (-i))
  | _ => none
theorem ud_neg : UnD Kt (rU fun i => .int (-i)) negD := by
  intro Φ ι F g H x d z R hx h Q q
  unfold negD at h
  split at h
  · cases hx; cases h
    exact ⟨_, rfl, q _ _ _ _ Ex.refl R (.int _)⟩
  · cases h
end
end Y

set_option Elab.async false
set_option linter.all false
set_option maxRecDepth 100000
namespace Y
open PySem PySem.Spec PyProof.Rows L2

/-! ### expressions -/
def vVar (i : Nat) : EM := fun e g => match e[i]? with
  | some (some d) => .ok d g
  | _ => .stuck
def vC (d : D) : EM := fun _ g => .ok d g
def vUn (o : G → D → Option D) (m : EM) : EM := fun e g => (m e g).bind fun x g1 => oR (o g1 x) g1
def bR (d : D) (g : G) : Res Bool := match d with
  | .bl b => .ok b g
  | _ => .stuck
@[simp] theorem bR_bl {b : Bool} {g : G} : bR (.bl b) g = .ok b g := rfl
def tOf (m : EM) : TM := fun e g => (m e g).bind bR
def tAnd (a b : TM) : TM := fun e g => (a e g).bind fun c g1 => bif c then b e g1 else .ok false g1
def tOr (a b : TM) : TM := fun e g => (a e g).bind fun c g1 => bif c then .ok true g1 else b e g1
def tNot (a : TM) : TM := fun e g => (a e g).bind fun c g1 => .ok (!c) g1
def vAnd (a b : EM) : EM := fun e g => (a e g).bind fun d g1 => (bR d g1).bind fun c g2 => bif c then b e g2 else .ok (.bl false) g2
def vOr (a b : EM) : EM := fun e g => (a e g).bind fun d g1 => (bR d g1).bind fun c g2 => bif c then .ok (.bl true) g2 else b e g2
def vNot (a : EM) : EM := fun e g => (a e g).bind fun d g1 => (bR d g1).bind fun c g2 => .ok (.bl (!c)) g2
def vIf (t : TM) (a b : EM) : EM := fun e g => (t e g).bind fun c g1 => bif c then a e g1 else b e g1
def vChain (o o' : OpT) (a b c : EM) : EM := fun e g => (a e g).bind fun x g1 => (b e g1).bind fun y g2 => (oR (o g2 x y) g2).bind fun z g3 => (bR z g3).bind fun k g4 => bif k then (c e g4).bind fun w g5 => oR (o' g5 y w) g5 else .ok (.bl false) g4
/-- truth -/
def truD (g : G) (d : D) : Option Bool := match snap g d with
  | .non => some false
  | .bl b => some b
  | .int i => some (i != 0)
  | .tup ds => some (!ds.isEmpty)
  | .lst ds => some (!ds.isEmpty)
  | _ => none
def tTru (m : EM) : TM := fun e g => (m e g).bind fun d g1 => match truD g1 d with
  | some b => .ok b g1
  | none => .stuck
def aNil : AM := fun _ g => .ok [] g
def aCons (a : EM) (r : AM) : AM := fun e g => (a e g).bind fun d g1 => (r e g1).bind fun ds g2 => .ok (d :: ds) g2
def vTup (a : AM) : EM := fun e g => (a e g).bind fun ds g1 => match okL ds.length with
  | true => .ok (.tup ds) g1
  | false => .stuck
def vLst (a : AM) : EM := fun e g => (a e g).bind fun ds g1 => match okL ds.length with
  | true => .ok (.lst ds) g1
  | false => .stuck
/-- a list that will change: an object -/
def vLstO (a : AM) : EM := fun e g => (a e g).bind fun ds g1 => match okL ds.length with
  | true => .ok (.ref g1.length) (g1 ++ [.lst ds])
  | false => .stuck
def fldD (cs : List Nat) (n : Nat) (g : G) (d : D) : Option D := match d with
  | .ref l => match g[l]? with
    | some (.ins c fs) => (match cs.contains c with
      | true => lkA n fs
      | false => none)
    | _ => none
  | _ => none
abbrev vFld (cs : List Nat) (n : Nat) (m : EM) : EM := vUn (fldD cs n) m
def vSl (m : EM) (lo hi : Option EM) : EM := fun e g => (m e g).bind fun x g1 => (match lo with
  | none => .ok none g1
  | some a => (a e g1).bind fun d g2 => match d with
    | .int i => .ok (some i) g2
    | _ => .stuck : Res (Option Int)).bind fun l g3 => (match hi with
  | none => .ok none g3
  | some a => (a e g3).bind fun d g2 => match d with
    | .int i => .ok (some i) g2
    | _ => .stuck : Res (Option Int)).bind fun u g4 => oR (slD g4 x l u) g4
/-- a built-in of values -/
def vCB (o : G → List D → Option D) (a : AM) : EM := fun e g => (a e g).bind fun ds g1 => oR (o g1 ds) g1

section
variable {Kt : Kit} {X : Cx} {W : WX} {k : Nat} {a b c : Expr} {ma mb mc : EM} {ta' tb' : TM} {pos : Pos} {es : List Expr} {ms : AM} {σ : L2.St} {H : Hp}
theorem se_var (i : Nat) {x : Str} (hN : X.N[i]? = some x := by rfl) (hv : Vis X.env.scope x := by first | exact Or.inl rfl | exact Or.inr (Or.inl rfl) | exact Or.inr (Or.inr rfl)) (hd : (x == ("__debug__" : Str)) = false := by decide)
    (hcd : (x == ("__classdict__" : Str)) = false := by decide) : PE X (.Name x pos) (te Kt W (vVar i)) :=
  (pv i hN hv hd hcd).imp fun σ H Q ⟨Φ, ι, F, e, g, S, h⟩ => by
    unfold vVar at h
    cases z : e[i]? with
    | none => rw [z] at h; exact h.elim
    | some o =>
      rw [z] at h
      cases o with
      | none => exact h.elim
      | some d =>
        obtain ⟨v, hv, r⟩ := S.env.2 i d z
        exact ⟨v, hv, h _ _ _ _ Ex.refl S.rel r⟩
theorem te_c {v : V} {d : D} (hd : ∀ ι F, DV Kt ι F v d) {Q : VK} (h : te Kt W (vC d) σ H Q) : tC v σ H Q := by
  obtain ⟨Φ, ι, F, e, g, S, h⟩ := h
  exact h _ _ _ _ Ex.refl S.rel (hd _ _)
theorem se_int {i : Int} {j} : PE X (.Constant (.int i) j pos) (te Kt W (vC (.int i))) := pe_int.imp fun _ _ _ => te_c fun _ _ => .int i
theorem se_bl {i : Bool} {j} : PE X (.Constant (.bool i) j pos) (te Kt W (vC (.bl i))) := pe_bl.imp fun _ _ _ => te_c fun _ _ => .bl i
theorem se_non {j} : PE X (.Constant .none j pos) (te Kt W (vC .non)) := pe_non.imp fun _ _ _ => te_c fun _ _ => .non
theorem se_str (n : Nat) {x : Str} {j} (h : Kt.tab[n]? = some x) : PE X (.Constant (.str x) j pos) (te Kt W (vC (.str n))) := pe_str.imp fun _ _ _ => te_c fun _ _ => .str h
theorem se_glob {x : Str} {v : V} {u : Value} {d : D} (A : At Kt X W k) (hm : Kt.mg x = some u) (r : RelV v u) (hd : ∀ ι F, DV Kt ι F v d) (hg : Gl X x := by rfl) (hdb : (x == ("__debug__" : Str)) = false := by decide) : PE X (.Name x pos) (te Kt W (vC d)) :=
  (pe_glob hg (A.em ▸ hm) r hdb).imp fun _ _ _ => te_c hd
theorem se_op {op : Operator} {r : R2} {o : OpT} (ho : OpR X (binaryOp op) r) (hd : OpD Kt r o) (ha : PE X a (te Kt W ma)) (hb : PE X b (te Kt W mb)) : PE X (.BinOp a op b pos) (te Kt W (vOp o ma mb)) :=
  (pe_op ho ha hb).imp fun _ _ _ => te_op hd
theorem or_add (A : At Kt X W k) : OpR X (binaryOp .Add) (fun x y H Q => rI0 (fun i j => .int (i + j)) x y H Q ∨ rCatT Kt.K x y H Q ∨ rCat x y H Q) := op_add.or ((A.eK ▸ op_catT).or op_cat)
theorem or_mul : OpR X (binaryOp .Mult) (fun x y H Q => rI CMul (fun i j => .int (i * j)) x y H Q ∨ rRep x y H Q) := op_mul.or op_rep
theorem se_add (A : At Kt X W k) (ha : PE X a (te Kt W ma)) (hb : PE X b (te Kt W mb)) : PE X (.BinOp a .Add b pos) (te Kt W (vOp addD ma mb)) := se_op (or_add A) od_add ha hb
theorem se_sub (ha : PE X a (te Kt W ma)) (hb : PE X b (te Kt W mb)) : PE X (.BinOp a .Sub b pos) (te Kt W (vOp subD ma mb)) := se_op op_sub od_sub ha hb
theorem se_mul (ha : PE X a (te Kt W ma)) (hb : PE X b (te Kt W mb)) : PE X (.BinOp a .Mult b pos) (te Kt W (vOp mulD ma mb)) := se_op or_mul od_mul ha hb
theorem se_div (ha : PE X a (te Kt W ma)) (hb : PE X b (te Kt W mb)) : PE X (.BinOp a .FloorDiv b pos) (te Kt W (vOp divD ma mb)) := se_op op_fdiv od_div ha hb
theorem se_mod (ha : PE X a (te Kt W ma)) (hb : PE X b (te Kt W mb)) : PE X (.BinOp a .Mod b pos) (te Kt W (vOp modD ma mb)) := se_op op_mod od_mod ha hb
theorem se_pow (ha : PE X a (te Kt W ma)) (hb : PE X b (te Kt W mb)) : PE X (.BinOp a .Pow b pos) (te Kt W (vOp powD ma mb)) := se_op op_pow od_pow ha hb
theorem se_neg (ha : PE X a (te Kt W ma)) : PE X (.UnaryOp .USub a pos) (te Kt W (vUn negD ma)) := (pe_un un_neg ha).imp fun _ _ _ => te_un ud_neg

/-! #### comparisons -/
structure Cmp (Kt : Kit) (X : Cx) (op : CmpOp) (o : OpT) : Prop where
  ex : ∃ r, OpR X (compareOp op) r ∧ OpD Kt r o
theorem cm_eq (A : At Kt X W k) : Cmp Kt X .Eq eqD := ⟨_, A.eK ▸ op_eqD (by have := A.hu; omega), od_eq⟩
theorem cm_ne (A : At Kt X W k) : Cmp Kt X .NotEq neD := ⟨_, A.eK ▸ op_neD (by have := A.hu; omega), od_ne⟩
theorem cm_lt : Cmp Kt X .Lt ltD := ⟨_, op_lt, od_ic⟩
theorem cm_le : Cmp Kt X .LtE leD := ⟨_, op_le, od_ic⟩
theorem cm_gt : Cmp Kt X .Gt gtD := ⟨_, op_gt, od_ic⟩
theorem cm_ge : Cmp Kt X .GtE geD := ⟨_, op_ge, od_ic⟩
theorem cm_is : Cmp Kt X .Is isN := ⟨_, op_isN, od_isN⟩
theorem cm_not : Cmp Kt X .IsNot notN := ⟨_, op_notN, od_notN⟩
theorem op_in_rng1 : OpR X (compareOp .In) (fun x y H Q => false = false ∧ ∃ i a lo hi, x = V.int i ∧ y = V.ref a ∧ H a = some (.rng lo hi) ∧ Q (.bl (decide (lo ≤ i ∧ i < hi))) H) :=
  fun pins s σ H x y v u Q I rx ry h => op_in_rng pins s σ H x y v u Q I rx ry h.2
theorem cm_in (A : At Kt X W k) : Cmp Kt X .In (inD false) := ⟨_, (A.eK ▸ op_inS A.hu : OpR X _ (rInS Kt.K false)).or op_in_rng1, od_in⟩
theorem op_never {f : Value → Value → Sem Value} {r : R2} : OpR X f (fun x y H Q => true = false ∧ r x y H Q) := fun pins s σ H x y v u Q I rx ry h => Bool.noConfusion h.1
theorem cm_notin (A : At Kt X W k) : Cmp Kt X .NotIn (inD true) := ⟨_, (A.eK ▸ op_notInS A.hu : OpR X _ (rInS Kt.K true)).or op_never, od_in⟩
theorem se_cmp {op : CmpOp} {o : OpT} (h : Cmp Kt X op o) (ha : PE X a (te Kt W ma)) (hb : PE X b (te Kt W mb)) (hm : behindInMarks op b = false := by first | exact nomark _ | rfl) : PE X (.Compare a [op] [b] pos) (te Kt W (vOp o ma mb)) :=
  let ⟨r, ho, hd⟩ := h.ex
  (pe_cmpR ho ha hb hm).imp fun _ _ _ => te_op hd
theorem te_tOf {t : TE} {m : EM} (i : ∀ Q, te Kt W m σ H Q → t σ H Q) {Q : Bool → Hp → Prop} (h : tt Kt W (tOf m) σ H Q) : tTest t σ H Q := by
  obtain ⟨Φ, ι, F, e, g, S, h⟩ := h
  refine i _ ⟨Φ, ι, F, e, g, S, (po.bind (Rl := DV Kt) h).imp fun v H1 ⟨ι1, F1, g1, d, x1, R1, r1, h1⟩ => ?_⟩
  cases r1 with
  | bl b => exact ⟨b, rfl, h1 _ _ _ _ Ex.refl R1 rfl⟩
  | _ => exact h1.elim
theorem st_cmp {op : CmpOp} {o : OpT} (h : Cmp Kt X op o) (ha : PE X a (te Kt W ma)) (hb : PE X b (te Kt W mb)) (hm : behindInMarks op b = false := by first | exact nomark _ | rfl) : PT X (.Compare a [op] [b] pos) (tt Kt W (tOf (vOp o ma mb))) :=
  let ⟨r, ho, hd⟩ := h.ex
  (pt_cmpR ho ha hb hm).imp fun _ _ _ => te_tOf fun _ => te_op hd
theorem te_chain {r r' : R2} {o o' : OpT} (hd : OpD Kt r o) (hd' : OpD Kt r' o') {Q : VK} (h : te Kt W (vChain o o' ma mb mc) σ H Q) : tChain r r' (te Kt W ma) (te Kt W mb) (te Kt W mc) σ H Q := by
  obtain ⟨Φ, ι, F, e, g, S, h⟩ := h
  refine ⟨Φ, ι, F, e, g, S, (po.bind (Rl := DV Kt) h).imp fun v H1 ⟨ι1, F1, g1, d1, x1, R1, r1, h1⟩ => ?_⟩
  refine ⟨Φ, ι1, F1, e, g1, ⟨S.env.mono x1, R1⟩, (po.bind (Rl := DV Kt) h1).imp fun v2 H2 ⟨ι2, F2, g2, d2, x2, R2, r2, h2⟩ => ?_⟩
  cases z : o g2 d1 d2 with
  | none => rw [z] at h2; exact h2.elim
  | some d =>
    rw [z] at h2
    refine hd R2 (r1.mono x2) r2 z _ fun ι3 F3 H3 v3 x3 R3 r3 => ?_
    cases r3 with
    | bl c =>
      refine ⟨c, rfl, ?_⟩
      have h3 : po Kt Φ W σ (DV Kt) ι2 F2 (bif c then (mc e g2).bind fun w g5 => oR (o' g5 d2 w) g5 else .ok (.bl false) g2) Q := h2
      cases c with
      | false => rw [if_neg Bool.false_ne_true]; exact h3 _ _ _ _ x3 R3 (.bl _)
      | true =>
        rw [if_pos rfl]
        refine ⟨Φ, ι3, F3, e, g2, ⟨S.env.mono ((x1.trans x2).trans x3), R3⟩, ((po.bind (Rl := DV Kt) (h3.mono x3))).imp fun v4 H4 ⟨ι4, F4, g4, d4, x4, R4, r4, h4⟩ => ?_⟩
        cases z' : o' g4 d2 d4 with
        | none => rw [z'] at h4; exact h4.elim
        | some d5 => rw [z'] at h4; exact hd' R4 (r2.mono (x3.trans x4)) r4 z' Q h4
    | _ => exact h2.elim
theorem se_chain {op op' : CmpOp} {o o' : OpT} (h : Cmp Kt X op o) (h' : Cmp Kt X op' o') (ha : PE X a (te Kt W ma)) (hb : PE X b (te Kt W mb)) (hc : PE X c (te Kt W mc)) (hm : lastMarks [op, op'] [b, c] = false := by with_unfolding_all rfl) :
    PE X (.Compare a [op, op'] [b, c] pos) (te Kt W (vChain o o' ma mb mc)) :=
  let ⟨r, ho, hd⟩ := h.ex
  let ⟨r', ho', hd'⟩ := h'.ex
  (pe_chain ho ho' ha hb hc hm).imp fun _ _ _ => te_chain hd hd'
theorem st_chain {op op' : CmpOp} {o o' : OpT} (h : Cmp Kt X op o) (h' : Cmp Kt X op' o') (ha : PE X a (te Kt W ma)) (hb : PE X b (te Kt W mb)) (hc : PE X c (te Kt W mc)) (hm : lastMarks [op, op'] [b, c] = false := by with_unfolding_all rfl) :
    PT X (.Compare a [op, op'] [b, c] pos) (tt Kt W (tOf (vChain o o' ma mb mc))) :=
  let ⟨r, ho, hd⟩ := h.ex
  let ⟨r', ho', hd'⟩ := h'.ex
  (pt_chain ho ho' ha hb hc hm).imp fun _ _ _ => te_tOf fun _ => te_chain hd hd'

/-! #### and, or, not, if -/
theorem sw_and1 (ha : PT X a (tt Kt W ta')) : PW X (.BoolOp .And [a] pos) (tt Kt W ta') := pw_and1 ha
theorem sw_or1 (ha : PT X a (tt Kt W ta')) : PW X (.BoolOp .Or [a] pos) (tt Kt W ta') := pw_or1 ha
theorem sw_and {rest : List Expr} (ha : PT X a (tt Kt W ta')) (hb : PW X (.BoolOp .And (b :: rest) pos) (tt Kt W tb')) : PW X (.BoolOp .And (a :: b :: rest) pos) (tt Kt W (tAnd ta' tb')) :=
  L2.PW.imp (pw_and ha hb) fun σ H Q ⟨Φ, ι, F, e, g, S, h⟩ => ⟨Φ, ι, F, e, g, S, (po.bind (Rl := RB) h).imp fun v H1 ⟨ι1, F1, g1, d1, x1, R1, r1, h1⟩ => by
    obtain rfl : v = d1 := r1
    cases v with
    | true => rw [if_pos rfl]; exact ⟨Φ, ι1, F1, e, g1, ⟨S.env.mono x1, R1⟩, h1⟩
    | false => rw [if_neg Bool.false_ne_true]; exact h1 _ _ _ _ Ex.refl R1 rfl⟩
theorem sw_or {rest : List Expr} (ha : PT X a (tt Kt W ta')) (hb : PW X (.BoolOp .Or (b :: rest) pos) (tt Kt W tb')) : PW X (.BoolOp .Or (a :: b :: rest) pos) (tt Kt W (tOr ta' tb')) :=
  L2.PW.imp (pw_or ha hb) fun σ H Q ⟨Φ, ι, F, e, g, S, h⟩ => ⟨Φ, ι, F, e, g, S, (po.bind (Rl := RB) h).imp fun v H1 ⟨ι1, F1, g1, d1, x1, R1, r1, h1⟩ => by
    obtain rfl : v = d1 := r1
    cases v with
    | true => rw [if_pos rfl]; exact h1 _ _ _ _ Ex.refl R1 rfl
    | false => rw [if_neg Bool.false_ne_true]; exact ⟨Φ, ι1, F1, e, g1, ⟨S.env.mono x1, R1⟩, h1⟩⟩
theorem st_not (ha : PT X a (tt Kt W ta')) : PT X (.UnaryOp .Not a pos) (tt Kt W (tNot ta')) :=
  (pt_not ha).imp fun σ H Q ⟨Φ, ι, F, e, g, S, h⟩ => ⟨Φ, ι, F, e, g, S, (po.bind (Rl := RB) h).imp fun v H1 ⟨ι1, F1, g1, d1, x1, R1, r1, h1⟩ => by
    obtain rfl : v = d1 := r1
    exact h1 _ _ _ _ Ex.refl R1 rfl⟩
theorem se_one {op} (ha : PE X a (te Kt W ma)) : PE X (.BoolOp op [a] pos) (te Kt W ma) := pe_one ha
theorem se_and {rest : List Expr} (ha : PE X a (te Kt W ma)) (hb : PE X (.BoolOp .And (b :: rest) pos) (te Kt W mb)) : PE X (.BoolOp .And (a :: b :: rest) pos) (te Kt W (vAnd ma mb)) :=
  (pe_and ha hb).imp fun σ H Q ⟨Φ, ι, F, e, g, S, h⟩ => ⟨Φ, ι, F, e, g, S, (po.bind (Rl := DV Kt) h).imp fun v H1 ⟨ι1, F1, g1, d1, x1, R1, r1, h1⟩ => by
    cases r1 with
    | bl c =>
      refine ⟨c, rfl, ?_⟩
      cases c with
      | true => rw [if_pos rfl]; exact ⟨Φ, ι1, F1, e, g1, ⟨S.env.mono x1, R1⟩, h1⟩
      | false => rw [if_neg Bool.false_ne_true]; exact h1 _ _ _ _ Ex.refl R1 (.bl _)
    | _ => exact h1.elim⟩
theorem se_or {rest : List Expr} (ha : PE X a (te Kt W ma)) (hb : PE X (.BoolOp .Or (b :: rest) pos) (te Kt W mb)) : PE X (.BoolOp .Or (a :: b :: rest) pos) (te Kt W (vOr ma mb)) :=
  (pe_or ha hb).imp fun σ H Q ⟨Φ, ι, F, e, g, S, h⟩ => ⟨Φ, ι, F, e, g, S, (po.bind (Rl := DV Kt) h).imp fun v H1 ⟨ι1, F1, g1, d1, x1, R1, r1, h1⟩ => by
    cases r1 with
    | bl c =>
      refine ⟨c, rfl, ?_⟩
      cases c with
      | true => rw [if_pos rfl]; exact h1 _ _ _ _ Ex.refl R1 (.bl _)
      | false => rw [if_neg Bool.false_ne_true]; exact ⟨Φ, ι1, F1, e, g1, ⟨S.env.mono x1, R1⟩, h1⟩
    | _ => exact h1.elim⟩
theorem se_not (ha : PE X a (te Kt W ma)) : PE X (.UnaryOp .Not a pos) (te Kt W (vNot ma)) :=
  (pe_not ha).imp fun σ H Q ⟨Φ, ι, F, e, g, S, h⟩ => ⟨Φ, ι, F, e, g, S, (po.bind (Rl := DV Kt) h).imp fun v H1 ⟨ι1, F1, g1, d1, x1, R1, r1, h1⟩ => by
    cases r1 with
    | bl c => exact ⟨c, rfl, h1 _ _ _ _ Ex.refl R1 (.bl _)⟩
    | _ => exact h1.elim⟩
theorem se_if (hc : PT X c (tt Kt W ta')) (ha : PE X a (te Kt W ma)) (hb : PE X b (te Kt W mb)) : PE X (.IfExp c a b pos) (te Kt W (vIf ta' ma mb)) :=
  (pe_ifExp hc ha hb).imp fun σ H Q ⟨Φ, ι, F, e, g, S, h⟩ => ⟨Φ, ι, F, e, g, S, (po.bind (Rl := RB) h).imp fun v H1 ⟨ι1, F1, g1, d1, x1, R1, r1, h1⟩ => by
    obtain rfl : v = d1 := r1
    cases v with
    | true => rw [if_pos rfl]; exact ⟨Φ, ι1, F1, e, g1, ⟨S.env.mono x1, R1⟩, h1⟩
    | false => rw [if_neg Bool.false_ne_true]; exact ⟨Φ, ι1, F1, e, g1, ⟨S.env.mono x1, R1⟩, h1⟩⟩
/-! #### a value as a test -/
theorem truD_ok {Φ : Hp} {ι : List Addr} {F : Hp} {g : G} {v : V} {d : D} {b : Bool} (R : RelG Kt Φ ι F g H) (r : DV Kt ι F v d) (h : truD g d = some b) : TruV Kt.K v H b := by
  have key : ∀ ds, lsD g d = some ds → TruV Kt.K v H (!ds.isEmpty) := fun ds e => by
    obtain ⟨a, vs, rfl, e1, r1⟩ := lsD_ok R r e
    refine .inl ⟨vs, .inl (.inl e1), ?_⟩
    cases r1 <;> rfl
  unfold truD at h
  cases r with
  | non => simp at h; subst h; rfl
  | bl b => simp at h; subst h; rfl
  | int i => simp at h; subst h; rfl
  | tup e r =>
    cases (show some _ = some b from h)
    refine .inr (.inl ⟨_, sqt_mono R.sub (tS e), ?_⟩)
    cases r <;> rfl
  | lst e r => cases (show some _ = some b from h); exact key _ rfl
  | ref e =>
    rename_i l _
    cases z : snap g (.ref l) with
    | lst es => rw [z] at h; cases (show some _ = some b from h); exact key _ (by unfold lsD; rw [z])
    | non => rw [snap_ref] at z; split at z <;> cases z
    | bl b => rw [snap_ref] at z; split at z <;> cases z
    | int b => rw [snap_ref] at z; split at z <;> cases z
    | tup b => rw [snap_ref] at z; split at z <;> cases z
    | _ => rw [z] at h; simp at h
  | scr e => simp [snap] at h
  | str e => simp at h
  | rng e => simp at h
  | dic e => simp [snap] at h
  | kt e r => simp [snap] at h
theorem st_tru (A : At Kt X W k) (ha : PE X a (te Kt W ma)) (he : ∀ whole, isTrue a X.env whole = (do let v ← whole; standAt a.pos; holding [v] (truthy v)) := by intro _; rfl) : PT X a (tt Kt W (tTru ma)) :=
  (pt_truth ha he).imp fun σ H Q ⟨Φ, ι, F, e, g, S, h⟩ => ⟨Φ, ι, F, e, g, S, (po.bind (Rl := DV Kt) h).imp fun v H1 ⟨ι1, F1, g1, d1, x1, R1, r1, h1⟩ => by
    cases z : truD g1 d1 with
    | none => rw [z] at h1; exact h1.elim
    | some b => rw [z] at h1; exact ⟨b, A.eK ▸ truD_ok R1 r1 z, h1 _ _ _ _ Ex.refl R1 rfl⟩⟩
/-- a call, an attribute that gives a bool -/
theorem st_val (ha : PE X a (te Kt W ma)) (he : ∀ whole, isTrue a X.env whole = (do let v ← whole; standAt a.pos; holding [v] (truthy v)) := by intro _; rfl) : PT X a (tt Kt W (tOf ma)) :=
  (pt_val ha he).imp fun σ H Q h => te_tOf (fun _ q => q) h

/-! #### items, slices, displays, attributes -/
theorem se_ix (A : At Kt X W k) (ha : PE X a (te Kt W ma)) (hb : PE X b (te Kt W mb)) (hs : PlainIx b := by intro _ _; rfl) : PE X (.Subscript a b pos) (te Kt W (vOp ixD ma mb)) :=
  (pe_ix (A.eK ▸ ix_seq : IxR X (rIx Kt.K)) ha hb hs).imp fun _ _ _ => te_op od_ix
def RO (Kt : Kit) : List Addr → Hp → Option Int → Option Int → Prop := fun _ _ a b => a = b
/-- a slice's part -/
structure PSl (Kt : Kit) (X : Cx) (W : WX) (o : Option Expr) (m : Option EM) : Prop where
  ex : ∃ t, PO X o t ∧ ∀ σ H Φ ι F e g (Q : Option Int → Hp → Prop), St' Kt Φ ι F e g σ H → po Kt Φ W σ (RO Kt) ι F (match m with
  | none => .ok none g
  | some a => (a e g).bind fun d g2 => match d with
    | .int i => .ok (some i) g2
    | _ => .stuck : Res (Option Int)) Q → t σ H Q
theorem sl_no : PSl Kt X W none none := ⟨_, po_none, fun σ H Φ ι F e g Q S h => h _ _ _ _ Ex.refl S.rel rfl⟩
theorem sl_so (ha : PE X a (te Kt W ma)) : PSl Kt X W (some a) (some ma) := ⟨_, po_some ha, fun σ H Φ ι F e g Q S h => ⟨Φ, ι, F, e, g, S, (po.bind (Rl := DV Kt) h).imp fun v H1 ⟨ι1, F1, g1, d1, x1, R1, r1, h1⟩ => by
    cases r1 with
    | int i => exact ⟨i, rfl, h1 _ _ _ _ Ex.refl R1 rfl⟩
    | _ => exact h1.elim⟩⟩
theorem se_sl {lo hi : Option Expr} {ml mh : Option EM} {p2 : Pos} (A : At Kt X W k) (ha : PE X a (te Kt W ma)) (hl : PSl Kt X W lo ml) (hh : PSl Kt X W hi mh) : PE X (.Subscript a (.Slice lo hi none p2) pos) (te Kt W (vSl ma ml mh)) := by
  obtain ⟨tl, pl, il⟩ := hl.ex
  obtain ⟨th, ph, ih⟩ := hh.ex
  refine (pe_slice ((A.eK ▸ sl_list : SlR X (rSlL Kt.K)).or (A.eK ▸ sl_tup : SlR X (rSlT Kt.K))) ha pl ph).imp fun σ H Q ⟨Φ, ι, F, e, g, S, h⟩ => ⟨Φ, ι, F, e, g, S, (po.bind (Rl := DV Kt) h).imp fun v H1 ⟨ι1, F1, g1, d1, x1, R1, r1, h1⟩ => ?_⟩
  refine il σ H1 Φ ι1 F1 e g1 _ ⟨S.env.mono x1, R1⟩ ((po.bind (Rl := RO Kt) h1).imp fun v2 H2 ⟨ι2, F2, g2, d2, x2, R2, r2, h2⟩ => ?_)
  refine ih σ H2 Φ ι2 F2 e g2 _ ⟨S.env.mono (x1.trans x2), R2⟩ ((po.bind (Rl := RO Kt) h2).imp fun v3 H3 ⟨ι3, F3, g3, d3, x3, R3, r3, h3⟩ => ?_)
  obtain rfl : v2 = d2 := r2
  obtain rfl : v3 = d3 := r3
  cases z : slD g3 d1 v2 v3 with
  | none => rw [z] at h3; exact h3.elim
  | some d => rw [z] at h3; exact sd_sl R3 (r1.mono (x2.trans x3)) z h3
theorem sa_nil : PA X [] (ta Kt W aNil) := L2.PA.imp pa_nil fun σ H Q ⟨Φ, ι, F, e, g, S, h⟩ => h _ _ _ _ Ex.refl S.rel .nil
theorem sa_cons (ha : PE X a (te Kt W ma)) (hr : PA X es (ta Kt W ms)) (hs : starEach (a :: es) X.env = (false, eval a X.env) :: starEach es X.env := by rfl) : PA X (a :: es) (ta Kt W (aCons ma ms)) :=
  L2.PA.imp (pa_cons ha hr hs) fun σ H Q ⟨Φ, ι, F, e, g, S, h⟩ => ⟨Φ, ι, F, e, g, S, (po.bind (Rl := DV Kt) h).imp fun v H1 ⟨ι1, F1, g1, d1, x1, R1, r1, h1⟩ => by
    refine ⟨Φ, ι1, F1, e, g1, ⟨S.env.mono x1, R1⟩, (po.bind (Rl := DVs Kt) h1).imp fun v2 H2 ⟨ι2, F2, g2, d2, x2, R2, r2, h2⟩ => ?_⟩
    exact h2 _ _ _ _ Ex.refl R2 (.cons (r1.mono x2) r2)⟩
theorem se_tup {x1} (h : PA X es (ta Kt W ms)) : PE X (.Tuple es x1 pos) (te Kt W (vTup ms)) :=
  (pe_tup h).imp fun σ H Q ⟨Φ, ι, F, e, g, S, h⟩ => ⟨Φ, ι, F, e, g, S, (po.bind (Rl := DVs Kt) h).imp fun v H1 ⟨ι1, F1, g1, d1, x1, R1, r1, h1⟩ => by
    split at h1
    · rename_i hl
      exact ⟨by rw [r1.length]; exact okL_iff.mp hl, newT R1 r1 h1⟩
    · exact h1.elim⟩
theorem se_lst (h : PA X es (ta Kt W ms)) : PE X (.List es pos) (te Kt W (vLst ms)) :=
  (pe_lst h).imp fun σ H Q ⟨Φ, ι, F, e, g, S, h⟩ => ⟨Φ, ι, F, e, g, S, (po.bind (Rl := DVs Kt) h).imp fun v H1 ⟨ι1, F1, g1, d1, x1, R1, r1, h1⟩ => by
    split at h1
    · rename_i hl
      exact ⟨by rw [r1.length]; exact okL_iff.mp hl, newL R1 r1 h1⟩
    · exact h1.elim⟩
theorem get_snoc {ι : List Addr} {p : Addr} {n : Nat} (h : ι.length = n) : (ι ++ [p])[n]? = some p := by
  rw [List.getElem?_append_right (by omega), h, Nat.sub_self]; rfl
theorem newO {Φ : Hp} {ι : List Addr} {F : Hp} {g : G} (R : RelG Kt Φ ι F g H) {vs : List V} {ds : List D} (r : DVs Kt ι F vs ds) {Q : VK} (h : ∀ ι' F' H' v, Ex ι F ι' F' → RelG Kt Φ ι' F' (g ++ [.lst ds]) H' → DV Kt ι' F' v (.ref g.length) → Q v H') (p : Addr) (hp : H p = none) : Q (.ref p) (upd H p (.lst vs)) := by
  have fp : F p = none := by
    cases e : F p with
    | none => rfl
    | some u => rw [R.sub p u e] at hp; cases hp
  have x : Ex ι F (ι ++ [p]) F := ⟨fun l a h => by rw [List.getElem?_append_left (List.getElem?_eq_some_iff.mp h).1]; exact h, fun _ _ h => h⟩
  obtain ⟨R', _⟩ := R.new hp (fun a o q => by rw [upd_ne (ne_of_none q hp)]; exact q) (by rw [upd_same]; simp) (o := .lst ds) ⟨fp, vs, upd_same, r.mono x⟩
  exact h _ _ _ _ x R' (.ref (get_snoc R.len))
theorem se_lstO (h : PA X es (ta Kt W ms)) : PE X (.List es pos) (te Kt W (vLstO ms)) :=
  (pe_lst h).imp fun σ H Q ⟨Φ, ι, F, e, g, S, h⟩ => ⟨Φ, ι, F, e, g, S, (po.bind (Rl := DVs Kt) h).imp fun v H1 ⟨ι1, F1, g1, d1, x1, R1, r1, h1⟩ => by
    split at h1
    · rename_i hl
      exact ⟨by rw [r1.length]; exact okL_iff.mp hl, newO R1 r1 h1⟩
    · exact h1.elim⟩
/-- of each of these classes: it is plain, and none of its bases has the name -/
def CA (Kt : Kit) (cs : List Nat) (x : Str) : Prop := ∀ c ∈ cs, ∀ C, Kt.cls[c]? = some C → Cls Kt.K C ∧ NoAttr Kt.K C x
theorem ud_fld {cs : List Nat} {n : Nat} {x : Str} (hx : Kt.tab[n]? = some x) (ca : CA Kt cs x) :
    UnD Kt (fun v H Q => ∃ a C dx fs u, v = .ref a ∧ H a = some (.ins C dx fs) ∧ Cls Kt.K C ∧ NoAttr Kt.K C x ∧ fs.lookup x = some u ∧ Q u H) (fldD cs n) := by
  intro Φ ι F g H v d z R hv h Q q
  unfold fldD at h
  split at h
  · rename_i l
    split at h
    · rename_i c fs e1
      split at h
      · rename_i hc
        cases hv with
        | ref e2 =>
          obtain ⟨_, C, dx, gs, e3, e4, r4⟩ := R.ob l _ _ e1 e2
          obtain ⟨u, l1, l2⟩ := r4.look hx h
          obtain ⟨c1, c2⟩ := ca c (by simpa using hc) C e3
          exact ⟨_, C, dx, gs, u, rfl, e4, c1, c2, l1, q _ _ _ _ Ex.refl R l2⟩
      · cases h
    · cases h
  · cases h
theorem se_fld {n : Nat} {cs : List Nat} {x : Str} (A : At Kt X W k) (hx : Kt.tab[n]? = some x) (ca : CA Kt cs x) (ha : PE X a (te Kt W ma)) (hb : attributeBase a x X.env (eval a X.env) = eval a X.env := by rfl) : PE X (.Attribute a x pos) (te Kt W (vFld cs n ma)) := by
  have h := pe_fld (pos := pos) ha hb
  rw [A.eK] at h
  exact h.imp fun _ _ _ => te_un (ud_fld hx ca)

/-! #### built-ins -/
def CrD (Kt : Kit) (r : List V → Hp → VK → Prop) (o : G → List D → Option D) : Prop := ∀ {Φ : Hp} {ι : List Addr} {F : Hp} {g : G} {H : Hp} {xs : List V} {ds : List D} {z : D}, RelG Kt Φ ι F g H → DVs Kt ι F xs ds → o g ds = some z →
  ∀ Q : VK, (∀ ι' F' H' v, Ex ι F ι' F' → RelG Kt Φ ι' F' g H' → DV Kt ι' F' v z → Q v H') → r xs H Q
theorem te_cb {r : List V → Hp → VK → Prop} {o : G → List D → Option D} (hd : CrD Kt r o) {Q : VK} (h : te Kt W (vCB o ms) σ H Q) : tCB r (ta Kt W ms) σ H Q := by
  obtain ⟨Φ, ι, F, e, g, S, h⟩ := h
  refine ⟨Φ, ι, F, e, g, S, (po.bind (Rl := DVs Kt) h).imp fun v H1 ⟨ι1, F1, g1, a, x1, R1, r1, h1⟩ => ?_⟩
  cases z : o g1 a with
  | none => rw [z] at h1; exact h1.elim
  | some d => rw [z] at h1; exact hd R1 r1 z Q h1
/-- f(e, ..), f a built-in -/
theorem se_cb {x : Str} {id : String} {p : Pos} {r : List V → Hp → VK → Prop} {o : G → List D → Option D} (A : At Kt X W k) (hc : CallR X (.builtin id) r) (hd : CrD Kt r o) (hm : Kt.mg x = none) (hv : bootBuiltins x = some (.builtin id)) (ha : PA X (a :: es) (ta Kt W ms)) (hg : Gl X x := by rfl) (hn : x ≠ "__name__" := by decide)
    (hdb : (x == ("__debug__" : Str)) = false := by decide) (he : starEach (a :: es) X.env = (false, eval a X.env) :: starEach es X.env := by rfl) (hpl : (backTo pos (starEach es X.env)).any (·.1) = false := by rfl) : PE X (.Call (.Name x p) (a :: es) [] pos) (te Kt W (vCB o ms)) :=
  (pe_callB hc hg (A.em ▸ hm) hv ha hn hdb he hpl).imp fun _ _ _ => te_cb hd
theorem se_cty {x : Str} {id : String} {p : Pos} {r : List V → Hp → VK → Prop} {o : G → List D → Option D} (A : At Kt X W k) (hc : CallR X (.type id) r) (hd : CrD Kt r o) (hm : Kt.mg x = none) (hv : bootBuiltins x = some (.type id)) (ha : PA X (a :: es) (ta Kt W ms)) (hg : Gl X x := by rfl) (hn : x ≠ "__name__" := by decide)
    (hdb : (x == ("__debug__" : Str)) = false := by decide) (he : starEach (a :: es) X.env = (false, eval a X.env) :: starEach es X.env := by rfl) (hpl : (backTo pos (starEach es X.env)).any (·.1) = false := by rfl) : PE X (.Call (.Name x p) (a :: es) [] pos) (te Kt W (vCB o ms)) :=
  (pe_callTy hc hg (A.em ▸ hm) hv ha hn hdb he hpl).imp fun _ _ _ => te_cb hd
def lenD (g : G) (ds : List D) : Option D := match ds with
  | [d] => match itD g d with
    | some xs => some (.int xs.length)
    | none => none
  | _ => none
theorem itD_ok {Φ : Hp} {ι : List Addr} {F : Hp} {g : G} {v : V} {d : D} {ds : List D} (R : RelG Kt Φ ι F g H) (r : DV Kt ι F v d) (h : itD g d = some ds) : ∃ a vs, v = .ref a ∧ (SqL Kt.K H a vs ∨ SqT Kt.K H a vs) ∧ DVs Kt ι F vs ds := by
  unfold itD at h
  split at h
  · cases h
    cases r with
    | tup e1 r1 => exact ⟨_, _, rfl, .inr (sqt_mono R.sub (tS e1)), r1⟩
  · cases h
    cases r with
    | scr e1 r1 => exact ⟨_, _, rfl, .inl (sql_mono R.sub e1), r1⟩
  · obtain ⟨a, vs, rfl, e1, r1⟩ := lsD_ok R r h
    exact ⟨_, _, rfl, .inl (.inl (.inl e1)), r1⟩
theorem cd_len : CrD Kt (fun xs H Q => ∃ x n, xs = [x] ∧ LenV Kt.K x H n ∧ Q (.int n) H) lenD := by
  intro Φ ι F g H xs ds z R hv h Q q
  unfold lenD at h
  split at h
  · rename_i d
    cases hv with
    | cons r1 r2 =>
    cases r2
    split at h
    · rename_i ys e
      cases h
      obtain ⟨a, vs, rfl, hs, r⟩ := itD_ok R r1 e
      refine ⟨_, vs.length, rfl, ?_, by rw [r.length]; exact q _ _ _ _ Ex.refl R (.int _)⟩
      rcases hs with hs | hs
      · exact .inl ⟨vs, hs, rfl⟩
      · exact .inr ⟨vs, hs, rfl⟩
    · cases h
  · cases h
def absD (_ : G) (ds : List D) : Option D := match ds with
  | [.int i] => some (.int (if i < 0 then -i else i))
  | _ => none
theorem cd_abs : CrD Kt (fun xs H Q => ∃ i, xs = [.int i] ∧ Q (.int (if i < 0 then -i else i)) H) absD := by
  intro Φ ι F g H xs ds z R hv h Q q
  unfold absD at h
  split at h
  · cases hv with
    | cons r1 r2 => cases r1; cases r2; cases h; exact ⟨_, rfl, q _ _ _ _ Ex.refl R (.int _)⟩
  · cases h
def maxD (_ : G) (ds : List D) : Option D := match ds with
  | [.int i, .int j] => some (.int (if j > i then j else i))
  | _ => none
def minD (_ : G) (ds : List D) : Option D := match ds with
  | [.int i, .int j] => some (.int (if j < i then j else i))
  | _ => none
theorem cd_max : CrD Kt (fun xs H Q => ∃ i j, xs = [.int i, .int j] ∧ Q (.int (if j > i then j else i)) H) maxD := by
  intro Φ ι F g H xs ds z R hv h Q q
  unfold maxD at h
  split at h
  · cases hv with
    | cons r1 r2 =>
      cases r2 with
      | cons r2 r3 => cases r1; cases r2; cases r3; cases h; exact ⟨_, _, rfl, q _ _ _ _ Ex.refl R (.int _)⟩
  · cases h
theorem cd_min : CrD Kt (fun xs H Q => ∃ i j, xs = [.int i, .int j] ∧ Q (.int (if j < i then j else i)) H) minD := by
  intro Φ ι F g H xs ds z R hv h Q q
  unfold minD at h
  split at h
  · cases hv with
    | cons r1 r2 =>
      cases r2 with
      | cons r2 r3 => cases r1; cases r2; cases r3; cases h; exact ⟨_, _, rfl, q _ _ _ _ Ex.refl R (.int _)⟩
  · cases h
def intD (_ : G) (ds : List D) : Option D := match ds with
  | [.int i] => some (.int i)
  | [.bl k] => some (.int (if k then 1 else 0))
  | _ => none
theorem cd_int : CrD Kt (fun xs H Q => (∃ i, xs = [.int i] ∧ Q (.int i) H) ∨ ∃ k, xs = [.bl k] ∧ Q (.int (if k then 1 else 0)) H) intD := by
  intro Φ ι F g H xs ds z R hv h Q q
  unfold intD at h
  split at h
  · cases hv with
    | cons r1 r2 => cases r1; cases r2; cases h; exact .inl ⟨_, rfl, q _ _ _ _ Ex.refl R (.int _)⟩
  · cases hv with
    | cons r1 r2 => cases r1; cases r2; cases h; exact .inr ⟨_, rfl, q _ _ _ _ Ex.refl R (.int _)⟩
  · cases h
/-- list(x), tuple(x): copies that do not change -/
def listD (g : G) (ds : List D) : Option D := match ds with
  | [d] => match itD g d with
    | some xs => some (.lst xs)
    | none => none
  | _ => none
theorem cd_list : CrD Kt (fun xs H Q => ∃ p ys, xs = [.ref p] ∧ (SqL Kt.K H p ys ∨ SqT Kt.K H p ys) ∧ ∀ l, H l = none → Q (.ref l) (upd H l (.lst ys))) listD := by
  intro Φ ι F g H xs ds z R hv h Q q
  unfold listD at h
  split at h
  · rename_i d
    cases hv with
    | cons r1 r2 =>
    cases r2
    split at h
    · rename_i ys e
      cases h
      obtain ⟨a, vs, rfl, hs, r⟩ := itD_ok R r1 e
      exact ⟨_, vs, rfl, hs, newL R r q⟩
    · cases h
  · cases h
def tupleD (g : G) (ds : List D) : Option D := match ds with
  | [d] => match d with
    | .tup xs => some (.tup xs)
    | _ => match lsD g d with
      | some xs => some (.tup xs)
      | none => none
  | _ => none
theorem cd_tuple : CrD Kt (fun xs H Q => ∃ p ys, xs = [.ref p] ∧ ((SqL Kt.K H p ys ∧ ∀ l, H l = none → Q (.ref l) (upd H l (.tup ys))) ∨ (SqT Kt.K H p ys ∧ Q (.ref p) H))) tupleD := by
  intro Φ ι F g H xs ds z R hv h Q q
  unfold tupleD at h
  split at h
  · rename_i d
    cases hv with
    | cons r1 r2 =>
    cases r2
    split at h
    · cases h
      cases r1 with
      | tup e1 r => exact ⟨_, _, rfl, .inr ⟨sqt_mono R.sub (tS e1), q _ _ _ _ Ex.refl R (.tup e1 r)⟩⟩
    · split at h
      · rename_i ys e
        cases h
        obtain ⟨a, vs, rfl, hs, r⟩ := lsD_ok R r1 e
        exact ⟨_, vs, rfl, .inl ⟨.inl (.inl hs), newT R r q⟩⟩
      · cases h
  · cases h
/-- list(x): a copy that will change -/
def vListO (a : AM) : EM := fun e g => (a e g).bind fun ds g1 => match ds with
  | [d] => match itD g1 d with
    | some xs => .ok (.ref g1.length) (g1 ++ [.lst xs])
    | none => .stuck
  | _ => .stuck
theorem se_listO {p : Pos} (A : At Kt X W k) (hm : Kt.mg "list" = none) (ha : PA X (a :: es) (ta Kt W ms)) (hg : Gl X "list" := by rfl) (he : starEach (a :: es) X.env = (false, eval a X.env) :: starEach es X.env := by rfl) (hpl : (backTo pos (starEach es X.env)).any (·.1) = false := by rfl) :
    PE X (.Call (.Name "list" p) (a :: es) [] pos) (te Kt W (vListO ms)) :=
  (pe_callTy (A.eK ▸ call_list_of : CallR X _ (fun xs H Q => ∃ p ys, xs = [.ref p] ∧ (SqL Kt.K H p ys ∨ SqT Kt.K H p ys) ∧ ∀ l, H l = none → Q (.ref l) (upd H l (.lst ys)))) hg (A.em ▸ hm) (by decide +kernel) ha (by decide) (by decide) he hpl).imp fun σ H Q ⟨Φ, ι, F, e, g, S, h⟩ => ⟨Φ, ι, F, e, g, S, (po.bind (Rl := DVs Kt) h).imp fun v H1 ⟨ι1, F1, g1, d1, x1, R1, r1, h1⟩ => by
    split at h1
    · rename_i d
      cases r1 with
      | cons r1 r2 =>
      cases r2
      split at h1
      · rename_i ys e
        obtain ⟨a, vs, rfl, hs, r⟩ := itD_ok R1 r1 e
        exact ⟨_, vs, rfl, hs, newO R1 r h1⟩
      · exact h1.elim
    · exact h1.elim⟩
/-! #### isinstance -/
inductive Ty where | non | bool | int | str | tuple | list
  deriving DecidableEq
def Ty.s : Ty → String
  | .non => "NoneType" | .bool => "bool" | .int => "int" | .str => "str" | .tuple => "tuple" | .list => "list"
def Ty.sub (a b : Ty) : Bool := a == b || (a == .bool && b == .int)
theorem Ty.kit (a b : Ty) : kitB a.s b.s = some (a.sub b) := by cases a <;> cases b <;> decide +kernel
def tyD (g : G) (d : D) : Option Ty := match snap g d with
  | .non => some .non
  | .bl _ => some .bool
  | .int _ => some .int
  | .str _ => some .str
  | .tup _ => some .tuple
  | .lst _ => some .list
  | _ => none
theorem tyD_ok {Φ : Hp} {ι : List Addr} {F : Hp} {g : G} {v : V} {d : D} {t : Ty} (R : RelG Kt Φ ι F g H) (r : DV Kt ι F v d) (h : tyD g d = some t) : TyX Kt.K H v (.type t.s) := by
  have key : ∀ ds, lsD g d = some ds → TyX Kt.K H v (.type "list") := fun ds e => by
    obtain ⟨a, vs, rfl, e1, r1⟩ := lsD_ok R r e
    exact .base (.lst e1)
  unfold tyD at h
  cases r with
  | non => simp at h; subst h; exact .base .non
  | bl b => simp at h; subst h; exact .base (.bl _)
  | int i => simp at h; subst h; exact .base (.int _)
  | str e => simp at h; subst h; exact .base (.str _)
  | tup e r =>
    simp at h; subst h
    exact .base (.tup (R.sub _ _ e))
  | lst e r => simp at h; subst h; exact key _ rfl
  | ref e =>
    rename_i l _
    cases z : snap g (.ref l) with
    | lst es => rw [z] at h; simp at h; subst h; exact key _ (by unfold lsD; rw [z])
    | non => rw [snap_ref] at z; split at z <;> cases z
    | bl b => rw [snap_ref] at z; split at z <;> cases z
    | int b => rw [snap_ref] at z; split at z <;> cases z
    | str b => rw [snap_ref] at z; split at z <;> cases z
    | tup b => rw [snap_ref] at z; split at z <;> cases z
    | _ => rw [z] at h; simp at h
  | scr e => simp [snap] at h
  | rng e => simp at h
  | dic e => simp [snap] at h
  | kt e r => simp [snap] at h
def isiD (t : Ty) (g : G) (d : D) : Option D := match tyD g d with
  | some s => some (.bl (s.sub t))
  | none => none
theorem se_isi {x : Str} {p p2 : Pos} (t : Ty) (A : At Kt X W k) (hm : Kt.mg "isinstance" = none) (hm2 : Kt.mg x = none) (hv : bootBuiltins x = some (.type t.s)) (ha : PE X a (te Kt W ma)) (hg : Gl X "isinstance" := by rfl) (hg2 : Gl X x := by rfl) (hn : x ≠ "__name__" := by decide) (hdb : (x == ("__debug__" : Str)) = false := by decide)
    (he : starEach [a, .Name x p2] X.env = (false, eval a X.env) :: starEach [.Name x p2] X.env := by rfl) (he2 : starEach [.Name x p2] X.env = (false, eval (.Name x p2) X.env) :: starEach [] X.env := by rfl) (hpl : (backTo pos (starEach [.Name x p2] X.env)).any (·.1) = false := by rfl) :
    PE X (.Call (.Name "isinstance" p) [a, .Name x p2] [] pos) (te Kt W (vUn (isiD t) ma)) :=
  (pe_callB (A.eK ▸ call_isi : CallR X _ (rIsi Kt.K)) hg (A.em ▸ hm) PyProof.Rows.boot_isinstance (pa_cons ha (pa_cons (pe_bltn (v := .ty t.s) hg2 (A.em ▸ hm2) hv rfl hn hdb) pa_nil he2) he) (by decide) (by decide) he hpl).imp fun σ H Q ⟨Φ, ι, F, e, g, S, h⟩ => ⟨Φ, ι, F, e, g, S, (po.bind (Rl := DV Kt) h).imp fun v H1 ⟨ι1, F1, g1, d1, x1, R1, r1, h1⟩ => by
    unfold isiD at h1
    cases z : tyD g1 d1 with
    | none => rw [z] at h1; exact h1.elim
    | some s => rw [z] at h1; exact ⟨v, _, _, _, _, rfl, .ty _, tyD_ok R1 r1 z, kit_ty (Ty.kit s t), h1 _ _ _ _ Ex.refl R1 (.bl _)⟩⟩
end
end Y

set_option Elab.async false
set_option linter.all false
set_option maxRecDepth 100000
namespace Y
open PySem PySem.Spec PyProof.Rows L2

/-! ### defs -/
/-- what a def that computes mf promises -/
def spM (Kt : Kit) (n : Nat) (mf : MF) : Sp := fun vs H Q E => vs.length = n ∧ ∃ Φ ι F g ds, RelG Kt Φ ι F g H ∧ DVs Kt ι F vs ds ∧ (match mf ds g with
  | .ok d g' => ∀ ι' F' H' v, Ex ι F ι' F' → RelG Kt Φ ι' F' g' H' → DV Kt ι' F' v d → Q v H'
  | .exn c g' => ∃ C, Kt.cls[c]? = some C ∧ ∀ ι' F' H', Ex ι F ι' F' → RelG Kt Φ ι' F' g' H' → E (.ref C) none H'
  | .stuck => False)
/-- a def that stands at f -/
structure FnAt (Kt : Kit) (k : Nat) (f : Addr) (n : Nat) (mf : MF) : Prop where
  ex : ∃ fd ps, ps.length = n ∧ FnOk Kt.P Kt.w Kt.K Kt.mg Kt.base (L2.CX Kt.P Kt.w) k f fd ps (spM Kt n mf) ∧ Binds Kt.K fd ps []
structure FnK (Kt : Kit) (k : Nat) (x : Str) (n : Nat) (mf : MF) : Prop where
  ex : ∃ f, Kt.mg x = some (.ref f) ∧ PySem.W.keepIn Kt.K (.ref f) = true ∧ FnAt Kt k f n mf
structure MkK (Kt : Kit) (k : Nat) (x : Str) (c : Nat) (n : Nat) (mf : MF) : Prop where
  ex : ∃ C f, Kt.cls[c]? = some C ∧ Kt.mg x = some (.ref C) ∧ Mk Kt.K C f ∧ FnAt Kt k f n mf
/-- a method of the class numbered c -/
structure MeK (Kt : Kit) (k : Nat) (m : Str) (c : Nat) (n : Nat) (mf : MF) : Prop where
  ex : ∃ C f, Kt.cls[c]? = some C ∧ Cls Kt.K C ∧ Meth Kt.K C m f ∧ FnAt Kt k f n mf
theorem FnAt.mono {Kt : Kit} {j k : Nat} {f : Addr} {n : Nat} {mf : MF} (h : FnAt Kt j f n mf) (le : j ≤ k) : FnAt Kt k f n mf := let ⟨fd, ps, e, F, B⟩ := h.ex; ⟨fd, ps, e, F.mono le, B⟩
theorem FnK.mono {Kt : Kit} {j k : Nat} {x : Str} {n : Nat} {mf : MF} (h : FnK Kt j x n mf) (le : j ≤ k) : FnK Kt k x n mf := let ⟨f, a, b, c⟩ := h.ex; ⟨f, a, b, c.mono le⟩
theorem MkK.mono {Kt : Kit} {j k : Nat} {x : Str} {c n : Nat} {mf : MF} (h : MkK Kt j x c n mf) (le : j ≤ k) : MkK Kt k x c n mf := let ⟨C, f, a, b, d, e⟩ := h.ex; ⟨C, f, a, b, d, e.mono le⟩
theorem MeK.mono {Kt : Kit} {j k : Nat} {x : Str} {c n : Nat} {mf : MF} (h : MeK Kt j x c n mf) (le : j ≤ k) : MeK Kt k x c n mf := let ⟨C, f, a, b, d, e⟩ := h.ex; ⟨C, f, a, b, d, e.mono le⟩

def vCall (mf : MF) (a : AM) : EM := fun e g => (a e g).bind mf
def vMake (c : Nat) (mf : MF) (a : AM) : EM := fun e g => (a e g).bind fun ds g1 => (mf (.ref g1.length :: ds) (g1 ++ [.ins c []])).bind fun d g2 => match d with
  | .non => .ok (.ref g1.length) g2
  | _ => .stuck
def lkM (c : Nat) : List (Nat × MF) → Option MF
  | [] => none
  | (m, f) :: r => if m = c then some f else lkM c r
def vMeth (n : Nat) (tbl : List (Nat × MF)) (o : EM) (a : AM) : EM := fun e g => (o e g).bind fun d g1 => match d with
  | .ref l => match g1[l]? with
    | some (.ins c fs) => match lkA n fs with
      | some _ => .stuck
      | none => match lkM c tbl with
        | some mf => (a e g1).bind fun ds g2 => mf (d :: ds) g2
        | none => .stuck
    | _ => .stuck
  | _ => .stuck

section
variable {Kt : Kit} {X : Cx} {W : WX} {k : Nat} {a b c : Expr} {ma mb mc : EM} {pos : Pos} {es : List Expr} {ms : AM}
theorem po_sp {Φ : Hp} {ι : List Addr} {F H : Hp} {g : G} {σ : L2.St} {vs : List V} {ds : List D} {mf : MF} {n : Nat} (hn : vs.length = n) (R : RelG Kt Φ ι F g H) (r : DVs Kt ι F vs ds) {Q : VK} (h : po Kt Φ W σ (DV Kt) ι F (mf ds g) Q) :
    spM Kt n mf vs H Q (WE W σ) := by
  refine ⟨hn, Φ, ι, F, g, ds, R, r, ?_⟩
  cases z : mf ds g with
  | ok d g' => rw [z] at h; exact h
  | exn c g' => rw [z] at h; exact h
  | stuck => rw [z] at h; exact h.elim
/-- a def that is known, called with values -/
theorem run_at {f : Addr} {n : Nat} {mf : MF} (A : At Kt X W k) (G : FnAt Kt k f n mf) {pins : List (Addr × Obj)} {σ : L2.St} {H : Hp} {s : Shared} {Q : VK} {us : List Value} {vs : List V} (I : Inv X pins σ H s) (r : Vals vs us) (h : spM Kt n mf vs H Q (WE W σ)) :
    wpAny (model X.prog X.w) X.A (call (.ref f) us) (EP X pins σ Q) X.xe s := by
  obtain ⟨fd, ps, e, Fk, B⟩ := G.ex
  have F' : FnOk X.prog X.w X.K X.mg X.base (L2.CX X.prog X.w) k f fd ps (spM Kt n mf) := by rw [A.eP, A.ew, A.eK, A.em, A.eb]; exact Fk
  exact run_fnS (E := WE W) F' A.room (A.eK ▸ B) (passAt A.tk σ) I r h
def Len (ms : AM) (n : Nat) : Prop := ∀ e g ds g', ms e g = .ok ds g' → ds.length = n
theorem len_nil : Len aNil 0 := fun e g ds g' h => by cases h; rfl
theorem len_cons {n : Nat} (h : Len ms n) : Len (aCons ma ms) (n + 1) := fun e g ds g' q => by
  unfold aCons at q
  cases z : ma e g with
  | ok d g1 =>
    rw [z] at q
    cases z2 : ms e g1 with
    | ok ds2 g2 => rw [Res.bind] at q; rw [z2] at q; cases q; rw [List.length_cons, h _ _ _ _ z2]
    | exn c g => rw [Res.bind] at q; rw [z2] at q; cases q
    | stuck => rw [Res.bind] at q; rw [z2] at q; cases q
  | exn c g => rw [z] at q; cases q
  | stuck => rw [z] at q; cases q
theorem po_len {Φ : Hp} {ι : List Addr} {F : Hp} {σ : L2.St} {r : Res (List D)} {n : Nat} (hn : ∀ ds g', r = .ok ds g' → ds.length = n) {Q : List V → Hp → Prop} (h : po Kt Φ W σ (DVs Kt) ι F r Q) : po Kt Φ W σ (DVs Kt) ι F r fun vs H => vs.length = n ∧ Q vs H := by
  cases r with
  | ok ds g' => exact fun ι' F' H' v x R q => ⟨q.length.trans (hn ds g' rfl), h ι' F' H' v x R q⟩
  | exn c g => exact h
  | stuck => exact h
theorem se_call {x : Str} {n : Nat} {mf : MF} {p : Pos} (A : At Kt X W k) (G : FnK Kt k x n mf) (ha : PA X (a :: es) (ta Kt W ms)) (hl : Len ms n) (hg : Gl X x := by rfl) (hdb : (x == ("__debug__" : Str)) = false := by decide)
    (he : starEach (a :: es) X.env = (false, eval a X.env) :: starEach es X.env := by rfl) (hpl : (backTo pos (starEach es X.env)).any (·.1) = false := by rfl) : PE X (.Call (.Name x p) (a :: es) [] pos) (te Kt W (vCall mf ms)) := by
  obtain ⟨f, hm, hk, G⟩ := G.ex
  refine ⟨fun pins s σ H Q I ⟨Φ, ι, F, e, g, S, h⟩ => ?_⟩
  refine wpAny_Call_Name_kw (ld_glob I hg (A.em ▸ hm) ?_ hdb)
  have h' := po_len (hl e g) (po.bind (Rl := DVs Kt) (α := List D) (ν := List V) h)
  refine PySem.W.callWith_K (h₀ := X.base) I.ok.mod.kin (A.eK ▸ hk) (thn (ha.run pos pins s σ H _ I ⟨Φ, ι, F, e, g, S, h'⟩) fun us s1 ⟨vs, H1, I1, r, hn, ι1, F1, g1, ds, x1, R1, r1, h1⟩ => ⟨I1.kIn, ?_⟩) he hpl
  exact run_at A G I1 r (po_sp hn R1 r1 h1)
theorem se_call0 {x : Str} {mf : MF} {p : Pos} (A : At Kt X W k) (G : FnK Kt k x 0 mf) (hg : Gl X x := by rfl) (hdb : (x == ("__debug__" : Str)) = false := by decide) : PE X (.Call (.Name x p) [] [] pos) (te Kt W (vCall mf aNil)) := by
  obtain ⟨f, hm, hk, G⟩ := G.ex
  refine ⟨fun pins s σ H Q I ⟨Φ, ι, F, e, g, S, h⟩ => ?_⟩
  refine wpAny_Call_Name_kw (ld_glob I hg (A.em ▸ hm) ?_ hdb)
  exact PySem.W.callWith_K0 I.kIn (A.eK ▸ hk) (run_at (us := []) (vs := []) A G I .nil (po_sp rfl S.rel .nil h))

/-- a new instance -/
theorem run_mk {C f : Addr} {n : Nat} {mf : MF} (A : At Kt X W (k + 1)) (M : Mk Kt.K C f) (G : FnAt Kt k f n mf) {pins : List (Addr × Obj)} {σ : L2.St} {H : Hp} {s : Shared} {Q : VK} {us : List Value} {vs : List V} (I : Inv X pins σ H s) (r : Vals vs us)
    (h : ∀ x dx, H x = none → H dx = none → dx ≠ x → spM Kt n mf (.ref x :: vs) (upd (upd H dx (.own x)) x (.ins C dx [])) (fun v H2 => v = .non ∧ Q (.ref x) H2) (WE W σ)) : wpAny (model X.prog X.w) X.A (call (.ref C) us) (EP X pins σ Q) X.xe s := by
  obtain ⟨fd, ps, e, Fk, B⟩ := G.ex
  have F' : FnOk X.prog X.w X.K X.mg X.base (L2.CX X.prog X.w) k f fd ps (spM Kt n mf) := by rw [A.eP, A.ew, A.eK, A.em, A.eb]; exact Fk
  have M' : Mk X.K C f := A.eK ▸ M
  have B' : Binds X.K fd ps [] := A.eK ▸ B
  have nx : H (s.heap.objs.size + 1) = none := I.hok.fresh (Nat.le_succ _)
  have nd : H s.heap.objs.size = none := I.hok.fresh (Nat.le_refl _)
  have q := h _ _ nx nd (Nat.ne_of_lt (Nat.lt_succ_self _))
  have J := Inv.made (C := C) I
  have rs : Vals (V.ref (s.heap.objs.size + 1) :: vs) (Value.ref (s.heap.objs.size + 1) :: us) := .cons rfl r
  have hl : (Value.ref (s.heap.objs.size + 1) :: us ++ []).length = ps.length := by
    rw [List.append_nil, ← rs.length]
    exact F'.len _ _ _ _ q
  have bt := B' _ (Value.ref (s.heap.objs.size + 1) :: us) J.kIn hl
  rw [List.append_nil] at bt
  have run := F'.run _ X.stack _ _ ⟨Value.ref (s.heap.objs.size + 1) :: us, []⟩ _ _ _ _ (A.room.make C us []) (J.env0.make C us []) bt rs q
  refine wpAny_call (make_map (f := f) I.kIn M'.makes M'.init (beq_iff_eq.mp M'.fn) (codeAny_mono run fun w s' back => ?_))
  match w, back with
  | .error e, back => exact passAt A.tk σ pins _ _ e s' J back
  | .ok (.ret u), back =>
    obtain ⟨v, H', J', rv, ev, fin⟩ := J.after back
    subst ev
    exact ⟨rv, V.ref (s.heap.objs.size + 1), H', J', rfl, fin⟩
theorem po_mk {Φ : Hp} {ι : List Addr} {F H : Hp} {g : G} {σ : L2.St} {vs : List V} {ds : List D} {mf : MF} {n c : Nat} {C : Addr} (hC : Kt.cls[c]? = some C) (hn : vs.length + 1 = n) (R : RelG Kt Φ ι F g H) (r : DVs Kt ι F vs ds) {Q : VK}
    (h : po Kt Φ W σ (DV Kt) ι F ((mf (.ref g.length :: ds) (g ++ [.ins c []])).bind fun d g2 => match d with
  | .non => .ok (.ref g.length) g2
  | _ => .stuck) Q) : ∀ x dx, H x = none → H dx = none → dx ≠ x → spM Kt n mf (.ref x :: vs) (upd (upd H dx (.own x)) x (.ins C dx [])) (fun v H2 => v = .non ∧ Q (.ref x) H2) (WE W σ) := by
  intro x dx hx hdx ne
  have fx : F x = none := by
    cases e : F x with
    | none => rfl
    | some u => rw [R.sub x u e] at hx; cases hx
  have keep : ∀ a o, H a = some o → upd (upd H dx (.own x)) x (.ins C dx []) a = some o := fun a o q => by
    rw [upd_ne (ne_of_none q hx), upd_ne (ne_of_none q hdx)]; exact q
  obtain ⟨R', y⟩ := R.new (p := x) (o := .ins c []) hx keep (by rw [upd_same]; simp) ⟨fx, C, dx, [], hC, upd_same, .nil⟩
  have me : DV Kt (ι ++ [x]) F (.ref x) (.ref g.length) := .ref (get_snoc R.len)
  refine po_sp (by simpa using hn) R' (.cons me (r.mono y)) ?_
  refine (po.bind (Rl := DV Kt) (h.mono y)).imp fun v H1 ⟨ι1, F1, g1, d, x1, R1, r1, h1⟩ => ?_
  cases r1 with
  | non => exact ⟨rfl, h1 _ _ _ _ Ex.refl R1 (me.mono x1)⟩
  | _ => exact h1.elim
theorem se_make {x : Str} {n c : Nat} {mf : MF} {p : Pos} (A : At Kt X W (k + 1)) (G : MkK Kt k x c (n + 1) mf) (ha : PA X (a :: es) (ta Kt W ms)) (hl : Len ms n) (hg : Gl X x := by rfl) (hdb : (x == ("__debug__" : Str)) = false := by decide)
    (he : starEach (a :: es) X.env = (false, eval a X.env) :: starEach es X.env := by rfl) (hpl : (backTo pos (starEach es X.env)).any (·.1) = false := by rfl) : PE X (.Call (.Name x p) (a :: es) [] pos) (te Kt W (vMake c mf ms)) := by
  obtain ⟨C, f, hC, hm, M, G⟩ := G.ex
  refine ⟨fun pins s σ H Q I ⟨Φ, ι, F, e, g, S, h⟩ => ?_⟩
  refine wpAny_Call_Name_kw (ld_glob I hg (A.em ▸ hm) ?_ hdb)
  have h' := po_len (hl e g) (po.bind (Rl := DVs Kt) (α := List D) (ν := List V) h)
  refine PySem.W.callWith_K (h₀ := X.base) I.ok.mod.kin (A.eK ▸ M.kp) (thn (ha.run pos pins s σ H _ I ⟨Φ, ι, F, e, g, S, h'⟩) fun us s1 ⟨vs, H1, I1, r, hn, ι1, F1, g1, ds, x1, R1, r1, h1⟩ => ⟨I1.kIn, ?_⟩) he hpl
  exact run_mk A M G I1 r (po_mk hC (by omega) R1 r1 h1)
theorem se_make0 {x : Str} {c : Nat} {mf : MF} {p : Pos} (A : At Kt X W (k + 1)) (G : MkK Kt k x c 1 mf) (hg : Gl X x := by rfl) (hdb : (x == ("__debug__" : Str)) = false := by decide) : PE X (.Call (.Name x p) [] [] pos) (te Kt W (vMake c mf aNil)) := by
  obtain ⟨C, f, hC, hm, M, G⟩ := G.ex
  refine ⟨fun pins s σ H Q I ⟨Φ, ι, F, e, g, S, h⟩ => ?_⟩
  refine wpAny_Call_Name_kw (ld_glob I hg (A.em ▸ hm) ?_ hdb)
  exact PySem.W.callWith_K0 I.kIn (A.eK ▸ M.kp) (run_mk (us := []) (vs := []) A M G I .nil (po_mk hC rfl S.rel .nil h))

/-- the methods of that name, by class -/
def MT (Kt : Kit) (k : Nat) (m : Str) (n : Nat) (tbl : List (Nat × MF)) : Prop := ∀ c mf, lkM c tbl = some mf → MeK Kt k m c n mf
theorem mt_nil {m : Str} {n : Nat} : MT Kt k m n [] := fun c mf h => by cases h
theorem mt_cons {m : Str} {n c : Nat} {mf : MF} {tbl : List (Nat × MF)} (h : MeK Kt k m c n mf) (r : MT Kt k m n tbl) : MT Kt k m n ((c, mf) :: tbl) := fun c' mf' q => by
  unfold lkM at q
  split at q
  · rename_i e; subst e; cases q; exact h
  · exact r _ _ q
theorem se_meth {o : Expr} {m : Str} {n nm : Nat} {tbl : List (Nat × MF)} {apos : Pos} {pl : Sem Bool} (A : At Kt X W k) (ho : PE X o (te Kt W ma)) (hx : Kt.tab[nm]? = some m) (T : MT Kt k m (n + 1) tbl) (ha : PA X (a :: es) (ta Kt W ms)) (hl : Len ms n)
    (hst : starEach (a :: es) X.env = (false, eval a X.env) :: starEach es X.env := by rfl) (hpl : (backTo pos (starEach es X.env)).any (·.1) = false := by rfl)
    (ht : eval (.Call (.Attribute o m apos) (a :: es) [] pos) X.env = (do
      let ov ← eval o X.env
      standAt apos.atName
      let (f, first) ← holding [ov] (getMethod ov m pl)
      callWith pos f first (backTo pos (starEach (a :: es) X.env)) (backToKw pos (keywordEach [] X.env))) := by rfl) :
    PE X (.Call (.Attribute o m apos) (a :: es) [] pos) (te Kt W (vMeth nm tbl ma ms)) := by
  refine ⟨fun pins s σ H Q I ⟨Φ, ι, F, e, g, S, h⟩ => ?_⟩
  refine PySem.W.methodCall_KW (pl := pl) (thn (ho.run pins s σ H _ I ⟨Φ, ι, F, e, g, S, po.bind (Rl := DV Kt) h⟩) fun u s1 ⟨x, H1, I1, rx, ι1, F1, g1, d, x1, R1, r1, h1⟩ => ?_) ht
  split at h1
  · rename_i l
    split at h1
    · rename_i c fs eg
      split at h1
      · exact h1.elim
      · rename_i en
        split at h1
        · rename_i mf em
          cases r1 with
          | @ref _ ad ei =>
          obtain ⟨fF, C, dx, gs, eC, eH, rf⟩ := R1.ob l _ _ eg ei
          obtain ⟨C', f, eC', cl, hm, G⟩ := (T c mf em).ex
          rw [eC] at eC'; cases eC'
          obtain rfl : u = Value.ref ad := rx
          refine getmeth_ok I1 eH (A.eK ▸ cl) (A.eK ▸ hm) (FR.nolook hx rf en) ?_
          have h' := po_len (hl e g1) (po.bind (Rl := DVs Kt) (α := List D) (ν := List V) h1)
          refine PySem.W.callWith_K (first := [.ref ad]) (h₀ := X.base) I.ok.mod.kin (A.eK ▸ hm.kp) (thn (ha.run pos pins s1 σ H1 _ I1 ⟨Φ, ι1, F1, e, g1, ⟨S.env.mono x1, R1⟩, h'⟩) fun us s2 ⟨vs, H2, I2, r, hn, ι2, F2, g2, ds, x2, R2, r2, h2⟩ => ⟨I2.kIn, ?_⟩) hst hpl
          exact run_at (us := .ref ad :: us) (vs := .ref ad :: vs) A G I2 (.cons rfl r) (po_sp (by simp [hn]) R2 (.cons (.ref (x2.i _ _ ei)) r2) h2)
        · exact h1.elim
    · exact h1.elim
  · exact h1.elim
theorem se_meth0 {o : Expr} {m : Str} {nm : Nat} {tbl : List (Nat × MF)} {apos : Pos} {pl : Sem Bool} (A : At Kt X W k) (ho : PE X o (te Kt W ma)) (hx : Kt.tab[nm]? = some m) (T : MT Kt k m 1 tbl)
    (ht : eval (.Call (.Attribute o m apos) [] [] pos) X.env = (do
      let ov ← eval o X.env
      standAt apos.atName
      let (f, first) ← holding [ov] (getMethod ov m pl)
      callWith pos f first (backTo pos (starEach [] X.env)) (backToKw pos (keywordEach [] X.env))) := by rfl) :
    PE X (.Call (.Attribute o m apos) [] [] pos) (te Kt W (vMeth nm tbl ma aNil)) := by
  refine ⟨fun pins s σ H Q I ⟨Φ, ι, F, e, g, S, h⟩ => ?_⟩
  refine PySem.W.methodCall_KW (pl := pl) (thn (ho.run pins s σ H _ I ⟨Φ, ι, F, e, g, S, po.bind (Rl := DV Kt) h⟩) fun u s1 ⟨x, H1, I1, rx, ι1, F1, g1, d, x1, R1, r1, h1⟩ => ?_) ht
  split at h1
  · rename_i l
    split at h1
    · rename_i c fs eg
      split at h1
      · exact h1.elim
      · rename_i en
        split at h1
        · rename_i mf em
          cases r1 with
          | @ref _ ad ei =>
          obtain ⟨fF, C, dx, gs, eC, eH, rf⟩ := R1.ob l _ _ eg ei
          obtain ⟨C', f, eC', cl, hm, G⟩ := (T c mf em).ex
          rw [eC] at eC'; cases eC'
          obtain rfl : u = Value.ref ad := rx
          refine getmeth_ok I1 eH (A.eK ▸ cl) (A.eK ▸ hm) (FR.nolook hx rf en) ?_
          exact PySem.W.callWith_K0 (first := [.ref ad]) I1.kIn (A.eK ▸ hm.kp) (run_at (us := [.ref ad]) (vs := [.ref ad]) A G I1 (.cons rfl .nil) (po_sp rfl R1 (.cons (.ref ei) .nil) h1))
        · exact h1.elim
    · exact h1.elim
  · exact h1.elim
end
end Y

set_option Elab.async false
set_option linter.all false
set_option maxRecDepth 100000
namespace Y
open PySem PySem.Spec PyProof.Rows L2

/-! ### statements -/
def sNx : SM := fun e g => .nx e g
def sSeq (a b : SM) : SM := fun e g => match a e g with
  | .nx e' g' => b e' g'
  | r => r
def sAsg (i : Nat) (m : EM) : SM := fun e g => sBind (m e g) e fun d g1 => .nx (e.set i (some d)) g1
def sDrop (m : EM) : SM := fun e g => sBind (m e g) e fun _ g1 => .nx e g1
def sRet (m : EM) : SM := fun e g => sBind (m e g) e fun d g1 => .rt d g1
def sIf (t : TM) (a b : SM) : SM := fun e g => sBind (t e g) e fun c g1 => bif c then a e g1 else b e g1
def sBk : SM := fun e g => .bk e g
def sCt : SM := fun e g => .ct e g
def sSetA (cs : List Nat) (n : Nat) (o m : EM) : SM := fun e g => sBind (m e g) e fun y g1 => sBind (o e g1) e fun d g2 => match d with
  | .ref l => match g2[l]? with
    | some (.ins c fs) => (match cs.contains c && decide (fs.length < 1000) with
      | true => .nx e (g2.set l (.ins c (putA n y fs)))
      | false => .stuck)
    | _ => .stuck
  | _ => .stuck
/-- o.x += an int -/
def sAugA (cs : List Nat) (n : Nat) (o m : EM) : SM := fun e g => sBind (o e g) e fun d g1 => match d with
  | .ref l => match g1[l]? with
    | some (.ins c fs) => match cs.contains c, lkA n fs with
      | true, some (.int i) => sBind (m e g1) e fun y g2 => match y with
        | .int j => match g2[l]? with
          | some (.ins c2 fs2) => (match decide (c2 = c ∧ fs2.length < 1000) with
            | true => .nx e (g2.set l (.ins c2 (putA n (.int (i + j)) fs2)))
            | false => .stuck)
          | _ => .stuck
        | _ => .stuck
      | _, _ => .stuck
    | _ => .stuck
  | _ => .stuck
def sAug (i : Nat) (m : EM) : SM := fun e g => match e[i]? with
  | some (some (.int x)) => sBind (m e g) e fun y g1 => match y with
    | .int z => .nx (e.set i (some (.int (x + z)))) g1
    | _ => .stuck
  | _ => .stuck
/-- o[i] = v, o a list that changes -/
def sSub (o i m : EM) : SM := fun e g => sBind (m e g) e fun y g1 => sBind (o e g1) e fun d g2 => sBind (i e g2) e fun j g3 => match d, j with
  | .ref l, .int j => match g3[l]? with
    | some (.lst ds) => match ixN ds.length j with
      | some n => .nx e (g3.set l (.lst (ds.set n y)))
      | none => .stuck
    | _ => .stuck
  | _, _ => .stuck
/-- the value of a list that nobody changes any more -/
def frzD (d : D) (g : G) : Res D := match d with
  | .ref l => match g[l]? with
    | some (.lst ds) => .ok (.lst ds) (g.set l .dead)
    | _ => .ok (.ref l) g
  | d => .ok d g
def vFrz (m : EM) : EM := fun e g => (m e g).bind frzD
def vApp (o m : EM) : EM := fun e g => (o e g).bind fun d g1 => match lsD g1 d with
  | none => .stuck
  | some _ => (m e g1).bind fun y g2 => match d with
    | .ref l => match g2[l]? with
      | some (.lst ds) => (match ltL ds.length with
        | true => .ok .non (g2.set l (.lst (ds ++ [y])))
        | false => .stuck)
      | _ => .stuck
    | _ => .stuck

/-! #### targets -/
abbrev GM := D → G → En → Option En
def gN (i : Nat) : GM := fun d _ e => some (e.set i (some d))
def gsN : List D → G → En → Option En := fun ds _ e => match ds with
  | [] => some e
  | _ => none
def gsC (a : GM) (r : List D → G → En → Option En) : List D → G → En → Option En := fun ds g e => match ds with
  | [] => none
  | d :: ds => match a d g e with
    | some e' => r ds g e'
    | none => none
def gT (n : Nat) (r : List D → G → En → Option En) : GM := fun d g e => match d with
  | .tup ds => (match ds.length == n with
    | true => r ds g e
    | false => none)
  | _ => none
def sTgt (m : EM) (gm : GM) : SM := fun e g => sBind (m e g) e fun d g1 => match gm d g1 e with
  | some e' => .nx e' g1
  | none => .stuck
/-- only these slots are set -/
def Out (vs : List Nat) (σ σ' : L2.St) : Prop := σ'.length = σ.length ∧ ∀ i, i ∉ vs → σ'[i]? = σ[i]?
theorem Out.refl {vs : List Nat} {σ : L2.St} : Out vs σ σ := ⟨rfl, fun _ _ => rfl⟩
theorem Out.trans {vs : List Nat} {σ σ1 σ2 : L2.St} (a : Out vs σ σ1) (b : Out vs σ1 σ2) : Out vs σ σ2 := ⟨b.1.trans a.1, fun i h => (b.2 i h).trans (a.2 i h)⟩
def tgt (Kt : Kit) (vs : List Nat) (gm : GM) : TG := fun v σ H Q => ∃ Φ ι F e g d, St' Kt Φ ι F e g σ H ∧ DV Kt ι F v d ∧ ∃ e', gm d g e = some e' ∧ ∀ σ', Out vs σ σ' → St' Kt Φ ι F e' g σ' H → Q σ' H
def tgts (Kt : Kit) (vs : List Nat) (gm : List D → G → En → Option En) : TGs := fun xs σ H Q => ∃ Φ ι F e g ds, St' Kt Φ ι F e g σ H ∧ DVs Kt ι F xs ds ∧ ∃ e', gm ds g e = some e' ∧ ∀ σ', Out vs σ σ' → St' Kt Φ ι F e' g σ' H → Q σ' H
section
variable {Kt : Kit} {X : Cx} {W : WX} {k : Nat} {a b c : Expr} {ma mb mc : EM} {ta' : TM} {pos : Pos} {es : List Expr} {ms : AM} {vs : List Nat} {gm : GM} {gms : List D → G → En → Option En} {st : Stmt} {sts : List Stmt} {m m' : SM}
theorem PG.imp {e : Expr} {t t' : TG} (h : PG X e t) (i : ∀ v σ H Q, t' v σ H Q → t v σ H Q) : PG X e t' := ⟨fun pins s σ H v u Q I r q => h.run pins s σ H v u Q I r (i v σ H Q q)⟩
theorem PGs.imp {e : List Expr} {t t' : TGs} (h : PGs X e t) (i : ∀ v σ H Q, t' v σ H Q → t v σ H Q) : PGs X e t' := ⟨fun pins s σ H v u Q I r q => h.run pins s σ H v u Q I r (i v σ H Q q)⟩
theorem sg_name (i : Nat) {x : Str} (hN : X.N.Nodup) (hv : i ∈ vs) (hi : X.N[i]? = some x := by rfl) (hx : Loc X.env.scope x := by first | exact Or.inl rfl | exact Or.inr rfl) (hf : X.fn x = true ∨ X.env.scope.names.lookup x = some .local := by first | exact .inl rfl | exact .inr rfl | assumption) :
    PG X (.Name x pos) (tgt Kt vs (gN i)) := PG.imp (pg_name hN hi hx hf) fun v σ H Q ⟨Φ, ι, F, e, g, d, S, r, e', h, q⟩ => by
  cases h
  exact q _ ⟨by simp, fun j hj => by rw [List.getElem?_set_ne]; rintro rfl; exact hj hv⟩ ⟨S.env.set i r, S.rel⟩
theorem sgs_nil : PGs X [] (tgts Kt vs gsN) := PGs.imp pgs_nil fun v σ H Q ⟨Φ, ι, F, e, g, ds, S, r, e', h, q⟩ => by
  cases r with
  | nil => cases h; exact ⟨rfl, q _ Out.refl S⟩
  | cons _ _ => cases h
theorem sgs_cons (h1 : PG X a (tgt Kt vs gm)) (h2 : PGs X es (tgts Kt vs gms)) (hs : (assignEach (a :: es) X.env).map (·.2) = assign a X.env :: (assignEach es X.env).map (·.2) := by rfl) : PGs X (a :: es) (tgts Kt vs (gsC gm gms)) :=
  PGs.imp (pgs_cons h1 h2 hs) fun v σ H Q ⟨Φ, ι, F, e, g, ds, S, r, e', h, q⟩ => by
    cases r with
    | nil => cases h
    | @cons x d xs ds r1 r2 =>
      unfold gsC at h
      simp only at h
      split at h
      · rename_i e1 h1
        exact ⟨x, xs, rfl, Φ, ι, F, e, g, d, S, r1, e1, h1, fun σ' o S' => ⟨Φ, ι, F, e1, g, ds, S', r2, e', h, fun σ2 o2 S2 => q σ2 (o.trans o2) S2⟩⟩
      · cases h
theorem sg_tup {kk : Nat} (n : Nat) (A : At Kt X W k) (h : PGs X es (tgts Kt vs gms)) (hn : (assignEach es X.env).length = n := by rfl) (hst : (assignEach es X.env).findIdx? (·.1) = none := by rfl) : PG X (.Tuple es kk pos) (tgt Kt vs (gT n gms)) :=
  PG.imp (pg_tup A.calm h hn hst) fun v σ H Q ⟨Φ, ι, F, e, g, d, S, r, e', h, q⟩ => by
    unfold gT at h
    split at h
    · split at h
      · rename_i hl
        cases r with
        | tup e1 r1 => exact ⟨_, _, rfl, A.eK ▸ sqt_mono S.rel.sub (tS e1), r1.length.trans (beq_iff_eq.mp hl), Φ, ι, F, e, g, _, S, r1, e', h, q⟩
      · cases h
    · cases h

/-! #### blocks -/
theorem ss_nil : PSs X [] (ts Kt W sNx) := L2.PSs.imp pss_nil fun D σ H ⟨Φ, ι, F, e, g, S, h⟩ => h _ _ _ _ Ex.refl S
theorem so_seq {D : Ends} {Φ : Hp} {ι : List Addr} {F : Hp} {e : En} {g : G} (h : so Kt Φ W D ι F (sSeq m m' e g)) : so Kt Φ W { D with nx := ts Kt W m' D } ι F (m e g) := by
  unfold sSeq at h
  cases z : m e g with
  | nx e1 g1 => rw [z] at h; exact fun ι' F' σ' H' x S => ⟨Φ, ι', F', e1, g1, S, so.mono x h⟩
  | bk e1 g1 => rw [z] at h; exact h
  | ct e1 g1 => rw [z] at h; exact h
  | rt d g1 => rw [z] at h; exact h
  | exn c e1 g1 => rw [z] at h; exact h
  | stuck => rw [z] at h; exact h
theorem ss_cons (h1 : PS X st (ts Kt W m)) (h2 : PSs X sts (ts Kt W m')) : PSs X (st :: sts) (ts Kt W (sSeq m m')) := L2.PSs.imp (pss_cons h1 h2) fun D σ H ⟨Φ, ι, F, e, g, S, h⟩ => ⟨Φ, ι, F, e, g, S, so_seq h⟩
theorem ss_one (h1 : PS X st (ts Kt W m)) : PSs X [st] (ts Kt W m) := pss_one h1
theorem ss_set (i : Nat) {x : Str} {p : Pos} (A : At Kt X W k) (ha : PE X a (te Kt W ma)) (hi : X.N[i]? = some x := by rfl) (hx : Loc X.env.scope x := by first | exact Or.inl rfl | exact Or.inr rfl) (hs : swapsWith a (some (.Name x p)) pos.line X.env = pure false := by rfl)
    (hf : X.fn x = true ∨ X.env.scope.names.lookup x = some .local := by first | exact .inl rfl | exact .inr rfl | assumption) : PS X (.Assign [.Name x p] a pos) (ts Kt W (sAsg i ma)) :=
  L2.PS.imp (ps_set A.nd hi hx ha hs hf) fun D σ H ⟨Φ, ι, F, e, g, S, h⟩ => ⟨Φ, ι, F, e, g, S, (so.bind (Rl := DV Kt) S.env h).imp fun v H1 ⟨ι1, F1, g1, d, x1, R1, r1, h1⟩ => h1 _ _ _ _ Ex.refl ⟨(S.env.mono x1).set i r1, R1⟩⟩
theorem ss_asg (A : At Kt X W k) (ha : PE X a (te Kt W ma)) (hg : PG X b (tgt Kt vs gm)) (hs : swapsWithSole [b] a pos.line X.env = pure false := by rfl) (hw : swappedStores [b] a X.env = pure none := by rfl) (h1 : (assignEach [b] X.env).map (·.2) = [assign b X.env] := by rfl) :
    PS X (.Assign [b] a pos) (ts Kt W (sTgt ma gm)) :=
  L2.PS.imp (ps_asg ha hg hs hw h1) fun D σ H ⟨Φ, ι, F, e, g, S, h⟩ => ⟨Φ, ι, F, e, g, S, (so.bind (Rl := DV Kt) S.env h).imp fun v H1 ⟨ι1, F1, g1, d, x1, R1, r1, h1⟩ => by
    cases z : gm d g1 e with
    | none => rw [z] at h1; exact h1.elim
    | some e' => rw [z] at h1; exact ⟨Φ, ι1, F1, e, g1, d, ⟨S.env.mono x1, R1⟩, r1, e', z, fun σ' _ S' => h1 _ _ _ _ Ex.refl S'⟩⟩
theorem ss_expr (ha : PE X a (te Kt W ma)) (hs : swapsWith a none pos.line X.env = pure false := by rfl) : PS X (.Expr a pos) (ts Kt W (sDrop ma)) :=
  L2.PS.imp (ps_expr ha hs) fun D σ H ⟨Φ, ι, F, e, g, S, h⟩ => ⟨Φ, ι, F, e, g, S, (so.bind (Rl := DV Kt) S.env h).imp fun v H1 ⟨ι1, F1, g1, d, x1, R1, r1, h1⟩ => h1 _ _ _ _ Ex.refl ⟨S.env.mono x1, R1⟩⟩
theorem ss_ret (ha : PE X a (te Kt W ma)) : PS X (.Return (some a) pos) (ts Kt W (sRet ma)) :=
  L2.PS.imp (ps_ret ha) fun D σ H ⟨Φ, ι, F, e, g, S, h⟩ => ⟨Φ, ι, F, e, g, S, (so.bind (Rl := DV Kt) S.env h).imp fun v H1 ⟨ι1, F1, g1, d, x1, R1, r1, h1⟩ => h1 _ _ _ _ Ex.refl R1 r1⟩
theorem ss_retN : PS X (.Return none pos) (ts Kt W (sRet (vC .non))) := L2.PS.imp ps_retN fun D σ H ⟨Φ, ι, F, e, g, S, h⟩ => h _ _ _ _ Ex.refl S.rel .non
theorem ss_if (hc : PT X c (tt Kt W ta')) (ha : PSs X sts (ts Kt W m)) {els : List Stmt} (hb : PSs X els (ts Kt W m')) : PS X (.If c sts els pos) (ts Kt W (sIf ta' m m')) :=
  L2.PS.imp (ps_if hc ha hb) fun D σ H ⟨Φ, ι, F, e, g, S, h⟩ => ⟨Φ, ι, F, e, g, S, (so.bind (Rl := RB) S.env h).imp fun v H1 ⟨ι1, F1, g1, d, x1, R1, r1, h1⟩ => by
    obtain rfl : v = d := r1
    cases v with
    | true => rw [if_pos rfl]; exact ⟨Φ, ι1, F1, e, g1, ⟨S.env.mono x1, R1⟩, h1⟩
    | false => rw [if_neg Bool.false_ne_true]; exact ⟨Φ, ι1, F1, e, g1, ⟨S.env.mono x1, R1⟩, h1⟩⟩
theorem ss_pass : PS X (.Pass pos) (ts Kt W sNx) := L2.PS.imp ps_pass fun D σ H ⟨Φ, ι, F, e, g, S, h⟩ => h _ _ _ _ Ex.refl S
theorem ss_break : PS X (.Break pos) (ts Kt W sBk) := L2.PS.imp ps_break fun D σ H ⟨Φ, ι, F, e, g, S, h⟩ => h _ _ _ _ Ex.refl S
theorem ss_cont : PS X (.Continue pos) (ts Kt W sCt) := L2.PS.imp ps_continue fun D σ H ⟨Φ, ι, F, e, g, S, h⟩ => h _ _ _ _ Ex.refl S
theorem setA_ok {Φ : Hp} {ι : List Addr} {F H : Hp} {g : G} {cs : List Nat} {n l cc : Nat} {x : Str} {fs : List (Nat × D)} {ad : Addr} {v : V} {y : D} (hx : Kt.tab[n]? = some x) (ca : CA Kt cs x) (R : RelG Kt Φ ι F g H) (e1 : g[l]? = some (.ins cc fs)) (hc : (cs.contains cc && decide (fs.length < 1000)) = true)
    (e2 : ι[l]? = some ad) (r : DV Kt ι F v y) : ∃ C dx gs, H ad = some (.ins C dx gs) ∧ Cls Kt.K C ∧ NoAttr Kt.K C x ∧ gs.length < 1000 ∧ RelG Kt Φ ι F (g.set l (.ins cc (putA n y fs))) (upd H ad (.ins C dx (putF x v gs))) := by
  rw [Bool.and_eq_true, decide_eq_true_eq] at hc
  obtain ⟨hF, C, dx, gs, e3, e4, r4⟩ := R.ob l _ _ e1 e2
  obtain ⟨c1, c2⟩ := ca cc (by simpa using hc.1) C e3
  exact ⟨C, dx, gs, e4, c1, c2, by rw [r4.length]; exact hc.2, R.put e2 hF ⟨hF, C, dx, _, e3, upd_same, r4.put hx r⟩⟩
theorem ss_fld {n : Nat} {cs : List Nat} {x : Str} {p : Pos} (A : At Kt X W k) (hx : Kt.tab[n]? = some x) (ca : CA Kt cs x) (ho : PE X a (te Kt W ma)) (hv : PE X b (te Kt W mb)) (hs : swapsWith b (some (.Attribute a x p)) pos.line X.env = pure false := by rfl) :
    PS X (.Assign [.Attribute a x p] b pos) (ts Kt W (sSetA cs n ma mb)) := by
  have h := ps_fld (pos := pos) (pos' := p) ho hv hs
  rw [A.eK] at h
  refine L2.PS.imp h fun D σ H ⟨Φ, ι, F, e, g, S, h⟩ => ⟨Φ, ι, F, e, g, S, (so.bind (Rl := DV Kt) S.env h).imp fun v H1 ⟨ι1, F1, g1, d, x1, R1, r1, h1⟩ => ⟨Φ, ι1, F1, e, g1, ⟨S.env.mono x1, R1⟩, (so.bind (Rl := DV Kt) (S.env.mono x1) h1).imp fun v2 H2 ⟨ι2, F2, g2, d2, x2, R2, r2, h2⟩ => ?_⟩⟩
  split at h2
  · split at h2
    · split at h2
      · cases r2 with
        | ref e2 =>
          obtain ⟨C, dx, gs, q1, q2, q3, q4, R3⟩ := setA_ok hx ca R2 (by assumption) (by assumption) e2 (r1.mono x2)
          exact ⟨_, C, dx, gs, rfl, q1, q2, q3, q4, h2 _ _ _ _ Ex.refl ⟨S.env.mono (x1.trans x2), R3⟩⟩
      · exact h2.elim
    · exact h2.elim
  · exact h2.elim
theorem ss_auga {n : Nat} {cs : List Nat} {x : Str} {p : Pos} (A : At Kt X W k) (hx : Kt.tab[n]? = some x) (ca : CA Kt cs x) (ho : PE X a (te Kt W ma)) (hv : PE X b (te Kt W mb)) : PS X (.AugAssign (.Attribute a x p) .Add b pos) (ts Kt W (sAugA cs n ma mb)) := by
  have h := ps_fldaug (pos := pos) (tpos := p) (f := x) ho hv in_add
  rw [A.eK] at h
  refine L2.PS.imp h fun D σ H ⟨Φ, ι, F, e, g, S, h⟩ => ⟨Φ, ι, F, e, g, S, (so.bind (Rl := DV Kt) S.env h).imp fun v H1 ⟨ι1, F1, g1, d, x1, R1, r1, h1⟩ => ?_⟩
  split at h1
  · rename_i l
    split at h1
    · rename_i cc fs e1
      split at h1
      · rename_i i hc hi
        · cases r1 with
          | @ref _ ad e2 =>
          obtain ⟨hF, C, dx, gs, e3, e4, r4⟩ := R1.ob l _ _ e1 e2
          obtain ⟨u', l1, l2⟩ := r4.look hx hi
          cases l2
          obtain ⟨c1, c2⟩ := ca cc (by simpa using hc) C e3
          refine ⟨ad, C, dx, gs, _, rfl, e4, c1, c2, l1, Φ, ι1, F1, e, g1, ⟨S.env.mono x1, R1⟩, (so.bind (Rl := DV Kt) (S.env.mono x1) h1).imp fun v2 H2 ⟨ι2, F2, g2, d2, x2, R2, r2, h2⟩ => ?_⟩
          split at h2
          · cases r2
            split at h2
            · rename_i cc2 fs2 e5
              split at h2
              · rename_i hc2
                obtain ⟨rfl, hl⟩ := of_decide_eq_true hc2
                obtain ⟨C2, dx2, gs2, q1, q2, q3, q4, R3⟩ := setA_ok hx ca R2 e5 (by rw [hc]; simpa using hl) (x2.i _ _ e2) (.int _)
                have eC : C2 = C := by
                  obtain ⟨_, C3, _, _, e6, e7, _⟩ := R2.ob l _ _ e5 (x2.i _ _ e2)
                  rw [q1] at e7; cases e7
                  rw [e3] at e6; cases e6; rfl
                subst eC
                exact ⟨_, _, rfl, rfl, dx2, gs2, q1, q4, h2 _ _ _ _ Ex.refl ⟨S.env.mono (x1.trans x2), R3⟩⟩
              · exact h2.elim
            · exact h2.elim
          · exact h2.elim
      · exact h1.elim
    · exact h1.elim
  · exact h1.elim
theorem ss_aug (i : Nat) {x : Str} {p : Pos} (A : At Kt X W k) (ha : PE X a (te Kt W ma)) (hi : X.N[i]? = some x := by rfl) (hx : Loc X.env.scope x := by first | exact Or.inl rfl | exact Or.inr rfl) (hf : X.fn x = true ∨ X.env.scope.names.lookup x = some .local := by first | exact .inl rfl | exact .inr rfl | assumption) :
    PS X (.AugAssign (.Name x p) .Add a pos) (ts Kt W (sAug i ma)) :=
  L2.PS.imp (ps_aug A.nd hi hx ha ip_add hf) fun D σ H ⟨Φ, ι, F, e, g, S, h⟩ => by
    unfold sAug at h
    split at h
    · rename_i z hz
      obtain ⟨v, e1, r⟩ := S.env.2 i _ hz
      cases r
      refine ⟨_, e1, Φ, ι, F, e, g, S, (so.bind (Rl := DV Kt) S.env h).imp fun v2 H2 ⟨ι2, F2, g2, d2, x2, R2, r2, h2⟩ => ?_⟩
      split at h2
      · cases r2
        exact ⟨_, _, rfl, rfl, h2 _ _ _ _ Ex.refl ⟨(S.env.mono x2).set i (.int _), R2⟩⟩
      · exact h2.elim
    · exact h.elim
theorem ss_sub (A : At Kt X W k) (ha : PE X a (te Kt W ma)) (hb : PE X b (te Kt W mb)) (hc : PE X c (te Kt W mc)) {p : Pos}
    (h0 : ∀ v, assign (.Subscript a b p) X.env v = (do
      let ov ← holding [v] (eval a X.env)
      let iv ← holding [v, ov] (eval b X.env)
      standAt p
      holding [v, ov, iv] (setItem ov iv v)
      release [v, ov, iv] []) := by intro _; rfl)
    (hs : swapsWithSole [.Subscript a b p] c pos.line X.env = pure false := by rfl) (hw : swappedStores [.Subscript a b p] c X.env = pure none := by rfl) (h1 : (assignEach [.Subscript a b p] X.env).map (·.2) = [assign (.Subscript a b p) X.env] := by rfl) :
    PS X (.Assign [.Subscript a b p] c pos) (ts Kt W (sSub ma mb mc)) :=
  L2.PS.imp (ps_asg hc (pg_sub ha hb set_list h0) hs hw h1) fun D σ H ⟨Φ, ι, F, e, g, S, h⟩ => ⟨Φ, ι, F, e, g, S, (so.bind (Rl := DV Kt) S.env h).imp fun v H1 ⟨ι1, F1, g1, d, x1, R1, r1, h1⟩ =>
    ⟨Φ, ι1, F1, e, g1, ⟨S.env.mono x1, R1⟩, (so.bind (Rl := DV Kt) (S.env.mono x1) h1).imp fun v2 H2 ⟨ι2, F2, g2, d2, x2, R2, r2, h2⟩ =>
      ⟨Φ, ι2, F2, e, g2, ⟨S.env.mono (x1.trans x2), R2⟩, (so.bind (Rl := DV Kt) (S.env.mono (x1.trans x2)) h2).imp fun v3 H3 ⟨ι3, F3, g3, d3, x3, R3, r3, h3⟩ => by
        split at h3
        · rename_i l j
          split at h3
          · rename_i ds e1
            split at h3
            · rename_i n hn
              cases r2 with
              | @ref _ ad e2 =>
              cases r3
              obtain ⟨hF, vs, e3, r4⟩ := R3.ob _ _ _ e1 (x3.i _ _ e2)
              refine ⟨ad, vs, _, n, rfl, rfl, e3, by rw [r4.length]; exact hn, h3 _ _ _ _ Ex.refl ⟨S.env.mono ((x1.trans x2).trans x3), R3.put (x3.i _ _ e2) hF ⟨hF, _, upd_same, DVs.set (r1.mono (x2.trans x3)) n r4⟩⟩⟩
            · exact h3.elim
          · exact h3.elim
        · exact h3.elim⟩⟩⟩
/-! #### lists that change -/
theorem po_frz {Φ : Hp} {ι : List Addr} {F H : Hp} {g : G} {σ : L2.St} {v : V} {d : D} (R : RelG Kt Φ ι F g H) (r : DV Kt ι F v d) {Q : VK} (h : po Kt Φ W σ (DV Kt) ι F (frzD d g) Q) : Q v H := by
  unfold frzD at h
  split at h
  · rename_i l
    split at h
    · rename_i ds e1
      obtain ⟨a, vs, e2, R', x, q⟩ := R.done e1
      cases r with
      | ref e3 =>
      rw [e2] at e3; cases e3
      exact h _ _ _ _ x R' q
    · exact h _ _ _ _ Ex.refl R r
  · exact h _ _ _ _ Ex.refl R r
theorem se_frz (ha : PE X a (te Kt W ma)) : PE X a (te Kt W (vFrz ma)) := L2.PE.imp ha fun σ H Q ⟨Φ, ι, F, e, g, S, h⟩ => ⟨Φ, ι, F, e, g, S, (po.bind (Rl := DV Kt) h).imp fun v H1 ⟨ι1, F1, g1, d, x1, R1, r1, h1⟩ => po_frz R1 r1 h1⟩
theorem tyV_l {Φ : Hp} {ι : List Addr} {F H : Hp} {g : G} {v : V} {d : D} {ds : List D} (R : RelG Kt Φ ι F g H) (r : DV Kt ι F v d) (h : lsD g d = some ds) : tyV Kt.K "list" v H := by
  obtain ⟨a, vs, rfl, e1, _⟩ := lsD_ok R r h
  exact .inl ⟨rfl, vs, .inl (.inl e1)⟩
theorem se_app {p : Pos} (A : At Kt X W k) (ho : PE X a (te Kt W ma)) (hm : PE X b (te Kt W mb)) (hbase : attributeBase a "append" X.env (eval a X.env) = eval a X.env := by rfl)
    (hfew : ((backTo pos (starEach [b] X.env)).all (fun x => !x.1) && (backToKw pos (keywordEach [] X.env)).all (fun x => x.1.isSome)
      && decide ([b].length + ([] : List Keyword).length + (if ([] : List Keyword).isEmpty then 0 else 1) < 30)) = true := by rfl)
    (hline : (p.endLine == pos.line) = true := by rfl) (hs : starEach [b] X.env = (false, eval b X.env) :: starEach [] X.env := by rfl) (hplain : (backTo pos (starEach [] X.env)).any (·.1) = false := by rfl) :
    PE X (.Call (.Attribute a "append" p) [b] [] pos) (te Kt W (vApp ma mb)) := by
  have h := pe_bm (cpos := pos) (apos := p) PySem.F.plainAttrs_list PySem.F.slot_list_append PySem.F.type_list_append mt_append ho (pa_cons hm pa_nil hs) hbase hfew hline hs hplain
  rw [A.eK] at h
  refine L2.PE.imp h fun σ H Q ⟨Φ, ι, F, e, g, S, h⟩ => ⟨Φ, ι, F, e, g, S, (po.bind (Rl := DV Kt) h).imp fun v H1 ⟨ι1, F1, g1, d, x1, R1, r1, h1⟩ => ?_⟩
  split at h1
  · exact h1.elim
  · rename_i ds0 e0
    refine ⟨tyV_l R1 r1 e0, Φ, ι1, F1, e, g1, ⟨S.env.mono x1, R1⟩, (po.bind (Rl := DV Kt) h1).imp fun v2 H2 ⟨ι2, F2, g2, d2, x2, R2, r2, h2⟩ => ?_⟩
    split at h2
    · rename_i l
      split at h2
      · rename_i ds e1
        split at h2
        · rename_i hl
          cases r1 with
          | @ref _ ad e2 =>
          obtain ⟨hF, vs, e3, r4⟩ := R2.ob _ _ _ e1 (x2.i _ _ e2)
          exact ⟨ad, vs, v2, rfl, rfl, e3, by rw [r4.length]; exact ltL_iff.mp hl, h2 _ _ _ _ Ex.refl (R2.put (x2.i _ _ e2) hF ⟨hF, _, upd_same, r4.append (.one r2)⟩) .non⟩
        · exact h2.elim
      · exact h2.elim
    · exact h2.elim
end
end Y

set_option Elab.async false
set_option linter.all false
set_option maxRecDepth 100000
namespace Y
open PySem PySem.Spec PyProof.Rows L2

/-! ### what a loop walks -/
inductive Src where
  | vals (xs : List D) | obj (l : Nat)
def nxS (s : Src) (i : Nat) (g : G) : Option (Option D) := match s with
  | .vals xs => some xs[i]?
  | .obj l => match g[l]? with
    | some (.lst ds) => some ds[i]?
    | _ => none
structure SrcJ (Kt : Kit) (s : Src) (J : It) (ι : List Addr) (F : Hp) : Prop where
  go : ∀ {Φ : Hp} {ι1 : List Addr} {F1 : Hp} {g : G} {H : Hp} {i : Nat} {x : D}, Ex ι F ι1 F1 → RelG Kt Φ ι1 F1 g H → nxS s i g = some (some x) →
    J.go i H ∧ ∀ v H', J.yld i H v H' → ∃ ι2 F2, Ex ι1 F1 ι2 F2 ∧ RelG Kt Φ ι2 F2 g H' ∧ DV Kt ι2 F2 v x
  stop : ∀ {Φ : Hp} {ι1 : List Addr} {F1 : Hp} {g : G} {H : Hp} {i : Nat}, Ex ι F ι1 F1 → RelG Kt Φ ι1 F1 g H → nxS s i g = some none → J.stop i H
abbrev RJ (Kt : Kit) : List Addr → Hp → It → Src → Prop := fun ι F J s => SrcJ Kt s J ι F
abbrev IM := En → G → Res Src
structure PIy (Kt : Kit) (X : Cx) (W : WX) (tg iter : Expr) (im : IM) : Prop where
  ex : ∃ wi, PI X tg iter wi ∧ ∀ (σ : L2.St) (H Φ : Hp) (ι : List Addr) (F : Hp) (e : En) (g : G) (R : It → Hp → Prop), St' Kt Φ ι F e g σ H → po Kt Φ W σ (RJ Kt) ι F (im e g) R → wi σ H R

/-! #### loops -/
def after (r : SR) (k : En → G → SR) : SR := match r with
  | .nx e g => k e g
  | .ct e g => k e g
  | .bk e g => .nx e g
  | r => r
def loopS (gm : GM) (b : SM) (s : Src) : Nat → Nat → En → G → SR
  | 0, i, e, g => match nxS s i g with
    | some none => .nx e g
    | _ => .stuck
  | n + 1, i, e, g => match nxS s i g with
    | none => .stuck
    | some none => .nx e g
    | some (some x) => match gm x g e with
      | none => .stuck
      | some e' => after (b e' g) fun e2 g2 => loopS gm b s n (i + 1) e2 g2
def loopL (gm : GM) (b : SM) : List D → En → G → SR
  | [], e, g => .nx e g
  | x :: xs, e, g => match gm x g e with
    | none => .stuck
    | some e' => after (b e' g) fun e2 g2 => loopL gm b xs e2 g2
theorem loopS_vals (gm : GM) (b : SM) (xs : List D) : ∀ (n i : Nat) (e : En) (g : G), n = xs.length - i → loopS gm b (.vals xs) n i e g = loopL gm b (xs.drop i) e g
  | 0, i, e, g, h => by
    have hx : xs[i]? = none := List.getElem?_eq_none (by omega)
    have hd : xs.drop i = [] := List.drop_eq_nil_of_le (by omega)
    rw [hd]
    unfold loopS loopL nxS
    simp only [hx]
  | n + 1, i, e, g, h => by
    have hi : i < xs.length := by omega
    have hx : xs[i]? = some xs[i] := List.getElem?_eq_getElem hi
    rw [List.drop_eq_getElem_cons hi]
    unfold loopS loopL nxS
    simp only [hx]
    split
    · rfl
    · congr 1
      funext e2 g2
      exact loopS_vals gm b xs n (i + 1) e2 g2 (by omega)
def runS (gm : GM) (b : SM) (s : Src) (e : En) (g : G) : SR := match s with
  | .vals xs => loopL gm b xs e g
  | .obj l => match g[l]? with
    | some (.lst ds) => loopS gm b (.obj l) ds.length 0 e g
    | _ => .stuck
def sFor (im : IM) (gm : GM) (b : SM) : SM := fun e g => sBind (im e g) e fun s g1 => runS gm b s e g1
def loopW (c : TM) (b : SM) : Nat → En → G → SR
  | 0, _, _ => .stuck
  | n + 1, e, g => sBind (c e g) e fun t g1 => bif t then after (b e g1) fun e2 g2 => loopW c b n e2 g2 else .nx e g1
def noX {α : Type} (r : Res α) : Res α := match r with
  | .ok a g => .ok a g
  | _ => .stuck
@[simp] theorem noX_ok {α : Type} {a : α} {g : G} : noX (.ok a g) = .ok a g := rfl
@[simp] theorem noX_stuck {α : Type} : noX (.stuck : Res α) = .stuck := rfl
def wipeE (e : En) : List Nat → En
  | [] => e
  | v :: vs => (wipeE e vs).set v none
def lcS (gm : GM) (t : TM) (m : EM) (s : Src) : Nat → Nat → En → G → Res (List D)
  | 0, i, e, g => match nxS s i g with
    | some none => .ok [] g
    | _ => .stuck
  | n + 1, i, e, g => match nxS s i g with
    | none => .stuck
    | some none => .ok [] g
    | some (some x) => match gm x g e with
      | none => .stuck
      | some e' => (noX (t e' g)).bind fun c g1 => bif c then (noX (m e' g1)).bind fun y g2 => (lcS gm t m s n (i + 1) e g2).bind fun ys g3 => .ok (y :: ys) g3 else lcS gm t m s n (i + 1) e g1
def lcL (gm : GM) (t : TM) (m : EM) : List D → En → G → Res (List D)
  | [], e, g => .ok [] g
  | x :: xs, e, g => match gm x g e with
    | none => .stuck
    | some e' => (noX (t e' g)).bind fun c g1 => bif c then (noX (m e' g1)).bind fun y g2 => (lcL gm t m xs e g2).bind fun ys g3 => .ok (y :: ys) g3 else lcL gm t m xs e g1
theorem lcS_vals (gm : GM) (t : TM) (m : EM) (xs : List D) : ∀ (n i : Nat) (e : En) (g : G), n = xs.length - i → lcS gm t m (.vals xs) n i e g = lcL gm t m (xs.drop i) e g
  | 0, i, e, g, h => by
    have hx : xs[i]? = none := List.getElem?_eq_none (by omega)
    have hd : xs.drop i = [] := List.drop_eq_nil_of_le (by omega)
    rw [hd]
    unfold lcS lcL nxS
    simp only [hx]
  | n + 1, i, e, g, h => by
    have hi : i < xs.length := by omega
    have hx : xs[i]? = some xs[i] := List.getElem?_eq_getElem hi
    rw [List.drop_eq_getElem_cons hi]
    unfold lcS lcL nxS
    simp only [hx]
    have ih := fun e2 g2 => lcS_vals gm t m xs n (i + 1) e2 g2 (by omega)
    simp only [ih]
def srcN (s : Src) (g : G) : Option Nat := match s with
  | .vals xs => some xs.length
  | .obj l => match g[l]? with
    | some (.lst ds) => some ds.length
    | _ => none
def lcR (gm : GM) (t : TM) (m : EM) (s : Src) (e : En) (g : G) : Res (List D) := match s with
  | .vals xs => match okL xs.length with
    | true => lcL gm t m xs e g
    | false => .stuck
  | .obj l => match g[l]? with
    | some (.lst ds) => (match okL ds.length with
      | true => lcS gm t m (.obj l) ds.length 0 e g
      | false => .stuck)
    | _ => .stuck
/-- a comprehension: a list that does not change; one that will -/
def vLc (own : List Nat) (im : IM) (gm : GM) (t : TM) (m : EM) : EM := fun e g => (im e g).bind fun s g1 => (lcR gm t m s (wipeE e own) g1).bind fun ys g2 => .ok (.lst ys) g2
def vLcO (own : List Nat) (im : IM) (gm : GM) (t : TM) (m : EM) : EM := fun e g => (im e g).bind fun s g1 => (lcR gm t m s (wipeE e own) g1).bind fun ys g2 => .ok (.ref g2.length) (g2 ++ [.lst ys])
def tYes : TM := fun _ g => .ok true g
abbrev WF : WX := fun _ _ _ _ => False

section
variable {Kt : Kit} {X : Cx} {W : WX} {k : Nat} {a b c tg iter : Expr} {ma mb mc : EM} {ta' : TM} {pos : Pos} {es : List Expr} {ms : AM} {vs : List Nat} {gm : GM} {st : Stmt} {sts : List Stmt} {m m' : SM} {im : IM}
theorem so_after {D : Ends} {N : L2.St → Hp → Prop} {Φ : Hp} {ι : List Addr} {F : Hp} {r : SR} {kk : En → G → SR} (h : so Kt Φ W D ι F (after r kk))
    (hN : ∀ ι' F' e' g' σ' H', Ex ι F ι' F' → St' Kt Φ ι' F' e' g' σ' H' → so Kt Φ W D ι' F' (kk e' g') → N σ' H') : so Kt Φ W { D with nx := N, ct := N, bk := D.nx } ι F r := by
  cases r with
  | nx e g => exact fun ι' F' σ' H' x S => hN ι' F' e g σ' H' x S (so.mono x h)
  | ct e g => exact fun ι' F' σ' H' x S => hN ι' F' e g σ' H' x S (so.mono x h)
  | bk e g => exact h
  | rt d g => exact h
  | exn c e g => exact h
  | stuck => exact h
theorem for_src {s : Src} {J : It} {D : Ends} {Φ : Hp} {ι : List Addr} {F : Hp} {e : En} {g : G} {σ : L2.St} {H : Hp} {n : Nat} (hJ : SrcJ Kt s J ι F) (S : St' Kt Φ ι F e g σ H) (h : so Kt Φ W D ι F (loopS gm m s n 0 e g)) :
    ∃ Wp : Nat → Nat → L2.St → Hp → Prop, (∃ m, Wp 0 m σ H) ∧ ∀ i k σ H, Wp i k σ H →
      (J.stop i H ∧ D.nx σ H) ∨ (J.go i H ∧ ∃ N : L2.St → Hp → Prop, (∀ σ' H', N σ' H' → ∃ m', m' < k ∧ Wp (i + 1) m' σ' H') ∧ ∀ x H', J.yld i H x H' → tgt Kt vs gm x σ H' fun σ2 H2 => ts Kt W m { D with nx := N, ct := N, bk := D.nx } σ2 H2) := by
  refine ⟨fun i k σ H => ∃ ι1 F1 e1 g1, Ex ι F ι1 F1 ∧ St' Kt Φ ι1 F1 e1 g1 σ H ∧ so Kt Φ W D ι1 F1 (loopS gm m s k i e1 g1), ⟨n, ι, F, e, g, Ex.refl, S, h⟩, ?_⟩
  rintro i k σ H ⟨ι1, F1, e1, g1, x1, S1, h1⟩
  cases z : nxS s i g1 with
  | none => cases k <;> (unfold loopS at h1; rw [z] at h1; exact h1.elim)
  | some o =>
    cases o with
    | none =>
      refine .inl ⟨hJ.stop x1 S1.rel z, ?_⟩
      cases k <;> (unfold loopS at h1; rw [z] at h1; exact h1 _ _ _ _ Ex.refl S1)
    | some y =>
      cases k with
      | zero => unfold loopS at h1; rw [z] at h1; exact h1.elim
      | succ k =>
        unfold loopS at h1
        rw [z] at h1
        obtain ⟨hg, hy⟩ := hJ.go x1 S1.rel z
        refine .inr ⟨hg, fun σ' H' => ∃ ι2 F2 e2 g2, Ex ι1 F1 ι2 F2 ∧ St' Kt Φ ι2 F2 e2 g2 σ' H' ∧ so Kt Φ W D ι2 F2 (loopS gm m s k (i + 1) e2 g2), fun σ' H' ⟨ι2, F2, e2, g2, x2, S2, h2⟩ => ⟨k, Nat.lt_succ_self _, ι2, F2, e2, g2, x1.trans x2, S2, h2⟩, fun v H' yl => ?_⟩
        obtain ⟨ι2, F2, x2, R2, r2⟩ := hy v H' yl
        cases zg : gm y g1 e1 with
        | none => simp only [zg] at h1; exact h1.elim
        | some e' =>
          simp only [zg] at h1
          refine ⟨Φ, ι2, F2, e1, g1, y, ⟨S1.env.mono x2, R2⟩, r2, e', zg, fun σ' _ S' => ⟨Φ, ι2, F2, e', g1, S', so_after (so.mono x2 h1) fun ι3 F3 e3 g3 σ3 H3 x3 S3 h3 => ⟨ι3, F3, e3, g3, x2.trans x3, S3, h3⟩⟩⟩
theorem ss_for (A : At Kt X W k) (hi : PIy Kt X W tg iter im) (hg : PG X tg (tgt Kt vs gm)) (hb : PSs X sts (ts Kt W m)) (hs : ∀ x, foldedSetIterable iter X.env x = pure x := by intro _; rfl) : PS X (.For tg iter sts [] pos) (ts Kt W (sFor im gm m)) := by
  obtain ⟨wi, pi, ii⟩ := hi.ex
  refine L2.PS.imp (ps_for A.pso A.calm pi hg hb hs) fun D σ H ⟨Φ, ι, F, e, g, S, h⟩ => ii σ H Φ ι F e g _ S ((so.bind (Rl := RJ Kt) S.env h).imp fun J H1 ⟨ι1, F1, g1, s, x1, R1, hJ, h1⟩ => ?_)
  have S1 : St' Kt Φ ι1 F1 e g1 σ H1 := ⟨S.env.mono x1, R1⟩
  cases s with
  | vals xs =>
    refine for_src hJ S1 (n := xs.length) ?_
    rw [loopS_vals gm m xs xs.length 0 e g1 rfl]
    exact h1
  | obj l =>
    unfold runS at h1
    simp only at h1
    split at h1
    · exact for_src hJ S1 h1
    · exact h1.elim
theorem ss_while (N : Nat) (A : At Kt X W k) (hc : PT X c (tt Kt W ta')) (hb : PSs X sts (ts Kt W m)) : PS X (.While c sts [] pos) (ts Kt W (loopW ta' m N)) := by
  refine L2.PS.imp (ps_while A.pso hc hb) fun D σ H ⟨Φ, ι, F, e, g, S, h⟩ => ⟨fun n σ H => ∃ ι1 F1 e1 g1, Ex ι F ι1 F1 ∧ St' Kt Φ ι1 F1 e1 g1 σ H ∧ so Kt Φ W D ι1 F1 (loopW ta' m n e1 g1), ⟨N, ι, F, e, g, Ex.refl, S, h⟩, ?_⟩
  rintro n σ H ⟨ι1, F1, e1, g1, x1, S1, h1⟩
  cases n with
  | zero => exact h1.elim
  | succ n =>
    unfold loopW at h1
    refine ⟨Φ, ι1, F1, e1, g1, S1, (so.bind (Rl := RB) S1.env h1).imp fun v H2 ⟨ι2, F2, g2, d, x2, R2, r2, h2⟩ => ?_⟩
    obtain rfl : v = d := r2
    have S2 : St' Kt Φ ι2 F2 e1 g2 σ H2 := ⟨S1.env.mono x2, R2⟩
    cases v with
    | false => rw [if_neg Bool.false_ne_true]; exact h2 _ _ _ _ Ex.refl S2
    | true =>
      rw [if_pos rfl]
      exact ⟨fun σ' H' => ∃ ι3 F3 e3 g3, Ex ι2 F2 ι3 F3 ∧ St' Kt Φ ι3 F3 e3 g3 σ' H' ∧ so Kt Φ W D ι3 F3 (loopW ta' m n e3 g3), fun σ' H' ⟨ι3, F3, e3, g3, x3, S3, h3⟩ => ⟨n, Nat.lt_succ_self _, ι3, F3, e3, g3, (x1.trans x2).trans x3, S3, h3⟩,
        Φ, ι2, F2, e1, g2, S2, so_after h2 fun ι3 F3 e3 g3 σ3 H3 x3 S3 h3 => ⟨ι3, F3, e3, g3, x3, S3, h3⟩⟩

/-! #### sources -/
theorem src_list {a : Addr} {xs : List D} {ι : List Addr} {F : Hp} {ws : List V} (h : SqL Kt.K F a ws) (r : DVs Kt ι F ws xs) : SrcJ Kt (.vals xs) (Itl Kt.K a) ι F where
  go := by
    intro Φ ι1 F1 g H i x y R e
    unfold nxS at e
    have e : xs[i]? = some x := Option.some.inj e
    obtain ⟨v, h1, h2⟩ := r.get e
    have hS : SqL Kt.K H a ws := sql_mono R.sub (sql_mono y.f h)
    refine ⟨⟨ws, v, hS, h1⟩, fun v' H' hy => ?_⟩
    obtain ⟨rfl, hy⟩ := hy
    have := hy ws hS
    rw [h1] at this; cases this
    exact ⟨ι1, F1, Ex.refl, R, h2.mono y⟩
  stop := by
    intro Φ ι1 F1 g H i y R e
    unfold nxS at e
    have e : xs[i]? = none := Option.some.inj e
    exact ⟨ws, sql_mono R.sub (sql_mono y.f h), by rw [r.length]; exact List.getElem?_eq_none_iff.mp e⟩
theorem src_tup {a : Addr} {xs : List D} {ι : List Addr} {F : Hp} {ws : List V} (h : SqT Kt.K F a ws) (r : DVs Kt ι F ws xs) : SrcJ Kt (.vals xs) (Itt Kt.K a) ι F where
  go := by
    intro Φ ι1 F1 g H i x y R e
    unfold nxS at e
    have e : xs[i]? = some x := Option.some.inj e
    obtain ⟨v, h1, h2⟩ := r.get e
    have hS : SqT Kt.K H a ws := sqt_mono R.sub (sqt_mono y.f h)
    refine ⟨⟨ws, v, hS, h1⟩, fun v' H' hy => ?_⟩
    obtain ⟨rfl, hy⟩ := hy
    have := hy ws hS
    rw [h1] at this; cases this
    exact ⟨ι1, F1, Ex.refl, R, h2.mono y⟩
  stop := by
    intro Φ ι1 F1 g H i y R e
    unfold nxS at e
    have e : xs[i]? = none := Option.some.inj e
    exact ⟨ws, sqt_mono R.sub (sqt_mono y.f h), by rw [r.length]; exact List.getElem?_eq_none_iff.mp e⟩
def rngL (lo : Int) (n : Nat) : List D := (List.range n).map fun (i : Nat) => D.int (lo + (i : Int))
theorem src_rng {lo : Int} {n : Nat} {ι : List Addr} {F : Hp} : SrcJ Kt (.vals (rngL lo n)) (Itr lo n) ι F where
  go := by
    intro Φ ι1 F1 g H i x y R e
    unfold nxS rngL at e
    have e : ((List.range n).map fun (i : Nat) => D.int (lo + (i : Int)))[i]? = some x := Option.some.inj e
    rw [List.getElem?_map] at e
    cases z : (List.range n)[i]? with
    | none => rw [z] at e; cases e
    | some j =>
      rw [z] at e
      cases e
      obtain ⟨hi, hj⟩ := List.getElem?_eq_some_iff.mp z
      simp at hi hj
      subst hj
      refine ⟨hi, fun v' H' hy => ?_⟩
      obtain ⟨rfl, rfl⟩ := hy
      exact ⟨ι1, F1, Ex.refl, R, .int _⟩
  stop := by
    intro Φ ι1 F1 g H i y R e
    unfold nxS rngL at e
    have e : ((List.range n).map fun (i : Nat) => D.int (lo + (i : Int)))[i]? = none := Option.some.inj e
    rw [List.getElem?_eq_none_iff, List.length_map, List.length_range] at e
    exact e
theorem src_obj {l : Nat} {a : Addr} {ι : List Addr} {F : Hp} (h : ι[l]? = some a) : SrcJ Kt (.obj l) (Itl Kt.K a) ι F where
  go := by
    intro Φ ι1 F1 g H i x y R e
    unfold nxS at e
    simp only at e
    split at e
    · rename_i ds eg
      have e : ds[i]? = some x := Option.some.inj e
      obtain ⟨_, ws, eH, r⟩ := R.ob l a _ eg (y.i _ _ h)
      obtain ⟨v, h1, h2⟩ := r.get e
      have hS : SqL Kt.K H a ws := .inl (.inl eH)
      refine ⟨⟨ws, v, hS, h1⟩, fun v' H' hy => ?_⟩
      obtain ⟨rfl, hy⟩ := hy
      have := hy ws hS
      rw [h1] at this; cases this
      exact ⟨ι1, F1, Ex.refl, R, h2⟩
    · cases e
  stop := by
    intro Φ ι1 F1 g H i y R e
    unfold nxS at e
    simp only at e
    split at e
    · rename_i ds eg
      have e : ds[i]? = none := Option.some.inj e
      obtain ⟨_, ws, eH, r⟩ := R.ob l a _ eg (y.i _ _ h)
      exact ⟨ws, .inl (.inl eH), by rw [r.length]; exact List.getElem?_eq_none_iff.mp e⟩
    · cases e
/-- a list, by its value -/
def iLst (m : EM) : IM := fun e g => (m e g).bind fun d g1 => match d with
  | .lst xs => .ok (.vals xs) g1
  | .scr xs => .ok (.vals xs) g1
  | .ref l => match g1[l]? with
    | some (.lst _) => .ok (.obj l) g1
    | _ => .stuck
  | _ => .stuck
def iTup (m : EM) : IM := fun e g => (m e g).bind fun d g1 => match d with
  | .tup xs => .ok (.vals xs) g1
  | _ => .stuck
def iRng1 (m : EM) : IM := fun e g => (m e g).bind fun d g1 => match d with
  | .int j => match rB j with
    | true => .ok (.vals (rngL 0 j.toNat)) g1
    | false => .stuck
  | _ => .stuck
def iRng2 (m m' : EM) : IM := fun e g => (m e g).bind fun d g1 => (m' e g1).bind fun d' g2 => match d, d' with
  | .int i, .int j => match rB i && rB j with
    | true => .ok (.vals (rngL i (j - i).toNat)) g2
    | false => .stuck
  | _, _ => .stuck
theorem si_lst (A : At Kt X W k) (h : PE X a (te Kt W ma)) : PIy Kt X W tg a (iLst ma) := by
  have hp := pi_list (tg := tg) h
  rw [A.eK] at hp
  refine ⟨_, hp, fun σ H Φ ι F e g R S q => ⟨Φ, ι, F, e, g, S, (po.bind (Rl := DV Kt) q).imp fun v H1 ⟨ι1, F1, g1, d, x1, R1, r1, h1⟩ => ?_⟩⟩
  cases r1 with
  | @lst ad ws ds eF r => exact ⟨ad, rfl, ⟨ws, .inl (.inl (R1.sub _ _ eF))⟩, h1 _ _ _ _ Ex.refl R1 (src_list (.inl (.inl eF)) r)⟩
  | @scr ad ws ds eF r => exact ⟨ad, rfl, ⟨ws, sql_mono R1.sub eF⟩, h1 _ _ _ _ Ex.refl R1 (src_list eF r)⟩
  | @ref l ad e2 =>
    simp only at h1
    split at h1
    · rename_i ds eg
      obtain ⟨_, ws, eH, r⟩ := R1.ob l ad _ eg e2
      exact ⟨ad, rfl, ⟨ws, .inl (.inl eH)⟩, h1 _ _ _ _ Ex.refl R1 (src_obj e2)⟩
    · exact h1.elim
  | _ => exact h1.elim
theorem si_tup (A : At Kt X W k) (h : PE X a (te Kt W ma)) : PIy Kt X W tg a (iTup ma) := by
  have hp := pi_tup (tg := tg) h
  rw [A.eK] at hp
  refine ⟨_, hp, fun σ H Φ ι F e g R S q => ⟨Φ, ι, F, e, g, S, (po.bind (Rl := DV Kt) q).imp fun v H1 ⟨ι1, F1, g1, d, x1, R1, r1, h1⟩ => ?_⟩⟩
  cases r1 with
  | @tup ad ws ds eF r => exact ⟨ad, rfl, ⟨ws, sqt_mono R1.sub (tS eF)⟩, h1 _ _ _ _ Ex.refl R1 (src_tup (tS eF) r)⟩
  | _ => exact h1.elim
theorem po_one {Φ : Hp} {σ : L2.St} {H : Hp} {e : En} {g : G} {ι : List Addr} {F : Hp} (S : St' Kt Φ ι F e g σ H) {Q : List V → Hp → Prop} (h : po Kt Φ W σ (DV Kt) ι F (ma e g) fun v H' => Q [v] H') : ta Kt W (aCons ma aNil) σ H Q := by
  refine ⟨Φ, ι, F, e, g, S, ?_⟩
  unfold aCons aNil
  cases z : ma e g with
  | ok d g1 =>
    rw [z] at h
    intro ι' F' H' vs x R r
    cases r with
    | cons r1 r2 => cases r2; exact h _ _ _ _ x R r1
  | exn c g1 => rw [z] at h; exact h
  | stuck => rw [z] at h; exact h.elim
theorem si_rng1 {p : Pos} (A : At Kt X W k) (h : PE X a (te Kt W ma)) (hm : Kt.mg "range" = none) (hg : Gl X "range" := by rfl) (hs : starEach [a] X.env = [(false, eval a X.env)] := by rfl) : PIy Kt X W tg (.Call (.Name "range" p) [a] [] pos) (iRng1 ma) :=
  ⟨_, pi_range1 hg (A.em ▸ hm) (pa_cons h pa_nil hs) hs, fun σ H Φ ι F e g R S q => ⟨Φ, ι, F, e, g, S, (po.bind (Rl := DV Kt) q).imp fun v H1 ⟨ι1, F1, g1, d, x1, R1, r1, h1⟩ => by
    split at h1
    · rename_i j
      cases r1
      split at h1
      · rename_i hb
        have hb := rB_ok hb
        exact ⟨j, rfl, hb.1, hb.2, h1 _ _ _ _ Ex.refl R1 src_rng⟩
      · exact h1.elim
    · exact h1.elim⟩⟩
theorem si_rng2 {p : Pos} (A : At Kt X W k) (h : PE X a (te Kt W ma)) (h' : PE X b (te Kt W mb)) (hm : Kt.mg "range" = none) (hg : Gl X "range" := by rfl) (hs : starEach [a, b] X.env = [(false, eval a X.env), (false, eval b X.env)] := by rfl) (hs2 : starEach [b] X.env = [(false, eval b X.env)] := by rfl) :
    PIy Kt X W tg (.Call (.Name "range" p) [a, b] [] pos) (iRng2 ma mb) :=
  ⟨_, pi_range2 hg (A.em ▸ hm) (pa_cons h (pa_cons h' pa_nil hs2) (by rw [hs, hs2])) hs hs2, fun σ H Φ ι F e g R S q => ⟨Φ, ι, F, e, g, S, (po.bind (Rl := DV Kt) q).imp fun v H1 ⟨ι1, F1, g1, d, x1, R1, r1, h1⟩ =>
    ⟨Φ, ι1, F1, e, g1, ⟨S.env.mono x1, R1⟩, (po.bind (Rl := DV Kt) h1).imp fun v2 H2 ⟨ι2, F2, g2, d2, x2, R2, r2, h2⟩ => by
      split at h2
      · rename_i i j
        cases r1; cases r2
        split at h2
        · rename_i hb
          rw [Bool.and_eq_true] at hb
          have hb1 := rB_ok hb.1
          have hb2 := rB_ok hb.2
          exact ⟨_, _, rfl, ⟨hb1.1, hb1.2, hb2.1, hb2.2⟩, h2 _ _ _ _ Ex.refl R2 src_rng⟩
        · exact h2.elim
      · exact h2.elim⟩⟩⟩

/-! #### comprehensions -/
theorem At.blk (A : At Kt X W k) (s : Shared) (H : Hp) (sc : Scope) (ce : Env) (fp : List Addr) : At Kt (X.blk s H sc ce fp) WF k :=
  ⟨A.eP, A.ew, A.eK, A.em, A.eb, A.calm, takes0, A.room, PassesOwn.never, A.nd⟩
structure PTy (Kt : Kit) (X : Cx) (ifs : List Expr) (t : TM) : Prop where
  ex : PTs X ifs (tt Kt WF t)
theorem sts_nil : PTs X [] (tt Kt WF tYes) := ⟨fun pins s σ H Q I ⟨Φ, ι, F, e, g, S, h⟩ => pts_nil.run pins s σ H Q I (h _ _ _ _ Ex.refl S.rel rfl)⟩
theorem sts_one (h : PT X c (tt Kt WF ta')) : PTs X [c] (tt Kt WF ta') := pts_one h
theorem wipe_env {ι : List Addr} {F : Hp} {σ : L2.St} {e : En} (h : EnvR Kt ι F σ e) : ∀ vs : List Nat, EnvR Kt ι F (wipe σ vs) (wipeE e vs)
  | [] => h
  | v :: vs => (wipe_env h vs).unset v
theorem wipe_get {σ : L2.St} : ∀ {vs : List Nat} {i : Nat}, i ∉ vs → (wipe σ vs)[i]? = σ[i]?
  | [], _, _ => rfl
  | v :: vs, i, h => by
    unfold wipe
    rw [List.getElem?_set_ne (fun z => h (by simp [z]))]
    exact wipe_get fun z => h (List.mem_cons_of_mem _ z)
theorem wipe_own {σ : L2.St} : ∀ {vs : List Nat} {i : Nat}, i ∈ vs → i < σ.length → (wipe σ vs)[i]? = some none
  | v :: vs, i, h, hl => by
    unfold wipe
    by_cases z : i = v
    · subst z
      rw [List.getElem?_set_self (by rw [wipe_length]; exact hl)]
    · rw [List.getElem?_set_ne (Ne.symm z)]
      exact wipe_own (by simpa [z] using h) hl
theorem wipe_out' {vs : List Nat} {σ σ' : L2.St} (h : Out vs (wipe σ vs) σ') : wipe σ' vs = wipe σ vs := by
  apply List.ext_getElem?
  intro i
  have hlen : σ'.length = σ.length := h.1.trans (wipe_length σ vs)
  by_cases hi : i ∈ vs
  · by_cases hl : i < σ.length
    · rw [wipe_own hi hl, wipe_own hi (by omega)]
    · rw [List.getElem?_eq_none (by rw [wipe_length]; omega), List.getElem?_eq_none (by rw [wipe_length]; omega)]
  · rw [wipe_get hi, h.2 i hi]
theorem noX_po {α ν : Type} {Φ : Hp} {σ : L2.St} {Rl : List Addr → Hp → ν → α → Prop} {ι : List Addr} {F : Hp} {r : Res α} {Q : ν → Hp → Prop} (h : po Kt Φ W σ Rl ι F (noX r) Q) : po Kt Φ WF σ Rl ι F r Q := by
  cases r with
  | ok a g => exact h
  | exn c g => exact h.elim
  | stuck => exact h.elim
theorem noX_bind {α β ν μ : Type} {Φ : Hp} {σ : L2.St} {Rl : List Addr → Hp → ν → α → Prop} {Rm : List Addr → Hp → μ → β → Prop} {ι : List Addr} {F : Hp} {r : Res α} {kk : α → G → Res β} {Q : μ → Hp → Prop} (h : po Kt Φ W σ Rm ι F ((noX r).bind kk) Q) :
    po Kt Φ WF σ Rl ι F r fun v H1 => ∃ ι1 F1 g1 a, Ex ι F ι1 F1 ∧ RelG Kt Φ ι1 F1 g1 H1 ∧ Rl ι1 F1 v a ∧ po Kt Φ W σ Rm ι1 F1 (kk a g1) Q := noX_po (po.bind h)
theorem lent {Φ : Hp} {ι : List Addr} {F H : Hp} {g : G} {p : Addr} {o : HO} (R : RelG Kt Φ ι F g H) (hp : H p = none) : RelG Kt (upd Φ p o) ι F g (upd H p o) := by
  have nF : F p = none := by
    cases e : F p with
    | none => rfl
    | some u => rw [R.sub p u e] at hp; cases hp
  have np : ∀ (l : Nat) (a : Addr), ι[l]? = some a → a ≠ p := fun l a e z => R.on l a e (z ▸ hp)
  refine ⟨R.len, R.inj, fun a u h => ?_, fun i a e => ?_, fun a u h => ?_, fun l a ob e1 e2 => ?_⟩
  · rw [upd_ne (ne_of_none (R.sub a u h) hp)]; exact R.sub a u h
  · rw [upd_ne (np i a e)]; exact R.on i a e
  · by_cases z : a = p
    · subst z
      rw [upd_same] at h ⊢
      exact ⟨h, nF, fun i q => np i a q rfl⟩
    · rw [upd_ne z] at h ⊢
      exact R.fr a u h
  · exact (R.ob l a ob e1 e2).mono Ex.refl (upd_ne (np l a e2)) fun n => n
theorem relent {Φ : Hp} {ι : List Addr} {F H : Hp} {g : G} {p : Addr} {o o' : HO} (R : RelG Kt (upd Φ p o) ι F g H) : RelG Kt (upd Φ p o') ι F g (upd H p o') ∧ H p = some o := by
  obtain ⟨h1, h2, h3⟩ := R.fr p o upd_same
  have np : ∀ (l : Nat) (a : Addr), ι[l]? = some a → a ≠ p := fun l a e z => h3 l (z ▸ e)
  refine ⟨⟨R.len, R.inj, fun a u h => ?_, fun i a e => ?_, fun a u h => ?_, fun l a ob e1 e2 => ?_⟩, h1⟩
  · rw [upd_ne (ne_of_none h h2)]; exact R.sub a u h
  · rw [upd_ne (np i a e)]; exact R.on i a e
  · by_cases z : a = p
    · subst z
      rw [upd_same] at h ⊢
      exact ⟨h, h2, h3⟩
    · rw [upd_ne z] at h ⊢
      exact R.fr a u (by rw [upd_ne z]; exact h)
  · exact (R.ob l a ob e1 e2).mono Ex.refl (upd_ne (np l a e2)) fun n => n
/-- the new list is handed on: as a value that does not change, as an object -/
theorem back {Φ : Hp} {ι : List Addr} {F H : Hp} {g : G} {p : Addr} {o : HO} (R : RelG Kt (upd Φ p o) ι F g H) (hp : Φ p = none) : RelG Kt Φ ι F g H := by
  refine ⟨R.len, R.inj, R.sub, R.on, fun a u h => R.fr a u ?_, R.ob⟩
  rw [upd_ne (ne_of_none h hp)]; exact h
theorem backF {Φ : Hp} {ι : List Addr} {F H : Hp} {g : G} {p : Addr} {o : HO} (R : RelG Kt (upd Φ p o) ι F g H) (hp : Φ p = none) : RelG Kt Φ ι (upd F p o) g H ∧ Ex ι F ι (upd F p o) := by
  obtain ⟨h1, h2, h3⟩ := R.fr p o upd_same
  have x : Ex ι F ι (upd F p o) := ⟨fun _ _ h => h, fun a u h => by rw [upd_ne (ne_of_none h h2)]; exact h⟩
  have np : ∀ (l : Nat) (a : Addr), ι[l]? = some a → a ≠ p := fun l a e z => h3 l (z ▸ e)
  refine ⟨⟨R.len, R.inj, fun a u h => ?_, R.on, fun a u h => ?_, fun l a ob e1 e2 => ?_⟩, x⟩
  · by_cases z : a = p
    · subst z; rw [upd_same] at h; cases h; exact h1
    · rw [upd_ne z] at h; exact R.sub a u h
  · have z := ne_of_none h hp
    obtain ⟨q1, q2, q3⟩ := R.fr a u (by rw [upd_ne z]; exact h)
    exact ⟨q1, by rw [upd_ne z]; exact q2, q3⟩
  · exact (R.ob l a ob e1 e2).mono x rfl fun n => by rw [upd_ne (np l a e2)]; exact n
theorem backO {Φ : Hp} {ι : List Addr} {F H : Hp} {g : G} {p : Addr} {ws : List V} {ds : List D} (R : RelG Kt (upd Φ p (.lst ws)) ι F g H) (hp : Φ p = none) (r : DVs Kt ι F ws ds) : RelG Kt Φ (ι ++ [p]) F (g ++ [.lst ds]) H ∧ Ex ι F (ι ++ [p]) F := by
  obtain ⟨h1, h2, h3⟩ := R.fr p _ upd_same
  have R0 := back R hp
  have x : Ex ι F (ι ++ [p]) F := ⟨fun l a h => by rw [List.getElem?_append_left (List.getElem?_eq_some_iff.mp h).1]; exact h, fun _ _ h => h⟩
  have sp : ∀ (l : Nat) (a : Addr), (ι ++ [p])[l]? = some a → ι[l]? = some a ∨ (l = ι.length ∧ a = p) := fun l a e => by
    by_cases z : l < ι.length
    · rw [List.getElem?_append_left z] at e; exact .inl e
    · rw [List.getElem?_append_right (by omega)] at e
      have : l - ι.length = 0 := by
        have := (List.getElem?_eq_some_iff.mp e).1
        simp at this; omega
      rw [this] at e
      simp at e
      exact .inr ⟨by omega, e.symm⟩
  refine ⟨⟨by simp [R.len], fun i j a q1 q2 => ?_, R.sub, fun i a e => ?_, fun a u h => ?_, fun l a ob e1 e2 => ?_⟩, x⟩
  · rcases sp i a q1 with q1 | ⟨q1, e1⟩ <;> rcases sp j a q2 with q2 | ⟨q2, e2⟩
    · exact R.inj i j a q1 q2
    · exact absurd (e2 ▸ q1) (h3 i)
    · exact absurd (e1 ▸ q2) (h3 j)
    · omega
  · rcases sp i a e with e | ⟨_, e⟩
    · exact R.on i a e
    · rw [e, h1]; simp
  · obtain ⟨q1, q2, q3⟩ := R0.fr a u h
    refine ⟨q1, q2, fun i q => ?_⟩
    rcases sp i a q with q | ⟨_, q⟩
    · exact q3 i q
    · rw [q] at h; rw [hp] at h; cases h
  · rcases sp l a e2 with e2 | ⟨e2, e3⟩
    · have hl : l < g.length := by rw [← R.len]; exact (List.getElem?_eq_some_iff.mp e2).1
      rw [List.getElem?_append_left hl] at e1
      exact (R.ob l a ob e1 e2).mono x rfl fun n => n
    · rw [e2, R.len, List.getElem?_append_right (Nat.le_refl _), Nat.sub_self] at e1
      simp at e1
      subst e1; subst e3
      exact ⟨h2, ws, h1, r.mono x⟩
/-- the loop of a comprehension -/
theorem lc_src {own : List Nat} {s : Src} {J : It} {Φ : Hp} {ι : List Addr} {F : Hp} {e : En} {g : G} {σ : L2.St} {H1 : Hp} {n : Nat} {t : TM} {Q : Hp → Prop} {p : Addr} (hJ : SrcJ Kt s J ι F) (S : St' Kt Φ ι F e g σ H1) (hp : H1 p = none) (hn : n ≤ LINE)
    (h : ∃ ys g', lcS gm t mb s n 0 (wipeE e own) g = .ok ys g' ∧ ∀ ι' F' H' ws, Ex ι F ι' F' → RelG Kt (upd Φ p (.lst ws)) ι' F' g' H' → DVs Kt ι' F' ws ys → Q H') :
    ∃ Wp : Nat → Nat → Hp → Prop, (∃ m, Wp 0 m (upd H1 p (.lst []))) ∧ ∀ i k H, Wp i k H → (J.stop i H ∧ Q H) ∨ (J.go i H ∧ ∃ N : Hp → Prop, (∀ H', N H' → ∃ m', m' < k ∧ Wp (i + 1) m' H') ∧ ∀ x H', J.yld i H x H' → tgt Kt own gm x (wipe σ own) H' fun σ2 H2 => wipe σ2 own = wipe σ own ∧ tt Kt WF t σ2 H2 fun b H3 =>
      if b = true then te Kt WF mb σ2 H3 fun y H4 => ∃ acc, H4 p = some (.lst acc) ∧ acc.length < sizeLine ∧ N (upd H4 p (.lst (acc ++ [y]))) else N H3) := by
  obtain ⟨ys0, gE, e0, fin⟩ := h
  refine ⟨fun i k H => ∃ ι1 F1 g1 ws ds ys, Ex ι F ι1 F1 ∧ RelG Kt (upd Φ p (.lst ws)) ι1 F1 g1 H ∧ DVs Kt ι1 F1 ws ds ∧ ws.length + k ≤ n ∧ lcS gm t mb s k i (wipeE e own) g1 = .ok ys gE ∧ ys0 = ds ++ ys, ⟨n, ι, F, g, [], [], ys0, Ex.refl, lent S.rel hp, .nil, by simp, e0, rfl⟩, ?_⟩
  rintro i k H ⟨ι1, F1, g1, ws, ds, ys, x1, R1, rw_, hk, e1, ey⟩
  cases z : nxS s i g1 with
  | none => cases k <;> (unfold lcS at e1; rw [z] at e1; cases e1)
  | some o =>
    cases o with
    | none =>
      refine .inl ⟨hJ.stop x1 R1 z, ?_⟩
      have e2 : (Res.ok [] g1 : Res (List D)) = .ok ys gE := by cases k <;> (unfold lcS at e1; rw [z] at e1; exact e1)
      cases e2
      rw [ey, List.append_nil] at fin
      exact fin _ _ _ _ x1 R1 rw_
    | some y =>
      cases k with
      | zero => unfold lcS at e1; rw [z] at e1; cases e1
      | succ k =>
        unfold lcS at e1
        simp only [z] at e1
        obtain ⟨hg, hy⟩ := hJ.go x1 R1 z
        refine .inr ⟨hg, fun H' => ∃ ι2 F2 g2 ws2 ds2 ys2, Ex ι F ι2 F2 ∧ RelG Kt (upd Φ p (.lst ws2)) ι2 F2 g2 H' ∧ DVs Kt ι2 F2 ws2 ds2 ∧ ws2.length + k ≤ n ∧ lcS gm t mb s k (i + 1) (wipeE e own) g2 = .ok ys2 gE ∧ ys0 = ds2 ++ ys2, fun H' q => ⟨k, Nat.lt_succ_self _, q⟩, fun v H' yl => ?_⟩
        obtain ⟨ι2, F2, x2, R2, r2⟩ := hy v H' yl
        cases zg : gm y g1 (wipeE e own) with
        | none => simp only [zg] at e1; cases e1
        | some e' =>
          simp only [zg] at e1
          have S2 : St' Kt (upd Φ p (.lst ws)) ι2 F2 (wipeE e own) g1 (wipe σ own) H' := ⟨wipe_env (S.env.mono (x1.trans x2)) own, R2⟩
          refine ⟨_, ι2, F2, wipeE e own, g1, y, S2, r2, e', zg, fun σ' o S' => ⟨wipe_out' o, _, ι2, F2, e', g1, S', ?_⟩⟩
          cases zt : t e' g1 with
          | exn c g' => rw [zt] at e1; cases e1
          | stuck => rw [zt] at e1; cases e1
          | ok cb g3 =>
            rw [zt] at e1
            intro ι3 F3 H3 v3 x3 R3 ev
            obtain rfl : v3 = cb := ev
            have e1 : (bif v3 then (noX (mb e' g3)).bind fun y g2 => (lcS gm t mb s k (i + 1) (wipeE e own) g2).bind fun ys g3 => .ok (y :: ys) g3 else lcS gm t mb s k (i + 1) (wipeE e own) g3) = .ok ys gE := e1
            cases v3 with
            | false =>
              rw [if_neg Bool.false_ne_true]
              exact ⟨ι3, F3, g3, ws, ds, ys, (x1.trans x2).trans x3, R3, rw_.mono (x2.trans x3), by omega, e1, ey⟩
            | true =>
              rw [if_pos rfl]
              refine ⟨_, ι3, F3, e', g3, ⟨S'.env.mono x3, R3⟩, ?_⟩
              have e1 : ((noX (mb e' g3)).bind fun y g2 => (lcS gm t mb s k (i + 1) (wipeE e own) g2).bind fun ys g3 => .ok (y :: ys) g3) = .ok ys gE := e1
              cases zm : mb e' g3 with
              | exn c g' => rw [zm] at e1; cases e1
              | stuck => rw [zm] at e1; cases e1
              | ok dy g4 =>
                rw [zm] at e1
                intro ι4 F4 H4 v4 x4 R4 r4
                cases zl : lcS gm t mb s k (i + 1) (wipeE e own) g4 with
                | exn c g' => rw [noX_ok, Res.bind, zl] at e1; cases e1
                | stuck => rw [noX_ok, Res.bind, zl] at e1; cases e1
                | ok ys' g5 =>
                  rw [noX_ok, Res.bind, zl] at e1
                  cases e1
                  obtain ⟨R5, eH⟩ := relent (o' := .lst (ws ++ [v4])) R4
                  refine ⟨ws, eH, by rw [← line_eq]; omega, ι4, F4, g4, ws ++ [v4], ds ++ [dy], ys', ((x1.trans x2).trans x3).trans x4, R5, (rw_.mono ((x2.trans x3).trans x4)).append (.one r4), by simp; omega, zl, by rw [ey]; simp⟩
theorem lcR_S {t : TM} {s : Src} {e : En} {g : G} {ys : List D} {g' : G} (h : lcR gm t mb s e g = .ok ys g') : ∃ n, n ≤ LINE ∧ lcS gm t mb s n 0 e g = .ok ys g' := by
  unfold lcR at h
  split at h
  · rename_i xs
    split at h
    · exact ⟨xs.length, by rw [line_eq]; exact okL_iff.mp (by assumption), by rw [lcS_vals gm t mb xs xs.length 0 e g rfl]; exact h⟩
    · cases h
  · split at h
    · split at h
      · exact ⟨_, by rw [line_eq]; exact okL_iff.mp (by assumption), h⟩
      · cases h
    · cases h
theorem lcR_po {t : TM} {s : Src} {e : En} {g : G} {Φ : Hp} {σ : L2.St} {ι : List Addr} {F : Hp} {kk : List D → G → Res D} {Q : VK} (hx : ∀ c g', lcR gm t mb s e g ≠ .exn c g') (h : po Kt Φ W σ (DV Kt) ι F ((lcR gm t mb s e g).bind kk) Q) : ∃ ys g', lcR gm t mb s e g = .ok ys g' ∧ po Kt Φ W σ (DV Kt) ι F (kk ys g') Q := by
  cases z : lcR gm t mb s e g with
  | ok ys g' => rw [z] at h; exact ⟨ys, g', rfl, h⟩
  | exn c g' => exact absurd z (hx c g')
  | stuck => rw [z] at h; exact h.elim
theorem noX_ne {α : Type} {r : Res α} {c : Nat} {g : G} : noX r ≠ .exn c g := by cases r <;> simp [noX]
theorem bind_ne {α β : Type} {r : Res α} {kk : α → G → Res β} {c : Nat} {g : G} (h : ∀ c g, r ≠ .exn c g) (hk : ∀ a g', kk a g' ≠ .exn c g) : r.bind kk ≠ .exn c g := by
  cases r with
  | ok a g' => exact hk a g'
  | exn c' g' => exact absurd rfl (h c' g')
  | stuck => simp
theorem lcS_ne {t : TM} {s : Src} : ∀ {n i : Nat} {e : En} {g : G} {c : Nat} {g' : G}, lcS gm t mb s n i e g ≠ .exn c g'
  | 0, i, e, g, c, g' => by
    unfold lcS
    split <;> simp
  | n + 1, i, e, g, c, g' => by
    unfold lcS
    split
    · simp
    · simp
    · split
      · simp
      · refine bind_ne (fun _ _ => noX_ne) fun b g1 => ?_
        cases b with
        | true => exact bind_ne (fun _ _ => noX_ne) fun y g2 => bind_ne (fun _ _ => lcS_ne) fun ys g3 => by simp
        | false => exact lcS_ne
theorem lcR_ne {t : TM} {s : Src} {e : En} {g : G} (c : Nat) (g' : G) : lcR gm t mb s e g ≠ .exn c g' := by
  unfold lcR
  split
  · rename_i xs
    split
    · have := lcS_vals gm t mb xs xs.length 0 e g rfl
      rw [List.drop_zero] at this
      rw [← this]
      exact lcS_ne
    · simp
  · split
    · split
      · exact lcS_ne
      · simp
    · simp
theorem lc_te {own : List Nat} {wi : TI} {J : It} {s : Src} {Φ : Hp} {ι : List Addr} {F : Hp} {e : En} {g : G} {σ : L2.St} {H1 : Hp} {t : TM} {Q : VK} (hJ : SrcJ Kt s J ι F) (S : St' Kt Φ ι F e g σ H1)
    (h : po Kt Φ W σ (DV Kt) ι F ((lcR gm t mb s (wipeE e own) g).bind fun ys g2 => .ok (.lst ys) g2) Q ∨ po Kt Φ W σ (DV Kt) ι F ((lcR gm t mb s (wipeE e own) g).bind fun ys g2 => .ok (.ref g2.length) (g2 ++ [.lst ys])) Q) :
    ∀ p, H1 p = none → ∃ Wp : Nat → Nat → Hp → Prop, (∃ m, Wp 0 m (upd H1 p (.lst []))) ∧ ∀ i k H, Wp i k H → (J.stop i H ∧ Q (.ref p) H) ∨ (J.go i H ∧ ∃ N : Hp → Prop, (∀ H', N H' → ∃ m', m' < k ∧ Wp (i + 1) m' H') ∧ ∀ x H', J.yld i H x H' → tgt Kt own gm x (wipe σ own) H' fun σ2 H2 => wipe σ2 own = wipe σ own ∧ tt Kt WF t σ2 H2 fun b H3 =>
      if b = true then te Kt WF mb σ2 H3 fun y H4 => ∃ acc, H4 p = some (.lst acc) ∧ acc.length < sizeLine ∧ N (upd H4 p (.lst (acc ++ [y]))) else N H3) := by
  intro p hp
  have hΦ : Φ p = none := by
    cases z : Φ p with
    | none => rfl
    | some o => rw [(S.rel.fr p o z).1] at hp; cases hp
  rcases h with h | h
  · obtain ⟨ys, g', e1, h1⟩ := lcR_po lcR_ne h
    obtain ⟨n, hn, e2⟩ := lcR_S e1
    refine lc_src hJ S hp hn ⟨ys, g', e2, fun ι' F' H' ws x R r => ?_⟩
    obtain ⟨R', x'⟩ := backF R hΦ
    exact h1 _ _ _ _ (x.trans x') R' (.lst upd_same (r.mono x'))
  · obtain ⟨ys, g', e1, h1⟩ := lcR_po lcR_ne h
    obtain ⟨n, hn, e2⟩ := lcR_S e1
    refine lc_src hJ S hp hn ⟨ys, g', e2, fun ι' F' H' ws x R r => ?_⟩
    obtain ⟨R', x'⟩ := backO R hΦ r
    exact h1 _ _ _ _ (x.trans x') R' (.ref (get_snoc R.len))
section
variable {elt : Expr} {ifs : List Expr} {scope : Scope} {own : List (Str × Nat)} {t : TM}
theorem se_lc (A : At Kt X W k) (hi : PIy Kt X W tg iter im) (ok : BlkOk X.N X.env.scope scope own)
    (hg : ∀ (s : Shared) (H : Hp) (C : Addr) (cl : List (Str × Addr)) (fp : List Addr), PG (X.blk s H scope (compEnvC scope cl C X.env) fp) tg (tgt Kt (own.map (·.2)) gm))
    (ht : ∀ (s : Shared) (H : Hp) (C : Addr) (cl : List (Str × Addr)) (fp : List Addr), At Kt (X.blk s H scope (compEnvC scope cl C X.env) fp) WF k → PTs (X.blk s H scope (compEnvC scope cl C X.env) fp) ifs (tt Kt WF t))
    (he : ∀ (s : Shared) (H : Hp) (C : Addr) (cl : List (Str × Addr)) (fp : List Addr), At Kt (X.blk s H scope (compEnvC scope cl C X.env) fp) WF k → PE (X.blk s H scope (compEnvC scope cl C X.env) fp) elt (te Kt WF mb)) (hs : ∀ x, foldedSetIterable iter X.env x = pure x := by intro _; rfl) :
    PE X (.ListComp elt [⟨tg, iter, ifs, 0⟩] scope pos) (te Kt W (vLc (own.map (·.2)) im gm t mb)) := by
  obtain ⟨wi, pi, ii⟩ := hi.ex
  exact L2.PE.imp (pe_lc A.calm A.nd pi ok hg (fun s H C cl fp => ht s H C cl fp (A.blk ..)) (fun s H C cl fp => he s H C cl fp (A.blk ..)) hs) fun σ H Q ⟨Φ, ι, F, e, g, S, h⟩ => ii σ H Φ ι F e g _ S ((po.bind (Rl := RJ Kt) h).imp fun J H1 ⟨ι1, F1, g1, s, x1, R1, hJ, h1⟩ => lc_te (wi := wi) hJ ⟨S.env.mono x1, R1⟩ (.inl h1))
theorem se_lcO (A : At Kt X W k) (hi : PIy Kt X W tg iter im) (ok : BlkOk X.N X.env.scope scope own)
    (hg : ∀ (s : Shared) (H : Hp) (C : Addr) (cl : List (Str × Addr)) (fp : List Addr), PG (X.blk s H scope (compEnvC scope cl C X.env) fp) tg (tgt Kt (own.map (·.2)) gm))
    (ht : ∀ (s : Shared) (H : Hp) (C : Addr) (cl : List (Str × Addr)) (fp : List Addr), At Kt (X.blk s H scope (compEnvC scope cl C X.env) fp) WF k → PTs (X.blk s H scope (compEnvC scope cl C X.env) fp) ifs (tt Kt WF t))
    (he : ∀ (s : Shared) (H : Hp) (C : Addr) (cl : List (Str × Addr)) (fp : List Addr), At Kt (X.blk s H scope (compEnvC scope cl C X.env) fp) WF k → PE (X.blk s H scope (compEnvC scope cl C X.env) fp) elt (te Kt WF mb)) (hs : ∀ x, foldedSetIterable iter X.env x = pure x := by intro _; rfl) :
    PE X (.ListComp elt [⟨tg, iter, ifs, 0⟩] scope pos) (te Kt W (vLcO (own.map (·.2)) im gm t mb)) := by
  obtain ⟨wi, pi, ii⟩ := hi.ex
  exact L2.PE.imp (pe_lc A.calm A.nd pi ok hg (fun s H C cl fp => ht s H C cl fp (A.blk ..)) (fun s H C cl fp => he s H C cl fp (A.blk ..)) hs) fun σ H Q ⟨Φ, ι, F, e, g, S, h⟩ => ii σ H Φ ι F e g _ S ((po.bind (Rl := RJ Kt) h).imp fun J H1 ⟨ι1, F1, g1, s, x1, R1, hJ, h1⟩ => lc_te (wi := wi) hJ ⟨S.env.mono x1, R1⟩ (.inr h1))
/-- y = [..], on one line, y a local -/
theorem ss_lc (i : Nat) {y : Str} {py spos : Pos} (A : At Kt X W k) (hi : PIy Kt X W tg iter im) (ok : BlkOk X.N X.env.scope scope own)
    (hg : ∀ (s : Shared) (H : Hp) (C : Addr) (cl : List (Str × Addr)) (fp : List Addr), PG (X.blk s H scope (compEnvC scope cl C X.env) fp) tg (tgt Kt (own.map (·.2)) gm))
    (ht : ∀ (s : Shared) (H : Hp) (C : Addr) (cl : List (Str × Addr)) (fp : List Addr), At Kt (X.blk s H scope (compEnvC scope cl C X.env) fp) WF k → PTs (X.blk s H scope (compEnvC scope cl C X.env) fp) ifs (tt Kt WF t))
    (he : ∀ (s : Shared) (H : Hp) (C : Addr) (cl : List (Str × Addr)) (fp : List Addr), At Kt (X.blk s H scope (compEnvC scope cl C X.env) fp) WF k → PE (X.blk s H scope (compEnvC scope cl C X.env) fp) elt (te Kt WF mb))
    (hy : X.N[i]? = some y := by rfl) (hyl : X.env.scope.names.lookup y = some .local := by rfl)
    (hsw : swapsWith (.ListComp elt [⟨tg, iter, ifs, 0⟩] scope pos) (some (.Name y py)) spos.line X.env = pure true := by exact sw_true rfl rfl rfl (by decide +kernel))
    (hs : ∀ x, foldedSetIterable iter X.env x = pure x := by intro _; rfl) :
    PS X (.Assign [.Name y py] (.ListComp elt [⟨tg, iter, ifs, 0⟩] scope pos) spos) (ts Kt W (sAsg i (vLc (own.map (·.2)) im gm t mb))) := by
  obtain ⟨wi, pi, ii⟩ := hi.ex
  refine L2.PS.imp (ps_setLc A.calm A.nd hy hyl hsw pi ok hg (fun s H C cl fp => ht s H C cl fp (A.blk ..)) (fun s H C cl fp => he s H C cl fp (A.blk ..)) hs) fun D σ H ⟨Φ, ι, F, e, g, S, h⟩ => ?_
  have h2 := so.bind (Rl := DV Kt) S.env h
  refine ii σ H Φ ι F e g _ S ((po.bind (Rl := RJ Kt) h2).imp fun J H1 ⟨ι1, F1, g1, s, x1, R1, hJ, h1⟩ => ?_)
  exact lc_te (wi := wi) hJ ⟨S.env.mono x1, R1⟩ (.inl (h1.imp fun v H2 ⟨ι2, F2, g2, d, x2, R2, r2, h3⟩ => h3 _ _ _ _ Ex.refl ⟨(S.env.mono x2).set i r2, R2⟩))
/-- .. an object -/
theorem ss_lcO (i : Nat) {y : Str} {py spos : Pos} (A : At Kt X W k) (hi : PIy Kt X W tg iter im) (ok : BlkOk X.N X.env.scope scope own)
    (hg : ∀ (s : Shared) (H : Hp) (C : Addr) (cl : List (Str × Addr)) (fp : List Addr), PG (X.blk s H scope (compEnvC scope cl C X.env) fp) tg (tgt Kt (own.map (·.2)) gm))
    (ht : ∀ (s : Shared) (H : Hp) (C : Addr) (cl : List (Str × Addr)) (fp : List Addr), At Kt (X.blk s H scope (compEnvC scope cl C X.env) fp) WF k → PTs (X.blk s H scope (compEnvC scope cl C X.env) fp) ifs (tt Kt WF t))
    (he : ∀ (s : Shared) (H : Hp) (C : Addr) (cl : List (Str × Addr)) (fp : List Addr), At Kt (X.blk s H scope (compEnvC scope cl C X.env) fp) WF k → PE (X.blk s H scope (compEnvC scope cl C X.env) fp) elt (te Kt WF mb))
    (hy : X.N[i]? = some y := by rfl) (hyl : X.env.scope.names.lookup y = some .local := by rfl)
    (hsw : swapsWith (.ListComp elt [⟨tg, iter, ifs, 0⟩] scope pos) (some (.Name y py)) spos.line X.env = pure true := by exact sw_true rfl rfl rfl (by decide +kernel))
    (hs : ∀ x, foldedSetIterable iter X.env x = pure x := by intro _; rfl) :
    PS X (.Assign [.Name y py] (.ListComp elt [⟨tg, iter, ifs, 0⟩] scope pos) spos) (ts Kt W (sAsg i (vLcO (own.map (·.2)) im gm t mb))) := by
  obtain ⟨wi, pi, ii⟩ := hi.ex
  refine L2.PS.imp (ps_setLc A.calm A.nd hy hyl hsw pi ok hg (fun s H C cl fp => ht s H C cl fp (A.blk ..)) (fun s H C cl fp => he s H C cl fp (A.blk ..)) hs) fun D σ H ⟨Φ, ι, F, e, g, S, h⟩ => ?_
  have h2 := so.bind (Rl := DV Kt) S.env h
  refine ii σ H Φ ι F e g _ S ((po.bind (Rl := RJ Kt) h2).imp fun J H1 ⟨ι1, F1, g1, s, x1, R1, hJ, h1⟩ => ?_)
  exact lc_te (wi := wi) hJ ⟨S.env.mono x1, R1⟩ (.inr (h1.imp fun v H2 ⟨ι2, F2, g2, d, x2, R2, r2, h3⟩ => h3 _ _ _ _ Ex.refl ⟨(S.env.mono x2).set i r2, R2⟩))
end
end
end Y

set_option Elab.async false
set_option linter.all false
set_option maxRecDepth 100000
namespace Y
open PySem PySem.Spec PyProof.Rows L2

/-! ### the built-ins by their names -/
theorem bt_len : bootBuiltins "len" = some (.builtin "len") := by decide +kernel
theorem bt_abs : bootBuiltins "abs" = some (.builtin "abs") := by decide +kernel
theorem bt_max : bootBuiltins "max" = some (.builtin "max") := by decide +kernel
theorem bt_min : bootBuiltins "min" = some (.builtin "min") := by decide +kernel
theorem bt_int : bootBuiltins "int" = some (.type "int") := by decide +kernel
theorem bt_bool : bootBuiltins "bool" = some (.type "bool") := by decide +kernel
theorem bt_str : bootBuiltins "str" = some (.type "str") := by decide +kernel
theorem bt_list : bootBuiltins "list" = some (.type "list") := by decide +kernel
theorem bt_tuple : bootBuiltins "tuple" = some (.type "tuple") := by decide +kernel
section
variable {Kt : Kit} {X : Cx} {W : WX} {k : Nat} {a : Expr} {es : List Expr} {ms : AM} {p pos : Pos}
theorem se_len (A : At Kt X W k) (hm : Kt.mg "len" = none) (ha : PA X (a :: es) (ta Kt W ms)) (hg : Gl X "len" := by rfl) (he : starEach (a :: es) X.env = (false, eval a X.env) :: starEach es X.env := by rfl) (hpl : (backTo pos (starEach es X.env)).any (·.1) = false := by rfl) :
    PE X (.Call (.Name "len" p) (a :: es) [] pos) (te Kt W (vCB lenD ms)) := se_cb A (A.eK ▸ call_len) cd_len hm bt_len ha hg (by decide) (by decide) he hpl
theorem se_abs (A : At Kt X W k) (hm : Kt.mg "abs" = none) (ha : PA X (a :: es) (ta Kt W ms)) (hg : Gl X "abs" := by rfl) (he : starEach (a :: es) X.env = (false, eval a X.env) :: starEach es X.env := by rfl) (hpl : (backTo pos (starEach es X.env)).any (·.1) = false := by rfl) :
    PE X (.Call (.Name "abs" p) (a :: es) [] pos) (te Kt W (vCB absD ms)) := se_cb A call_abs cd_abs hm bt_abs ha hg (by decide) (by decide) he hpl
theorem se_max (A : At Kt X W k) (hm : Kt.mg "max" = none) (ha : PA X (a :: es) (ta Kt W ms)) (hg : Gl X "max" := by rfl) (he : starEach (a :: es) X.env = (false, eval a X.env) :: starEach es X.env := by rfl) (hpl : (backTo pos (starEach es X.env)).any (·.1) = false := by rfl) :
    PE X (.Call (.Name "max" p) (a :: es) [] pos) (te Kt W (vCB maxD ms)) := se_cb A (call_max2 A.calm) cd_max hm bt_max ha hg (by decide) (by decide) he hpl
theorem se_min (A : At Kt X W k) (hm : Kt.mg "min" = none) (ha : PA X (a :: es) (ta Kt W ms)) (hg : Gl X "min" := by rfl) (he : starEach (a :: es) X.env = (false, eval a X.env) :: starEach es X.env := by rfl) (hpl : (backTo pos (starEach es X.env)).any (·.1) = false := by rfl) :
    PE X (.Call (.Name "min" p) (a :: es) [] pos) (te Kt W (vCB minD ms)) := se_cb A (call_min2 A.calm) cd_min hm bt_min ha hg (by decide) (by decide) he hpl
theorem se_int1 (A : At Kt X W k) (hm : Kt.mg "int" = none) (ha : PA X (a :: es) (ta Kt W ms)) (hg : Gl X "int" := by rfl) (he : starEach (a :: es) X.env = (false, eval a X.env) :: starEach es X.env := by rfl) (hpl : (backTo pos (starEach es X.env)).any (·.1) = false := by rfl) :
    PE X (.Call (.Name "int" p) (a :: es) [] pos) (te Kt W (vCB intD ms)) := se_cty A call_int1 cd_int hm bt_int ha hg (by decide) (by decide) he hpl
theorem se_list (A : At Kt X W k) (hm : Kt.mg "list" = none) (ha : PA X (a :: es) (ta Kt W ms)) (hg : Gl X "list" := by rfl) (he : starEach (a :: es) X.env = (false, eval a X.env) :: starEach es X.env := by rfl) (hpl : (backTo pos (starEach es X.env)).any (·.1) = false := by rfl) :
    PE X (.Call (.Name "list" p) (a :: es) [] pos) (te Kt W (vCB listD ms)) := se_cty A (A.eK ▸ call_list_of) cd_list hm bt_list ha hg (by decide) (by decide) he hpl
theorem se_tuple (A : At Kt X W k) (hm : Kt.mg "tuple" = none) (ha : PA X (a :: es) (ta Kt W ms)) (hg : Gl X "tuple" := by rfl) (he : starEach (a :: es) X.env = (false, eval a X.env) :: starEach es X.env := by rfl) (hpl : (backTo pos (starEach es X.env)).any (·.1) = false := by rfl) :
    PE X (.Call (.Name "tuple" p) (a :: es) [] pos) (te Kt W (vCB tupleD ms)) := se_cty A (A.eK ▸ call_tuple_of) cd_tuple hm bt_tuple ha hg (by decide) (by decide) he hpl
end

/-! ### a def -/
def startE (n : Nat) (ds : List D) : En := ds.map some ++ List.replicate (n - ds.length) none
def endM (r : SR) : Res D := match r with
  | .rt d g => .ok d g
  | .nx _ g => .ok .non g
  | .exn c _ g => .exn c g
  | _ => .stuck
/-- a def with so many parameters and names -/
def fnM (n N : Nat) (m : SM) : MF := fun ds g => if ds.length = n then endM (m (startE N ds) g) else .stuck
abbrev cxM (Kt : Kit) (N : List Str) (qual : Str) (scope : Scope) (f : Addr) (cdv : Value) (A : Around) (outer : List Env) (s : Shared) (H : Hp) (E : XK) : Cx := cxOf (L2.CX Kt.P Kt.w) Kt.P Kt.w Kt.K Kt.mg Kt.base N qual scope f cdv A outer s H E
abbrev wM (E : XK) : WX := fun cls d _ H => E cls d H
theorem dvs_map {Kt : Kit} {ι : List Addr} {F : Hp} {vs : List V} {ds : List D} (r : DVs Kt ι F vs ds) (i : Nat) (d : D) (h : (ds.map some)[i]? = some (some d)) : ∃ v, (vs.map some)[i]? = some (some v) ∧ DV Kt ι F v d := by
  rw [List.getElem?_map] at h
  cases z : ds[i]? with
  | none => rw [z] at h; cases h
  | some e =>
    rw [z] at h
    cases h
    obtain ⟨v, h1, h2⟩ := r.get z
    exact ⟨v, by rw [List.getElem?_map, h1]; rfl, h2⟩
theorem env_start {Kt : Kit} {ι : List Addr} {F : Hp} {N : List Str} {vs : List V} {ds : List D} (r : DVs Kt ι F vs ds) : EnvR Kt ι F (L2.start N vs) (startE N.length ds) := by
  refine ⟨by simp [L2.start, startE, r.length], fun i d h => ?_⟩
  unfold L2.start
  unfold startE at h
  by_cases hi : i < ds.length
  · rw [List.getElem?_append_left (by simpa using hi)] at h
    rw [List.getElem?_append_left (by simpa [r.length] using hi)]
    exact dvs_map r i d h
  · rw [List.getElem?_append_right (by simpa using hi), List.getElem?_replicate] at h
    split at h <;> cases h
theorem fn_ok {Kt : Kit} {k : Nat} {x qual : Str} {params : Arguments} {body : List Stmt} {scope : Scope} {f : Addr} {fd : FuncData} {N ps : List Str} {m : SM} (F : FunD Kt.K x qual params body scope [] [] f fd) (S : FnScope N ps scope)
    (hb : ∀ (cdv : Value) (A : Around) (outer : List Env) (s : Shared) (H : Hp) (E : XK), At Kt (cxM Kt N qual scope f cdv A outer s H E) (wM E) k → PSs (cxM Kt N qual scope f cdv A outer s H E) body (ts Kt (wM E) m)) :
    FnOk Kt.P Kt.w Kt.K Kt.mg Kt.base (L2.CX Kt.P Kt.w) (k + 1) f fd ps (spM Kt ps.length (fnM ps.length N.length m)) := by
  refine F.ok S (fun vs H Q E h => h.1) (fun cdv A outer s H vs Q E hr h => ?_)
  have At0 : At Kt (cxM Kt N qual scope f cdv A outer s H E) (wM E) k := ⟨rfl, rfl, rfl, rfl, rfl, rfl, takes_of rfl rfl rfl rfl, hr, passes_of rfl, S.nd⟩
  refine ⟨_, hb cdv A outer s H E At0, ?_⟩
  obtain ⟨hn, Φ, ι, Fz, g, ds, R, r, h⟩ := h
  refine ⟨Φ, ι, Fz, startE N.length ds, g, ⟨env_start r, R⟩, ?_⟩
  unfold fnM at h
  rw [if_pos (r.length.symm.trans hn)] at h
  cases z : m (startE N.length ds) g with
  | nx e' g' => rw [z] at h; exact fun ι' F' σ' H' x S' => h _ _ _ _ x S'.rel .non
  | bk e' g' => rw [z] at h; exact h.elim
  | ct e' g' => rw [z] at h; exact h.elim
  | rt d g' => rw [z] at h; exact h
  | exn c e' g' =>
    rw [z] at h
    obtain ⟨C, hC, h⟩ := h
    exact ⟨C, hC, fun ι' F' σ' H' x S' => h _ _ _ x S'.rel⟩
  | stuck => rw [z] at h; exact h.elim

theorem fn_at {Kt : Kit} {k : Nat} {x qual : Str} {params : Arguments} {body : List Stmt} {scope : Scope} {f : Addr} {fd : FuncData} {N ps : List Str} {m : SM} (F : FunD Kt.K x qual params body scope [] [] f fd) (S : FnScope N ps scope)
    (B : ∀ (kV doc pm : Value) (an : Option Addr) (cdv ct : Value) (us : List Value), us.length = ps.length → bindArgs (PySem.W.fnOf x qual params body scope .none kV doc pm an cdv ct) ⟨us, []⟩ = pure (ps.zip us))
    (hb : ∀ (cdv : Value) (A : Around) (outer : List Env) (s : Shared) (H : Hp) (E : XK), At Kt (cxM Kt N qual scope f cdv A outer s H E) (wM E) k → PSs (cxM Kt N qual scope f cdv A outer s H E) body (ts Kt (wM E) m)) :
    FnAt Kt (k + 1) f ps.length (fnM ps.length N.length m) := ⟨fd, ps, rfl, fn_ok F S hb, F.bindsN B⟩
theorem ca_nil {Kt : Kit} {x : Str} : CA Kt [] x := fun c h => by cases h
theorem ca_cons {Kt : Kit} {x : Str} {c : Nat} {C : Addr} {cs : List Nat} (e : Kt.cls[c]? = some C) (h1 : Cls Kt.K C) (h2 : NoAttr Kt.K C x) (r : CA Kt cs x) : CA Kt (c :: cs) x := fun d hd D eD => by
  rcases List.mem_cons.mp hd with rfl | hd
  · rw [e] at eD; cases eD; exact ⟨h1, h2⟩
  · exact r d hd D eD

/-! ### the law -/
def spLaw (K : PySem.W.Frag) : Sp := fun vs H Q _ => ∃ (a : Addr) (ns : List Int), vs = [.ref a] ∧ SqL K H a (ns.map V.int) ∧ ns.length ≤ 63 ∧ ∀ H', Q (.bl true) H'
theorem dvs_ints {Kt : Kit} {ι : List Addr} {F : Hp} : ∀ ns : List Int, DVs Kt ι F (ns.map V.int) (ns.map D.int)
  | [] => .nil
  | n :: ns => .cons (.int n) (dvs_ints ns)
def Wins (mf : MF) : Prop := ∀ ns : List Int, ns.length ≤ 63 → ∃ g', mf [.scr (ns.map D.int)] [] = .ok (.bl true) g'
theorem law_sp {Kt : Kit} {mf : MF} (h : Wins mf) (vs : List V) (H : Hp) (Q : VK) (E : XK) (q : spLaw Kt.K vs H Q E) : spM Kt 1 mf vs H Q E := by
  obtain ⟨a, ns, rfl, hS, hn, hq⟩ := q
  obtain ⟨g', e⟩ := h ns hn
  have hF : SqL Kt.K (fun b => if b = a then H b else none) a (ns.map V.int) := by
    rcases hS with (z | ⟨o, z⟩) | z
    · exact .inl (.inl ((if_pos rfl).trans z))
    · exact .inl (.inr ⟨o, (if_pos rfl).trans z⟩)
    · exact .inr z
  refine ⟨rfl, fun _ => none, [], fun b => if b = a then H b else none, [], [.scr (ns.map D.int)], ⟨rfl, fun i j a h => by simp at h, fun b o h => ?_, fun i a h => by simp at h, (fun b o h => by cases h), fun l a o h => by simp at h⟩, .cons (.scr hF (dvs_ints ns)) .nil, ?_⟩
  · split at h
    · exact h
    · cases h
  · rw [e]
    intro ι' F' H' v x R r
    cases r
    exact hq H'
theorem law_end {l : PySem.W.OpenLaw} {k : Nat} {q : Program} {loose : List Str} {XP : (Str → Option Value) → Heap → Prop} {YP : World → Heap → Prop} {d : DefRec} {x : Str}
    (hn : l.most = some 63) (hdf : d.params.defaults = []) (hr : Room k callerA) (hname : d.name = ("law" : Str))
    (F : ∀ (w : World) (mg : Str → Option Value) (h : Heap), YP w h → h.Ns mainGlobals mg →
      ∃ (K : PySem.W.Frag) (f : Addr) (fd : FuncData) (mf : MF), K.In h ∧ mg "law" = some (.ref f) ∧ (∀ (s : Shared) (u : Value), BindsTo s fd ⟨[u], []⟩ [(x, u)]) ∧ Wins mf ∧
        ∀ base : Heap, K.In base → base.Ns mainGlobals mg → FnOk l.prog w K mg base (L2.CX l.prog w) k f fd [x] (spLaw K)) :
    PySem.W.WalkO q loose XP YP l.row.toRowW d [] (fun f vs => PySem.call f vs) := by
  refine Att.attach_call hn hdf ?_
  intro w s0 s1 mg mb fa o pm cd doc a vs ns G Y ho hd hcd hmg hobj hints hlen hg
  obtain ⟨K, f, fd, mf, KX, hm, hb, hw, hF⟩ := F w mg _ Y G.T.g
  rw [hname] at hmg
  rw [hm] at hmg
  cases hmg
  exact law_call (CX := L2.CX l.prog w) KX G.T.g G.T.b G.T.builtins G.T.nolimit hg hobj hints (Nat.le_trans hlen (by decide)) hr hF hb
    (fun H hO hS => ⟨a, ns, rfl, hS, hlen, fun _ => rfl⟩)
    (fun H e s' ⟨_, _, _, _, _, _, _, _, _, _, _, _, z⟩ => z)
end Y

set_option Elab.async false
set_option linter.all false
set_option maxRecDepth 100000
namespace Y
open PySem PySem.Spec PyProof.Rows L2

/-! ### exceptions of own classes -/
structure ExK (Kt : Kit) (x : Str) (c : Nat) : Prop where
  ex : ∃ C, Kt.cls[c]? = some C ∧ Kt.mg x = some (.ref C) ∧ PySem.W.excIn Kt.K C He.veBase "ValueError.__new__" = true ∧ PySem.W.keepIn Kt.K (.ref C) = true ∧ PySem.W.subIn Kt.K (.ref C) (.type "BaseException") = some true ∧ PySem.W.typeIn Kt.K (.ref C) = some (.type "type")
/-- a clause for y, at exceptions of the class numbered c; they are of the class z -/
structure CatK (Kt : Kit) (y z : Str) (c : Nat) : Prop where
  ex : ∃ Cy Cz C, Kt.mg y = some (.ref Cy) ∧ Kt.mg z = some (.ref Cz) ∧ Kt.cls[c]? = some C ∧ PySem.W.exmOne Kt.K (.ref C) (.ref Cy) = some true ∧ ExcC Kt.K C ∧ PySem.W.kitOne Kt.K (.ref C) (.ref Cz) = some true
/-- the exception class x; its instances are told to be of the class z -/
def excB (K : PySem.W.Frag) (x z : Str) : Bool :=
  He.eqO (PySem.W.findIn K (.ref (He.ga K x)) "__getattribute__") (some (some (.builtin "BaseException.__getattribute__"))) && (He.eqO (PySem.W.findIn K (.ref (He.ga K x)) "__getattr__") (some none) &&
  (decide (PySem.W.subIn K (.ref (He.ga K x)) (.type "BaseException") = some true) && (PySem.W.hasDictIn K (He.ga K x) && (He.eqO (PySem.W.findIn K (.ref (He.ga K x)) "__class__") (some (some (.builtin "object.__class__"))) &&
  (He.eqO (PySem.W.specialIn K (.builtin "object.__class__") "__get__") (some (some (.builtin "getset_descriptor.__get__"))) && (decide (PySem.W.takesIn K (.builtin "object.__class__") = some true) &&
  (decide (PySem.W.mroIn K (He.ga K x) (.type "object") = some true) && decide (PySem.W.kitOne K (.ref (He.ga K x)) (.ref (He.ga K z)) = some true))))))))
theorem excB_ok {K : PySem.W.Frag} {x z : Str} (h : excB K x z = true) : ExcC K (He.ga K x) ∧ PySem.W.kitOne K (.ref (He.ga K x)) (.ref (He.ga K z)) = some true := by
  unfold excB at h
  obtain ⟨a1, h⟩ := He.ba h
  obtain ⟨a2, h⟩ := He.ba h
  obtain ⟨a3, h⟩ := He.ba h
  obtain ⟨a4, h⟩ := He.ba h
  obtain ⟨a5, h⟩ := He.ba h
  obtain ⟨a6, h⟩ := He.ba h
  obtain ⟨a7, h⟩ := He.ba h
  obtain ⟨a8, a9⟩ := He.ba h
  exact ⟨⟨He.eqO_ok a1, He.eqO_ok a2, of_decide_eq_true a3, a4, He.eqO_ok a5, He.eqO_ok a6, of_decide_eq_true a7, of_decide_eq_true a8⟩, of_decide_eq_true a9⟩

def sRaise (c : Nat) : SM := fun e g => .exn c e g
/-- try: m, except: the exception of the class c is told as [True] -/
def sCat (c : Nat) (m : SM) : SM := fun e g => match m e g with
  | .exn c' _ g' => if c' = c then .rt (.lst [.bl true]) g' else .stuck
  | r => r
section
variable {Kt : Kit} {X : Cx} {W : WX} {k : Nat} {a b : Expr} {ma mb : EM} {pos : Pos} {es : List Expr} {ms : AM} {m : SM}
theorem pmk_own0 {x : Str} {C : Addr} {p : Pos} (q : PySem.W.excIn X.K C He.veBase "ValueError.__new__" = true) (gC : X.mg x = some (.ref C)) (kC : PySem.W.keepIn X.K (.ref C) = true) (r : Raises X (.ref C)) (hg : Gl X x)
    (hdb : (x == ("__debug__" : Str)) = false := by decide) : PMk X (.Call (.Name x p) [] [] pos) (fun _ H Q => Q (.ref C) none H) := by
  intro pins s σ H Q I h
  refine wpAny_Call_Name_kw (ld_glob I hg gC ?_ hdb)
  refine PySem.W.callWith_K0 I.kIn kC ?_
  obtain ⟨bm, N, nm, qn, bs, hdct, sn, sub, ab, col, dd, k0, k1, k2, k3, k5, mN, hC, hN, hni, T⟩ := exc_obj I.kIn q
  exact wpAny_call_exc_subT PySem.F.excBase_ValueError T hC hN hni (fun h' e hm => mk_of I hm r h (I.hok.gone hm.new)) (Nat.zero_le _)
theorem ss_raise {x : Str} {c : Nat} {p pos' : Pos} (A : At Kt X W k) (T : ExK Kt x c) (hg : Gl X x := by rfl) (hdb : (x == ("__debug__" : Str)) = false := by decide) : PS X (.Raise (some (.Call (.Name x p) [] [] pos)) none pos') (ts Kt W (sRaise c)) := by
  obtain ⟨C, hC, hm, h1, h2, h3, h4⟩ := T.ex
  refine L2.PS.imp (L2.ps_raise A.calm A.tk (pmk_own0 (A.eK ▸ h1) (A.em ▸ hm) (A.eK ▸ h2) (raises_own (A.eK ▸ h3) (A.eK ▸ h4)) hg hdb)) fun D σ H ⟨Φ, ι, F, e, g, S, h⟩ => ?_
  obtain ⟨C', hC', h⟩ := h
  rw [hC] at hC'; cases hC'
  exact h _ _ _ _ Ex.refl S
theorem At.tr {W' : WX} {pn : List (Addr × Obj)} {xe : Value → Shared → Prop} (A : At Kt X W k) (tk : Takes (X.tr pn xe) W') (p : PassesOwn (model X.prog X.w) X.A X.env xe) : At Kt (X.tr pn xe) W' k := ⟨A.eP, A.ew, A.eK, A.em, A.eb, A.calm, tk, A.room, p, A.nd⟩
theorem ss_cat (i : Nat) {c : Nat} {y z n : Str} {body : List Stmt} {np p1 p2 p3 p4 p5 p6 p7 : Pos} (A : At Kt X W k) (T : CatK Kt y z c) (hfi : Kt.mg "isinstance" = none)
    (hb : ∀ (W : WX) (pn : List (Addr × Obj)) (xe : Value → Shared → Prop), At Kt (X.tr pn xe) W k → PSs (X.tr pn xe) body (ts Kt W m))
    (hs : X.stack = X.env :: X.outer := by rfl) (hf : X.env.frame = some X.env.locals := by rfl) (hi : X.N[i]? = some n := by rfl) (hln : X.env.kindOf n = some .local := by rfl)
    (hgy : Gl X y := by rfl) (hgz : Gl X z := by rfl) (hgi : Gl X "isinstance" := by rfl) (hdy : (y == ("__debug__" : Str)) = false := by decide) (hdz : (z == ("__debug__" : Str)) = false := by decide)
    (hv : Vis X.env.scope n := by first | exact Or.inl rfl | exact Or.inr (Or.inl rfl) | exact Or.inr (Or.inr rfl)) (hdn : (n == ("__debug__" : Str)) = false := by decide) (hdc : (n == ("__classdict__" : Str)) = false := by decide) :
    PS X (.Try body [.ExceptHandler (some (.Name y np)) (some n) [.Return (some (.List [.Call (.Name "isinstance" p1) [.Name n p2, .Name z p3] [] p4] p5)) p6] p7] [] [] pos) (ts Kt W (sCat c m)) := by
  obtain ⟨Cy, Cz, C, hy, hz, hCc, k1, k2, k3⟩ := T.ex
  refine L2.PS.imp (L2.ps_try_as (ts := fun a cls d D σ H => ∃ C, cls = .ref C ∧ d = none ∧ ExcC X.K C ∧ PySem.W.kitOne X.K (.ref C) (.ref Cz) = some true ∧ (i < σ.length → σ[i]? = some (some (.ref a))) ∧ ∀ p, H p = none → D.rt (.ref p) (upd H p (.lst [.bl true])))
    (tb := fun W => ts Kt W m) (Wout := W) hs hf A.nd hi hln ⟨hgy, hdy, .inl (A.em ▸ hy)⟩ A.tk (fun W' pn xe tk ps => hb W' pn xe (A.tr tk ps)) (fun a oe cls d pn hzc hfl => ?_)) fun D σ H ⟨Φ, ι, F, e, g, S, h⟩ => ⟨Φ, ι, F, e, g, S, ?_⟩
  · refine ⟨fun pins s σ H D I ⟨C, e1, e2, h1, h2, h3, h4⟩ => ?_⟩
    subst e1 e2
    refine (pss_one (X := X.suite a ((a, oe) :: pn)) (ps_ret (pe_lst (pa_cons (pe_callB (call_isE (X := X) h1 hzc hfl) hgi (show X.mg "isinstance" = none from A.em ▸ hfi) (by decide +kernel) (pa_cons (pv i hi hv hdn hdc) (pa_cons (pe_glob (v := .ref Cz) hgz (show X.mg z = some _ from A.em ▸ hz) rfl hdz) pa_nil rfl) rfl) (by decide) (by decide) rfl rfl) pa_nil rfl)))).run pins s σ H D I ?_
    refine ⟨.ref a, h3 (by rw [I.len]; exact (List.getElem?_eq_some_iff.mp hi).1), ?_⟩
    refine ⟨.ref Cz, .ref Cz, true, rfl, fun u r => r, h2, ?_⟩
    exact ⟨by rw [sizeLine_eq]; decide, h4⟩
  · unfold sCat at h
    cases zz : m e g with
    | exn c' e' g' =>
      rw [zz] at h
      simp only at h
      split at h
      · rename_i ec
        subst ec
        refine ⟨C, hCc, fun ι' F' σ' H' x S' => ?_⟩
        refine ⟨true, A.eK ▸ k1, fun _ a ha => ⟨C, rfl, rfl, A.eK ▸ k2, A.eK ▸ k3, ?_, ?_⟩, fun q => Bool.noConfusion q⟩
        · intro hl
          rw [List.length_set] at hl
          rw [List.getElem?_set_self hl]
        · exact newL S'.rel (.one (.bl true)) fun ι2 F2 H2 v x2 R2 r2 => h ι2 F2 H2 v (x.trans x2) R2 r2
      · exact h.elim
    | nx e' g' => rw [zz] at h; exact h
    | bk e' g' => rw [zz] at h; exact h
    | ct e' g' => rw [zz] at h; exact h
    | rt d g' => rw [zz] at h; exact h
    | stuck => rw [zz] at h; exact h

end
/-! ### isinstance of own instances and a built-in type -/
def IsO (Kt : Kit) (t : Ty) (cs : List Nat) : Prop := ∀ c ∈ cs, ∀ C, Kt.cls[c]? = some C → Cls Kt.K C ∧ PySem.W.findIn Kt.K (.ref C) "__class__" = some (some (.builtin "object.__class__")) ∧
  PySem.W.specialIn Kt.K (.builtin "object.__class__") "__get__" = some (some (.builtin "getset_descriptor.__get__")) ∧ PySem.W.takesIn Kt.K (.builtin "object.__class__") = some true ∧ PySem.W.mroIn Kt.K C (.type "object") = some true ∧ PySem.W.kitOne Kt.K (.ref C) (.type t.s) = some false
def isoB (K : PySem.W.Frag) (x : Str) (t : String) : Bool :=
  He.eqO (PySem.W.findIn K (.ref (He.ga K x)) "__class__") (some (some (.builtin "object.__class__"))) && (He.eqO (PySem.W.specialIn K (.builtin "object.__class__") "__get__") (some (some (.builtin "getset_descriptor.__get__"))) &&
  (decide (PySem.W.takesIn K (.builtin "object.__class__") = some true) && (decide (PySem.W.mroIn K (He.ga K x) (.type "object") = some true) && decide (PySem.W.kitOne K (.ref (He.ga K x)) (.type t) = some false))))
theorem iso_nil {Kt : Kit} {t : Ty} : IsO Kt t [] := fun c h => by cases h
theorem iso_cons {Kt : Kit} {t : Ty} {c : Nat} {x : Str} {cs : List Nat} (e : Kt.cls[c]? = some (He.ga Kt.K x)) (h1 : Cls Kt.K (He.ga Kt.K x)) (h : isoB Kt.K x t.s = true) (r : IsO Kt t cs) : IsO Kt t (c :: cs) := fun d hd D eD => by
  rcases List.mem_cons.mp hd with rfl | hd
  · rw [e] at eD; cases eD
    unfold isoB at h
    obtain ⟨a1, h⟩ := He.ba h
    obtain ⟨a2, h⟩ := He.ba h
    obtain ⟨a3, h⟩ := He.ba h
    obtain ⟨a4, a5⟩ := He.ba h
    exact ⟨h1, He.eqO_ok a1, He.eqO_ok a2, of_decide_eq_true a3, of_decide_eq_true a4, of_decide_eq_true a5⟩
  · exact r d hd D eD
def isoD (t : Ty) (cs : List Nat) (g : G) (d : D) : Option D := match isiD t g d with
  | some x => some x
  | none => match d with
    | .ref l => match g[l]? with
      | some (.ins c _) => (match cs.contains c with
        | true => some (.bl false)
        | false => none)
      | _ => none
    | _ => none
theorem se_iso {Kt : Kit} {X : Cx} {W : WX} {k : Nat} {a : Expr} {ma : EM} {pos : Pos} {x : Str} {p p2 : Pos} (t : Ty) {cs : List Nat} (T : IsO Kt t cs) (A : At Kt X W k) (hm : Kt.mg "isinstance" = none) (hm2 : Kt.mg x = none) (hv : bootBuiltins x = some (.type t.s)) (ha : PE X a (te Kt W ma)) (hg : Gl X "isinstance" := by rfl) (hg2 : Gl X x := by rfl) (hn : x ≠ "__name__" := by decide) (hdb : (x == ("__debug__" : Str)) = false := by decide)
    (he : starEach [a, .Name x p2] X.env = (false, eval a X.env) :: starEach [.Name x p2] X.env := by rfl) (he2 : starEach [.Name x p2] X.env = (false, eval (.Name x p2) X.env) :: starEach [] X.env := by rfl) (hpl : (backTo pos (starEach [.Name x p2] X.env)).any (·.1) = false := by rfl) :
    PE X (.Call (.Name "isinstance" p) [a, .Name x p2] [] pos) (te Kt W (vUn (isoD t cs) ma)) :=
  (pe_callB (A.eK ▸ call_isi : CallR X _ (rIsi Kt.K)) hg (A.em ▸ hm) PyProof.Rows.boot_isinstance (pa_cons ha (pa_cons (pe_bltn (v := .ty t.s) hg2 (A.em ▸ hm2) hv rfl hn hdb) pa_nil he2) he) (by decide) (by decide) he hpl).imp fun σ H Q ⟨Φ, ι, F, e, g, S, h⟩ => ⟨Φ, ι, F, e, g, S, (po.bind (Rl := DV Kt) h).imp fun v H1 ⟨ι1, F1, g1, d1, x1, R1, r1, h1⟩ => by
    unfold isoD at h1
    cases z : isiD t g1 d1 with
    | some w =>
      rw [z] at h1
      unfold isiD at z
      cases z2 : tyD g1 d1 with
      | none => rw [z2] at z; cases z
      | some s => rw [z2] at z; cases z; exact ⟨v, _, _, _, _, rfl, .ty _, tyD_ok R1 r1 z2, kit_ty (Ty.kit s t), h1 _ _ _ _ Ex.refl R1 (.bl _)⟩
    | none =>
      rw [z] at h1
      simp only at h1
      split at h1
      · rename_i l
        split at h1
        · rename_i c fs e1
          split at h1
          · rename_i hc
            cases r1 with
            | @ref _ ad e2 =>
            obtain ⟨_, C, dx, gs, e3, e4, r4⟩ := R1.ob l _ _ e1 e2
            obtain ⟨c1, c2, c3, c4, c5, c6⟩ := T c (by simpa using hc) C e3
            exact ⟨_, _, _, _, _, rfl, .ty _, .base (.ins e4 c1 c2 c3 c4 c5), c6, h1 _ _ _ _ Ex.refl R1 (.bl _)⟩
          · exact h1.elim
        · exact h1.elim
      · exact h1.elim⟩
/-! ### more values -/
section
variable {Kt : Kit} {X : Cx} {W : WX} {k : Nat} {a b : Expr} {ma mb : EM} {pos : Pos} {es : List Expr} {ms : AM} {m : SM}
def vSlO (m : EM) (lo hi : Option EM) : EM := fun e g => (m e g).bind fun x g1 => (match lo with
  | none => .ok none g1
  | some a => (a e g1).bind fun d g2 => match d with
    | .int i => .ok (some i) g2
    | _ => .stuck : Res (Option Int)).bind fun l g3 => (match hi with
  | none => .ok none g3
  | some a => (a e g3).bind fun d g2 => match d with
    | .int i => .ok (some i) g2
    | _ => .stuck : Res (Option Int)).bind fun u g4 => match lsD g4 x with
  | some ds => .ok (.ref g4.length) (g4 ++ [.lst (cutD ds l u)])
  | none => .stuck
/-- a slice of a list that is an object -/
theorem se_slO {lo hi : Option Expr} {ml mh : Option EM} {p2 : Pos} (A : At Kt X W k) (ha : PE X a (te Kt W ma)) (hl : PSl Kt X W lo ml) (hh : PSl Kt X W hi mh) : PE X (.Subscript a (.Slice lo hi none p2) pos) (te Kt W (vSlO ma ml mh)) := by
  obtain ⟨tl, pl, il⟩ := hl.ex
  obtain ⟨th, ph, ih⟩ := hh.ex
  refine (pe_slice (A.eK ▸ sl_list : SlR X (rSlL Kt.K)) ha pl ph).imp fun σ H Q ⟨Φ, ι, F, e, g, S, h⟩ => ⟨Φ, ι, F, e, g, S, (po.bind (Rl := DV Kt) h).imp fun v H1 ⟨ι1, F1, g1, d1, x1, R1, r1, h1⟩ => ?_⟩
  refine il σ H1 Φ ι1 F1 e g1 _ ⟨S.env.mono x1, R1⟩ ((po.bind (Rl := RO Kt) h1).imp fun v2 H2 ⟨ι2, F2, g2, d2, x2, R2, r2, h2⟩ => ?_)
  refine ih σ H2 Φ ι2 F2 e g2 _ ⟨S.env.mono (x1.trans x2), R2⟩ ((po.bind (Rl := RO Kt) h2).imp fun v3 H3 ⟨ι3, F3, g3, d3, x3, R3, r3, h3⟩ => ?_)
  obtain rfl : v2 = d2 := r2
  obtain rfl : v3 = d3 := r3
  cases z : lsD g3 d1 with
  | none => rw [z] at h3; exact h3.elim
  | some ds =>
    rw [z] at h3
    obtain ⟨ad, vs, rfl, e1, r4⟩ := lsD_ok R3 (r1.mono (x2.trans x3)) z
    exact ⟨_, _, rfl, .inl (.inl e1), newO R3 (r4.cut v2 v3) h3⟩
/-- bools of a list -/
def bls : List D → Option (List Bool)
  | [] => some []
  | .bl b :: r => (bls r).map (b :: ·)
  | _ => none
theorem bls_ok {ι : List Addr} {F : Hp} : ∀ {vs : List V} {ds : List D} {bs : List Bool}, DVs Kt ι F vs ds → bls ds = some bs → vs = bs.map V.bl
  | _, _, _, .nil, h => by cases h; rfl
  | _, _, bs, .cons (d := d) r1 r2, h => by
    cases r1 with
    | bl b =>
      unfold bls at h
      cases z : bls _ with
      | none => rw [z] at h; cases h
      | some cs => rw [z] at h; cases h; rw [bls_ok r2 z]; rfl
    | _ => simp [bls] at h
def allD (g : G) (ds : List D) : Option D := match ds with
  | [d] => match lsD g d with
    | some xs => (bls xs).map fun bs => .bl (bs.all id)
    | none => none
  | _ => none
def anyD (g : G) (ds : List D) : Option D := match ds with
  | [d] => match lsD g d with
    | some xs => (bls xs).map fun bs => .bl (bs.any id)
    | none => none
  | _ => none
theorem cd_all : CrD Kt (rAll Kt.K) allD := by
  intro Φ ι F g H xs ds z R hv h Q q
  unfold allD at h
  split at h
  · cases hv with
    | cons r1 r2 =>
    cases r2
    split at h
    · rename_i ys e
      cases zb : bls ys with
      | none => rw [zb] at h; cases h
      | some bs =>
        rw [zb] at h; cases h
        obtain ⟨ad, vs, rfl, e1, r⟩ := lsD_ok R r1 e
        have := bls_ok r zb
        subst this
        exact ⟨ad, bs, rfl, .inl (.inl e1), q _ _ _ _ Ex.refl R (.bl _)⟩
    · cases h
  · cases h
theorem cd_any : CrD Kt (rAny Kt.K) anyD := by
  intro Φ ι F g H xs ds z R hv h Q q
  unfold anyD at h
  split at h
  · cases hv with
    | cons r1 r2 =>
    cases r2
    split at h
    · rename_i ys e
      cases zb : bls ys with
      | none => rw [zb] at h; cases h
      | some bs =>
        rw [zb] at h; cases h
        obtain ⟨ad, vs, rfl, e1, r⟩ := lsD_ok R r1 e
        have := bls_ok r zb
        subst this
        exact ⟨ad, bs, rfl, .inl (.inl e1), q _ _ _ _ Ex.refl R (.bl _)⟩
    · cases h
  · cases h
theorem bt_all : bootBuiltins "all" = some (.builtin "all") := by decide +kernel
theorem bt_any : bootBuiltins "any" = some (.builtin "any") := by decide +kernel
theorem se_all {p : Pos} (A : At Kt X W k) (hm : Kt.mg "all" = none) (ha : PA X (a :: es) (ta Kt W ms)) (hg : Gl X "all" := by rfl) (he : starEach (a :: es) X.env = (false, eval a X.env) :: starEach es X.env := by rfl) (hpl : (backTo pos (starEach es X.env)).any (·.1) = false := by rfl) :
    PE X (.Call (.Name "all" p) (a :: es) [] pos) (te Kt W (vCB allD ms)) := se_cb A (A.eK ▸ cr_all A.calm) cd_all hm bt_all ha hg (by decide) (by decide) he hpl
theorem se_any {p : Pos} (A : At Kt X W k) (hm : Kt.mg "any" = none) (ha : PA X (a :: es) (ta Kt W ms)) (hg : Gl X "any" := by rfl) (he : starEach (a :: es) X.env = (false, eval a X.env) :: starEach es X.env := by rfl) (hpl : (backTo pos (starEach es X.env)).any (·.1) = false := by rfl) :
    PE X (.Call (.Name "any" p) (a :: es) [] pos) (te Kt W (vCB anyD ms)) := se_cb A (A.eK ▸ cr_any A.calm) cd_any hm bt_any ha hg (by decide) (by decide) he hpl
end
end Y

set_option Elab.async false
set_option linter.all false
set_option maxRecDepth 100000
namespace Y
open PySem PySem.Spec PyProof.Rows L2 PySem.MeetsSeq
/-! ### o.remove(e), e and the items data -/
/-- the list at l, and what == says of its items and x -/
def RmP (l : Addr) (vs : Array Value) (n : Nat) (x : Value) (q : Value → Bool) (A : Around) (s : Shared) : Prop :=
  s.heap.get? l = some { cls := .type "list", dict := none, data := .seq vs n, slots := #[] } ∧ ∀ y, y ∈ vs → SeqAt.EqAt A.in1 s y x (q y)
theorem rm_loop (l : Addr) (vs : Array Value) (n : Nat) (x : Value) (q : Value → Bool) (j : Nat) (lt : j < vs.size) (yes : q vs[j] = true) (z : vs.size ≤ sizeLine) (m : Nat) : ∀ i : Nat, i + m = j → (∀ c (hc : c < vs.size), c < j → q vs[c] = false) →
    Meets (Builtin.«list.remove.loop» ⟨[.ref l, x, rawInt i], []⟩) (fun A R s => RmP l vs n x q A s ∧ R (.ok (.ret .none)) { s with heap := s.heap.update l (Obj.mapSeq fun u => u.eraseIdxIfInBounds j) }) := by
  induction m with
  | zero =>
    intro i ei no prog w A R s ⟨⟨hl, he⟩, hr⟩
    obtain ⟨hp, gs, dr, tk, os⟩ := s
    obtain rfl : i = j := ei
    wp_walk using wpAny_loadPart' hl
    rw [show vs[((i : Nat) : Int).toNat]? = some vs[i] by simp [lt]]
    refine wpAny_bind (he _ (Array.getElem_mem lt) prog w _ _ ?_)
    rw [yes]
    have zz : (vs.eraseIdxIfInBounds i).size ≤ sizeLine + 1 := Nat.le_trans (size_erased vs _) (Nat.le_succ_of_le z)
    wp_walk using (wpAny_updateSeq hl rfl (hz := z) (_hz' := zz)), wpAny_loadPart' hl
    simpa using hr
  | succ m ih =>
    intro i ei no prog w A R s ⟨⟨hl, he⟩, hr⟩
    obtain ⟨hp, gs, dr, tk, os⟩ := s
    have lt' : i < vs.size := by omega
    wp_walk using wpAny_loadPart' hl
    rw [show vs[((i : Nat) : Int).toNat]? = some vs[i] by simp [lt']]
    refine wpAny_bind (he _ (Array.getElem_mem lt') prog w _ _ ?_)
    rw [no i lt' (by omega)]
    wp_walk
    rw [show ((i : Int) + 1) = ((i + 1 : Nat) : Int) by push_cast; rfl]
    exact ⟨plainId_quiet plain_remove_loop _, codeAny_builtin entry_remove_loop (by
      rw [Around.under_plainId plain_remove_loop _]
      exact ih (i + 1) (by omega) no prog w A R _ ⟨⟨hl, he⟩, hr⟩)⟩
theorem rm_meets (l : Addr) (vs : Array Value) (n : Nat) (x : Value) (q : Value → Bool) (j : Nat) (lt : j < vs.size) (yes : q vs[j] = true) (z : vs.size ≤ sizeLine) (no : ∀ c (hc : c < vs.size), c < j → q vs[c] = false) :
    Meets (Builtin.«list.remove» ⟨[.ref l, x], []⟩) (fun A R s => RmP l vs n x q A s ∧ R (.ok (.ret .none)) { s with heap := s.heap.update l (Obj.mapSeq fun u => u.eraseIdxIfInBounds j) }) := by
  intro prog w A R s ⟨⟨hl, he⟩, hr⟩
  obtain ⟨hp, gs, dr, tk, os⟩ := s
  wp_walk using wpAny_loadPart' hl
  exact ⟨plainId_quiet plain_remove_loop _, codeAny_builtin entry_remove_loop (by
    rw [Around.under_plainId plain_remove_loop _]
    exact rm_loop l vs n x q j lt yes z j 0 (Nat.zero_add j) no prog w A R _ ⟨⟨hl, he⟩, hr⟩)⟩
def rRemD (K : PySem.W.Frag) : V → List V → Hp → VK → Prop := fun x xs H Q => ∃ l vs y d ds j e, x = .ref l ∧ xs = [y] ∧ H l = some (.lst vs) ∧ Dp K H y d ∧ Dp K H (.ref l) (.list ds) ∧ SeqAt.shaped d = true ∧ PyData.canLayAll0 ds = true ∧
  ds[j]? = some e ∧ PyData.eqv e d = true ∧ (∀ m e', m < j → ds[m]? = some e' → PyData.eqv e' d = false) ∧ Q .non (upd H l (.lst (vs.eraseIdx j)))
theorem mt_removeD {X : Cx} (hu : X.A.units + 65 < cLine) : MtM X "list.remove" (rRemD X.K) := by
  intro pins s σ H x xs v us Q I rx rxs h
  obtain ⟨l, vs, y, d, ds, j, e, rfl, rfl, hH, hd, hds, sd, sds, hj, hje, hno, q⟩ := h
  cases rx
  obtain ⟨u, rfl, ru⟩ := rxs.one
  obtain ⟨z, its, n, r, hl, e0⟩ := I.lstM hH
  obtain ⟨as, rd⟩ := Dp.reads I d y u hd ru
  obtain ⟨bs, rl⟩ := Dp.reads I (.list ds) (.ref l) (.ref l) hds rfl
  have key : ∃ cs, ReadsAll s.heap its ds cs := by
    cases rl with
    | list h1 h2 h3 h4 =>
      rw [e0] at h1
      cases h1
      cases h3
      exact ⟨_, by simpa using h4⟩
  obtain ⟨cs, ra⟩ := key
  have rm := SeqAt.readsAll_map ds its cs sds ra
  have hq : ∀ m, m < its.length → ds[m]? = its[m]?.map (SeqAt.readOf s.heap) := fun m _ => by rw [← rm, List.getElem?_map]
  have hjd : j < ds.length := (List.getElem?_eq_some_iff.mp hj).1
  have hlen : ds.length = its.length := by rw [← rm, List.length_map]
  have hji : j < its.toArray.size := by rw [List.size_toArray]; omega
  refine call_meets PySem.F.slot_list_remove ⟨_, e0, rfl⟩ PySem.F.entry_list_remove (PySem.F.args_list_remove_2 _ _)
    (rm_meets l its.toArray n u (fun y => PyData.eqv (SeqAt.readOf s.heap y) d) j hji ?_ (by rw [List.size_toArray]; omega) ?_) ⟨⟨e0, ?_⟩, ?_⟩
  · have h1 := hq j (by omega)
    rw [hj, List.getElem?_eq_getElem (by omega)] at h1
    have h2 := Option.some.inj h1
    simp only [List.getElem_toArray]
    rw [← h2]
    exact hje
  · intro c hc hcj
    have hc' : c < its.length := by simpa using hc
    have h1 := hq c hc'
    rw [List.getElem?_eq_getElem hc'] at h1
    simp only [List.getElem_toArray]
    exact hno c _ hcj h1
  · exact SeqAt.items_eqAt (vs := its.toArray) (by simpa using ra) rd sds (SeqAt.canLay_of_shaped sd) (room_in_shaped sd hu)
  · refine ⟨.non, _, I.lset (its' := its.eraseIdx j) hH e0 ?_ (r.eraseIdx j) ?_, rfl, q⟩
    · show its.toArray.eraseIdxIfInBounds j = (its.eraseIdx j).toArray
      rw [List.eraseIdxIfInBounds_toArray]
    · have := List.length_eraseIdx_le vs j
      omega

def vRem (o m : EM) : EM := fun e g => (o e g).bind fun d g1 => match lsD g1 d with
  | none => .stuck
  | some _ => (m e g1).bind fun y g2 => match d with
    | .ref l => match g2[l]? with
      | some (.lst ds) => (match pud 7 y && ds.all (pud 7), ds.findIdx? (fun z => deq z y) with
        | true, some j => .ok .non (g2.set l (.lst (ds.eraseIdx j)))
        | _, _ => .stuck)
      | _ => .stuck
    | _ => .stuck
def vPopI (o m : EM) : EM := fun e g => (o e g).bind fun d g1 => match lsD g1 d with
  | none => .stuck
  | some _ => (m e g1).bind fun y g2 => match d, y with
    | .ref l, .int i => match g2[l]? with
      | some (.lst ds) => (match rB i, ixN ds.length i with
        | true, some j => match ds[j]? with
          | some z => .ok z (g2.set l (.lst (ds.eraseIdx j)))
          | none => .stuck
        | _, _ => .stuck)
      | _ => .stuck
    | _, _ => .stuck
section
variable {Kt : Kit} {X : Cx} {W : WX} {k : Nat} {a b c : Expr} {ma mb mc : EM} {pos : Pos} {es : List Expr} {ms : AM}
theorem pys_get {T : List Str} : ∀ {ds : List D} {j : Nat}, (pys T ds)[j]? = ds[j]?.map (py T)
  | [], j => by simp [pys]
  | d :: ds, 0 => by simp [pys]
  | d :: ds, j + 1 => by simp [pys, pys_get (ds := ds) (j := j)]
theorem inTs_get {T : List Str} : ∀ {ds : List D} {j : Nat} {d : D}, inTs T ds → ds[j]? = some d → inT T d
  | [], _, _, _, h => by simp at h
  | d :: ds, 0, e, i, h => by
    unfold inTs at i
    simp at h; subst h; exact i.1
  | d :: ds, j + 1, e, i, h => by
    unfold inTs at i
    exact inTs_get i.2 (by simpa using h)
theorem se_rem {p : Pos} (A : At Kt X W k) (ho : PE X a (te Kt W ma)) (hm : PE X b (te Kt W mb)) (hbase : attributeBase a "remove" X.env (eval a X.env) = eval a X.env := by rfl)
    (hfew : ((backTo pos (starEach [b] X.env)).all (fun x => !x.1) && (backToKw pos (keywordEach [] X.env)).all (fun x => x.1.isSome)
      && decide ([b].length + ([] : List Keyword).length + (if ([] : List Keyword).isEmpty then 0 else 1) < 30)) = true := by rfl)
    (hline : (p.endLine == pos.line) = true := by rfl) (hs : starEach [b] X.env = (false, eval b X.env) :: starEach [] X.env := by rfl) (hplain : (backTo pos (starEach [] X.env)).any (·.1) = false := by rfl) :
    PE X (.Call (.Attribute a "remove" p) [b] [] pos) (te Kt W (vRem ma mb)) := by
  have h := pe_bm (cpos := pos) (apos := p) PySem.F.plainAttrs_list PySem.F.slot_list_remove PySem.F.type_list_remove (mt_removeD A.hu) ho (pa_cons hm pa_nil hs) hbase hfew hline hs hplain
  rw [A.eK] at h
  refine L2.PE.imp h fun σ H Q ⟨Φ, ι, F, e, g, S, h⟩ => ⟨Φ, ι, F, e, g, S, (po.bind (Rl := DV Kt) h).imp fun v H1 ⟨ι1, F1, g1, d, x1, R1, r1, h1⟩ => ?_⟩
  split at h1
  · exact h1.elim
  · rename_i ds0 e0
    refine ⟨tyV_l R1 r1 e0, Φ, ι1, F1, e, g1, ⟨S.env.mono x1, R1⟩, (po.bind (Rl := DV Kt) h1).imp fun v2 H2 ⟨ι2, F2, g2, y, x2, R2, r2, h2⟩ => ?_⟩
    split at h2
    · rename_i l
      split at h2
      · rename_i ds e1
        split at h2
        · rename_i j hc hj
          cases r1 with
          | @ref _ ad e2 =>
          obtain ⟨hF, vs, e3, r4⟩ := R2.ob _ _ _ e1 (x2.i _ _ e2)
          rw [Bool.and_eq_true, List.all_eq_true] at hc
          obtain ⟨hc1, hc2⟩ := hc
          obtain ⟨hjl, hj1, hj2⟩ := List.findIdx?_eq_some_iff_getElem.mp hj
          have gj : ds[j]? = some ds[j] := List.getElem?_eq_getElem hjl
          have eqs : ∀ m d', ds[m]? = some d' → PyData.eqv (py Kt.tab d') (py Kt.tab y) = deq d' y := fun m d' hm => deq_py Kt.nd d' y 7 7 (hc2 _ (List.mem_of_getElem? hm)) hc1 (inTs_get r4.inTs hm) r2.inT
          refine ⟨ad, vs, v2, py Kt.tab y, pys Kt.tab ds, j, py Kt.tab ds[j], rfl, rfl, e3, r2.dp R2 7 hc1, .lst (.inl (.inl e3)) (r4.dp R2 7 hc2), py_shaped Kt.sk hc1 (by decide), pys_lay Kt.sk ds, ?_, ?_, ?_, h2 _ _ _ _ Ex.refl (R2.put (x2.i _ _ e2) hF ⟨hF, _, upd_same, r4.eraseIdx j⟩) .non⟩
          · rw [pys_get, gj]; rfl
          · rw [eqs j _ gj]; exact hj1
          · intro m e' hm he
            rw [pys_get] at he
            have hml : m < ds.length := by omega
            rw [List.getElem?_eq_getElem hml] at he
            cases he
            rw [eqs m _ (List.getElem?_eq_getElem hml)]
            simpa using hj2 m hm
        · exact h2.elim
      · exact h2.elim
    · exact h2.elim
theorem se_popI {p : Pos} (A : At Kt X W k) (ho : PE X a (te Kt W ma)) (hm : PE X b (te Kt W mb)) (hbase : attributeBase a "pop" X.env (eval a X.env) = eval a X.env := by rfl)
    (hfew : ((backTo pos (starEach [b] X.env)).all (fun x => !x.1) && (backToKw pos (keywordEach [] X.env)).all (fun x => x.1.isSome)
      && decide ([b].length + ([] : List Keyword).length + (if ([] : List Keyword).isEmpty then 0 else 1) < 30)) = true := by rfl)
    (hline : (p.endLine == pos.line) = true := by rfl) (hs : starEach [b] X.env = (false, eval b X.env) :: starEach [] X.env := by rfl) (hplain : (backTo pos (starEach [] X.env)).any (·.1) = false := by rfl) :
    PE X (.Call (.Attribute a "pop" p) [b] [] pos) (te Kt W (vPopI ma mb)) := by
  have h := pe_bm (cpos := pos) (apos := p) PySem.F.plainAttrs_list PySem.F.slot_list_pop PySem.F.type_list_pop mt_popAt ho (pa_cons hm pa_nil hs) hbase hfew hline hs hplain
  rw [A.eK] at h
  refine L2.PE.imp h fun σ H Q ⟨Φ, ι, F, e, g, S, h⟩ => ⟨Φ, ι, F, e, g, S, (po.bind (Rl := DV Kt) h).imp fun v H1 ⟨ι1, F1, g1, d, x1, R1, r1, h1⟩ => ?_⟩
  split at h1
  · exact h1.elim
  · rename_i ds0 e0
    refine ⟨tyV_l R1 r1 e0, Φ, ι1, F1, e, g1, ⟨S.env.mono x1, R1⟩, (po.bind (Rl := DV Kt) h1).imp fun v2 H2 ⟨ι2, F2, g2, y, x2, R2, r2, h2⟩ => ?_⟩
    split at h2
    · rename_i l i _
      split at h2
      · rename_i ds e1
        split at h2
        · rename_i j hr hj
          have hr := rB_ok hr
          split at h2
          · rename_i z hz
            cases r1 with
            | @ref _ ad e2 =>
            cases r2
            obtain ⟨hF, vs, e3, r4⟩ := R2.ob _ _ _ e1 (x2.i _ _ e2)
            obtain ⟨w, w1, w2⟩ := r4.get hz
            obtain ⟨q1, q2, q3, q4⟩ := ixN_seq hj
            refine ⟨ad, vs, i, j, w, rfl, rfl, e3, ?_, ?_, by rw [r4.length]; exact q1, w1, h2 _ _ _ _ Ex.refl (R2.put (x2.i _ _ e2) hF ⟨hF, _, upd_same, r4.eraseIdx j⟩) w2⟩
            · omega
            · omega
          · exact h2.elim
        · exact h2.elim
      · exact h2.elim
    · exact h2.elim

/-! ### sorted(xs) of ints -/
def insI (x : Int) : List Int → List Int
  | [] => [x]
  | y :: r => if x ≤ y then x :: y :: r else y :: insI x r
def srtI : List Int → List Int
  | [] => []
  | x :: r => insI x (srtI r)
theorem insI_perm (x : Int) : ∀ l : List Int, (insI x l).Perm (x :: l)
  | [] => .refl _
  | y :: r => by
    unfold insI
    split
    · exact .refl _
    · exact ((insI_perm x r).cons y).trans (.swap x y r)
theorem srtI_perm : ∀ l : List Int, (srtI l).Perm l
  | [] => .refl _
  | x :: r => (insI_perm x (srtI r)).trans ((srtI_perm r).cons x)
theorem insI_srt (x : Int) : ∀ l : List Int, l.Pairwise (· ≤ ·) → (insI x l).Pairwise (· ≤ ·)
  | [], _ => by simp [insI]
  | y :: r, h => by
    unfold insI
    rw [List.pairwise_cons] at h
    split
    · rename_i hx
      refine List.pairwise_cons.mpr ⟨fun z hz => ?_, List.pairwise_cons.mpr h⟩
      rcases List.mem_cons.mp hz with rfl | hz
      · exact hx
      · exact Int.le_trans hx (h.1 z hz)
    · rename_i hx
      refine List.pairwise_cons.mpr ⟨fun z hz => ?_, insI_srt x r h.2⟩
      rcases List.mem_cons.mp ((insI_perm x r).mem_iff.mp hz) with rfl | hz
      · omega
      · exact h.1 z hz
theorem srtI_srt : ∀ l : List Int, (srtI l).Pairwise (· ≤ ·)
  | [] => List.Pairwise.nil
  | x :: r => insI_srt x _ (srtI_srt r)
theorem srt_one : ∀ {a b : List Int}, a.Perm b → a.Pairwise (· ≤ ·) → b.Pairwise (· ≤ ·) → a = b
  | [], b, h, _, _ => (List.Perm.nil_eq h)
  | x :: a, [], h, _, _ => absurd h.length_eq (by simp)
  | x :: a, y :: b, h, ha, hb => by
    rw [List.pairwise_cons] at ha hb
    have e : x = y := by
      have h1 : x ∈ y :: b := h.mem_iff.mp List.mem_cons_self
      have h2 : y ∈ x :: a := h.mem_iff.mpr List.mem_cons_self
      rcases List.mem_cons.mp h1 with e | h1
      · exact e
      · rcases List.mem_cons.mp h2 with e | h2
        · exact e.symm
        · have := hb.1 x h1
          have := ha.1 y h2
          omega
    subst e
    rw [srt_one (List.Perm.cons_inv h) ha.2 hb.2]
def intsD : List D → Option (List Int)
  | [] => some []
  | .int i :: r => (intsD r).map (i :: ·)
  | _ => none
theorem intsD_ok {ι : List Addr} {F : Hp} : ∀ {vs : List V} {ds : List D} {bs : List Int}, DVs Kt ι F vs ds → intsD ds = some bs → vs = bs.map V.int
  | _, _, _, .nil, h => by cases h; rfl
  | _, _, bs, .cons (d := d) r1 r2, h => by
    cases r1 with
    | int b =>
      unfold intsD at h
      cases z : intsD _ with
      | none => rw [z] at h; cases h
      | some cs => rw [z] at h; cases h; rw [intsD_ok r2 z]; rfl
    | _ => simp [intsD] at h
def sortedD (g : G) (ds : List D) : Option D := match ds with
  | [d] => match lsD g d with
    | some xs => match intsD xs with
      | some ns => (match Nat.blt ns.length 64 with
        | true => some (.lst ((srtI ns).map D.int))
        | false => none)
      | none => none
    | none => none
  | _ => none
theorem dvs_intsM {ι : List Addr} {F : Hp} : ∀ ns : List Int, DVs Kt ι F (ns.map V.int) (ns.map D.int)
  | [] => .nil
  | n :: ns => .cons (.int n) (dvs_intsM ns)
theorem cd_sorted : CrD Kt (rSorted Kt.K) sortedD := by
  intro Φ ι F g H xs ds z R hv h Q q
  unfold sortedD at h
  split at h
  · cases hv with
    | cons r1 r2 =>
    cases r2
    split at h
    · rename_i ys e
      split at h
      · rename_i ns e2
        split at h
        · rename_i hl
          cases h
          obtain ⟨ad, vs, rfl, e1, r⟩ := lsD_ok R r1 e
          have := intsD_ok r e2
          subst this
          refine ⟨ad, ns, rfl, .inl (.inl e1), by simpa [Nat.blt_eq] using hl, fun ns' p hp hs hn => ?_⟩
          have e3 := srt_one (hp.trans (srtI_perm ns).symm) hs (srtI_srt ns)
          subst e3
          exact newL R (dvs_intsM _) q p hn
        · cases h
      · cases h
    · cases h
  · cases h
theorem bt_sorted : bootBuiltins "sorted" = some (.builtin "sorted") := by decide +kernel
theorem se_sorted {p : Pos} (A : At Kt X W k) (hm : Kt.mg "sorted" = none) (ha : PA X (a :: es) (ta Kt W ms)) (hg : Gl X "sorted" := by rfl) (he : starEach (a :: es) X.env = (false, eval a X.env) :: starEach es X.env := by rfl) (hpl : (backTo pos (starEach es X.env)).any (·.1) = false := by rfl) :
    PE X (.Call (.Name "sorted" p) (a :: es) [] pos) (te Kt W (vCB sortedD ms)) := se_cb A (A.eK ▸ cr_sorted) cd_sorted hm bt_sorted ha hg (by decide) (by decide) he hpl

/-! ### o[i] += e, o a list of its own, an int there -/
def sAugI (o i m : EM) : SM := fun e g => sBind (o e g) e fun d g1 => sBind (i e g1) e fun j g2 => match d, j with
  | .ref l, .int j => match g2[l]? with
    | some (.lst ds) => (match decide (0 ≤ j), rB j, ixN ds.length j with
      | true, true, some n => match ds[n]? with
        | some (.int z) => sBind (m e g2) e fun y g3 => match y with
          | .int w => match g3[l]? with
            | some (.lst ds') => (match ixN ds'.length j with
              | some n' => .nx e (g3.set l (.lst (ds'.set n' (.int (z + w)))))
              | none => .stuck)
            | _ => .stuck
          | _ => .stuck
        | _ => .stuck
      | _, _, _ => .stuck)
    | _ => .stuck
  | _, _ => .stuck
def rGetL (K : PySem.W.Frag) : V → V → Hp → VK → Prop := fun x y H Q => ∃ p xs i j v, x = .ref p ∧ y = .int i ∧ H p = some (.lst xs) ∧ 0 ≤ i ∧ i < 2 ^ 62 ∧ ixN xs.length i = some j ∧ xs[j]? = some v ∧ Q v H
theorem get_list1 : PGet X (rGetL X.K) := by
  intro pins s σ H o i ov iv Q I ro ri h
  obtain ⟨p, xs, k, j, v, rfl, rfl, hp, h0, hb, hj, hv, q⟩ := h
  cases ro
  obtain ⟨t, rfl⟩ := ri
  obtain ⟨its, r, pl, hz⟩ := I.list (.inl (.inl hp))
  obtain ⟨h1, h2, h3, h4⟩ := ixN_seq hj
  obtain ⟨w, ew, rw'⟩ := r.get hv
  have hk : k.toNat = j := by
    rw [seqIndex_of h0 h4] at h1
    exact Option.some.inj h1
  exact wpAny_getItem_list pl.isList h0 (by omega) (by rw [hk]; simpa using ew) ⟨v, H, I, rw', q⟩
theorem ss_augI {tpos : Pos} (A : At Kt X W k) (ho : PE X a (te Kt W ma)) (hi : PE X b (te Kt W mb)) (he : PE X c (te Kt W mc))
    (hx : ∀ ov iv new, augStore b ov iv new = (do holding [new, ov, iv] (setItem ov iv new); release [new, ov, iv] []; pure .next) := by intros; rfl) : PS X (.AugAssign (.Subscript a b tpos) .Add c pos) (ts Kt W (sAugI ma mb mc)) := by
  have h := ps_augS (pos := pos) (tpos := tpos) ho hi get_list1 he ip_add set_list hx
  refine L2.PS.imp h fun D σ H ⟨Φ, ι, F, e, g, S, h⟩ => ⟨Φ, ι, F, e, g, S, (so.bind (Rl := DV Kt) S.env h).imp fun v H1 ⟨ι1, F1, g1, d, x1, R1, r1, h1⟩ =>
    ⟨Φ, ι1, F1, e, g1, ⟨S.env.mono x1, R1⟩, (so.bind (Rl := DV Kt) (S.env.mono x1) h1).imp fun v2 H2 ⟨ι2, F2, g2, d2, x2, R2, r2, h2⟩ => ?_⟩⟩
  split at h2
  · rename_i l j _
    split at h2
    · rename_i ds e1
      split at h2
      · rename_i n h0 hr hn
        split at h2
        · rename_i z hz
          cases r1 with
          | @ref _ ad e2 =>
          cases r2
          have hr := rB_ok hr
          obtain ⟨hF, vs, e3, r4⟩ := R2.ob _ _ _ e1 (x2.i _ _ e2)
          obtain ⟨w, w1, w2⟩ := r4.get hz
          cases w2
          refine ⟨ad, vs, j, n, _, rfl, rfl, e3, of_decide_eq_true h0, by omega, by rw [r4.length]; exact hn, w1, Φ, ι2, F2, e, g2, ⟨S.env.mono (x1.trans x2), R2⟩, (so.bind (Rl := DV Kt) (S.env.mono (x1.trans x2)) h2).imp fun v3 H3 ⟨ι3, F3, g3, d3, x3, R3, r3, h3⟩ => ?_⟩
          split at h3
          · cases r3
            split at h3
            · rename_i ds' e5
              split at h3
              · rename_i n' hn'
                obtain ⟨hF', vs', e6, r6⟩ := R3.ob _ _ _ e5 ((x2.trans x3).i _ _ e2)
                exact ⟨_, _, rfl, rfl, ad, vs', j, n', rfl, rfl, e6, by rw [r6.length]; exact hn', h3 _ _ _ _ Ex.refl ⟨S.env.mono ((x1.trans x2).trans x3), R3.put ((x2.trans x3).i _ _ e2) hF' ⟨hF', _, upd_same, DVs.set (.int _) n' r6⟩⟩⟩
              · exact h3.elim
            · exact h3.elim
          · exact h3.elim
        · exact h2.elim
      · exact h2.elim
    · exact h2.elim
  · exact h2.elim
end
end Y

set_option Elab.async false
set_option linter.all false
set_option maxRecDepth 100000
/-! Y: dicts: of the top (texts to ints), and dicts that change (keys ints and texts, or tuples of these). -/
namespace Y
open PySem PySem.Spec PyProof.Rows L2
/-! ### pairs -/
def lkp : List (D × D) → D → Option D
  | [], _ => none
  | p :: r, d => bif deq p.1 d then some p.2 else lkp r d
def putp (kvs : List (D × D)) (d e : D) : List (D × D) := bif kvs.any fun p => deq p.1 d then kvs.map fun p => bif deq p.1 d then (p.1, e) else p else kvs ++ [(d, e)]
def dropp (kvs : List (D × D)) (d : D) : List (D × D) := kvs.filter fun p => !deq p.1 d
def kyD : D → Bool
  | .int _ => true
  | .str _ => true
  | _ => false
def isKey : Bool → D → Bool
  | false, d => kyD d
  | true, .tup ds => ds.all kyD
  | _, _ => false
/-- what a dict holds: none: not known; some none: no such key -/
def dcG (g : G) (x k : D) : Option (Option D) := match x with
  | .dic (q :: ks) vs => (match k with
    | .str m => some ((dicG (q :: ks) vs m).map .int)
    | _ => none)
  | .ref l => (match g[l]? with
    | some (.dct t kvs) => (match isKey t k with
      | true => some (lkp kvs k)
      | false => none)
    | _ => none)
  | _ => none
def isDc (g : G) (x : D) : Bool := match x with
  | .dic (_ :: _) _ => true
  | .ref l => (match g[l]? with
    | some (.dct _ _) => true
    | _ => false)
  | _ => false
def inC (neg : Bool) : OpT := fun g x y => (dcG g y x).map fun o => .bl (o.isSome != neg)
def ixC : OpT := fun g x y => (dcG g x y).bind fun o => o
def vDGet (o : EM) (ms : AM) : EM := fun e g => (o e g).bind fun x g1 => match isDc g1 x with
  | false => .stuck
  | true => (ms e g1).bind fun ys g2 => match ys with
    | [y] => (match dcG g2 x y with
      | some q => .ok (q.getD .non) g2
      | none => .stuck)
    | [y, z] => (match x with
      | .ref l => (match dcG g2 (.ref l) y with
        | some q => .ok (q.getD z) g2
        | none => .stuck)
      | _ => .stuck)
    | _ => .stuck
def vDPop (o : EM) (ms : AM) : EM := fun e g => (o e g).bind fun x g1 => match isDc g1 x with
  | false => .stuck
  | true => (ms e g1).bind fun ys g2 => match x with
    | .ref l => (match g2[l]? with
      | some (.dct false kvs) => (match ys with
        | [y] => (match kyD y, lkp kvs y with
          | true, some v => .ok v (g2.set l (.dct false (dropp kvs y)))
          | _, _ => .stuck)
        | [y, z] => (match kyD y, lkp kvs y with
          | true, some v => .ok v (g2.set l (.dct false (dropp kvs y)))
          | true, none => .ok z g2
          | _, _ => .stuck)
        | _ => .stuck)
      | _ => .stuck)
    | _ => .stuck
def sSubC (o i m : EM) : SM := fun e g => sBind (m e g) e fun z g1 => sBind (o e g1) e fun x g2 => sBind (i e g2) e fun y g3 => match x with
  | .ref l => (match g3[l]? with
    | some (.dct t kvs) => (match isKey t y && ltL kvs.length with
      | true => .nx e (g3.set l (.dct t (putp kvs y z)))
      | false => .stuck)
    | _ => .stuck)
  | _ => .stuck
def vDct0 (t : Bool) : EM := fun _ g => .ok (.ref g.length) (g ++ [.dct t []])

section
variable {Kt : Kit} {Φ : Hp} {ι : List Addr} {F H : Hp} {g : G}
theorem ky_ex {v : V} {d : D} (r : DV Kt ι F v d) (h : kyD d = true) : ∃ k : Key, v = kV k := by
  cases r with
  | int i => exact ⟨.inl i, rfl⟩
  | str e => exact ⟨.inr _, rfl⟩
  | _ => cases h
theorem kys_ex : ∀ {vs : List V} {ds : List D}, DVs Kt ι F vs ds → ds.all kyD = true → ∃ k : List Key, vs = k.map kV
  | _, _, .nil, _ => ⟨[], rfl⟩
  | _, _, .cons r t, h => by
    rw [List.all_cons, Bool.and_eq_true] at h
    obtain ⟨k, e⟩ := ky_ex r h.1
    obtain ⟨ks, es⟩ := kys_ex t h.2
    exact ⟨k :: ks, by rw [e, es, List.map_cons]⟩
theorem key_deq {k j : Key} {d e : D} (h : DV Kt ι F (kV k) d) (q : DV Kt ι F (kV j) e) : deq d e = decide (k = j) := by
  cases k with
  | inl a =>
    have h : DV Kt ι F (V.int a) d := h
    cases h
    cases j with
    | inl b =>
      have q : DV Kt ι F (V.int b) e := q
      cases q
      simp only [deq]
      rw [Bool.eq_iff_iff]
      simp
    | inr y =>
      have q : DV Kt ι F (V.str y) e := q
      cases q
      simp [deq]
  | inr x =>
    have h : DV Kt ι F (V.str x) d := h
    cases h with
    | str h1 =>
    cases j with
    | inl b =>
      have q : DV Kt ι F (V.int b) e := q
      cases q
      simp [deq]
    | inr y =>
      have q : DV Kt ι F (V.str y) e := q
      cases q with
      | str h2 =>
      simp only [deq]
      rw [Bool.eq_iff_iff]
      simp only [beq_iff_eq, decide_eq_true_eq]
      constructor
      · intro e
        subst e
        rw [h1] at h2
        cases h2
        rfl
      · intro e
        cases e
        exact tab_inj h1 h2
theorem keys_deq : ∀ {k j : List Key} {d e : List D}, DVs Kt ι F (k.map kV) d → DVs Kt ι F (j.map kV) e → deqs d e = decide (k = j)
  | [], [], _, _, .nil, .nil => by simp [deqs]
  | [], b :: j, _, _, .nil, .cons _ _ => by simp [deqs]
  | a :: k, [], _, _, .cons _ _, .nil => by simp [deqs]
  | a :: k, b :: j, _, _, .cons h r, .cons q s => by
    simp only [deqs]
    rw [key_deq h q, keys_deq r s, Bool.eq_iff_iff]
    simp
def oRel (Kt : Kit) (ι : List Addr) (F : Hp) (o : Option D) (q : Option V) : Prop := match o with
  | some e => ∃ v, q = some v ∧ DV Kt ι F v e
  | none => q = none
theorem KR.find {us : List (Key × V)} {kvs : List (D × D)} (r : KR Kt ι F us kvs) {k : Key} {d : D} (hd : DV Kt ι F (kV k) d) : oRel Kt ι F (lkp kvs d) (valV us k) := by
  induction r with
  | nil => rfl
  | @cons j v d' e r s hk hv t ih =>
    unfold lkp
    rw [key_deq hk hd]
    by_cases z : j = k
    · rw [decide_eq_true z]
      exact ⟨v, valV_pos z, hv⟩
    · rw [decide_eq_false z, valV_neg z]
      exact ih
theorem KRT.find {us : List (List Key × V)} {kvs : List (D × D)} (r : KRT Kt ι F us kvs) {k : List Key} {ds : List D} (hd : DVs Kt ι F (k.map kV) ds) : oRel Kt ι F (lkp kvs (.tup ds)) (valV us k) := by
  induction r with
  | nil => rfl
  | @cons j v d' e r s hk hv t ih =>
    unfold lkp
    rw [show deq (.tup d') (.tup ds) = decide (j = k) by simp only [deq]; exact keys_deq hk hd]
    by_cases z : j = k
    · rw [decide_eq_true z]
      exact ⟨v, valV_pos z, hv⟩
    · rw [decide_eq_false z, valV_neg z]
      exact ih
theorem KR.any {us : List (Key × V)} {kvs : List (D × D)} (r : KR Kt ι F us kvs) {k : Key} {d : D} (hd : DV Kt ι F (kV k) d) : (us.any fun p => decide (p.1 = k)) = kvs.any fun p => deq p.1 d := by
  induction r with
  | nil => rfl
  | cons hk hv t ih => rw [List.any_cons, List.any_cons, ih, key_deq hk hd]
theorem KRT.any {us : List (List Key × V)} {kvs : List (D × D)} (r : KRT Kt ι F us kvs) {k : List Key} {ds : List D} (hd : DVs Kt ι F (k.map kV) ds) : (us.any fun p => decide (p.1 = k)) = kvs.any fun p => deq p.1 (.tup ds) := by
  induction r with
  | nil => rfl
  | cons hk hv t ih => rw [List.any_cons, List.any_cons, ih, show deq (.tup _) (.tup ds) = _ by simp only [deq]; exact keys_deq hk hd]
theorem KR.map {us : List (Key × V)} {kvs : List (D × D)} (r : KR Kt ι F us kvs) {k : Key} {d e : D} {v : V} (hd : DV Kt ι F (kV k) d) (he : DV Kt ι F v e) :
    KR Kt ι F (us.map fun p => if p.1 = k then (p.1, v) else p) (kvs.map fun p => bif deq p.1 d then (p.1, e) else p) := by
  induction r with
  | nil => exact .nil
  | @cons j x d' e' r s hk hv t ih =>
    rw [List.map_cons, List.map_cons, key_deq hk hd]
    by_cases z : j = k
    · rw [if_pos z, decide_eq_true z]
      exact .cons hk he ih
    · rw [if_neg z, decide_eq_false z]
      exact .cons hk hv ih
theorem KRT.map {us : List (List Key × V)} {kvs : List (D × D)} (r : KRT Kt ι F us kvs) {k : List Key} {ds : List D} {e : D} {v : V} (hd : DVs Kt ι F (k.map kV) ds) (he : DV Kt ι F v e) :
    KRT Kt ι F (us.map fun p => if p.1 = k then (p.1, v) else p) (kvs.map fun p => bif deq p.1 (.tup ds) then (p.1, e) else p) := by
  induction r with
  | nil => exact .nil
  | @cons j x d' e' r s hk hv t ih =>
    rw [List.map_cons, List.map_cons, show deq (.tup d') (.tup ds) = decide (j = k) by simp only [deq]; exact keys_deq hk hd]
    by_cases z : j = k
    · rw [if_pos z, decide_eq_true z]
      exact .cons hk he ih
    · rw [if_neg z, decide_eq_false z]
      exact .cons hk hv ih
theorem KR.append {us ws : List (Key × V)} {kvs lvs : List (D × D)} (r : KR Kt ι F us kvs) (s : KR Kt ι F ws lvs) : KR Kt ι F (us ++ ws) (kvs ++ lvs) := by
  induction r with
  | nil => exact s
  | cons hk hv t ih => exact .cons hk hv ih
theorem KRT.append {us ws : List (List Key × V)} {kvs lvs : List (D × D)} (r : KRT Kt ι F us kvs) (s : KRT Kt ι F ws lvs) : KRT Kt ι F (us ++ ws) (kvs ++ lvs) := by
  induction r with
  | nil => exact s
  | cons hk hv t ih => exact .cons hk hv ih
theorem KR.put {us : List (Key × V)} {kvs : List (D × D)} (r : KR Kt ι F us kvs) {k : Key} {d e : D} {v : V} (hd : DV Kt ι F (kV k) d) (he : DV Kt ι F v e) : KR Kt ι F (putK us k v) (putp kvs d e) := by
  unfold putK putp
  rw [r.any hd]
  cases kvs.any fun p => deq p.1 d with
  | true => exact r.map hd he
  | false => exact r.append (.cons hd he .nil)
theorem KRT.put {us : List (List Key × V)} {kvs : List (D × D)} (r : KRT Kt ι F us kvs) {k : List Key} {ds : List D} {e : D} {v : V} (hd : DVs Kt ι F (k.map kV) ds) (he : DV Kt ι F v e) : KRT Kt ι F (putK us k v) (putp kvs (.tup ds) e) := by
  unfold putK putp
  rw [r.any hd]
  cases kvs.any fun p => deq p.1 (.tup ds) with
  | true => exact r.map hd he
  | false => exact r.append (.cons hd he .nil)
theorem KR.drop {us : List (Key × V)} {kvs : List (D × D)} (r : KR Kt ι F us kvs) {k : Key} {d : D} (hd : DV Kt ι F (kV k) d) : KR Kt ι F (dropK us k) (dropp kvs d) := by
  unfold dropK dropp
  induction r with
  | nil => exact .nil
  | @cons j v d' e r s hk hv t ih =>
    rw [List.filter_cons, List.filter_cons]
    simp only [key_deq hk hd]
    by_cases z : j = k
    · simp only [z, ne_eq, not_true_eq_false, decide_false, decide_true, Bool.not_true, Bool.false_eq_true, if_false]
      exact ih
    · simp only [z, ne_eq, not_false_eq_true, decide_false, decide_true, Bool.not_false, if_true]
      exact .cons hk hv ih
theorem KR.length {us : List (Key × V)} {kvs : List (D × D)} (r : KR Kt ι F us kvs) : us.length = kvs.length := by
  induction r with
  | nil => rfl
  | cons hk hv t ih => rw [List.length_cons, List.length_cons, ih]
theorem KRT.length {us : List (List Key × V)} {kvs : List (D × D)} (r : KRT Kt ι F us kvs) : us.length = kvs.length := by
  induction r with
  | nil => rfl
  | cons hk hv t ih => rw [List.length_cons, List.length_cons, ih]
/-- what a dict holds, seen in the heap -/
theorem dcG_obj (R : RelG Kt Φ ι F g H) {l : Nat} {x y : V} {k : D} {o : Option D} (hx : DV Kt ι F x (.ref l)) (hy : DV Kt ι F y k) (h : dcG g (.ref l) k = some o) :
    ∃ a q, x = .ref a ∧ DGet H a y q ∧ oRel Kt ι F o q := by
  cases hx with
  | @ref _ a e1 =>
  unfold dcG at h
  simp only at h
  cases z : g[l]? with
  | none => rw [z] at h; cases h
  | some ob =>
    rw [z] at h
    cases ob with
    | dct t kvs =>
      simp only at h
      cases hk : isKey t k with
      | false => rw [hk] at h; cases h
      | true =>
        rw [hk] at h
        cases h
        have ob := R.ob _ _ _ z e1
        cases t with
        | false =>
          obtain ⟨hF, us, e2, r⟩ := ob
          obtain ⟨j, rfl⟩ := ky_ex hy hk
          exact ⟨a, valV us j, rfl, .inl ⟨us, j, .inl e2, rfl, rfl⟩, r.find hy⟩
        | true =>
          obtain ⟨hF, us, e2, r⟩ := ob
          cases hy with
          | @tup b vs ds f1 r1 =>
            obtain ⟨j, rfl⟩ := kys_ex r1 hk
            exact ⟨a, valV us j, rfl, .inr ⟨us, j, b, .inl e2, rfl, R.sub _ _ f1, rfl⟩, r.find r1⟩
          | _ => cases hk
    | _ => cases h
def kRel (o : Option D) (r : Option Value) : Prop := match o with
  | some e => ∃ i t, e = .int i ∧ r = some (.int i t)
  | none => r = none
theorem dcG_kd {ks vs : List D} {q : D} {x y : V} {k : D} {o : Option D} (hx : DV Kt ι F x (.dic (q :: ks) vs)) (hy : DV Kt ι F y k) (h : dcG g (.dic (q :: ks) vs) k = some o) :
    ∃ a es n z r, x = .ref a ∧ y = .str z ∧ KDict Kt.K Kt.w a es n ∧ PySem.W.nsIn Kt.K a z = some r ∧ kRel o r := by
  cases hx with
  | dic hd =>
  obtain ⟨⟨es, n, hd⟩, hv⟩ := hd
  unfold dcG at h
  simp only at h
  cases hy with
  | @str m z e =>
    cases h
    obtain ⟨r, h1, h2⟩ := hv m z e
    refine ⟨_, es, n, z, r, rfl, rfl, hd, h1, ?_⟩
    cases w : dicG (q :: ks) vs m with
    | none => rw [w] at h2; exact h2
    | some i =>
      rw [w] at h2
      obtain ⟨t, h2⟩ := h2
      exact ⟨i, t, rfl, h2⟩
  | _ => cases h
end
/-! ### in, not in, [ ] -/
def rInC (K : PySem.W.Frag) (w : World) (neg : Bool) : R2 := fun x y H Q => (∃ a o, y = .ref a ∧ DGet H a x o ∧ Q (.bl (o.isSome != neg)) H) ∨
  ∃ a es n z r, x = .str z ∧ y = .ref a ∧ KDict K w a es n ∧ PySem.W.nsIn K a z = some r ∧ Q (.bl (r.isSome != neg)) H
theorem op_inC {X : Cx} (hu : X.A.units + 65 < cLine) : OpR X (compareOp .In) (rInC X.K X.w false) := by
  intro pins s σ H x y v u Q I rx ry h
  rcases h with ⟨a, o, rfl, dg, q⟩ | ⟨a, es, n, z, r, rfl, rfl, kd, hn, q⟩
  · cases ry
    exact d_in (by omega) I dg rx fun s' I' => ⟨.bl o.isSome, H, I', rfl, by simpa using q⟩
  · exact op_in_kd kd pins s σ H _ _ v u Q I rx ry ⟨z, r, rfl, rfl, hn, by simpa using q⟩
theorem op_notInC {X : Cx} (hu : X.A.units + 65 < cLine) : OpR X (compareOp .NotIn) (rInC X.K X.w true) := by
  intro pins s σ H x y v u Q I rx ry h
  rcases h with ⟨a, o, rfl, dg, q⟩ | ⟨a, es, n, z, r, rfl, rfl, kd, hn, q⟩
  · cases ry
    exact d_notIn (by omega) I dg rx fun s' I' => ⟨.bl (!o.isSome), H, I', rfl, by simpa using q⟩
  · exact op_notIn_kd kd pins s σ H _ _ v u Q I rx ry ⟨z, r, rfl, rfl, hn, by simpa using q⟩
theorem od_inC {Kt : Kit} {neg : Bool} : OpD Kt (rInC Kt.K Kt.w neg) (inC neg) := by
  intro Φ ι F g H x y d e z R hx hy h Q q
  unfold inC at h
  cases w : dcG g e d with
  | none => rw [w] at h; cases h
  | some o =>
    rw [w] at h
    cases h
    cases e with
    | dic ks vs =>
      cases ks with
      | nil => cases w
      | cons k ks =>
        obtain ⟨a, es, n, z, r, rfl, rfl, kd, hn, hr⟩ := dcG_kd hy hx w
        have e : r.isSome = o.isSome := by
          cases o with
          | none => rw [show r = none from hr]; rfl
          | some e => obtain ⟨i, t, _, rfl⟩ := hr; rfl
        exact .inr ⟨a, es, n, z, r, rfl, rfl, kd, hn, by rw [e]; exact q _ _ _ _ Ex.refl R (.bl _)⟩
    | ref l =>
      obtain ⟨a, p, rfl, dg, hp⟩ := dcG_obj R hy hx w
      have e : p.isSome = o.isSome := by
        cases o with
        | none => rw [show p = none from hp]; rfl
        | some e => obtain ⟨v, rfl, _⟩ := hp; rfl
      exact .inl ⟨a, p, rfl, dg, by rw [e]; exact q _ _ _ _ Ex.refl R (.bl _)⟩
    | _ => cases w
def rIxC (K : PySem.W.Frag) (w : World) : R2 := fun x y H Q => (∃ a v, x = .ref a ∧ DGet H a y (some v) ∧ Q v H) ∨ rIxD K w x y H Q
theorem ix_dct {X : Cx} (hu : X.A.units + 65 < cLine) : IxR X (rIxC X.K X.w) := by
  intro value slice pins s σ H x y v u Q I rx ry h hs
  rcases h with ⟨a, r, rfl, dg, q⟩ | h
  · cases rx
    exact tail_any (dict_typeIs I dg) PySem.F.slot_dict_getitem.lookup (d_getItem (by omega) I dg ry fun w' s' I' rw' => ⟨r, H, I', rw', q⟩) hs
  · exact ix_kdict value slice pins s σ H x y v u Q I rx ry h hs
theorem od_ixC {Kt : Kit} : OpD Kt (rIxC Kt.K Kt.w) ixC := by
  intro Φ ι F g H x y d e z R hx hy h Q q
  unfold ixC at h
  cases w : dcG g d e with
  | none => rw [w] at h; cases h
  | some o =>
    rw [w] at h
    have h : o = some z := h
    subst h
    cases d with
    | dic ks vs =>
      cases ks with
      | nil => cases w
      | cons k ks =>
        obtain ⟨a, es, n, y', r, rfl, rfl, kd, hn, i, t, rfl, rfl⟩ := dcG_kd hx hy w
        exact .inr ⟨a, y', .int i, rfl, rfl, ⟨es, n, _, kd.at_, kd.lit, hn, t, rfl⟩, q _ _ _ _ Ex.refl R (.int _)⟩
    | ref l =>
      obtain ⟨a, p, rfl, dg, v, rfl, r1⟩ := dcG_obj R hx hy w
      exact .inl ⟨a, v, rfl, dg, q _ _ _ _ Ex.refl R r1⟩
    | _ => cases w
section
variable {Kt : Kit} {X : Cx} {W : WX} {k : Nat} {a b c : Expr} {ma mb mc : EM} {pos : Pos} {es : List Expr} {ms : AM}
theorem cm_inC (A : At Kt X W k) : Cmp Kt X .In (inC false) := ⟨_, (A.eK ▸ A.ew ▸ op_inC A.hu : OpR X _ (rInC Kt.K Kt.w false)), od_inC⟩
theorem cm_notinC (A : At Kt X W k) : Cmp Kt X .NotIn (inC true) := ⟨_, (A.eK ▸ A.ew ▸ op_notInC A.hu : OpR X _ (rInC Kt.K Kt.w true)), od_inC⟩
theorem se_ixC (A : At Kt X W k) (ha : PE X a (te Kt W ma)) (hb : PE X b (te Kt W mb)) (hs : PlainIx b := by intro _ _; rfl) : PE X (.Subscript a b pos) (te Kt W (vOp ixC ma mb)) :=
  (pe_ix (A.eK ▸ A.ew ▸ ix_dct A.hu : IxR X (rIxC Kt.K Kt.w)) ha hb hs).imp fun _ _ _ => te_op od_ixC
/-! ### d[k] = v -/
def rSetC : V → V → V → Hp → (Hp → Prop) → Prop := fun o i v H Q => ∃ a H', o = .ref a ∧ DPut H a i v H' ∧ Q H'
theorem set_dct {X : Cx} (hu : X.A.units + 65 < cLine) : PSet X rSetC := by
  intro pins s σ H o i v ov iv u Q I ro ri rv h
  obtain ⟨a, H', rfl, dp, q⟩ := h
  cases ro
  exact d_setItem (by omega) I dp ri rv fun s' I' => ⟨H', I', q⟩
theorem dct_put {Φ : Hp} {ι : List Addr} {F H : Hp} {g : G} (R : RelG Kt Φ ι F g H) {l : Nat} {ad : Addr} {t : Bool} {kvs : List (D × D)} {i v : V} {d z : D} (e1 : g[l]? = some (.dct t kvs)) (e2 : ι[l]? = some ad) (hi : DV Kt ι F i d) (hv : DV Kt ι F v z) (hk : isKey t d = true) (hl : ltL kvs.length = true) :
    ∃ H', DPut H ad i v H' ∧ RelG Kt Φ ι F (g.set l (.dct t (putp kvs d z))) H' := by
  have ob := R.ob _ _ _ e1 e2
  have hl := ltL_iff.mp hl
  cases t with
  | false =>
    obtain ⟨hF, us, e3, r⟩ := ob
    obtain ⟨j, rfl⟩ := ky_ex hi hk
    exact ⟨_, .k e3 (by rw [r.length]; exact hl), R.put e2 hF ⟨hF, _, upd_same, r.put hi hv⟩⟩
  | true =>
    obtain ⟨hF, us, e3, r⟩ := ob
    cases hi with
    | @tup b vs ds f1 r1 =>
      obtain ⟨j, rfl⟩ := kys_ex r1 hk
      exact ⟨_, .t e3 (R.sub _ _ f1) (by rw [r.length]; exact hl), R.put e2 hF ⟨hF, _, upd_same, r.put r1 hv⟩⟩
    | _ => cases hk
theorem ss_subC (A : At Kt X W k) (ha : PE X a (te Kt W ma)) (hb : PE X b (te Kt W mb)) (hc : PE X c (te Kt W mc)) {p : Pos}
    (h0 : ∀ v, assign (.Subscript a b p) X.env v = (do
      let ov ← holding [v] (eval a X.env)
      let iv ← holding [v, ov] (eval b X.env)
      standAt p
      holding [v, ov, iv] (setItem ov iv v)
      release [v, ov, iv] []) := by intro _; rfl)
    (hs : swapsWithSole [.Subscript a b p] c pos.line X.env = pure false := by rfl) (hw : swappedStores [.Subscript a b p] c X.env = pure none := by rfl) (h1 : (assignEach [.Subscript a b p] X.env).map (·.2) = [assign (.Subscript a b p) X.env] := by rfl) :
    PS X (.Assign [.Subscript a b p] c pos) (ts Kt W (sSubC ma mb mc)) :=
  L2.PS.imp (ps_asg hc (pg_sub ha hb (set_dct A.hu) h0) hs hw h1) fun D σ H ⟨Φ, ι, F, e, g, S, h⟩ => ⟨Φ, ι, F, e, g, S, (so.bind (Rl := DV Kt) S.env h).imp fun v H1 ⟨ι1, F1, g1, d, x1, R1, r1, h1⟩ =>
    ⟨Φ, ι1, F1, e, g1, ⟨S.env.mono x1, R1⟩, (so.bind (Rl := DV Kt) (S.env.mono x1) h1).imp fun v2 H2 ⟨ι2, F2, g2, d2, x2, R2, r2, h2⟩ =>
      ⟨Φ, ι2, F2, e, g2, ⟨S.env.mono (x1.trans x2), R2⟩, (so.bind (Rl := DV Kt) (S.env.mono (x1.trans x2)) h2).imp fun v3 H3 ⟨ι3, F3, g3, d3, x3, R3, r3, h3⟩ => by
        split at h3
        · rename_i l
          split at h3
          · rename_i t kvs e1
            split at h3
            · rename_i hh
              rw [Bool.and_eq_true] at hh
              cases r2 with
              | @ref _ ad e2 =>
              obtain ⟨H', dp, R'⟩ := dct_put R3 e1 (x3.i _ _ e2) r3 (r1.mono (x2.trans x3)) hh.1 hh.2
              exact ⟨ad, H', rfl, dp, h3 _ _ _ _ Ex.refl ⟨S.env.mono ((x1.trans x2).trans x3), R'⟩⟩
            · exact h3.elim
          · exact h3.elim
        · exact h3.elim⟩⟩⟩
/-! ### {} -/
theorem newD {Φ : Hp} {ι : List Addr} {F H : Hp} {g : G} (R : RelG Kt Φ ι F g H) {p : Addr} (hp : H p = none) (t : Bool) : ∃ u, (u = match t with
    | false => HO.dK []
    | true => HO.dT []) ∧ RelG Kt Φ (ι ++ [p]) F (g ++ [.dct t []]) (upd H p u) ∧ Ex ι F (ι ++ [p]) F := by
  have fp : F p = none := by
    cases e : F p with
    | none => rfl
    | some u => rw [R.sub p u e] at hp; cases hp
  refine ⟨_, rfl, R.new hp (fun a o h => by rw [upd_ne (ne_of_none h hp)]; exact h) (by rw [upd_same]; simp) ?_⟩
  cases t with
  | false => exact ⟨fp, [], upd_same, .nil⟩
  | true => exact ⟨fp, [], upd_same, .nil⟩
theorem se_dct0 (t : Bool) : PE X (.Dict [] [] pos) (te Kt W (vDct0 t)) := by
  cases t with
  | false =>
    refine L2.PE.imp pe_dnewK fun σ H Q ⟨Φ, ι, F, e, g, S, h⟩ p hp => ?_
    obtain ⟨u, rfl, R, x⟩ := newD S.rel hp false
    exact h _ _ _ _ x R (.ref (get_snoc S.rel.len))
  | true =>
    refine L2.PE.imp pe_dnewT fun σ H Q ⟨Φ, ι, F, e, g, S, h⟩ p hp => ?_
    obtain ⟨u, rfl, R, x⟩ := newD S.rel hp true
    exact h _ _ _ _ x R (.ref (get_snoc S.rel.len))
/-! ### d.get, d.pop -/
def isDK (K : PySem.W.Frag) (w : World) (x : V) (H : Hp) : Prop := ∃ a, x = .ref a ∧ (IsD H a ∨ ∃ es n, KDict K w a es n)
def tDM (K : PySem.W.Frag) (w : World) (r : V → List V → Hp → VK → Prop) (to : TE) (t : TA) : TE := fun σ H Q => to σ H fun x H1 => isDK K w x H1 ∧ t σ H1 fun xs H2 => r x xs H2 Q
theorem isDK_at {X : Cx} {pins : List (Addr × Obj)} {σ : L2.St} {H : Hp} {s : Shared} {x : V} {u : Value} (I : Inv X pins σ H s) (r : RelV x u) (d : isDK X.K X.w x H) :
    s.TypeIs u "dict" ∧ ∀ b, u = .ref b → ∃ ob, s.heap.get? b = some ob ∧ ob.dict = none := by
  obtain ⟨a, rfl, d | ⟨es, n, d⟩⟩ := d
  · cases r
    obtain ⟨h1, h2, _⟩ := isD_at I d
    exact ⟨h1, h2⟩
  · cases r
    refine ⟨kd_type d I, fun b q => ?_⟩
    cases q
    exact ⟨_, I.kIn _ _ d.at_, rfl⟩
theorem pe_dm {o e : Expr} {es : List Expr} {to : TE} {t : TA} {name : Str} {apos cpos : Pos} {id : String} {r : V → List V → Hp → VK → Prop} (slot : Slot "dict" name id) (hty : typeOf (.builtin id) = pure (.type "method_descriptor")) (hm : MtR X id r) (ho : PE X o to) (ha : PA X (e :: es) t)
    (hbase : attributeBase o name X.env (eval o X.env) = eval o X.env)
    (hfew : ((backTo cpos (starEach (e :: es) X.env)).all (fun x => !x.1) && (backToKw cpos (keywordEach [] X.env)).all (fun x => x.1.isSome)
      && decide ((e :: es).length + ([] : List Keyword).length + (if ([] : List Keyword).isEmpty then 0 else 1) < 30)) = true)
    (hline : (apos.endLine == cpos.line) = true) (hs : starEach (e :: es) X.env = (false, eval e X.env) :: starEach es X.env) (hplain : (backTo cpos (starEach es X.env)).any (·.1) = false) :
    PE X (.Call (.Attribute o name apos) (e :: es) [] cpos) (tDM X.K X.w r to t) := by
  refine ⟨fun pins s σ H Q I h => ?_⟩
  refine wpAny_Call_method_late hbase hfew hline rfl (thn (ho.run pins s σ H _ I h) fun v s1 ⟨x, H1, I1, r1, ty, q1⟩ => ?_)
  obtain ⟨h1, h2⟩ := isDK_at I1 r1 ty
  refine ⟨"dict", id, PySem.F.plainAttrs_dict, slot, hty, h1, h2, ?_⟩
  have hA := ha.run cpos pins s1 σ H1 _ I1 q1
  rw [hs] at hA ⊢
  refine Calls.callWith_builtin (by show (false || (backTo cpos (starEach es X.env)).any (·.1)) = false; rw [hplain] <;> rfl) (Calls.evalArgs_plain ?_)
  exact thn hA fun us s2 ⟨vs, H2, I2, r2, q2⟩ => hm pins s2 σ H2 x vs v us Q I2 r1 r2 q2
def rDGet (K : PySem.W.Frag) (w : World) : V → List V → Hp → VK → Prop := fun x xs H Q => ∃ a, x = .ref a ∧ ((∃ y o, xs = [y] ∧ DGet H a y o ∧ Q (o.getD .non) H) ∨ (∃ y z o, xs = [y, z] ∧ DGet H a y o ∧ Q (o.getD z) H) ∨
  ∃ es n t r v, xs = [.str t] ∧ KDict K w a es n ∧ PySem.W.nsIn K a t = some r ∧ RelV v (r.getD .none) ∧ Q v H)
theorem mt_dget {X : Cx} (hu : X.A.units + 65 < cLine) : MtR X "dict.get" (rDGet X.K X.w) := by
  intro pins s σ H x xs v us Q I rx rxs h
  obtain ⟨a, rfl, ⟨y, o, rfl, dg, q⟩ | ⟨y, z, o, rfl, dg, q⟩ | ⟨es, n, t, r, y, rfl, kd, hn, rv, q⟩⟩ := h
  · cases rx
    obtain ⟨u, rfl, ru⟩ := vals1 rxs
    exact d_get1 (by omega) I dg ru fun w' s' I' rw' => ⟨_, H, I', rw', q⟩
  · cases rx
    obtain ⟨u, w, rfl, ru, rw⟩ := vals2 rxs
    exact d_get2 (by omega) I dg ru rw fun w' s' I' rw' => ⟨_, H, I', rw', q⟩
  · cases rx
    obtain ⟨u, rfl, ru⟩ := vals1 rxs
    obtain ⟨tk, rfl⟩ := ru
    refine call_meetsIn PySem.F.slot_dict_get (kd_type kd I) PySem.F.entry_dict_get (PySem.F.args_dict_get_2 _ _) (meets_dict_get (PySem.strKind X.prog X.w) a (PySem.strKind_is X.prog X.w t tk) kd.low) ⟨_, PySem.W.mapOf_K (prog := X.prog) I.kIn kd.at_ kd.lit, ?_⟩
    rw [PySem.W.find_K kd.at_ hn]
    exact ⟨y, H, I.tok _, rv, q⟩
def rDPop : V → List V → Hp → VK → Prop := fun x xs H Q => ∃ a kvs k, x = .ref a ∧ H a = some (.dK kvs) ∧ ((∃ v, xs = [kV k] ∧ valV kvs k = some v ∧ Q v (upd H a (.dK (dropK kvs k)))) ∨
  ∃ z, xs = [kV k, z] ∧ (∀ v, valV kvs k = some v → Q v (upd H a (.dK (dropK kvs k)))) ∧ (valV kvs k = none → Q z H))
theorem isDc_ok {Φ : Hp} {ι : List Addr} {F H : Hp} {g : G} (R : RelG Kt Φ ι F g H) {x : V} {d : D} (r : DV Kt ι F x d) (h : isDc g d = true) : isDK Kt.K Kt.w x H := by
  unfold isDc at h
  cases r with
  | dic hd =>
    obtain ⟨⟨es, n, hd⟩, _⟩ := hd
    exact ⟨_, rfl, .inr ⟨es, n, hd⟩⟩
  | @ref l a e =>
    cases z : g[l]? with
    | none => simp only [z] at h; cases h
    | some o =>
      simp only [z] at h
      cases o with
      | dct t kvs =>
        have ob := R.ob _ _ _ z e
        cases t with
        | false =>
          obtain ⟨_, us, e3, _⟩ := ob
          exact ⟨_, rfl, .inl (.inl ⟨us, .inl e3⟩)⟩
        | true =>
          obtain ⟨_, us, e3, _⟩ := ob
          exact ⟨_, rfl, .inl (.inr ⟨us, .inl e3⟩)⟩
      | _ => cases h
  | _ => cases h
theorem se_dget {p : Pos} (A : At Kt X W k) (ho : PE X a (te Kt W ma)) (hm : PA X (b :: es) (ta Kt W ms)) (hbase : attributeBase a "get" X.env (eval a X.env) = eval a X.env := by rfl)
    (hfew : ((backTo pos (starEach (b :: es) X.env)).all (fun x => !x.1) && (backToKw pos (keywordEach [] X.env)).all (fun x => x.1.isSome)
      && decide ((b :: es).length + ([] : List Keyword).length + (if ([] : List Keyword).isEmpty then 0 else 1) < 30)) = true := by rfl)
    (hline : (p.endLine == pos.line) = true := by rfl) (hs : starEach (b :: es) X.env = (false, eval b X.env) :: starEach es X.env := by rfl) (hplain : (backTo pos (starEach es X.env)).any (·.1) = false := by rfl) :
    PE X (.Call (.Attribute a "get" p) (b :: es) [] pos) (te Kt W (vDGet ma ms)) := by
  have h := pe_dm (cpos := pos) (apos := p) PySem.F.slot_dict_get PySem.F.type_dict_get (mt_dget A.hu) ho hm hbase hfew hline hs hplain
  rw [A.eK, A.ew] at h
  refine L2.PE.imp h fun σ H Q ⟨Φ, ι, F, e, g, S, h⟩ => ⟨Φ, ι, F, e, g, S, (po.bind (Rl := DV Kt) h).imp fun v H1 ⟨ι1, F1, g1, d, x1, R1, r1, h1⟩ => ?_⟩
  split at h1
  · exact h1.elim
  · rename_i hd
    refine ⟨isDc_ok R1 r1 hd, Φ, ι1, F1, e, g1, ⟨S.env.mono x1, R1⟩, (po.bind (Rl := DVs Kt) h1).imp fun vs H2 ⟨ι2, F2, g2, ys, x2, R2, r2, h2⟩ => ?_⟩
    split at h2
    · rename_i y
      split at h2
      · rename_i o ho
        cases r2 with
        | cons ry r0 =>
        cases r0
        cases d with
        | dic ks vs =>
          cases ks with
          | nil => cases ho
          | cons q ks =>
            obtain ⟨ad, es, n, z, r, rfl, rfl, kd, hn, hr⟩ := dcG_kd (r1.mono x2) ry ho
            refine ⟨ad, rfl, .inr (.inr ?_)⟩
            cases o with
            | none =>
              cases (show r = none from hr)
              exact ⟨es, n, z, _, .non, rfl, kd, hn, rfl, h2 _ _ _ _ Ex.refl R2 .non⟩
            | some d =>
              obtain ⟨i, t, rfl, rfl⟩ := hr
              exact ⟨es, n, z, _, .int i, rfl, kd, hn, ⟨t, rfl⟩, h2 _ _ _ _ Ex.refl R2 (.int _)⟩
        | ref l =>
          obtain ⟨ad, q, rfl, dg, hq⟩ := dcG_obj R2 (r1.mono x2) ry ho
          refine ⟨ad, rfl, .inl ⟨_, q, rfl, dg, ?_⟩⟩
          cases o with
          | none =>
            cases (show q = none from hq)
            exact h2 _ _ _ _ Ex.refl R2 .non
          | some d =>
            obtain ⟨v, rfl, rv⟩ := hq
            exact h2 _ _ _ _ Ex.refl R2 rv
        | _ => cases ho
      · exact h2.elim
    · rename_i y z
      split at h2
      · rename_i l
        split at h2
        · rename_i o ho
          cases r2 with
          | cons ry r0 =>
          cases r0 with
          | cons rz r0 =>
          cases r0
          obtain ⟨ad, q, rfl, dg, hq⟩ := dcG_obj R2 (r1.mono x2) ry ho
          refine ⟨ad, rfl, .inr (.inl ⟨_, _, q, rfl, dg, ?_⟩)⟩
          cases o with
          | none =>
            cases (show q = none from hq)
            exact h2 _ _ _ _ Ex.refl R2 rz
          | some d =>
            obtain ⟨v, rfl, rv⟩ := hq
            exact h2 _ _ _ _ Ex.refl R2 rv
        · exact h2.elim
      · exact h2.elim
    · exact h2.elim
end
/-! ### xs + ys that is an object -/
def vAddO (a b : EM) : EM := fun e g => (a e g).bind fun x g1 => (b e g1).bind fun y g2 => match lsD g2 x, lsD g2 y with
  | some xs, some ys => (match okL (xs.length + ys.length) with
    | true => .ok (.ref g2.length) (g2 ++ [.lst (xs ++ ys)])
    | false => .stuck)
  | _, _ => .stuck
section
variable {Kt : Kit} {X : Cx} {W : WX} {k : Nat} {a b c : Expr} {ma mb mc : EM} {pos : Pos} {es : List Expr} {ms : AM}
theorem se_addO (A : At Kt X W k) (ha : PE X a (te Kt W ma)) (hb : PE X b (te Kt W mb)) : PE X (.BinOp a .Add b pos) (te Kt W (vAddO ma mb)) := by
  refine (pe_op (or_add A) ha hb).imp fun σ H Q ⟨Φ, ι, F, e, g, S, h⟩ => ⟨Φ, ι, F, e, g, S, (po.bind (Rl := DV Kt) h).imp fun v H1 ⟨ι1, F1, g1, d, x1, R1, r1, h1⟩ => ?_⟩
  refine ⟨Φ, ι1, F1, e, g1, ⟨S.env.mono x1, R1⟩, (po.bind (Rl := DV Kt) h1).imp fun v2 H2 ⟨ι2, F2, g2, d2, x2, R2, r2, h2⟩ => ?_⟩
  split at h2
  · rename_i xs ys hx hy
    split at h2
    · rename_i hl
      obtain ⟨p, vs, rfl, e1, q1⟩ := lsD_ok R2 (r1.mono x2) hx
      obtain ⟨p', vs', rfl, e2, q2⟩ := lsD_ok R2 r2 hy
      exact .inr (.inr ⟨_, _, _, _, rfl, rfl, e1, e2, by rw [q1.length, q2.length]; exact okL_iff.mp hl, newO R2 (q1.append q2) fun ι' F' H' v x R r => h2 _ _ _ _ x R r⟩)
    · exact h2.elim
  · exact h2.elim
end
/-! ### for the head -/
def kdB (K : PySem.W.Frag) (a : Addr) (T : List Str) (ks vs : List D) : Bool := (List.range T.length).all fun m => match PySem.W.nsIn K a (T.getD m ⟨#[]⟩) with
  | some (some (.int i _)) => decide (dicG ks vs m = some i)
  | some none => (dicG ks vs m).isNone
  | _ => false
theorem kdB_ok {Kt : Kit} {a : Addr} {ks vs : List D} (h : kdB Kt.K a Kt.tab ks vs = true) (d : ∃ es n, KDict Kt.K Kt.w a es n) : KD Kt a ks vs := by
  refine ⟨d, fun m x hx => ?_⟩
  have hm := (List.getElem?_eq_some_iff.mp hx).1
  have q := List.all_eq_true.mp h m (List.mem_range.mpr hm)
  rw [List.getD_eq_getElem?_getD, hx] at q
  simp only [Option.getD_some] at q
  split at q
  · rename_i i t e
    rw [of_decide_eq_true q]
    exact ⟨_, e, t, rfl⟩
  · rename_i e
    rw [Option.isNone_iff_eq_none.mp q]
    exact ⟨_, e, rfl⟩
  · cases q
end Y

set_option Elab.async false
set_option linter.all false
set_option maxRecDepth 100000
/-! Y: displays of dicts. -/
namespace Y
open PySem PySem.Spec PyProof.Rows L2
abbrev PM := En → G → Res (List (D × D))
def pNil : PM := fun _ g => .ok [] g
def pCons (a c : EM) (r : PM) : PM := fun e g => (a e g).bind fun x g1 => (c e g1).bind fun y g2 => (r e g2).bind fun ps g3 => .ok ((x, y) :: ps) g3
def mergep (kvs more : List (D × D)) : List (D × D) := more.foldl (fun acc kv => putp acc kv.1 kv.2) kvs
def vDisp (ps : PM) : EM := fun e g => (ps e (g ++ [.dct false []])).bind fun kvs g2 => match g2[g.length]? with
  | some (.dct false []) => (match decide (kvs.length ≤ 15) && kvs.all fun p => kyD p.1 with
    | true => .ok (.ref g.length) (g2.set g.length (.dct false (mergep [] kvs)))
    | false => .stuck)
  | _ => .stuck
inductive DVps (Kt : Kit) (ι : List Addr) (F : Hp) : List (V × V) → List (D × D) → Prop
  | nil : DVps Kt ι F [] []
  | cons {x y : V} {d e : D} {r : List (V × V)} {s : List (D × D)} : DV Kt ι F x d → DV Kt ι F y e → DVps Kt ι F r s → DVps Kt ι F ((x, y) :: r) ((d, e) :: s)
def tp (Kt : Kit) (W : WX) (m : PM) (σ : L2.St) (H : Hp) (Q : List (V × V) → Hp → Prop) : Prop := ∃ Φ ι F e g, St' Kt Φ ι F e g σ H ∧ po Kt Φ W σ (DVps Kt) ι F (m e g) Q
structure PPy (Kt : Kit) (X : Cx) (W : WX) (pos : Pos) (keys : List (Option Expr)) (vals : List Expr) (m : PM) : Prop where
  ex : ∃ trs, PPs X pos keys vals trs ∧ ∀ σ H Q, tp Kt W m σ H Q → tPairs trs σ H Q
section
variable {Kt : Kit} {X : Cx} {W : WX} {k : Nat} {a b c : Expr} {ma mb mc : EM} {pos : Pos} {keys : List (Option Expr)} {vals : List Expr} {m : PM}
theorem sp_nil : PPy Kt X W pos [] [] pNil := ⟨[], pps_nil, fun σ H Q ⟨Φ, ι, F, e, g, S, h⟩ => h _ _ _ _ Ex.refl S.rel .nil⟩
theorem sp_cons (ha : PE X a (te Kt W ma)) (hc : PE X c (te Kt W mc)) (hr : PPy Kt X W pos keys vals m) : PPy Kt X W pos (some a :: keys) (c :: vals) (pCons ma mc m) := by
  obtain ⟨trs, h1, h2⟩ := hr.ex
  refine ⟨_, pps_cons ha hc h1, fun σ H Q ⟨Φ, ι, F, e, g, S, h⟩ => ?_⟩
  refine ⟨Φ, ι, F, e, g, S, (po.bind (Rl := DV Kt) h).imp fun v H1 ⟨ι1, F1, g1, d, x1, R1, r1, h⟩ => ?_⟩
  refine ⟨Φ, ι1, F1, e, g1, ⟨S.env.mono x1, R1⟩, (po.bind (Rl := DV Kt) h).imp fun v2 H2 ⟨ι2, F2, g2, d2, x2, R2, r2, h⟩ => ?_⟩
  refine h2 _ _ _ ⟨Φ, ι2, F2, e, g2, ⟨S.env.mono (x1.trans x2), R2⟩, (po.bind (Rl := DVps Kt) h).imp fun ps H3 ⟨ι3, F3, g3, kvs, x3, R3, r3, h⟩ => ?_⟩
  exact h _ _ _ _ Ex.refl R3 (.cons (r1.mono (x2.trans x3)) (r2.mono x3) r3)
theorem DVps.ky {ι : List Addr} {F : Hp} {ps : List (V × V)} {kvs : List (D × D)} (r : DVps Kt ι F ps kvs) (h : (kvs.all fun p => kyD p.1) = true) : ∃ us : List (Key × V), ps = us.map (fun kv => (kV kv.1, kv.2)) ∧ KR Kt ι F us kvs := by
  induction r with
  | nil => exact ⟨[], rfl, .nil⟩
  | cons hx hy t ih =>
    rw [List.all_cons, Bool.and_eq_true] at h
    obtain ⟨j, rfl⟩ := ky_ex hx h.1
    obtain ⟨us, rfl, q⟩ := ih h.2
    exact ⟨(j, _) :: us, rfl, .cons hx hy q⟩
theorem KR.merge {ι : List Addr} {F : Hp} {ws : List (Key × V)} {lvs : List (D × D)} (r : KR Kt ι F ws lvs) : ∀ {us : List (Key × V)} {kvs : List (D × D)}, KR Kt ι F us kvs → KR Kt ι F (mergeK us ws) (mergep kvs lvs) := by
  induction r with
  | nil => exact fun q => q
  | cons hk hv t ih => exact fun q => ih (q.put hk hv)
theorem se_disp (h : PPy Kt X W pos keys vals m) (hall : keys.all (·.isSome) = true := by rfl) (hl : keys.length = vals.length := by rfl) (h0 : keys ≠ [] := by intro h; cases h) (h15 : keys.length ≤ 15 := by decide) :
    PE X (.Dict keys vals pos) (te Kt W (vDisp m)) := by
  obtain ⟨trs, h1, h2⟩ := h.ex
  refine L2.PE.imp (pe_disp h1 hall hl h0 h15) fun σ H Q ⟨Φ, ι, F, e, g, S, h⟩ p hp => ?_
  obtain ⟨u, rfl, R, x⟩ := newD S.rel hp false
  refine h2 _ _ _ ⟨Φ, ι ++ [p], F, e, g ++ [.dct false []], ⟨S.env.mono x, R⟩, (po.bind (Rl := DVps Kt) (po.mono x h)).imp fun ps H2 ⟨ι2, F2, g2, kvs, x2, R2, r2, h⟩ => ?_⟩
  have ip : ι2[g.length]? = some p := x2.i _ _ (get_snoc S.rel.len)
  split at h
  · rename_i z
    obtain ⟨hF, us, e3, r3⟩ := R2.ob _ _ _ z ip
    cases r3
    refine ⟨e3, ?_⟩
    split at h
    · rename_i hh
      rw [Bool.and_eq_true] at hh
      obtain ⟨us, rfl, q⟩ := r2.ky hh.2
      exact ⟨us, rfl, by rw [q.length]; exact of_decide_eq_true hh.1, h _ _ _ _ Ex.refl (R2.put ip hF ⟨hF, _, upd_same, q.merge .nil⟩) (.ref ip)⟩
    · exact h.elim
  · exact h.elim
end
/-! ### xs.pop() -/
def vPop0 (o : EM) : EM := fun e g => (o e g).bind fun d g1 => match d with
  | .ref l => (match g1[l]? with
    | some (.lst ds) => (match ds[ds.length - 1]? with
      | some z => .ok z (g1.set l (.lst ds.dropLast))
      | none => .stuck)
    | _ => .stuck)
  | _ => .stuck
section
variable {Kt : Kit} {X : Cx} {W : WX} {k : Nat} {a b c : Expr} {ma mb mc : EM} {pos : Pos}
theorem se_pop0 {p : Pos} (A : At Kt X W k) (ho : PE X a (te Kt W ma)) (hbase : attributeBase a "pop" X.env (eval a X.env) = eval a X.env := by rfl) (hline : (p.endLine == pos.line) = true := by rfl) :
    PE X (.Call (.Attribute a "pop" p) [] [] pos) (te Kt W (vPop0 ma)) := by
  have h := pe_bm0 (cpos := pos) (apos := p) PySem.F.plainAttrs_list PySem.F.slot_list_pop PySem.F.type_list_pop mt_pop ho hbase hline
  rw [A.eK] at h
  refine L2.PE.imp h fun σ H Q ⟨Φ, ι, F, e, g, S, h⟩ => ⟨Φ, ι, F, e, g, S, (po.bind (Rl := DV Kt) h).imp fun v H1 ⟨ι1, F1, g1, d, x1, R1, r1, h1⟩ => ?_⟩
  split at h1
  · rename_i l
    split at h1
    · rename_i ds e1
      split at h1
      · rename_i z hz
        refine ⟨tyV_l R1 r1 (by unfold lsD; rw [snap_ref, e1]), ?_⟩
        cases r1 with
        | @ref _ ad e2 =>
        obtain ⟨hF, vs, e3, r4⟩ := R1.ob _ _ _ e1 e2
        obtain ⟨w, w1, w2⟩ := r4.get hz
        refine ⟨ad, vs, w, rfl, rfl, e3, by rw [r4.length]; exact w1, h1 _ _ _ _ Ex.refl (R1.put e2 hF ⟨hF, _, upd_same, ?_⟩) w2⟩
        rw [List.dropLast_eq_take, List.dropLast_eq_take, r4.length]
        exact r4.take _
      · exact h1.elim
    · exact h1.elim
  · exact h1.elim
end
/-! ### xs * n that is an object -/
def vMulO (a b : EM) : EM := fun e g => (a e g).bind fun x g1 => (b e g1).bind fun y g2 => match x, y with
  | .lst xs, .int j => (match nB xs.length j with
    | true => .ok (.ref g2.length) (g2 ++ [.lst (List.replicate j.toNat xs).flatten])
    | false => .stuck)
  | _, _ => .stuck
section
variable {Kt : Kit} {X : Cx} {W : WX} {k : Nat} {a b c : Expr} {ma mb mc : EM} {pos : Pos}
theorem se_mulO (ha : PE X a (te Kt W ma)) (hb : PE X b (te Kt W mb)) : PE X (.BinOp a .Mult b pos) (te Kt W (vMulO ma mb)) := by
  refine (pe_op or_mul ha hb).imp fun σ H Q ⟨Φ, ι, F, e, g, S, h⟩ => ⟨Φ, ι, F, e, g, S, (po.bind (Rl := DV Kt) h).imp fun v H1 ⟨ι1, F1, g1, d, x1, R1, r1, h1⟩ => ?_⟩
  refine ⟨Φ, ι1, F1, e, g1, ⟨S.env.mono x1, R1⟩, (po.bind (Rl := DV Kt) h1).imp fun v2 H2 ⟨ι2, F2, g2, d2, x2, R2, r2, h2⟩ => ?_⟩
  split at h2
  · rename_i xs j
    split at h2
    · rename_i hc
      have r1 := r1.mono x2
      cases r1 with
      | lst e1 q1 =>
      cases r2
      have hc := nB_ok hc
      exact .inr ⟨_, _, _, rfl, rfl, R2.sub _ _ e1, by have := hc.1; omega, by have := hc.2.1; omega, by rw [q1.length]; exact hc.2.2, newO R2 (q1.rep _) fun ι' F' H' v x R r => h2 _ _ _ _ x R r⟩
    · exact h2.elim
  · exact h2.elim
end
/-! ### dict([(k, v), ..]) -/
def prsD : List D → Option (List (D × D))
  | [] => some []
  | .tup [k, v] :: r => (match kyD k, prsD r with
    | true, some q => some ((k, v) :: q)
    | _, _ => none)
  | _ => none
def vDctP (a : AM) : EM := fun e g => (a e g).bind fun ds g1 => match ds with
  | [d] => (match lsD g1 d with
    | some xs => (match prsD xs with
      | some kvs => .ok (.ref g1.length) (g1 ++ [.dct false (mergep [] kvs)])
      | none => .stuck)
    | none => .stuck)
  | _ => .stuck
section
variable {Kt : Kit} {X : Cx} {W : WX} {k : Nat} {a b c : Expr} {es : List Expr} {ms : AM} {ma mb mc : EM} {pos : Pos}
theorem prs_ok {Φ : Hp} {ι : List Addr} {F H : Hp} {g : G} (R : RelG Kt Φ ι F g H) : ∀ {xs : List D} {vs : List V} {kvs : List (D × D)}, DVs Kt ι F vs xs → prsD xs = some kvs → ∃ (ps : List Addr) (us : List (Key × V)), vs = ps.map V.ref ∧ Paired (fun p kv => SqT Kt.K H p [kV kv.1, kv.2]) ps us ∧ KR Kt ι F us kvs
  | [], _, _, .nil, h => by
    cases h
    exact ⟨[], [], rfl, .nil, .nil⟩
  | x :: r, _, kvs, .cons hx hr, h => by
    unfold prsD at h
    split at h
    · rename_i h0; cases h0
    · rename_i kd vd r' h0
      cases h0
      split at h
      · rename_i q hk hq
        cases h
        obtain ⟨ps, us, e1, e2, e3⟩ := prs_ok R hr hq
        cases hx with
        | @tup p ws _ f1 r1 =>
        cases r1 with
        | cons rk r2 =>
        cases r2 with
        | cons rv r3 =>
        cases r3
        obtain ⟨j, rfl⟩ := ky_ex rk hk
        exact ⟨p :: ps, (j, _) :: us, by rw [e1]; rfl, .cons (.inl (.inl (R.sub _ _ f1))) e2, .cons rk rv e3⟩
      · cases h
    · cases h
theorem se_dctP {p : Pos} (A : At Kt X W k) (hm : Kt.mg "dict" = none) (ha : PA X (a :: es) (ta Kt W ms)) (hg : Gl X "dict" := by rfl) (he : starEach (a :: es) X.env = (false, eval a X.env) :: starEach es X.env := by rfl) (hpl : (backTo pos (starEach es X.env)).any (·.1) = false := by rfl) :
    PE X (.Call (.Name "dict" p) (a :: es) [] pos) (te Kt W (vDctP ms)) := by
  have h := pe_callTy (p := p) (call_dictP A.calm) hg (A.em ▸ hm) (by decide +kernel) ha (by decide) (by decide) he hpl
  rw [A.eK] at h
  refine L2.PE.imp h fun σ H Q ⟨Φ, ι, F, e, g, S, h⟩ => ⟨Φ, ι, F, e, g, S, (po.bind (Rl := DVs Kt) h).imp fun v H1 ⟨ι1, F1, g1, d1, x1, R1, r1, h1⟩ => ?_⟩
  split at h1
  · rename_i d
    cases r1 with
    | cons r1 r2 =>
    cases r2
    split at h1
    · rename_i xs e1
      split at h1
      · rename_i kvs e2
        obtain ⟨ad, vs, rfl, hs, r⟩ := lsD_ok R1 r1 e1
        obtain ⟨ps, us, rfl, p2, p3⟩ := prs_ok R1 r e2
        refine ⟨ad, ps, us, rfl, .inl (.inl hs), p2, fun q hq => ?_⟩
        have fp : F1 q = none := by
          cases e : F1 q with
          | none => rfl
          | some u => rw [R1.sub q u e] at hq; cases hq
        have x : Ex ι1 F1 (ι1 ++ [q]) F1 := ⟨fun l a h => by rw [List.getElem?_append_left (List.getElem?_eq_some_iff.mp h).1]; exact h, fun _ _ h => h⟩
        obtain ⟨R', x'⟩ := R1.new hq (H' := upd H1 q (.dK (mergeK [] us))) (fun a o h => by rw [upd_ne (ne_of_none h hq)]; exact h) (by rw [upd_same]; simp) (o := .dct false (mergep [] kvs)) ⟨fp, _, upd_same, (p3.mono x).merge .nil⟩
        exact h1 _ _ _ _ x' R' (.ref (get_snoc R1.len))
      · exact h1.elim
    · exact h1.elim
  · exact h1.elim
end
end Y

set_option Elab.async false
set_option linter.all false
set_option maxRecDepth 100000
namespace Y
open PySem L2

/-! ### plain: running the data -/
def Le (g g' : G) : Prop := ∀ (l : Nat) (o : Ob), g[l]? = some o → g'[l]? = some o
theorem Le.refl {g : G} : Le g g := fun _ _ h => h
theorem Le.trans {g g1 g2 : G} (a : Le g g1) (b : Le g1 g2) : Le g g2 := fun l o h => b l o (a l o h)
theorem Le.app {g : G} {os : List Ob} : Le g (g ++ os) := fun l o h => by rw [List.getElem?_append_left (List.getElem?_eq_some_iff.mp h).1]; exact h
theorem Le.set {g g' : G} (h : Le g g') {l : Nat} (hl : g.length ≤ l) {o : Ob} : Le g (g'.set l o) := fun m u e => by
  rw [List.getElem?_set_ne (by have := (List.getElem?_eq_some_iff.mp e).1; omega)]
  exact h m u e
theorem lsD_le {g g' : G} (h : Le g g') {d : D} {ds : List D} (e : lsD g d = some ds) : lsD g' d = some ds := by
  unfold lsD at e ⊢
  cases d with
  | ref l =>
    rw [snap_ref] at e ⊢
    cases z : g[l]? with
    | none => rw [z] at e; cases e
    | some o => rw [h l o z]; rw [z] at e; exact e
  | _ => exact e
@[simp] theorem lsD_lst {g : G} {ds : List D} : lsD g (.lst ds) = some ds := rfl
theorem lsD_ref {g : G} {l : Nat} {ds : List D} (h : g[l]? = some (.lst ds)) : lsD g (.ref l) = some ds := by unfold lsD; rw [snap_ref, h]
theorem snap_of {g : G} {d : D} {ds : List D} (h : lsD g d = some ds) : snap g d = .lst ds := by
  unfold lsD at h
  split at h
  · rename_i e; cases h; exact e
  · cases h
theorem itD_of {g : G} {d : D} {ds : List D} (h : lsD g d = some ds) : itD g d = some ds := by
  unfold itD
  cases d with
  | tup _ => cases h
  | scr _ => cases h
  | _ => exact h

/-- a step of a loop -/
def StepOK (r : SR) (P : En → G → Prop) (Q : SR → Prop) : Prop := match r with
  | .nx e g => P e g
  | .ct e g => P e g
  | .bk e g => Q (.nx e g)
  | r => Q r
theorem after_ok {r : SR} {k : En → G → SR} {P : En → G → Prop} {Q : SR → Prop} (h : StepOK r P Q) (hk : ∀ e g, P e g → Q (k e g)) : Q (after r k) := by
  cases r with
  | nx e g => exact hk e g h
  | ct e g => exact hk e g h
  | bk e g => exact h
  | rt d g => exact h
  | exn c e g => exact h
  | stuck => exact h
theorem loopL_inv {gm : GM} {b : SM} {Q : SR → Prop} (P : List D → En → G → Prop) (hs : ∀ x xs e g, P (x :: xs) e g → ∃ e', gm x g e = some e' ∧ StepOK (b e' g) (P xs) Q) (hd : ∀ e g, P [] e g → Q (.nx e g)) : ∀ xs e g, P xs e g → Q (loopL gm b xs e g)
  | [], e, g, h => hd e g h
  | x :: xs, e, g, h => by
    obtain ⟨e', h1, h2⟩ := hs x xs e g h
    unfold loopL
    rw [h1]
    exact after_ok h2 fun e2 g2 h3 => loopL_inv P hs hd xs e2 g2 h3
theorem rngL_cons {lo : Int} {n : Nat} : rngL lo (n + 1) = .int lo :: rngL (lo + 1) n := by
  unfold rngL
  rw [List.range_succ_eq_map, List.map_cons, List.map_map]
  congr 1
  · simp
  · apply List.map_congr_left
    intro i _
    simp only [Function.comp_apply]
    congr 1
    omega
theorem loop_rng {gm : GM} {b : SM} {Q : SR → Prop} {lo : Int} (P : Nat → En → G → Prop) : ∀ (n i : Nat) (e : En) (g : G), (∀ j e g, i ≤ j → j < i + n → P j e g → ∃ e', gm (.int (lo + (j : Int))) g e = some e' ∧ StepOK (b e' g) (P (j + 1)) Q) → (∀ e g, P (i + n) e g → Q (.nx e g)) → P i e g →
    Q (loopL gm b (rngL (lo + (i : Int)) n) e g)
  | 0, i, e, g, hs, hd, h => hd e g h
  | n + 1, i, e, g, hs, hd, h => by
    obtain ⟨e', h1, h2⟩ := hs i e g (Nat.le_refl _) (by omega) h
    rw [rngL_cons]
    unfold loopL
    rw [h1]
    refine after_ok h2 fun e2 g2 h3 => ?_
    have := loop_rng P n (i + 1) e2 g2 (fun j e g a b => hs j e g (by omega) (by omega)) (fun e g z => hd e g (by rw [Nat.add_succ, ← Nat.succ_add]; exact z)) h3
    rw [show lo + (i : Int) + 1 = lo + ((i + 1 : Nat) : Int) by omega]
    exact this
/-- for i in range(n) -/
theorem for_rng {gm : GM} {b : SM} {Q : SR → Prop} {n : Nat} {e : En} {g : G} (P : Nat → En → G → Prop) (h0 : P 0 e g) (hs : ∀ j e g, j < n → P j e g → ∃ e', gm (.int (j : Int)) g e = some e' ∧ StepOK (b e' g) (P (j + 1)) Q) (hd : ∀ e g, P n e g → Q (.nx e g)) :
    Q (loopL gm b (rngL 0 n) e g) := by
  have := loop_rng (lo := 0) P n 0 e g (fun j e g _ h2 h => by simpa using hs j e g (by omega) h) (fun e g h => hd e g (by simpa using h)) h0
  simpa using this
def srcL (g : G) : Src → Option (List D)
  | .vals xs => some xs
  | .obj l => match g[l]? with
    | some (.lst ds) => some ds
    | _ => none
theorem srcL_obj {g : G} {l : Nat} {xs : List D} (h : srcL g (.obj l) = some xs) : g[l]? = some (.lst xs) := by
  have h : (match g[l]? with
    | some (.lst ds) => some ds
    | _ => none) = some xs := h
  cases z : g[l]? with
  | none => rw [z] at h; cases h
  | some o =>
    rw [z] at h
    cases o with
    | lst ds => cases h; rfl
    | _ => cases h
theorem nxS_src {g : G} {s : Src} {xs : List D} (h : srcL g s = some xs) (i : Nat) : nxS s i g = some xs[i]? := by
  cases s with
  | vals ys => cases h; rfl
  | obj l =>
    unfold nxS
    simp only [srcL_obj h]
theorem loopS_pure {gm : GM} {b : SM} {Q : SR → Prop} {g : G} {s : Src} {xs : List D} (hx : srcL g s = some xs) (P : List D → En → Prop) (hs : ∀ x xs e, P (x :: xs) e → ∃ e', gm x g e = some e' ∧ StepOK (b e' g) (fun e2 g2 => g2 = g ∧ P xs e2) Q) (hd : ∀ e, P [] e → Q (.nx e g)) :
    ∀ n i e, n = xs.length - i → P (xs.drop i) e → Q (loopS gm b s n i e g)
  | 0, i, e, hn, h => by
    have hd' : xs.drop i = [] := List.drop_eq_nil_of_le (by omega)
    rw [hd'] at h
    unfold loopS
    rw [nxS_src hx, List.getElem?_eq_none (by omega)]
    exact hd e h
  | n + 1, i, e, hn, h => by
    have hi : i < xs.length := by omega
    rw [List.drop_eq_getElem_cons hi] at h
    obtain ⟨e', h1, h2⟩ := hs _ _ e h
    unfold loopS
    rw [nxS_src hx, List.getElem?_eq_getElem hi]
    simp only [h1]
    refine after_ok h2 fun e2 g2 ⟨eg, h3⟩ => ?_
    subst eg
    exact loopS_pure hx P hs hd n (i + 1) e2 (by omega) h3
/-- a loop that does not change the objects -/
theorem runS_pure {gm : GM} {b : SM} {Q : SR → Prop} {g : G} {s : Src} {xs : List D} {e : En} (hx : srcL g s = some xs) (P : List D → En → Prop) (h0 : P xs e) (hs : ∀ x xs e, P (x :: xs) e → ∃ e', gm x g e = some e' ∧ StepOK (b e' g) (fun e2 g2 => g2 = g ∧ P xs e2) Q) (hd : ∀ e, P [] e → Q (.nx e g)) :
    Q (runS gm b s e g) := by
  have key := loopS_pure hx P hs hd xs.length 0 e rfl (by simpa using h0)
  cases s with
  | vals ys =>
    cases hx
    rw [loopS_vals gm b xs xs.length 0 e g rfl] at key
    exact key
  | obj l =>
    unfold runS
    simp only [srcL_obj hx]
    exact key
theorem lcL_pure {α : Type} {gm : GM} {t : TM} {m : EM} {e : En} {g : G} (c : α → D) (p : α → Bool) (f : α → D) : ∀ (xs : List α), (∀ x ∈ xs, ∃ e', gm (c x) g e = some e' ∧ t e' g = .ok (p x) g ∧ (p x = true → m e' g = .ok (f x) g)) → lcL gm t m (xs.map c) e g = .ok ((xs.filter p).map f) g
  | [], _ => rfl
  | x :: xs, h => by
    obtain ⟨e', h1, h2, h3⟩ := h x List.mem_cons_self
    have ih := lcL_pure c p f xs fun y hy => h y (List.mem_cons_of_mem _ hy)
    rw [List.map_cons]
    unfold lcL
    rw [h1]
    simp only [h2, noX_ok, Res.bind]
    cases hp : p x with
    | true => simp [h3 hp, ih, hp]
    | false => simp [ih, hp]
theorem lcS_pure {gm : GM} {t : TM} {m : EM} {e : En} {g : G} {s : Src} {xs : List D} (hx : srcL g s = some xs) {ys : List D} : ∀ (n i : Nat), n = xs.length - i → (∀ x ∈ xs, ∃ e' b, gm x g e = some e' ∧ t e' g = .ok b g ∧ (b = true → ∃ y, m e' g = .ok y g)) → lcS gm t m s n i e g = lcL gm t m (xs.drop i) e g
  | 0, i, hn, h => by
    have hd' : xs.drop i = [] := List.drop_eq_nil_of_le (by omega)
    rw [hd']
    unfold lcS lcL
    rw [nxS_src hx, List.getElem?_eq_none (by omega)]
  | n + 1, i, hn, h => by
    have hi : i < xs.length := by omega
    obtain ⟨e', b, h1, h2, h3⟩ := h xs[i] (List.getElem_mem hi)
    have ih := lcS_pure (ys := ys) hx n (i + 1) (by omega) h
    rw [List.drop_eq_getElem_cons hi]
    unfold lcS lcL
    rw [nxS_src hx, List.getElem?_eq_getElem hi]
    simp only [h1, h2, noX_ok, Res.bind]
    cases b with
    | true =>
      obtain ⟨y, h4⟩ := h3 rfl
      simp only [h4, noX_ok, cond_true, Res.bind]
      rw [ih]
    | false => simp only [cond_false]; rw [ih]
/-- a comprehension whose parts do not change the objects -/
theorem lcR_pure {α : Type} {gm : GM} {t : TM} {m : EM} {e : En} {g : G} {s : Src} (c : α → D) (p : α → Bool) (f : α → D) (xs : List α) (hx : srcL g s = some (xs.map c)) (hl : okL xs.length = true) (h : ∀ x ∈ xs, ∃ e', gm (c x) g e = some e' ∧ t e' g = .ok (p x) g ∧ (p x = true → m e' g = .ok (f x) g)) :
    lcR gm t m s e g = .ok ((xs.filter p).map f) g := by
  have key := lcL_pure c p f xs h
  unfold lcR
  cases s with
  | vals ys =>
    cases hx
    simp only [List.length_map, hl]
    exact key
  | obj l =>
    have h2 : ∀ z ∈ xs.map c, ∃ e' b, gm z g e = some e' ∧ t e' g = .ok b g ∧ (b = true → ∃ y, m e' g = .ok y g) := fun z hz => by
      obtain ⟨x, hx, rfl⟩ := List.mem_map.mp hz
      obtain ⟨e', a1, a2, a3⟩ := h x hx
      exact ⟨e', p x, a1, a2, fun q => ⟨_, a3 q⟩⟩
    have k2 := lcS_pure (ys := []) hx (xs.map c).length 0 rfl h2
    simp only [srcL_obj hx, List.length_map, hl]
    rw [List.length_map] at k2
    rw [k2]
    exact key
/-! #### the law's tape -/
def tapeB : SM := (sSeq (sAsg 1 (vLstO aNil))
    (sSeq (sFor (iRng1 (vCB lenD (aCons (vVar 0) aNil))) (gN 2) (sSeq (sAsg 3 (vCB absD (aCons (vCB intD (aCons (vOp ixD (vVar 0) (vVar 2)) aNil)) aNil)))
    (sIf (tOf (vOp geD (vVar 3) (vOp powD (vC (.int 10)) (vC (.int 18))))) (sFor (iRng1 (vC (.int 60))) (gN 4) (sIf (tOf (vOp gtD (vVar 3) (vC (.int 0)))) (sSeq (sDrop (vApp (vVar 1) (vOp modD (vVar 3) (vC (.int 1000)))))
    (sAsg 3 (vOp divD (vVar 3) (vC (.int 1000))))) sNx)) (sFor (iRng1 (vC (.int 4))) (gN 4) (sSeq (sAsg 3 (vOp modD (vOp addD (vOp addD (vOp mulD (vVar 3) (vC (.int 48271))) (vOp mulD (vC (.int 69621)) (vOp addD (vVar 2) (vC (.int 1))))) (vOp mulD (vC (.int 7)) (vVar 4))) (vC (.int 2147483647))))
    (sSeq (sAsg 3 (vOp modD (vOp mulD (vVar 3) (vC (.int 16807))) (vC (.int 2147483647))))
    (sDrop (vApp (vVar 1) (vOp modD (vOp divD (vVar 3) (vC (.int 1000))) (vC (.int 1000)))))))))))
    (sRet (vFrz (vVar 1)))))
def Nice (T : List Int) : Prop := ∀ t ∈ T, 0 ≤ t ∧ t < 1000
/-- between two turns -/
def TP (ns : List Int) (l m : Nat) (e : En) (g0 g : G) : Prop := ∃ (T : List Int) (a b c : Option D), e = [some (.scr (ns.map D.int)), some (.ref l), a, b, c] ∧ g = g0 ++ [.lst (T.map D.int)] ∧ l = g0.length ∧ Nice T ∧ T.length ≤ m
theorem get_snoc' {g0 : G} {o : Ob} : (g0 ++ [o])[g0.length]? = some o := by
  rw [List.getElem?_append_right (Nat.le_refl _), Nat.sub_self]; rfl
theorem set_snoc' {g0 : G} {o o' : Ob} : (g0 ++ [o]).set g0.length o' = g0 ++ [o'] := by
  rw [List.set_append_right _ _ (Nat.le_refl _), Nat.sub_self]; rfl
theorem app_tape {e : En} {g0 : G} {T : List Int} {t : Int} {m : EM} {o : EM} (ho : o e (g0 ++ [.lst (T.map D.int)]) = .ok (.ref g0.length) (g0 ++ [.lst (T.map D.int)])) (hm : m e (g0 ++ [.lst (T.map D.int)]) = .ok (.int t) (g0 ++ [.lst (T.map D.int)])) (hl : ltL T.length = true) :
    vApp o m e (g0 ++ [.lst (T.map D.int)]) = .ok .non (g0 ++ [.lst ((T ++ [t]).map D.int)]) := by
  unfold vApp
  rw [ho]
  simp only [Res.bind, lsD_ref get_snoc', hm, get_snoc', List.length_map, hl, set_snoc', List.map_append, List.map_cons, List.map_nil]
theorem nice_snoc {T : List Int} (h : Nice T) {t : Int} (h0 : 0 ≤ t) (h1 : t < 1000) : Nice (T ++ [t]) := fun x hx => by
  rcases List.mem_append.mp hx with hx | hx
  · exact h x hx
  · simp at hx; subst hx; exact ⟨h0, h1⟩
theorem atI_ints (ns : List Int) {j : Nat} (h : j < ns.length) : atI (ns.map D.int) (j : Int) = some (.int ns[j]) := atI_nat (by simp [h])
theorem tape_in1 {ns : List Int} {g0 : G} {m0 j : Nat} {T : List Int} {x : Int} {c : Option D} (hT : Nice T) (hl : T.length ≤ m0) (hm : m0 < 10000) (hx : 0 ≤ x) :
    StepOK (loopL (gN 4) (sIf (tOf (vOp gtD (vVar 3) (vC (.int 0)))) (sSeq (sDrop (vApp (vVar 1) (vOp modD (vVar 3) (vC (.int 1000))))) (sAsg 3 (vOp divD (vVar 3) (vC (.int 1000))))) sNx) (rngL 0 60) [some (.scr (ns.map D.int)), some (.ref g0.length), some (.int j), some (.int x), c] (g0 ++ [.lst (T.map D.int)]))
      (TP ns g0.length (m0 + 60) · g0 ·) (fun _ => False) := by
  refine for_rng (Q := fun r => StepOK r (TP ns g0.length (m0 + 60) · g0 ·) (fun _ => False)) (fun i e g => ∃ (T : List Int) (x : Int) (c : Option D), e = [some (.scr (ns.map D.int)), some (.ref g0.length), some (.int j), some (.int x), c] ∧ g = g0 ++ [.lst (T.map D.int)] ∧ Nice T ∧ T.length ≤ m0 + i ∧ 0 ≤ x) ⟨T, x, c, rfl, rfl, hT, hl, hx⟩ ?_ ?_
  · rintro i e g hi ⟨T, x, c, rfl, rfl, hT, hl, hx⟩
    refine ⟨_, rfl, ?_⟩
    by_cases h0 : 0 < x
    · have e1 := app_tape (e := [some (.scr (ns.map D.int)), some (.ref g0.length), some (.int j), some (.int x), some (.int (i : Int))]) (g0 := g0) (T := T) (t := x % 1000) (m := vOp modD (vVar 3) (vC (.int 1000))) (o := vVar 1) rfl rfl (ltL_of (by omega))
      simp only [sIf, tOf, vOp, vVar, vC, Res.bind, sBind, List.set, List.getElem?_cons_zero, List.getElem?_cons_succ, gtD, icD, oR_some, bR_bl, h0, decide_true, cond_true, sSeq, sDrop] at e1 ⊢
      rw [e1]
      refine ⟨T ++ [x % 1000], x / 1000, some (.int i), rfl, rfl, nice_snoc hT (by omega) (by omega), by simp; omega, by omega⟩
    · simp only [sIf, tOf, vOp, vVar, vC, Res.bind, sBind, List.set, List.getElem?_cons_zero, List.getElem?_cons_succ, gtD, icD, oR_some, bR_bl, h0, decide_false, cond_false]
      exact ⟨T, x, some (.int i), rfl, rfl, hT, by omega, hx⟩
  · rintro e g ⟨T, x, c, rfl, rfl, hT, hl, hx⟩
    exact ⟨T, _, _, _, rfl, rfl, rfl, hT, hl⟩
theorem tape_in2 {ns : List Int} {g0 : G} {m0 j : Nat} {T : List Int} {x : Int} {c : Option D} (hT : Nice T) (hl : T.length ≤ m0) (hm : m0 < 10000) :
    StepOK (loopL (gN 4) (sSeq (sAsg 3 (vOp modD (vOp addD (vOp addD (vOp mulD (vVar 3) (vC (.int 48271))) (vOp mulD (vC (.int 69621)) (vOp addD (vVar 2) (vC (.int 1))))) (vOp mulD (vC (.int 7)) (vVar 4))) (vC (.int 2147483647))))
    (sSeq (sAsg 3 (vOp modD (vOp mulD (vVar 3) (vC (.int 16807))) (vC (.int 2147483647))))
    (sDrop (vApp (vVar 1) (vOp modD (vOp divD (vVar 3) (vC (.int 1000))) (vC (.int 1000))))))) (rngL 0 4) [some (.scr (ns.map D.int)), some (.ref g0.length), some (.int j), some (.int x), c] (g0 ++ [.lst (T.map D.int)]))
      (TP ns g0.length (m0 + 60) · g0 ·) (fun _ => False) := by
  refine for_rng (Q := fun r => StepOK r (TP ns g0.length (m0 + 60) · g0 ·) (fun _ => False)) (fun i e g => ∃ (T : List Int) (x : Int) (c : Option D), e = [some (.scr (ns.map D.int)), some (.ref g0.length), some (.int j), some (.int x), c] ∧ g = g0 ++ [.lst (T.map D.int)] ∧ Nice T ∧ T.length ≤ m0 + i) ⟨T, x, c, rfl, rfl, hT, hl⟩ ?_ ?_
  · rintro i e g hi ⟨T, x, c, rfl, rfl, hT, hl⟩
    refine ⟨_, rfl, ?_⟩
    generalize hy : ((x * 48271 + 69621 * ((j : Int) + 1) + 7 * (i : Int)) % 2147483647) * 16807 % 2147483647 = y
    have y0 : 0 ≤ y := by omega
    have e1 := app_tape (e := [some (.scr (ns.map D.int)), some (.ref g0.length), some (.int j), some (.int y), some (.int (i : Int))]) (g0 := g0) (T := T) (t := y / 1000 % 1000) (m := vOp modD (vOp divD (vVar 3) (vC (.int 1000))) (vC (.int 1000))) (o := vVar 1) rfl rfl (ltL_of (by omega))
    have b1 : mB x 48271 = true := mB_r (by decide) (by decide)
    have b2 : mB 69621 ((j : Int) + 1) = true := mB_l (by decide) (by decide)
    have b3 : mB 7 (i : Int) = true := mB_l (by decide) (by decide)
    have b4 : ∀ z : Int, mB z 16807 = true := fun z => mB_r (by decide) (by decide)
    have b5 : pB 2147483647 = true := rfl
    simp only [sAsg, vOp, vVar, vC, Res.bind, sBind, List.set, List.getElem?_cons_zero, List.getElem?_cons_succ, mulD, addD, modD, oR_some, b1, b2, b3, b4, b5, sSeq, sDrop, hy] at e1 ⊢
    rw [e1]
    exact ⟨T ++ [y / 1000 % 1000], y, some (.int i), rfl, rfl, nice_snoc hT (by omega) (by omega), by simp; omega⟩
  · rintro e g ⟨T, x, c, rfl, rfl, hT, hl⟩
    exact ⟨T, _, _, _, rfl, rfl, rfl, hT, by omega⟩
theorem vLstO_nil {e : En} {g : G} : vLstO aNil e g = .ok (.ref g.length) (g ++ [.lst []]) := by
  rfl
theorem tape_ok (ns : List Int) (hn : ns.length ≤ 63) (g : G) : ∃ T : List Int, Nice T ∧ T.length ≤ 3780 ∧ fnM 1 5 tapeB [.scr (ns.map D.int)] g = .ok (.lst (T.map D.int)) (g ++ [.dead]) := by
  have key : ∃ T : List Int, Nice T ∧ T.length ≤ 3780 ∧ tapeB [some (.scr (ns.map D.int)), none, none, none, none] g = .rt (.lst (T.map D.int)) (g ++ [.dead]) := by
    unfold tapeB
    simp only [sSeq, sAsg, vLstO_nil, sBind, List.set, sFor, iRng1, vCB, aCons, vVar, List.getElem?_cons_zero, lenD, itD, oR_some, List.length_map, aNil, Res.bind]
    simp only [rB_of (show -1000000000 ≤ (ns.length : Int) by omega) (show (ns.length : Int) ≤ 1000000000 by omega), sBind, runS, Int.toNat_natCast]
    refine for_rng (Q := fun r => ∃ T : List Int, Nice T ∧ T.length ≤ 3780 ∧ (match r with
      | .nx e' g' => sRet (vFrz (vVar 1)) e' g'
      | r => r) = .rt (.lst (T.map D.int)) (g ++ [.dead])) (fun j e g' => TP ns g.length (60 * j) e g g') ⟨[], _, _, _, rfl, rfl, rfl, fun _ h => (by cases h), Nat.le_refl _⟩ ?_ ?_
    · rintro j e g' hj ⟨T, a, b, c, rfl, rfl, _, hT, hl⟩
      refine ⟨_, rfl, ?_⟩
      have imp : ∀ {r : SR}, StepOK r (TP ns g.length (60 * j + 60) · g ·) (fun _ => False) → StepOK r (fun e g' => TP ns g.length (60 * (j + 1)) e g g') (fun r => ∃ T : List Int, Nice T ∧ T.length ≤ 3780 ∧ (match r with
        | .nx e' g' => sRet (vFrz (vVar 1)) e' g'
        | r => r) = .rt (.lst (T.map D.int)) (g ++ [.dead])) := by
        intro r h
        rw [show 60 * (j + 1) = 60 * j + 60 by omega]
        cases r with
        | nx e g => exact h
        | ct e g => exact h
        | _ => exact h.elim
      simp only [sSeq, sAsg, vOp, vVar, vC, Res.bind, sBind, List.set, List.getElem?_cons_zero, List.getElem?_cons_succ, vCB, aCons, aNil, ixD, itD, atI_ints ns hj, oR_some, intD, absD, sIf, tOf, powD]
      generalize hx : (if ns[j] < 0 then -ns[j] else ns[j]) = x
      have x0 : 0 ≤ x := by subst hx; split <;> omega
      simp only [show wB 10 18 = true from rfl, oR_some, geD, icD, Res.bind, bR_bl, sBind]
      generalize (10 : Int) ^ (18 : Int).toNat = N
      have t60 : (60 : Int).toNat = 60 := rfl
      have t4 : (4 : Int).toNat = 4 := rfl
      have c60 : rB 60 = true := rfl
      have c4 : rB 4 = true := rfl
      by_cases hb : N ≤ x
      · simp only [decide_eq_true hb, cond_true, sFor, iRng1, vC, Res.bind, sBind, c60, runS, t60]
        exact imp (tape_in1 hT hl (by omega) x0)
      · simp only [decide_eq_false hb, cond_false, sFor, iRng1, vC, Res.bind, sBind, c4, runS, t4]
        exact imp (tape_in2 hT hl (by omega))
    · rintro e g' ⟨T, a, b, c, rfl, rfl, _, hT, hl⟩
      refine ⟨T, hT, by omega, ?_⟩
      simp only [sRet, vFrz, vVar, List.getElem?_cons_zero, List.getElem?_cons_succ, Res.bind, sBind, frzD, get_snoc', set_snoc']
  obtain ⟨T, h1, h2, h3⟩ := key
  refine ⟨T, h1, h2, ?_⟩
  show (if [D.scr (ns.map D.int)].length = 1 then endM (tapeB [some (.scr (ns.map D.int)), none, none, none, none] g) else Res.stuck) = _
  rw [h3]
  rfl
/-! #### equations for simp -/
section
variable {e : En} {g : G} {a b c : EM} {t t' : TM} {m m' : SM} {ms : AM}
@[simp] theorem vVar_e {i : Nat} : vVar i e g = (match e[i]? with
  | some (some d) => .ok d g
  | _ => .stuck) := rfl
@[simp] theorem vC_e {d : D} : vC d e g = .ok d g := rfl
@[simp] theorem vUn_e {o : G → D → Option D} : vUn o a e g = (a e g).bind fun x g1 => oR (o g1 x) g1 := rfl
@[simp] theorem vOp_e {o : OpT} : vOp o a b e g = (a e g).bind fun x g1 => (b e g1).bind fun y g2 => oR (o g2 x y) g2 := rfl
@[simp] theorem tOf_e : tOf a e g = (a e g).bind bR := rfl
@[simp] theorem tAnd_e : tAnd t t' e g = (t e g).bind fun c g1 => bif c then t' e g1 else .ok false g1 := rfl
@[simp] theorem tOr_e : tOr t t' e g = (t e g).bind fun c g1 => bif c then .ok true g1 else t' e g1 := rfl
@[simp] theorem tNot_e : tNot t e g = (t e g).bind fun c g1 => .ok (!c) g1 := rfl
@[simp] theorem vAnd_e : vAnd a b e g = (a e g).bind fun d g1 => (bR d g1).bind fun c g2 => bif c then b e g2 else .ok (.bl false) g2 := rfl
@[simp] theorem vOr_e : vOr a b e g = (a e g).bind fun d g1 => (bR d g1).bind fun c g2 => bif c then .ok (.bl true) g2 else b e g2 := rfl
@[simp] theorem vNot_e : vNot a e g = (a e g).bind fun d g1 => (bR d g1).bind fun c g2 => .ok (.bl (!c)) g2 := rfl
@[simp] theorem vIf_e : vIf t a b e g = (t e g).bind fun c g1 => bif c then a e g1 else b e g1 := rfl
@[simp] theorem vChain_e {o o' : OpT} : vChain o o' a b c e g = (a e g).bind fun x g1 => (b e g1).bind fun y g2 => (oR (o g2 x y) g2).bind fun z g3 => (bR z g3).bind fun k g4 => bif k then (c e g4).bind fun w g5 => oR (o' g5 y w) g5 else .ok (.bl false) g4 := rfl
@[simp] theorem tTru_e : tTru a e g = (a e g).bind fun d g1 => match truD g1 d with
  | some b => .ok b g1
  | none => .stuck := rfl
@[simp] theorem aNil_e : aNil e g = .ok [] g := rfl
@[simp] theorem aCons_e : aCons a ms e g = (a e g).bind fun d g1 => (ms e g1).bind fun ds g2 => .ok (d :: ds) g2 := rfl
@[simp] theorem vCB_e {o : G → List D → Option D} : vCB o ms e g = (ms e g).bind fun ds g1 => oR (o g1 ds) g1 := rfl
@[simp] theorem vCall_e {f : MF} : vCall f ms e g = (ms e g).bind f := rfl
@[simp] theorem sNx_e : sNx e g = .nx e g := rfl
@[simp] theorem sSeq_e : sSeq m m' e g = (match m e g with
  | .nx e' g' => m' e' g'
  | r => r) := rfl
@[simp] theorem sAsg_e {i : Nat} : sAsg i a e g = sBind (a e g) e fun d g1 => .nx (e.set i (some d)) g1 := rfl
@[simp] theorem sDrop_e : sDrop a e g = sBind (a e g) e fun _ g1 => .nx e g1 := rfl
@[simp] theorem sRet_e : sRet a e g = sBind (a e g) e fun d g1 => .rt d g1 := rfl
@[simp] theorem sIf_e : sIf t m m' e g = sBind (t e g) e fun c g1 => bif c then m e g1 else m' e g1 := rfl
@[simp] theorem sFor_e {im : IM} {gm : GM} : sFor im gm m e g = sBind (im e g) e fun s g1 => runS gm m s e g1 := rfl
@[simp] theorem gN_e {i : Nat} {d : D} : gN i d g e = some (e.set i (some d)) := rfl
@[simp] theorem tYes_e : tYes e g = .ok true g := rfl
@[simp] theorem vLc_e {own : List Nat} {im : IM} {gm : GM} : vLc own im gm t a e g = (im e g).bind fun s g1 => (lcR gm t a s (wipeE e own) g1).bind fun ys g2 => .ok (.lst ys) g2 := rfl
@[simp] theorem vLcO_e {own : List Nat} {im : IM} {gm : GM} : vLcO own im gm t a e g = (im e g).bind fun s g1 => (lcR gm t a s (wipeE e own) g1).bind fun ys g2 => .ok (.ref g2.length) (g2 ++ [.lst ys]) := rfl
@[simp] theorem wipeE_nil : wipeE e [] = e := rfl
@[simp] theorem wipeE_cons {i : Nat} {is : List Nat} : wipeE e (i :: is) = (wipeE e is).set i none := rfl
@[simp] theorem endM_rt {d : D} : endM (.rt d g) = .ok d g := rfl
@[simp] theorem endM_nx : endM (.nx e g) = .ok .non g := rfl
@[simp] theorem oR_none : oR none g = .stuck := rfl
@[simp] theorem addD_int {i j : Int} : addD g (.int i) (.int j) = some (.int (i + j)) := rfl
@[simp] theorem subD_int {i j : Int} : subD g (.int i) (.int j) = some (.int (i - j)) := rfl
@[simp] theorem icD_int {p : Int → Int → Bool} {i j : Int} : icD p g (.int i) (.int j) = some (.bl (p i j)) := rfl
@[simp] theorem isN_e {d : D} : isN g d .non = some (.bl (nonD d)) := rfl
@[simp] theorem notN_e {d : D} : notN g d .non = some (.bl (!nonD d)) := rfl
@[simp] theorem nonD_non : nonD .non = true := rfl
@[simp] theorem nonD_int {i : Int} : nonD (.int i) = false := rfl
@[simp] theorem nonD_bl {i : Bool} : nonD (.bl i) = false := rfl
@[simp] theorem nonD_str {i : Nat} : nonD (.str i) = false := rfl
@[simp] theorem nonD_tup {i : List D} : nonD (.tup i) = false := rfl
@[simp] theorem nonD_lst {i : List D} : nonD (.lst i) = false := rfl
@[simp] theorem nonD_ref {i : Nat} : nonD (.ref i) = false := rfl
@[simp] theorem deq_int {i j : Int} : deq (.int i) (.int j) = (i == j) := by simp only [deq]
@[simp] theorem deq_bl {i j : Bool} : deq (.bl i) (.bl j) = (i == j) := by simp only [deq]
@[simp] theorem deq_str {i j : Nat} : deq (.str i) (.str j) = (i == j) := by simp only [deq]
@[simp] theorem deq_non : deq .non .non = true := by simp only [deq]
@[simp] theorem deq_tup {i j : List D} : deq (.tup i) (.tup j) = deqs i j := by simp only [deq]
@[simp] theorem deq_lst {i j : List D} : deq (.lst i) (.lst j) = deqs i j := by simp only [deq]
@[simp] theorem deqs_nil : deqs [] [] = true := by simp only [deqs]
@[simp] theorem deqs_cons {x y : D} {i j : List D} : deqs (x :: i) (y :: j) = (deq x y && deqs i j) := by simp only [deqs]
@[simp] theorem deqs_cn {x : D} {i : List D} : deqs (x :: i) [] = false := by simp only [deqs]
@[simp] theorem deqs_nc {x : D} {i : List D} : deqs [] (x :: i) = false := by simp only [deqs]
@[simp] theorem pud_non {n : Nat} : pud n .non = true := by cases n <;> rfl
@[simp] theorem pud_int {n : Nat} {i : Int} : pud n (.int i) = true := by cases n <;> rfl
@[simp] theorem pud_bl {n : Nat} {i : Bool} : pud n (.bl i) = true := by cases n <;> rfl
@[simp] theorem pud_str {n : Nat} {i : Nat} : pud n (.str i) = true := by cases n <;> rfl
theorem pud_tup {n : Nat} {ds : List D} : pud (n + 1) (.tup ds) = ds.all (pud n) := rfl
theorem pud_lst {n : Nat} {ds : List D} : pud (n + 1) (.lst ds) = ds.all (pud n) := rfl
@[simp] theorem pud8_tup {ds : List D} : pud 8 (.tup ds) = ds.all (pud 7) := rfl
@[simp] theorem pud8_lst {ds : List D} : pud 8 (.lst ds) = ds.all (pud 7) := rfl
@[simp] theorem pud7_tup {ds : List D} : pud 7 (.tup ds) = ds.all (pud 6) := rfl
@[simp] theorem pud7_lst {ds : List D} : pud 7 (.lst ds) = ds.all (pud 6) := rfl
@[simp] theorem pud6_tup {ds : List D} : pud 6 (.tup ds) = ds.all (pud 5) := rfl
@[simp] theorem pud6_lst {ds : List D} : pud 6 (.lst ds) = ds.all (pud 5) := rfl
@[simp] theorem pud5_tup {ds : List D} : pud 5 (.tup ds) = ds.all (pud 4) := rfl
@[simp] theorem truD_bl {b : Bool} : truD g (.bl b) = some b := rfl
@[simp] theorem truD_non : truD g .non = some false := rfl
@[simp] theorem truD_tup {ds : List D} : truD g (.tup ds) = some (!ds.isEmpty) := rfl
@[simp] theorem truD_lst {ds : List D} : truD g (.lst ds) = some (!ds.isEmpty) := rfl
theorem eqD_e {x y : D} (h : (pud 8 (snap g x) && pud 8 (snap g y)) = true) : eqD g x y = some (.bl (deq (snap g x) (snap g y))) := by unfold eqD; rw [h]
theorem neD_e {x y : D} (h : (pud 8 (snap g x) && pud 8 (snap g y)) = true) : neD g x y = some (.bl (!deq (snap g x) (snap g y))) := by unfold neD; rw [h]
@[simp] theorem ixD_tup {ds : List D} {i : Int} : ixD g (.tup ds) (.int i) = atI ds i := rfl
@[simp] theorem ixD_lst {ds : List D} {i : Int} : ixD g (.lst ds) (.int i) = atI ds i := rfl
@[simp] theorem ixD_scr {ds : List D} {i : Int} : ixD g (.scr ds) (.int i) = atI ds i := rfl
@[simp] theorem lenD_tup {ds : List D} : lenD g [.tup ds] = some (.int ds.length) := rfl
@[simp] theorem lenD_lst {ds : List D} : lenD g [.lst ds] = some (.int ds.length) := rfl
@[simp] theorem lenD_scr {ds : List D} : lenD g [.scr ds] = some (.int ds.length) := rfl
theorem lsD_tup {ds : List D} : lsD g (.tup ds) = none := rfl
end
theorem modD_e {g : G} {i j : Int} (h : 0 < j) : modD g (.int i) (.int j) = some (.int (i % j)) := by unfold modD; simp only [pB_of h]
theorem divD_e {g : G} {i j : Int} (h : 0 < j) (h' : j < 1073741824) : divD g (.int i) (.int j) = some (.int (i / j)) := by unfold divD; simp only [dB_of h h']
theorem mulD_r {g : G} {i j : Int} (h : -1000000000000 ≤ j) (h' : j ≤ 1000000000000) : mulD g (.int i) (.int j) = some (.int (i * j)) := by unfold mulD; simp only [mB_r h h']
theorem mulD_l {g : G} {i j : Int} (h : -1000000000000 ≤ i) (h' : i ≤ 1000000000000) : mulD g (.int i) (.int j) = some (.int (i * j)) := by unfold mulD; simp only [mB_l h h']
theorem vTup_e {ms : AM} {e : En} {g g1 : G} {ds : List D} (h : ms e g = .ok ds g1) (hl : okL ds.length = true) : vTup ms e g = .ok (.tup ds) g1 := by unfold vTup; rw [h]; simp only [Res.bind, hl]
theorem vLst_e {ms : AM} {e : En} {g g1 : G} {ds : List D} (h : ms e g = .ok ds g1) (hl : okL ds.length = true) : vLst ms e g = .ok (.lst ds) g1 := by unfold vLst; rw [h]; simp only [Res.bind, hl]
theorem for_rng1 {m : EM} {e : En} {g g1 : G} {n : Int} (h : m e g = .ok (.int n) g1) (hl : -1000000000 ≤ n) (hu : n ≤ 1000000000) : iRng1 m e g = .ok (.vals (rngL 0 n.toNat)) g1 := by unfold iRng1; rw [h]; simp only [Res.bind, rB_of hl hu]
/-! #### the law's reader -/
def atB : SM := (sSeq (sIf (tOf (vOp ltD (vVar 1) (vCB lenD (aCons (vVar 0) aNil)))) (sRet (vOp ixD (vVar 0) (vVar 1))) sNx)
    (sRet (vC (.int 0))))
def tk (T : List Int) (k : Nat) : Int := T.getD k 0
theorem tk_nice {T : List Int} (h : Nice T) (k : Nat) : 0 ≤ tk T k ∧ tk T k < 1000 := by
  unfold tk
  rw [List.getD_eq_getElem?_getD]
  cases e : T[k]? with
  | none => simp
  | some x => exact h x (List.mem_of_getElem? e)
theorem at_ok (T : List Int) (k : Nat) (g : G) : fnM 2 2 atB [.lst (T.map D.int), .int (k : Int)] g = .ok (.int (tk T k)) g := by
  show endM (atB [some (.lst (T.map D.int)), some (.int (k : Int))] g) = _
  unfold atB tk
  by_cases h : k < T.length
  · simp [h, atI_ints T h, List.getD_eq_getElem?_getD, List.getElem?_eq_getElem h]
  · simp [h, List.getD_eq_getElem?_getD, List.getElem?_eq_none (Nat.not_lt.mp h)]
end Y

set_option Elab.async false
set_option linter.all false
set_option maxRecDepth 100000
namespace Y
open PySem L2
/-! ### plain: more -/
theorem meth_e {nm : Nat} {tbl : List (Nat × MF)} {o : EM} {ms : AM} {e : En} {g g1 g2 : G} {l c : Nat} {fs : List (Nat × D)} {mf : MF} {ds : List D} (ho : o e g = .ok (.ref l) g1) (hg : g1[l]? = some (.ins c fs)) (hn : lkA nm fs = none) (hm : lkM c tbl = some mf) (ha : ms e g1 = .ok ds g2) : vMeth nm tbl o ms e g = mf (.ref l :: ds) g2 := by
  unfold vMeth
  simp only [ho, Res.bind, hg, hn, hm, ha]
/-- the source of a list by its value -/
theorem iLst_of {m : EM} {e : En} {g : G} {d : D} {xs : List D} (hm : m e g = .ok d g) (h : lsD g d = some xs) : ∃ s, iLst m e g = .ok s g ∧ srcL g s = some xs := by
  unfold iLst
  rw [hm]
  cases d with
  | lst ys => cases h; exact ⟨_, rfl, rfl⟩
  | ref l =>
    cases z : g[l]? with
    | none => rw [lsD, snap_ref, z] at h; cases h
    | some o =>
      rw [lsD, snap_ref, z] at h
      cases o with
      | lst ds =>
        cases h
        refine ⟨.obj l, ?_, ?_⟩
        · simp only [Res.bind, z]
        · unfold srcL; simp only [z]
      | _ => cases h
  | _ => cases h
theorem fldD_e {cs : List Nat} {n : Nat} {g : G} {l c : Nat} {fs : List (Nat × D)} {d : D} (h : g[l]? = some (.ins c fs)) (hc : cs.contains c = true) (hl : lkA n fs = some d) : fldD cs n g (.ref l) = some d := by
  unfold fldD
  simp only [h, hc, hl]
theorem setA_e {cs : List Nat} {n : Nat} {o m : EM} {e : En} {g g1 g2 : G} {l c : Nat} {fs : List (Nat × D)} {y : D} (hm : m e g = .ok y g1) (ho : o e g1 = .ok (.ref l) g2) (h : g2[l]? = some (.ins c fs)) (hc : cs.contains c = true) (hl : fs.length < 1000) : sSetA cs n o m e g = .nx e (g2.set l (.ins c (putA n y fs))) := by
  unfold sSetA
  simp only [hm, sBind, ho, h, hc, Bool.true_and, decide_eq_true hl]
theorem app_e {o m : EM} {e : En} {g g1 g2 : G} {l : Nat} {ds ds' : List D} {y : D} (ho : o e g = .ok (.ref l) g1) (h1 : g1[l]? = some (.lst ds')) (hm : m e g1 = .ok y g2) (h : g2[l]? = some (.lst ds)) (hl : ds.length < 16777216) : vApp o m e g = .ok .non (g2.set l (.lst (ds ++ [y]))) := by
  unfold vApp
  simp only [ho, Res.bind, lsD_ref h1, hm, h, ltL_of hl]
@[simp] theorem isiD_non {t : Ty} {g : G} : isiD t g .non = some (.bl (Ty.non.sub t)) := rfl
@[simp] theorem isiD_bl {t : Ty} {g : G} {b : Bool} : isiD t g (.bl b) = some (.bl (Ty.bool.sub t)) := rfl
@[simp] theorem isiD_int {t : Ty} {g : G} {b : Int} : isiD t g (.int b) = some (.bl (Ty.int.sub t)) := rfl
@[simp] theorem isiD_str {t : Ty} {g : G} {b : Nat} : isiD t g (.str b) = some (.bl (Ty.str.sub t)) := rfl
@[simp] theorem isiD_tup {t : Ty} {g : G} {b : List D} : isiD t g (.tup b) = some (.bl (Ty.tuple.sub t)) := rfl
@[simp] theorem isiD_lst {t : Ty} {g : G} {b : List D} : isiD t g (.lst b) = some (.bl (Ty.list.sub t)) := rfl
theorem isiD_of {t : Ty} {g : G} {d : D} {ds : List D} (h : lsD g d = some ds) : isiD t g d = some (.bl (Ty.list.sub t)) := by
  unfold isiD tyD
  rw [snap_of h]
@[simp] theorem sub_nt : Ty.non.sub .tuple = false := rfl
@[simp] theorem sub_nl : Ty.non.sub .list = false := rfl
@[simp] theorem sub_ni : Ty.non.sub .int = false := rfl
@[simp] theorem sub_nb : Ty.non.sub .bool = false := rfl
@[simp] theorem sub_ns : Ty.non.sub .str = false := rfl
@[simp] theorem sub_bt : Ty.bool.sub .tuple = false := rfl
@[simp] theorem sub_bl : Ty.bool.sub .list = false := rfl
@[simp] theorem sub_bi : Ty.bool.sub .int = true := rfl
@[simp] theorem sub_bb : Ty.bool.sub .bool = true := rfl
@[simp] theorem sub_bs : Ty.bool.sub .str = false := rfl
@[simp] theorem sub_it : Ty.int.sub .tuple = false := rfl
@[simp] theorem sub_il : Ty.int.sub .list = false := rfl
@[simp] theorem sub_ii : Ty.int.sub .int = true := rfl
@[simp] theorem sub_ib : Ty.int.sub .bool = false := rfl
@[simp] theorem sub_is : Ty.int.sub .str = false := rfl
@[simp] theorem sub_st : Ty.str.sub .tuple = false := rfl
@[simp] theorem sub_sl : Ty.str.sub .list = false := rfl
@[simp] theorem sub_si : Ty.str.sub .int = false := rfl
@[simp] theorem sub_sb : Ty.str.sub .bool = false := rfl
@[simp] theorem sub_ss : Ty.str.sub .str = true := rfl
@[simp] theorem sub_tt : Ty.tuple.sub .tuple = true := rfl
@[simp] theorem sub_tl : Ty.tuple.sub .list = false := rfl
@[simp] theorem sub_ti : Ty.tuple.sub .int = false := rfl
@[simp] theorem sub_tb : Ty.tuple.sub .bool = false := rfl
@[simp] theorem sub_ts : Ty.tuple.sub .str = false := rfl
@[simp] theorem sub_lt : Ty.list.sub .tuple = false := rfl
@[simp] theorem sub_ll : Ty.list.sub .list = true := rfl
@[simp] theorem sub_li : Ty.list.sub .int = false := rfl
@[simp] theorem sub_lb : Ty.list.sub .bool = false := rfl
@[simp] theorem sub_ls : Ty.list.sub .str = false := rfl
@[simp] theorem sRaise_e {c : Nat} {e : En} {g : G} : sRaise c e g = .exn c e g := rfl
@[simp] theorem endM_exn {c : Nat} {e : En} {g : G} : endM (.exn c e g) = .exn c g := rfl
@[simp] theorem sCat_e {c : Nat} {m : SM} {e : En} {g : G} : sCat c m e g = (match m e g with
  | .exn c' _ g' => if c' = c then .rt (.lst [.bl true]) g' else .stuck
  | r => r) := rfl
@[simp] theorem negD_int {g : G} {i : Int} : negD g (.int i) = some (.int (-i)) := rfl
theorem deqs_refl : ∀ (ds : List D), (∀ d ∈ ds, deq d d = true) → deqs ds ds = true
  | [], _ => by simp
  | d :: ds, h => by simp [h d List.mem_cons_self, deqs_refl ds fun x hx => h x (List.mem_cons_of_mem _ hx)]
theorem deq_refl : ∀ (n : Nat) (d : D), pud n d = true → deq d d = true
  | 0, d, h => by cases d <;> simp_all [pud]
  | n + 1, d, h => by
    cases d with
    | tup ds =>
      rw [pud_tup, List.all_eq_true] at h
      rw [deq_tup]
      exact deqs_refl ds fun x hx => deq_refl n x (h x hx)
    | lst ds =>
      rw [pud_lst, List.all_eq_true] at h
      rw [deq_lst]
      exact deqs_refl ds fun x hx => deq_refl n x (h x hx)
    | scr _ => cases h
    | ref _ => cases h
    | rng _ _ => cases h
    | dic _ _ => cases h
    | _ => simp
theorem eq_same {g : G} {x y d : D} (hx : snap g x = d) (hy : snap g y = d) (h : pud 8 d = true) : eqD g x y = some (.bl true) := by
  rw [eqD_e (by rw [hx, hy, h]; rfl), hx, hy, deq_refl 8 d h]
theorem ne_same {g : G} {x y d : D} (hx : snap g x = d) (hy : snap g y = d) (h : pud 8 d = true) : neD g x y = some (.bl false) := by
  rw [neD_e (by rw [hx, hy, h]; rfl), hx, hy, deq_refl 8 d h]
  rfl
theorem pud_mono : ∀ (n : Nat) (d : D), pud n d = true → pud (n + 1) d = true
  | 0, d, h => by cases d <;> simp_all [pud]
  | n + 1, d, h => by
    cases d with
    | tup ds =>
      rw [pud_tup, List.all_eq_true] at h ⊢
      exact fun x hx => pud_mono n x (h x hx)
    | lst ds =>
      rw [pud_lst, List.all_eq_true] at h ⊢
      exact fun x hx => pud_mono n x (h x hx)
    | scr _ => cases h
    | ref _ => cases h
    | rng _ _ => cases h
    | dic _ _ => cases h
    | _ => simp
theorem all_pud {α : Type} {n : Nat} {f : α → D} (xs : List α) (h : ∀ x, pud n (f x) = true) : (xs.map f).all (pud n) = true := by
  rw [List.all_eq_true]
  intro d hd
  obtain ⟨x, _, rfl⟩ := List.mem_map.mp hd
  exact h x
theorem okL_e {n : Nat} (h : n < 16777216) : okL n = true := okL_of (by omega)
/-- a comprehension over range(n) -/
theorem lcR_rng {gm : GM} {t : TM} {m : EM} {e : En} {g : G} (n : Nat) (p : Nat → Bool) (f : Nat → D) (hn : n ≤ 1000000) (h : ∀ i, i < n → ∃ e', gm (.int (i : Int)) g e = some e' ∧ t e' g = .ok (p i) g ∧ (p i = true → m e' g = .ok (f i) g)) :
    lcR gm t m (.vals (rngL 0 n)) e g = .ok (((List.range n).filter p).map f) g := by
  have := lcR_pure (gm := gm) (t := t) (m := m) (e := e) (g := g) (s := .vals (rngL 0 n)) (fun i : Nat => D.int (0 + (i : Int))) p f (List.range n) rfl (okL_of (by simp; omega)) (fun i hi => by
    obtain ⟨e', h1, h2, h3⟩ := h i (List.mem_range.mp hi)
    exact ⟨e', by rw [Int.zero_add]; exact h1, h2, h3⟩)
  exact this
theorem cut1 (xs : List D) : cutD xs (some 1) none = xs.drop 1 := by
  unfold cutD
  have e1 : HT.sIx xs.length 0 (some 1) = min 1 xs.length := HT.sIx_nat xs.length 0 1
  have e2 : HT.sIx xs.length xs.length none = xs.length := HT.sIx_none _ _
  rw [e1, e2, List.take_of_length_le (by simp)]
  cases xs with
  | nil => rfl
  | cons x xs => simp [Nat.min_eq_left]
@[simp] theorem bls_nil : bls [] = some [] := rfl
@[simp] theorem bls_cons {b : Bool} {r : List D} : bls (.bl b :: r) = (bls r).map (b :: ·) := rfl
theorem bls_map : ∀ bs : List Bool, bls (bs.map D.bl) = some bs
  | [] => rfl
  | b :: bs => by simp [bls_map bs]
theorem allD_e {g : G} {bs : List Bool} : allD g [.lst (bs.map D.bl)] = some (.bl (bs.all id)) := by
  unfold allD
  simp only [lsD_lst, bls_map]
  rfl
theorem anyD_e {g : G} {bs : List Bool} : anyD g [.lst (bs.map D.bl)] = some (.bl (bs.any id)) := by
  unfold anyD
  simp only [lsD_lst, bls_map]
  rfl
/-! #### running by simp -/
theorem seq_rng {im : IM} {gm : GM} {b m : SM} {e : En} {g : G} {n : Nat} {Q : SR → Prop} (P : Nat → En → G → Prop) (hi : im e g = .ok (.vals (rngL 0 n)) g) (h0 : P 0 e g)
    (hs : ∀ j e g, j < n → P j e g → ∃ e', gm (.int (j : Int)) g e = some e' ∧ StepOK (b e' g) (P (j + 1)) (fun r => Q (match r with
    | .nx e' g' => m e' g'
    | r => r))) (hd : ∀ e g, P n e g → Q (m e g)) : Q (sSeq (sFor im gm b) m e g) := by
  simp only [sSeq_e, sFor_e, hi, sBind, runS]
  exact for_rng (Q := fun r => Q (match r with
    | .nx e' g' => m e' g'
    | r => r)) P h0 hs hd
theorem rng_of {m : EM} {e : En} {g : G} {n : Nat} (h : m e g = .ok (.int (n : Int)) g) (hn : n ≤ 1000000) : iRng1 m e g = .ok (.vals (rngL 0 n)) g := by
  have := for_rng1 h (by omega) (by omega)
  simpa using this
theorem atI_mem {ds : List D} {i : Int} (h0 : 0 ≤ i) (h1 : i < ds.length) : ∃ d, atI ds i = some d ∧ d ∈ ds := by
  obtain ⟨n, rfl⟩ := Int.eq_ofNat_of_zero_le h0
  have h2 : n < ds.length := by omega
  exact ⟨_, atI_nat (List.getElem?_eq_getElem h2), List.getElem_mem h2⟩
theorem neD_u {g : G} {x y : D} : neD g x y = (match pud 8 (snap g x) && pud 8 (snap g y) with
  | true => some (.bl (!deq (snap g x) (snap g y)))
  | false => none) := rfl
theorem eqD_u {g : G} {x y : D} : eqD g x y = (match pud 8 (snap g x) && pud 8 (snap g y) with
  | true => some (.bl (deq (snap g x) (snap g y)))
  | false => none) := rfl
theorem make_e {c : Nat} {mf : MF} {a : AM} {e : En} {g g1 g2 : G} {ds : List D} (ha : a e g = .ok ds g1) (hm : mf (.ref g1.length :: ds) (g1 ++ [.ins c []]) = .ok .non g2) : vMake c mf a e g = .ok (.ref g1.length) g2 := by
  unfold vMake
  simp only [ha, Res.bind, hm]
theorem okL_s {n : Nat} (h : n < 1000) : okL n = true := okL_of (by omega)
theorem vTup_s {ms : AM} {e : En} {g : G} : vTup ms e g = (ms e g).bind fun ds g1 => match okL ds.length with
  | true => .ok (.tup ds) g1
  | false => .stuck := rfl
theorem vLst_s {ms : AM} {e : En} {g : G} : vLst ms e g = (ms e g).bind fun ds g1 => match okL ds.length with
  | true => .ok (.lst ds) g1
  | false => .stuck := rfl
theorem fnM_s {n N : Nat} {m : SM} {ds : List D} {g : G} : fnM n N m ds g = if ds.length = n then endM (m (ds.map some ++ List.replicate (N - ds.length) none) g) else .stuck := rfl
theorem ne_int {g : G} {i j : Int} : neD g (.int i) (.int j) = some (.bl (!(i == j))) := by rw [neD_e (by simp)]; simp
theorem eq_int {g : G} {i j : Int} : eqD g (.int i) (.int j) = some (.bl (i == j)) := by rw [eqD_e (by simp)]; simp
theorem eq_str {g : G} {i j : Nat} : eqD g (.str i) (.str j) = some (.bl (i == j)) := by rw [eqD_e (by simp)]; simp
theorem ne_str {g : G} {i j : Nat} : neD g (.str i) (.str j) = some (.bl (!(i == j))) := by rw [neD_e (by simp)]; simp
theorem ne_bl {g : G} {i j : Bool} : neD g (.bl i) (.bl j) = some (.bl (!(i == j))) := by rw [neD_e (by simp)]; simp
theorem eq_bl {g : G} {i j : Bool} : eqD g (.bl i) (.bl j) = some (.bl (i == j)) := by rw [eqD_e (by simp)]; simp
theorem at0 {a : D} {r : List D} : atI (a :: r) 0 = some a := atI_nat (j := 0) rfl
theorem at1 {a b : D} {r : List D} : atI (a :: b :: r) 1 = some b := atI_nat (j := 1) rfl
theorem at2 {a b c : D} {r : List D} : atI (a :: b :: c :: r) 2 = some c := atI_nat (j := 2) rfl
theorem at3 {a b c d : D} {r : List D} : atI (a :: b :: c :: d :: r) 3 = some d := atI_nat (j := 3) rfl
theorem at4 {a b c d e : D} {r : List D} : atI (a :: b :: c :: d :: e :: r) 4 = some e := atI_nat (j := 4) rfl
theorem pud_le {n k : Nat} {d : D} (h : n ≤ k) (q : pud n d = true) : pud k d = true := by
  induction h with
  | refl => exact q
  | step _ ih => exact pud_mono _ _ ih
theorem ne_ni {g : G} {j : Int} : neD g .non (.int j) = some (.bl true) := by rw [neD_e (by simp)]; simp [deq]
@[simp] theorem tsub_non_non : Ty.sub .non .non = true := rfl
@[simp] theorem tsub_non_bool : Ty.sub .non .bool = false := rfl
@[simp] theorem tsub_non_int : Ty.sub .non .int = false := rfl
@[simp] theorem tsub_non_str : Ty.sub .non .str = false := rfl
@[simp] theorem tsub_non_tuple : Ty.sub .non .tuple = false := rfl
@[simp] theorem tsub_non_list : Ty.sub .non .list = false := rfl
@[simp] theorem tsub_bool_non : Ty.sub .bool .non = false := rfl
@[simp] theorem tsub_bool_bool : Ty.sub .bool .bool = true := rfl
@[simp] theorem tsub_bool_int : Ty.sub .bool .int = true := rfl
@[simp] theorem tsub_bool_str : Ty.sub .bool .str = false := rfl
@[simp] theorem tsub_bool_tuple : Ty.sub .bool .tuple = false := rfl
@[simp] theorem tsub_bool_list : Ty.sub .bool .list = false := rfl
@[simp] theorem tsub_int_non : Ty.sub .int .non = false := rfl
@[simp] theorem tsub_int_bool : Ty.sub .int .bool = false := rfl
@[simp] theorem tsub_int_int : Ty.sub .int .int = true := rfl
@[simp] theorem tsub_int_str : Ty.sub .int .str = false := rfl
@[simp] theorem tsub_int_tuple : Ty.sub .int .tuple = false := rfl
@[simp] theorem tsub_int_list : Ty.sub .int .list = false := rfl
@[simp] theorem tsub_str_non : Ty.sub .str .non = false := rfl
@[simp] theorem tsub_str_bool : Ty.sub .str .bool = false := rfl
@[simp] theorem tsub_str_int : Ty.sub .str .int = false := rfl
@[simp] theorem tsub_str_str : Ty.sub .str .str = true := rfl
@[simp] theorem tsub_str_tuple : Ty.sub .str .tuple = false := rfl
@[simp] theorem tsub_str_list : Ty.sub .str .list = false := rfl
@[simp] theorem tsub_tuple_non : Ty.sub .tuple .non = false := rfl
@[simp] theorem tsub_tuple_bool : Ty.sub .tuple .bool = false := rfl
@[simp] theorem tsub_tuple_int : Ty.sub .tuple .int = false := rfl
@[simp] theorem tsub_tuple_str : Ty.sub .tuple .str = false := rfl
@[simp] theorem tsub_tuple_tuple : Ty.sub .tuple .tuple = true := rfl
@[simp] theorem tsub_tuple_list : Ty.sub .tuple .list = false := rfl
@[simp] theorem tsub_list_non : Ty.sub .list .non = false := rfl
@[simp] theorem tsub_list_bool : Ty.sub .list .bool = false := rfl
@[simp] theorem tsub_list_int : Ty.sub .list .int = false := rfl
@[simp] theorem tsub_list_str : Ty.sub .list .str = false := rfl
@[simp] theorem tsub_list_tuple : Ty.sub .list .tuple = false := rfl
@[simp] theorem tsub_list_list : Ty.sub .list .list = true := rfl
end Y

set_option Elab.async false
set_option linter.all false
set_option maxRecDepth 100000
set_option maxHeartbeats 4000000
namespace Z
open PySem PySem.Spec PyProof.Rows L2 Y
/-! ### the text by places (printed by gen.py) -/
def top (i : Nat) : Stmt := PySem.Challenge.pw_frametally_k04_whole_translations.main.body.getD i (.Pass ⟨0, 0, 0, 0⟩)
def s_Memory_log : Stmt := inClass (top 26) 10
def s__law_same : Stmt := top 35
def s_is_integer : Stmt := top 10
def s_is_within : Stmt := top 23
def s_Memory_check_cell : Stmt := inClass (top 26) 1
def s_Memory_peek : Stmt := inClass (top 26) 9
def s_Box_letters : Stmt := inClass (top 13) 3
def s_Buffer_entries : Stmt := inClass (top 3) 4
def s__law_looks : Stmt := top 36
def s_Sizes_frame_cell : Stmt := inClass (top 24) 4
def s_Buffer_frame_for : Stmt := inClass (top 3) 2
def s_Memory_use : Stmt := inClass (top 26) 8
def s_Buffer_drop : Stmt := inClass (top 3) 3
def s_Buffer_put : Stmt := inClass (top 3) 1
def s_Sizes_word : Stmt := inClass (top 24) 3
def s_Sizes_acknowledge : Stmt := inClass (top 24) 2
def s_Box_take : Stmt := inClass (top 13) 2
def s_Memory_take : Stmt := inClass (top 26) 7
def s_Memory_cell_result : Stmt := inClass (top 26) 6
def s_Memory_result : Stmt := inClass (top 26) 5
def s_is_pair : Stmt := top 11
def s_is_letter : Stmt := top 12
def s_Box_send : Stmt := inClass (top 13) 1
def s_Memory_check_page : Stmt := inClass (top 26) 3
def s_Memory_check_request : Stmt := inClass (top 26) 2
def s_Memory_access : Stmt := inClass (top 26) 4
def s__law_frame : Stmt := top 31
def s__law_use : Stmt := top 32
def s__law_put : Stmt := top 30
def s__law_due : Stmt := top 33
def s__law_request : Stmt := top 34
def s__law_at : Stmt := top 29
def s_Sizes_swap_block : Stmt := inClass (top 24) 5
def s_Sizes_file_block : Stmt := inClass (top 24) 6
def s_Sizes_cells : Stmt := inClass (top 24) 7
def s_Box___init__ : Stmt := inClass (top 13) 0
def s_Buffer___init__ : Stmt := inClass (top 3) 0
def s_first_values : Stmt := top 25
def s_Memory___init__ : Stmt := inClass (top 26) 0
def s_Sizes___init__ : Stmt := inClass (top 24) 0
def s__law_tape : Stmt := top 28
def s_law : Stmt := top 37
/-! ### what each def computes -/
def b_Memory_log : SM := (sRet (vListO (aCons (vFld [2, 3, 5] 0 (vVar 0)) aNil)))
def m_Memory_log : MF := fnM 1 1 b_Memory_log
def b__law_same : SM := (sRet (vAnd (vOp eqD (vUn (isiD .bool) (vVar 0)) (vUn (isiD .bool) (vVar 1))) (vOp eqD (vVar 0) (vVar 1))))
def m__law_same : MF := fnM 2 2 b__law_same
def b_is_integer : SM := (sRet (vAnd (vUn (isiD .int) (vVar 0)) (vNot (vUn (isiD .bool) (vVar 0)))))
def m_is_integer : MF := fnM 1 1 b_is_integer
def b_is_within : SM := (sRet (vAnd (vCall m_is_integer (aCons (vVar 0) aNil)) (vChain leD leD (vVar 1) (vVar 0) (vVar 2))))
def m_is_within : MF := fnM 3 3 b_is_within
def b_Memory_check_cell : SM := (sIf (tNot (tTru (vCall m_is_within (aCons (vVar 1) (aCons (vC (.int 0)) (aCons (vOp subD (vCB lenD (aCons (vFld [5] 1 (vVar 0)) aNil)) (vC (.int 1))) aNil)))))) (sRaise 1) sNx)
def m_Memory_check_cell : MF := fnM 2 2 b_Memory_check_cell
def b_Memory_peek : SM := (sSeq (sDrop (vMeth 28 [(5, m_Memory_check_cell)] (vVar 0) (aCons (vVar 1) aNil))) (sRet (vOp ixD (vFld [5] 1 (vVar 0)) (vVar 1))))
def m_Memory_peek : MF := fnM 2 2 b_Memory_peek
def b_Box_letters : SM := (sRet (vListO (aCons (vFld [2, 3, 5] 0 (vVar 0)) aNil)))
def m_Box_letters : MF := fnM 1 1 b_Box_letters
def b_Buffer_entries : SM := (sRet (vListO (aCons (vFld [2, 3, 5] 0 (vVar 0)) aNil)))
def m_Buffer_entries : MF := fnM 1 1 b_Buffer_entries
def b__law_looks : SM := (sSeq (sFor (iRng1 (vOp ixC (vVar 1) (vC (.str 43)))) (gN 2) (sIf (tOr (tOf (vOp neD (vMeth 42 [(2, m_Buffer_entries)] (vOp ixD (vFld [5] 7 (vVar 0)) (vVar 2)) aNil) (vOp ixD (vOp ixC (vVar 1) (vC (.str 7))) (vVar 2)))) (tOf (vOp neD (vMeth 41 [(3, m_Box_letters)] (vOp ixD (vFld [5] 8 (vVar 0)) (vVar 2)) aNil) (vOp ixD (vOp ixC (vVar 1) (vC (.str 8))) (vVar 2))))) (sRet (vC (.bl false))) sNx)) (sRet (vC (.bl true))))
def m__law_looks : MF := fnM 2 3 b__law_looks
def b_Sizes_frame_cell : SM := (sRet (vOp addD (vOp addD (vOp addD (vOp addD (vC (.int 1)) (vFld [4] 4 (vVar 0))) (vOp mulD (vC (.int 4)) (vC (.int 8)))) (vOp mulD (vC (.int 2)) (vVar 1))) (vVar 2)))
def m_Sizes_frame_cell : MF := fnM 3 3 b_Sizes_frame_cell
def b_Buffer_frame_for : SM := (sSeq (sFor (iLst (vFld [2, 3, 5] 0 (vVar 0))) (gN 4) (sIf (tAnd (tOf (vOp eqD (vSl (vVar 4) none (some (vC (.int 2)))) (vTup (aCons (vVar 1) (aCons (vVar 2) aNil))))) (tOr (tTru (vOp ixD (vVar 4) (vC (.int 3)))) (tNot (tTru (vVar 3))))) (sRet (vOp ixD (vVar 4) (vC (.int 2)))) sNx)) (sRet (vC .non)))
def m_Buffer_frame_for : MF := fnM 4 5 b_Buffer_frame_for
/-- line 203 -/
def c_Memory_use_1 : SM := (sRet (vTup (aCons (vC (.str 19)) aNil)))
/-- line 202 on -/
def c_Memory_use_2 : SM := (sSeq (sSub (vFld [5] 1 (vVar 0)) (vVar 5) (vOp ixD (vVar 2) (vC (.int 5)))) c_Memory_use_1)
/-- line 200 on -/
def c_Memory_use_3 : SM := (sSeq (sIf (tOf (vOp neD (vOp ixD (vFld [5] 1 (vVar 0)) (vVar 5)) (vOp ixD (vVar 2) (vC (.int 4))))) (sRet (vTup (aCons (vOp ixD (vFld [5] 1 (vVar 0)) (vVar 5)) aNil))) sNx) c_Memory_use_2)
/-- line 197 on -/
def c_Memory_use_4 : SM := (sSeq (sIf (tOf (vOp eqD (vVar 3) (vC (.str 16)))) (sSeq (sSub (vFld [5] 1 (vVar 0)) (vVar 5) (vOp ixD (vVar 2) (vC (.int 4)))) (sRet (vC (.bl true)))) sNx) c_Memory_use_3)
/-- line 195 on -/
def c_Memory_use_5 : SM := (sSeq (sIf (tOf (vOp eqD (vVar 3) (vC (.str 15)))) (sRet (vTup (aCons (vOp ixD (vFld [5] 1 (vVar 0)) (vVar 5)) aNil))) sNx) c_Memory_use_4)
/-- line 194 on -/
def c_Memory_use_6 : SM := (sSeq (sAsg 5 (vMeth 27 [(4, m_Sizes_frame_cell)] (vFld [5] 2 (vVar 0)) (aCons (vVar 4) (aCons (vOp ixD (vVar 2) (vC (.int 3))) aNil)))) c_Memory_use_5)
/-- line 192 on -/
def c_Memory_use_7 : SM := (sSeq (sIf (tOf (vOp isN (vVar 4) (vC .non))) (sRet (vIf (tOf (vOp eqD (vVar 3) (vC (.str 16)))) (vC (.bl false)) (vC .non))) sNx) c_Memory_use_6)
/-- line 191 on -/
def c_Memory_use_8 : SM := (sSeq (sAsg 4 (vMeth 24 [(2, m_Buffer_frame_for)] (vOp ixD (vFld [5] 7 (vVar 0)) (vVar 1)) (aCons (vOp ixD (vVar 2) (vC (.int 1))) (aCons (vOp ixD (vVar 2) (vC (.int 2))) (aCons (vOp neD (vVar 3) (vC (.str 15))) aNil))))) c_Memory_use_7)
def b_Memory_use : SM := (sSeq (sAsg 3 (vOp ixD (vVar 2) (vC (.int 0)))) c_Memory_use_8)
def m_Memory_use : MF := fnM 3 6 b_Memory_use
def b_Buffer_drop : SM := (sSetA [2, 3, 5] 0 (vVar 0) (vLcO [2] (iLst (vFld [2, 3, 5] 0 (vVar 0))) (gN 2) (tOf (vOp (inD true) (vSl (vVar 2) none (some (vC (.int 2)))) (vVar 1))) (vVar 2)))
def m_Buffer_drop : MF := fnM 2 3 b_Buffer_drop
/-- line 15 -/
def c_Buffer_put_1 : SM := (sSetA [2, 3, 5] 0 (vVar 0) (vSl (vFld [2, 3, 5] 0 (vVar 0)) (some (vUn negD (vC (.int 2)))) none))
/-- line 13 on -/
def c_Buffer_put_2 : SM := (sSeq (sIf (tAnd (tOf (vOp notN (vVar 3) (vC .non))) (tOf (vOp eqD (vOp ixD (vVar 3) (vC (.int 0))) (vC (.str 18))))) (sDrop (vApp (vFld [2, 3, 5] 0 (vVar 0)) (vTup (aCons (vVar 1) (aCons (vVar 2) (aCons (vOp ixD (vVar 3) (vC (.int 1))) (aCons (vOp ixD (vVar 3) (vC (.int 2))) aNil))))))) sNx) c_Buffer_put_1)
def b_Buffer_put : SM := (sSeq (sDrop (vMeth 23 [(2, m_Buffer_drop)] (vVar 0) (aCons (vLst (aCons (vTup (aCons (vVar 1) (aCons (vVar 2) aNil))) aNil)) aNil))) c_Buffer_put_2)
def m_Buffer_put : MF := fnM 4 4 b_Buffer_put
def b_Sizes_word : SM := (sRet (vOp addD (vOp addD (vOp addD (vC (.int 1)) (vFld [4] 4 (vVar 0))) (vOp mulD (vC (.int 8)) (vVar 1))) (vVar 2)))
def m_Sizes_word : MF := fnM 3 3 b_Sizes_word
def b_Sizes_acknowledge : SM := (sRet (vOp addD (vC (.int 1)) (vVar 1)))
def m_Sizes_acknowledge : MF := fnM 2 2 b_Sizes_acknowledge
/-- line 62 -/
def c_Box_take_1 : SM := (sRet (vVar 1))
/-- line 61 on -/
def c_Box_take_2 : SM := (sSeq (sSetA [2, 3, 5] 0 (vVar 0) (vSlO (vFld [2, 3, 5] 0 (vVar 0)) (some (vC (.int 1))) none)) c_Box_take_1)
/-- line 60 on -/
def c_Box_take_3 : SM := (sSeq (sAsg 1 (vOp ixD (vFld [2, 3, 5] 0 (vVar 0)) (vC (.int 0)))) c_Box_take_2)
def b_Box_take : SM := (sSeq (sIf (tNot (tTru (vFld [2, 3, 5] 0 (vVar 0)))) (sRet (vC .non)) sNx) c_Box_take_3)
def m_Box_take : MF := fnM 1 2 b_Box_take
/-- line 187 -/
def c_Memory_take_1 : SM := (sRet (vC (.bl true)))
/-- line 186 on -/
def c_Memory_take_2 : SM := (sSeq (sSub (vFld [5] 1 (vVar 0)) (vMeth 26 [(4, m_Sizes_acknowledge)] (vFld [5] 2 (vVar 0)) (aCons (vVar 1) aNil)) (vVar 3)) c_Memory_take_1)
/-- line 185 on -/
def c_Memory_take_3 : SM := (sSeq (sDrop (vMeth 23 [(2, m_Buffer_drop)] (vOp ixD (vFld [5] 7 (vVar 0)) (vVar 1)) (aCons (vVar 4) aNil))) c_Memory_take_2)
/-- line 184 on -/
def c_Memory_take_4 : SM := (sSeq (sTgt (vVar 2) (gT 2 (gsC (gN 3) (gsC (gN 4) gsN)))) c_Memory_take_3)
/-- line 182 on -/
def c_Memory_take_5 : SM := (sSeq (sIf (tOf (vOp isN (vVar 2) (vC .non))) (sRet (vC (.bl false))) sNx) c_Memory_take_4)
def b_Memory_take : SM := (sSeq (sAsg 2 (vMeth 13 [(3, m_Box_take)] (vOp ixD (vFld [5] 8 (vVar 0)) (vVar 1)) aNil)) c_Memory_take_5)
def m_Memory_take : MF := fnM 2 5 b_Memory_take
/-- line 178 -/
def c_Memory_cell_result_1 : SM := (sRet (vC (.bl true)))
/-- line 177 on -/
def c_Memory_cell_result_2 : SM := (sSeq (sSub (vFld [5] 1 (vVar 0)) (vVar 2) (vOp ixD (vVar 1) (vC (.int 3)))) c_Memory_cell_result_1)
/-- line 175 on -/
def c_Memory_cell_result_3 : SM := (sSeq (sIf (tOf (vOp neD (vOp ixD (vFld [5] 1 (vVar 0)) (vVar 2)) (vOp ixD (vVar 1) (vC (.int 2))))) (sRet (vC (.bl false))) sNx) c_Memory_cell_result_2)
/-- line 172 on -/
def c_Memory_cell_result_4 : SM := (sSeq (sIf (tOf (vOp eqD (vOp ixD (vVar 1) (vC (.int 0))) (vC (.str 10)))) (sSeq (sSub (vFld [5] 1 (vVar 0)) (vVar 2) (vOp ixD (vVar 1) (vC (.int 2)))) (sRet (vC .non))) sNx) c_Memory_cell_result_3)
/-- line 170 on -/
def c_Memory_cell_result_5 : SM := (sSeq (sIf (tOf (vOp eqD (vOp ixD (vVar 1) (vC (.int 0))) (vC (.str 9)))) (sRet (vOp ixD (vFld [5] 1 (vVar 0)) (vVar 2))) sNx) c_Memory_cell_result_4)
def b_Memory_cell_result : SM := (sSeq (sAsg 2 (vOp ixD (vVar 1) (vC (.int 1)))) c_Memory_cell_result_5)
def m_Memory_cell_result : MF := fnM 2 3 b_Memory_cell_result
/-- line 166 -/
def c_Memory_result_1 : SM := (sRet (vMeth 34 [(5, m_Memory_use)] (vVar 0) (aCons (vVar 1) (aCons (vVar 2) aNil))))
/-- line 165 -/
def c_Memory_result_2 : SM := (sRet (vVar 4))
/-- line 164 on -/
def c_Memory_result_3 : SM := (sSeq (sDrop (vMeth 22 [(2, m_Buffer_put)] (vOp ixD (vFld [5] 7 (vVar 0)) (vVar 1)) (aCons (vOp ixD (vVar 2) (vC (.int 1))) (aCons (vOp ixD (vVar 2) (vC (.int 2))) (aCons (vVar 4) aNil))))) c_Memory_result_2)
/-- line 162 on -/
def c_Memory_result_4 : SM := (sSeq (sIf (tOf (vOp eqD (vVar 3) (vC (.str 14)))) (sSeq (sAsg 4 (vOp ixD (vFld [5] 1 (vVar 0)) (vMeth 25 [(4, m_Sizes_word)] (vFld [5] 2 (vVar 0)) (aCons (vOp ixD (vVar 2) (vC (.int 1))) (aCons (vOp ixD (vVar 2) (vC (.int 2))) aNil))))) c_Memory_result_3) sNx) c_Memory_result_1)
/-- line 160 on -/
def c_Memory_result_5 : SM := (sSeq (sIf (tOf (vOp eqD (vVar 3) (vC (.str 13)))) (sRet (vMeth 13 [(5, m_Memory_take)] (vVar 0) (aCons (vVar 1) aNil))) sNx) c_Memory_result_4)
/-- line 158 on -/
def c_Memory_result_6 : SM := (sSeq (sIf (tOf (vOp eqD (vVar 3) (vC (.str 12)))) (sRet (vC .non)) sNx) c_Memory_result_5)
/-- line 156 on -/
def c_Memory_result_7 : SM := (sSeq (sIf (tOf (vOp (inD false) (vVar 3) (vTup (aCons (vC (.str 9)) (aCons (vC (.str 10)) (aCons (vC (.str 11)) aNil)))))) (sRet (vMeth 33 [(5, m_Memory_cell_result)] (vVar 0) (aCons (vVar 2) aNil))) sNx) c_Memory_result_6)
def b_Memory_result : SM := (sSeq (sAsg 3 (vOp ixD (vVar 2) (vC (.int 0)))) c_Memory_result_7)
def m_Memory_result : MF := fnM 3 5 b_Memory_result
def b_is_pair : SM := (sSeq (sIf (tOr (tNot (tTru (vUn (isiD .tuple) (vVar 0)))) (tOr (tOf (vOp neD (vCB lenD (aCons (vVar 0) aNil)) (vC (.int 2)))) (tOr (tNot (tTru (vCall m_is_integer (aCons (vOp ixD (vVar 0) (vC (.int 0))) aNil)))) (tNot (tTru (vCall m_is_integer (aCons (vOp ixD (vVar 0) (vC (.int 1))) aNil))))))) (sRet (vC (.bl false))) sNx) (sRet (vAnd (vChain leD ltD (vC (.int 0)) (vOp ixD (vVar 0) (vC (.int 0))) (vC (.int 4))) (vChain leD ltD (vC (.int 0)) (vOp ixD (vVar 0) (vC (.int 1))) (vC (.int 8))))))
def m_is_pair : MF := fnM 1 1 b_is_pair
/-- line 46 -/
def c_is_letter_1 : SM := (sRet (vAnd (vUn (isiD .tuple) (vVar 1)) (vAnd (vOp gtD (vCB lenD (aCons (vVar 1) aNil)) (vC (.int 0))) (vCB allD (aCons (vLc [2] (iTup (vVar 1)) (gN 2) tYes (vCall m_is_pair (aCons (vVar 2) aNil))) aNil)))))
/-- line 45 on -/
def c_is_letter_2 : SM := (sSeq (sAsg 1 (vOp ixD (vVar 0) (vC (.int 1)))) c_is_letter_1)
def b_is_letter : SM := (sSeq (sIf (tOr (tNot (tTru (vUn (isiD .tuple) (vVar 0)))) (tOr (tOf (vOp neD (vCB lenD (aCons (vVar 0) aNil)) (vC (.int 2)))) (tOr (tNot (tTru (vCall m_is_integer (aCons (vOp ixD (vVar 0) (vC (.int 0))) aNil)))) (tOf (vOp ltD (vOp ixD (vVar 0) (vC (.int 0))) (vC (.int 1))))))) (sRet (vC (.bl false))) sNx) c_is_letter_2)
def m_is_letter : MF := fnM 1 3 b_is_letter
def b_Box_send : SM := (sSeq (sIf (tNot (tTru (vCall m_is_letter (aCons (vVar 1) aNil)))) (sRaise 1) sNx) (sDrop (vApp (vFld [2, 3, 5] 0 (vVar 0)) (vVar 1))))
def m_Box_send : MF := fnM 2 2 b_Box_send
def b_Memory_check_page : SM := (sSeq (sIf (tOr (tNot (tTru (vCall m_is_within (aCons (vOp ixD (vVar 1) (vC (.int 1))) (aCons (vC (.int 0)) (aCons (vOp subD (vC (.int 4)) (vC (.int 1))) aNil)))))) (tNot (tTru (vCall m_is_within (aCons (vOp ixD (vVar 1) (vC (.int 2))) (aCons (vC (.int 0)) (aCons (vOp subD (vC (.int 8)) (vC (.int 1))) aNil))))))) (sRaise 1) sNx) (sIf (tAnd (tOf (vOp neD (vOp ixD (vVar 1) (vC (.int 0))) (vC (.str 14)))) (tNot (tTru (vCall m_is_within (aCons (vOp ixD (vVar 1) (vC (.int 3))) (aCons (vC (.int 0)) (aCons (vOp subD (vC (.int 2)) (vC (.int 1))) aNil))))))) (sRaise 1) sNx))
def m_Memory_check_page : MF := fnM 2 2 b_Memory_check_page
/-- line 132 -/
def c_Memory_check_request_1 : SM := (sIf (tOf (vOp (inD false) (vVar 3) (vTup (aCons (vC (.str 9)) (aCons (vC (.str 10)) (aCons (vC (.str 11)) aNil)))))) (sDrop (vMeth 28 [(5, m_Memory_check_cell)] (vVar 0) (aCons (vOp ixD (vVar 2) (vC (.int 1))) aNil))) (sIf (tOf (vOp eqD (vVar 3) (vC (.str 12)))) (sIf (tNot (tTru (vCall m_is_within (aCons (vOp ixD (vVar 2) (vC (.int 1))) (aCons (vC (.int 0)) (aCons (vOp subD (vFld [4] 4 (vFld [5] 2 (vVar 0))) (vC (.int 1))) aNil)))))) (sRaise 1) sNx) (sIf (tOf (vOp neD (vVar 3) (vC (.str 13)))) (sDrop (vMeth 30 [(5, m_Memory_check_page)] (vVar 0) (aCons (vVar 2) aNil))) sNx)))
/-- line 131 on -/
def c_Memory_check_request_2 : SM := (sSeq (sAsg 3 (vOp ixD (vVar 2) (vC (.int 0)))) c_Memory_check_request_1)
/-- line 129 on -/
def c_Memory_check_request_3 : SM := (sSeq (sIf (tOr (tOf (vOp eqD (vCB lenD (aCons (vVar 2) aNil)) (vC (.int 0)))) (tOf (vOp neD (vDGet (vC (.dic [(.str 9), (.str 10), (.str 11), (.str 12), (.str 13), (.str 14), (.str 15), (.str 16), (.str 17)] [(.int 2), (.int 3), (.int 4), (.int 3), (.int 1), (.int 3), (.int 4), (.int 5), (.int 6)])) (aCons (vOp ixD (vVar 2) (vC (.int 0))) aNil)) (vCB lenD (aCons (vVar 2) aNil))))) (sRaise 1) sNx) c_Memory_check_request_2)
def b_Memory_check_request : SM := (sSeq (sIf (tOr (tNot (tTru (vCall m_is_within (aCons (vVar 1) (aCons (vC (.int 0)) (aCons (vOp subD (vFld [4] 4 (vFld [5] 2 (vVar 0))) (vC (.int 1))) aNil)))))) (tNot (tTru (vUn (isiD .tuple) (vVar 2))))) (sRaise 1) sNx) c_Memory_check_request_3)
def m_Memory_check_request : MF := fnM 3 4 b_Memory_check_request
/-- line 152 -/
def c_Memory_access_1 : SM := (sRet (vTup (aCons (vMeth 32 [(5, m_Memory_result)] (vVar 0) (aCons (vVar 1) (aCons (vVar 2) aNil))) (aCons (vFld [5] 3 (vVar 0)) aNil))))
/-- line 151 on -/
def c_Memory_access_2 : SM := (sSeq (sDrop (vApp (vFld [2, 3, 5] 0 (vVar 0)) (vTup (aCons (vFld [5] 3 (vVar 0)) (aCons (vVar 1) (aCons (vVar 2) aNil)))))) c_Memory_access_1)
/-- line 150 on -/
def c_Memory_access_3 : SM := (sSeq (sAugA [5] 3 (vVar 0) (vC (.int 1))) c_Memory_access_2)
/-- line 148 on -/
def c_Memory_access_4 : SM := (sSeq (sIf (tOf (vOp eqD (vOp ixD (vVar 2) (vC (.int 0))) (vC (.str 12)))) (sDrop (vMeth 12 [(3, m_Box_send)] (vOp ixD (vFld [5] 8 (vVar 0)) (vOp ixD (vVar 2) (vC (.int 1)))) (aCons (vOp ixD (vVar 2) (vC (.int 2))) aNil))) sNx) c_Memory_access_3)
def b_Memory_access : SM := (sSeq (sDrop (vMeth 29 [(5, m_Memory_check_request)] (vVar 0) (aCons (vVar 1) (aCons (vVar 2) aNil)))) c_Memory_access_4)
def m_Memory_access : MF := fnM 3 3 b_Memory_access
def b__law_frame : SM := (sSeq (sFor (iLst (vVar 0)) (gN 4) (sIf (tAnd (tOf (vOp eqD (vSl (vVar 4) none (some (vC (.int 2)))) (vTup (aCons (vVar 1) (aCons (vVar 2) aNil))))) (tOr (tTru (vOp ixD (vVar 4) (vC (.int 3)))) (tNot (tTru (vVar 3))))) (sRet (vOp ixD (vVar 4) (vC (.int 2)))) sNx)) (sRet (vC .non)))
def m__law_frame : MF := fnM 4 5 b__law_frame
/-- line 257 -/
def c__law_use_1 : SM := (sRet (vTup (aCons (vC (.str 19)) aNil)))
/-- line 256 on -/
def c__law_use_2 : SM := (sSeq (sSub (vOp ixC (vVar 0) (vC (.str 1))) (vVar 5) (vOp ixD (vVar 2) (vC (.int 5)))) c__law_use_1)
/-- line 254 on -/
def c__law_use_3 : SM := (sSeq (sIf (tOf (vOp neD (vOp ixD (vOp ixC (vVar 0) (vC (.str 1))) (vVar 5)) (vOp ixD (vVar 2) (vC (.int 4))))) (sRet (vTup (aCons (vOp ixD (vOp ixC (vVar 0) (vC (.str 1))) (vVar 5)) aNil))) sNx) c__law_use_2)
/-- line 251 on -/
def c__law_use_4 : SM := (sSeq (sIf (tOf (vOp eqD (vVar 3) (vC (.str 16)))) (sSeq (sSub (vOp ixC (vVar 0) (vC (.str 1))) (vVar 5) (vOp ixD (vVar 2) (vC (.int 4)))) (sRet (vC (.bl true)))) sNx) c__law_use_3)
/-- line 249 on -/
def c__law_use_5 : SM := (sSeq (sIf (tOf (vOp eqD (vVar 3) (vC (.str 15)))) (sRet (vTup (aCons (vOp ixD (vOp ixC (vVar 0) (vC (.str 1))) (vVar 5)) aNil))) sNx) c__law_use_4)
/-- line 248 on -/
def c__law_use_6 : SM := (sSeq (sAsg 5 (vOp addD (vOp addD (vOp addD (vC (.int 33)) (vOp ixC (vVar 0) (vC (.str 43)))) (vOp mulD (vC (.int 2)) (vVar 4))) (vOp ixD (vVar 2) (vC (.int 3))))) c__law_use_5)
/-- line 246 on -/
def c__law_use_7 : SM := (sSeq (sIf (tOf (vOp isN (vVar 4) (vC .non))) (sRet (vOp ixD (vLst (aCons (vC .non) (aCons (vC (.bl false)) aNil))) (vCB intD (aCons (vOp eqD (vVar 3) (vC (.str 16))) aNil)))) sNx) c__law_use_6)
/-- line 245 on -/
def c__law_use_8 : SM := (sSeq (sAsg 4 (vCall m__law_frame (aCons (vOp ixD (vOp ixC (vVar 0) (vC (.str 7))) (vVar 1)) (aCons (vOp ixD (vVar 2) (vC (.int 1))) (aCons (vOp ixD (vVar 2) (vC (.int 2))) (aCons (vOp neD (vVar 3) (vC (.str 15))) aNil)))))) c__law_use_7)
def b__law_use : SM := (sSeq (sAsg 3 (vOp ixD (vVar 2) (vC (.int 0)))) c__law_use_8)
def m__law_use : MF := fnM 3 6 b__law_use
/-- line 237 -/
def c__law_put_1 : SM := (sRet (vVar 0))
/-- line 235 on -/
def c__law_put_2 : SM := (sSeq (sIf (tOf (vOp gtD (vCB lenD (aCons (vVar 0) aNil)) (vC (.int 2)))) (sAsg 0 (vSl (vVar 0) (some (vC (.int 1))) none)) sNx) c__law_put_1)
/-- line 233 on -/
def c__law_put_3 : SM := (sSeq (sIf (tAnd (tOf (vOp notN (vVar 3) (vC .non))) (tOf (vOp eqD (vOp ixD (vVar 3) (vC (.int 0))) (vC (.str 18))))) (sAsg 0 (vOp addD (vVar 0) (vLst (aCons (vTup (aCons (vVar 1) (aCons (vVar 2) (aCons (vOp ixD (vVar 3) (vC (.int 1))) (aCons (vOp ixD (vVar 3) (vC (.int 2))) aNil))))) aNil)))) sNx) c__law_put_2)
def b__law_put : SM := (sSeq (sAsg 0 (vLc [4] (iLst (vVar 0)) (gN 4) (tOf (vOp neD (vSl (vVar 4) none (some (vC (.int 2)))) (vTup (aCons (vVar 1) (aCons (vVar 2) aNil))))) (vVar 4))) c__law_put_3)
def m__law_put : MF := fnM 4 5 b__law_put
/-- line 278 -/
def c__law_due_1 : SM := (sRet (vCall m__law_use (aCons (vVar 0) (aCons (vVar 1) (aCons (vVar 2) aNil)))))
/-- line 277 -/
def c__law_due_2 : SM := (sRet (vC (.bl true)))
/-- line 276 on -/
def c__law_due_3 : SM := (sSeq (sSub (vOp ixC (vVar 0) (vC (.str 1))) (vOp addD (vC (.int 1)) (vVar 1)) (vVar 5)) c__law_due_2)
/-- line 275 on -/
def c__law_due_4 : SM := (sSeq (sSub (vOp ixC (vVar 0) (vC (.str 7))) (vVar 1) (vLc [7] (iLst (vOp ixD (vOp ixC (vVar 0) (vC (.str 7))) (vVar 1))) (gN 7) (tOf (vOp (inD true) (vSl (vVar 7) none (some (vC (.int 2)))) (vVar 6))) (vVar 7))) c__law_due_3)
/-- line 274 on -/
def c__law_due_5 : SM := (sSeq (sSub (vOp ixC (vVar 0) (vC (.str 8))) (vVar 1) (vSl (vOp ixD (vOp ixC (vVar 0) (vC (.str 8))) (vVar 1)) (some (vC (.int 1))) none)) c__law_due_4)
/-- line 273 on -/
def c__law_due_6 : SM := (sSeq (sTgt (vOp ixD (vOp ixD (vOp ixC (vVar 0) (vC (.str 8))) (vVar 1)) (vC (.int 0))) (gT 2 (gsC (gN 5) (gsC (gN 6) gsN)))) c__law_due_5)
/-- line 270 on -/
def c__law_due_7 : SM := (sSeq (sIf (tOf (vOp eqD (vVar 3) (vC (.str 13)))) (sSeq (sIf (tOf (vOp eqD (vOp ixD (vOp ixC (vVar 0) (vC (.str 8))) (vVar 1)) (vLst aNil))) (sRet (vC (.bl false))) sNx) c__law_due_6) sNx) c__law_due_1)
/-- line 267 on -/
def c__law_due_8 : SM := (sSeq (sIf (tOf (vOp eqD (vVar 3) (vC (.str 12)))) (sSeq (sSub (vOp ixC (vVar 0) (vC (.str 8))) (vOp ixD (vVar 2) (vC (.int 1))) (vOp addD (vOp ixD (vOp ixC (vVar 0) (vC (.str 8))) (vOp ixD (vVar 2) (vC (.int 1)))) (vLst (aCons (vOp ixD (vVar 2) (vC (.int 2))) aNil)))) (sRet (vC .non))) sNx) c__law_due_7)
/-- line 266 -/
def c__law_due_9 : SM := (sRet (vVar 4))
/-- line 265 on -/
def c__law_due_10 : SM := (sSeq (sSub (vOp ixC (vVar 0) (vC (.str 7))) (vVar 1) (vCall m__law_put (aCons (vOp ixD (vOp ixC (vVar 0) (vC (.str 7))) (vVar 1)) (aCons (vOp ixD (vVar 2) (vC (.int 1))) (aCons (vOp ixD (vVar 2) (vC (.int 2))) (aCons (vVar 4) aNil)))))) c__law_due_9)
/-- line 263 on -/
def c__law_due_11 : SM := (sSeq (sIf (tOf (vOp eqD (vVar 3) (vC (.str 14)))) (sSeq (sAsg 4 (vOp ixD (vOp ixC (vVar 0) (vC (.str 1))) (vOp addD (vOp addD (vOp addD (vC (.int 1)) (vOp ixC (vVar 0) (vC (.str 43)))) (vOp mulD (vC (.int 8)) (vOp ixD (vVar 2) (vC (.int 1))))) (vOp ixD (vVar 2) (vC (.int 2)))))) c__law_due_10) sNx) c__law_due_8)
/-- line 260 on -/
def c__law_due_12 : SM := (sSeq (sIf (tOf (vOp eqD (vVar 3) (vC (.str 10)))) (sSeq (sSub (vOp ixC (vVar 0) (vC (.str 1))) (vOp ixD (vVar 2) (vC (.int 1))) (vOp ixD (vVar 2) (vC (.int 2)))) (sRet (vC .non))) sNx) c__law_due_11)
def b__law_due : SM := (sSeq (sAsg 3 (vOp ixD (vVar 2) (vC (.int 0)))) c__law_due_12)
def m__law_due : MF := fnM 3 8 b__law_due
/-- line 299 -/
def c__law_request_1 : SM := (sRet (vTup (aCons (vC (.str 13)) aNil)))
/-- line 296 on -/
def c__law_request_2 : SM := (sSeq (sIf (tOf (vOp eqD (vVar 6) (vC (.int 8)))) (sSeq (sAsg 8 (vCB tupleD (aCons (vSl (vLst (aCons (vTup (aCons (vVar 4) (aCons (vVar 5) aNil))) (aCons (vTup (aCons (vOp modD (vVar 3) (vC (.int 2))) (aCons (vOp modD (vOp divD (vVar 3) (vC (.int 2))) (vC (.int 8))) aNil))) aNil))) none (some (vOp addD (vC (.int 1)) (vOp modD (vOp divD (vVar 3) (vC (.int 16))) (vC (.int 2)))))) aNil))) (sRet (vTup (aCons (vC (.str 12)) (aCons (vOp modD (vVar 3) (vOp ixC (vVar 0) (vC (.str 43)))) (aCons (vTup (aCons (vOp addD (vC (.int 1)) (vVar 3)) (aCons (vVar 8) aNil))) aNil)))))) sNx) c__law_request_1)
/-- line 294 on -/
def c__law_request_3 : SM := (sSeq (sIf (tOf (vOp eqD (vVar 6) (vC (.int 7)))) (sRet (vTup (aCons (vC (.str 17)) (aCons (vVar 4) (aCons (vVar 5) (aCons (vOp modD (vVar 3) (vC (.int 2))) (aCons (vOp ixD (vLst (aCons (vOp divD (vVar 3) (vC (.int 2))) (aCons (vC (.int 0)) aNil))) (vOp modD (vOp divD (vVar 3) (vC (.int 3))) (vC (.int 2)))) (aCons (vOp divD (vVar 3) (vC (.int 5))) aNil)))))))) sNx) c__law_request_2)
/-- line 292 on -/
def c__law_request_4 : SM := (sSeq (sIf (tOf (vOp eqD (vVar 6) (vC (.int 6)))) (sRet (vTup (aCons (vC (.str 16)) (aCons (vVar 4) (aCons (vVar 5) (aCons (vOp modD (vVar 3) (vC (.int 2))) (aCons (vVar 3) aNil))))))) sNx) c__law_request_3)
/-- line 290 on -/
def c__law_request_5 : SM := (sSeq (sIf (tOf (vOp eqD (vVar 6) (vC (.int 5)))) (sRet (vTup (aCons (vC (.str 15)) (aCons (vVar 4) (aCons (vVar 5) (aCons (vOp modD (vVar 3) (vC (.int 2))) aNil)))))) sNx) c__law_request_4)
/-- line 288 on -/
def c__law_request_6 : SM := (sSeq (sIf (tOf (vOp ltD (vVar 6) (vC (.int 5)))) (sRet (vTup (aCons (vC (.str 14)) (aCons (vVar 4) (aCons (vVar 5) aNil))))) sNx) c__law_request_5)
/-- line 286 on -/
def c__law_request_7 : SM := (sSeq (sIf (tOf (vOp eqD (vVar 6) (vC (.int 2)))) (sRet (vTup (aCons (vC (.str 10)) (aCons (vOp addD (vOp addD (vC (.int 33)) (vOp ixC (vVar 0) (vC (.str 43)))) (vOp modD (vVar 3) (vC (.int 8)))) (aCons (vVar 3) aNil))))) sNx) c__law_request_6)
/-- line 283 on -/
def c__law_request_8 : SM := (sSeq (sIf (tOf (vOp ltD (vVar 6) (vC (.int 2)))) (sSeq (sAsg 7 (vOp ixD (vLst (aCons (vTup (aCons (vC (.str 18)) (aCons (vOp modD (vVar 3) (vC (.int 4))) (aCons (vOp eqD (vOp modD (vOp divD (vVar 3) (vC (.int 4))) (vC (.int 2))) (vC (.int 0))) aNil)))) (aCons (vTup (aCons (vC (.str 18)) (aCons (vC (.int 0)) (aCons (vC (.bl true)) aNil)))) (aCons (vC .non) (aCons (vTup (aCons (vC (.str 11)) (aCons (vC (.int 1)) aNil))) aNil))))) (vOp modD (vOp divD (vVar 3) (vC (.int 8))) (vC (.int 4))))) (sRet (vTup (aCons (vC (.str 10)) (aCons (vOp addD (vOp addD (vOp addD (vC (.int 1)) (vOp ixC (vVar 0) (vC (.str 43)))) (vOp mulD (vC (.int 8)) (vVar 4))) (vVar 5)) (aCons (vVar 7) aNil)))))) sNx) c__law_request_7)
/-- line 282 on -/
def c__law_request_9 : SM := (sSeq (sAsg 6 (vOp modD (vVar 1) (vC (.int 10)))) c__law_request_8)
/-- line 281 on -/
def c__law_request_10 : SM := (sSeq (sAsg 5 (vOp ixD (vLst (aCons (vC (.int 0)) (aCons (vC (.int 1)) (aCons (vC (.int 2)) (aCons (vC (.int 7)) aNil))))) (vOp modD (vOp divD (vVar 2) (vC (.int 2))) (vC (.int 4))))) c__law_request_9)
def b__law_request : SM := (sSeq (sAsg 4 (vOp modD (vVar 2) (vC (.int 2)))) c__law_request_10)
def m__law_request : MF := fnM 4 9 b__law_request
def b__law_at : SM := (sSeq (sIf (tOf (vOp ltD (vVar 1) (vCB lenD (aCons (vVar 0) aNil)))) (sRet (vOp ixD (vVar 0) (vVar 1))) sNx) (sRet (vC (.int 0))))
def m__law_at : MF := fnM 2 2 b__law_at
def b_Sizes_swap_block : SM := (sRet (vOp addD (vMeth 27 [(4, m_Sizes_frame_cell)] (vVar 0) (aCons (vFld [4] 5 (vVar 0)) (aCons (vC (.int 0)) aNil))) (vVar 1)))
def m_Sizes_swap_block : MF := fnM 2 2 b_Sizes_swap_block
def b_Sizes_file_block : SM := (sRet (vOp addD (vOp addD (vMeth 38 [(4, m_Sizes_swap_block)] (vVar 0) (aCons (vFld [4] 6 (vVar 0)) aNil)) (vOp mulD (vC (.int 4)) (vVar 1))) (vVar 2)))
def m_Sizes_file_block : MF := fnM 3 3 b_Sizes_file_block
def b_Sizes_cells : SM := (sRet (vMeth 39 [(4, m_Sizes_file_block)] (vVar 0) (aCons (vC (.int 2)) (aCons (vC (.int 0)) aNil))))
def m_Sizes_cells : MF := fnM 1 1 b_Sizes_cells
def b_Box___init__ : SM := (sSetA [2, 3, 5] 0 (vVar 0) (vLstO aNil))
def m_Box___init__ : MF := fnM 1 1 b_Box___init__
def b_Buffer___init__ : SM := (sSetA [2, 3, 5] 0 (vVar 0) (vLst aNil))
def m_Buffer___init__ : MF := fnM 1 1 b_Buffer___init__
/-- line 111 -/
def c_first_values_1 : SM := (sRet (vAddO (vVar 1) (vOp mulD (vLst (aCons (vTup (aCons (vC (.int 0)) (aCons (vC (.int 0)) aNil))) aNil)) (vOp addD (vFld [4] 6 (vVar 0)) (vOp mulD (vC (.int 2)) (vC (.int 4)))))))
/-- line 110 on -/
def c_first_values_2 : SM := (sSeq (sAsg 1 (vOp addD (vVar 1) (vOp mulD (vLst (aCons (vC (.int 0)) aNil)) (vOp mulD (vC (.int 2)) (vFld [4] 5 (vVar 0)))))) c_first_values_1)
def b_first_values : SM := (sSeq (sAsg 1 (vOp addD (vOp mulD (vLst (aCons (vC (.int 0)) aNil)) (vOp addD (vC (.int 1)) (vFld [4] 4 (vVar 0)))) (vOp mulD (vLst (aCons (vC .non) aNil)) (vOp mulD (vC (.int 4)) (vC (.int 8)))))) c_first_values_2)
def m_first_values : MF := fnM 1 2 b_first_values
/-- line 120 -/
def c_Memory___init___1 : SM := (sSetA [2, 3, 5] 0 (vVar 0) (vLstO aNil))
/-- line 119 on -/
def c_Memory___init___2 : SM := (sSeq (sSetA [5] 8 (vVar 0) (vLc [2] (iRng1 (vFld [4] 4 (vVar 1))) (gN 2) tYes (vMake 3 m_Box___init__ aNil))) c_Memory___init___1)
/-- line 118 on -/
def c_Memory___init___3 : SM := (sSeq (sSetA [5] 7 (vVar 0) (vLc [2] (iRng1 (vFld [4] 4 (vVar 1))) (gN 2) tYes (vMake 2 m_Buffer___init__ aNil))) c_Memory___init___2)
/-- line 117 on -/
def c_Memory___init___4 : SM := (sSeq (sSetA [5] 1 (vVar 0) (vCall m_first_values (aCons (vVar 1) aNil))) c_Memory___init___3)
/-- line 116 on -/
def c_Memory___init___5 : SM := (sSeq (sSetA [5] 3 (vVar 0) (vC (.int 0))) c_Memory___init___4)
def b_Memory___init__ : SM := (sSeq (sSetA [5] 2 (vVar 0) (vVar 1)) c_Memory___init___5)
def m_Memory___init__ : MF := fnM 2 3 b_Memory___init__
/-- line 86 -/
def c_Sizes___init___1 : SM := (sSetA [4] 6 (vVar 0) (vVar 3))
/-- line 85 on -/
def c_Sizes___init___2 : SM := (sSeq (sSetA [4] 5 (vVar 0) (vVar 2)) c_Sizes___init___1)
/-- line 84 on -/
def c_Sizes___init___3 : SM := (sSeq (sSetA [4] 4 (vVar 0) (vVar 1)) c_Sizes___init___2)
/-- line 82 on -/
def c_Sizes___init___4 : SM := (sSeq (sIf (tNot (tTru (vCall m_is_within (aCons (vVar 3) (aCons (vC (.int 0)) (aCons (vC (.int 12)) aNil)))))) (sRaise 1) sNx) c_Sizes___init___3)
def b_Sizes___init__ : SM := (sSeq (sIf (tOr (tNot (tTru (vCall m_is_within (aCons (vVar 1) (aCons (vC (.int 1)) (aCons (vC (.int 3)) aNil)))))) (tNot (tTru (vCall m_is_within (aCons (vVar 2) (aCons (vC (.int 2)) (aCons (vC (.int 12)) aNil))))))) (sRaise 1) sNx) c_Sizes___init___4)
def m_Sizes___init__ : MF := fnM 4 4 b_Sizes___init__
/-- line 226 -/
def c__law_tape_1 : SM := (sRet (vFrz (vVar 1)))
/-- line 225 -/
def c__law_tape_2 : SM := (sDrop (vApp (vVar 1) (vOp modD (vOp divD (vVar 3) (vC (.int 1000))) (vC (.int 1000)))))
/-- line 224 on -/
def c__law_tape_3 : SM := (sSeq (sAsg 3 (vOp modD (vOp mulD (vVar 3) (vC (.int 16807))) (vC (.int 2147483647)))) c__law_tape_2)
/-- the loop of line 223 -/
def c__law_tape_4 : SM := (sSeq (sAsg 3 (vOp modD (vOp addD (vOp addD (vOp mulD (vVar 3) (vC (.int 48271))) (vOp mulD (vC (.int 69621)) (vOp addD (vVar 2) (vC (.int 1))))) (vOp mulD (vC (.int 7)) (vVar 4))) (vC (.int 2147483647)))) c__law_tape_3)
/-- the loop of line 215 -/
def c__law_tape_5 : SM := (sSeq (sAsg 3 (vCB absD (aCons (vCB intD (aCons (vOp ixD (vVar 0) (vVar 2)) aNil)) aNil))) (sIf (tOf (vOp geD (vVar 3) (vOp powD (vC (.int 10)) (vC (.int 18))))) (sFor (iRng1 (vC (.int 60))) (gN 4) (sIf (tOf (vOp gtD (vVar 3) (vC (.int 0)))) (sSeq (sDrop (vApp (vVar 1) (vOp modD (vVar 3) (vC (.int 1000))))) (sAsg 3 (vOp divD (vVar 3) (vC (.int 1000))))) sNx)) (sFor (iRng1 (vC (.int 4))) (gN 4) c__law_tape_4)))
/-- line 214 on -/
def c__law_tape_6 : SM := (sSeq (sFor (iRng1 (vCB lenD (aCons (vVar 0) aNil))) (gN 2) c__law_tape_5) c__law_tape_1)
def b__law_tape : SM := (sSeq (sAsg 1 (vLstO aNil)) c__law_tape_6)
def m__law_tape : MF := fnM 1 5 b__law_tape
/-- line 329 -/
def c_law_1 : SM := (sRet (vAnd (vOp eqD (vMeth 36 [(5, m_Memory_log)] (vVar 3) aNil) (vVar 6)) (vOp eqD (vFld [5] 3 (vVar 3)) (vCB lenD (aCons (vVar 6) aNil)))))
/-- line 326 on -/
def c_law_2 : SM := (sSeq (sFor (iRng1 (vVar 4)) (gN 13) (sIf (tNot (tTru (vCall m__law_same (aCons (vMeth 35 [(5, m_Memory_peek)] (vVar 3) (aCons (vVar 13) aNil)) (aCons (vOp ixD (vOp ixC (vVar 5) (vC (.str 1))) (vVar 13)) aNil))))) (sRet (vC (.bl false))) sNx)) c_law_1)
/-- line 324 -/
def c_law_3 : SM := (sIf (tOr (tNot (tTru (vUn (isiD .tuple) (vVar 12)))) (tOr (tOf (vOp neD (vOp ixD (vVar 12) (vC (.int 1))) (vOp addD (vVar 7) (vC (.int 1))))) (tOr (tNot (tTru (vCall m__law_same (aCons (vOp ixD (vVar 12) (vC (.int 0))) (aCons (vVar 11) aNil))))) (tNot (tTru (vCall m__law_looks (aCons (vVar 3) (aCons (vVar 5) aNil)))))))) (sRet (vC (.bl false))) sNx)
/-- line 323 on -/
def c_law_4 : SM := (sSeq (sAsg 12 (vMeth 31 [(5, m_Memory_access)] (vVar 3) (aCons (vVar 9) (aCons (vVar 10) aNil)))) c_law_3)
/-- line 322 on -/
def c_law_5 : SM := (sSeq (sDrop (vApp (vVar 6) (vTup (aCons (vOp addD (vVar 7) (vC (.int 1))) (aCons (vVar 9) (aCons (vVar 10) aNil)))))) c_law_4)
/-- line 321 on -/
def c_law_6 : SM := (sSeq (sAsg 11 (vCall m__law_due (aCons (vVar 5) (aCons (vVar 9) (aCons (vVar 10) aNil))))) c_law_5)
/-- line 320 on -/
def c_law_7 : SM := (sSeq (sAsg 10 (vCall m__law_request (aCons (vVar 5) (aCons (vVar 8) (aCons (vCall m__law_at (aCons (vVar 1) (aCons (vOp addD (vVar 7) (vC (.int 2))) aNil))) (aCons (vCall m__law_at (aCons (vVar 1) (aCons (vOp addD (vVar 7) (vC (.int 3))) aNil))) aNil)))))) c_law_6)
/-- line 319 on -/
def c_law_8 : SM := (sSeq (sAsg 9 (vOp modD (vOp divD (vVar 8) (vC (.int 10))) (vVar 2))) c_law_7)
/-- the loop of line 318 -/
def c_law_9 : SM := (sSeq (sAsg 8 (vCall m__law_at (aCons (vVar 1) (aCons (vOp addD (vVar 7) (vC (.int 1))) aNil)))) c_law_8)
/-- line 317 on -/
def c_law_10 : SM := (sSeq (sFor (iRng1 (vCB minD (aCons (vC (.int 90)) (aCons (vCB maxD (aCons (vC (.int 0)) (aCons (vOp subD (vCB lenD (aCons (vVar 1) aNil)) (vC (.int 3))) aNil))) aNil)))) (gN 7) c_law_9) c_law_2)
/-- line 316 on -/
def c_law_11 : SM := (sSeq (sAsg 6 (vLstO aNil)) c_law_10)
/-- line 315 on -/
def c_law_12 : SM := (sSeq (sSubC (vVar 5) (vC (.str 8)) (vLcO [9] (iRng1 (vVar 2)) (gN 9) tYes (vLst aNil))) c_law_11)
/-- line 314 on -/
def c_law_13 : SM := (sSeq (sSubC (vVar 5) (vC (.str 7)) (vLcO [9] (iRng1 (vVar 2)) (gN 9) tYes (vLst aNil))) c_law_12)
/-- line 313 on -/
def c_law_14 : SM := (sSeq (sSubC (vVar 5) (vC (.str 1)) (vLcO [13] (iRng1 (vVar 4)) (gN 13) tYes (vMeth 35 [(5, m_Memory_peek)] (vVar 3) (aCons (vVar 13) aNil)))) c_law_13)
/-- line 312 on -/
def c_law_15 : SM := (sSeq (sAsg 5 (vDctP (aCons (vLst (aCons (vTup (aCons (vC (.str 43)) (aCons (vVar 2) aNil))) aNil)) aNil))) c_law_14)
/-- line 311 on -/
def c_law_16 : SM := (sSeq (sAsg 4 (vMeth 40 [(4, m_Sizes_cells)] (vFld [5] 2 (vVar 3)) aNil)) c_law_15)
/-- line 310 on -/
def c_law_17 : SM := (sSeq (sAsg 3 (vMake 5 m_Memory___init__ (aCons (vMake 4 m_Sizes___init__ (aCons (vVar 2) (aCons (vC (.int 4)) (aCons (vC (.int 3)) aNil)))) aNil))) c_law_16)
/-- line 309 on -/
def c_law_18 : SM := (sSeq (sAsg 2 (vOp addD (vC (.int 1)) (vOp modD (vCall m__law_at (aCons (vVar 1) (aCons (vC (.int 0)) aNil))) (vC (.int 3))))) c_law_17)
def b_law : SM := (sSeq (sAsg 1 (vCall m__law_tape (aCons (vVar 0) aNil))) c_law_18)
def m_law : MF := fnM 1 14 b_law
/-! ### what is asked of the top -/
def TAB : List Str := (["rows", "held", "sizes", "count", "processors", "frames", "blocks", "buffers", "boxes", "read", "write", "swap", "send", "take", "walk", "load", "store", "change", "frame", "done", "end", "call", "put", "drop", "frame_for", "word", "acknowledge", "frame_cell", "check_cell", "check_request"] : List Str) ++ (["check_page", "access", "result", "cell_result", "use", "peek", "log", "lock", "swap_block", "file_block", "cells", "letters", "entries", "many"] : List Str)
theorem tab_nd : TAB.Nodup := by decide +kernel
theorem tab_sk : TAB.all PyData.strOk = true := by decide +kernel
structure Facts (Kt : Kit) : Prop where
  tb : Kt.tab = TAB
  k_Buffer : ∃ C, Kt.cls[2]? = some C ∧ Kt.mg "Buffer" = some (.ref C)
  k_Box : ∃ C, Kt.cls[3]? = some C ∧ Kt.mg "Box" = some (.ref C)
  k_Sizes : ∃ C, Kt.cls[4]? = some C ∧ Kt.mg "Sizes" = some (.ref C)
  k_Memory : ∃ C, Kt.cls[5]? = some C ∧ Kt.mg "Memory" = some (.ref C)
  k_PageError : ∃ C, Kt.cls[0]? = some C ∧ Kt.mg "PageError" = some (.ref C)
  k_NotValid : ∃ C, Kt.cls[1]? = some C ∧ Kt.mg "NotValid" = some (.ref C)
  ca_count : CA Kt [5] "count"
  f_len : Kt.mg "len" = none
  ca_rows : CA Kt [2, 3, 5] "rows"
  f_list : Kt.mg "list" = none
  f_range : Kt.mg "range" = none
  f_isinstance : Kt.mg "isinstance" = none
  f_bool : Kt.mg "bool" = none
  ca_held : CA Kt [5] "held"
  f_int : Kt.mg "int" = none
  x_NotValid : ExK Kt "NotValid" 1
  f_max : Kt.mg "max" = none
  f_min : Kt.mg "min" = none
  ca_boxes : CA Kt [5] "boxes"
  ca_buffers : CA Kt [5] "buffers"
  f_tuple : Kt.mg "tuple" = none
  ca_processors : CA Kt [4] "processors"
  i_SPACES : ∃ t, Kt.mg "SPACES" = some (.int 4 t)
  i_PAGES : ∃ t, Kt.mg "PAGES" = some (.int 8 t)
  i_CELLS : ∃ t, Kt.mg "CELLS" = some (.int 2 t)
  ca_sizes : CA Kt [5] "sizes"
  i_MOST_ENTRIES : ∃ t, Kt.mg "MOST_ENTRIES" = some (.int 2 t)
  f_all : Kt.mg "all" = none
  i_LENGTHS : ∃ a, Kt.mg "LENGTHS" = some (.ref a) ∧ KD Kt a [.str 9, .str 10, .str 11, .str 12, .str 13, .str 14, .str 15, .str 16, .str 17] [.int 2, .int 3, .int 4, .int 3, .int 1, .int 3, .int 4, .int 5, .int 6]
  f_dict : Kt.mg "dict" = none
  ca_frames : CA Kt [4] "frames"
  ca_blocks : CA Kt [4] "blocks"
  i_FILE_PAGES : ∃ t, Kt.mg "FILE_PAGES" = some (.int 4 t)
  i_FILES : ∃ t, Kt.mg "FILES" = some (.int 2 t)
  i_MOST_BLOCKS : ∃ t, Kt.mg "MOST_BLOCKS" = some (.int 12 t)
  i_MOST_FRAMES : ∃ t, Kt.mg "MOST_FRAMES" = some (.int 12 t)
  i_LEAST_FRAMES : ∃ t, Kt.mg "LEAST_FRAMES" = some (.int 2 t)
  i_MOST_PROCESSORS : ∃ t, Kt.mg "MOST_PROCESSORS" = some (.int 3 t)
  f_abs : Kt.mg "abs" = none
  mk_Buffer : ∀ C, Kt.cls[2]? = some C → ∃ f, Mk Kt.K C f ∧ ∃ fd, FunD Kt.K "__init__" "Buffer.__init__" (defArgs s_Buffer___init__) (defBody s_Buffer___init__) (defScope s_Buffer___init__) [] [] f fd
  mk_Box : ∀ C, Kt.cls[3]? = some C → ∃ f, Mk Kt.K C f ∧ ∃ fd, FunD Kt.K "__init__" "Box.__init__" (defArgs s_Box___init__) (defBody s_Box___init__) (defScope s_Box___init__) [] [] f fd
  mk_Sizes : ∀ C, Kt.cls[4]? = some C → ∃ f, Mk Kt.K C f ∧ ∃ fd, FunD Kt.K "__init__" "Sizes.__init__" (defArgs s_Sizes___init__) (defBody s_Sizes___init__) (defScope s_Sizes___init__) [] [] f fd
  mk_Memory : ∀ C, Kt.cls[5]? = some C → ∃ f, Mk Kt.K C f ∧ ∃ fd, FunD Kt.K "__init__" "Memory.__init__" (defArgs s_Memory___init__) (defBody s_Memory___init__) (defScope s_Memory___init__) [] [] f fd
  d_Memory_log : ∀ C, Kt.cls[5]? = some C → Cls Kt.K C ∧ ∃ f fd, Meth Kt.K C "log" f ∧ FunD Kt.K "log" "Memory.log" (defArgs s_Memory_log) (defBody s_Memory_log) (defScope s_Memory_log) [] [] f fd
  d__law_same : ∃ f fd, Kt.mg "_law_same" = some (.ref f) ∧ PySem.W.keepIn Kt.K (.ref f) = true ∧ FunD Kt.K "_law_same" "_law_same" (defArgs s__law_same) (defBody s__law_same) (defScope s__law_same) [] [] f fd
  d_is_integer : ∃ f fd, Kt.mg "is_integer" = some (.ref f) ∧ PySem.W.keepIn Kt.K (.ref f) = true ∧ FunD Kt.K "is_integer" "is_integer" (defArgs s_is_integer) (defBody s_is_integer) (defScope s_is_integer) [] [] f fd
  d_is_within : ∃ f fd, Kt.mg "is_within" = some (.ref f) ∧ PySem.W.keepIn Kt.K (.ref f) = true ∧ FunD Kt.K "is_within" "is_within" (defArgs s_is_within) (defBody s_is_within) (defScope s_is_within) [] [] f fd
  d_Memory_check_cell : ∀ C, Kt.cls[5]? = some C → Cls Kt.K C ∧ ∃ f fd, Meth Kt.K C "check_cell" f ∧ FunD Kt.K "check_cell" "Memory.check_cell" (defArgs s_Memory_check_cell) (defBody s_Memory_check_cell) (defScope s_Memory_check_cell) [] [] f fd
  d_Memory_peek : ∀ C, Kt.cls[5]? = some C → Cls Kt.K C ∧ ∃ f fd, Meth Kt.K C "peek" f ∧ FunD Kt.K "peek" "Memory.peek" (defArgs s_Memory_peek) (defBody s_Memory_peek) (defScope s_Memory_peek) [] [] f fd
  d_Box_letters : ∀ C, Kt.cls[3]? = some C → Cls Kt.K C ∧ ∃ f fd, Meth Kt.K C "letters" f ∧ FunD Kt.K "letters" "Box.letters" (defArgs s_Box_letters) (defBody s_Box_letters) (defScope s_Box_letters) [] [] f fd
  d_Buffer_entries : ∀ C, Kt.cls[2]? = some C → Cls Kt.K C ∧ ∃ f fd, Meth Kt.K C "entries" f ∧ FunD Kt.K "entries" "Buffer.entries" (defArgs s_Buffer_entries) (defBody s_Buffer_entries) (defScope s_Buffer_entries) [] [] f fd
  d__law_looks : ∃ f fd, Kt.mg "_law_looks" = some (.ref f) ∧ PySem.W.keepIn Kt.K (.ref f) = true ∧ FunD Kt.K "_law_looks" "_law_looks" (defArgs s__law_looks) (defBody s__law_looks) (defScope s__law_looks) [] [] f fd
  d_Sizes_frame_cell : ∀ C, Kt.cls[4]? = some C → Cls Kt.K C ∧ ∃ f fd, Meth Kt.K C "frame_cell" f ∧ FunD Kt.K "frame_cell" "Sizes.frame_cell" (defArgs s_Sizes_frame_cell) (defBody s_Sizes_frame_cell) (defScope s_Sizes_frame_cell) [] [] f fd
  d_Buffer_frame_for : ∀ C, Kt.cls[2]? = some C → Cls Kt.K C ∧ ∃ f fd, Meth Kt.K C "frame_for" f ∧ FunD Kt.K "frame_for" "Buffer.frame_for" (defArgs s_Buffer_frame_for) (defBody s_Buffer_frame_for) (defScope s_Buffer_frame_for) [] [] f fd
  d_Memory_use : ∀ C, Kt.cls[5]? = some C → Cls Kt.K C ∧ ∃ f fd, Meth Kt.K C "use" f ∧ FunD Kt.K "use" "Memory.use" (defArgs s_Memory_use) (defBody s_Memory_use) (defScope s_Memory_use) [] [] f fd
  d_Buffer_drop : ∀ C, Kt.cls[2]? = some C → Cls Kt.K C ∧ ∃ f fd, Meth Kt.K C "drop" f ∧ FunD Kt.K "drop" "Buffer.drop" (defArgs s_Buffer_drop) (defBody s_Buffer_drop) (defScope s_Buffer_drop) [] [] f fd
  d_Buffer_put : ∀ C, Kt.cls[2]? = some C → Cls Kt.K C ∧ ∃ f fd, Meth Kt.K C "put" f ∧ FunD Kt.K "put" "Buffer.put" (defArgs s_Buffer_put) (defBody s_Buffer_put) (defScope s_Buffer_put) [] [] f fd
  d_Sizes_word : ∀ C, Kt.cls[4]? = some C → Cls Kt.K C ∧ ∃ f fd, Meth Kt.K C "word" f ∧ FunD Kt.K "word" "Sizes.word" (defArgs s_Sizes_word) (defBody s_Sizes_word) (defScope s_Sizes_word) [] [] f fd
  d_Sizes_acknowledge : ∀ C, Kt.cls[4]? = some C → Cls Kt.K C ∧ ∃ f fd, Meth Kt.K C "acknowledge" f ∧ FunD Kt.K "acknowledge" "Sizes.acknowledge" (defArgs s_Sizes_acknowledge) (defBody s_Sizes_acknowledge) (defScope s_Sizes_acknowledge) [] [] f fd
  d_Box_take : ∀ C, Kt.cls[3]? = some C → Cls Kt.K C ∧ ∃ f fd, Meth Kt.K C "take" f ∧ FunD Kt.K "take" "Box.take" (defArgs s_Box_take) (defBody s_Box_take) (defScope s_Box_take) [] [] f fd
  d_Memory_take : ∀ C, Kt.cls[5]? = some C → Cls Kt.K C ∧ ∃ f fd, Meth Kt.K C "take" f ∧ FunD Kt.K "take" "Memory.take" (defArgs s_Memory_take) (defBody s_Memory_take) (defScope s_Memory_take) [] [] f fd
  d_Memory_cell_result : ∀ C, Kt.cls[5]? = some C → Cls Kt.K C ∧ ∃ f fd, Meth Kt.K C "cell_result" f ∧ FunD Kt.K "cell_result" "Memory.cell_result" (defArgs s_Memory_cell_result) (defBody s_Memory_cell_result) (defScope s_Memory_cell_result) [] [] f fd
  d_Memory_result : ∀ C, Kt.cls[5]? = some C → Cls Kt.K C ∧ ∃ f fd, Meth Kt.K C "result" f ∧ FunD Kt.K "result" "Memory.result" (defArgs s_Memory_result) (defBody s_Memory_result) (defScope s_Memory_result) [] [] f fd
  d_is_pair : ∃ f fd, Kt.mg "is_pair" = some (.ref f) ∧ PySem.W.keepIn Kt.K (.ref f) = true ∧ FunD Kt.K "is_pair" "is_pair" (defArgs s_is_pair) (defBody s_is_pair) (defScope s_is_pair) [] [] f fd
  d_is_letter : ∃ f fd, Kt.mg "is_letter" = some (.ref f) ∧ PySem.W.keepIn Kt.K (.ref f) = true ∧ FunD Kt.K "is_letter" "is_letter" (defArgs s_is_letter) (defBody s_is_letter) (defScope s_is_letter) [] [] f fd
  d_Box_send : ∀ C, Kt.cls[3]? = some C → Cls Kt.K C ∧ ∃ f fd, Meth Kt.K C "send" f ∧ FunD Kt.K "send" "Box.send" (defArgs s_Box_send) (defBody s_Box_send) (defScope s_Box_send) [] [] f fd
  d_Memory_check_page : ∀ C, Kt.cls[5]? = some C → Cls Kt.K C ∧ ∃ f fd, Meth Kt.K C "check_page" f ∧ FunD Kt.K "check_page" "Memory.check_page" (defArgs s_Memory_check_page) (defBody s_Memory_check_page) (defScope s_Memory_check_page) [] [] f fd
  d_Memory_check_request : ∀ C, Kt.cls[5]? = some C → Cls Kt.K C ∧ ∃ f fd, Meth Kt.K C "check_request" f ∧ FunD Kt.K "check_request" "Memory.check_request" (defArgs s_Memory_check_request) (defBody s_Memory_check_request) (defScope s_Memory_check_request) [] [] f fd
  d_Memory_access : ∀ C, Kt.cls[5]? = some C → Cls Kt.K C ∧ ∃ f fd, Meth Kt.K C "access" f ∧ FunD Kt.K "access" "Memory.access" (defArgs s_Memory_access) (defBody s_Memory_access) (defScope s_Memory_access) [] [] f fd
  d__law_frame : ∃ f fd, Kt.mg "_law_frame" = some (.ref f) ∧ PySem.W.keepIn Kt.K (.ref f) = true ∧ FunD Kt.K "_law_frame" "_law_frame" (defArgs s__law_frame) (defBody s__law_frame) (defScope s__law_frame) [] [] f fd
  d__law_use : ∃ f fd, Kt.mg "_law_use" = some (.ref f) ∧ PySem.W.keepIn Kt.K (.ref f) = true ∧ FunD Kt.K "_law_use" "_law_use" (defArgs s__law_use) (defBody s__law_use) (defScope s__law_use) [] [] f fd
  d__law_put : ∃ f fd, Kt.mg "_law_put" = some (.ref f) ∧ PySem.W.keepIn Kt.K (.ref f) = true ∧ FunD Kt.K "_law_put" "_law_put" (defArgs s__law_put) (defBody s__law_put) (defScope s__law_put) [] [] f fd
  d__law_due : ∃ f fd, Kt.mg "_law_due" = some (.ref f) ∧ PySem.W.keepIn Kt.K (.ref f) = true ∧ FunD Kt.K "_law_due" "_law_due" (defArgs s__law_due) (defBody s__law_due) (defScope s__law_due) [] [] f fd
  d__law_request : ∃ f fd, Kt.mg "_law_request" = some (.ref f) ∧ PySem.W.keepIn Kt.K (.ref f) = true ∧ FunD Kt.K "_law_request" "_law_request" (defArgs s__law_request) (defBody s__law_request) (defScope s__law_request) [] [] f fd
  d__law_at : ∃ f fd, Kt.mg "_law_at" = some (.ref f) ∧ PySem.W.keepIn Kt.K (.ref f) = true ∧ FunD Kt.K "_law_at" "_law_at" (defArgs s__law_at) (defBody s__law_at) (defScope s__law_at) [] [] f fd
  d_Sizes_swap_block : ∀ C, Kt.cls[4]? = some C → Cls Kt.K C ∧ ∃ f fd, Meth Kt.K C "swap_block" f ∧ FunD Kt.K "swap_block" "Sizes.swap_block" (defArgs s_Sizes_swap_block) (defBody s_Sizes_swap_block) (defScope s_Sizes_swap_block) [] [] f fd
  d_Sizes_file_block : ∀ C, Kt.cls[4]? = some C → Cls Kt.K C ∧ ∃ f fd, Meth Kt.K C "file_block" f ∧ FunD Kt.K "file_block" "Sizes.file_block" (defArgs s_Sizes_file_block) (defBody s_Sizes_file_block) (defScope s_Sizes_file_block) [] [] f fd
  d_Sizes_cells : ∀ C, Kt.cls[4]? = some C → Cls Kt.K C ∧ ∃ f fd, Meth Kt.K C "cells" f ∧ FunD Kt.K "cells" "Sizes.cells" (defArgs s_Sizes_cells) (defBody s_Sizes_cells) (defScope s_Sizes_cells) [] [] f fd
  d_first_values : ∃ f fd, Kt.mg "first_values" = some (.ref f) ∧ PySem.W.keepIn Kt.K (.ref f) = true ∧ FunD Kt.K "first_values" "first_values" (defArgs s_first_values) (defBody s_first_values) (defScope s_first_values) [] [] f fd
  d__law_tape : ∃ f fd, Kt.mg "_law_tape" = some (.ref f) ∧ PySem.W.keepIn Kt.K (.ref f) = true ∧ FunD Kt.K "_law_tape" "_law_tape" (defArgs s__law_tape) (defBody s__law_tape) (defScope s__law_tape) [] [] f fd
  d_law : ∃ f fd, Kt.mg "law" = some (.ref f) ∧ PySem.W.keepIn Kt.K (.ref f) = true ∧ FunD Kt.K "law" "law" (defArgs s_law) (defBody s_law) (defScope s_law) [] [] f fd
section
variable {Kt : Kit}
theorem Facts.s (T : Facts Kt) {n : Nat} {x : Str} (h : TAB[n]? = some x) : Kt.tab[n]? = some x := by rw [T.tb]; exact h
theorem Facts.c_SPACES (T : Facts Kt) {X : Cx} {W : WX} {k : Nat} {pos : Pos} (A : At Kt X W k) (hg : Gl X "SPACES" := by rfl) : PE X (.Name "SPACES" pos) (te Kt W (vC (.int 4))) := by
  obtain ⟨t, h⟩ := T.i_SPACES
  exact se_glob (v := .int 4) A h ⟨t, rfl⟩ (fun _ _ => .int _) hg
theorem Facts.c_PAGES (T : Facts Kt) {X : Cx} {W : WX} {k : Nat} {pos : Pos} (A : At Kt X W k) (hg : Gl X "PAGES" := by rfl) : PE X (.Name "PAGES" pos) (te Kt W (vC (.int 8))) := by
  obtain ⟨t, h⟩ := T.i_PAGES
  exact se_glob (v := .int 8) A h ⟨t, rfl⟩ (fun _ _ => .int _) hg
theorem Facts.c_CELLS (T : Facts Kt) {X : Cx} {W : WX} {k : Nat} {pos : Pos} (A : At Kt X W k) (hg : Gl X "CELLS" := by rfl) : PE X (.Name "CELLS" pos) (te Kt W (vC (.int 2))) := by
  obtain ⟨t, h⟩ := T.i_CELLS
  exact se_glob (v := .int 2) A h ⟨t, rfl⟩ (fun _ _ => .int _) hg
theorem Facts.c_MOST_ENTRIES (T : Facts Kt) {X : Cx} {W : WX} {k : Nat} {pos : Pos} (A : At Kt X W k) (hg : Gl X "MOST_ENTRIES" := by rfl) : PE X (.Name "MOST_ENTRIES" pos) (te Kt W (vC (.int 2))) := by
  obtain ⟨t, h⟩ := T.i_MOST_ENTRIES
  exact se_glob (v := .int 2) A h ⟨t, rfl⟩ (fun _ _ => .int _) hg
theorem Facts.c_LENGTHS (T : Facts Kt) {X : Cx} {W : WX} {k : Nat} {pos : Pos} (A : At Kt X W k) (hg : Gl X "LENGTHS" := by rfl) : PE X (.Name "LENGTHS" pos) (te Kt W (vC (.dic [(.str 9), (.str 10), (.str 11), (.str 12), (.str 13), (.str 14), (.str 15), (.str 16), (.str 17)] [(.int 2), (.int 3), (.int 4), (.int 3), (.int 1), (.int 3), (.int 4), (.int 5), (.int 6)]))) := by
  obtain ⟨a, h, hs⟩ := T.i_LENGTHS
  exact se_glob (v := .ref a) A h rfl (fun _ _ => .dic hs) hg
theorem Facts.c_FILE_PAGES (T : Facts Kt) {X : Cx} {W : WX} {k : Nat} {pos : Pos} (A : At Kt X W k) (hg : Gl X "FILE_PAGES" := by rfl) : PE X (.Name "FILE_PAGES" pos) (te Kt W (vC (.int 4))) := by
  obtain ⟨t, h⟩ := T.i_FILE_PAGES
  exact se_glob (v := .int 4) A h ⟨t, rfl⟩ (fun _ _ => .int _) hg
theorem Facts.c_FILES (T : Facts Kt) {X : Cx} {W : WX} {k : Nat} {pos : Pos} (A : At Kt X W k) (hg : Gl X "FILES" := by rfl) : PE X (.Name "FILES" pos) (te Kt W (vC (.int 2))) := by
  obtain ⟨t, h⟩ := T.i_FILES
  exact se_glob (v := .int 2) A h ⟨t, rfl⟩ (fun _ _ => .int _) hg
theorem Facts.c_MOST_BLOCKS (T : Facts Kt) {X : Cx} {W : WX} {k : Nat} {pos : Pos} (A : At Kt X W k) (hg : Gl X "MOST_BLOCKS" := by rfl) : PE X (.Name "MOST_BLOCKS" pos) (te Kt W (vC (.int 12))) := by
  obtain ⟨t, h⟩ := T.i_MOST_BLOCKS
  exact se_glob (v := .int 12) A h ⟨t, rfl⟩ (fun _ _ => .int _) hg
theorem Facts.c_MOST_FRAMES (T : Facts Kt) {X : Cx} {W : WX} {k : Nat} {pos : Pos} (A : At Kt X W k) (hg : Gl X "MOST_FRAMES" := by rfl) : PE X (.Name "MOST_FRAMES" pos) (te Kt W (vC (.int 12))) := by
  obtain ⟨t, h⟩ := T.i_MOST_FRAMES
  exact se_glob (v := .int 12) A h ⟨t, rfl⟩ (fun _ _ => .int _) hg
theorem Facts.c_LEAST_FRAMES (T : Facts Kt) {X : Cx} {W : WX} {k : Nat} {pos : Pos} (A : At Kt X W k) (hg : Gl X "LEAST_FRAMES" := by rfl) : PE X (.Name "LEAST_FRAMES" pos) (te Kt W (vC (.int 2))) := by
  obtain ⟨t, h⟩ := T.i_LEAST_FRAMES
  exact se_glob (v := .int 2) A h ⟨t, rfl⟩ (fun _ _ => .int _) hg
theorem Facts.c_MOST_PROCESSORS (T : Facts Kt) {X : Cx} {W : WX} {k : Nat} {pos : Pos} (A : At Kt X W k) (hg : Gl X "MOST_PROCESSORS" := by rfl) : PE X (.Name "MOST_PROCESSORS" pos) (te Kt W (vC (.int 3))) := by
  obtain ⟨t, h⟩ := T.i_MOST_PROCESSORS
  exact se_glob (v := .int 3) A h ⟨t, rfl⟩ (fun _ _ => .int _) hg
/-! ### the walks -/
abbrev NN_Memory_log : List Str := ["self"]
theorem sc_Memory_log : FnScope ["self"] ["self"] (defScope s_Memory_log) := ⟨rfl, rfl, rfl, by decide +kernel, rfl, by decide +kernel, by decide +kernel⟩
theorem g_Memory_log (T : Facts Kt) : MeK Kt 1 "log" 5 1 m_Memory_log := by
  obtain ⟨C, hC, hm⟩ := T.k_Memory
  obtain ⟨c, f, fd, M, F⟩ := T.d_Memory_log C hC
  exact ⟨C, f, hC, c, M, fn_at F sc_Memory_log (fun _ _ _ _ _ _ us hl => match us, hl with | [_], _ => rfl) fun cdv Ar outer s H E A => (ss_one (ss_ret (se_listO A T.f_list (sa_cons (se_fld A (T.s (n := 0) rfl) T.ca_rows (se_var 0)) sa_nil))))⟩
abbrev NN__law_same : List Str := ["_law_told", "_law_due_here"]
theorem sc__law_same : FnScope ["_law_told", "_law_due_here"] ["_law_told", "_law_due_here"] (defScope s__law_same) := ⟨rfl, rfl, rfl, by decide +kernel, rfl, by decide +kernel, by decide +kernel⟩
theorem g__law_same (T : Facts Kt) : FnK Kt 1 "_law_same" 2 m__law_same := by
  obtain ⟨f, fd, h1, h2, F⟩ := T.d__law_same
  exact ⟨f, h1, h2, fn_at F sc__law_same (fun _ _ _ _ _ _ us hl => match us, hl with | [_, _], _ => rfl) fun cdv Ar outer s H E A => (ss_one (ss_ret (se_and (se_cmp (cm_eq A) (se_isi .bool A T.f_isinstance T.f_bool bt_bool (se_var 0)) (se_isi .bool A T.f_isinstance T.f_bool bt_bool (se_var 1))) (se_one (se_cmp (cm_eq A) (se_var 0) (se_var 1))))))⟩
abbrev NN_is_integer : List Str := ["value"]
theorem sc_is_integer : FnScope ["value"] ["value"] (defScope s_is_integer) := ⟨rfl, rfl, rfl, by decide +kernel, rfl, by decide +kernel, by decide +kernel⟩
theorem g_is_integer (T : Facts Kt) : FnK Kt 1 "is_integer" 1 m_is_integer := by
  obtain ⟨f, fd, h1, h2, F⟩ := T.d_is_integer
  exact ⟨f, h1, h2, fn_at F sc_is_integer (fun _ _ _ _ _ _ us hl => match us, hl with | [_], _ => rfl) fun cdv Ar outer s H E A => (ss_one (ss_ret (se_and (se_isi .int A T.f_isinstance T.f_int bt_int (se_var 0)) (se_one (se_not (se_isi .bool A T.f_isinstance T.f_bool bt_bool (se_var 0)))))))⟩
abbrev NN_is_within : List Str := ["value", "low", "high"]
theorem sc_is_within : FnScope ["value", "low", "high"] ["value", "low", "high"] (defScope s_is_within) := ⟨rfl, rfl, rfl, by decide +kernel, rfl, by decide +kernel, by decide +kernel⟩
theorem g_is_within (T : Facts Kt) : FnK Kt 2 "is_within" 3 m_is_within := by
  obtain ⟨f, fd, h1, h2, F⟩ := T.d_is_within
  exact ⟨f, h1, h2, fn_at F sc_is_within (fun _ _ _ _ _ _ us hl => match us, hl with | [_, _, _], _ => rfl) fun cdv Ar outer s H E A => (ss_one (ss_ret (se_and (se_call A ((g_is_integer T).mono (by decide)) (sa_cons (se_var 0) sa_nil) (len_cons len_nil)) (se_one (se_chain cm_le cm_le (se_var 1) (se_var 0) (se_var 2))))))⟩
abbrev NN_Memory_check_cell : List Str := ["self", "cell"]
theorem sc_Memory_check_cell : FnScope ["self", "cell"] ["self", "cell"] (defScope s_Memory_check_cell) := ⟨rfl, rfl, rfl, by decide +kernel, rfl, by decide +kernel, by decide +kernel⟩
theorem g_Memory_check_cell (T : Facts Kt) : MeK Kt 3 "check_cell" 5 2 m_Memory_check_cell := by
  obtain ⟨C, hC, hm⟩ := T.k_Memory
  obtain ⟨c, f, fd, M, F⟩ := T.d_Memory_check_cell C hC
  exact ⟨C, f, hC, c, M, fn_at F sc_Memory_check_cell (fun _ _ _ _ _ _ us hl => match us, hl with | [_, _], _ => rfl) fun cdv Ar outer s H E A => (ss_one (ss_if (st_not (st_tru A (se_call A ((g_is_within T).mono (by decide)) (sa_cons (se_var 1) (sa_cons se_int (sa_cons (se_sub (se_len A T.f_len (sa_cons (se_fld A (T.s (n := 1) rfl) T.ca_held (se_var 0)) sa_nil)) se_int) sa_nil))) (len_cons (len_cons (len_cons len_nil)))))) (ss_one (ss_raise A T.x_NotValid)) ss_nil))⟩
abbrev NN_Memory_peek : List Str := ["self", "cell"]
theorem sc_Memory_peek : FnScope ["self", "cell"] ["self", "cell"] (defScope s_Memory_peek) := ⟨rfl, rfl, rfl, by decide +kernel, rfl, by decide +kernel, by decide +kernel⟩
theorem g_Memory_peek (T : Facts Kt) : MeK Kt 4 "peek" 5 2 m_Memory_peek := by
  obtain ⟨C, hC, hm⟩ := T.k_Memory
  obtain ⟨c, f, fd, M, F⟩ := T.d_Memory_peek C hC
  exact ⟨C, f, hC, c, M, fn_at F sc_Memory_peek (fun _ _ _ _ _ _ us hl => match us, hl with | [_, _], _ => rfl) fun cdv Ar outer s H E A => (ss_cons (ss_expr (se_meth A (se_var 0) (T.s (n := 28) rfl) (mt_cons ((g_Memory_check_cell T).mono (by decide)) mt_nil) (sa_cons (se_var 1) sa_nil) (len_cons len_nil)))
    (ss_one (ss_ret (se_ix A (se_fld A (T.s (n := 1) rfl) T.ca_held (se_var 0)) (se_var 1)))))⟩
abbrev NN_Box_letters : List Str := ["self"]
theorem sc_Box_letters : FnScope ["self"] ["self"] (defScope s_Box_letters) := ⟨rfl, rfl, rfl, by decide +kernel, rfl, by decide +kernel, by decide +kernel⟩
theorem g_Box_letters (T : Facts Kt) : MeK Kt 1 "letters" 3 1 m_Box_letters := by
  obtain ⟨C, hC, hm⟩ := T.k_Box
  obtain ⟨c, f, fd, M, F⟩ := T.d_Box_letters C hC
  exact ⟨C, f, hC, c, M, fn_at F sc_Box_letters (fun _ _ _ _ _ _ us hl => match us, hl with | [_], _ => rfl) fun cdv Ar outer s H E A => (ss_one (ss_ret (se_listO A T.f_list (sa_cons (se_fld A (T.s (n := 0) rfl) T.ca_rows (se_var 0)) sa_nil))))⟩
abbrev NN_Buffer_entries : List Str := ["self"]
theorem sc_Buffer_entries : FnScope ["self"] ["self"] (defScope s_Buffer_entries) := ⟨rfl, rfl, rfl, by decide +kernel, rfl, by decide +kernel, by decide +kernel⟩
theorem g_Buffer_entries (T : Facts Kt) : MeK Kt 1 "entries" 2 1 m_Buffer_entries := by
  obtain ⟨C, hC, hm⟩ := T.k_Buffer
  obtain ⟨c, f, fd, M, F⟩ := T.d_Buffer_entries C hC
  exact ⟨C, f, hC, c, M, fn_at F sc_Buffer_entries (fun _ _ _ _ _ _ us hl => match us, hl with | [_], _ => rfl) fun cdv Ar outer s H E A => (ss_one (ss_ret (se_listO A T.f_list (sa_cons (se_fld A (T.s (n := 0) rfl) T.ca_rows (se_var 0)) sa_nil))))⟩
abbrev NN__law_looks : List Str := ["_law_memory", "_law_w", "_law_p"]
theorem sc__law_looks : FnScope ["_law_memory", "_law_w", "_law_p"] ["_law_memory", "_law_w"] (defScope s__law_looks) := ⟨rfl, rfl, rfl, by decide +kernel, rfl, by decide +kernel, by decide +kernel⟩
theorem g__law_looks (T : Facts Kt) : FnK Kt 2 "_law_looks" 2 m__law_looks := by
  obtain ⟨f, fd, h1, h2, F⟩ := T.d__law_looks
  exact ⟨f, h1, h2, fn_at F sc__law_looks (fun _ _ _ _ _ _ us hl => match us, hl with | [_, _], _ => rfl) fun cdv Ar outer s H E A => (ss_cons (ss_for (vs := [2]) A (si_rng1 A (se_ixC A (se_var 1) (se_str 43 (T.s rfl))) T.f_range) (sg_name 2 A.nd (by simp)) (ss_one (ss_if (PW.pt (sw_or (st_cmp (cm_ne A) (se_meth0 A (se_ix A (se_fld A (T.s (n := 7) rfl) T.ca_buffers (se_var 0)) (se_var 2)) (T.s (n := 42) rfl) (mt_cons ((g_Buffer_entries T).mono (by decide)) mt_nil)) (se_ix A (se_ixC A (se_var 1) (se_str 7 (T.s rfl))) (se_var 2))) (sw_or1 (st_cmp (cm_ne A) (se_meth0 A (se_ix A (se_fld A (T.s (n := 8) rfl) T.ca_boxes (se_var 0)) (se_var 2)) (T.s (n := 41) rfl) (mt_cons ((g_Box_letters T).mono (by decide)) mt_nil)) (se_ix A (se_ixC A (se_var 1) (se_str 8 (T.s rfl))) (se_var 2)))))) (ss_one (ss_ret se_bl)) ss_nil)))
    (ss_one (ss_ret se_bl)))⟩
abbrev NN_Sizes_frame_cell : List Str := ["self", "frame", "index"]
theorem sc_Sizes_frame_cell : FnScope ["self", "frame", "index"] ["self", "frame", "index"] (defScope s_Sizes_frame_cell) := ⟨rfl, rfl, rfl, by decide +kernel, rfl, by decide +kernel, by decide +kernel⟩
theorem g_Sizes_frame_cell (T : Facts Kt) : MeK Kt 1 "frame_cell" 4 3 m_Sizes_frame_cell := by
  obtain ⟨C, hC, hm⟩ := T.k_Sizes
  obtain ⟨c, f, fd, M, F⟩ := T.d_Sizes_frame_cell C hC
  exact ⟨C, f, hC, c, M, fn_at F sc_Sizes_frame_cell (fun _ _ _ _ _ _ us hl => match us, hl with | [_, _, _], _ => rfl) fun cdv Ar outer s H E A => (ss_one (ss_ret (se_add A (se_add A (se_add A (se_add A se_int (se_fld A (T.s (n := 4) rfl) T.ca_processors (se_var 0))) (se_mul (T.c_SPACES A) (T.c_PAGES A))) (se_mul (T.c_CELLS A) (se_var 1))) (se_var 2))))⟩
abbrev NN_Buffer_frame_for : List Str := ["self", "space", "page", "writing", "row"]
theorem sc_Buffer_frame_for : FnScope ["self", "space", "page", "writing", "row"] ["self", "space", "page", "writing"] (defScope s_Buffer_frame_for) := ⟨rfl, rfl, rfl, by decide +kernel, rfl, by decide +kernel, by decide +kernel⟩
theorem g_Buffer_frame_for (T : Facts Kt) : MeK Kt 1 "frame_for" 2 4 m_Buffer_frame_for := by
  obtain ⟨C, hC, hm⟩ := T.k_Buffer
  obtain ⟨c, f, fd, M, F⟩ := T.d_Buffer_frame_for C hC
  exact ⟨C, f, hC, c, M, fn_at F sc_Buffer_frame_for (fun _ _ _ _ _ _ us hl => match us, hl with | [_, _, _, _], _ => rfl) fun cdv Ar outer s H E A => (ss_cons (ss_for (vs := [4]) A (si_lst A (se_fld A (T.s (n := 0) rfl) T.ca_rows (se_var 0))) (sg_name 4 A.nd (by simp)) (ss_one (ss_if (PW.pt (sw_and (st_cmp (cm_eq A) (se_sl A (se_var 4) sl_no (sl_so se_int)) (se_tup (sa_cons (se_var 1) (sa_cons (se_var 2) sa_nil)))) (sw_and1 (PW.pt (sw_or (st_tru A (se_ix A (se_var 4) se_int)) (sw_or1 (st_not (st_tru A (se_var 3))))))))) (ss_one (ss_ret (se_ix A (se_var 4) se_int))) ss_nil)))
    (ss_one (ss_ret se_non)))⟩
abbrev NN_Memory_use : List Str := ["self", "processor", "request", "kind", "frame", "cell"]
theorem sc_Memory_use : FnScope ["self", "processor", "request", "kind", "frame", "cell"] ["self", "processor", "request"] (defScope s_Memory_use) := ⟨rfl, rfl, rfl, by decide +kernel, rfl, by decide +kernel, by decide +kernel⟩
theorem g_Memory_use (T : Facts Kt) : MeK Kt 2 "use" 5 3 m_Memory_use := by
  obtain ⟨C, hC, hm⟩ := T.k_Memory
  obtain ⟨c, f, fd, M, F⟩ := T.d_Memory_use C hC
  exact ⟨C, f, hC, c, M, fn_at F sc_Memory_use (fun _ _ _ _ _ _ us hl => match us, hl with | [_, _, _], _ => rfl) fun cdv Ar outer s H E A => (ss_cons (ss_set 3 A (se_ix A (se_var 2) se_int))
    (ss_cons (ss_set 4 A (se_meth A (se_ix A (se_fld A (T.s (n := 7) rfl) T.ca_buffers (se_var 0)) (se_var 1)) (T.s (n := 24) rfl) (mt_cons ((g_Buffer_frame_for T).mono (by decide)) mt_nil) (sa_cons (se_ix A (se_var 2) se_int) (sa_cons (se_ix A (se_var 2) se_int) (sa_cons (se_cmp (cm_ne A) (se_var 3) (se_str 15 (T.s rfl))) sa_nil))) (len_cons (len_cons (len_cons len_nil)))))
    (ss_cons (ss_if (st_cmp cm_is (se_var 4) se_non) (ss_one (ss_ret (se_if (st_cmp (cm_eq A) (se_var 3) (se_str 16 (T.s rfl))) se_bl se_non))) ss_nil)
    (ss_cons (ss_set 5 A (se_meth A (se_fld A (T.s (n := 2) rfl) T.ca_sizes (se_var 0)) (T.s (n := 27) rfl) (mt_cons ((g_Sizes_frame_cell T).mono (by decide)) mt_nil) (sa_cons (se_var 4) (sa_cons (se_ix A (se_var 2) se_int) sa_nil)) (len_cons (len_cons len_nil))))
    (ss_cons (ss_if (st_cmp (cm_eq A) (se_var 3) (se_str 15 (T.s rfl))) (ss_one (ss_ret (se_tup (sa_cons (se_ix A (se_fld A (T.s (n := 1) rfl) T.ca_held (se_var 0)) (se_var 5)) sa_nil)))) ss_nil)
    (ss_cons (ss_if (st_cmp (cm_eq A) (se_var 3) (se_str 16 (T.s rfl))) (ss_cons (ss_sub A (se_fld A (T.s (n := 1) rfl) T.ca_held (se_var 0)) (se_var 5) (se_ix A (se_var 2) se_int))
    (ss_one (ss_ret se_bl))) ss_nil)
    (ss_cons (ss_if (st_cmp (cm_ne A) (se_ix A (se_fld A (T.s (n := 1) rfl) T.ca_held (se_var 0)) (se_var 5)) (se_ix A (se_var 2) se_int)) (ss_one (ss_ret (se_tup (sa_cons (se_ix A (se_fld A (T.s (n := 1) rfl) T.ca_held (se_var 0)) (se_var 5)) sa_nil)))) ss_nil)
    (ss_cons (ss_sub A (se_fld A (T.s (n := 1) rfl) T.ca_held (se_var 0)) (se_var 5) (se_ix A (se_var 2) se_int))
    (ss_one (ss_ret (se_tup (sa_cons (se_str 19 (T.s rfl)) sa_nil))))))))))))⟩
abbrev NN_Buffer_drop : List Str := ["self", "pairs", "row"]
theorem sc_Buffer_drop : FnScope ["self", "pairs", "row"] ["self", "pairs"] (defScope s_Buffer_drop) := ⟨rfl, rfl, rfl, by decide +kernel, rfl, by decide +kernel, by decide +kernel⟩
theorem g_Buffer_drop (T : Facts Kt) : MeK Kt 1 "drop" 2 2 m_Buffer_drop := by
  obtain ⟨C, hC, hm⟩ := T.k_Buffer
  obtain ⟨c, f, fd, M, F⟩ := T.d_Buffer_drop C hC
  exact ⟨C, f, hC, c, M, fn_at F sc_Buffer_drop (fun _ _ _ _ _ _ us hl => match us, hl with | [_, _], _ => rfl) fun cdv Ar outer s H E A => (ss_one (ss_fld A (T.s (n := 0) rfl) T.ca_rows (se_var 0) (se_lcO (own := [("row", 2)]) A (si_lst A (se_fld A (T.s (n := 0) rfl) T.ca_rows (se_var 0))) (blkOk_by (N := NN_Buffer_drop) (sc := defScope s_Buffer_drop) (by decide +kernel)) (fun _ _ _ _ _ => (sg_name 2 A.nd (by simp))) (fun _ _ _ _ _ A => (sts_one (st_cmp (cm_notin A) (se_sl A (se_var 2) sl_no (sl_so se_int)) (se_var 1)))) (fun _ _ _ _ _ A => (se_var 2)))))⟩
abbrev NN_Buffer_put : List Str := ["self", "space", "page", "word"]
theorem sc_Buffer_put : FnScope ["self", "space", "page", "word"] ["self", "space", "page", "word"] (defScope s_Buffer_put) := ⟨rfl, rfl, rfl, by decide +kernel, rfl, by decide +kernel, by decide +kernel⟩
theorem g_Buffer_put (T : Facts Kt) : MeK Kt 2 "put" 2 4 m_Buffer_put := by
  obtain ⟨C, hC, hm⟩ := T.k_Buffer
  obtain ⟨c, f, fd, M, F⟩ := T.d_Buffer_put C hC
  exact ⟨C, f, hC, c, M, fn_at F sc_Buffer_put (fun _ _ _ _ _ _ us hl => match us, hl with | [_, _, _, _], _ => rfl) fun cdv Ar outer s H E A => (ss_cons (ss_expr (se_meth A (se_var 0) (T.s (n := 23) rfl) (mt_cons ((g_Buffer_drop T).mono (by decide)) mt_nil) (sa_cons (se_lst (sa_cons (se_tup (sa_cons (se_var 1) (sa_cons (se_var 2) sa_nil))) sa_nil)) sa_nil) (len_cons len_nil)))
    (ss_cons (ss_if (PW.pt (sw_and (st_cmp cm_not (se_var 3) se_non) (sw_and1 (st_cmp (cm_eq A) (se_ix A (se_var 3) se_int) (se_str 18 (T.s rfl)))))) (ss_one (ss_expr (se_app A (se_fld A (T.s (n := 0) rfl) T.ca_rows (se_var 0)) (se_tup (sa_cons (se_var 1) (sa_cons (se_var 2) (sa_cons (se_ix A (se_var 3) se_int) (sa_cons (se_ix A (se_var 3) se_int) sa_nil)))))))) ss_nil)
    (ss_one (ss_fld A (T.s (n := 0) rfl) T.ca_rows (se_var 0) (se_sl A (se_fld A (T.s (n := 0) rfl) T.ca_rows (se_var 0)) (sl_so (se_neg (T.c_MOST_ENTRIES A))) sl_no)))))⟩
abbrev NN_Sizes_word : List Str := ["self", "space", "page"]
theorem sc_Sizes_word : FnScope ["self", "space", "page"] ["self", "space", "page"] (defScope s_Sizes_word) := ⟨rfl, rfl, rfl, by decide +kernel, rfl, by decide +kernel, by decide +kernel⟩
theorem g_Sizes_word (T : Facts Kt) : MeK Kt 1 "word" 4 3 m_Sizes_word := by
  obtain ⟨C, hC, hm⟩ := T.k_Sizes
  obtain ⟨c, f, fd, M, F⟩ := T.d_Sizes_word C hC
  exact ⟨C, f, hC, c, M, fn_at F sc_Sizes_word (fun _ _ _ _ _ _ us hl => match us, hl with | [_, _, _], _ => rfl) fun cdv Ar outer s H E A => (ss_one (ss_ret (se_add A (se_add A (se_add A se_int (se_fld A (T.s (n := 4) rfl) T.ca_processors (se_var 0))) (se_mul (T.c_PAGES A) (se_var 1))) (se_var 2))))⟩
abbrev NN_Sizes_acknowledge : List Str := ["self", "processor"]
theorem sc_Sizes_acknowledge : FnScope ["self", "processor"] ["self", "processor"] (defScope s_Sizes_acknowledge) := ⟨rfl, rfl, rfl, by decide +kernel, rfl, by decide +kernel, by decide +kernel⟩
theorem g_Sizes_acknowledge (T : Facts Kt) : MeK Kt 1 "acknowledge" 4 2 m_Sizes_acknowledge := by
  obtain ⟨C, hC, hm⟩ := T.k_Sizes
  obtain ⟨c, f, fd, M, F⟩ := T.d_Sizes_acknowledge C hC
  exact ⟨C, f, hC, c, M, fn_at F sc_Sizes_acknowledge (fun _ _ _ _ _ _ us hl => match us, hl with | [_, _], _ => rfl) fun cdv Ar outer s H E A => (ss_one (ss_ret (se_add A se_int (se_var 1))))⟩
abbrev NN_Box_take : List Str := ["self", "letter"]
theorem sc_Box_take : FnScope ["self", "letter"] ["self"] (defScope s_Box_take) := ⟨rfl, rfl, rfl, by decide +kernel, rfl, by decide +kernel, by decide +kernel⟩
theorem g_Box_take (T : Facts Kt) : MeK Kt 1 "take" 3 1 m_Box_take := by
  obtain ⟨C, hC, hm⟩ := T.k_Box
  obtain ⟨c, f, fd, M, F⟩ := T.d_Box_take C hC
  exact ⟨C, f, hC, c, M, fn_at F sc_Box_take (fun _ _ _ _ _ _ us hl => match us, hl with | [_], _ => rfl) fun cdv Ar outer s H E A => (ss_cons (ss_if (st_not (st_tru A (se_fld A (T.s (n := 0) rfl) T.ca_rows (se_var 0)))) (ss_one (ss_ret se_non)) ss_nil)
    (ss_cons (ss_set 1 A (se_ix A (se_fld A (T.s (n := 0) rfl) T.ca_rows (se_var 0)) se_int))
    (ss_cons (ss_fld A (T.s (n := 0) rfl) T.ca_rows (se_var 0) (se_slO A (se_fld A (T.s (n := 0) rfl) T.ca_rows (se_var 0)) (sl_so se_int) sl_no))
    (ss_one (ss_ret (se_var 1))))))⟩
abbrev NN_Memory_take : List Str := ["self", "processor", "letter", "ticket", "pairs"]
theorem sc_Memory_take : FnScope ["self", "processor", "letter", "ticket", "pairs"] ["self", "processor"] (defScope s_Memory_take) := ⟨rfl, rfl, rfl, by decide +kernel, rfl, by decide +kernel, by decide +kernel⟩
theorem g_Memory_take (T : Facts Kt) : MeK Kt 2 "take" 5 2 m_Memory_take := by
  obtain ⟨C, hC, hm⟩ := T.k_Memory
  obtain ⟨c, f, fd, M, F⟩ := T.d_Memory_take C hC
  exact ⟨C, f, hC, c, M, fn_at F sc_Memory_take (fun _ _ _ _ _ _ us hl => match us, hl with | [_, _], _ => rfl) fun cdv Ar outer s H E A => (ss_cons (ss_set 2 A (se_meth0 A (se_ix A (se_fld A (T.s (n := 8) rfl) T.ca_boxes (se_var 0)) (se_var 1)) (T.s (n := 13) rfl) (mt_cons ((g_Box_take T).mono (by decide)) mt_nil)))
    (ss_cons (ss_if (st_cmp cm_is (se_var 2) se_non) (ss_one (ss_ret se_bl)) ss_nil)
    (ss_cons (ss_asg (vs := [3, 4]) A (se_var 2) (sg_tup 2 A (sgs_cons (sg_name 3 A.nd (by simp)) (sgs_cons (sg_name 4 A.nd (by simp)) sgs_nil))))
    (ss_cons (ss_expr (se_meth A (se_ix A (se_fld A (T.s (n := 7) rfl) T.ca_buffers (se_var 0)) (se_var 1)) (T.s (n := 23) rfl) (mt_cons ((g_Buffer_drop T).mono (by decide)) mt_nil) (sa_cons (se_var 4) sa_nil) (len_cons len_nil)))
    (ss_cons (ss_sub A (se_fld A (T.s (n := 1) rfl) T.ca_held (se_var 0)) (se_meth A (se_fld A (T.s (n := 2) rfl) T.ca_sizes (se_var 0)) (T.s (n := 26) rfl) (mt_cons ((g_Sizes_acknowledge T).mono (by decide)) mt_nil) (sa_cons (se_var 1) sa_nil) (len_cons len_nil)) (se_var 3))
    (ss_one (ss_ret se_bl)))))))⟩
abbrev NN_Memory_cell_result : List Str := ["self", "request", "cell"]
theorem sc_Memory_cell_result : FnScope ["self", "request", "cell"] ["self", "request"] (defScope s_Memory_cell_result) := ⟨rfl, rfl, rfl, by decide +kernel, rfl, by decide +kernel, by decide +kernel⟩
theorem g_Memory_cell_result (T : Facts Kt) : MeK Kt 1 "cell_result" 5 2 m_Memory_cell_result := by
  obtain ⟨C, hC, hm⟩ := T.k_Memory
  obtain ⟨c, f, fd, M, F⟩ := T.d_Memory_cell_result C hC
  exact ⟨C, f, hC, c, M, fn_at F sc_Memory_cell_result (fun _ _ _ _ _ _ us hl => match us, hl with | [_, _], _ => rfl) fun cdv Ar outer s H E A => (ss_cons (ss_set 2 A (se_ix A (se_var 1) se_int))
    (ss_cons (ss_if (st_cmp (cm_eq A) (se_ix A (se_var 1) se_int) (se_str 9 (T.s rfl))) (ss_one (ss_ret (se_ix A (se_fld A (T.s (n := 1) rfl) T.ca_held (se_var 0)) (se_var 2)))) ss_nil)
    (ss_cons (ss_if (st_cmp (cm_eq A) (se_ix A (se_var 1) se_int) (se_str 10 (T.s rfl))) (ss_cons (ss_sub A (se_fld A (T.s (n := 1) rfl) T.ca_held (se_var 0)) (se_var 2) (se_ix A (se_var 1) se_int))
    (ss_one (ss_ret se_non))) ss_nil)
    (ss_cons (ss_if (st_cmp (cm_ne A) (se_ix A (se_fld A (T.s (n := 1) rfl) T.ca_held (se_var 0)) (se_var 2)) (se_ix A (se_var 1) se_int)) (ss_one (ss_ret se_bl)) ss_nil)
    (ss_cons (ss_sub A (se_fld A (T.s (n := 1) rfl) T.ca_held (se_var 0)) (se_var 2) (se_ix A (se_var 1) se_int))
    (ss_one (ss_ret se_bl)))))))⟩
abbrev NN_Memory_result : List Str := ["self", "processor", "request", "kind", "word"]
theorem sc_Memory_result : FnScope ["self", "processor", "request", "kind", "word"] ["self", "processor", "request"] (defScope s_Memory_result) := ⟨rfl, rfl, rfl, by decide +kernel, rfl, by decide +kernel, by decide +kernel⟩
theorem g_Memory_result (T : Facts Kt) : MeK Kt 3 "result" 5 3 m_Memory_result := by
  obtain ⟨C, hC, hm⟩ := T.k_Memory
  obtain ⟨c, f, fd, M, F⟩ := T.d_Memory_result C hC
  exact ⟨C, f, hC, c, M, fn_at F sc_Memory_result (fun _ _ _ _ _ _ us hl => match us, hl with | [_, _, _], _ => rfl) fun cdv Ar outer s H E A => (ss_cons (ss_set 3 A (se_ix A (se_var 2) se_int))
    (ss_cons (ss_if (st_cmp (cm_in A) (se_var 3) (se_tup (sa_cons (se_str 9 (T.s rfl)) (sa_cons (se_str 10 (T.s rfl)) (sa_cons (se_str 11 (T.s rfl)) sa_nil))))) (ss_one (ss_ret (se_meth A (se_var 0) (T.s (n := 33) rfl) (mt_cons ((g_Memory_cell_result T).mono (by decide)) mt_nil) (sa_cons (se_var 2) sa_nil) (len_cons len_nil)))) ss_nil)
    (ss_cons (ss_if (st_cmp (cm_eq A) (se_var 3) (se_str 12 (T.s rfl))) (ss_one (ss_ret se_non)) ss_nil)
    (ss_cons (ss_if (st_cmp (cm_eq A) (se_var 3) (se_str 13 (T.s rfl))) (ss_one (ss_ret (se_meth A (se_var 0) (T.s (n := 13) rfl) (mt_cons ((g_Memory_take T).mono (by decide)) mt_nil) (sa_cons (se_var 1) sa_nil) (len_cons len_nil)))) ss_nil)
    (ss_cons (ss_if (st_cmp (cm_eq A) (se_var 3) (se_str 14 (T.s rfl))) (ss_cons (ss_set 4 A (se_ix A (se_fld A (T.s (n := 1) rfl) T.ca_held (se_var 0)) (se_meth A (se_fld A (T.s (n := 2) rfl) T.ca_sizes (se_var 0)) (T.s (n := 25) rfl) (mt_cons ((g_Sizes_word T).mono (by decide)) mt_nil) (sa_cons (se_ix A (se_var 2) se_int) (sa_cons (se_ix A (se_var 2) se_int) sa_nil)) (len_cons (len_cons len_nil)))))
    (ss_cons (ss_expr (se_meth A (se_ix A (se_fld A (T.s (n := 7) rfl) T.ca_buffers (se_var 0)) (se_var 1)) (T.s (n := 22) rfl) (mt_cons ((g_Buffer_put T).mono (by decide)) mt_nil) (sa_cons (se_ix A (se_var 2) se_int) (sa_cons (se_ix A (se_var 2) se_int) (sa_cons (se_var 4) sa_nil))) (len_cons (len_cons (len_cons len_nil)))))
    (ss_one (ss_ret (se_var 4))))) ss_nil)
    (ss_one (ss_ret (se_meth A (se_var 0) (T.s (n := 34) rfl) (mt_cons ((g_Memory_use T).mono (by decide)) mt_nil) (sa_cons (se_var 1) (sa_cons (se_var 2) sa_nil)) (len_cons (len_cons len_nil))))))))))⟩
abbrev NN_is_pair : List Str := ["value"]
theorem sc_is_pair : FnScope ["value"] ["value"] (defScope s_is_pair) := ⟨rfl, rfl, rfl, by decide +kernel, rfl, by decide +kernel, by decide +kernel⟩
theorem g_is_pair (T : Facts Kt) : FnK Kt 2 "is_pair" 1 m_is_pair := by
  obtain ⟨f, fd, h1, h2, F⟩ := T.d_is_pair
  exact ⟨f, h1, h2, fn_at F sc_is_pair (fun _ _ _ _ _ _ us hl => match us, hl with | [_], _ => rfl) fun cdv Ar outer s H E A => (ss_cons (ss_if (PW.pt (sw_or (st_not (st_tru A (se_isi .tuple A T.f_isinstance T.f_tuple bt_tuple (se_var 0)))) (sw_or (st_cmp (cm_ne A) (se_len A T.f_len (sa_cons (se_var 0) sa_nil)) se_int) (sw_or (st_not (st_tru A (se_call A ((g_is_integer T).mono (by decide)) (sa_cons (se_ix A (se_var 0) se_int) sa_nil) (len_cons len_nil)))) (sw_or1 (st_not (st_tru A (se_call A ((g_is_integer T).mono (by decide)) (sa_cons (se_ix A (se_var 0) se_int) sa_nil) (len_cons len_nil))))))))) (ss_one (ss_ret se_bl)) ss_nil)
    (ss_one (ss_ret (se_and (se_chain cm_le cm_lt se_int (se_ix A (se_var 0) se_int) (T.c_SPACES A)) (se_one (se_chain cm_le cm_lt se_int (se_ix A (se_var 0) se_int) (T.c_PAGES A)))))))⟩
abbrev NN_is_letter : List Str := ["value", "pairs", "pair"]
theorem sc_is_letter : FnScope ["value", "pairs", "pair"] ["value"] (defScope s_is_letter) := ⟨rfl, rfl, rfl, by decide +kernel, rfl, by decide +kernel, by decide +kernel⟩
theorem g_is_letter (T : Facts Kt) : FnK Kt 3 "is_letter" 1 m_is_letter := by
  obtain ⟨f, fd, h1, h2, F⟩ := T.d_is_letter
  exact ⟨f, h1, h2, fn_at F sc_is_letter (fun _ _ _ _ _ _ us hl => match us, hl with | [_], _ => rfl) fun cdv Ar outer s H E A => (ss_cons (ss_if (PW.pt (sw_or (st_not (st_tru A (se_isi .tuple A T.f_isinstance T.f_tuple bt_tuple (se_var 0)))) (sw_or (st_cmp (cm_ne A) (se_len A T.f_len (sa_cons (se_var 0) sa_nil)) se_int) (sw_or (st_not (st_tru A (se_call A ((g_is_integer T).mono (by decide)) (sa_cons (se_ix A (se_var 0) se_int) sa_nil) (len_cons len_nil)))) (sw_or1 (st_cmp cm_lt (se_ix A (se_var 0) se_int) se_int)))))) (ss_one (ss_ret se_bl)) ss_nil)
    (ss_cons (ss_set 1 A (se_ix A (se_var 0) se_int))
    (ss_one (ss_ret (se_and (se_isi .tuple A T.f_isinstance T.f_tuple bt_tuple (se_var 1)) (se_and (se_cmp cm_gt (se_len A T.f_len (sa_cons (se_var 1) sa_nil)) se_int) (se_one (se_all A T.f_all (sa_cons (se_lc (own := [("pair", 2)]) A (si_tup A (se_var 1)) (blkOk_by (N := NN_is_letter) (sc := defScope s_is_letter) (by decide +kernel)) (fun _ _ _ _ _ => (sg_name 2 A.nd (by simp))) (fun _ _ _ _ _ A => sts_nil) (fun _ _ _ _ _ A => (se_call A ((g_is_pair T).mono (by decide)) (sa_cons (se_var 2) sa_nil) (len_cons len_nil)))) sa_nil)))))))))⟩
abbrev NN_Box_send : List Str := ["self", "letter"]
theorem sc_Box_send : FnScope ["self", "letter"] ["self", "letter"] (defScope s_Box_send) := ⟨rfl, rfl, rfl, by decide +kernel, rfl, by decide +kernel, by decide +kernel⟩
theorem g_Box_send (T : Facts Kt) : MeK Kt 4 "send" 3 2 m_Box_send := by
  obtain ⟨C, hC, hm⟩ := T.k_Box
  obtain ⟨c, f, fd, M, F⟩ := T.d_Box_send C hC
  exact ⟨C, f, hC, c, M, fn_at F sc_Box_send (fun _ _ _ _ _ _ us hl => match us, hl with | [_, _], _ => rfl) fun cdv Ar outer s H E A => (ss_cons (ss_if (st_not (st_tru A (se_call A ((g_is_letter T).mono (by decide)) (sa_cons (se_var 1) sa_nil) (len_cons len_nil)))) (ss_one (ss_raise A T.x_NotValid)) ss_nil)
    (ss_one (ss_expr (se_app A (se_fld A (T.s (n := 0) rfl) T.ca_rows (se_var 0)) (se_var 1)))))⟩
abbrev NN_Memory_check_page : List Str := ["self", "request"]
theorem sc_Memory_check_page : FnScope ["self", "request"] ["self", "request"] (defScope s_Memory_check_page) := ⟨rfl, rfl, rfl, by decide +kernel, rfl, by decide +kernel, by decide +kernel⟩
theorem g_Memory_check_page (T : Facts Kt) : MeK Kt 3 "check_page" 5 2 m_Memory_check_page := by
  obtain ⟨C, hC, hm⟩ := T.k_Memory
  obtain ⟨c, f, fd, M, F⟩ := T.d_Memory_check_page C hC
  exact ⟨C, f, hC, c, M, fn_at F sc_Memory_check_page (fun _ _ _ _ _ _ us hl => match us, hl with | [_, _], _ => rfl) fun cdv Ar outer s H E A => (ss_cons (ss_if (PW.pt (sw_or (st_not (st_tru A (se_call A ((g_is_within T).mono (by decide)) (sa_cons (se_ix A (se_var 1) se_int) (sa_cons se_int (sa_cons (se_sub (T.c_SPACES A) se_int) sa_nil))) (len_cons (len_cons (len_cons len_nil)))))) (sw_or1 (st_not (st_tru A (se_call A ((g_is_within T).mono (by decide)) (sa_cons (se_ix A (se_var 1) se_int) (sa_cons se_int (sa_cons (se_sub (T.c_PAGES A) se_int) sa_nil))) (len_cons (len_cons (len_cons len_nil))))))))) (ss_one (ss_raise A T.x_NotValid)) ss_nil)
    (ss_one (ss_if (PW.pt (sw_and (st_cmp (cm_ne A) (se_ix A (se_var 1) se_int) (se_str 14 (T.s rfl))) (sw_and1 (st_not (st_tru A (se_call A ((g_is_within T).mono (by decide)) (sa_cons (se_ix A (se_var 1) se_int) (sa_cons se_int (sa_cons (se_sub (T.c_CELLS A) se_int) sa_nil))) (len_cons (len_cons (len_cons len_nil))))))))) (ss_one (ss_raise A T.x_NotValid)) ss_nil)))⟩
abbrev NN_Memory_check_request : List Str := ["self", "processor", "request", "kind"]
theorem sc_Memory_check_request : FnScope ["self", "processor", "request", "kind"] ["self", "processor", "request"] (defScope s_Memory_check_request) := ⟨rfl, rfl, rfl, by decide +kernel, rfl, by decide +kernel, by decide +kernel⟩
theorem g_Memory_check_request (T : Facts Kt) : MeK Kt 4 "check_request" 5 3 m_Memory_check_request := by
  obtain ⟨C, hC, hm⟩ := T.k_Memory
  obtain ⟨c, f, fd, M, F⟩ := T.d_Memory_check_request C hC
  exact ⟨C, f, hC, c, M, fn_at F sc_Memory_check_request (fun _ _ _ _ _ _ us hl => match us, hl with | [_, _, _], _ => rfl) fun cdv Ar outer s H E A => (ss_cons (ss_if (PW.pt (sw_or (st_not (st_tru A (se_call A ((g_is_within T).mono (by decide)) (sa_cons (se_var 1) (sa_cons se_int (sa_cons (se_sub (se_fld A (T.s (n := 4) rfl) T.ca_processors (se_fld A (T.s (n := 2) rfl) T.ca_sizes (se_var 0))) se_int) sa_nil))) (len_cons (len_cons (len_cons len_nil)))))) (sw_or1 (st_not (st_tru A (se_isi .tuple A T.f_isinstance T.f_tuple bt_tuple (se_var 2))))))) (ss_one (ss_raise A T.x_NotValid)) ss_nil)
    (ss_cons (ss_if (PW.pt (sw_or (st_cmp (cm_eq A) (se_len A T.f_len (sa_cons (se_var 2) sa_nil)) se_int) (sw_or1 (st_cmp (cm_ne A) (se_dget A (T.c_LENGTHS A) (sa_cons (se_ix A (se_var 2) se_int) sa_nil)) (se_len A T.f_len (sa_cons (se_var 2) sa_nil)))))) (ss_one (ss_raise A T.x_NotValid)) ss_nil)
    (ss_cons (ss_set 3 A (se_ix A (se_var 2) se_int))
    (ss_one (ss_if (st_cmp (cm_in A) (se_var 3) (se_tup (sa_cons (se_str 9 (T.s rfl)) (sa_cons (se_str 10 (T.s rfl)) (sa_cons (se_str 11 (T.s rfl)) sa_nil))))) (ss_one (ss_expr (se_meth A (se_var 0) (T.s (n := 28) rfl) (mt_cons ((g_Memory_check_cell T).mono (by decide)) mt_nil) (sa_cons (se_ix A (se_var 2) se_int) sa_nil) (len_cons len_nil)))) (ss_one (ss_if (st_cmp (cm_eq A) (se_var 3) (se_str 12 (T.s rfl))) (ss_one (ss_if (st_not (st_tru A (se_call A ((g_is_within T).mono (by decide)) (sa_cons (se_ix A (se_var 2) se_int) (sa_cons se_int (sa_cons (se_sub (se_fld A (T.s (n := 4) rfl) T.ca_processors (se_fld A (T.s (n := 2) rfl) T.ca_sizes (se_var 0))) se_int) sa_nil))) (len_cons (len_cons (len_cons len_nil)))))) (ss_one (ss_raise A T.x_NotValid)) ss_nil)) (ss_one (ss_if (st_cmp (cm_ne A) (se_var 3) (se_str 13 (T.s rfl))) (ss_one (ss_expr (se_meth A (se_var 0) (T.s (n := 30) rfl) (mt_cons ((g_Memory_check_page T).mono (by decide)) mt_nil) (sa_cons (se_var 2) sa_nil) (len_cons len_nil)))) ss_nil)))))))))⟩
abbrev NN_Memory_access : List Str := ["self", "processor", "request"]
theorem sc_Memory_access : FnScope ["self", "processor", "request"] ["self", "processor", "request"] (defScope s_Memory_access) := ⟨rfl, rfl, rfl, by decide +kernel, rfl, by decide +kernel, by decide +kernel⟩
theorem g_Memory_access (T : Facts Kt) : MeK Kt 5 "access" 5 3 m_Memory_access := by
  obtain ⟨C, hC, hm⟩ := T.k_Memory
  obtain ⟨c, f, fd, M, F⟩ := T.d_Memory_access C hC
  exact ⟨C, f, hC, c, M, fn_at F sc_Memory_access (fun _ _ _ _ _ _ us hl => match us, hl with | [_, _, _], _ => rfl) fun cdv Ar outer s H E A => (ss_cons (ss_expr (se_meth A (se_var 0) (T.s (n := 29) rfl) (mt_cons ((g_Memory_check_request T).mono (by decide)) mt_nil) (sa_cons (se_var 1) (sa_cons (se_var 2) sa_nil)) (len_cons (len_cons len_nil))))
    (ss_cons (ss_if (st_cmp (cm_eq A) (se_ix A (se_var 2) se_int) (se_str 12 (T.s rfl))) (ss_one (ss_expr (se_meth A (se_ix A (se_fld A (T.s (n := 8) rfl) T.ca_boxes (se_var 0)) (se_ix A (se_var 2) se_int)) (T.s (n := 12) rfl) (mt_cons ((g_Box_send T).mono (by decide)) mt_nil) (sa_cons (se_ix A (se_var 2) se_int) sa_nil) (len_cons len_nil)))) ss_nil)
    (ss_cons (ss_auga A (T.s (n := 3) rfl) T.ca_count (se_var 0) se_int)
    (ss_cons (ss_expr (se_app A (se_fld A (T.s (n := 0) rfl) T.ca_rows (se_var 0)) (se_tup (sa_cons (se_fld A (T.s (n := 3) rfl) T.ca_count (se_var 0)) (sa_cons (se_var 1) (sa_cons (se_var 2) sa_nil))))))
    (ss_one (ss_ret (se_tup (sa_cons (se_meth A (se_var 0) (T.s (n := 32) rfl) (mt_cons ((g_Memory_result T).mono (by decide)) mt_nil) (sa_cons (se_var 1) (sa_cons (se_var 2) sa_nil)) (len_cons (len_cons len_nil))) (sa_cons (se_fld A (T.s (n := 3) rfl) T.ca_count (se_var 0)) sa_nil)))))))))⟩
abbrev NN__law_frame : List Str := ["_law_rows", "_law_space", "_law_page", "_law_writing", "_law_row"]
theorem sc__law_frame : FnScope ["_law_rows", "_law_space", "_law_page", "_law_writing", "_law_row"] ["_law_rows", "_law_space", "_law_page", "_law_writing"] (defScope s__law_frame) := ⟨rfl, rfl, rfl, by decide +kernel, rfl, by decide +kernel, by decide +kernel⟩
theorem g__law_frame (T : Facts Kt) : FnK Kt 1 "_law_frame" 4 m__law_frame := by
  obtain ⟨f, fd, h1, h2, F⟩ := T.d__law_frame
  exact ⟨f, h1, h2, fn_at F sc__law_frame (fun _ _ _ _ _ _ us hl => match us, hl with | [_, _, _, _], _ => rfl) fun cdv Ar outer s H E A => (ss_cons (ss_for (vs := [4]) A (si_lst A (se_var 0)) (sg_name 4 A.nd (by simp)) (ss_one (ss_if (PW.pt (sw_and (st_cmp (cm_eq A) (se_sl A (se_var 4) sl_no (sl_so se_int)) (se_tup (sa_cons (se_var 1) (sa_cons (se_var 2) sa_nil)))) (sw_and1 (PW.pt (sw_or (st_tru A (se_ix A (se_var 4) se_int)) (sw_or1 (st_not (st_tru A (se_var 3))))))))) (ss_one (ss_ret (se_ix A (se_var 4) se_int))) ss_nil)))
    (ss_one (ss_ret se_non)))⟩
abbrev NN__law_use : List Str := ["_law_w", "_law_p", "_law_request_here", "_law_kind", "_law_frame_here", "_law_cell"]
theorem sc__law_use : FnScope ["_law_w", "_law_p", "_law_request_here", "_law_kind", "_law_frame_here", "_law_cell"] ["_law_w", "_law_p", "_law_request_here"] (defScope s__law_use) := ⟨rfl, rfl, rfl, by decide +kernel, rfl, by decide +kernel, by decide +kernel⟩
theorem g__law_use (T : Facts Kt) : FnK Kt 2 "_law_use" 3 m__law_use := by
  obtain ⟨f, fd, h1, h2, F⟩ := T.d__law_use
  exact ⟨f, h1, h2, fn_at F sc__law_use (fun _ _ _ _ _ _ us hl => match us, hl with | [_, _, _], _ => rfl) fun cdv Ar outer s H E A => (ss_cons (ss_set 3 A (se_ix A (se_var 2) se_int))
    (ss_cons (ss_set 4 A (se_call A ((g__law_frame T).mono (by decide)) (sa_cons (se_ix A (se_ixC A (se_var 0) (se_str 7 (T.s rfl))) (se_var 1)) (sa_cons (se_ix A (se_var 2) se_int) (sa_cons (se_ix A (se_var 2) se_int) (sa_cons (se_cmp (cm_ne A) (se_var 3) (se_str 15 (T.s rfl))) sa_nil)))) (len_cons (len_cons (len_cons (len_cons len_nil))))))
    (ss_cons (ss_if (st_cmp cm_is (se_var 4) se_non) (ss_one (ss_ret (se_ix A (se_lst (sa_cons se_non (sa_cons se_bl sa_nil))) (se_int1 A T.f_int (sa_cons (se_cmp (cm_eq A) (se_var 3) (se_str 16 (T.s rfl))) sa_nil))))) ss_nil)
    (ss_cons (ss_set 5 A (se_add A (se_add A (se_add A se_int (se_ixC A (se_var 0) (se_str 43 (T.s rfl)))) (se_mul se_int (se_var 4))) (se_ix A (se_var 2) se_int)))
    (ss_cons (ss_if (st_cmp (cm_eq A) (se_var 3) (se_str 15 (T.s rfl))) (ss_one (ss_ret (se_tup (sa_cons (se_ix A (se_ixC A (se_var 0) (se_str 1 (T.s rfl))) (se_var 5)) sa_nil)))) ss_nil)
    (ss_cons (ss_if (st_cmp (cm_eq A) (se_var 3) (se_str 16 (T.s rfl))) (ss_cons (ss_sub A (se_ixC A (se_var 0) (se_str 1 (T.s rfl))) (se_var 5) (se_ix A (se_var 2) se_int))
    (ss_one (ss_ret se_bl))) ss_nil)
    (ss_cons (ss_if (st_cmp (cm_ne A) (se_ix A (se_ixC A (se_var 0) (se_str 1 (T.s rfl))) (se_var 5)) (se_ix A (se_var 2) se_int)) (ss_one (ss_ret (se_tup (sa_cons (se_ix A (se_ixC A (se_var 0) (se_str 1 (T.s rfl))) (se_var 5)) sa_nil)))) ss_nil)
    (ss_cons (ss_sub A (se_ixC A (se_var 0) (se_str 1 (T.s rfl))) (se_var 5) (se_ix A (se_var 2) se_int))
    (ss_one (ss_ret (se_tup (sa_cons (se_str 19 (T.s rfl)) sa_nil))))))))))))⟩
abbrev NN__law_put : List Str := ["_law_rows", "_law_space", "_law_page", "_law_word", "_law_row"]
theorem sc__law_put : FnScope ["_law_rows", "_law_space", "_law_page", "_law_word", "_law_row"] ["_law_rows", "_law_space", "_law_page", "_law_word"] (defScope s__law_put) := ⟨rfl, rfl, rfl, by decide +kernel, rfl, by decide +kernel, by decide +kernel⟩
theorem g__law_put (T : Facts Kt) : FnK Kt 1 "_law_put" 4 m__law_put := by
  obtain ⟨f, fd, h1, h2, F⟩ := T.d__law_put
  exact ⟨f, h1, h2, fn_at F sc__law_put (fun _ _ _ _ _ _ us hl => match us, hl with | [_, _, _, _], _ => rfl) fun cdv Ar outer s H E A => (ss_cons (ss_lc 0 (own := [("_law_row", 4)]) A (si_lst A (se_var 0)) (blkOk_by (N := NN__law_put) (sc := defScope s__law_put) (by decide +kernel)) (fun _ _ _ _ _ => (sg_name 4 A.nd (by simp))) (fun _ _ _ _ _ A => (sts_one (st_cmp (cm_ne A) (se_sl A (se_var 4) sl_no (sl_so se_int)) (se_tup (sa_cons (se_var 1) (sa_cons (se_var 2) sa_nil)))))) (fun _ _ _ _ _ A => (se_var 4)))
    (ss_cons (ss_if (PW.pt (sw_and (st_cmp cm_not (se_var 3) se_non) (sw_and1 (st_cmp (cm_eq A) (se_ix A (se_var 3) se_int) (se_str 18 (T.s rfl)))))) (ss_one (ss_set 0 A (se_add A (se_var 0) (se_lst (sa_cons (se_tup (sa_cons (se_var 1) (sa_cons (se_var 2) (sa_cons (se_ix A (se_var 3) se_int) (sa_cons (se_ix A (se_var 3) se_int) sa_nil))))) sa_nil))))) ss_nil)
    (ss_cons (ss_if (st_cmp cm_gt (se_len A T.f_len (sa_cons (se_var 0) sa_nil)) se_int) (ss_one (ss_set 0 A (se_sl A (se_var 0) (sl_so se_int) sl_no))) ss_nil)
    (ss_one (ss_ret (se_var 0))))))⟩
abbrev NN__law_due : List Str := ["_law_w", "_law_p", "_law_request_here", "_law_kind", "_law_word", "_law_ticket", "_law_pairs", "_law_row"]
theorem sc__law_due : FnScope ["_law_w", "_law_p", "_law_request_here", "_law_kind", "_law_word", "_law_ticket", "_law_pairs", "_law_row"] ["_law_w", "_law_p", "_law_request_here"] (defScope s__law_due) := ⟨rfl, rfl, rfl, by decide +kernel, rfl, by decide +kernel, by decide +kernel⟩
theorem g__law_due (T : Facts Kt) : FnK Kt 3 "_law_due" 3 m__law_due := by
  obtain ⟨f, fd, h1, h2, F⟩ := T.d__law_due
  exact ⟨f, h1, h2, fn_at F sc__law_due (fun _ _ _ _ _ _ us hl => match us, hl with | [_, _, _], _ => rfl) fun cdv Ar outer s H E A => (ss_cons (ss_set 3 A (se_ix A (se_var 2) se_int))
    (ss_cons (ss_if (st_cmp (cm_eq A) (se_var 3) (se_str 10 (T.s rfl))) (ss_cons (ss_sub A (se_ixC A (se_var 0) (se_str 1 (T.s rfl))) (se_ix A (se_var 2) se_int) (se_ix A (se_var 2) se_int))
    (ss_one (ss_ret se_non))) ss_nil)
    (ss_cons (ss_if (st_cmp (cm_eq A) (se_var 3) (se_str 14 (T.s rfl))) (ss_cons (ss_set 4 A (se_ix A (se_ixC A (se_var 0) (se_str 1 (T.s rfl))) (se_add A (se_add A (se_add A se_int (se_ixC A (se_var 0) (se_str 43 (T.s rfl)))) (se_mul se_int (se_ix A (se_var 2) se_int))) (se_ix A (se_var 2) se_int))))
    (ss_cons (ss_sub A (se_ixC A (se_var 0) (se_str 7 (T.s rfl))) (se_var 1) (se_call A ((g__law_put T).mono (by decide)) (sa_cons (se_ix A (se_ixC A (se_var 0) (se_str 7 (T.s rfl))) (se_var 1)) (sa_cons (se_ix A (se_var 2) se_int) (sa_cons (se_ix A (se_var 2) se_int) (sa_cons (se_var 4) sa_nil)))) (len_cons (len_cons (len_cons (len_cons len_nil))))))
    (ss_one (ss_ret (se_var 4))))) ss_nil)
    (ss_cons (ss_if (st_cmp (cm_eq A) (se_var 3) (se_str 12 (T.s rfl))) (ss_cons (ss_sub A (se_ixC A (se_var 0) (se_str 8 (T.s rfl))) (se_ix A (se_var 2) se_int) (se_add A (se_ix A (se_ixC A (se_var 0) (se_str 8 (T.s rfl))) (se_ix A (se_var 2) se_int)) (se_lst (sa_cons (se_ix A (se_var 2) se_int) sa_nil))))
    (ss_one (ss_ret se_non))) ss_nil)
    (ss_cons (ss_if (st_cmp (cm_eq A) (se_var 3) (se_str 13 (T.s rfl))) (ss_cons (ss_if (st_cmp (cm_eq A) (se_ix A (se_ixC A (se_var 0) (se_str 8 (T.s rfl))) (se_var 1)) (se_lst sa_nil)) (ss_one (ss_ret se_bl)) ss_nil)
    (ss_cons (ss_asg (vs := [5, 6]) A (se_ix A (se_ix A (se_ixC A (se_var 0) (se_str 8 (T.s rfl))) (se_var 1)) se_int) (sg_tup 2 A (sgs_cons (sg_name 5 A.nd (by simp)) (sgs_cons (sg_name 6 A.nd (by simp)) sgs_nil))))
    (ss_cons (ss_sub A (se_ixC A (se_var 0) (se_str 8 (T.s rfl))) (se_var 1) (se_sl A (se_ix A (se_ixC A (se_var 0) (se_str 8 (T.s rfl))) (se_var 1)) (sl_so se_int) sl_no))
    (ss_cons (ss_sub A (se_ixC A (se_var 0) (se_str 7 (T.s rfl))) (se_var 1) (se_lc (own := [("_law_row", 7)]) A (si_lst A (se_ix A (se_ixC A (se_var 0) (se_str 7 (T.s rfl))) (se_var 1))) (blkOk_by (N := NN__law_due) (sc := defScope s__law_due) (by decide +kernel)) (fun _ _ _ _ _ => (sg_name 7 A.nd (by simp))) (fun _ _ _ _ _ A => (sts_one (st_cmp (cm_notin A) (se_sl A (se_var 7) sl_no (sl_so se_int)) (se_var 6)))) (fun _ _ _ _ _ A => (se_var 7))))
    (ss_cons (ss_sub A (se_ixC A (se_var 0) (se_str 1 (T.s rfl))) (se_add A se_int (se_var 1)) (se_var 5))
    (ss_one (ss_ret se_bl))))))) ss_nil)
    (ss_one (ss_ret (se_call A ((g__law_use T).mono (by decide)) (sa_cons (se_var 0) (sa_cons (se_var 1) (sa_cons (se_var 2) sa_nil))) (len_cons (len_cons (len_cons len_nil)))))))))))⟩
abbrev NN__law_request : List Str := ["_law_w", "_law_number", "_law_pick", "_law_other", "_law_space", "_law_page", "_law_kind", "_law_word", "_law_pairs"]
theorem sc__law_request : FnScope ["_law_w", "_law_number", "_law_pick", "_law_other", "_law_space", "_law_page", "_law_kind", "_law_word", "_law_pairs"] ["_law_w", "_law_number", "_law_pick", "_law_other"] (defScope s__law_request) := ⟨rfl, rfl, rfl, by decide +kernel, rfl, by decide +kernel, by decide +kernel⟩
theorem g__law_request (T : Facts Kt) : FnK Kt 1 "_law_request" 4 m__law_request := by
  obtain ⟨f, fd, h1, h2, F⟩ := T.d__law_request
  exact ⟨f, h1, h2, fn_at F sc__law_request (fun _ _ _ _ _ _ us hl => match us, hl with | [_, _, _, _], _ => rfl) fun cdv Ar outer s H E A => (ss_cons (ss_set 4 A (se_mod (se_var 2) se_int))
    (ss_cons (ss_set 5 A (se_ix A (se_lst (sa_cons se_int (sa_cons se_int (sa_cons se_int (sa_cons se_int sa_nil))))) (se_mod (se_div (se_var 2) se_int) se_int)))
    (ss_cons (ss_set 6 A (se_mod (se_var 1) se_int))
    (ss_cons (ss_if (st_cmp cm_lt (se_var 6) se_int) (ss_cons (ss_set 7 A (se_ix A (se_lst (sa_cons (se_tup (sa_cons (se_str 18 (T.s rfl)) (sa_cons (se_mod (se_var 3) se_int) (sa_cons (se_cmp (cm_eq A) (se_mod (se_div (se_var 3) se_int) se_int) se_int) sa_nil)))) (sa_cons (se_tup (sa_cons (se_str 18 (T.s rfl)) (sa_cons se_int (sa_cons se_bl sa_nil)))) (sa_cons se_non (sa_cons (se_tup (sa_cons (se_str 11 (T.s rfl)) (sa_cons se_int sa_nil))) sa_nil))))) (se_mod (se_div (se_var 3) se_int) se_int)))
    (ss_one (ss_ret (se_tup (sa_cons (se_str 10 (T.s rfl)) (sa_cons (se_add A (se_add A (se_add A se_int (se_ixC A (se_var 0) (se_str 43 (T.s rfl)))) (se_mul se_int (se_var 4))) (se_var 5)) (sa_cons (se_var 7) sa_nil))))))) ss_nil)
    (ss_cons (ss_if (st_cmp (cm_eq A) (se_var 6) se_int) (ss_one (ss_ret (se_tup (sa_cons (se_str 10 (T.s rfl)) (sa_cons (se_add A (se_add A se_int (se_ixC A (se_var 0) (se_str 43 (T.s rfl)))) (se_mod (se_var 3) se_int)) (sa_cons (se_var 3) sa_nil)))))) ss_nil)
    (ss_cons (ss_if (st_cmp cm_lt (se_var 6) se_int) (ss_one (ss_ret (se_tup (sa_cons (se_str 14 (T.s rfl)) (sa_cons (se_var 4) (sa_cons (se_var 5) sa_nil)))))) ss_nil)
    (ss_cons (ss_if (st_cmp (cm_eq A) (se_var 6) se_int) (ss_one (ss_ret (se_tup (sa_cons (se_str 15 (T.s rfl)) (sa_cons (se_var 4) (sa_cons (se_var 5) (sa_cons (se_mod (se_var 3) se_int) sa_nil))))))) ss_nil)
    (ss_cons (ss_if (st_cmp (cm_eq A) (se_var 6) se_int) (ss_one (ss_ret (se_tup (sa_cons (se_str 16 (T.s rfl)) (sa_cons (se_var 4) (sa_cons (se_var 5) (sa_cons (se_mod (se_var 3) se_int) (sa_cons (se_var 3) sa_nil)))))))) ss_nil)
    (ss_cons (ss_if (st_cmp (cm_eq A) (se_var 6) se_int) (ss_one (ss_ret (se_tup (sa_cons (se_str 17 (T.s rfl)) (sa_cons (se_var 4) (sa_cons (se_var 5) (sa_cons (se_mod (se_var 3) se_int) (sa_cons (se_ix A (se_lst (sa_cons (se_div (se_var 3) se_int) (sa_cons se_int sa_nil))) (se_mod (se_div (se_var 3) se_int) se_int)) (sa_cons (se_div (se_var 3) se_int) sa_nil))))))))) ss_nil)
    (ss_cons (ss_if (st_cmp (cm_eq A) (se_var 6) se_int) (ss_cons (ss_set 8 A (se_tuple A T.f_tuple (sa_cons (se_sl A (se_lst (sa_cons (se_tup (sa_cons (se_var 4) (sa_cons (se_var 5) sa_nil))) (sa_cons (se_tup (sa_cons (se_mod (se_var 3) se_int) (sa_cons (se_mod (se_div (se_var 3) se_int) se_int) sa_nil))) sa_nil))) sl_no (sl_so (se_add A se_int (se_mod (se_div (se_var 3) se_int) se_int)))) sa_nil)))
    (ss_one (ss_ret (se_tup (sa_cons (se_str 12 (T.s rfl)) (sa_cons (se_mod (se_var 3) (se_ixC A (se_var 0) (se_str 43 (T.s rfl)))) (sa_cons (se_tup (sa_cons (se_add A se_int (se_var 3)) (sa_cons (se_var 8) sa_nil))) sa_nil))))))) ss_nil)
    (ss_one (ss_ret (se_tup (sa_cons (se_str 13 (T.s rfl)) sa_nil))))))))))))))⟩
abbrev NN__law_at : List Str := ["_law_tape_here", "_law_k"]
theorem sc__law_at : FnScope ["_law_tape_here", "_law_k"] ["_law_tape_here", "_law_k"] (defScope s__law_at) := ⟨rfl, rfl, rfl, by decide +kernel, rfl, by decide +kernel, by decide +kernel⟩
theorem g__law_at (T : Facts Kt) : FnK Kt 1 "_law_at" 2 m__law_at := by
  obtain ⟨f, fd, h1, h2, F⟩ := T.d__law_at
  exact ⟨f, h1, h2, fn_at F sc__law_at (fun _ _ _ _ _ _ us hl => match us, hl with | [_, _], _ => rfl) fun cdv Ar outer s H E A => (ss_cons (ss_if (st_cmp cm_lt (se_var 1) (se_len A T.f_len (sa_cons (se_var 0) sa_nil))) (ss_one (ss_ret (se_ix A (se_var 0) (se_var 1)))) ss_nil)
    (ss_one (ss_ret se_int)))⟩
abbrev NN_Sizes_swap_block : List Str := ["self", "block"]
theorem sc_Sizes_swap_block : FnScope ["self", "block"] ["self", "block"] (defScope s_Sizes_swap_block) := ⟨rfl, rfl, rfl, by decide +kernel, rfl, by decide +kernel, by decide +kernel⟩
theorem g_Sizes_swap_block (T : Facts Kt) : MeK Kt 2 "swap_block" 4 2 m_Sizes_swap_block := by
  obtain ⟨C, hC, hm⟩ := T.k_Sizes
  obtain ⟨c, f, fd, M, F⟩ := T.d_Sizes_swap_block C hC
  exact ⟨C, f, hC, c, M, fn_at F sc_Sizes_swap_block (fun _ _ _ _ _ _ us hl => match us, hl with | [_, _], _ => rfl) fun cdv Ar outer s H E A => (ss_one (ss_ret (se_add A (se_meth A (se_var 0) (T.s (n := 27) rfl) (mt_cons ((g_Sizes_frame_cell T).mono (by decide)) mt_nil) (sa_cons (se_fld A (T.s (n := 5) rfl) T.ca_frames (se_var 0)) (sa_cons se_int sa_nil)) (len_cons (len_cons len_nil))) (se_var 1))))⟩
abbrev NN_Sizes_file_block : List Str := ["self", "file", "page"]
theorem sc_Sizes_file_block : FnScope ["self", "file", "page"] ["self", "file", "page"] (defScope s_Sizes_file_block) := ⟨rfl, rfl, rfl, by decide +kernel, rfl, by decide +kernel, by decide +kernel⟩
theorem g_Sizes_file_block (T : Facts Kt) : MeK Kt 3 "file_block" 4 3 m_Sizes_file_block := by
  obtain ⟨C, hC, hm⟩ := T.k_Sizes
  obtain ⟨c, f, fd, M, F⟩ := T.d_Sizes_file_block C hC
  exact ⟨C, f, hC, c, M, fn_at F sc_Sizes_file_block (fun _ _ _ _ _ _ us hl => match us, hl with | [_, _, _], _ => rfl) fun cdv Ar outer s H E A => (ss_one (ss_ret (se_add A (se_add A (se_meth A (se_var 0) (T.s (n := 38) rfl) (mt_cons ((g_Sizes_swap_block T).mono (by decide)) mt_nil) (sa_cons (se_fld A (T.s (n := 6) rfl) T.ca_blocks (se_var 0)) sa_nil) (len_cons len_nil)) (se_mul (T.c_FILE_PAGES A) (se_var 1))) (se_var 2))))⟩
abbrev NN_Sizes_cells : List Str := ["self"]
theorem sc_Sizes_cells : FnScope ["self"] ["self"] (defScope s_Sizes_cells) := ⟨rfl, rfl, rfl, by decide +kernel, rfl, by decide +kernel, by decide +kernel⟩
theorem g_Sizes_cells (T : Facts Kt) : MeK Kt 4 "cells" 4 1 m_Sizes_cells := by
  obtain ⟨C, hC, hm⟩ := T.k_Sizes
  obtain ⟨c, f, fd, M, F⟩ := T.d_Sizes_cells C hC
  exact ⟨C, f, hC, c, M, fn_at F sc_Sizes_cells (fun _ _ _ _ _ _ us hl => match us, hl with | [_], _ => rfl) fun cdv Ar outer s H E A => (ss_one (ss_ret (se_meth A (se_var 0) (T.s (n := 39) rfl) (mt_cons ((g_Sizes_file_block T).mono (by decide)) mt_nil) (sa_cons (T.c_FILES A) (sa_cons se_int sa_nil)) (len_cons (len_cons len_nil)))))⟩
abbrev NN_Box___init__ : List Str := ["self"]
theorem sc_Box___init__ : FnScope ["self"] ["self"] (defScope s_Box___init__) := ⟨rfl, rfl, rfl, by decide +kernel, rfl, by decide +kernel, by decide +kernel⟩
theorem mk_Box (T : Facts Kt) : MkK Kt 1 "Box" 3 1 m_Box___init__ := by
  obtain ⟨C, hC, hm⟩ := T.k_Box
  obtain ⟨f, M, fd, F⟩ := T.mk_Box C hC
  exact ⟨C, f, hC, hm, M, fn_at F sc_Box___init__ (fun _ _ _ _ _ _ us hl => match us, hl with | [_], _ => rfl) fun cdv Ar outer s H E A => (ss_one (ss_fld A (T.s (n := 0) rfl) T.ca_rows (se_var 0) (se_lstO sa_nil)))⟩
abbrev NN_Buffer___init__ : List Str := ["self"]
theorem sc_Buffer___init__ : FnScope ["self"] ["self"] (defScope s_Buffer___init__) := ⟨rfl, rfl, rfl, by decide +kernel, rfl, by decide +kernel, by decide +kernel⟩
theorem mk_Buffer (T : Facts Kt) : MkK Kt 1 "Buffer" 2 1 m_Buffer___init__ := by
  obtain ⟨C, hC, hm⟩ := T.k_Buffer
  obtain ⟨f, M, fd, F⟩ := T.mk_Buffer C hC
  exact ⟨C, f, hC, hm, M, fn_at F sc_Buffer___init__ (fun _ _ _ _ _ _ us hl => match us, hl with | [_], _ => rfl) fun cdv Ar outer s H E A => (ss_one (ss_fld A (T.s (n := 0) rfl) T.ca_rows (se_var 0) (se_lst sa_nil)))⟩
abbrev NN_first_values : List Str := ["sizes", "values"]
theorem sc_first_values : FnScope ["sizes", "values"] ["sizes"] (defScope s_first_values) := ⟨rfl, rfl, rfl, by decide +kernel, rfl, by decide +kernel, by decide +kernel⟩
theorem g_first_values (T : Facts Kt) : FnK Kt 1 "first_values" 1 m_first_values := by
  obtain ⟨f, fd, h1, h2, F⟩ := T.d_first_values
  exact ⟨f, h1, h2, fn_at F sc_first_values (fun _ _ _ _ _ _ us hl => match us, hl with | [_], _ => rfl) fun cdv Ar outer s H E A => (ss_cons (ss_set 1 A (se_add A (se_mul (se_lst (sa_cons se_int sa_nil)) (se_add A se_int (se_fld A (T.s (n := 4) rfl) T.ca_processors (se_var 0)))) (se_mul (se_lst (sa_cons se_non sa_nil)) (se_mul (T.c_SPACES A) (T.c_PAGES A)))))
    (ss_cons (ss_set 1 A (se_add A (se_var 1) (se_mul (se_lst (sa_cons se_int sa_nil)) (se_mul (T.c_CELLS A) (se_fld A (T.s (n := 5) rfl) T.ca_frames (se_var 0))))))
    (ss_one (ss_ret (se_addO A (se_var 1) (se_mul (se_lst (sa_cons (se_tup (sa_cons se_int (sa_cons se_int sa_nil))) sa_nil)) (se_add A (se_fld A (T.s (n := 6) rfl) T.ca_blocks (se_var 0)) (se_mul (T.c_FILES A) (T.c_FILE_PAGES A)))))))))⟩
abbrev NN_Memory___init__ : List Str := ["self", "sizes", "_"]
theorem sc_Memory___init__ : FnScope ["self", "sizes", "_"] ["self", "sizes"] (defScope s_Memory___init__) := ⟨rfl, rfl, rfl, by decide +kernel, rfl, by decide +kernel, by decide +kernel⟩
theorem mk_Memory (T : Facts Kt) : MkK Kt 3 "Memory" 5 2 m_Memory___init__ := by
  obtain ⟨C, hC, hm⟩ := T.k_Memory
  obtain ⟨f, M, fd, F⟩ := T.mk_Memory C hC
  exact ⟨C, f, hC, hm, M, fn_at F sc_Memory___init__ (fun _ _ _ _ _ _ us hl => match us, hl with | [_, _], _ => rfl) fun cdv Ar outer s H E A => (ss_cons (ss_fld A (T.s (n := 2) rfl) T.ca_sizes (se_var 0) (se_var 1))
    (ss_cons (ss_fld A (T.s (n := 3) rfl) T.ca_count (se_var 0) se_int)
    (ss_cons (ss_fld A (T.s (n := 1) rfl) T.ca_held (se_var 0) (se_call A ((g_first_values T).mono (by decide)) (sa_cons (se_var 1) sa_nil) (len_cons len_nil)))
    (ss_cons (ss_fld A (T.s (n := 7) rfl) T.ca_buffers (se_var 0) (se_lc (own := [("_", 2)]) A (si_rng1 A (se_fld A (T.s (n := 4) rfl) T.ca_processors (se_var 1)) T.f_range) (blkOk_by (N := NN_Memory___init__) (sc := defScope s_Memory___init__) (by decide +kernel)) (fun _ _ _ _ _ => (sg_name 2 A.nd (by simp))) (fun _ _ _ _ _ A => sts_nil) (fun _ _ _ _ _ A => (se_make0 A ((mk_Buffer T).mono (by decide))))))
    (ss_cons (ss_fld A (T.s (n := 8) rfl) T.ca_boxes (se_var 0) (se_lc (own := [("_", 2)]) A (si_rng1 A (se_fld A (T.s (n := 4) rfl) T.ca_processors (se_var 1)) T.f_range) (blkOk_by (N := NN_Memory___init__) (sc := defScope s_Memory___init__) (by decide +kernel)) (fun _ _ _ _ _ => (sg_name 2 A.nd (by simp))) (fun _ _ _ _ _ A => sts_nil) (fun _ _ _ _ _ A => (se_make0 A ((mk_Box T).mono (by decide))))))
    (ss_one (ss_fld A (T.s (n := 0) rfl) T.ca_rows (se_var 0) (se_lstO sa_nil))))))))⟩
abbrev NN_Sizes___init__ : List Str := ["self", "processors", "frames", "blocks"]
theorem sc_Sizes___init__ : FnScope ["self", "processors", "frames", "blocks"] ["self", "processors", "frames", "blocks"] (defScope s_Sizes___init__) := ⟨rfl, rfl, rfl, by decide +kernel, rfl, by decide +kernel, by decide +kernel⟩
theorem mk_Sizes (T : Facts Kt) : MkK Kt 3 "Sizes" 4 4 m_Sizes___init__ := by
  obtain ⟨C, hC, hm⟩ := T.k_Sizes
  obtain ⟨f, M, fd, F⟩ := T.mk_Sizes C hC
  exact ⟨C, f, hC, hm, M, fn_at F sc_Sizes___init__ (fun _ _ _ _ _ _ us hl => match us, hl with | [_, _, _, _], _ => rfl) fun cdv Ar outer s H E A => (ss_cons (ss_if (PW.pt (sw_or (st_not (st_tru A (se_call A ((g_is_within T).mono (by decide)) (sa_cons (se_var 1) (sa_cons se_int (sa_cons (T.c_MOST_PROCESSORS A) sa_nil))) (len_cons (len_cons (len_cons len_nil)))))) (sw_or1 (st_not (st_tru A (se_call A ((g_is_within T).mono (by decide)) (sa_cons (se_var 2) (sa_cons (T.c_LEAST_FRAMES A) (sa_cons (T.c_MOST_FRAMES A) sa_nil))) (len_cons (len_cons (len_cons len_nil))))))))) (ss_one (ss_raise A T.x_NotValid)) ss_nil)
    (ss_cons (ss_if (st_not (st_tru A (se_call A ((g_is_within T).mono (by decide)) (sa_cons (se_var 3) (sa_cons se_int (sa_cons (T.c_MOST_BLOCKS A) sa_nil))) (len_cons (len_cons (len_cons len_nil)))))) (ss_one (ss_raise A T.x_NotValid)) ss_nil)
    (ss_cons (ss_fld A (T.s (n := 4) rfl) T.ca_processors (se_var 0) (se_var 1))
    (ss_cons (ss_fld A (T.s (n := 5) rfl) T.ca_frames (se_var 0) (se_var 2))
    (ss_one (ss_fld A (T.s (n := 6) rfl) T.ca_blocks (se_var 0) (se_var 3)))))))⟩
abbrev NN__law_tape : List Str := ["_law_script", "_law_tape_here", "_law_k", "_law_value", "_law_step"]
theorem sc__law_tape : FnScope ["_law_script", "_law_tape_here", "_law_k", "_law_value", "_law_step"] ["_law_script"] (defScope s__law_tape) := ⟨rfl, rfl, rfl, by decide +kernel, rfl, by decide +kernel, by decide +kernel⟩
theorem g__law_tape (T : Facts Kt) : FnK Kt 1 "_law_tape" 1 m__law_tape := by
  obtain ⟨f, fd, h1, h2, F⟩ := T.d__law_tape
  exact ⟨f, h1, h2, fn_at F sc__law_tape (fun _ _ _ _ _ _ us hl => match us, hl with | [_], _ => rfl) fun cdv Ar outer s H E A => (ss_cons (ss_set 1 A (se_lstO sa_nil))
    (ss_cons (ss_for (vs := [2]) A (si_rng1 A (se_len A T.f_len (sa_cons (se_var 0) sa_nil)) T.f_range) (sg_name 2 A.nd (by simp)) (ss_cons (ss_set 3 A (se_abs A T.f_abs (sa_cons (se_int1 A T.f_int (sa_cons (se_ix A (se_var 0) (se_var 2)) sa_nil)) sa_nil)))
    (ss_one (ss_if (st_cmp cm_ge (se_var 3) (se_pow se_int se_int)) (ss_one (ss_for (vs := [4]) A (si_rng1 A se_int T.f_range) (sg_name 4 A.nd (by simp)) (ss_one (ss_if (st_cmp cm_gt (se_var 3) se_int) (ss_cons (ss_expr (se_app A (se_var 1) (se_mod (se_var 3) se_int)))
    (ss_one (ss_set 3 A (se_div (se_var 3) se_int)))) ss_nil)))) (ss_one (ss_for (vs := [4]) A (si_rng1 A se_int T.f_range) (sg_name 4 A.nd (by simp)) (ss_cons (ss_set 3 A (se_mod (se_add A (se_add A (se_mul (se_var 3) se_int) (se_mul se_int (se_add A (se_var 2) se_int))) (se_mul se_int (se_var 4))) se_int))
    (ss_cons (ss_set 3 A (se_mod (se_mul (se_var 3) se_int) se_int))
    (ss_one (ss_expr (se_app A (se_var 1) (se_mod (se_div (se_var 3) se_int) se_int))))))))))))
    (ss_one (ss_ret (se_frz (se_var 1))))))⟩
abbrev NN_law : List Str := ["_law_script", "_law_tape_here", "_law_many", "_law_memory", "_law_total", "_law_w", "_law_log", "_law_k", "_law_number", "_law_p", "_law_request_here", "_law_due_here", "_law_told", "_law_cell"]
theorem sc_law : FnScope ["_law_script", "_law_tape_here", "_law_many", "_law_memory", "_law_total", "_law_w", "_law_log", "_law_k", "_law_number", "_law_p", "_law_request_here", "_law_due_here", "_law_told", "_law_cell"] ["_law_script"] (defScope s_law) := ⟨rfl, rfl, rfl, by decide +kernel, rfl, by decide +kernel, by decide +kernel⟩
theorem law_ok (T : Facts Kt) {f : Addr} {fd : FuncData} (F : FunD Kt.K "law" "law" (defArgs s_law) (defBody s_law) (defScope s_law) [] [] f fd) : FnOk Kt.P Kt.w Kt.K Kt.mg Kt.base (L2.CX Kt.P Kt.w) 6 f fd ["_law_script"] (spM Kt 1 m_law) :=
  fn_ok F sc_law fun cdv Ar outer s H E A => (ss_cons (ss_set 1 A (se_call A ((g__law_tape T).mono (by decide)) (sa_cons (se_var 0) sa_nil) (len_cons len_nil)))
    (ss_cons (ss_set 2 A (se_add A se_int (se_mod (se_call A ((g__law_at T).mono (by decide)) (sa_cons (se_var 1) (sa_cons se_int sa_nil)) (len_cons (len_cons len_nil))) se_int)))
    (ss_cons (ss_set 3 A (se_make A ((mk_Memory T).mono (by decide)) (sa_cons (se_make A ((mk_Sizes T).mono (by decide)) (sa_cons (se_var 2) (sa_cons se_int (sa_cons se_int sa_nil))) (len_cons (len_cons (len_cons len_nil)))) sa_nil) (len_cons len_nil)))
    (ss_cons (ss_set 4 A (se_meth0 A (se_fld A (T.s (n := 2) rfl) T.ca_sizes (se_var 3)) (T.s (n := 40) rfl) (mt_cons ((g_Sizes_cells T).mono (by decide)) mt_nil)))
    (ss_cons (ss_set 5 A (se_dctP A T.f_dict (sa_cons (se_lst (sa_cons (se_tup (sa_cons (se_str 43 (T.s rfl)) (sa_cons (se_var 2) sa_nil))) sa_nil)) sa_nil)))
    (ss_cons (ss_subC A (se_var 5) (se_str 1 (T.s rfl)) (se_lcO (own := [("_law_cell", 13)]) A (si_rng1 A (se_var 4) T.f_range) (blkOk_by (N := NN_law) (sc := defScope s_law) (by decide +kernel)) (fun _ _ _ _ _ => (sg_name 13 A.nd (by simp))) (fun _ _ _ _ _ A => sts_nil) (fun _ _ _ _ _ A => (se_meth A (se_var 3) (T.s (n := 35) rfl) (mt_cons ((g_Memory_peek T).mono (by decide)) mt_nil) (sa_cons (se_var 13) sa_nil) (len_cons len_nil)))))
    (ss_cons (ss_subC A (se_var 5) (se_str 7 (T.s rfl)) (se_lcO (own := [("_law_p", 9)]) A (si_rng1 A (se_var 2) T.f_range) (blkOk_by (N := NN_law) (sc := defScope s_law) (by decide +kernel)) (fun _ _ _ _ _ => (sg_name 9 A.nd (by simp))) (fun _ _ _ _ _ A => sts_nil) (fun _ _ _ _ _ A => (se_lst sa_nil))))
    (ss_cons (ss_subC A (se_var 5) (se_str 8 (T.s rfl)) (se_lcO (own := [("_law_p", 9)]) A (si_rng1 A (se_var 2) T.f_range) (blkOk_by (N := NN_law) (sc := defScope s_law) (by decide +kernel)) (fun _ _ _ _ _ => (sg_name 9 A.nd (by simp))) (fun _ _ _ _ _ A => sts_nil) (fun _ _ _ _ _ A => (se_lst sa_nil))))
    (ss_cons (ss_set 6 A (se_lstO sa_nil))
    (ss_cons (ss_for (vs := [7]) A (si_rng1 A (se_min A T.f_min (sa_cons se_int (sa_cons (se_max A T.f_max (sa_cons se_int (sa_cons (se_sub (se_len A T.f_len (sa_cons (se_var 1) sa_nil)) se_int) sa_nil))) sa_nil))) T.f_range) (sg_name 7 A.nd (by simp)) (ss_cons (ss_set 8 A (se_call A ((g__law_at T).mono (by decide)) (sa_cons (se_var 1) (sa_cons (se_add A (se_var 7) se_int) sa_nil)) (len_cons (len_cons len_nil))))
    (ss_cons (ss_set 9 A (se_mod (se_div (se_var 8) se_int) (se_var 2)))
    (ss_cons (ss_set 10 A (se_call A ((g__law_request T).mono (by decide)) (sa_cons (se_var 5) (sa_cons (se_var 8) (sa_cons (se_call A ((g__law_at T).mono (by decide)) (sa_cons (se_var 1) (sa_cons (se_add A (se_var 7) se_int) sa_nil)) (len_cons (len_cons len_nil))) (sa_cons (se_call A ((g__law_at T).mono (by decide)) (sa_cons (se_var 1) (sa_cons (se_add A (se_var 7) se_int) sa_nil)) (len_cons (len_cons len_nil))) sa_nil)))) (len_cons (len_cons (len_cons (len_cons len_nil))))))
    (ss_cons (ss_set 11 A (se_call A ((g__law_due T).mono (by decide)) (sa_cons (se_var 5) (sa_cons (se_var 9) (sa_cons (se_var 10) sa_nil))) (len_cons (len_cons (len_cons len_nil)))))
    (ss_cons (ss_expr (se_app A (se_var 6) (se_tup (sa_cons (se_add A (se_var 7) se_int) (sa_cons (se_var 9) (sa_cons (se_var 10) sa_nil))))))
    (ss_cons (ss_set 12 A (se_meth A (se_var 3) (T.s (n := 31) rfl) (mt_cons ((g_Memory_access T).mono (by decide)) mt_nil) (sa_cons (se_var 9) (sa_cons (se_var 10) sa_nil)) (len_cons (len_cons len_nil))))
    (ss_one (ss_if (PW.pt (sw_or (st_not (st_tru A (se_isi .tuple A T.f_isinstance T.f_tuple bt_tuple (se_var 12)))) (sw_or (st_cmp (cm_ne A) (se_ix A (se_var 12) se_int) (se_add A (se_var 7) se_int)) (sw_or (st_not (st_tru A (se_call A ((g__law_same T).mono (by decide)) (sa_cons (se_ix A (se_var 12) se_int) (sa_cons (se_var 11) sa_nil)) (len_cons (len_cons len_nil))))) (sw_or1 (st_not (st_tru A (se_call A ((g__law_looks T).mono (by decide)) (sa_cons (se_var 3) (sa_cons (se_var 5) sa_nil)) (len_cons (len_cons len_nil)))))))))) (ss_one (ss_ret se_bl)) ss_nil)))))))))
    (ss_cons (ss_for (vs := [13]) A (si_rng1 A (se_var 4) T.f_range) (sg_name 13 A.nd (by simp)) (ss_one (ss_if (st_not (st_tru A (se_call A ((g__law_same T).mono (by decide)) (sa_cons (se_meth A (se_var 3) (T.s (n := 35) rfl) (mt_cons ((g_Memory_peek T).mono (by decide)) mt_nil) (sa_cons (se_var 13) sa_nil) (len_cons len_nil)) (sa_cons (se_ix A (se_ixC A (se_var 5) (se_str 1 (T.s rfl))) (se_var 13)) sa_nil)) (len_cons (len_cons len_nil))))) (ss_one (ss_ret se_bl)) ss_nil)))
    (ss_one (ss_ret (se_and (se_cmp (cm_eq A) (se_meth0 A (se_var 3) (T.s (n := 36) rfl) (mt_cons ((g_Memory_log T).mono (by decide)) mt_nil)) (se_var 6)) (se_one (se_cmp (cm_eq A) (se_fld A (T.s (n := 3) rfl) T.ca_count (se_var 3)) (se_len A T.f_len (sa_cons (se_var 6) sa_nil))))))))))))))))))
end
end Z

set_option Elab.async false
set_option linter.all false
set_option maxRecDepth 100000
namespace Z
open PySem L2 Y
/-! ### a memory -/
section
variable {g : G}
theorem within_ok {v lo hi : Int} (h1 : lo ≤ v) (h2 : v ≤ hi) : m_is_within [.int v, .int lo, .int hi] g = .ok (.bl true) g := by
  simp [m_is_within, fnM_s, b_is_within, m_is_integer, b_is_integer, h1, h2]
theorem within_no {v lo hi : Int} (h : ¬ (lo ≤ v ∧ v ≤ hi)) : m_is_within [.int v, .int lo, .int hi] g = .ok (.bl false) g := by
  by_cases h1 : lo ≤ v
  · have h2 : ¬ v ≤ hi := fun q => h ⟨h1, q⟩
    simp [m_is_within, fnM_s, b_is_within, m_is_integer, b_is_integer, h1, h2]
  · simp [m_is_within, fnM_s, b_is_within, m_is_integer, b_is_integer, h1]
theorem within_bl {v : Bool} {lo hi : D} : m_is_within [.bl v, lo, hi] g = .ok (.bl false) g := by
  simp [m_is_within, fnM_s, b_is_within, m_is_integer, b_is_integer]
theorem pure_snap {n : Nat} {v : D} (h : pud n v = true) : snap g v = v := by
  cases v with
  | ref l => cases n <;> cases h
  | _ => rfl
def memF (s h r : Nat) (cnt : Int) (bs xs : D) : List (Nat × D) := [(2, .ref s), (3, .int cnt), (1, .ref h), (7, bs), (8, xs), (0, .ref r)]
structure MC (g : G) (m s h r : Nat) (P N B cnt : Int) (bs xs : D) (held log : List D) : Prop where
  mo : g[m]? = some (.ins 5 (memF s h r cnt bs xs))
  so : g[s]? = some (.ins 4 [(4, .int P), (5, .int N), (6, .int B)])
  ho : g[h]? = some (.lst held)
  ro : g[r]? = some (.lst log)
  hr : h ≠ r
  hl : held.length < 1000
  ll : log.length < 100000
/-- what an access of a cell does: its result, the cells behind it -/
def cellDo (held : List D) (k : Nat) (c : Int) (rest : List D) : D × List D := match k, rest with
  | 9, _ => ((atI held c).getD .non, held)
  | 10, [x] => (.non, held.set c.toNat x)
  | 11, [x, y] => bif deq ((atI held c).getD .non) x then (.bl true, held.set c.toNat y) else (.bl false, held)
  | _, _ => (.non, held)
theorem cellDo_len {held : List D} {k : Nat} {c : Int} {rest : List D} : (cellDo held k c rest).2.length = held.length := by
  unfold cellDo
  split
  · rfl
  · simp
  · cases deq _ _ <;> simp
  · rfl
/-- what an access does before its result -/
def rowG (g : G) (m s h r : Nat) (cnt : Int) (bs xs : D) (log : List D) (y : D) : G := (g.set m (.ins 5 (memF s h r (cnt + 1) bs xs))).set r (.lst (log ++ [y]))
variable {m s h r : Nat} {P N B cnt : Int} {bs xs : D} {held log : List D}
section
variable (M : MC g m s h r P N B cnt bs xs held log)
include M
theorem MC.mh : m ≠ h := fun e => by have a := M.mo; rw [e, M.ho] at a; cases a
theorem MC.mr : m ≠ r := fun e => by have a := M.mo; rw [e, M.ro] at a; cases a
theorem MC.ms : m ≠ s := fun e => by have a := M.mo; rw [e, M.so] at a; cases a
theorem MC.sh : s ≠ h := fun e => by have a := M.so; rw [e, M.ho] at a; cases a
theorem MC.sr : s ≠ r := fun e => by have a := M.so; rw [e, M.ro] at a; cases a
theorem MC.held_ : fldD [5] 1 g (.ref m) = some (.ref h) := fldD_e M.mo rfl rfl
theorem MC.sizes_ : fldD [5] 2 g (.ref m) = some (.ref s) := fldD_e M.mo rfl rfl
theorem MC.count_ : fldD [5] 3 g (.ref m) = some (.int cnt) := fldD_e M.mo rfl rfl
theorem MC.rows_ : fldD [2, 3, 5] 0 g (.ref m) = some (.ref r) := fldD_e M.mo rfl rfl
theorem MC.procs : fldD [4] 4 g (.ref s) = some (.int P) := fldD_e M.so rfl rfl
theorem MC.frames_ : fldD [4] 5 g (.ref s) = some (.int N) := fldD_e M.so rfl rfl
theorem MC.blocks_ : fldD [4] 6 g (.ref s) = some (.int B) := fldD_e M.so rfl rfl
theorem MC.lenH : lenD g [.ref h] = some (.int held.length) := by simp [lenD, itD, lsD_ref M.ho]
theorem MC.at_ {c : Int} {v : D} (hv : atI held c = some v) : ixD g (.ref h) (.int c) = some v := by
  unfold ixD itD
  simp only [lsD_ref M.ho, hv]
/-- a method of the memory -/
theorem MC.meth {nm : Nat} {tbl : List (Nat × MF)} {o : EM} {ms : AM} {e : En} {mf : MF} {ds : List D} {g2 : G} (ho : o e g = .ok (.ref m) g) (hn : lkA nm (memF s h r cnt bs xs) = none) (hm : lkM 5 tbl = some mf) (ha : ms e g = .ok ds g2) : vMeth nm tbl o ms e g = mf (.ref m :: ds) g2 := meth_e ho M.mo hn hm ha
theorem MC.cell_ok {c : Int} (h0 : 0 ≤ c) (h1 : c < held.length) : m_Memory_check_cell [.ref m, .int c] g = .ok .non g := by
  have w : m_is_within [.int c, .int 0, .int ((held.length : Int) - 1)] g = .ok (.bl true) g := within_ok h0 (by omega)
  simp [m_Memory_check_cell, fnM_s, b_Memory_check_cell, M.held_, M.lenH, w]
theorem MC.cell_no {c : Int} (h0 : ¬ (0 ≤ c ∧ c < held.length)) : m_Memory_check_cell [.ref m, .int c] g = .exn 1 g := by
  have w : m_is_within [.int c, .int 0, .int ((held.length : Int) - 1)] g = .ok (.bl false) g := within_no (by omega)
  simp [m_Memory_check_cell, fnM_s, b_Memory_check_cell, M.held_, M.lenH, w]
theorem MC.cell_bl {c : Bool} : m_Memory_check_cell [.ref m, .bl c] g = .exn 1 g := by
  have w : m_is_within [.bl c, .int 0, .int ((held.length : Int) - 1)] g = .ok (.bl false) g := within_bl
  simp [m_Memory_check_cell, fnM_s, b_Memory_check_cell, M.held_, M.lenH, w]
theorem MC.peek_ok {c : Int} {v : D} (h0 : 0 ≤ c) (h1 : c < held.length) (hv : atI held c = some v) : m_Memory_peek [.ref m, .int c] g = .ok v g := by
  have a := M.meth (nm := 28) (tbl := [(5, m_Memory_check_cell)]) (o := vVar 0) (ms := aCons (vVar 1) aNil) (e := [some (.ref m), some (.int c)]) (g2 := g) rfl rfl rfl rfl
  rw [M.cell_ok h0 h1] at a
  show endM (b_Memory_peek [some (.ref m), some (.int c)] g) = _
  simp [b_Memory_peek, a, M.held_, M.at_ hv]
theorem MC.log_ok : m_Memory_log [.ref m] g = .ok (.ref g.length) (g ++ [.lst log]) := by
  show endM (b_Memory_log [some (.ref m)] g) = _
  simp [b_Memory_log, M.rows_, vListO, itD, lsD_ref M.ro]
/-- behind the count and the row of an access -/
theorem MC.row {g1 : G} {y : D} (hl : log.length < 99999) (e : g1 = (g.set m (.ins 5 (memF s h r (cnt + 1) bs xs))).set r (.lst (log ++ [y]))) : MC g1 m s h r P N B (cnt + 1) bs xs held (log ++ [y]) := by
  subst e
  have lm := (List.getElem?_eq_some_iff.mp M.mo).1
  have lr := (List.getElem?_eq_some_iff.mp M.ro).1
  refine ⟨?_, ?_, ?_, ?_, M.hr, M.hl, by simp; omega⟩
  · rw [List.getElem?_set_ne (Ne.symm M.mr), List.getElem?_set_self lm]
  · rw [List.getElem?_set_ne (Ne.symm M.sr), List.getElem?_set_ne M.ms]
    exact M.so
  · rw [List.getElem?_set_ne (Ne.symm M.hr), List.getElem?_set_ne M.mh]
    exact M.ho
  · rw [List.getElem?_set_self (by simpa using lr)]
/-- a cell is written -/
theorem MC.put {hd : List D} (hl : hd.length < 1000) : MC (g.set h (.lst hd)) m s h r P N B cnt bs xs hd log := by
  have lh := (List.getElem?_eq_some_iff.mp M.ho).1
  refine ⟨?_, ?_, ?_, ?_, M.hr, hl, M.ll⟩
  · rw [List.getElem?_set_ne (Ne.symm M.mh)]
    exact M.mo
  · rw [List.getElem?_set_ne (Ne.symm M.sh)]
    exact M.so
  · rw [List.getElem?_set_self lh]
  · rw [List.getElem?_set_ne M.hr]
    exact M.ro
/-- other objects -/
theorem MC.le {g' : G} (hm : g'[m]? = g[m]?) (hs : g'[s]? = g[s]?) (hh : g'[h]? = g[h]?) (hr : g'[r]? = g[r]?) : MC g' m s h r P N B cnt bs xs held log :=
  ⟨hm.trans M.mo, hs.trans M.so, hh.trans M.ho, hr.trans M.ro, M.hr, M.hl, M.ll⟩
theorem MC.app {os : G} : MC (g ++ os) m s h r P N B cnt bs xs held log := by
  have f : ∀ {i : Nat} {o : Ob}, g[i]? = some o → (g ++ os)[i]? = g[i]? := fun e => List.getElem?_append_left (List.getElem?_eq_some_iff.mp e).1
  exact M.le (f M.mo) (f M.so) (f M.ho) (f M.ro)
theorem MC.out {j : Nat} {o : Ob} (h1 : j ≠ m) (h2 : j ≠ s) (h3 : j ≠ h) (h4 : j ≠ r) : MC (g.set j o) m s h r P N B cnt bs xs held log :=
  M.le (List.getElem?_set_ne h1) (List.getElem?_set_ne h2) (List.getElem?_set_ne h3) (List.getElem?_set_ne h4)
theorem MC.acc2 {p : Int} {rq : D} (hl : log.length < 99999) {res : D} {g' : G} {c' : Int} (hr : m_Memory_result [.ref m, .int p, rq] (rowG g m s h r cnt bs xs log (.tup [.int (cnt + 1), .int p, rq])) = .ok res g') (hc : fldD [5] 3 g' (.ref m) = some (.int c')) :
    c_Memory_access_3 [some (.ref m), some (.int p), some rq] g = .rt (.tup [res, .int c']) g' := by
  have M1 : MC (rowG g m s h r cnt bs xs log (.tup [.int (cnt + 1), .int p, rq])) m s h r P N B (cnt + 1) bs xs held (log ++ [.tup [.int (cnt + 1), .int p, rq]]) := M.row hl rfl
  have lm := (List.getElem?_eq_some_iff.mp M.mo).1
  have s1 : sAugA [5] 3 (vVar 0) (vC (.int 1)) [some (.ref m), some (.int p), some rq] g = .nx [some (.ref m), some (.int p), some rq] (g.set m (.ins 5 (memF s h r (cnt + 1) bs xs))) := by
    unfold sAugA
    simp only [vVar_e, List.getElem?_cons_zero, sBind, M.mo]
    simp only [memF, lkA, List.contains, List.elem, BEq.beq, vC_e, sBind]
    simp only [Nat.beq, reduceIte, Nat.reduceEqDiff, M.mo]
    rfl
  have f3 : fldD [5] 3 (g.set m (.ins 5 (memF s h r (cnt + 1) bs xs))) (.ref m) = some (.int (cnt + 1)) := fldD_e (List.getElem?_set_self lm) rfl rfl
  have f0 : fldD [2, 3, 5] 0 (g.set m (.ins 5 (memF s h r (cnt + 1) bs xs))) (.ref m) = some (.ref r) := fldD_e (List.getElem?_set_self lm) rfl rfl
  have gr : (g.set m (.ins 5 (memF s h r (cnt + 1) bs xs)))[r]? = some (.lst log) := by
    rw [List.getElem?_set_ne M.mr]
    exact M.ro
  have s2 : vApp (vFld [2, 3, 5] 0 (vVar 0)) (vTup (aCons (vFld [5] 3 (vVar 0)) (aCons (vVar 1) (aCons (vVar 2) aNil)))) [some (.ref m), some (.int p), some rq] (g.set m (.ins 5 (memF s h r (cnt + 1) bs xs))) = .ok .non (rowG g m s h r cnt bs xs log (.tup [.int (cnt + 1), .int p, rq])) := by
    refine app_e (l := r) (ds := log) (ds' := log) (y := .tup [.int (cnt + 1), .int p, rq]) (g1 := g.set m (.ins 5 (memF s h r (cnt + 1) bs xs))) (g2 := g.set m (.ins 5 (memF s h r (cnt + 1) bs xs))) ?_ gr ?_ gr (by omega)
    · simp [f0]
    · simp [vTup_s, okL_s, f3]
  have a := M1.meth (nm := 32) (tbl := [(5, m_Memory_result)]) (o := vVar 0) (ms := aCons (vVar 1) (aCons (vVar 2) aNil)) (e := [some (.ref m), some (.int p), some rq]) (g2 := rowG g m s h r cnt bs xs log (.tup [.int (cnt + 1), .int p, rq])) rfl rfl rfl rfl
  rw [hr] at a
  unfold c_Memory_access_3 c_Memory_access_2 c_Memory_access_1
  rw [sSeq_e, s1]
  simp only [sSeq_e, sDrop_e, s2, sBind]
  simp [vTup_s, okL_s, a, hc]

/-! #### cells -/
def cellRq (k : Nat) (c : Int) (rest : List D) : D := .tup (.str k :: .int c :: rest)
def okRq (k : Nat) (rest : List D) : Prop := k = 9 ∧ rest = [] ∨ (k = 10 ∧ ∃ v, rest = [v] ∧ pud 5 v = true) ∨ k = 11 ∧ ∃ v w, rest = [v, w] ∧ pud 5 v = true ∧ pud 5 w = true
theorem MC.chk_cell {p c : Int} {k : Nat} {rest : List D} (hp0 : 0 ≤ p) (hp1 : p < P) (hk : okRq k rest) (h0 : 0 ≤ c) (h1 : c < held.length) : m_Memory_check_request [.ref m, .int p, cellRq k c rest] g = .ok .non g := by
  show endM (b_Memory_check_request [some (.ref m), some (.int p), some (cellRq k c rest), none] g) = _
  have w : m_is_within [.int p, .int 0, .int (P - 1)] g = .ok (.bl true) g := within_ok hp0 (by omega)
  have vm : vMeth 28 [(5, m_Memory_check_cell)] (vVar 0) (aCons (vOp ixD (vVar 2) (vC (.int 1))) aNil) [some (.ref m), some (.int p), some (cellRq k c rest), some (.str k)] g = .ok .non g := by
    have a := M.meth (nm := 28) (tbl := [(5, m_Memory_check_cell)]) (o := vVar 0) (ms := aCons (vOp ixD (vVar 2) (vC (.int 1))) aNil) (e := [some (.ref m), some (.int p), some (cellRq k c rest), some (.str k)]) (g2 := g) (ds := [.int c]) rfl rfl rfl (by simp [cellRq, at1])
    rw [a, M.cell_ok h0 h1]
  unfold b_Memory_check_request c_Memory_check_request_3 c_Memory_check_request_2 c_Memory_check_request_1
  rcases hk with ⟨rfl, rfl⟩ | ⟨rfl, v, rfl, q⟩ | ⟨rfl, v, u, rfl, q⟩ <;> (simp only [cellRq] at vm ⊢; simp [M.sizes_, M.procs, w, at0, vDGet, isDc, dcG, dicG, ne_int, eq_int, vTup_s, okL_s, inD, sqD, vm, eq_str])
theorem MC.cres {c : Int} {k : Nat} {rest : List D} {v : D} (hk : okRq k rest) (hv : atI held c = some v) (hc : ixN held.length c = some c.toNat) (pv : pud 5 v = true) :
    (k = 9 → m_Memory_cell_result [.ref m, cellRq k c rest] g = .ok v g) ∧
    (k = 10 → ∃ x, rest = [x] ∧ m_Memory_cell_result [.ref m, cellRq k c rest] g = .ok .non (g.set h (.lst (held.set c.toNat x)))) ∧
    (k = 11 → ∃ x y, rest = [x, y] ∧ m_Memory_cell_result [.ref m, cellRq k c rest] g = if deq v x then .ok (.bl true) (g.set h (.lst (held.set c.toNat y))) else .ok (.bl false) g) := by
  have sub : ∀ (e : En) (i : Nat) (x : D), e[2]? = some (some (.int c)) → e[0]? = some (some (.ref m)) → (vOp ixD (vVar 1) (vC (.int (i : Int)))) e g = .ok x g → sSub (vFld [5] 1 (vVar 0)) (vVar 2) (vOp ixD (vVar 1) (vC (.int (i : Int)))) e g = .nx e (g.set h (.lst (held.set c.toNat x))) := by
    intro e i x e2 e0 hx
    have a1 : vFld [5] 1 (vVar 0) e g = .ok (.ref h) g := by simp [e0, M.held_]
    have a2 : vVar 2 e g = .ok (.int c) g := by simp [e2]
    unfold sSub
    simp only [hx, sBind, a1, a2, M.ho, hc]
  refine ⟨fun e => ?_, fun e => ?_, fun e => ?_⟩
  · subst e
    show endM (b_Memory_cell_result [some (.ref m), some (cellRq 9 c rest), none] g) = _
    simp [b_Memory_cell_result, c_Memory_cell_result_5, cellRq, at0, at1, eq_str, M.held_, M.at_ hv]
  · subst e
    rcases hk with ⟨q, _⟩ | ⟨_, x, rfl, q⟩ | ⟨q, _⟩
    · cases q
    · refine ⟨x, rfl, ?_⟩
      show endM (b_Memory_cell_result [some (.ref m), some (cellRq 10 c [x]), none] g) = _
      have s1 := sub [some (.ref m), some (cellRq 10 c [x]), some (.int c)] 2 x rfl rfl rfl
      simp only [Int.ofNat_eq_natCast, Int.cast_ofNat_Int] at s1
      simp [b_Memory_cell_result, c_Memory_cell_result_5, c_Memory_cell_result_4, cellRq, at0, at1, eq_str]
      simp only [cellRq] at s1
      rw [s1]
      rfl
    · cases q
  · subst e
    rcases hk with ⟨q, _⟩ | ⟨q, _⟩ | ⟨_, x, y, rfl, q1, q2⟩
    · cases q
    · cases q
    · refine ⟨x, y, rfl, ?_⟩
      show endM (b_Memory_cell_result [some (.ref m), some (cellRq 11 c [x, y]), none] g) = _
      have s1 := sub [some (.ref m), some (cellRq 11 c [x, y]), some (.int c)] 3 y rfl rfl rfl
      have nn : neD g v x = some (.bl (!deq v x)) := by
        have e1 := pure_snap (g := g) pv
        have e2 := pure_snap (g := g) q1
        rw [neD_e (by rw [e1, e2, pud_mono _ _ (pud_mono _ _ (pud_mono _ _ pv)), pud_mono _ _ (pud_mono _ _ (pud_mono _ _ q1))]; rfl), e1, e2]
      simp only [Int.ofNat_eq_natCast, Int.cast_ofNat_Int] at s1
      simp only [cellRq] at s1
      simp [b_Memory_cell_result, c_Memory_cell_result_5, c_Memory_cell_result_4, c_Memory_cell_result_3, c_Memory_cell_result_2, c_Memory_cell_result_1, cellRq, at0, at1, at2, eq_str, M.held_, M.at_ hv, nn]
      cases deq v x with
      | false => rfl
      | true =>
        simp only [cond_true, reduceIte]
        rw [s1]
        rfl
theorem MC.acc {p c : Int} {k : Nat} {rest : List D} (hp0 : 0 ≤ p) (hp1 : p < P) (hk : okRq k rest) (h0 : 0 ≤ c) (h1 : c < held.length) (hh : ∀ v ∈ held, pud 5 v = true) (hl : log.length < 99999) :
    ∃ g', m_Memory_access [.ref m, .int p, cellRq k c rest] g = .ok (.tup [(cellDo held k c rest).1, .int (cnt + 1)]) g' ∧ MC g' m s h r P N B (cnt + 1) bs xs (cellDo held k c rest).2 (log ++ [.tup [.int (cnt + 1), .int p, cellRq k c rest]]) ∧ (∀ i, i ≠ m → i ≠ h → i ≠ r → g'[i]? = g[i]?) := by
  obtain ⟨v, hv, vm⟩ := atI_mem h0 h1
  have pv := hh v vm
  have hc : ixN held.length c = some c.toNat := by
    unfold ixN
    have h2 : ¬ c < 0 := by omega
    simp only [h2, if_false, h0, if_true]
    rw [if_pos (by omega)]
  have M1 : MC (rowG g m s h r cnt bs xs log (.tup [.int (cnt + 1), .int p, cellRq k c rest])) m s h r P N B (cnt + 1) bs xs held (log ++ [.tup [.int (cnt + 1), .int p, cellRq k c rest]]) := M.row hl rfl
  have fr : ∀ i, i ≠ m → i ≠ h → i ≠ r → (rowG g m s h r cnt bs xs log (.tup [.int (cnt + 1), .int p, cellRq k c rest]))[i]? = g[i]? := fun i n1 n2 n3 => by
    unfold rowG
    rw [List.getElem?_set_ne (Ne.symm n3), List.getElem?_set_ne (Ne.symm n1)]
  obtain ⟨r9, r10, r11⟩ := M1.cres hk hv hc pv
  generalize hG : rowG g m s h r cnt bs xs log (.tup [.int (cnt + 1), .int p, cellRq k c rest]) = g1 at *
  have res : ∃ g', m_Memory_cell_result [.ref m, cellRq k c rest] g1 = .ok (cellDo held k c rest).1 g' ∧ (g' = g1 ∧ (cellDo held k c rest).2 = held ∨ g' = g1.set h (.lst (cellDo held k c rest).2)) := by
    rcases id hk with ⟨rfl, rfl⟩ | ⟨rfl, x, rfl, q⟩ | ⟨rfl, x, y, rfl, q1, q2⟩
    · exact ⟨g1, by rw [r9 rfl]; simp [cellDo, hv], .inl ⟨rfl, rfl⟩⟩
    · obtain ⟨z, e, q⟩ := r10 rfl
      cases e
      exact ⟨_, q, .inr rfl⟩
    · obtain ⟨z, w, e, q⟩ := r11 rfl
      cases e
      rw [q]
      simp only [cellDo, hv, Option.getD_some]
      cases deq v x with
      | true => exact ⟨_, rfl, .inr rfl⟩
      | false => exact ⟨_, rfl, .inl ⟨rfl, rfl⟩⟩
  obtain ⟨g', hres, hg'⟩ := res
  have M2 : MC g' m s h r P N B (cnt + 1) bs xs (cellDo held k c rest).2 (log ++ [.tup [.int (cnt + 1), .int p, cellRq k c rest]]) := by
    rcases hg' with ⟨rfl, e⟩ | rfl
    · rw [e]
      exact M1
    · exact M1.put (by rw [cellDo_len]; exact M.hl)
  have fr2 : ∀ i, i ≠ m → i ≠ h → i ≠ r → g'[i]? = g[i]? := fun i n1 n2 n3 => by
    rcases hg' with ⟨rfl, e⟩ | rfl
    · exact fr i n1 n2 n3
    · rw [List.getElem?_set_ne (Ne.symm n2)]
      exact fr i n1 n2 n3
  have hr : m_Memory_result [.ref m, .int p, cellRq k c rest] g1 = .ok (cellDo held k c rest).1 g' := by
    show endM (b_Memory_result [some (.ref m), some (.int p), some (cellRq k c rest), none, none] g1) = _
    have a := M1.meth (nm := 33) (tbl := [(5, m_Memory_cell_result)]) (o := vVar 0) (ms := aCons (vVar 2) aNil) (e := [some (.ref m), some (.int p), some (cellRq k c rest), some (.str k), none]) (g2 := g1) rfl rfl rfl rfl
    rw [hres] at a
    unfold b_Memory_result c_Memory_result_7
    have t : (k == 9 || (k == 10 || (k == 11 || false))) = true := by rcases id hk with ⟨rfl, _⟩ | ⟨rfl, _⟩ | ⟨rfl, _⟩ <;> rfl
    have i0 : ixD g1 (cellRq k c rest) (.int 0) = some (.str k) := by simp [cellRq, at0]
    have tt : inD false g1 (.str k) (.tup [.str 9, .str 10, .str 11]) = some (.bl true) := by
      rcases id hk with ⟨rfl, _⟩ | ⟨rfl, _⟩ | ⟨rfl, _⟩ <;> rfl
    simp [i0, vTup_s, okL_s, tt, a]
  refine ⟨g', ?_, M2, fr2⟩
  show endM (b_Memory_access [some (.ref m), some (.int p), some (cellRq k c rest)] g) = _
  have a := M.meth (nm := 29) (tbl := [(5, m_Memory_check_request)]) (o := vVar 0) (ms := aCons (vVar 1) (aCons (vVar 2) aNil)) (e := [some (.ref m), some (.int p), some (cellRq k c rest)]) (g2 := g) rfl rfl rfl rfl
  rw [M.chk_cell hp0 hp1 hk h0 h1] at a
  have i0 : ixD g (cellRq k c rest) (.int 0) = some (.str k) := by simp [cellRq, at0]
  have k12 : (k == 12) = false := by rcases id hk with ⟨rfl, _⟩ | ⟨rfl, _⟩ | ⟨rfl, _⟩ <;> rfl
  have a2 := M.acc2 (p := p) (rq := cellRq k c rest) hl (res := (cellDo held k c rest).1) (g' := g') (c' := cnt + 1) (by rw [hG]; exact hr) M2.count_
  unfold b_Memory_access c_Memory_access_4
  simp only [sSeq_e, sDrop_e, a, sBind, sIf_e, tOf_e, vOp_e, vVar_e, List.getElem?_cons_zero, List.getElem?_cons_succ, Res.bind, vC_e, i0, oR_some, eq_str, k12, bR_bl, cond_false, sNx_e, a2]
  rfl
end
end

/-! ### buffers and boxes -/
abbrev Row := Int × Int × Int × Bool
def rowD (r : Row) : D := .tup [.int r.1, .int r.2.1, .int r.2.2.1, .bl r.2.2.2]
def pairD (p : Int × Int) : D := .tup [.int p.1, .int p.2]
def keepB (P : List (Int × Int)) (r : Row) : Bool := (P.any fun p => p.1 == r.1 && p.2 == r.2.1) != true
inductive Wd where
  | non | frame (f : Int) (w : Bool) | other (d : List D) (n : Nat)
def Wd.d : Wd → D
  | .non => .non
  | .frame f w => .tup [.str 18, .int f, .bl w]
  | .other ds n => .tup (.str n :: ds)
def Wd.ok : Wd → Prop
  | .other _ n => n ≠ 18
  | _ => True
def putL (L : List Row) (s p : Int) (w : Wd) : List Row :=
  let L1 := L.filter (keepB [(s, p)])
  let L2 := match w with
    | .frame f v => L1 ++ [(s, p, f, v)]
    | _ => L1
  if 2 < L2.length then L2.drop 1 else L2
theorem putL_len {L : List Row} {s p : Int} {w : Wd} (h : L.length ≤ 2) : (putL L s p w).length ≤ 2 := by
  have := List.length_filter_le (keepB [(s, p)]) L
  unfold putL
  simp only
  split <;> split <;> simp_all <;> omega
theorem slD_row {g : G} {r : Row} : slD g (rowD r) none (some 2) = some (.tup [.int r.1, .int r.2.1]) := rfl
theorem pud_row {n : Nat} (r : Row) : pud (n + 1) (rowD r) = true := by simp [rowD, pud_tup]
theorem pud_rows (L : List Row) : (L.map rowD).all (pud 7) = true := by
  rw [List.all_eq_true]
  intro x hx
  obtain ⟨r, _, rfl⟩ := List.mem_map.mp hx
  exact pud_row r
theorem pud_pairs {n : Nat} (P : List (Int × Int)) : (P.map pairD).all (pud (n + 1)) = true := by
  rw [List.all_eq_true]
  intro x hx
  obtain ⟨r, _, rfl⟩ := List.mem_map.mp hx
  simp [pairD, pud_tup]
theorem any_pairs (P : List (Int × Int)) (r : Row) : ((P.map pairD).any fun z => deq z (.tup [.int r.1, .int r.2.1])) = P.any fun p => p.1 == r.1 && p.2 == r.2.1 := by
  rw [List.any_map]
  congr 1
  funext p
  simp [pairD]
theorem rows_eq : ∀ (L : List Row), deqs (L.map rowD) (L.map rowD) = true
  | [] => by simp
  | r :: L => by simp [rows_eq L, rowD]
def pairsD (P : List (Int × Int)) (tu : Bool) : D := bif tu then .tup (P.map pairD) else .lst (P.map pairD)
theorem inD_row {g : G} (P : List (Int × Int)) (tu : Bool) (r : Row) : inD true g (.tup [.int r.1, .int r.2.1]) (pairsD P tu) = some (.bl (keepB P r)) := by
  have h : (pud 7 (.tup [.int r.1, .int r.2.1]) && (P.map pairD).all (pud 7)) = true := by rw [pud_pairs]; simp
  cases tu
  · show (match pud 7 (.tup [.int r.1, .int r.2.1]) && (P.map pairD).all (pud 7) with
      | true => some (D.bl (((P.map pairD).any fun z => deq z (.tup [.int r.1, .int r.2.1])) != true))
      | false => none) = _
    rw [h, any_pairs]
    rfl
  · show (match pud 7 (.tup [.int r.1, .int r.2.1]) && (P.map pairD).all (pud 7) with
      | true => some (D.bl (((P.map pairD).any fun z => deq z (.tup [.int r.1, .int r.2.1])) != true))
      | false => none) = _
    rw [h, any_pairs]
    rfl

theorem len_le3 {α : Type} (xs : List α) (h : xs.length ≤ 3) : (xs.drop (HT.sIx xs.length 0 (some (-2)))).take (HT.sIx xs.length xs.length none - HT.sIx xs.length 0 (some (-2))) = if 2 < xs.length then xs.drop 1 else xs := by
  match xs, h with
  | [], _ => rfl
  | [a], _ => rfl
  | [a, b], _ => rfl
  | [a, b, c], _ => rfl
  | a :: b :: c :: d :: r, h => simp at h
theorem cut_rows (L : List Row) (h : L.length ≤ 3) : cutD (L.map rowD) (some (-2)) none = (if 2 < L.length then L.drop 1 else L).map rowD := by
  have := len_le3 (L.map rowD) (by simpa using h)
  rw [List.length_map] at this
  unfold cutD
  rw [List.length_map, this]
  split <;> simp
theorem cut1_rows (L : List Row) (h : 2 < L.length) : cutD (L.map rowD) (some 1) none = (L.drop 1).map rowD := by
  unfold cutD
  have e1 : HT.sIx (L.map rowD).length 0 (some 1) = 1 := by
    have := HT.sIx_nat (L.map rowD).length 0 1
    rw [show ((1 : Nat) : Int) = 1 from rfl] at this
    rw [this, List.length_map]; omega
  have e2 : HT.sIx (L.map rowD).length (L.map rowD).length none = (L.map rowD).length := HT.sIx_none _ _
  rw [e1, e2, List.take_of_length_le (by simp), List.map_drop]

def BufS (g : G) (b : Nat) (d : D) (L : List Row) : Prop := g[b]? = some (.ins 2 [(0, d)]) ∧ lsD g d = some (L.map rowD)
theorem fld_b {g : G} {b : Nat} {d : D} (h : g[b]? = some (.ins 2 [(0, d)])) : fldD [2, 3, 5] 0 g (.ref b) = some d := fldD_e h rfl rfl
theorem fld_x {g : G} {b : Nat} {d : D} (h : g[b]? = some (.ins 3 [(0, d)])) : fldD [2, 3, 5] 0 g (.ref b) = some d := fldD_e h rfl rfl
theorem drop_ok {g : G} {b : Nat} {d : D} {L : List Row} {P : List (Int × Int)} {tu : Bool} (h : BufS g b d L) (hl : L.length ≤ 1000) : m_Buffer_drop [.ref b, pairsD P tu] g = .ok .non ((g ++ [Ob.lst ((L.filter (keepB P)).map rowD)]).set b (.ins 2 [(0, .ref g.length)])) := by
  obtain ⟨h1, h2⟩ := h
  obtain ⟨s, hs, hx⟩ := iLst_of (m := vFld [2, 3, 5] 0 (vVar 0)) (e := [some (.ref b), some (pairsD P tu), none]) (g := g) (d := d) (by simp [fld_b h1]) h2
  have hlc := lcR_pure (gm := gN 2) (t := tOf (vOp (inD true) (vSl (vVar 2) none (some (vC (.int 2)))) (vVar 1))) (m := vVar 2) (e := [some (.ref b), some (pairsD P tu), none]) (g := g) (s := s) rowD (keepB P) rowD L hx (okL_of (by omega)) (fun r hr => by
    refine ⟨_, rfl, ?_, fun _ => rfl⟩
    simp [vSl, slD_row, inD_row])
  have hb : b < g.length := (List.getElem?_eq_some_iff.mp h1).1
  show endM (b_Buffer_drop [some (.ref b), some (pairsD P tu), none] g) = _
  unfold b_Buffer_drop sSetA
  have e1 : (g ++ [Ob.lst ((L.filter (keepB P)).map rowD)])[b]? = some (.ins 2 [(0, d)]) := Le.app _ _ h1
  simp only [vLcO_e, hs, Res.bind, wipeE_cons, wipeE_nil, List.set, hlc, sBind, vVar_e, List.getElem?_cons_zero, e1]
  rfl
theorem put_ok {g : G} {b : Nat} {d : D} {L : List Row} {s p : Int} {w : Wd} (h : BufS g b d L) (hl : L.length ≤ 2) (hw : w.ok) : ∃ g', m_Buffer_put [.ref b, .int s, .int p, w.d] g = .ok .non g' ∧ g'[b]? = some (.ins 2 [(0, .lst ((putL L s p w).map rowD))]) ∧ ∀ i, i < g.length → i ≠ b → g'[i]? = g[i]? := by
  have e1 := drop_ok (P := [(s, p)]) (tu := false) h (by omega)
  have hb : b < g.length := (List.getElem?_eq_some_iff.mp h.1).1
  have hd0 := h.1
  have lf := List.length_filter_le (keepB [(s, p)]) L
  have n1 : g.length ≠ b := by omega
  have n2 : ((g ++ [Ob.lst ((L.filter (keepB [(s, p)])).map rowD)]).set b (.ins 2 [(0, .ref g.length)]))[b]? = some (.ins 2 [(0, .ref g.length)]) := List.getElem?_set_self (by simp; omega)
  have n3 : ((g ++ [Ob.lst ((L.filter (keepB [(s, p)])).map rowD)]).set b (.ins 2 [(0, .ref g.length)]))[g.length]? = some (.lst ((L.filter (keepB [(s, p)])).map rowD)) := by
    rw [List.getElem?_set_ne (by omega), get_snoc']
  have fr1 : ∀ i, i < g.length → i ≠ b → ((g ++ [Ob.lst ((L.filter (keepB [(s, p)])).map rowD)]).set b (.ins 2 [(0, .ref g.length)]))[i]? = g[i]? := fun i hi q => by
    rw [List.getElem?_set_ne (Ne.symm q), List.getElem?_append_left hi]
  generalize hG : (g ++ [Ob.lst ((L.filter (keepB [(s, p)])).map rowD)]).set b (.ins 2 [(0, .ref g.length)]) = g1 at *
  have arg : vLst (aCons (vTup (aCons (vVar 1) (aCons (vVar 2) aNil))) aNil) [some (.ref b), some (.int s), some (.int p), some w.d] g = .ok (pairsD [(s, p)] false) g := by
    refine vLst_e (ds := [pairD (s, p)]) ?_ rfl
    simp only [aCons_e]
    rw [vTup_e (g1 := g) (ds := [.int s, .int p]) (by simp) rfl]
    rfl
  have meth : vMeth 23 [(2, m_Buffer_drop)] (vVar 0) (aCons (vLst (aCons (vTup (aCons (vVar 1) (aCons (vVar 2) aNil))) aNil)) aNil) [some (.ref b), some (.int s), some (.int p), some w.d] g = .ok .non g1 := by
    have q := meth_e (nm := 23) (tbl := [(2, m_Buffer_drop)]) (o := vVar 0) (ms := aCons (vLst (aCons (vTup (aCons (vVar 1) (aCons (vVar 2) aNil))) aNil)) aNil) (e := [some (.ref b), some (.int s), some (.int p), some w.d]) (g := g) (g2 := g) (ds := [pairsD [(s, p)] false]) rfl hd0 rfl rfl (by simp only [aCons_e, arg, Res.bind, aNil_e])
    rw [q, e1]
  have fin : ∀ (g2 : G) (d2 : D) (L2 : List Row), BufS g2 b d2 L2 → L2.length ≤ 3 → (∀ i, i < g.length → i ≠ b → g2[i]? = g1[i]?) → ∃ g', sSetA [2, 3, 5] 0 (vVar 0) (vSl (vFld [2, 3, 5] 0 (vVar 0)) (some (vUn negD (vC (.int 2)))) none) [some (.ref b), some (.int s), some (.int p), some w.d] g2 = .nx [some (.ref b), some (.int s), some (.int p), some w.d] g' ∧ g'[b]? = some (.ins 2 [(0, .lst ((if 2 < L2.length then L2.drop 1 else L2).map rowD))]) ∧ ∀ i, i < g.length → i ≠ b → g'[i]? = g[i]? := by
    rintro g2 d2 L2 ⟨c1, c2⟩ h3 hg
    have hb2 : b < g2.length := (List.getElem?_eq_some_iff.mp c1).1
    refine ⟨g2.set b (.ins 2 [(0, .lst ((if 2 < L2.length then L2.drop 1 else L2).map rowD))]), ?_, List.getElem?_set_self hb2, fun i hi q => by rw [List.getElem?_set_ne (Ne.symm q), hg i hi q]; exact fr1 i hi q⟩
    have sl : slD g2 d2 (some (-2)) none = some (.lst ((if 2 < L2.length then L2.drop 1 else L2).map rowD)) := by
      rw [← cut_rows L2 h3]
      unfold slD
      cases d2 with
      | tup _ => cases c2
      | _ => simp only [c2]
    unfold sSetA vSl
    simp only [vUn_e, vVar_e, List.getElem?_cons_zero, Res.bind, fld_b c1, oR_some, vC_e, negD, sl, sBind, c1]
    rfl
  show ∃ g', endM (b_Buffer_put [some (.ref b), some (.int s), some (.int p), some w.d] g) = _ ∧ _
  unfold b_Buffer_put c_Buffer_put_2 c_Buffer_put_1
  simp only [sSeq_e, sDrop_e, meth, sBind]
  have hn : (L.filter (keepB [(s, p)])).length ≤ 2 := by omega
  cases w with
  | frame f v =>
    have hlg : g.length < g1.length := (List.getElem?_eq_some_iff.mp n3).1
    have p1 : vApp (vFld [2, 3, 5] 0 (vVar 0)) (vTup (aCons (vVar 1) (aCons (vVar 2) (aCons (vOp ixD (vVar 3) (vC (.int 1))) (aCons (vOp ixD (vVar 3) (vC (.int 2))) aNil))))) [some (.ref b), some (.int s), some (.int p), some (Wd.frame f v).d] g1 = .ok .non (g1.set g.length (.lst ((L.filter (keepB [(s, p)]) ++ [(s, p, f, v)]).map rowD))) := by
      have ev : vTup (aCons (vVar 1) (aCons (vVar 2) (aCons (vOp ixD (vVar 3) (vC (.int 1))) (aCons (vOp ixD (vVar 3) (vC (.int 2))) aNil)))) [some (.ref b), some (.int s), some (.int p), some (Wd.frame f v).d] g1 = .ok (rowD (s, p, f, v)) g1 := by
        refine vTup_e (ds := [.int s, .int p, .int f, .bl v]) ?_ rfl
        have i1 : ixD g1 (Wd.frame f v).d (.int 1) = some (.int f) := rfl
        have i2 : ixD g1 (Wd.frame f v).d (.int 2) = some (.bl v) := rfl
        simp [i1, i2]
      unfold vApp
      simp only [vUn_e, vVar_e, List.getElem?_cons_zero, Res.bind, fld_b n2, oR_some, lsD_ref n3, ev, n3, List.length_map, ltL_of (show (L.filter (keepB [(s, p)])).length < 16777216 by omega), List.map_append, List.map_cons, List.map_nil]
    have p2 : BufS (g1.set g.length (.lst ((L.filter (keepB [(s, p)]) ++ [(s, p, f, v)]).map rowD))) b (.ref g.length) (L.filter (keepB [(s, p)]) ++ [(s, p, f, v)]) := ⟨by rw [List.getElem?_set_ne n1]; exact n2, lsD_ref (List.getElem?_set_self hlg)⟩
    obtain ⟨g3, q1, q2, q3⟩ := fin _ _ _ p2 (by simp; omega) (fun i hi q => List.getElem?_set_ne (by omega))
    refine ⟨g3, ?_, q2, q3⟩
    have ix0 : ixD g1 (Wd.frame f v).d (.int 0) = some (.str 18) := rfl
    have e0 : eqD g1 (.str 18) (.str 18) = some (.bl true) := rfl
    have n0 : nonD (Wd.frame f v).d = false := rfl
    simp only [List.map_append, List.map_cons, List.map_nil] at q1
    simp [ix0, e0, n0, p1, q1]
  | non =>
    obtain ⟨g3, q1, q2, q3⟩ := fin g1 _ _ ⟨n2, lsD_ref n3⟩ (by omega) (fun _ _ _ => rfl)
    refine ⟨g3, ?_, q2, q3⟩
    have n0 : nonD Wd.non.d = true := rfl
    simp [n0, q1]
  | other ds n =>
    obtain ⟨g3, q1, q2, q3⟩ := fin g1 _ _ ⟨n2, lsD_ref n3⟩ (by omega) (fun _ _ _ => rfl)
    refine ⟨g3, ?_, q2, q3⟩
    have n0 : nonD (Wd.other ds n).d = false := rfl
    have ix0 : ixD g1 (Wd.other ds n).d (.int 0) = some (.str n) := by
      show atI (D.str n :: ds) 0 = _
      exact atI_nat (j := 0) rfl
    have e0 : eqD g1 (.str n) (.str 18) = some (.bl false) := by
      rw [eqD_e (by simp)]
      have : n ≠ 18 := hw
      simp [this]
    simp [n0, ix0, e0, q1]
def findD (L : List Row) (s p : Int) (w : Bool) : D := match L.find? fun r => (r.1 == s && r.2.1 == p) && (r.2.2.2 || !w) with
  | some r => .int r.2.2.1
  | none => .non
theorem find_body {g : G} {L : List Row} {s p : Int} {w : Bool} {x0 : D} {sc : Src} (hx : srcL g sc = some (L.map rowD)) :
    endM (match runS (gN 4) (sIf (tAnd (tOf (vOp eqD (vSl (vVar 4) none (some (vC (.int 2)))) (vTup (aCons (vVar 1) (aCons (vVar 2) aNil))))) (tOr (tTru (vOp ixD (vVar 4) (vC (.int 3)))) (tNot (tTru (vVar 3))))) (sRet (vOp ixD (vVar 4) (vC (.int 2)))) sNx) sc [some x0, some (.int s), some (.int p), some (.bl w), none] g with
      | .nx e' g' => sRet (vC .non) e' g'
      | r => r) = .ok (findD L s p w) g := by
  refine runS_pure (Q := fun r => endM (match r with
      | .nx e' g' => sRet (vC .non) e' g'
      | r => r) = .ok (findD L s p w) g) hx (fun xs e => ∃ (L' : List Row) (o : Option D), xs = L'.map rowD ∧ e = [some x0, some (.int s), some (.int p), some (.bl w), o] ∧ findD L' s p w = findD L s p w) ⟨L, none, rfl, rfl, rfl⟩ ?_ ?_
  · rintro x xs e ⟨L', o, h1, rfl, h3⟩
    cases L' with
    | nil => cases h1
    | cons r L' =>
      rw [List.map_cons] at h1
      obtain ⟨rfl, rfl⟩ := List.cons.inj h1
      refine ⟨_, rfl, ?_⟩
      have et : vTup (aCons (vVar 1) (aCons (vVar 2) aNil)) [some x0, some (.int s), some (.int p), some (.bl w), some (rowD r)] g = .ok (.tup [.int s, .int p]) g := vTup_e (by simp) rfl
      have ee : eqD g (.tup [.int r.1, .int r.2.1]) (.tup [.int s, .int p]) = some (.bl (r.1 == s && r.2.1 == p)) := by
        rw [eqD_e (by simp)]
        simp
      have i3 : ixD g (rowD r) (.int 3) = some (.bl r.2.2.2) := rfl
      have i2 : ixD g (rowD r) (.int 2) = some (.int r.2.2.1) := rfl
      have fd : findD (r :: L') s p w = if ((r.1 == s && r.2.1 == p) && (r.2.2.2 || !w)) = true then .int r.2.2.1 else findD L' s p w := by
        unfold findD
        rw [List.find?_cons]
        cases ((r.1 == s && r.2.1 == p) && (r.2.2.2 || !w)) <;> rfl
      rw [fd] at h3
      cases h5 : (r.1 == s && r.2.1 == p) with
      | false =>
        rw [h5] at ee h3
        simp [vSl, slD_row, et, ee, StepOK]
        exact ⟨L', rfl, by simpa using h3⟩
      | true =>
        rw [h5] at ee h3
        cases h6 : r.2.2.2 with
        | true =>
          rw [h6] at i3 h3
          simp [vSl, slD_row, et, ee, i3, i2, StepOK]
          simpa using h3
        | false =>
          rw [h6] at i3 h3
          cases w with
          | true =>
            simp [vSl, slD_row, et, ee, i3, i2, StepOK]
            exact ⟨L', rfl, by simpa using h3⟩
          | false =>
            simp [vSl, slD_row, et, ee, i3, i2, StepOK]
            simpa using h3
  · rintro e ⟨L', o, h1, rfl, h3⟩
    have : L' = [] := by simpa using h1.symm
    subst this
    rw [← h3]
    rfl
theorem find_pud (L : List Row) (s p : Int) (w : Bool) {n : Nat} : pud n (findD L s p w) = true := by
  unfold findD
  split <;> simp
theorem find_eq (L : List Row) (s p : Int) (w : Bool) : deq (findD L s p w) (findD L s p w) = true := by
  unfold findD
  split <;> simp
theorem snap_find (L : List Row) (s p : Int) (w : Bool) {g : G} : snap g (findD L s p w) = findD L s p w := by
  unfold findD
  split <;> rfl
theorem framefor_ok {g : G} {b : Nat} {d : D} {L : List Row} {s p : Int} {w : Bool} (h : BufS g b d L) : m_Buffer_frame_for [.ref b, .int s, .int p, .bl w] g = .ok (findD L s p w) g := by
  obtain ⟨h1, h2⟩ := h
  obtain ⟨sc, hs, hx⟩ := iLst_of (m := vFld [2, 3, 5] 0 (vVar 0)) (e := [some (.ref b), some (.int s), some (.int p), some (.bl w), none]) (g := g) (d := d) (by simp [fld_b h1]) h2
  show endM (b_Buffer_frame_for [some (.ref b), some (.int s), some (.int p), some (.bl w), none] g) = _
  unfold b_Buffer_frame_for
  rw [sSeq_e, sFor_e, hs]
  exact find_body hx
theorem entries_ok {g : G} {b : Nat} {d : D} {L : List Row} (h : BufS g b d L) : m_Buffer_entries [.ref b] g = .ok (.ref g.length) (g ++ [.lst (L.map rowD)]) := by
  obtain ⟨h1, h2⟩ := h
  show endM (b_Buffer_entries [some (.ref b)] g) = _
  unfold b_Buffer_entries vListO
  simp only [sRet_e, aCons_e, vUn_e, vVar_e, List.getElem?_cons_zero, Res.bind, fld_b h1, oR_some, aNil_e, itD_of h2, sBind, endM_rt]
/-! #### letters -/
abbrev Lt := Int × List (Int × Int)
def letD (x : Lt) : D := .tup [.int x.1, .tup (x.2.map pairD)]
theorem pud_pair (p : Int × Int) {n : Nat} : pud (n + 1) (pairD p) = true := by simp [pairD, pud_tup]
theorem pud_lt (x : Lt) {n : Nat} : pud (n + 3) (letD x) = true := by
  simp only [letD, pud_tup, List.all_cons, List.all_nil, pud_int, Bool.true_and, Bool.and_true]
  exact pud_pairs (n := n) x.2
def okP (a b : Int) : Bool := (decide (0 ≤ a) && decide (a < 4)) && (decide (0 ≤ b) && decide (b < 8))
theorem isint_int {g : G} {i : Int} : m_is_integer [.int i] g = .ok (.bl true) g := by
  show endM (b_is_integer [some (.int i)] g) = _
  simp [b_is_integer]
theorem ispair_ok {g : G} {a b : Int} : m_is_pair [.tup [.int a, .int b]] g = .ok (.bl (okP a b)) g := by
  show endM (b_is_pair [some (.tup [.int a, .int b])] g) = _
  simp only [b_is_pair, sSeq_e, sIf_e, tOr_e, tNot_e, tTru_e, vUn_e, vVar_e, List.getElem?_cons_zero, Res.bind, isiD_tup, sub_tt, oR_some, truD_bl, Bool.not_true, cond_false, tOf_e, vOp_e, vCB_e, aCons_e, aNil_e, lenD_tup, List.length_cons, List.length_nil, vC_e, ne_int, vCall_e, ixD_tup, at0, at1, isint_int, sBind, bR_bl, sNx_e, sRet_e, vAnd_e, vChain_e, icD_int]
  unfold okP
  by_cases h1 : 0 ≤ a <;> by_cases h2 : a < 4 <;> by_cases h3 : 0 ≤ b <;> by_cases h4 : b < 8 <;> simp [h1, h2, h3, h4, at0, at1]
theorem islet_tup {g : G} {t : Int} (E : List (D × Bool)) (hE : ∀ x ∈ E, m_is_pair [x.1] g = .ok (.bl x.2) g) (hl : E.length ≤ 1000) : m_is_letter [.tup [.int t, .tup (E.map (·.1))]] g = .ok (.bl (decide (1 ≤ t) && (decide (0 < E.length) && E.all (·.2)))) g := by
  show endM (b_is_letter [some (.tup [.int t, .tup (E.map (·.1))]), none, none] g) = _
  have hlc := lcR_pure (gm := gN 2) (t := tYes) (m := vCall m_is_pair (aCons (vVar 2) aNil)) (e := [some (.tup [.int t, .tup (E.map (·.1))]), some (.tup (E.map (·.1))), none]) (g := g) (s := .vals (E.map (·.1))) (fun x : D × Bool => x.1) (fun _ => true) (fun x => D.bl x.2) E rfl (okL_e (by omega)) (fun x hx => ⟨_, rfl, rfl, fun _ => by simp [hE x hx]⟩)
  rw [List.filter_eq_self.mpr (fun _ _ => rfl)] at hlc
  have ha : allD g [.lst (E.map fun x => D.bl x.2)] = some (.bl (E.all (·.2))) := by
    have := allD_e (g := g) (bs := E.map (·.2))
    rw [List.map_map, List.all_map] at this
    exact this
  have hi : iTup (vVar 1) [some (.tup [.int t, .tup (E.map (·.1))]), some (.tup (E.map (·.1))), none] g = .ok (.vals (E.map (·.1))) g := rfl
  simp only [b_is_letter, sSeq_e, sIf_e, tOr_e, tNot_e, tTru_e, vUn_e, vVar_e, List.getElem?_cons_zero, List.getElem?_cons_succ, Res.bind, isiD_tup, sub_tt, oR_some, truD_bl, Bool.not_true, cond_false, tOf_e, vOp_e, vCB_e, aCons_e, aNil_e, lenD_tup, List.length_cons, List.length_nil, vC_e, ne_int, vCall_e, ixD_tup, at0, isint_int, sBind, bR_bl, icD_int]
  by_cases h1 : t < 1
  · simp [h1, show ¬ (1 ≤ t) by omega]
  · simp only [h1, decide_false, c_is_letter_2, c_is_letter_1]
    by_cases h2 : 0 < E.length
    · simp [at1, hi, hlc, ha, h2, show 1 ≤ t by omega]
    · simp [at1, h2, show 1 ≤ t by omega]
theorem islet_ok {g : G} {t : Int} (P : List (Int × Int)) (hl : 1 ≤ P.length) (hl2 : P.length ≤ 10) (hp : P.all (fun q => okP q.1 q.2) = true) : m_is_letter [letD (t, P)] g = .ok (.bl (decide (1 ≤ t))) g := by
  have := islet_tup (g := g) (t := t) (P.map (fun q => (pairD q, okP q.1 q.2))) (fun x hx => by
    obtain ⟨q, _, rfl⟩ := List.mem_map.mp hx
    exact ispair_ok) (by simp; omega)
  rw [List.map_map, List.all_map] at this
  rw [show ((fun x : D × Bool => x.2) ∘ fun q : Int × Int => (pairD q, okP q.1 q.2)) = fun q => okP q.1 q.2 from rfl, hp] at this
  rw [show ((fun x : D × Bool => x.1) ∘ fun q : Int × Int => (pairD q, okP q.1 q.2)) = pairD from rfl] at this
  simpa [show 0 < P.length by omega, letD] using this
theorem send_ok {g : G} {b l : Nat} {L : List Lt} {x : Lt} (h1 : g[b]? = some (.ins 3 [(0, .ref l)])) (h2 : g[l]? = some (.lst (L.map letD))) (hl : L.length ≤ 1000) (h : m_is_letter [letD x] g = .ok (.bl true) g) : m_Box_send [.ref b, letD x] g = .ok .non (g.set l (.lst ((L ++ [x]).map letD))) := by
  have ap := app_e (o := vFld [2, 3, 5] 0 (vVar 0)) (m := vVar 1) (e := [some (.ref b), some (letD x)]) (g := g) (g1 := g) (g2 := g) (l := l) (ds := L.map letD) (ds' := L.map letD) (y := letD x) (by simp [fld_x h1]) h2 rfl h2 (by simp; omega)
  show endM (b_Box_send [some (.ref b), some (letD x)] g) = _
  simp [b_Box_send, h, ap]
theorem letters_ok {g : G} {b l : Nat} {L : List Lt} (h1 : g[b]? = some (.ins 3 [(0, .ref l)])) (h2 : g[l]? = some (.lst (L.map letD))) : m_Box_letters [.ref b] g = .ok (.ref g.length) (g ++ [.lst (L.map letD)]) := by
  show endM (b_Box_letters [some (.ref b)] g) = _
  have hi : itD g (.ref l) = some (L.map letD) := itD_of (lsD_ref h2)
  simp [b_Box_letters, vListO, fld_x h1, hi]
theorem take_nil {g : G} {b l : Nat} (h1 : g[b]? = some (.ins 3 [(0, .ref l)])) (h2 : g[l]? = some (.lst [])) : m_Box_take [.ref b] g = .ok .non g := by
  show endM (b_Box_take [some (.ref b), none] g) = _
  have ht : truD g (.ref l) = some false := by unfold truD; rw [snap_of (lsD_ref h2)]; rfl
  simp [b_Box_take, fld_x h1, ht]
theorem take_cons {g : G} {b l : Nat} {x : Lt} {L : List Lt} (h1 : g[b]? = some (.ins 3 [(0, .ref l)])) (h2 : g[l]? = some (.lst ((x :: L).map letD))) : m_Box_take [.ref b] g = .ok (letD x) ((g ++ [Ob.lst (L.map letD)]).set b (.ins 3 [(0, .ref g.length)])) := by
  have hb := (List.getElem?_eq_some_iff.mp h1).1
  have ht : truD g (.ref l) = some true := by unfold truD; rw [snap_of (lsD_ref h2)]; rfl
  have hx : ixD g (.ref l) (.int 0) = some (letD x) := by unfold ixD; simp only [itD_of (lsD_ref h2)]; exact at0
  have sl : vSlO (vFld [2, 3, 5] 0 (vVar 0)) (some (vC (.int 1))) none [some (.ref b), some (letD x)] g = .ok (.ref g.length) (g ++ [.lst (L.map letD)]) := by
    unfold vSlO
    simp [fld_x h1, lsD_ref h2, cut1]
  have st := setA_e (cs := [2, 3, 5]) (n := 0) (o := vVar 0) sl rfl (Le.app b _ h1) rfl (by simp)
  show endM (b_Box_take [some (.ref b), none] g) = _
  simp only [b_Box_take, c_Box_take_3, c_Box_take_2, c_Box_take_1]
  simp [fld_x h1, ht, hx, st]
  rfl

/-! ### a memory with its buffers and boxes -/
structure MX (g : G) (P : Nat) (bA xA yA : Nat → Nat) (ld : Nat → D) (rows : Nat → List Row) (lets : Nat → List Lt) (St : Nat → Prop) : Prop where
  b : ∀ p, p < P → g[bA p]? = some (.ins 2 [(0, ld p)])
  l : ∀ p, p < P → lsD g (ld p) = some ((rows p).map rowD)
  x : ∀ p, p < P → g[xA p]? = some (.ins 3 [(0, .ref (yA p))])
  y : ∀ p, p < P → g[yA p]? = some (.lst ((lets p).map letD))
  bi : ∀ p q, p < P → q < P → bA p = bA q → p = q
  xi : ∀ p q, p < P → q < P → xA p = xA q → p = q
  yi : ∀ p q, p < P → q < P → yA p = yA q → p = q
  ns : ∀ p, p < P → ¬ St (bA p) ∧ ¬ St (xA p) ∧ ¬ St (yA p)
  ls : ∀ p, p < P → ∀ a, ld p = .ref a → ¬ St a ∧ ∀ q, q < P → a ≠ yA q
  rl : ∀ p, p < P → (rows p).length ≤ 2
  ll : ∀ p, p < P → (lets p).length ≤ 900
def fset {α : Type} (f : Nat → α) (p : Nat) (x : α) : Nat → α := fun q => if q = p then x else f q
@[simp] theorem fset_same {α : Type} {f : Nat → α} {p : Nat} {x : α} : fset f p x p = x := by simp [fset]
theorem fset_ne {α : Type} {f : Nat → α} {p q : Nat} {x : α} (h : q ≠ p) : fset f p x q = f q := by simp [fset, h]
section
variable {g : G} {P : Nat} {bA xA yA : Nat → Nat} {ld : Nat → D} {rows : Nat → List Row} {lets : Nat → List Lt} {St : Nat → Prop}
theorem lsD_le2 {g g' : G} {d : D} {xs : List D} (h : lsD g d = some xs) (e : ∀ a, d = .ref a → g'[a]? = g[a]?) : lsD g' d = some xs := by
  cases d with
  | ref a =>
    rw [← h]
    unfold lsD
    rw [snap_ref, snap_ref, e a rfl]
  | _ => exact h
/-- what is no list of the others, nor the memory's own object, has stayed -/
theorem MX.fr {g' : G} (X : MX g P bA xA yA ld rows lets St) (h : ∀ i, i < g.length → ¬ St i → (∀ fs, g[i]? ≠ some (.ins 5 fs)) → g'[i]? = g[i]?) : MX g' P bA xA yA ld rows lets St := by
  have key : ∀ {i : Nat} {o : Ob}, g[i]? = some o → ¬ St i → (∀ fs, o ≠ .ins 5 fs) → g'[i]? = some o := fun {i o} e n k => by
    rw [h i (List.getElem?_eq_some_iff.mp e).1 n (fun fs q => by rw [e] at q; exact k fs (Option.some.inj q))]
    exact e
  refine ⟨fun p hp => key (X.b p hp) (X.ns p hp).1 (fun fs q => by cases q), fun p hp => lsD_le2 (X.l p hp) fun a ha => ?_, fun p hp => key (X.x p hp) (X.ns p hp).2.1 (fun fs q => by cases q), fun p hp => key (X.y p hp) (X.ns p hp).2.2 (fun fs q => by cases q), X.bi, X.xi, X.yi, X.ns, X.ls, X.rl, X.ll⟩
  have hl := X.l p hp
  rw [ha] at hl
  cases e : g[a]? with
  | none =>
    unfold lsD at hl
    rw [snap_ref, e] at hl
    cases hl
  | some o =>
    exact key e (X.ls p hp a ha).1 fun fs q => by
      subst q
      unfold lsD at hl
      rw [snap_ref, e] at hl
      cases hl
theorem MX.app {os : G} (X : MX g P bA xA yA ld rows lets St) : MX (g ++ os) P bA xA yA ld rows lets St := X.fr fun i hi _ _ => List.getElem?_append_left hi
theorem MX.at_ {a : Nat} {o : Ob} (X : MX g P bA xA yA ld rows lets St) (h : St a) : MX (g.set a o) P bA xA yA ld rows lets St := X.fr fun i hi n _ => List.getElem?_set_ne (fun q => n (by rw [← q]; exact h))
/-- a buffer has other rows -/
theorem MX.buf {g' : G} {p : Nat} (X : MX g P bA xA yA ld rows lets St) (hp : p < P) {d : D} {L : List Row} (hb : g'[bA p]? = some (.ins 2 [(0, d)])) (hl : lsD g' d = some (L.map rowD)) (h : ∀ i, i < g.length → i ≠ bA p → g'[i]? = g[i]?) (hd : ∀ a, d = .ref a → ¬ St a ∧ ∀ q, q < P → a ≠ yA q) (h2 : L.length ≤ 2) :
    MX g' P bA xA yA (fset ld p d) (fset rows p L) lets St := by
  have key : ∀ {i : Nat} {o : Ob}, g[i]? = some o → i ≠ bA p → g'[i]? = some o := fun {i o} e n => by
    rw [h i (List.getElem?_eq_some_iff.mp e).1 n]
    exact e
  refine ⟨fun q hq => ?_, fun q hq => ?_, fun q hq => key (X.x q hq) (fun e => ?_), fun q hq => key (X.y q hq) (fun e => ?_), X.bi, X.xi, X.yi, X.ns, fun q hq a ha => ?_, fun q hq => ?_, X.ll⟩
  · by_cases e : q = p
    · subst e
      rw [fset_same]
      exact hb
    · rw [fset_ne e]
      exact key (X.b q hq) fun z => e (X.bi q p hq hp z)
  · by_cases e : q = p
    · subst e
      rw [fset_same, fset_same]
      exact hl
    · rw [fset_ne e, fset_ne e]
      refine lsD_le2 (X.l q hq) fun a ha => ?_
      have hl := X.l q hq
      rw [ha] at hl
      cases e2 : g[a]? with
      | none =>
        unfold lsD at hl
        rw [snap_ref, e2] at hl
        cases hl
      | some o =>
        refine key e2 fun z => ?_
        rw [z, X.b p hp] at e2
        cases e2
        unfold lsD at hl
        rw [snap_ref, z, X.b p hp] at hl
        cases hl
  · have := X.x q hq
    rw [e, X.b p hp] at this
    cases this
  · have := X.y q hq
    rw [e, X.b p hp] at this
    cases this
  · by_cases e : q = p
    · subst e
      rw [fset_same] at ha
      exact hd a ha
    · rw [fset_ne e] at ha
      exact X.ls q hq a ha
  · by_cases e : q = p
    · subst e
      rw [fset_same]
      exact h2
    · rw [fset_ne e]
      exact X.rl q hq
/-- a letter more -/
theorem MX.send {p : Nat} (X : MX g P bA xA yA ld rows lets St) (hp : p < P) {L : List Lt} (h2 : L.length ≤ 900) : MX (g.set (yA p) (.lst (L.map letD))) P bA xA yA ld rows (fset lets p L) St := by
  have hy := (List.getElem?_eq_some_iff.mp (X.y p hp)).1
  refine ⟨fun q hq => ?_, fun q hq => lsD_le2 (X.l q hq) fun a ha => ?_, fun q hq => ?_, fun q hq => ?_, X.bi, X.xi, X.yi, X.ns, X.ls, X.rl, fun q hq => ?_⟩
  · rw [List.getElem?_set_ne (fun e => by have := X.b q hq; rw [← e, X.y p hp] at this; cases this)]
    exact X.b q hq
  · rw [List.getElem?_set_ne (fun e => (X.ls q hq a ha).2 p hp e.symm)]
  · rw [List.getElem?_set_ne (fun e => by have := X.x q hq; rw [← e, X.y p hp] at this; cases this)]
    exact X.x q hq
  · by_cases e : q = p
    · subst e
      rw [fset_same, List.getElem?_set_self hy]
    · rw [fset_ne e, List.getElem?_set_ne (fun z => e (X.yi q p hq hp z.symm))]
      exact X.y q hq
  · by_cases e : q = p
    · subst e
      rw [fset_same]
      exact h2
    · rw [fset_ne e]
      exact X.ll q hq
/-- a letter less -/
theorem MX.take {p : Nat} (X : MX g P bA xA yA ld rows lets St) (hp : p < P) {L : List Lt} (h2 : L.length ≤ 900) (hn : ¬ St g.length) : MX ((g ++ [Ob.lst (L.map letD)]).set (xA p) (.ins 3 [(0, .ref g.length)])) P bA xA (fset yA p g.length) ld rows (fset lets p L) St := by
  have hx := (List.getElem?_eq_some_iff.mp (X.x p hp)).1
  have lt : ∀ {i : Nat} {o : Ob}, g[i]? = some o → i < g.length := fun e => (List.getElem?_eq_some_iff.mp e).1
  have key : ∀ {i : Nat} {o : Ob}, g[i]? = some o → i ≠ xA p → ((g ++ [Ob.lst (L.map letD)]).set (xA p) (.ins 3 [(0, .ref g.length)]))[i]? = some o := fun {i o} e n => by
    rw [List.getElem?_set_ne (Ne.symm n), List.getElem?_append_left (lt e)]
    exact e
  refine ⟨fun q hq => key (X.b q hq) fun e => ?_, fun q hq => lsD_le2 (X.l q hq) fun a ha => ?_, fun q hq => ?_, fun q hq => ?_, X.bi, X.xi, fun a b ha hb e => ?_, fun q hq => ?_, fun q hq a ha => ?_, X.rl, fun q hq => ?_⟩
  · have := X.b q hq
    rw [e, X.x p hp] at this
    cases this
  · have hl := X.l q hq
    rw [ha] at hl
    cases e2 : g[a]? with
    | none =>
      unfold lsD at hl
      rw [snap_ref, e2] at hl
      cases hl
    | some o =>
      rw [key e2 fun z => by
        rw [z, X.x p hp] at e2
        cases e2
        unfold lsD at hl
        rw [snap_ref, z, X.x p hp] at hl
        cases hl]
  · by_cases e : q = p
    · subst e
      rw [fset_same, List.getElem?_set_self (by simp; omega)]
    · rw [fset_ne e]
      exact key (X.x q hq) fun z => e (X.xi q p hq hp z)
  · by_cases e : q = p
    · subst e
      rw [fset_same, fset_same, List.getElem?_set_ne (by omega), get_snoc']
    · rw [fset_ne e, fset_ne e]
      exact key (X.y q hq) fun z => by
        have := X.y q hq
        rw [z, X.x p hp] at this
        cases this
  · by_cases e1 : a = p
    · subst e1
      by_cases e2 : b = a
      · exact e2.symm
      · rw [fset_same, fset_ne e2] at e
        have := lt (X.y b hb)
        omega
    · by_cases e2 : b = p
      · subst e2
        rw [fset_ne e1, fset_same] at e
        have := lt (X.y a ha)
        omega
      · rw [fset_ne e1, fset_ne e2] at e
        exact X.yi a b ha hb e
  · refine ⟨(X.ns q hq).1, (X.ns q hq).2.1, ?_⟩
    by_cases e : q = p
    · subst e
      rw [fset_same]
      exact hn
    · rw [fset_ne e]
      exact (X.ns q hq).2.2
  · refine ⟨(X.ls q hq a ha).1, fun z hz => ?_⟩
    by_cases e : z = p
    · subst e
      rw [fset_same]
      have hl := X.l q hq
      rw [ha] at hl
      intro e3
      unfold lsD at hl
      rw [snap_ref, e3, List.getElem?_eq_none (Nat.le_refl _)] at hl
      cases hl
    · rw [fset_ne e]
      exact (X.ls q hq a ha).2 z hz
  · by_cases e : q = p
    · subst e
      rw [fset_same]
      exact h2
    · rw [fset_ne e]
      exact X.ll q hq
end
/-! #### the other accesses -/
def refsF (P : Nat) (f : Nat → Nat) : D := .lst ((List.range P).map fun p => .ref (f p))
theorem refs_at {g : G} {P p : Nat} {f : Nat → Nat} (hp : p < P) : ixD g (refsF P f) (.int (p : Int)) = some (.ref (f p)) := by
  unfold refsF
  exact atI_nat (by simp [hp])
section
variable {g : G} {m s h r P : Nat} {N B cnt : Int} {bA xA yA : Nat → Nat} {ld : Nat → D} {rows : Nat → List Row} {lets : Nat → List Lt} {St : Nat → Prop} {held log : List D}
theorem mulS {i j : Int} (h : -1000 ≤ i) (h' : i ≤ 1000) : mulD g (.int i) (.int j) = some (.int (i * j)) := mulD_l (by omega) (by omega)
section
variable (M : MC g m s h r (P : Int) N B cnt (refsF P bA) (refsF P xA) held log)
include M
theorem MC.bufs : fldD [5] 7 g (.ref m) = some (refsF P bA) := fldD_e M.mo rfl rfl
theorem MC.boxs : fldD [5] 8 g (.ref m) = some (refsF P xA) := fldD_e M.mo rfl rfl
theorem MC.smeth {nm : Nat} {tbl : List (Nat × MF)} {o : EM} {ms : AM} {e : En} {mf : MF} {ds : List D} {g2 : G} (ho : o e g = .ok (.ref s) g) (hn : lkA nm [(4, D.int (P : Int)), (5, .int N), (6, .int B)] = none) (hm : lkM 4 tbl = some mf) (ha : ms e g = .ok ds g2) : vMeth nm tbl o ms e g = mf (.ref s :: ds) g2 := meth_e ho M.so hn hm ha
theorem MC.word_ok {a b : Int} : m_Sizes_word [.ref s, .int a, .int b] g = .ok (.int (1 + (P : Int) + 8 * a + b)) g := by
  simp [m_Sizes_word, fnM_s, b_Sizes_word, M.procs, mulS]
theorem MC.fcell_ok {a b : Int} : m_Sizes_frame_cell [.ref s, .int a, .int b] g = .ok (.int (1 + (P : Int) + 32 + 2 * a + b)) g := by
  simp [m_Sizes_frame_cell, fnM_s, b_Sizes_frame_cell, M.procs, mulS]
theorem MC.ack_ok {a : Int} : m_Sizes_acknowledge [.ref s, .int a] g = .ok (.int (1 + a)) g := by
  simp [m_Sizes_acknowledge, fnM_s, b_Sizes_acknowledge]
theorem MC.page_ok {k : Nat} {a b : Int} {rest : List D} (ha : 0 ≤ a ∧ a < 4) (hb : 0 ≤ b ∧ b < 8) (hk : k = 14 ∨ ∃ i r, rest = .int i :: r ∧ 0 ≤ i ∧ i < 2) : m_Memory_check_page [.ref m, .tup (.str k :: .int a :: .int b :: rest)] g = .ok .non g := by
  have w1 : m_is_within [.int a, .int 0, .int 3] g = .ok (.bl true) g := within_ok ha.1 (by omega)
  have w2 : m_is_within [.int b, .int 0, .int 7] g = .ok (.bl true) g := within_ok hb.1 (by omega)
  show endM (b_Memory_check_page [some (.ref m), some (.tup (.str k :: .int a :: .int b :: rest))] g) = _
  by_cases e : k = 14
  · subst e
    simp [b_Memory_check_page, at0, at1, at2, w1, w2, ne_str]
  · rcases hk with hk | ⟨i, r, rfl, i0, i1⟩
    · exact absurd hk e
    · have w3 : m_is_within [.int i, .int 0, .int 1] g = .ok (.bl true) g := within_ok i0 (by omega)
      have e2 : (k == 14) = false := beq_eq_false_iff_ne.mpr e
      simp [b_Memory_check_page, at0, at1, at2, at3, w1, w2, w3, ne_str, e2]
/-- requests that name a page -/
theorem MC.chk_page {p : Int} (hp0 : 0 ≤ p) (hp1 : p < (P : Int)) {k : Nat} {a b : Int} {rest : List D} (hk : k = 14 ∧ rest.length = 0 ∨ (k = 15 ∧ rest.length = 1 ∨ k = 16 ∧ rest.length = 2 ∨ k = 17 ∧ rest.length = 3)) (hc : m_Memory_check_page [.ref m, .tup (.str k :: .int a :: .int b :: rest)] g = .ok .non g) :
    m_Memory_check_request [.ref m, .int p, .tup (.str k :: .int a :: .int b :: rest)] g = .ok .non g := by
  show endM (b_Memory_check_request [some (.ref m), some (.int p), some (.tup (.str k :: .int a :: .int b :: rest)), none] g) = _
  have w : m_is_within [.int p, .int 0, .int ((P : Int) - 1)] g = .ok (.bl true) g := within_ok hp0 (by omega)
  have vm : vMeth 30 [(5, m_Memory_check_page)] (vVar 0) (aCons (vVar 2) aNil) [some (.ref m), some (.int p), some (.tup (.str k :: .int a :: .int b :: rest)), some (.str k)] g = .ok .non g := by
    have q := M.meth (nm := 30) (tbl := [(5, m_Memory_check_page)]) (o := vVar 0) (ms := aCons (vVar 2) aNil) (e := [some (.ref m), some (.int p), some (.tup (.str k :: .int a :: .int b :: rest)), some (.str k)]) (g2 := g) rfl rfl rfl rfl
    rw [q, hc]
  unfold b_Memory_check_request c_Memory_check_request_3 c_Memory_check_request_2 c_Memory_check_request_1
  rcases hk with ⟨rfl, h⟩ | ⟨rfl, h⟩ | ⟨rfl, h⟩ | ⟨rfl, h⟩ <;> simp [M.sizes_, M.procs, w, at0, vDGet, isDc, dcG, dicG, ne_int, eq_int, vTup_s, okL_s, inD, sqD, vm, eq_str, ne_str, h]
/-- an access that sends nothing: its result behind its row -/
theorem MC.acc_of {p : Int} {k : Nat} {rest : List D} (hc : m_Memory_check_request [.ref m, .int p, .tup (.str k :: rest)] g = .ok .non g) (hk : (k == 12) = false) (hl : log.length < 99999) {res : D} {g' : G} {c' : Int} (hr : m_Memory_result [.ref m, .int p, .tup (.str k :: rest)] (rowG g m s h r cnt (refsF P bA) (refsF P xA) log (.tup [.int (cnt + 1), .int p, .tup (.str k :: rest)])) = .ok res g') (h3 : fldD [5] 3 g' (.ref m) = some (.int c')) :
    m_Memory_access [.ref m, .int p, .tup (.str k :: rest)] g = .ok (.tup [res, .int c']) g' := by
  show endM (b_Memory_access [some (.ref m), some (.int p), some (.tup (.str k :: rest))] g) = _
  have a := M.meth (nm := 29) (tbl := [(5, m_Memory_check_request)]) (o := vVar 0) (ms := aCons (vVar 1) (aCons (vVar 2) aNil)) (e := [some (.ref m), some (.int p), some (.tup (.str k :: rest))]) (g2 := g) rfl rfl rfl rfl
  rw [hc] at a
  have a2 := M.acc2 (p := p) (rq := .tup (.str k :: rest)) hl hr h3
  unfold b_Memory_access c_Memory_access_4
  simp only [sSeq_e, sDrop_e, a, sBind, sIf_e, tOf_e, vOp_e, vVar_e, List.getElem?_cons_zero, List.getElem?_cons_succ, Res.bind, vC_e, ixD_tup, at0, oR_some, eq_str, hk, bR_bl, cond_false, sNx_e, a2]
  rfl
end
end

/-- what a use through an entry does -/
def useDo (held : List D) (k : Nat) (fr : D) (P i : Int) (rest : List D) : D × List D := match fr with
  | .int f => (match k, rest with
    | 15, _ => (.tup [(atI held (1 + P + 32 + 2 * f + i)).getD .non], held)
    | 16, [v] => (.bl true, held.set (1 + P + 32 + 2 * f + i).toNat v)
    | 17, [o, v] => bif deq ((atI held (1 + P + 32 + 2 * f + i)).getD .non) o then (.tup [.str 19], held.set (1 + P + 32 + 2 * f + i).toNat v) else (.tup [(atI held (1 + P + 32 + 2 * f + i)).getD .non], held)
    | _, _ => (.non, held))
  | _ => (bif k == 16 then .bl false else .non, held)
/-- what an access leaves as it is -/
def Rest (g g' : G) (m h r P : Nat) (bA xA yA : Nat → Nat) : Prop := ∀ i, i < g.length → i ≠ m → i ≠ h → i ≠ r → (∀ p, p < P → i ≠ bA p ∧ i ≠ xA p ∧ i ≠ yA p) → g'[i]? = g[i]?
section
variable {g : G} {m s h r P : Nat} {N B cnt : Int} {bA xA yA : Nat → Nat} {ld : Nat → D} {rows : Nat → List Row} {lets : Nat → List Lt} {St : Nat → Prop} {held log : List D}
theorem row_len {y : D} {bs xs : D} : (rowG g m s h r cnt bs xs log y).length = g.length := by simp [rowG]
theorem row_fr {y : D} {bs xs : D} {i : Nat} (h1 : i ≠ m) (h2 : i ≠ r) : (rowG g m s h r cnt bs xs log y)[i]? = g[i]? := by
  unfold rowG
  rw [List.getElem?_set_ne (Ne.symm h2), List.getElem?_set_ne (Ne.symm h1)]
section
variable (M : MC g m s h r (P : Int) N B cnt (refsF P bA) (refsF P xA) held log) (X : MX g P bA xA yA ld rows lets St) (hh : St h) (hr : St r)
include M X hh hr
theorem row_mx {y : D} : MX (rowG g m s h r cnt (refsF P bA) (refsF P xA) log y) P bA xA yA ld rows lets St := X.fr fun i hi n k => row_fr (fun e => k (memF s h r cnt (refsF P bA) (refsF P xA)) (by rw [e]; exact M.mo)) (fun e => n (by rw [e]; exact hr))
theorem ins_ne {i : Nat} {c : Nat} {fs : List (Nat × D)} (hi : g[i]? = some (.ins c fs)) (hc : c = 2 ∨ c = 3) : i ≠ m ∧ i ≠ s ∧ i ≠ h ∧ i ≠ r := by
  refine ⟨fun e => ?_, fun e => ?_, fun e => ?_, fun e => ?_⟩
  · rw [e, M.mo] at hi
    cases hi
    rcases hc with hc | hc <;> cases hc
  · rw [e, M.so] at hi
    cases hi
    rcases hc with hc | hc <;> cases hc
  · rw [e, M.ho] at hi
    cases hi
  · rw [e, M.ro] at hi
    cases hi
theorem walk_ok {p : Nat} (hp : p < P) {a b : Int} {w : Wd} (ha : 0 ≤ a ∧ a < 4) (hb : 0 ≤ b ∧ b < 8) (hw : w.ok) (hd : atI held (1 + (P : Int) + 8 * a + b) = some w.d) (hl : log.length < 99999) :
    ∃ g' y ld', m_Memory_access [.ref m, .int (p : Int), .tup [.str 14, .int a, .int b]] g = .ok (.tup [w.d, .int (cnt + 1)]) g' ∧ MC g' m s h r (P : Int) N B (cnt + 1) (refsF P bA) (refsF P xA) held (log ++ [y]) ∧ y = .tup [.int (cnt + 1), .int (p : Int), .tup [.str 14, .int a, .int b]] ∧
      MX g' P bA xA yA ld' (fset rows p (putL (rows p) a b w)) lets St ∧ Rest g g' m h r P bA xA yA ∧ g.length ≤ g'.length := by
  have hc := M.chk_page (p := (p : Int)) (k := 14) (a := a) (b := b) (rest := []) (by omega) (by omega) (.inl ⟨rfl, rfl⟩) (M.page_ok ha hb (.inl rfl))
  have M1 : MC (rowG g m s h r cnt (refsF P bA) (refsF P xA) log (.tup [.int (cnt + 1), .int (p : Int), .tup [.str 14, .int a, .int b]])) m s h r (P : Int) N B (cnt + 1) (refsF P bA) (refsF P xA) held (log ++ [.tup [.int (cnt + 1), .int (p : Int), .tup [.str 14, .int a, .int b]]]) := M.row hl rfl
  have X1 := row_mx M X hh hr (cnt := cnt) (y := .tup [.int (cnt + 1), .int (p : Int), .tup [.str 14, .int a, .int b]])
  have acc := fun {res g' c'} => M.acc_of (k := 14) (rest := [.int a, .int b]) hc rfl hl (res := res) (g' := g') (c' := c')
  have rl := row_len (g := g) (m := m) (s := s) (h := h) (r := r) (cnt := cnt) (bs := refsF P bA) (xs := refsF P xA) (log := log) (y := .tup [.int (cnt + 1), .int (p : Int), .tup [.str 14, .int a, .int b]])
  have rf := fun {i} => row_fr (g := g) (m := m) (s := s) (h := h) (r := r) (cnt := cnt) (bs := refsF P bA) (xs := refsF P xA) (log := log) (y := .tup [.int (cnt + 1), .int (p : Int), .tup [.str 14, .int a, .int b]]) (i := i)
  generalize hG : rowG g m s h r cnt (refsF P bA) (refsF P xA) log (.tup [.int (cnt + 1), .int (p : Int), .tup [.str 14, .int a, .int b]]) = g1 at *
  obtain ⟨g2, run, b1, f2⟩ := put_ok (s := a) (p := b) (w := w) ⟨X1.b p hp, X1.l p hp⟩ (X1.rl p hp) hw
  obtain ⟨n1, n2, n3, n4⟩ := ins_ne M1 X1 hh hr (X1.b p hp) (.inl rfl)
  have lt : ∀ {i : Nat} {o : Ob}, g1[i]? = some o → i < g1.length := fun e => (List.getElem?_eq_some_iff.mp e).1
  have M2 := M1.le (f2 m (lt M1.mo) (Ne.symm n1)) (f2 s (lt M1.so) (Ne.symm n2)) (f2 h (lt M1.ho) (Ne.symm n3)) (f2 r (lt M1.ro) (Ne.symm n4))
  have X2 := X1.buf hp (d := .lst ((putL (rows p) a b w).map rowD)) (L := putL (rows p) a b w) b1 rfl f2 (fun a ha => by cases ha) (putL_len (X1.rl p hp))
  have hres : m_Memory_result [.ref m, .int (p : Int), .tup [.str 14, .int a, .int b]] g1 = .ok w.d g2 := by
    show endM (b_Memory_result [some (.ref m), some (.int (p : Int)), some (.tup [.str 14, .int a, .int b]), none, none] g1) = _
    have wm := M1.smeth (nm := 25) (tbl := [(4, m_Sizes_word)]) (o := vFld [5] 2 (vVar 0)) (ms := aCons (vOp ixD (vVar 2) (vC (.int 1))) (aCons (vOp ixD (vVar 2) (vC (.int 2))) aNil)) (e := [some (.ref m), some (.int (p : Int)), some (.tup [.str 14, .int a, .int b]), some (.str 14), none]) (g2 := g1) (ds := [.int a, .int b]) (by simp [M1.sizes_]) rfl rfl (by simp [at1, at2])
    rw [M1.word_ok] at wm
    have pm := meth_e (nm := 22) (tbl := [(2, m_Buffer_put)]) (o := vOp ixD (vFld [5] 7 (vVar 0)) (vVar 1)) (ms := aCons (vOp ixD (vVar 2) (vC (.int 1))) (aCons (vOp ixD (vVar 2) (vC (.int 2))) (aCons (vVar 4) aNil))) (e := [some (.ref m), some (.int (p : Int)), some (.tup [.str 14, .int a, .int b]), some (.str 14), some w.d]) (g := g1) (g2 := g1) (ds := [.int a, .int b, w.d]) (by simp [M1.bufs, refs_at hp]) (X1.b p hp) rfl rfl (by simp [at1, at2])
    rw [run] at pm
    unfold b_Memory_result c_Memory_result_7 c_Memory_result_6 c_Memory_result_5 c_Memory_result_4 c_Memory_result_3 c_Memory_result_2
    have tt : inD false g1 (.str 14) (.tup [.str 9, .str 10, .str 11]) = some (.bl false) := rfl
    simp [at0, vTup_s, okL_s, tt, eq_str, M1.held_, wm, M1.at_ hd, pm]
  refine ⟨g2, _, _, acc hres M2.count_, M2, rfl, X2, fun i hi i1 i2 i3 i4 => ?_, ?_⟩
  · rw [f2 i (by omega) (i4 p hp).1]
    exact rf i1 i3
  · have := (List.getElem?_eq_some_iff.mp M2.mo).1
    have q : ∀ i, i < g1.length → i < g2.length := fun i hi => by
      by_cases e : i = bA p
      · rw [e]
        exact (List.getElem?_eq_some_iff.mp b1).1
      · have := f2 i hi e
        rw [List.getElem?_eq_getElem hi] at this
        exact (List.getElem?_eq_some_iff.mp this).1
    rw [← rl]
    cases hz : g1.length with
    | zero => omega
    | succ k => exact q k (by omega)
theorem use_to {p : Nat} (hp : p < P) {k : Nat} {a b i : Int} {rest : List D} (hk : k = 15 ∧ rest = [] ∨ (k = 16 ∧ ∃ v, rest = [v]) ∨ k = 17 ∧ ∃ o v, rest = [o, v] ∧ pud 5 o = true) (hh5 : ∀ v ∈ held, pud 5 v = true)
    (hf : ∀ f, findD (rows p) a b (!(k == 15)) = .int f → 0 ≤ 1 + (P : Int) + 32 + 2 * f + i ∧ 1 + (P : Int) + 32 + 2 * f + i < held.length) :
    ∃ g', m_Memory_use [.ref m, .int (p : Int), .tup (.str k :: .int a :: .int b :: .int i :: rest)] g = .ok (useDo held k (findD (rows p) a b (!(k == 15))) P i rest).1 g' ∧ (g' = g ∧ (useDo held k (findD (rows p) a b (!(k == 15))) P i rest).2 = held ∨ g' = g.set h (.lst (useDo held k (findD (rows p) a b (!(k == 15))) P i rest).2)) := by
  have fm := fun (w : Bool) => framefor_ok (s := a) (p := b) (w := w) ⟨X.b p hp, X.l p hp⟩
  have head : m_Memory_use [.ref m, .int (p : Int), .tup (.str k :: .int a :: .int b :: .int i :: rest)] g = endM (c_Memory_use_7 [some (.ref m), some (.int (p : Int)), some (.tup (.str k :: .int a :: .int b :: .int i :: rest)), some (.str k), some (findD (rows p) a b (!(k == 15))), none] g) := by
    show endM (b_Memory_use [some (.ref m), some (.int (p : Int)), some (.tup (.str k :: .int a :: .int b :: .int i :: rest)), none, none, none] g) = _
    have pm := meth_e (nm := 24) (tbl := [(2, m_Buffer_frame_for)]) (o := vOp ixD (vFld [5] 7 (vVar 0)) (vVar 1)) (ms := aCons (vOp ixD (vVar 2) (vC (.int 1))) (aCons (vOp ixD (vVar 2) (vC (.int 2))) (aCons (vOp neD (vVar 3) (vC (.str 15))) aNil))) (e := [some (.ref m), some (.int (p : Int)), some (.tup (.str k :: .int a :: .int b :: .int i :: rest)), some (.str k), none, none]) (g := g) (g2 := g) (ds := [.int a, .int b, .bl (!(k == 15))]) (by simp [M.bufs, refs_at hp]) (X.b p hp) rfl rfl (by simp [at1, at2, ne_str])
    rw [fm] at pm
    unfold b_Memory_use c_Memory_use_8
    simp only [sSeq_e, sAsg_e, vOp_e, vVar_e, List.getElem?_cons_zero, List.getElem?_cons_succ, Res.bind, vC_e, ixD_tup, at0, oR_some, sBind, List.set, pm]
  rw [head]
  unfold c_Memory_use_7
  cases hfd : findD (rows p) a b (!(k == 15)) with
  | int f =>
    obtain ⟨c0, c1⟩ := hf f hfd
    obtain ⟨v0, hv, vm⟩ := atI_mem c0 c1
    have pv := hh5 v0 vm
    have fc := M.smeth (nm := 27) (tbl := [(4, m_Sizes_frame_cell)]) (o := vFld [5] 2 (vVar 0)) (ms := aCons (vVar 4) (aCons (vOp ixD (vVar 2) (vC (.int 3))) aNil)) (e := [some (.ref m), some (.int (p : Int)), some (.tup (.str k :: .int a :: .int b :: .int i :: rest)), some (.str k), some (.int f), none]) (g2 := g) (ds := [.int f, .int i]) (by simp [M.sizes_]) rfl rfl (by simp [at3])
    rw [M.fcell_ok] at fc
    have hc : ixN held.length (1 + (P : Int) + 32 + 2 * f + i) = some (1 + (P : Int) + 32 + 2 * f + i).toNat := by
      unfold ixN
      have h2 : ¬ 1 + (P : Int) + 32 + 2 * f + i < 0 := by omega
      simp only [h2, if_false, c0, if_true]
      rw [if_pos (by omega)]
    generalize hcc : 1 + (P : Int) + 32 + 2 * f + i = cc at *
    have sub : ∀ (j : Nat) (x : D), (vOp ixD (vVar 2) (vC (.int (j : Int)))) [some (.ref m), some (.int (p : Int)), some (.tup (.str k :: .int a :: .int b :: .int i :: rest)), some (.str k), some (.int f), some (.int cc)] g = .ok x g → sSub (vFld [5] 1 (vVar 0)) (vVar 5) (vOp ixD (vVar 2) (vC (.int (j : Int)))) [some (.ref m), some (.int (p : Int)), some (.tup (.str k :: .int a :: .int b :: .int i :: rest)), some (.str k), some (.int f), some (.int cc)] g = .nx [some (.ref m), some (.int (p : Int)), some (.tup (.str k :: .int a :: .int b :: .int i :: rest)), some (.str k), some (.int f), some (.int cc)] (g.set h (.lst (held.set cc.toNat x))) := by
      intro j x hx
      unfold sSub
      simp only [hx, sBind, vUn_e, vVar_e, List.getElem?_cons_zero, List.getElem?_cons_succ, Res.bind, M.held_, oR_some, M.ho, hc]
    have hd6 : (sSeq (sIf (tOf (vOp isN (vVar 4) (vC .non))) (sRet (vIf (tOf (vOp eqD (vVar 3) (vC (.str 16)))) (vC (.bl false)) (vC .non))) sNx) c_Memory_use_6) [some (.ref m), some (.int (p : Int)), some (.tup (.str k :: .int a :: .int b :: .int i :: rest)), some (.str k), some (.int f), none] g = c_Memory_use_5 [some (.ref m), some (.int (p : Int)), some (.tup (.str k :: .int a :: .int b :: .int i :: rest)), some (.str k), some (.int f), some (.int cc)] g := by
      unfold c_Memory_use_6
      simp only [sSeq_e, sIf_e, tOf_e, vOp_e, vVar_e, List.getElem?_cons_zero, List.getElem?_cons_succ, Res.bind, vC_e, isN_e, nonD_int, oR_some, bR_bl, sBind, cond_false, sNx_e, sAsg_e, fc, List.set]
    rw [hd6]
    unfold c_Memory_use_5
    rcases hk with ⟨rfl, rfl⟩ | ⟨rfl, v, rfl⟩ | ⟨rfl, o, v, rfl, po⟩
    · have ud : useDo held 15 (.int f) P i [] = (.tup [v0], held) := by simp [useDo, hcc, hv]
      rw [ud]
      refine ⟨g, ?_, .inl ⟨rfl, rfl⟩⟩
      simp [eq_str, M.held_, M.at_ hv, vTup_s, okL_s]
    · have ud : useDo held 16 (.int f) P i [v] = (.bl true, held.set cc.toNat v) := by simp [useDo, hcc]
      rw [ud]
      refine ⟨_, ?_, .inr rfl⟩
      have s1 := sub 4 v (by rfl)
      simp only [Int.ofNat_eq_natCast, Int.cast_ofNat_Int] at s1
      unfold c_Memory_use_4
      simp only [sSeq_e, sIf_e, tOf_e, vOp_e, vVar_e, List.getElem?_cons_zero, List.getElem?_cons_succ, Res.bind, vC_e, eq_str, oR_some, bR_bl, sBind, (show ((16 : Nat) == 15) = false from rfl), (show ((16 : Nat) == 16) = true from rfl), cond_false, cond_true, sNx_e]
      rw [s1]
      rfl
    · have s1 := sub 5 v (by rfl)
      simp only [Int.ofNat_eq_natCast, Int.cast_ofNat_Int] at s1
      have i4 : ixD g (.tup [.str 17, .int a, .int b, .int i, o, v]) (.int 4) = some o := rfl
      have nn : neD g v0 o = some (.bl (!deq v0 o)) := by
        have e1 := pure_snap (g := g) pv
        have e2 := pure_snap (g := g) po
        rw [neD_e (by rw [e1, e2, pud_le (by decide) pv, pud_le (by decide) po]; rfl), e1, e2]
      have ud : useDo held 17 (.int f) P i [o, v] = bif deq v0 o then (.tup [.str 19], held.set cc.toNat v) else (.tup [v0], held) := by
        simp [useDo, hcc, hv]
      rw [ud]
      unfold c_Memory_use_4 c_Memory_use_3
      cases hq : deq v0 o with
      | true =>
        rw [hq] at nn
        refine ⟨_, ?_, .inr rfl⟩
        unfold c_Memory_use_2 c_Memory_use_1
        simp only [sSeq_e, sIf_e, tOf_e, vOp_e, vVar_e, List.getElem?_cons_zero, List.getElem?_cons_succ, Res.bind, vC_e, eq_str, oR_some, bR_bl, sBind, (show ((17 : Nat) == 15) = false from rfl), (show ((17 : Nat) == 16) = false from rfl), cond_false, sNx_e, vUn_e, M.held_, M.at_ hv, i4, nn, Bool.not_true]
        rw [s1]
        rfl
      | false =>
        rw [hq] at nn
        refine ⟨g, ?_, .inl ⟨rfl, rfl⟩⟩
        simp only [sSeq_e, sIf_e, tOf_e, vOp_e, vVar_e, List.getElem?_cons_zero, List.getElem?_cons_succ, Res.bind, vC_e, eq_str, oR_some, bR_bl, sBind, (show ((17 : Nat) == 15) = false from rfl), (show ((17 : Nat) == 16) = false from rfl), cond_false, cond_true, sNx_e, vUn_e, M.held_, M.at_ hv, i4, nn, Bool.not_false, sRet_e, vTup_s, aCons_e, aNil_e, (show okL [v0].length = true from rfl), endM_rt]
  | non =>
    refine ⟨g, ?_, .inl ⟨rfl, rfl⟩⟩
    simp only [sSeq_e, sIf_e, tOf_e, vOp_e, vVar_e, List.getElem?_cons_zero, List.getElem?_cons_succ, Res.bind, vC_e, isN_e, nonD_non, oR_some, bR_bl, sBind, cond_true, sRet_e, vIf_e, eq_str, useDo]
    cases k == 16 <;> rfl
  | _ =>
    exfalso
    unfold findD at hfd
    split at hfd <;> cases hfd
theorem use_ok {p : Nat} (hp : p < P) {k : Nat} {a b i : Int} {rest : List D} (ha : 0 ≤ a ∧ a < 4) (hb : 0 ≤ b ∧ b < 8) (hi : 0 ≤ i ∧ i < 2) (hk : k = 15 ∧ rest = [] ∨ (k = 16 ∧ ∃ v, rest = [v]) ∨ k = 17 ∧ ∃ o v, rest = [o, v] ∧ pud 5 o = true) (hh5 : ∀ v ∈ held, pud 5 v = true)
    (hf : ∀ f, findD (rows p) a b (!(k == 15)) = .int f → 0 ≤ 1 + (P : Int) + 32 + 2 * f + i ∧ 1 + (P : Int) + 32 + 2 * f + i < held.length) (hl : log.length < 99999) :
    ∃ g' y, m_Memory_access [.ref m, .int (p : Int), .tup (.str k :: .int a :: .int b :: .int i :: rest)] g = .ok (.tup [(useDo held k (findD (rows p) a b (!(k == 15))) P i rest).1, .int (cnt + 1)]) g' ∧ MC g' m s h r (P : Int) N B (cnt + 1) (refsF P bA) (refsF P xA) (useDo held k (findD (rows p) a b (!(k == 15))) P i rest).2 (log ++ [y]) ∧ y = .tup [.int (cnt + 1), .int (p : Int), .tup (.str k :: .int a :: .int b :: .int i :: rest)] ∧
      MX g' P bA xA yA ld rows lets St ∧ Rest g g' m h r P bA xA yA ∧ g.length ≤ g'.length := by
  have hk2 : k = 14 ∧ (D.int i :: rest).length = 0 ∨ (k = 15 ∧ (D.int i :: rest).length = 1 ∨ k = 16 ∧ (D.int i :: rest).length = 2 ∨ k = 17 ∧ (D.int i :: rest).length = 3) := by
    rcases hk with ⟨rfl, rfl⟩ | ⟨rfl, v, rfl⟩ | ⟨rfl, o, v, rfl, _⟩
    · exact .inr (.inl ⟨rfl, rfl⟩)
    · exact .inr (.inr (.inl ⟨rfl, rfl⟩))
    · exact .inr (.inr (.inr ⟨rfl, rfl⟩))
  have hc := M.chk_page (p := (p : Int)) (k := k) (a := a) (b := b) (rest := .int i :: rest) (by omega) (by omega) hk2 (M.page_ok ha hb (.inr ⟨i, rest, rfl, hi.1, hi.2⟩))
  have k12 : (k == 12) = false := by rcases hk with ⟨rfl, _⟩ | ⟨rfl, _⟩ | ⟨rfl, _⟩ <;> rfl
  have M1 : MC (rowG g m s h r cnt (refsF P bA) (refsF P xA) log (.tup [.int (cnt + 1), .int (p : Int), .tup (.str k :: .int a :: .int b :: .int i :: rest)])) m s h r (P : Int) N B (cnt + 1) (refsF P bA) (refsF P xA) held (log ++ [.tup [.int (cnt + 1), .int (p : Int), .tup (.str k :: .int a :: .int b :: .int i :: rest)]]) := M.row hl rfl
  have X1 := row_mx M X hh hr (cnt := cnt) (y := .tup [.int (cnt + 1), .int (p : Int), .tup (.str k :: .int a :: .int b :: .int i :: rest)])
  have acc := fun {res g' c'} => M.acc_of (k := k) (rest := .int a :: .int b :: .int i :: rest) hc k12 hl (res := res) (g' := g') (c' := c')
  have rl := row_len (g := g) (m := m) (s := s) (h := h) (r := r) (cnt := cnt) (bs := refsF P bA) (xs := refsF P xA) (log := log) (y := .tup [.int (cnt + 1), .int (p : Int), .tup (.str k :: .int a :: .int b :: .int i :: rest)])
  have rf := fun {j} => row_fr (g := g) (m := m) (s := s) (h := h) (r := r) (cnt := cnt) (bs := refsF P bA) (xs := refsF P xA) (log := log) (y := .tup [.int (cnt + 1), .int (p : Int), .tup (.str k :: .int a :: .int b :: .int i :: rest)]) (i := j)
  generalize hG : rowG g m s h r cnt (refsF P bA) (refsF P xA) log (.tup [.int (cnt + 1), .int (p : Int), .tup (.str k :: .int a :: .int b :: .int i :: rest)]) = g1 at *
  obtain ⟨g2, run, hg2⟩ := use_to M1 X1 hh hr hp hk hh5 hf
  have ul : (useDo held k (findD (rows p) a b (!(k == 15))) P i rest).2.length = held.length := by
    unfold useDo
    split
    · split
      · rfl
      · simp
      · cases deq _ _ <;> simp
      · rfl
    · rfl
  have M2 : MC g2 m s h r (P : Int) N B (cnt + 1) (refsF P bA) (refsF P xA) (useDo held k (findD (rows p) a b (!(k == 15))) P i rest).2 (log ++ [.tup [.int (cnt + 1), .int (p : Int), .tup (.str k :: .int a :: .int b :: .int i :: rest)]]) := by
    rcases hg2 with ⟨rfl, e⟩ | rfl
    · rw [e]
      exact M1
    · exact M1.put (by rw [ul]; exact M.hl)
  have X2 : MX g2 P bA xA yA ld rows lets St := by
    rcases hg2 with ⟨rfl, e⟩ | rfl
    · exact X1
    · exact X1.at_ hh
  have hres : m_Memory_result [.ref m, .int (p : Int), .tup (.str k :: .int a :: .int b :: .int i :: rest)] g1 = .ok (useDo held k (findD (rows p) a b (!(k == 15))) P i rest).1 g2 := by
    show endM (b_Memory_result [some (.ref m), some (.int (p : Int)), some (.tup (.str k :: .int a :: .int b :: .int i :: rest)), none, none] g1) = _
    have um := M1.meth (nm := 34) (tbl := [(5, m_Memory_use)]) (o := vVar 0) (ms := aCons (vVar 1) (aCons (vVar 2) aNil)) (e := [some (.ref m), some (.int (p : Int)), some (.tup (.str k :: .int a :: .int b :: .int i :: rest)), some (.str k), none]) (g2 := g1) rfl rfl rfl rfl
    rw [run] at um
    unfold b_Memory_result c_Memory_result_7 c_Memory_result_6 c_Memory_result_5 c_Memory_result_4 c_Memory_result_1
    have tt : inD false g1 (.str k) (.tup [.str 9, .str 10, .str 11]) = some (.bl false) := by rcases hk with ⟨rfl, _⟩ | ⟨rfl, _⟩ | ⟨rfl, _⟩ <;> rfl
    have k13 : (k == 13) = false := by rcases hk with ⟨rfl, _⟩ | ⟨rfl, _⟩ | ⟨rfl, _⟩ <;> rfl
    have k14 : (k == 14) = false := by rcases hk with ⟨rfl, _⟩ | ⟨rfl, _⟩ | ⟨rfl, _⟩ <;> rfl
    simp only [sSeq_e, sAsg_e, vOp_e, vVar_e, List.getElem?_cons_zero, List.getElem?_cons_succ, Res.bind, vC_e, ixD_tup, at0, oR_some, sBind, List.set, sIf_e, tOf_e, vTup_s, aCons_e, aNil_e, (show okL [D.str 9, .str 10, .str 11].length = true from rfl), tt, bR_bl, cond_false, sNx_e, eq_str, k12, k13, k14, sRet_e, um, endM_rt]
  refine ⟨g2, _, acc hres M2.count_, M2, rfl, X2, fun j hj i1 i2 i3 i4 => ?_, ?_⟩
  · rcases hg2 with ⟨rfl, e⟩ | rfl
    · exact rf i1 i3
    · rw [List.getElem?_set_ne (Ne.symm i2)]
      exact rf i1 i3
  · rcases hg2 with ⟨rfl, e⟩ | rfl
    · omega
    · rw [List.length_set]
      omega
theorem send_acc {p q : Nat} (hp : p < P) (hq : q < P) {x : Lt} (hx : m_is_letter [letD x] g = .ok (.bl true) g) (hL : (lets q ++ [x]).length ≤ 900) (hl : log.length < 99999) :
    ∃ g' y, m_Memory_access [.ref m, .int (p : Int), .tup [.str 12, .int (q : Int), letD x]] g = .ok (.tup [.non, .int (cnt + 1)]) g' ∧ MC g' m s h r (P : Int) N B (cnt + 1) (refsF P bA) (refsF P xA) held (log ++ [y]) ∧ y = .tup [.int (cnt + 1), .int (p : Int), .tup [.str 12, .int (q : Int), letD x]] ∧
      MX g' P bA xA yA ld rows (fset lets q (lets q ++ [x])) St ∧ Rest g g' m h r P bA xA yA ∧ g.length ≤ g'.length := by
  have w : m_is_within [.int (p : Int), .int 0, .int ((P : Int) - 1)] g = .ok (.bl true) g := within_ok (by omega) (by omega)
  have w2 : m_is_within [.int (q : Int), .int 0, .int ((P : Int) - 1)] g = .ok (.bl true) g := within_ok (by omega) (by omega)
  have hc : m_Memory_check_request [.ref m, .int (p : Int), .tup [.str 12, .int (q : Int), letD x]] g = .ok .non g := by
    show endM (b_Memory_check_request [some (.ref m), some (.int (p : Int)), some (.tup [.str 12, .int (q : Int), letD x]), none] g) = _
    unfold b_Memory_check_request c_Memory_check_request_3 c_Memory_check_request_2 c_Memory_check_request_1
    simp [M.sizes_, M.procs, w, w2, at0, at1, vDGet, isDc, dcG, dicG, ne_int, eq_int, vTup_s, okL_s, inD, sqD, eq_str, ne_str]
  have sd := send_ok (x := x) (X.x q hq) (X.y q hq) (by have := X.ll q hq; omega) hx
  have yq := X.y q hq
  have ny := (X.ns q hq).2.2
  have M1 : MC (g.set (yA q) (.lst ((lets q ++ [x]).map letD))) m s h r (P : Int) N B cnt (refsF P bA) (refsF P xA) held log := M.out (fun e => by rw [e, M.mo] at yq; cases yq) (fun e => by rw [e, M.so] at yq; cases yq) (fun e => ny (by rw [e]; exact hh)) (fun e => ny (by rw [e]; exact hr))
  have X1 := X.send hq hL
  have a := M.meth (nm := 29) (tbl := [(5, m_Memory_check_request)]) (o := vVar 0) (ms := aCons (vVar 1) (aCons (vVar 2) aNil)) (e := [some (.ref m), some (.int (p : Int)), some (.tup [.str 12, .int (q : Int), letD x])]) (g2 := g) rfl rfl rfl rfl
  rw [hc] at a
  have sm := meth_e (nm := 12) (tbl := [(3, m_Box_send)]) (o := vOp ixD (vFld [5] 8 (vVar 0)) (vOp ixD (vVar 2) (vC (.int 1)))) (ms := aCons (vOp ixD (vVar 2) (vC (.int 2))) aNil) (e := [some (.ref m), some (.int (p : Int)), some (.tup [.str 12, .int (q : Int), letD x])]) (g := g) (g2 := g) (ds := [letD x]) (by simp [M.boxs, at1, refs_at hq]) (X.x q hq) rfl rfl (by simp [at2])
  rw [sd] at sm
  have lg1 : (g.set (yA q) (.lst ((lets q ++ [x]).map letD))).length = g.length := by simp
  have fr1 : ∀ i, i ≠ yA q → (g.set (yA q) (.lst ((lets q ++ [x]).map letD)))[i]? = g[i]? := fun i e => List.getElem?_set_ne (Ne.symm e)
  generalize hG : g.set (yA q) (.lst ((lets q ++ [x]).map letD)) = g1 at *
  have M2 : MC (rowG g1 m s h r cnt (refsF P bA) (refsF P xA) log (.tup [.int (cnt + 1), .int (p : Int), .tup [.str 12, .int (q : Int), letD x]])) m s h r (P : Int) N B (cnt + 1) (refsF P bA) (refsF P xA) held (log ++ [.tup [.int (cnt + 1), .int (p : Int), .tup [.str 12, .int (q : Int), letD x]]]) := M1.row hl rfl
  have X2 := row_mx M1 X1 hh hr (cnt := cnt) (y := .tup [.int (cnt + 1), .int (p : Int), .tup [.str 12, .int (q : Int), letD x]])
  have hres : m_Memory_result [.ref m, .int (p : Int), .tup [.str 12, .int (q : Int), letD x]] (rowG g1 m s h r cnt (refsF P bA) (refsF P xA) log (.tup [.int (cnt + 1), .int (p : Int), .tup [.str 12, .int (q : Int), letD x]])) = .ok .non (rowG g1 m s h r cnt (refsF P bA) (refsF P xA) log (.tup [.int (cnt + 1), .int (p : Int), .tup [.str 12, .int (q : Int), letD x]])) := by
    generalize rowG g1 m s h r cnt (refsF P bA) (refsF P xA) log (.tup [.int (cnt + 1), .int (p : Int), .tup [.str 12, .int (q : Int), letD x]]) = g2
    show endM (b_Memory_result [some (.ref m), some (.int (p : Int)), some (.tup [.str 12, .int (q : Int), letD x]), none, none] g2) = _
    unfold b_Memory_result c_Memory_result_7 c_Memory_result_6
    have tt : inD false g2 (.str 12) (.tup [.str 9, .str 10, .str 11]) = some (.bl false) := rfl
    simp [at0, vTup_s, okL_s, tt, eq_str]
  have a2 := M1.acc2 (p := (p : Int)) (rq := .tup [.str 12, .int (q : Int), letD x]) hl hres M2.count_
  refine ⟨_, _, ?_, M2, rfl, X2, fun i hi i1 i2 i3 i4 => ?_, ?_⟩
  · show endM (b_Memory_access [some (.ref m), some (.int (p : Int)), some (.tup [.str 12, .int (q : Int), letD x])] g) = _
    unfold b_Memory_access c_Memory_access_4
    simp only [sSeq_e, sDrop_e, a, sBind, sIf_e, tOf_e, vOp_e, vVar_e, List.getElem?_cons_zero, List.getElem?_cons_succ, Res.bind, vC_e, ixD_tup, at0, oR_some, eq_str, (show ((12 : Nat) == 12) = true from rfl), bR_bl, cond_true, sm, a2]
    rfl
  · rw [row_fr i1 i3]
    exact fr1 i (i4 q hq).2.2
  · rw [row_len]
    omega
theorem chk_take {p : Nat} (hp : p < P) : m_Memory_check_request [.ref m, .int (p : Int), .tup [.str 13]] g = .ok .non g := by
  have w : m_is_within [.int (p : Int), .int 0, .int ((P : Int) - 1)] g = .ok (.bl true) g := within_ok (by omega) (by omega)
  show endM (b_Memory_check_request [some (.ref m), some (.int (p : Int)), some (.tup [.str 13]), none] g) = _
  unfold b_Memory_check_request c_Memory_check_request_3 c_Memory_check_request_2 c_Memory_check_request_1
  simp [M.sizes_, M.procs, w, at0, vDGet, isDc, dcG, dicG, ne_int, eq_int, vTup_s, okL_s, inD, sqD, eq_str, ne_str]
theorem take_no {p : Nat} (hp : p < P) (hL : lets p = []) (hl : log.length < 99999) :
    ∃ g' y, m_Memory_access [.ref m, .int (p : Int), .tup [.str 13]] g = .ok (.tup [.bl false, .int (cnt + 1)]) g' ∧ MC g' m s h r (P : Int) N B (cnt + 1) (refsF P bA) (refsF P xA) held (log ++ [y]) ∧ y = .tup [.int (cnt + 1), .int (p : Int), .tup [.str 13]] ∧
      MX g' P bA xA yA ld rows lets St ∧ Rest g g' m h r P bA xA yA ∧ g.length ≤ g'.length := by
  have hc := chk_take M X hh hr hp
  have M1 : MC (rowG g m s h r cnt (refsF P bA) (refsF P xA) log (.tup [.int (cnt + 1), .int (p : Int), .tup [.str 13]])) m s h r (P : Int) N B (cnt + 1) (refsF P bA) (refsF P xA) held (log ++ [.tup [.int (cnt + 1), .int (p : Int), .tup [.str 13]]]) := M.row hl rfl
  have X1 := row_mx M X hh hr (cnt := cnt) (y := .tup [.int (cnt + 1), .int (p : Int), .tup [.str 13]])
  have hres : m_Memory_result [.ref m, .int (p : Int), .tup [.str 13]] (rowG g m s h r cnt (refsF P bA) (refsF P xA) log (.tup [.int (cnt + 1), .int (p : Int), .tup [.str 13]])) = .ok (.bl false) (rowG g m s h r cnt (refsF P bA) (refsF P xA) log (.tup [.int (cnt + 1), .int (p : Int), .tup [.str 13]])) := by
    generalize rowG g m s h r cnt (refsF P bA) (refsF P xA) log (.tup [.int (cnt + 1), .int (p : Int), .tup [.str 13]]) = g1 at *
    have tn := take_nil (X1.x p hp) (by have := X1.y p hp; rw [hL] at this; exact this)
    have tk : m_Memory_take [.ref m, .int (p : Int)] g1 = .ok (.bl false) g1 := by
      show endM (b_Memory_take [some (.ref m), some (.int (p : Int)), none, none, none] g1) = _
      have bm := meth_e (nm := 13) (tbl := [(3, m_Box_take)]) (o := vOp ixD (vFld [5] 8 (vVar 0)) (vVar 1)) (ms := aNil) (e := [some (.ref m), some (.int (p : Int)), none, none, none]) (g := g1) (g2 := g1) (ds := []) (by simp [M1.boxs, refs_at hp]) (X1.x p hp) rfl rfl rfl
      rw [tn] at bm
      unfold b_Memory_take c_Memory_take_5
      simp [bm]
    show endM (b_Memory_result [some (.ref m), some (.int (p : Int)), some (.tup [.str 13]), none, none] g1) = _
    have um := M1.meth (nm := 13) (tbl := [(5, m_Memory_take)]) (o := vVar 0) (ms := aCons (vVar 1) aNil) (e := [some (.ref m), some (.int (p : Int)), some (.tup [.str 13]), some (.str 13), none]) (g2 := g1) rfl rfl rfl rfl
    rw [tk] at um
    unfold b_Memory_result c_Memory_result_7 c_Memory_result_6 c_Memory_result_5
    have tt : inD false g1 (.str 13) (.tup [.str 9, .str 10, .str 11]) = some (.bl false) := rfl
    simp [at0, vTup_s, okL_s, tt, eq_str, um]
  refine ⟨_, _, M.acc_of (k := 13) (rest := []) hc rfl hl hres M1.count_, M1, rfl, X1, fun i hi i1 i2 i3 i4 => row_fr i1 i3, Nat.le_of_eq row_len.symm⟩
theorem take_yes {p : Nat} (hp : p < P) {x : Lt} {L : List Lt} (hL : lets p = x :: L) (hS : ∀ i, St i → i < g.length) (hlen : 1 + P ≤ held.length) (hl : log.length < 99999) :
    ∃ g' y ld' yA', m_Memory_access [.ref m, .int (p : Int), .tup [.str 13]] g = .ok (.tup [.bl true, .int (cnt + 1)]) g' ∧ MC g' m s h r (P : Int) N B (cnt + 1) (refsF P bA) (refsF P xA) (held.set (1 + p) (.int x.1)) (log ++ [y]) ∧ y = .tup [.int (cnt + 1), .int (p : Int), .tup [.str 13]] ∧
      MX g' P bA xA yA' ld' (fset rows p ((rows p).filter (keepB x.2))) (fset lets p L) St ∧ Rest g g' m h r P bA xA yA ∧ g.length ≤ g'.length := by
  have hc := chk_take M X hh hr hp
  have M1 : MC (rowG g m s h r cnt (refsF P bA) (refsF P xA) log (.tup [.int (cnt + 1), .int (p : Int), .tup [.str 13]])) m s h r (P : Int) N B (cnt + 1) (refsF P bA) (refsF P xA) held (log ++ [.tup [.int (cnt + 1), .int (p : Int), .tup [.str 13]]]) := M.row hl rfl
  have X1 := row_mx M X hh hr (cnt := cnt) (y := .tup [.int (cnt + 1), .int (p : Int), .tup [.str 13]])
  have acc := fun {res g' c'} => M.acc_of (k := 13) (rest := []) hc rfl hl (res := res) (g' := g') (c' := c')
  have rl := row_len (g := g) (m := m) (s := s) (h := h) (r := r) (cnt := cnt) (bs := refsF P bA) (xs := refsF P xA) (log := log) (y := .tup [.int (cnt + 1), .int (p : Int), .tup [.str 13]])
  have rf := fun {j} => row_fr (g := g) (m := m) (s := s) (h := h) (r := r) (cnt := cnt) (bs := refsF P bA) (xs := refsF P xA) (log := log) (y := .tup [.int (cnt + 1), .int (p : Int), .tup [.str 13]]) (i := j)
  generalize hG : rowG g m s h r cnt (refsF P bA) (refsF P xA) log (.tup [.int (cnt + 1), .int (p : Int), .tup [.str 13]]) = g1 at *
  have hLl : L.length ≤ 900 := by
    have := X.ll p hp
    rw [hL, List.length_cons] at this
    omega
  have tn := take_cons (X1.x p hp) (by have := X1.y p hp; rw [hL] at this; exact this)
  obtain ⟨n1, n2, n3, n4⟩ := ins_ne M1 X1 hh hr (X1.x p hp) (.inr rfl)
  obtain ⟨b1, b2, b3, b4⟩ := ins_ne M1 X1 hh hr (X1.b p hp) (.inl rfl)
  have lt : ∀ {i : Nat} {o : Ob}, g1[i]? = some o → i < g1.length := fun e => (List.getElem?_eq_some_iff.mp e).1
  have f2 : ∀ i, i < g1.length → i ≠ xA p → ((g1 ++ [Ob.lst (L.map letD)]).set (xA p) (.ins 3 [(0, .ref g1.length)]))[i]? = g1[i]? := fun i hi e => by
    rw [List.getElem?_set_ne (Ne.symm e), List.getElem?_append_left hi]
  have l2 : ((g1 ++ [Ob.lst (L.map letD)]).set (xA p) (.ins 3 [(0, .ref g1.length)])).length = g1.length + 1 := by simp
  have M2 : MC ((g1 ++ [Ob.lst (L.map letD)]).set (xA p) (.ins 3 [(0, .ref g1.length)])) m s h r (P : Int) N B (cnt + 1) (refsF P bA) (refsF P xA) held (log ++ [.tup [.int (cnt + 1), .int (p : Int), .tup [.str 13]]]) := M1.le (f2 m (lt M1.mo) (Ne.symm n1)) (f2 s (lt M1.so) (Ne.symm n2)) (f2 h (lt M1.ho) (Ne.symm n3)) (f2 r (lt M1.ro) (Ne.symm n4))
  have X2 := X1.take hp hLl (fun e => by have := hS _ e; omega)
  have bx : bA p ≠ xA p := fun e => by
    have := X1.b p hp
    rw [e, X1.x p hp] at this
    cases this
  generalize hG2 : (g1 ++ [Ob.lst (L.map letD)]).set (xA p) (.ins 3 [(0, .ref g1.length)]) = g2 at *
  have dr := drop_ok (P := x.2) (tu := true) ⟨X2.b p hp, X2.l p hp⟩ (by have := X2.rl p hp; omega)
  have hbl := lt (X1.b p hp)
  have lf := List.length_filter_le (keepB x.2) (rows p)
  have f3 : ∀ i, i < g2.length → i ≠ bA p → ((g2 ++ [Ob.lst (((rows p).filter (keepB x.2)).map rowD)]).set (bA p) (.ins 2 [(0, .ref g2.length)]))[i]? = g2[i]? := fun i hi e => by
    rw [List.getElem?_set_ne (Ne.symm e), List.getElem?_append_left hi]
  have l3 : ((g2 ++ [Ob.lst (((rows p).filter (keepB x.2)).map rowD)]).set (bA p) (.ins 2 [(0, .ref g2.length)])).length = g2.length + 1 := by simp
  have lt2 : ∀ {i : Nat} {o : Ob}, g2[i]? = some o → i < g2.length := fun e => (List.getElem?_eq_some_iff.mp e).1
  have M3 : MC ((g2 ++ [Ob.lst (((rows p).filter (keepB x.2)).map rowD)]).set (bA p) (.ins 2 [(0, .ref g2.length)])) m s h r (P : Int) N B (cnt + 1) (refsF P bA) (refsF P xA) held (log ++ [.tup [.int (cnt + 1), .int (p : Int), .tup [.str 13]]]) := M2.le (f3 m (lt2 M2.mo) (Ne.symm b1)) (f3 s (lt2 M2.so) (Ne.symm b2)) (f3 h (lt2 M2.ho) (Ne.symm b3)) (f3 r (lt2 M2.ro) (Ne.symm b4))
  have X3 : MX ((g2 ++ [Ob.lst (((rows p).filter (keepB x.2)).map rowD)]).set (bA p) (.ins 2 [(0, .ref g2.length)])) P bA xA (fset yA p g1.length) (fset ld p (.ref g2.length)) (fset rows p ((rows p).filter (keepB x.2))) (fset lets p L) St := by
    refine X2.buf hp ?_ ?_ f3 (fun a ha => ?_) (by have := X.rl p hp; omega)
    · rw [List.getElem?_set_self (by simp; omega)]
    · refine lsD_ref ?_
      rw [List.getElem?_set_ne (by omega), get_snoc']
    · cases ha
      refine ⟨fun e => by have := hS _ e; omega, fun q hq e => ?_⟩
      have := lt2 (X2.y q hq)
      omega
  generalize hG3 : (g2 ++ [Ob.lst (((rows p).filter (keepB x.2)).map rowD)]).set (bA p) (.ins 2 [(0, .ref g2.length)]) = g3 at *
  have hix : ixN held.length (1 + (p : Int)) = some (1 + p) := by
    have := hlen
    unfold ixN
    have h0 : 0 ≤ 1 + (p : Int) := by omega
    simp only [h0, if_true]
    rw [if_pos (by omega)]
    congr 1
  have sb : sSub (vFld [5] 1 (vVar 0)) (vMeth 26 [(4, m_Sizes_acknowledge)] (vFld [5] 2 (vVar 0)) (aCons (vVar 1) aNil)) (vVar 3) [some (.ref m), some (.int (p : Int)), some (letD x), some (.int x.1), some (.tup (x.2.map pairD))] g3 = .nx [some (.ref m), some (.int (p : Int)), some (letD x), some (.int x.1), some (.tup (x.2.map pairD))] (g3.set h (.lst (held.set (1 + p) (.int x.1)))) := by
    have am := M3.smeth (nm := 26) (tbl := [(4, m_Sizes_acknowledge)]) (o := vFld [5] 2 (vVar 0)) (ms := aCons (vVar 1) aNil) (e := [some (.ref m), some (.int (p : Int)), some (letD x), some (.int x.1), some (.tup (x.2.map pairD))]) (g2 := g3) (ds := [.int (p : Int)]) (by simp [M3.sizes_]) rfl rfl rfl
    rw [M3.ack_ok] at am
    unfold sSub
    simp only [vVar_e, List.getElem?_cons_zero, List.getElem?_cons_succ, sBind, vUn_e, Res.bind, M3.held_, oR_some, am, M3.ho, hix]
  have M4 : MC (g3.set h (.lst (held.set (1 + p) (.int x.1)))) m s h r (P : Int) N B (cnt + 1) (refsF P bA) (refsF P xA) (held.set (1 + p) (.int x.1)) (log ++ [.tup [.int (cnt + 1), .int (p : Int), .tup [.str 13]]]) := M3.put (by rw [List.length_set]; exact M.hl)
  have X4 := X3.at_ (o := .lst (held.set (1 + p) (.int x.1))) hh
  have tk : m_Memory_take [.ref m, .int (p : Int)] g1 = .ok (.bl true) (g3.set h (.lst (held.set (1 + p) (.int x.1)))) := by
    show endM (b_Memory_take [some (.ref m), some (.int (p : Int)), none, none, none] g1) = _
    have bm := meth_e (nm := 13) (tbl := [(3, m_Box_take)]) (o := vOp ixD (vFld [5] 8 (vVar 0)) (vVar 1)) (ms := aNil) (e := [some (.ref m), some (.int (p : Int)), none, none, none]) (g := g1) (g2 := g1) (ds := []) (by simp [M1.boxs, refs_at hp]) (X1.x p hp) rfl rfl rfl
    rw [tn] at bm
    have dm := meth_e (nm := 23) (tbl := [(2, m_Buffer_drop)]) (o := vOp ixD (vFld [5] 7 (vVar 0)) (vVar 1)) (ms := aCons (vVar 4) aNil) (e := [some (.ref m), some (.int (p : Int)), some (letD x), some (.int x.1), some (.tup (x.2.map pairD))]) (g := g2) (g2 := g2) (ds := [.tup (x.2.map pairD)]) (by simp [M2.bufs, refs_at hp]) (X2.b p hp) rfl rfl rfl
    have dr2 : m_Buffer_drop [.ref (bA p), .tup (x.2.map pairD)] g2 = .ok .non g3 := dr
    rw [dr2] at dm
    have tg : sTgt (vVar 2) (gT 2 (gsC (gN 3) (gsC (gN 4) gsN))) [some (.ref m), some (.int (p : Int)), some (letD x), none, none] g2 = .nx [some (.ref m), some (.int (p : Int)), some (letD x), some (.int x.1), some (.tup (x.2.map pairD))] g2 := rfl
    have nx : nonD (letD x) = false := rfl
    unfold b_Memory_take c_Memory_take_5 c_Memory_take_4 c_Memory_take_3 c_Memory_take_2 c_Memory_take_1
    rw [sSeq_e]
    simp only [sAsg_e, bm, sBind, List.set]
    rw [sSeq_e]
    simp only [sIf_e, tOf_e, vOp_e, vVar_e, List.getElem?_cons_zero, List.getElem?_cons_succ, Res.bind, vC_e, isN_e, nx, oR_some, bR_bl, sBind, cond_false, sNx_e]
    rw [sSeq_e, tg]
    simp only [sSeq_e, sDrop_e, dm, sBind, sb, sRet_e, vC_e, endM_rt]
  have hres : m_Memory_result [.ref m, .int (p : Int), .tup [.str 13]] g1 = .ok (.bl true) (g3.set h (.lst (held.set (1 + p) (.int x.1)))) := by
    show endM (b_Memory_result [some (.ref m), some (.int (p : Int)), some (.tup [.str 13]), none, none] g1) = _
    have um := M1.meth (nm := 13) (tbl := [(5, m_Memory_take)]) (o := vVar 0) (ms := aCons (vVar 1) aNil) (e := [some (.ref m), some (.int (p : Int)), some (.tup [.str 13]), some (.str 13), none]) (g2 := g1) rfl rfl rfl rfl
    rw [tk] at um
    unfold b_Memory_result c_Memory_result_7 c_Memory_result_6 c_Memory_result_5
    have tt : inD false g1 (.str 13) (.tup [.str 9, .str 10, .str 11]) = some (.bl false) := rfl
    simp [at0, vTup_s, okL_s, tt, eq_str, um]
  refine ⟨_, _, _, _, acc hres M4.count_, M4, rfl, X4, fun i hi i1 i2 i3 i4 => ?_, ?_⟩
  · rw [List.getElem?_set_ne (Ne.symm i2), f3 i (by omega) (i4 p hp).1, f2 i (by omega) (i4 p hp).2.1]
    exact rf i1 i3
  · rw [List.length_set]
    omega
end
end

theorem keep1 {s p : Int} (r : Row) : (!deq (.tup [.int r.1, .int r.2.1]) (.tup [.int s, .int p])) = keepB [(s, p)] r := by
  simp [keepB, Bool.beq_comm (a := r.1), BEq.comm (a := r.1), BEq.comm (a := r.2.1), bne]
theorem lawput_ok {g : G} {L : List Row} {s p : Int} {w : Wd} (hl : L.length ≤ 2) (hw : w.ok) : m__law_put [.lst (L.map rowD), .int s, .int p, w.d] g = .ok (.lst ((putL L s p w).map rowD)) g := by
  have lf := List.length_filter_le (keepB [(s, p)]) L
  have hlc := lcR_pure (gm := gN 4) (t := tOf (vOp neD (vSl (vVar 4) none (some (vC (.int 2)))) (vTup (aCons (vVar 1) (aCons (vVar 2) aNil))))) (m := vVar 4) (e := [some (.lst (L.map rowD)), some (.int s), some (.int p), some w.d, none]) (g := g) (s := .vals (L.map rowD)) rowD (keepB [(s, p)]) rowD L rfl (okL_of (by omega)) (fun r hr => by
    refine ⟨_, rfl, ?_, fun _ => rfl⟩
    have et : vTup (aCons (vVar 1) (aCons (vVar 2) aNil)) [some (.lst (L.map rowD)), some (.int s), some (.int p), some w.d, some (rowD r)] g = .ok (.tup [.int s, .int p]) g := vTup_e (by simp) rfl
    have en : neD g (.tup [.int r.1, .int r.2.1]) (.tup [.int s, .int p]) = some (.bl (keepB [(s, p)] r)) := by
      rw [neD_e (by simp), ← keep1]
      rfl
    simp [vSl, slD_row, et, en])
  show endM (b__law_put [some (.lst (L.map rowD)), some (.int s), some (.int p), some w.d, none] g) = _
  unfold b__law_put c__law_put_3 c__law_put_2 c__law_put_1
  have hi : iLst (vVar 0) [some (.lst (L.map rowD)), some (.int s), some (.int p), some w.d, none] g = .ok (.vals (L.map rowD)) g := rfl
  simp only [sSeq_e, sAsg_e, vLc_e, hi, Res.bind, wipeE_cons, wipeE_nil, List.set, hlc, sBind]
  have fin : ∀ L2 : List Row, L2.length ≤ 3 → endM (match sIf (tOf (vOp gtD (vCB lenD (aCons (vVar 0) aNil)) (vC (.int 2)))) (sAsg 0 (vSl (vVar 0) (some (vC (.int 1))) none)) sNx [some (.lst (L2.map rowD)), some (.int s), some (.int p), some w.d, none] g with
      | .nx e' g' => sRet (vVar 0) e' g'
      | r => r) = .ok (.lst ((if 2 < L2.length then L2.drop 1 else L2).map rowD)) g := fun L2 h3 => by
    by_cases h2 : 2 < L2.length
    · have sl : slD g (.lst (L2.map rowD)) (some 1) none = some (.lst ((L2.drop 1).map rowD)) := by
        show some (D.lst (cutD (L2.map rowD) (some 1) none)) = _
        rw [cut1_rows L2 h2]
      have hd : decide ((2 : Int) < (L2.length : Int)) = true := decide_eq_true (by omega)
      simp only [sIf_e, tOf_e, vOp_e, vCB_e, aCons_e, vVar_e, List.getElem?_cons_zero, Res.bind, aNil_e, lenD_lst, oR_some, List.length_map, vC_e, icD_int, hd, bR_bl, sBind, cond_true, sAsg_e, vSl, sl, List.set, sRet_e, endM_rt, h2, if_true]
    · have hd : decide ((2 : Int) < (L2.length : Int)) = false := decide_eq_false (by omega)
      simp only [sIf_e, tOf_e, vOp_e, vCB_e, aCons_e, vVar_e, List.getElem?_cons_zero, Res.bind, aNil_e, lenD_lst, oR_some, List.length_map, vC_e, icD_int, hd, bR_bl, sBind, cond_false, sNx_e, sRet_e, endM_rt, h2, if_false]
  cases w with
  | frame f v =>
    have ix0 : ixD g (Wd.frame f v).d (.int 0) = some (.str 18) := rfl
    have e0 : eqD g (.str 18) (.str 18) = some (.bl true) := rfl
    have n0 : nonD (Wd.frame f v).d = false := rfl
    have ev : vTup (aCons (vVar 1) (aCons (vVar 2) (aCons (vOp ixD (vVar 3) (vC (.int 1))) (aCons (vOp ixD (vVar 3) (vC (.int 2))) aNil)))) [some (.lst ((L.filter (keepB [(s, p)])).map rowD)), some (.int s), some (.int p), some (Wd.frame f v).d, none] g = .ok (rowD (s, p, f, v)) g := by
      refine vTup_e (ds := [.int s, .int p, .int f, .bl v]) ?_ rfl
      have i1 : ixD g (Wd.frame f v).d (.int 1) = some (.int f) := rfl
      have i2 : ixD g (Wd.frame f v).d (.int 2) = some (.bl v) := rfl
      simp [i1, i2]
    have ad : addD g (.lst ((L.filter (keepB [(s, p)])).map rowD)) (.lst [rowD (s, p, f, v)]) = some (.lst ((L.filter (keepB [(s, p)]) ++ [(s, p, f, v)]).map rowD)) := by
      unfold addD
      simp only [lsD_lst, List.length_map, okL_of (show (L.filter (keepB [(s, p)])).length + [rowD (s, p, f, v)].length ≤ 16777216 by simp; omega), List.map_append, List.map_cons, List.map_nil]
    have el : vLst (aCons (vTup (aCons (vVar 1) (aCons (vVar 2) (aCons (vOp ixD (vVar 3) (vC (.int 1))) (aCons (vOp ixD (vVar 3) (vC (.int 2))) aNil))))) aNil) [some (.lst ((L.filter (keepB [(s, p)])).map rowD)), some (.int s), some (.int p), some (Wd.frame f v).d, none] g = .ok (.lst [rowD (s, p, f, v)]) g := vLst_e (by simp [ev]) rfl
    have := fin (L.filter (keepB [(s, p)]) ++ [(s, p, f, v)]) (by simp; omega)
    simp only [sIf_e, tAnd_e, tOf_e, vOp_e, vVar_e, List.getElem?_cons_zero, List.getElem?_cons_succ, Res.bind, vC_e, notN_e, n0, Bool.not_false, oR_some, bR_bl, cond_true, ix0, e0, sBind, sAsg_e, el, ad, List.set] at this ⊢
    exact this
  | non =>
    have n0 : nonD Wd.non.d = true := rfl
    have := fin (L.filter (keepB [(s, p)])) (by omega)
    simp only [sIf_e, tAnd_e, tOf_e, vOp_e, vVar_e, List.getElem?_cons_zero, List.getElem?_cons_succ, Res.bind, vC_e, notN_e, n0, Bool.not_true, oR_some, bR_bl, cond_false, sBind, sNx_e] at this ⊢
    exact this
  | other ds n =>
    have n0 : nonD (Wd.other ds n).d = false := rfl
    have ix0 : ixD g (Wd.other ds n).d (.int 0) = some (.str n) := by
      show atI (D.str n :: ds) 0 = _
      exact atI_nat (j := 0) rfl
    have e0 : eqD g (.str n) (.str 18) = some (.bl false) := by
      rw [eqD_e (by simp)]
      have : n ≠ 18 := hw
      simp [this]
    have := fin (L.filter (keepB [(s, p)])) (by omega)
    simp only [sIf_e, tAnd_e, tOf_e, vOp_e, vVar_e, List.getElem?_cons_zero, List.getElem?_cons_succ, Res.bind, vC_e, notN_e, n0, Bool.not_false, oR_some, bR_bl, cond_true, ix0, e0, cond_false, sBind, sNx_e] at this ⊢
    exact this
theorem lawframe_ok {g : G} {L : List Row} {s p : Int} {w : Bool} : m__law_frame [.lst (L.map rowD), .int s, .int p, .bl w] g = .ok (findD L s p w) g := by
  show endM (b__law_frame [some (.lst (L.map rowD)), some (.int s), some (.int p), some (.bl w), none] g) = _
  unfold b__law_frame
  exact find_body (sc := .vals (L.map rowD)) rfl

/-! ### the requests that are drawn, and what they do -/
def Wd.ok4 : Wd → Prop
  | .other ds n => n ≠ 18 ∧ ∀ d ∈ ds, pud 3 d = true
  | .frame f _ => 0 ≤ f ∧ f < 4
  | .non => True
theorem Wd.ok4.ok {w : Wd} (h : w.ok4) : w.ok := by
  cases w with
  | other ds n => exact h.1
  | _ => trivial
theorem wd_pud {w : Wd} (h : w.ok4) : pud 5 w.d = true := by
  cases w with
  | other ds n =>
    simp only [Wd.d, pud_tup, List.all_cons, pud_str, Bool.true_and, List.all_eq_true]
    exact fun d hd => pud_le (by decide) (h.2 d hd)
  | _ => rfl
def wdOf : D → Wd
  | .tup (.str n :: ds) => (match n == 18, ds with
    | true, [.int f, .bl v] => .frame f v
    | _, _ => .other ds n)
  | _ => .non
theorem wdOf_d {w : Wd} (h : w.ok4) : wdOf w.d = w := by
  cases w with
  | non => rfl
  | frame f v => rfl
  | other ds n =>
    have hn : (n == 18) = false := beq_eq_false_iff_ne.mpr h.1
    simp only [Wd.d, wdOf, hn]
inductive Rq4 where
  | word (a b : Int) (w : Wd) | cell (j v : Int) | walk (a b : Int) | load (a b i : Int) | store (a b i v : Int) | change (a b i o v : Int) | send (q : Nat) (x : Lt) | take
def Rq4.d (P : Nat) : Rq4 → D
  | .word a b w => .tup [.str 10, .int (1 + (P : Int) + 8 * a + b), w.d]
  | .cell j v => .tup [.str 10, .int (33 + (P : Int) + j), .int v]
  | .walk a b => .tup [.str 14, .int a, .int b]
  | .load a b i => .tup [.str 15, .int a, .int b, .int i]
  | .store a b i v => .tup [.str 16, .int a, .int b, .int i, .int v]
  | .change a b i o v => .tup [.str 17, .int a, .int b, .int i, .int o, .int v]
  | .send q x => .tup [.str 12, .int (q : Int), letD x]
  | .take => .tup [.str 13]
def pgOk (a b : Int) : Prop := (0 ≤ a ∧ a < 4) ∧ 0 ≤ b ∧ b < 8
def Rq4.ok (P : Nat) : Rq4 → Prop
  | .word a b w => pgOk a b ∧ w.ok4
  | .cell j _ => 0 ≤ j ∧ j < 8
  | .walk a b => pgOk a b
  | .load a b i => pgOk a b ∧ 0 ≤ i ∧ i < 2
  | .store a b i _ => pgOk a b ∧ 0 ≤ i ∧ i < 2
  | .change a b i _ _ => pgOk a b ∧ 0 ≤ i ∧ i < 2
  | .send q x => q < P ∧ 1 ≤ x.1 ∧ 1 ≤ x.2.length ∧ x.2.length ≤ 10 ∧ x.2.all (fun q => okP q.1 q.2) = true
  | .take => True
structure S4 where
  held : List D
  rows : Nat → List Row
  lets : Nat → List Lt
def S4.use (S : S4) (P p k : Nat) (a b i : Int) (rest : List D) : D × S4 := ((useDo S.held k (findD (S.rows p) a b (!(k == 15))) P i rest).1, { S with held := (useDo S.held k (findD (S.rows p) a b (!(k == 15))) P i rest).2 })
def doR (P : Nat) (S : S4) (p : Nat) : Rq4 → D × S4
  | .word a b w => (.non, { S with held := S.held.set (1 + (P : Int) + 8 * a + b).toNat w.d })
  | .cell j v => (.non, { S with held := S.held.set (33 + (P : Int) + j).toNat (.int v) })
  | .walk a b => ((atI S.held (1 + (P : Int) + 8 * a + b)).getD .non, { S with rows := fset S.rows p (putL (S.rows p) a b (wdOf ((atI S.held (1 + (P : Int) + 8 * a + b)).getD .non))) })
  | .load a b i => S.use P p 15 a b i []
  | .store a b i v => S.use P p 16 a b i [.int v]
  | .change a b i o v => S.use P p 17 a b i [.int o, .int v]
  | .send q x => (.non, { S with lets := fset S.lets q (S.lets q ++ [x]) })
  | .take => (match S.lets p with
    | [] => (.bl false, S)
    | x :: L => (.bl true, ⟨S.held.set (1 + p) (.int x.1), fset S.rows p ((S.rows p).filter (keepB x.2)), fset S.lets p L⟩))
/-- what stays true -/
structure Ok4 (P n : Nat) (S : S4) : Prop where
  len : S.held.length = 52 + P
  pv : ∀ v ∈ S.held, pud 5 v = true
  wd : ∀ c : Nat, 1 + P ≤ c → c < 33 + P → ∃ w : Wd, w.ok4 ∧ S.held[c]? = some w.d
  fr : ∀ p, ∀ r ∈ S.rows p, 0 ≤ r.2.2.1 ∧ r.2.2.1 < 4
  rl : ∀ p, (S.rows p).length ≤ 2
  ll : ∀ p, (S.lets p).length ≤ n
theorem find_fr {L : List Row} {s p : Int} {w : Bool} {f : Int} (h : findD L s p w = .int f) (hL : ∀ r ∈ L, 0 ≤ r.2.2.1 ∧ r.2.2.1 < 4) : 0 ≤ f ∧ f < 4 := by
  unfold findD at h
  split at h
  · rename_i r hr
    cases h
    exact hL r (List.mem_of_find?_eq_some hr)
  · cases h
theorem Ok4.put {P n : Nat} {S : S4} (h : Ok4 P n S) {c : Nat} {v : D} (hv : pud 5 v = true) (hw : 1 + P ≤ c → c < 33 + P → ∃ w : Wd, w.ok4 ∧ v = w.d) : Ok4 P n { S with held := S.held.set c v } := by
  refine ⟨by simp [h.len], fun x hx => ?_, fun i h1 h2 => ?_, h.fr, h.rl, h.ll⟩
  · rcases List.mem_or_eq_of_mem_set hx with z | z
    · exact h.pv x z
    · rw [z]
      exact hv
  · by_cases e : i = c
    · subst e
      obtain ⟨w, w1, w2⟩ := hw h1 h2
      refine ⟨w, w1, ?_⟩
      rw [List.getElem?_set_self (by have := h.len; omega), w2]
    · rw [List.getElem?_set_ne (Ne.symm e)]
      exact h.wd i h1 h2
theorem putL_fr {L : List Row} {a b : Int} {w : Wd} (hL : ∀ r ∈ L, 0 ≤ r.2.2.1 ∧ r.2.2.1 < 4) (hw : w.ok4) : ∀ r ∈ putL L a b w, 0 ≤ r.2.2.1 ∧ r.2.2.1 < 4 := by
  have k : ∀ r ∈ L.filter (keepB [(a, b)]), 0 ≤ r.2.2.1 ∧ r.2.2.1 < 4 := fun r hr => hL r (List.mem_filter.mp hr).1
  have fin : ∀ L2 : List Row, (∀ r ∈ L2, 0 ≤ r.2.2.1 ∧ r.2.2.1 < 4) → ∀ r ∈ (if 2 < L2.length then L2.drop 1 else L2), 0 ≤ r.2.2.1 ∧ r.2.2.1 < 4 := fun L2 h2 r hr => by
    split at hr
    · exact h2 r (List.mem_of_mem_drop hr)
    · exact h2 r hr
  unfold putL
  cases w with
  | frame f v =>
    refine fin _ fun r hr => ?_
    rcases List.mem_append.mp hr with z | z
    · exact k r z
    · rw [List.mem_singleton.mp z]
      exact hw
  | non => exact fin _ k
  | other ds n => exact fin _ k
theorem use_ok4 {P n p k : Nat} {S : S4} (h : Ok4 P n S) {a b i : Int} {rest : List D} (hi : 0 ≤ i ∧ i < 2) (hr : rest.all (pud 5) = true) : Ok4 P n (S.use P p k a b i rest).2 ∧ pud 6 (S.use P p k a b i rest).1 = true := by
  unfold S4.use
  have idx : ∀ f, findD (S.rows p) a b (!(k == 15)) = .int f → 33 + P ≤ (1 + (P : Int) + 32 + 2 * f + i).toNat := fun f e => by
    have := find_fr e (h.fr p)
    omega
  have gd : ∀ c : Int, pud 5 ((atI S.held c).getD .non) = true := fun c => by
    cases e : atI S.held c with
    | none => rfl
    | some d =>
      unfold L2.atI at e
      cases z : ixN S.held.length c with
      | none => rw [z] at e; cases e
      | some j =>
        rw [z] at e
        exact h.pv d (List.mem_of_getElem? e)
  unfold useDo
  split
  · rename_i f hf
    have ix := idx f hf
    split
    · exact ⟨h, by simp [gd]⟩
    · rename_i v
      simp only [List.all_cons, List.all_nil, Bool.and_true] at hr
      exact ⟨h.put hr (by omega), rfl⟩
    · rename_i o v
      simp only [List.all_cons, List.all_nil, Bool.and_true, Bool.and_eq_true] at hr
      cases deq ((atI S.held (1 + (P : Int) + 32 + 2 * f + i)).getD .non) o with
      | true => exact ⟨h.put hr.2 (by omega), rfl⟩
      | false => exact ⟨h, by simp [gd]⟩
    · exact ⟨h, rfl⟩
  · exact ⟨h, by cases k == 16 <;> rfl⟩
theorem do_ok4 {P n p : Nat} {S : S4} (h : Ok4 P n S) {R : Rq4} (hR : R.ok P) (hp : p < P) : Ok4 P (n + 1) (doR P S p R).2 ∧ pud 6 (doR P S p R).1 = true := by
  have up : ∀ {S : S4}, Ok4 P n S → Ok4 P (n + 1) S := fun h => ⟨h.len, h.pv, h.wd, h.fr, h.rl, fun p => Nat.le_succ_of_le (h.ll p)⟩
  cases R with
  | word a b w => exact ⟨up (h.put (wd_pud hR.2) fun _ _ => ⟨w, hR.2, rfl⟩), rfl⟩
  | cell j v =>
    obtain ⟨j0, j1⟩ : 0 ≤ j ∧ j < 8 := hR
    exact ⟨up (h.put rfl fun h1 h2 => by omega), rfl⟩
  | walk a b =>
    obtain ⟨⟨a0, a1⟩, b0, b1⟩ : pgOk a b := hR
    obtain ⟨w, w1, w2⟩ := h.wd (1 + (P : Int) + 8 * a + b).toNat (by omega) (by omega)
    have e : atI S.held (1 + (P : Int) + 8 * a + b) = some w.d := by
      have := atI_nat w2
      rwa [show (((1 + (P : Int) + 8 * a + b).toNat : Nat) : Int) = 1 + (P : Int) + 8 * a + b by omega] at this
    simp only [doR, e, Option.getD_some, wdOf_d w1]
    refine ⟨up ⟨h.len, h.pv, h.wd, fun q r hr => ?_, fun q => ?_, h.ll⟩, pud_le (by decide) (wd_pud w1)⟩
    · by_cases z : q = p
      · subst z
        have hr : r ∈ fset S.rows q (putL (S.rows q) a b w) q := hr
        rw [fset_same] at hr
        exact putL_fr (h.fr q) w1 r hr
      · have hr : r ∈ fset S.rows p (putL (S.rows p) a b w) q := hr
        rw [fset_ne z] at hr
        exact h.fr q r hr
    · by_cases z : q = p
      · subst z
        show (fset S.rows q (putL (S.rows q) a b w) q).length ≤ 2
        rw [fset_same]
        exact putL_len (h.rl q)
      · show (fset S.rows p (putL (S.rows p) a b w) q).length ≤ 2
        rw [fset_ne z]
        exact h.rl q
  | load a b i =>
    have := use_ok4 (p := p) (k := 15) (a := a) (b := b) (rest := []) h hR.2 rfl
    exact ⟨up this.1, this.2⟩
  | store a b i v =>
    have := use_ok4 (p := p) (k := 16) (a := a) (b := b) (rest := [.int v]) h hR.2 rfl
    exact ⟨up this.1, this.2⟩
  | change a b i o v =>
    have := use_ok4 (p := p) (k := 17) (a := a) (b := b) (rest := [.int o, .int v]) h hR.2 rfl
    exact ⟨up this.1, this.2⟩
  | send q x =>
    refine ⟨⟨h.len, h.pv, h.wd, h.fr, h.rl, fun z => ?_⟩, rfl⟩
    by_cases e : z = q
    · subst e
      show (fset S.lets z (S.lets z ++ [x]) z).length ≤ n + 1
      rw [fset_same, List.length_append]
      have := h.ll z
      simp
      omega
    · show (fset S.lets q (S.lets q ++ [x]) z).length ≤ n + 1
      rw [fset_ne e]
      exact Nat.le_succ_of_le (h.ll z)
  | take =>
    unfold doR
    cases hL : S.lets p with
    | nil => exact ⟨up h, rfl⟩
    | cons x L =>
      have q := h.put (c := 1 + p) (v := .int x.1) rfl fun h1 h2 => by omega
      refine ⟨⟨q.len, q.pv, q.wd, fun z r hr => ?_, fun z => ?_, fun z => ?_⟩, rfl⟩
      · by_cases e : z = p
        · subst e
          have hr : r ∈ fset S.rows z ((S.rows z).filter (keepB x.2)) z := hr
          rw [fset_same] at hr
          exact h.fr z r (List.mem_filter.mp hr).1
        · have hr : r ∈ fset S.rows p ((S.rows p).filter (keepB x.2)) z := hr
          rw [fset_ne e] at hr
          exact h.fr z r hr
      · by_cases e : z = p
        · subst e
          show (fset S.rows z ((S.rows z).filter (keepB x.2)) z).length ≤ 2
          rw [fset_same]
          exact Nat.le_trans (List.length_filter_le _ _) (h.rl z)
        · show (fset S.rows p ((S.rows p).filter (keepB x.2)) z).length ≤ 2
          rw [fset_ne e]
          exact h.rl z
      · have := h.ll p
        rw [hL, List.length_cons] at this
        by_cases e : z = p
        · subst e
          show (fset S.lets z L z).length ≤ n + 1
          rw [fset_same]
          omega
        · show (fset S.lets p L z).length ≤ n + 1
          rw [fset_ne e]
          exact Nat.le_succ_of_le (h.ll z)

/-! ### the memory does it -/
section
variable {g : G} {m s h r P : Nat} {N B cnt : Int} {bA xA yA : Nat → Nat} {ld : Nat → D} {St : Nat → Prop} {log : List D} {S : S4}
theorem mem_do (M : MC g m s h r (P : Int) N B cnt (refsF P bA) (refsF P xA) S.held log) (X : MX g P bA xA yA ld S.rows S.lets St) (hh : St h) (hr : St r) {n : Nat} (hn : n < 800) (hO : Ok4 P n S) {p : Nat} (hp : p < P) {R : Rq4} (hR : R.ok P) (hS : ∀ i, St i → i < g.length) (hl : log.length < 99999) :
    ∃ g' yA' ld', m_Memory_access [.ref m, .int (p : Int), R.d P] g = .ok (.tup [(doR P S p R).1, .int (cnt + 1)]) g' ∧ MC g' m s h r (P : Int) N B (cnt + 1) (refsF P bA) (refsF P xA) (doR P S p R).2.held (log ++ [.tup [.int (cnt + 1), .int (p : Int), R.d P]]) ∧
      MX g' P bA xA yA' ld' (doR P S p R).2.rows (doR P S p R).2.lets St ∧ Rest g g' m h r P bA xA yA ∧ g.length ≤ g'.length := by
  have cw : ∀ {c : Int} {v : D}, 0 ≤ c → c < S.held.length → pud 5 v = true → ∃ g', m_Memory_access [.ref m, .int (p : Int), .tup [.str 10, .int c, v]] g = .ok (.tup [.non, .int (cnt + 1)]) g' ∧ MC g' m s h r (P : Int) N B (cnt + 1) (refsF P bA) (refsF P xA) (S.held.set c.toNat v) (log ++ [.tup [.int (cnt + 1), .int (p : Int), .tup [.str 10, .int c, v]]]) ∧ MX g' P bA xA yA ld S.rows S.lets St ∧ Rest g g' m h r P bA xA yA ∧ g.length ≤ g'.length := by
    intro c v c0 c1 pv
    obtain ⟨g', ha, M1, f1⟩ := M.acc (p := (p : Int)) (c := c) (k := 10) (rest := [v]) (by omega) (by omega) (.inr (.inl ⟨rfl, v, rfl, pv⟩)) c0 c1 hO.pv hl
    refine ⟨g', ha, M1, X.fr fun i hi n1 n2 => f1 i (fun e => n2 (memF s h r cnt (refsF P bA) (refsF P xA)) (by rw [e]; exact M.mo)) (fun e => n1 (by rw [e]; exact hh)) (fun e => n1 (by rw [e]; exact hr)), fun i hi i1 i2 i3 _ => f1 i i1 i2 i3, ?_⟩
    cases hz : g.length with
    | zero => omega
    | succ k =>
      have hk : k < g.length := by omega
      by_cases e1 : k = m
      · have := (List.getElem?_eq_some_iff.mp M1.mo).1
        omega
      · by_cases e2 : k = h
        · have := (List.getElem?_eq_some_iff.mp M1.ho).1
          omega
        · by_cases e3 : k = r
          · have := (List.getElem?_eq_some_iff.mp M1.ro).1
            omega
          · have := f1 k e1 e2 e3
            rw [List.getElem?_eq_getElem hk] at this
            have := (List.getElem?_eq_some_iff.mp this).1
            omega
  have us : ∀ {k : Nat} {a b i : Int} {rest : List D}, pgOk a b → (0 ≤ i ∧ i < 2) → (k = 15 ∧ rest = [] ∨ (k = 16 ∧ ∃ v, rest = [v]) ∨ k = 17 ∧ ∃ o v, rest = [o, v] ∧ pud 5 o = true) →
      ∃ g' yA' ld', m_Memory_access [.ref m, .int (p : Int), .tup (.str k :: .int a :: .int b :: .int i :: rest)] g = .ok (.tup [(S.use P p k a b i rest).1, .int (cnt + 1)]) g' ∧ MC g' m s h r (P : Int) N B (cnt + 1) (refsF P bA) (refsF P xA) (S.use P p k a b i rest).2.held (log ++ [.tup [.int (cnt + 1), .int (p : Int), .tup (.str k :: .int a :: .int b :: .int i :: rest)]]) ∧ MX g' P bA xA yA' ld' (S.use P p k a b i rest).2.rows (S.use P p k a b i rest).2.lets St ∧ Rest g g' m h r P bA xA yA ∧ g.length ≤ g'.length := by
    intro k a b i rest hab hi hk
    obtain ⟨g', y, ha, M1, rfl, X1, R1, l1⟩ := use_ok M X hh hr hp hab.1 hab.2 hi hk hO.pv (fun f e => by
      have := find_fr e (hO.fr p)
      have := hO.len
      omega) hl
    exact ⟨g', yA, ld, ha, M1, X1, R1, l1⟩
  cases R with
  | word a b w =>
    obtain ⟨⟨⟨a0, a1⟩, b0, b1⟩, hw⟩ : pgOk a b ∧ w.ok4 := hR
    obtain ⟨g', ha, M1, X1, R1, l1⟩ := cw (c := 1 + (P : Int) + 8 * a + b) (v := w.d) (by omega) (by have := hO.len; omega) (wd_pud hw)
    exact ⟨g', yA, ld, ha, M1, X1, R1, l1⟩
  | cell j v =>
    obtain ⟨j0, j1⟩ : 0 ≤ j ∧ j < 8 := hR
    obtain ⟨g', ha, M1, X1, R1, l1⟩ := cw (c := 33 + (P : Int) + j) (v := .int v) (by omega) (by have := hO.len; omega) rfl
    exact ⟨g', yA, ld, ha, M1, X1, R1, l1⟩
  | walk a b =>
    obtain ⟨⟨a0, a1⟩, b0, b1⟩ : pgOk a b := hR
    obtain ⟨w, w1, w2⟩ := hO.wd (1 + (P : Int) + 8 * a + b).toNat (by omega) (by omega)
    have e : atI S.held (1 + (P : Int) + 8 * a + b) = some w.d := by
      have := atI_nat w2
      rwa [show (((1 + (P : Int) + 8 * a + b).toNat : Nat) : Int) = 1 + (P : Int) + 8 * a + b by omega] at this
    obtain ⟨g', y, ld', ha, M1, rfl, X1, R1, l1⟩ := walk_ok M X hh hr hp ⟨a0, a1⟩ ⟨b0, b1⟩ w1.ok e hl
    simp only [doR, e, Option.getD_some, wdOf_d w1]
    exact ⟨g', yA, ld', ha, M1, X1, R1, l1⟩
  | load a b i => exact us hR.1 hR.2 (.inl ⟨rfl, rfl⟩)
  | store a b i v => exact us hR.1 hR.2 (.inr (.inl ⟨rfl, _, rfl⟩))
  | change a b i o v => exact us hR.1 hR.2 (.inr (.inr ⟨rfl, _, _, rfl, rfl⟩))
  | send q x =>
    obtain ⟨hq, x1, x2, x3, x4⟩ : q < P ∧ 1 ≤ x.1 ∧ 1 ≤ x.2.length ∧ x.2.length ≤ 10 ∧ x.2.all (fun q => okP q.1 q.2) = true := hR
    have il := islet_ok (g := g) (t := x.1) x.2 x2 x3 x4
    rw [decide_eq_true x1] at il
    obtain ⟨g', y, ha, M1, rfl, X1, R1, l1⟩ := send_acc M X hh hr hp hq (x := x) il (by have := hO.ll q; simp; omega) hl
    exact ⟨g', yA, ld, ha, M1, X1, R1, l1⟩
  | take =>
    cases hL : S.lets p with
    | nil =>
      obtain ⟨g', y, ha, M1, rfl, X1, R1, l1⟩ := take_no M X hh hr hp hL hl
      simp only [doR, hL]
      exact ⟨g', yA, ld, ha, M1, X1, R1, l1⟩
    | cons x L =>
      obtain ⟨g', y, ld', yA', ha, M1, rfl, X1, R1, l1⟩ := take_yes M X hh hr hp hL hS (by have := hO.len; omega) hl
      simp only [doR, hL]
      exact ⟨g', yA', ld', ha, M1, X1, R1, l1⟩
end
/-! ### the law's own state -/
structure LS (g : G) (wd wh wb wx P : Nat) (S : S4) : Prop where
  d : g[wd]? = some (.dct false [(.str 43, .int (P : Int)), (.str 1, .ref wh), (.str 7, .ref wb), (.str 8, .ref wx)])
  h : g[wh]? = some (.lst S.held)
  b : g[wb]? = some (.lst ((List.range P).map fun p => .lst ((S.rows p).map rowD)))
  x : g[wx]? = some (.lst ((List.range P).map fun p => .lst ((S.lets p).map letD)))
  ne : wh ≠ wb ∧ wh ≠ wx ∧ wb ≠ wx
section
variable {g : G} {wd wh wb wx P : Nat} {S : S4}
theorem LS.ix (L : LS g wd wh wb wx P S) : ixC g (.ref wd) (.str 43) = some (.int (P : Int)) ∧ ixC g (.ref wd) (.str 1) = some (.ref wh) ∧ ixC g (.ref wd) (.str 7) = some (.ref wb) ∧ ixC g (.ref wd) (.str 8) = some (.ref wx) := by
  have k : ∀ n, ixC g (.ref wd) (.str n) = (lkp [(.str 43, .int (P : Int)), (.str 1, .ref wh), (.str 7, .ref wb), (.str 8, .ref wx)] (.str n)) := fun n => by
    unfold ixC dcG
    simp only [L.d, isKey, kyD]
    rfl
  refine ⟨?_, ?_, ?_, ?_⟩ <;> rw [k] <;> simp [lkp]
theorem LS.le {g' : G} (L : LS g wd wh wb wx P S) (h1 : g'[wd]? = g[wd]?) (h2 : g'[wh]? = g[wh]?) (h3 : g'[wb]? = g[wb]?) (h4 : g'[wx]? = g[wx]?) : LS g' wd wh wb wx P S := ⟨h1.trans L.d, h2.trans L.h, h3.trans L.b, h4.trans L.x, L.ne⟩
theorem LS.setH (L : LS g wd wh wb wx P S) {hd : List D} : LS (g.set wh (.lst hd)) wd wh wb wx P { S with held := hd } := by
  obtain ⟨n1, n2, n3⟩ := L.ne
  refine ⟨?_, ?_, ?_, ?_, L.ne⟩
  · rw [List.getElem?_set_ne (fun e => by have := L.h; rw [e, L.d] at this; cases this)]
    exact L.d
  · exact List.getElem?_set_self (List.getElem?_eq_some_iff.mp L.h).1
  · rw [List.getElem?_set_ne n1]
    exact L.b
  · rw [List.getElem?_set_ne n2]
    exact L.x
theorem map_fset {α : Type} {P p : Nat} (hp : p < P) (f : Nat → α) (k : α → D) (y : α) : ((List.range P).map fun q => k (f q)).set p (k y) = (List.range P).map fun q => k (fset f p y q) := by
  apply List.ext_getElem?
  intro i
  by_cases e : i = p
  · subst e
    rw [List.getElem?_set_self (by simpa using hp)]
    simp [hp]
  · rw [List.getElem?_set_ne (Ne.symm e)]
    by_cases hi : i < P
    · simp [hi, fset_ne e]
    · rw [List.getElem?_eq_none (by simpa using Nat.not_lt.mp hi), List.getElem?_eq_none (by simpa using Nat.not_lt.mp hi)]
theorem LS.setB (L : LS g wd wh wb wx P S) {p : Nat} (hp : p < P) {rs : List Row} : LS (g.set wb (.lst (((List.range P).map fun p => D.lst ((S.rows p).map rowD)).set p (.lst (rs.map rowD))))) wd wh wb wx P { S with rows := fset S.rows p rs } := by
  obtain ⟨n1, n2, n3⟩ := L.ne
  refine ⟨?_, ?_, ?_, ?_, L.ne⟩
  · rw [List.getElem?_set_ne (fun e => by have := L.b; rw [e, L.d] at this; cases this)]
    exact L.d
  · rw [List.getElem?_set_ne (Ne.symm n1)]
    exact L.h
  · rw [List.getElem?_set_self (List.getElem?_eq_some_iff.mp L.b).1, map_fset hp S.rows (fun l => D.lst (l.map rowD)) rs]
  · rw [List.getElem?_set_ne n3]
    exact L.x
theorem LS.setX (L : LS g wd wh wb wx P S) {p : Nat} (hp : p < P) {ls : List Lt} : LS (g.set wx (.lst (((List.range P).map fun p => D.lst ((S.lets p).map letD)).set p (.lst (ls.map letD))))) wd wh wb wx P { S with lets := fset S.lets p ls } := by
  obtain ⟨n1, n2, n3⟩ := L.ne
  refine ⟨?_, ?_, ?_, ?_, L.ne⟩
  · rw [List.getElem?_set_ne (fun e => by have := L.x; rw [e, L.d] at this; cases this)]
    exact L.d
  · rw [List.getElem?_set_ne (Ne.symm n2)]
    exact L.h
  · rw [List.getElem?_set_ne (Ne.symm n3)]
    exact L.b
  · rw [List.getElem?_set_self (List.getElem?_eq_some_iff.mp L.x).1, map_fset hp S.lets (fun l => D.lst (l.map letD)) ls]
end

theorem ixN_i {n : Nat} {c : Int} (h0 : 0 ≤ c) (h1 : c < n) : ixN n c = some c.toNat := by
  unfold ixN
  simp only [h0, if_true]
  rw [if_pos h1]
theorem sub_gen {g : G} {o i m : EM} {e : En} {x : Nat} {c : Int} {y : D} {ds : List D} (hm : m e g = .ok y g) (ho : o e g = .ok (.ref x) g) (hi : i e g = .ok (.int c) g) (hx : g[x]? = some (.lst ds)) (h0 : 0 ≤ c) (h1 : c < ds.length) : sSub o i m e g = .nx e (g.set x (.lst (ds.set c.toNat y))) := by
  unfold sSub
  simp only [hm, sBind, ho, hi, hx, ixN_i h0 h1]
section
variable {g : G} {wd wh wb wx P : Nat} {S : S4}
theorem LS.atH (L : LS g wd wh wb wx P S) {c : Int} {v : D} (hv : atI S.held c = some v) : ixD g (.ref wh) (.int c) = some v := by
  unfold ixD itD
  simp only [lsD_ref L.h, hv]
theorem LS.atB (L : LS g wd wh wb wx P S) {p : Nat} (hp : p < P) : ixD g (.ref wb) (.int (p : Int)) = some (.lst ((S.rows p).map rowD)) := by
  unfold ixD itD
  simp only [lsD_ref L.b]
  exact atI_nat (by simp [hp])
theorem LS.atX (L : LS g wd wh wb wx P S) {p : Nat} (hp : p < P) : ixD g (.ref wx) (.int (p : Int)) = some (.lst ((S.lets p).map letD)) := by
  unfold ixD itD
  simp only [lsD_ref L.x]
  exact atI_nat (by simp [hp])
theorem luse_ok (L : LS g wd wh wb wx P S) {n : Nat} (hO : Ok4 P n S) {p : Nat} (hp : p < P) (hP : P ≤ 3) {k : Nat} {a b i : Int} {rest : List D} (hi : 0 ≤ i ∧ i < 2) (hk : k = 15 ∧ rest = [] ∨ (k = 16 ∧ ∃ v, rest = [v]) ∨ k = 17 ∧ ∃ o v, rest = [o, v] ∧ pud 5 o = true) :
    ∃ g', m__law_use [.ref wd, .int (p : Int), .tup (.str k :: .int a :: .int b :: .int i :: rest)] g = .ok (S.use P p k a b i rest).1 g' ∧ LS g' wd wh wb wx P (S.use P p k a b i rest).2 ∧ (∀ j, j ≠ wh → j ≠ wb → j ≠ wx → g'[j]? = g[j]?) ∧ g'.length = g.length := by
  obtain ⟨i43, i1, i7, i8⟩ := L.ix
  have fm := fun (w : Bool) => lawframe_ok (g := g) (L := S.rows p) (s := a) (p := b) (w := w)
  have hf : ∀ f, findD (S.rows p) a b (!(k == 15)) = .int f → 0 ≤ 1 + (P : Int) + 32 + 2 * f + i ∧ 1 + (P : Int) + 32 + 2 * f + i < S.held.length := fun f e => by
    have := find_fr e (hO.fr p)
    have := hO.len
    omega
  have head : m__law_use [.ref wd, .int (p : Int), .tup (.str k :: .int a :: .int b :: .int i :: rest)] g = endM (c__law_use_7 [some (.ref wd), some (.int (p : Int)), some (.tup (.str k :: .int a :: .int b :: .int i :: rest)), some (.str k), some (findD (S.rows p) a b (!(k == 15))), none] g) := by
    show endM (b__law_use [some (.ref wd), some (.int (p : Int)), some (.tup (.str k :: .int a :: .int b :: .int i :: rest)), none, none, none] g) = _
    unfold b__law_use c__law_use_8
    simp only [sSeq_e, sAsg_e, vOp_e, vVar_e, List.getElem?_cons_zero, List.getElem?_cons_succ, Res.bind, vC_e, ixD_tup, at0, oR_some, sBind, List.set, vCall_e, aCons_e, i7, L.atB hp, at1, at2, ne_str, aNil_e, fm]
  rw [head]
  unfold S4.use
  unfold c__law_use_7
  cases hfd : findD (S.rows p) a b (!(k == 15)) with
  | int f =>
    obtain ⟨c0, c1⟩ := hf f hfd
    obtain ⟨v0, hv, vm⟩ := atI_mem c0 c1
    have pv := hO.pv v0 vm
    have m2 : mulD g (.int 2) (.int f) = some (.int (2 * f)) := mulD_l (by decide) (by decide)
    have c33 : (33 : Int) + (P : Int) + 2 * f + i = 1 + (P : Int) + 32 + 2 * f + i := by omega
    have hd6 : (sSeq (sIf (tOf (vOp isN (vVar 4) (vC .non))) (sRet (vOp ixD (vLst (aCons (vC .non) (aCons (vC (.bl false)) aNil))) (vCB intD (aCons (vOp eqD (vVar 3) (vC (.str 16))) aNil)))) sNx) c__law_use_6) [some (.ref wd), some (.int (p : Int)), some (.tup (.str k :: .int a :: .int b :: .int i :: rest)), some (.str k), some (.int f), none] g = c__law_use_5 [some (.ref wd), some (.int (p : Int)), some (.tup (.str k :: .int a :: .int b :: .int i :: rest)), some (.str k), some (.int f), some (.int (1 + (P : Int) + 32 + 2 * f + i))] g := by
      unfold c__law_use_6
      simp only [sSeq_e, sIf_e, tOf_e, vOp_e, vVar_e, List.getElem?_cons_zero, List.getElem?_cons_succ, Res.bind, vC_e, isN_e, nonD_int, oR_some, bR_bl, sBind, cond_false, sNx_e, sAsg_e, i43, addD_int, m2, ixD_tup, at3, c33, List.set]
    rw [hd6]
    have hcc : (1 + (P : Int) + 32 + 2 * f + i).toNat < S.held.length := by omega
    generalize hc2 : 1 + (P : Int) + 32 + 2 * f + i = cc at *
    have sub : ∀ (j : Nat) (x : D), (vOp ixD (vVar 2) (vC (.int (j : Int)))) [some (.ref wd), some (.int (p : Int)), some (.tup (.str k :: .int a :: .int b :: .int i :: rest)), some (.str k), some (.int f), some (.int cc)] g = .ok x g → sSub (vOp ixC (vVar 0) (vC (.str 1))) (vVar 5) (vOp ixD (vVar 2) (vC (.int (j : Int)))) [some (.ref wd), some (.int (p : Int)), some (.tup (.str k :: .int a :: .int b :: .int i :: rest)), some (.str k), some (.int f), some (.int cc)] g = .nx [some (.ref wd), some (.int (p : Int)), some (.tup (.str k :: .int a :: .int b :: .int i :: rest)), some (.str k), some (.int f), some (.int cc)] (g.set wh (.lst (S.held.set cc.toNat x))) := by
      intro j x hx
      exact sub_gen hx (by simp [i1]) rfl L.h c0 c1
    have out : ∀ (hd : List D) (j : Nat), j ≠ wh → j ≠ wb → j ≠ wx → (g.set wh (.lst hd))[j]? = g[j]? := fun hd j n1 _ _ => List.getElem?_set_ne (Ne.symm n1)
    unfold c__law_use_5
    rcases hk with ⟨rfl, rfl⟩ | ⟨rfl, v, rfl⟩ | ⟨rfl, o, v, rfl, po⟩
    · have ud : useDo S.held 15 (.int f) P i [] = (.tup [v0], S.held) := by simp [useDo, hc2, hv]
      rw [ud]
      refine ⟨g, ?_, L, fun _ _ _ _ => rfl, rfl⟩
      simp [eq_str, i1, L.atH hv, vTup_s, okL_s]
    · have ud : useDo S.held 16 (.int f) P i [v] = (.bl true, S.held.set cc.toNat v) := by simp [useDo, hc2]
      rw [ud]
      refine ⟨_, ?_, L.setH, out _, by simp⟩
      have s1 := sub 4 v (by rfl)
      simp only [Int.ofNat_eq_natCast, Int.cast_ofNat_Int] at s1
      unfold c__law_use_4
      simp only [sSeq_e, sIf_e, tOf_e, vOp_e, vVar_e, List.getElem?_cons_zero, List.getElem?_cons_succ, Res.bind, vC_e, eq_str, oR_some, bR_bl, sBind, (show ((16 : Nat) == 15) = false from rfl), (show ((16 : Nat) == 16) = true from rfl), cond_false, cond_true, sNx_e]
      rw [s1]
      rfl
    · have s1 := sub 5 v (by rfl)
      simp only [Int.ofNat_eq_natCast, Int.cast_ofNat_Int] at s1
      have i4 : ixD g (.tup [.str 17, .int a, .int b, .int i, o, v]) (.int 4) = some o := rfl
      have nn : neD g v0 o = some (.bl (!deq v0 o)) := by
        have e1 := pure_snap (g := g) pv
        have e2 := pure_snap (g := g) po
        rw [neD_e (by rw [e1, e2, pud_le (by decide) pv, pud_le (by decide) po]; rfl), e1, e2]
      have ud : useDo S.held 17 (.int f) P i [o, v] = bif deq v0 o then (.tup [.str 19], S.held.set cc.toNat v) else (.tup [v0], S.held) := by simp [useDo, hc2, hv]
      rw [ud]
      unfold c__law_use_4 c__law_use_3
      cases hq : deq v0 o with
      | true =>
        rw [hq] at nn
        refine ⟨_, ?_, L.setH, out _, by simp⟩
        unfold c__law_use_2 c__law_use_1
        simp only [sSeq_e, sIf_e, tOf_e, vOp_e, vVar_e, List.getElem?_cons_zero, List.getElem?_cons_succ, Res.bind, vC_e, eq_str, oR_some, bR_bl, sBind, (show ((17 : Nat) == 15) = false from rfl), (show ((17 : Nat) == 16) = false from rfl), cond_false, sNx_e, i1, L.atH hv, i4, nn, Bool.not_true]
        rw [s1]
        rfl
      | false =>
        rw [hq] at nn
        refine ⟨g, ?_, L, fun _ _ _ _ => rfl, rfl⟩
        simp only [sSeq_e, sIf_e, tOf_e, vOp_e, vVar_e, List.getElem?_cons_zero, List.getElem?_cons_succ, Res.bind, vC_e, eq_str, oR_some, bR_bl, sBind, (show ((17 : Nat) == 15) = false from rfl), (show ((17 : Nat) == 16) = false from rfl), cond_false, cond_true, sNx_e, i1, L.atH hv, i4, nn, Bool.not_false, sRet_e, vTup_s, aCons_e, aNil_e, (show okL [v0].length = true from rfl), endM_rt]
  | non =>
    refine ⟨g, ?_, L, fun _ _ _ _ => rfl, rfl⟩
    simp only [sSeq_e, sIf_e, tOf_e, vOp_e, vVar_e, List.getElem?_cons_zero, List.getElem?_cons_succ, Res.bind, vC_e, isN_e, nonD_non, oR_some, bR_bl, sBind, cond_true, sRet_e, vLst_s, aCons_e, aNil_e, (show okL [D.non, .bl false].length = true from rfl), vCB_e, eq_str, useDo]
    cases k == 16 <;> rfl
  | _ =>
    exfalso
    unfold findD at hfd
    split at hfd <;> cases hfd
theorem due_ok (L : LS g wd wh wb wx P S) {n : Nat} (hn : n < 800) (hO : Ok4 P n S) {p : Nat} (hp : p < P) (hP : P ≤ 3) {R : Rq4} (hR : R.ok P) :
    ∃ g', m__law_due [.ref wd, .int (p : Int), R.d P] g = .ok (doR P S p R).1 g' ∧ LS g' wd wh wb wx P (doR P S p R).2 ∧ (∀ j, j ≠ wh → j ≠ wb → j ≠ wx → g'[j]? = g[j]?) ∧ g'.length = g.length := by
  obtain ⟨i43, i1, i7, i8⟩ := L.ix
  have start : m__law_due [.ref wd, .int (p : Int), R.d P] g = endM (b__law_due [some (.ref wd), some (.int (p : Int)), some (R.d P), none, none, none, none, none] g) := rfl
  rw [start]
  unfold b__law_due c__law_due_12
  have wr : ∀ (c : Int) (v : D), 0 ≤ c → c < S.held.length → endM (sSeq (sAsg 3 (vOp ixD (vVar 2) (vC (.int 0)))) (sSeq (sIf (tOf (vOp eqD (vVar 3) (vC (.str 10)))) (sSeq (sSub (vOp ixC (vVar 0) (vC (.str 1))) (vOp ixD (vVar 2) (vC (.int 1))) (vOp ixD (vVar 2) (vC (.int 2)))) (sRet (vC .non))) sNx) c__law_due_11) [some (.ref wd), some (.int (p : Int)), some (.tup [.str 10, .int c, v]), none, none, none, none, none] g) = .ok .non (g.set wh (.lst (S.held.set c.toNat v))) := by
    intro c v c0 c1
    have sb := sub_gen (o := vOp ixC (vVar 0) (vC (.str 1))) (i := vOp ixD (vVar 2) (vC (.int 1))) (m := vOp ixD (vVar 2) (vC (.int 2))) (e := [some (.ref wd), some (.int (p : Int)), some (.tup [.str 10, .int c, v]), some (.str 10), none, none, none, none]) (g := g) (x := wh) (c := c) (y := v) (ds := S.held) (by simp [at2]) (by simp [i1]) (by simp [at1]) L.h c0 c1
    simp only [sSeq_e, sAsg_e, vOp_e, vVar_e, List.getElem?_cons_zero, List.getElem?_cons_succ, Res.bind, vC_e, ixD_tup, at0, oR_some, sBind, List.set, sIf_e, tOf_e, eq_str, beq_self_eq_true, bR_bl, cond_true, sb, sRet_e, endM_rt]
  have out : ∀ (x : Nat) (hd : List D) (j : Nat), (x = wh ∨ x = wb ∨ x = wx) → j ≠ wh → j ≠ wb → j ≠ wx → (g.set x (.lst hd))[j]? = g[j]? := fun x hd j hx n1 n2 n3 => by
    rcases hx with rfl | rfl | rfl
    · exact List.getElem?_set_ne (Ne.symm n1)
    · exact List.getElem?_set_ne (Ne.symm n2)
    · exact List.getElem?_set_ne (Ne.symm n3)
  have us : ∀ {k : Nat} {a b i : Int} {rest : List D}, (0 ≤ i ∧ i < 2) → (k = 15 ∧ rest = [] ∨ (k = 16 ∧ ∃ v, rest = [v]) ∨ k = 17 ∧ ∃ o v, rest = [o, v] ∧ pud 5 o = true) →
      ∃ g', endM (sSeq (sAsg 3 (vOp ixD (vVar 2) (vC (.int 0)))) (sSeq (sIf (tOf (vOp eqD (vVar 3) (vC (.str 10)))) (sSeq (sSub (vOp ixC (vVar 0) (vC (.str 1))) (vOp ixD (vVar 2) (vC (.int 1))) (vOp ixD (vVar 2) (vC (.int 2)))) (sRet (vC .non))) sNx) c__law_due_11) [some (.ref wd), some (.int (p : Int)), some (.tup (.str k :: .int a :: .int b :: .int i :: rest)), none, none, none, none, none] g) = .ok (S.use P p k a b i rest).1 g' ∧ LS g' wd wh wb wx P (S.use P p k a b i rest).2 ∧ (∀ j, j ≠ wh → j ≠ wb → j ≠ wx → g'[j]? = g[j]?) ∧ g'.length = g.length := by
    intro k a b i rest hi hk
    obtain ⟨g', run, L', f', l'⟩ := luse_ok L hO hp hP (a := a) (b := b) hi hk
    refine ⟨g', ?_, L', f', l'⟩
    have k10 : (k == 10) = false := by rcases hk with ⟨rfl, _⟩ | ⟨rfl, _⟩ | ⟨rfl, _⟩ <;> rfl
    have k12 : (k == 12) = false := by rcases hk with ⟨rfl, _⟩ | ⟨rfl, _⟩ | ⟨rfl, _⟩ <;> rfl
    have k13 : (k == 13) = false := by rcases hk with ⟨rfl, _⟩ | ⟨rfl, _⟩ | ⟨rfl, _⟩ <;> rfl
    have k14 : (k == 14) = false := by rcases hk with ⟨rfl, _⟩ | ⟨rfl, _⟩ | ⟨rfl, _⟩ <;> rfl
    unfold c__law_due_11 c__law_due_8 c__law_due_7 c__law_due_1
    simp only [sSeq_e, sAsg_e, vOp_e, vVar_e, List.getElem?_cons_zero, List.getElem?_cons_succ, Res.bind, vC_e, ixD_tup, at0, oR_some, sBind, List.set, sIf_e, tOf_e, eq_str, k10, k12, k13, k14, bR_bl, cond_false, sNx_e, sRet_e, vCall_e, aCons_e, aNil_e, run, endM_rt]
  cases R with
  | word a b w =>
    obtain ⟨⟨⟨a0, a1⟩, b0, b1⟩, hw⟩ : pgOk a b ∧ w.ok4 := hR
    exact ⟨_, wr _ _ (by omega) (by have := hO.len; omega), L.setH, fun j => out wh _ j (.inl rfl), by simp⟩
  | cell j v =>
    obtain ⟨j0, j1⟩ : 0 ≤ j ∧ j < 8 := hR
    exact ⟨_, wr _ _ (by omega) (by have := hO.len; omega), L.setH, fun j => out wh _ j (.inl rfl), by simp⟩
  | walk a b =>
    obtain ⟨⟨a0, a1⟩, b0, b1⟩ : pgOk a b := hR
    obtain ⟨w, w1, w2⟩ := hO.wd (1 + (P : Int) + 8 * a + b).toNat (by omega) (by omega)
    have e : atI S.held (1 + (P : Int) + 8 * a + b) = some w.d := by
      have := atI_nat w2
      rwa [show (((1 + (P : Int) + 8 * a + b).toNat : Nat) : Int) = 1 + (P : Int) + 8 * a + b by omega] at this
    simp only [doR, e, Option.getD_some, wdOf_d w1]
    have lp := lawput_ok (g := g) (L := S.rows p) (s := a) (p := b) (w := w) (hO.rl p) w1.ok
    have m8 : mulD g (.int 8) (.int a) = some (.int (8 * a)) := mulD_l (by decide) (by decide)
    have sb := sub_gen (o := vOp ixC (vVar 0) (vC (.str 7))) (i := vVar 1) (m := vCall m__law_put (aCons (vOp ixD (vOp ixC (vVar 0) (vC (.str 7))) (vVar 1)) (aCons (vOp ixD (vVar 2) (vC (.int 1))) (aCons (vOp ixD (vVar 2) (vC (.int 2))) (aCons (vVar 4) aNil))))) (e := [some (.ref wd), some (.int (p : Int)), some (.tup [.str 14, .int a, .int b]), some (.str 14), some w.d, none, none, none]) (g := g) (x := wb) (c := (p : Int)) (y := .lst ((putL (S.rows p) a b w).map rowD)) (by simp only [vCall_e, aCons_e, vOp_e, vVar_e, List.getElem?_cons_zero, List.getElem?_cons_succ, Res.bind, vC_e, i7, oR_some, L.atB hp, ixD_tup, at1, at2, aNil_e, lp]) (by simp [i7]) rfl L.b (by omega) (by simpa using hp)
    rw [Int.toNat_natCast] at sb
    refine ⟨_, ?_, L.setB hp, fun j => out wb _ j (.inr (.inl rfl)), by simp⟩
    unfold c__law_due_11 c__law_due_10 c__law_due_9
    simp only [Rq4.d, sSeq_e, sAsg_e, vOp_e, vVar_e, List.getElem?_cons_zero, List.getElem?_cons_succ, Res.bind, vC_e, ixD_tup, at0, at1, at2, oR_some, sBind, List.set, sIf_e, tOf_e, eq_str, (show ((14 : Nat) == 10) = false from rfl), (show ((14 : Nat) == 14) = true from rfl), bR_bl, cond_false, cond_true, sNx_e, i1, i43, addD_int, m8, L.atH e, sb, sRet_e, endM_rt]
  | load a b i => exact us hR.2 (.inl ⟨rfl, rfl⟩)
  | store a b i v => exact us hR.2 (.inr (.inl ⟨rfl, _, rfl⟩))
  | change a b i o v => exact us hR.2 (.inr (.inr ⟨rfl, _, _, rfl, rfl⟩))
  | send q x =>
    have hq : q < P := hR.1
    have ad : addD g (.lst ((S.lets q).map letD)) (.lst [letD x]) = some (.lst ((S.lets q ++ [x]).map letD)) := by
      unfold addD
      have := hO.ll q
      simp only [lsD_lst, List.length_map, okL_of (show (S.lets q).length + [letD x].length ≤ 16777216 by simp; omega), List.map_append, List.map_cons, List.map_nil]
    have sb := sub_gen (o := vOp ixC (vVar 0) (vC (.str 8))) (i := vOp ixD (vVar 2) (vC (.int 1))) (m := vOp addD (vOp ixD (vOp ixC (vVar 0) (vC (.str 8))) (vOp ixD (vVar 2) (vC (.int 1)))) (vLst (aCons (vOp ixD (vVar 2) (vC (.int 2))) aNil))) (e := [some (.ref wd), some (.int (p : Int)), some (.tup [.str 12, .int (q : Int), letD x]), some (.str 12), none, none, none, none]) (g := g) (x := wx) (c := (q : Int)) (y := .lst ((S.lets q ++ [x]).map letD)) (by simp only [vOp_e, vVar_e, List.getElem?_cons_zero, List.getElem?_cons_succ, Res.bind, vC_e, i8, oR_some, ixD_tup, at1, at2, L.atX hq, vLst_s, aCons_e, aNil_e, (show okL [letD x].length = true from rfl), ad]) (by simp [i8]) (by simp [at1]) L.x (by omega) (by simpa using hq)
    rw [Int.toNat_natCast] at sb
    refine ⟨_, ?_, L.setX hq, fun j => out wx _ j (.inr (.inr rfl)), by simp⟩
    unfold c__law_due_11 c__law_due_8
    simp only [Rq4.d, sSeq_e, sAsg_e, vOp_e, vVar_e, List.getElem?_cons_zero, List.getElem?_cons_succ, Res.bind, vC_e, ixD_tup, at0, oR_some, sBind, List.set, sIf_e, tOf_e, eq_str, (show ((12 : Nat) == 10) = false from rfl), (show ((12 : Nat) == 14) = false from rfl), (show ((12 : Nat) == 12) = true from rfl), bR_bl, cond_false, cond_true, sNx_e, sb, sRet_e, endM_rt, doR]
  | take =>
    have pl : ∀ ls : List Lt, pud 8 (.lst (ls.map letD)) = true := fun ls => by
      rw [pud_lst]
      exact all_pud ls fun x => pud_lt x
    have eq0 : eqD g (.lst ((S.lets p).map letD)) (.lst []) = some (.bl ((S.lets p).isEmpty)) := by
      rw [eqD_e (by simp only [snap_lst, pl]; rfl)]
      cases S.lets p <;> simp [deq, deqs]
    have vl : ∀ e g, vLst aNil e g = .ok (.lst []) g := fun e g => vLst_e rfl rfl
    unfold c__law_due_11 c__law_due_8 c__law_due_7
    cases hL : S.lets p with
    | nil =>
      rw [hL] at eq0
      simp only [doR, hL]
      refine ⟨g, ?_, L, fun _ _ _ _ => rfl, rfl⟩
      have ax := L.atX hp
      rw [hL] at ax
      simp only [Rq4.d, sSeq_e, sAsg_e, vOp_e, vVar_e, List.getElem?_cons_zero, List.getElem?_cons_succ, Res.bind, vC_e, ixD_tup, at0, oR_some, sBind, List.set, sIf_e, tOf_e, eq_str, (show ((13 : Nat) == 10) = false from rfl), (show ((13 : Nat) == 14) = false from rfl), (show ((13 : Nat) == 12) = false from rfl), (show ((13 : Nat) == 13) = true from rfl), bR_bl, cond_false, cond_true, sNx_e, i8, ax, vl, eq0, List.isEmpty_nil, sRet_e, endM_rt]
    | cons x ls =>
      rw [hL] at eq0
      have ax := L.atX hp
      rw [hL] at ax
      simp only [doR, hL]
      have hL1 : LS _ wd wh wb wx P _ := L.setX hp (ls := ls)
      have lg1 : (g.set wx (.lst (((List.range P).map fun p => D.lst ((S.lets p).map letD)).set p (.lst (ls.map letD))))).length = g.length := by simp
      have f1 : ∀ j, j ≠ wh → j ≠ wb → j ≠ wx → (g.set wx (.lst (((List.range P).map fun p => D.lst ((S.lets p).map letD)).set p (.lst (ls.map letD)))))[j]? = g[j]? := fun j => out wx _ j (.inr (.inr rfl))
      have sx := sub_gen (o := vOp ixC (vVar 0) (vC (.str 8))) (i := vVar 1) (m := vSl (vOp ixD (vOp ixC (vVar 0) (vC (.str 8))) (vVar 1)) (some (vC (.int 1))) none) (e := [some (.ref wd), some (.int (p : Int)), some (.tup [.str 13]), some (.str 13), none, some (.int x.1), some (.tup (x.2.map pairD)), none]) (g := g) (x := wx) (c := (p : Int)) (y := .lst (ls.map letD)) (by simp [vSl, i8, ax, slD, cut1]) (by simp [i8]) rfl L.x (by omega) (by simpa using hp)
      rw [Int.toNat_natCast] at sx
      generalize hG1 : g.set wx (.lst (((List.range P).map fun p => D.lst ((S.lets p).map letD)).set p (.lst (ls.map letD)))) = g1 at *
      obtain ⟨j43, j1, j7, j8⟩ := hL1.ix
      have ab := hL1.atB hp
      have hL2 : LS _ wd wh wb wx P _ := hL1.setB hp (rs := (S.rows p).filter (keepB x.2))
      have hlc := lcR_pure (gm := gN 7) (t := tOf (vOp (inD true) (vSl (vVar 7) none (some (vC (.int 2)))) (vVar 6))) (m := vVar 7) (e := [some (.ref wd), some (.int (p : Int)), some (.tup [.str 13]), some (.str 13), none, some (.int x.1), some (.tup (x.2.map pairD)), none]) (g := g1) (s := .vals ((S.rows p).map rowD)) rowD (keepB x.2) rowD (S.rows p) rfl (okL_of (by have := hO.rl p; omega)) (fun r hr => by
        refine ⟨_, rfl, ?_, fun _ => rfl⟩
        have ir := inD_row (g := g1) x.2 true r
        simp only [pairsD, cond_true] at ir
        simp [vSl, slD_row, ir])
      have sbb := sub_gen (o := vOp ixC (vVar 0) (vC (.str 7))) (i := vVar 1) (m := vLc [7] (iLst (vOp ixD (vOp ixC (vVar 0) (vC (.str 7))) (vVar 1))) (gN 7) (tOf (vOp (inD true) (vSl (vVar 7) none (some (vC (.int 2)))) (vVar 6))) (vVar 7)) (e := [some (.ref wd), some (.int (p : Int)), some (.tup [.str 13]), some (.str 13), none, some (.int x.1), some (.tup (x.2.map pairD)), none]) (g := g1) (x := wb) (c := (p : Int)) (y := .lst (((S.rows p).filter (keepB x.2)).map rowD)) (by
        have il : iLst (vOp ixD (vOp ixC (vVar 0) (vC (.str 7))) (vVar 1)) [some (.ref wd), some (.int (p : Int)), some (.tup [.str 13]), some (.str 13), none, some (.int x.1), some (.tup (x.2.map pairD)), none] g1 = .ok (.vals ((S.rows p).map rowD)) g1 := by
          unfold iLst
          simp only [vOp_e, vVar_e, List.getElem?_cons_zero, List.getElem?_cons_succ, Res.bind, vC_e, j7, oR_some, ab]
        simp only [vLc_e, il, Res.bind, wipeE_cons, wipeE_nil, List.set, hlc]) (by simp [j7]) rfl hL1.b (by omega) (by simpa using hp)
      rw [Int.toNat_natCast] at sbb
      have f2 : ∀ j, j ≠ wh → j ≠ wb → j ≠ wx → (g1.set wb (.lst (((List.range P).map fun p => D.lst ((S.rows p).map rowD)).set p (.lst (((S.rows p).filter (keepB x.2)).map rowD)))))[j]? = g1[j]? := fun j n1 n2 n3 => List.getElem?_set_ne (Ne.symm n2)
      have lg2 : (g1.set wb (.lst (((List.range P).map fun p => D.lst ((S.rows p).map rowD)).set p (.lst (((S.rows p).filter (keepB x.2)).map rowD))))).length = g1.length := by simp
      generalize hG2 : g1.set wb (.lst (((List.range P).map fun p => D.lst ((S.rows p).map rowD)).set p (.lst (((S.rows p).filter (keepB x.2)).map rowD)))) = g2 at *
      obtain ⟨u43, u1, u7, u8⟩ := hL2.ix
      have sh := sub_gen (o := vOp ixC (vVar 0) (vC (.str 1))) (i := vOp addD (vC (.int 1)) (vVar 1)) (m := vVar 5) (e := [some (.ref wd), some (.int (p : Int)), some (.tup [.str 13]), some (.str 13), none, some (.int x.1), some (.tup (x.2.map pairD)), none]) (g := g2) (x := wh) (c := 1 + (p : Int)) (y := .int x.1) rfl (by simp [u1]) rfl hL2.h (by omega) (by have := hO.len; show 1 + (p : Int) < (S.held.length : Int); omega)
      rw [show (1 + (p : Int)).toNat = 1 + p by omega] at sh
      refine ⟨_, ?_, hL2.setH, fun j n1 n2 n3 => ?_, by simp [lg2, lg1]⟩
      · have tg : sTgt (vOp ixD (vOp ixD (vOp ixC (vVar 0) (vC (.str 8))) (vVar 1)) (vC (.int 0))) (gT 2 (gsC (gN 5) (gsC (gN 6) gsN))) [some (.ref wd), some (.int (p : Int)), some (.tup [.str 13]), some (.str 13), none, none, none, none] g = .nx [some (.ref wd), some (.int (p : Int)), some (.tup [.str 13]), some (.str 13), none, some (.int x.1), some (.tup (x.2.map pairD)), none] g := by
          have vv : (vOp ixD (vOp ixD (vOp ixC (vVar 0) (vC (.str 8))) (vVar 1)) (vC (.int 0))) [some (.ref wd), some (.int (p : Int)), some (.tup [.str 13]), some (.str 13), none, none, none, none] g = .ok (letD x) g := by
            simp [i8, ax, at0]
          unfold sTgt
          rw [vv]
          rfl
        unfold c__law_due_6 c__law_due_5 c__law_due_4 c__law_due_3 c__law_due_2
        rw [sSeq_e]
        simp only [Rq4.d, sAsg_e, vOp_e, vVar_e, List.getElem?_cons_zero, List.getElem?_cons_succ, Res.bind, vC_e, ixD_tup, at0, oR_some, sBind, List.set]
        rw [sSeq_e]
        simp only [sIf_e, tOf_e, vOp_e, vVar_e, List.getElem?_cons_zero, List.getElem?_cons_succ, Res.bind, vC_e, oR_some, eq_str, (show ((13 : Nat) == 10) = false from rfl), bR_bl, sBind, cond_false, sNx_e]
        rw [sSeq_e]
        simp only [sIf_e, tOf_e, vOp_e, vVar_e, List.getElem?_cons_zero, List.getElem?_cons_succ, Res.bind, vC_e, oR_some, eq_str, (show ((13 : Nat) == 14) = false from rfl), bR_bl, sBind, cond_false, sNx_e]
        rw [sSeq_e]
        simp only [sIf_e, tOf_e, vOp_e, vVar_e, List.getElem?_cons_zero, List.getElem?_cons_succ, Res.bind, vC_e, oR_some, eq_str, (show ((13 : Nat) == 12) = false from rfl), bR_bl, sBind, cond_false, sNx_e]
        rw [sSeq_e]
        simp only [sIf_e, tOf_e, vOp_e, vVar_e, List.getElem?_cons_zero, List.getElem?_cons_succ, Res.bind, vC_e, oR_some, eq_str, (show ((13 : Nat) == 13) = true from rfl), bR_bl, sBind, cond_true, sSeq_e, i8, ax, vl, eq0, List.isEmpty_cons, cond_false, sNx_e]
        rw [tg]
        simp only [sSeq_e, sx, sbb, sh, sRet_e, vC_e, sBind, endM_rt]
      · rw [List.getElem?_set_ne (Ne.symm n1), f2 j n1 n2 n3]
        exact f1 j n1 n2 n3
end

/-! ### the request that is drawn -/
theorem req_ok {g : G} {wd P : Nat} (hw : ixC g (.ref wd) (.str 43) = some (.int (P : Int))) (hP0 : 0 < P) (hP : P ≤ 3) {n k o : Int} (n0 : 0 ≤ n) (n1 : n < 1000) (k0 : 0 ≤ k) (k1 : k < 1000) (o0 : 0 ≤ o) (o1 : o < 1000) :
    ∃ R : Rq4, R.ok P ∧ m__law_request [.ref wd, .int n, .int k, .int o] g = .ok (R.d P) g := by
  have start : m__law_request [.ref wd, .int n, .int k, .int o] g = endM (b__law_request [some (.ref wd), some (.int n), some (.int k), some (.int o), none, none, none, none, none] g) := rfl
  have md : ∀ (i j : Int), 0 < j → modD g (.int i) (.int j) = some (.int (i % j)) := fun i j h => modD_e h
  have dv : ∀ (i j : Int), 0 < j → j < 1000 → divD g (.int i) (.int j) = some (.int (i / j)) := fun i j h h2 => divD_e h (by omega)
  obtain ⟨pg, hpg, p0, p1⟩ : ∃ pg : Int, atI [D.int 0, .int 1, .int 2, .int 7] (k / 2 % 4) = some (.int pg) ∧ 0 ≤ pg ∧ pg < 8 := by
    have h : k / 2 % 4 = 0 ∨ k / 2 % 4 = 1 ∨ k / 2 % 4 = 2 ∨ k / 2 % 4 = 3 := by omega
    rcases h with h | h | h | h <;> rw [h]
    · exact ⟨0, rfl, by decide, by decide⟩
    · exact ⟨1, rfl, by decide, by decide⟩
    · exact ⟨2, rfl, by decide, by decide⟩
    · exact ⟨7, rfl, by decide, by decide⟩
  have s0 : 0 ≤ k % 2 := by omega
  have s1 : k % 2 < 2 := by omega
  have q0 : 0 ≤ n % 10 := by omega
  have q1 : n % 10 < 10 := by omega
  have head : m__law_request [.ref wd, .int n, .int k, .int o] g = endM (c__law_request_8 [some (.ref wd), some (.int n), some (.int k), some (.int o), some (.int (k % 2)), some (.int pg), some (.int (n % 10)), none, none] g) := by
    rw [start]
    unfold b__law_request c__law_request_10 c__law_request_9
    simp only [sSeq_e, sAsg_e, vOp_e, vVar_e, List.getElem?_cons_zero, List.getElem?_cons_succ, Res.bind, vC_e, md _ 2 (by decide), md _ 4 (by decide), md _ 10 (by decide), dv _ 2 (by decide) (by decide), oR_some, sBind, List.set, vLst_s, aCons_e, aNil_e, (show okL [D.int 0, .int 1, .int 2, .int 7].length = true from rfl), ixD_lst, hpg]
  rw [head]
  generalize n % 10 = q at q0 q1
  generalize k % 2 = sp at s0 s1
  have pk : pgOk sp pg := ⟨⟨s0, by omega⟩, p0, p1⟩
  have m8 : mulD g (.int 8) (.int sp) = some (.int (8 * sp)) := mulD_l (by decide) (by decide)
  have lt : ∀ b : Int, ltD g (.int q) (.int b) = some (.bl (decide (q < b))) := fun b => rfl
  unfold c__law_request_8
  by_cases h2 : q < 2
  · obtain ⟨w, hw4, hwd⟩ : ∃ w : Wd, w.ok4 ∧ atI [D.tup [.str 18, .int (o % 4), .bl (o / 4 % 2 == 0)], .tup [.str 18, .int 0, .bl true], .non, .tup [.str 11, .int 1]] (o / 8 % 4) = some w.d := by
      have h : o / 8 % 4 = 0 ∨ o / 8 % 4 = 1 ∨ o / 8 % 4 = 2 ∨ o / 8 % 4 = 3 := by omega
      rcases h with h | h | h | h <;> rw [h]
      · exact ⟨.frame (o % 4) (o / 4 % 2 == 0), ⟨by omega, by omega⟩, rfl⟩
      · exact ⟨.frame 0 true, ⟨by decide, by decide⟩, rfl⟩
      · exact ⟨.non, trivial, rfl⟩
      · exact ⟨.other [.int 1] 11, ⟨by decide, by simp⟩, rfl⟩
    refine ⟨.word sp pg w, ⟨pk, hw4⟩, ?_⟩
    simp only [sSeq_e, sIf_e, tOf_e, vOp_e, vVar_e, List.getElem?_cons_zero, List.getElem?_cons_succ, Res.bind, vC_e, lt, decide_eq_true h2, oR_some, bR_bl, sBind, cond_true, sAsg_e, vLst_s, aCons_e, aNil_e, vTup_s, md _ 4 (by decide), md _ 2 (by decide), dv _ 4 (by decide) (by decide), dv _ 8 (by decide) (by decide), eq_int, (show okL [D.str 18, .int (o % 4), .bl (o / 4 % 2 == 0)].length = true from rfl), (show okL [D.str 18, .int 0, .bl true].length = true from rfl), (show okL [D.str 11, .int 1].length = true from rfl), (show okL [D.tup [.str 18, .int (o % 4), .bl (o / 4 % 2 == 0)], .tup [.str 18, .int 0, .bl true], .non, .tup [.str 11, .int 1]].length = true from rfl), ixD_lst, hwd, List.set, hw, addD_int, m8, sRet_e, (show okL [D.str 10, .int (1 + (P : Int) + 8 * sp + pg), w.d].length = true from rfl), endM_rt, Rq4.d]
  rw [sSeq_e, sIf_e]
  simp only [tOf_e, vOp_e, vVar_e, List.getElem?_cons_zero, List.getElem?_cons_succ, Res.bind, vC_e, lt, decide_eq_false h2, oR_some, bR_bl, sBind, cond_false, sNx_e]
  unfold c__law_request_7
  by_cases h3 : q = 2
  · refine ⟨.cell (o % 8) o, ⟨by omega, by omega⟩, ?_⟩
    simp only [sSeq_e, sIf_e, tOf_e, vOp_e, vVar_e, List.getElem?_cons_zero, List.getElem?_cons_succ, Res.bind, vC_e, eq_int, beq_iff_eq.mpr h3, oR_some, bR_bl, sBind, cond_true, sRet_e, vTup_s, aCons_e, aNil_e, hw, addD_int, md _ 8 (by decide), (show okL [D.str 10, .int (33 + (P : Int) + o % 8), .int o].length = true from rfl), endM_rt, Rq4.d]
  rw [sSeq_e, sIf_e]
  simp only [tOf_e, vOp_e, vVar_e, List.getElem?_cons_zero, List.getElem?_cons_succ, Res.bind, vC_e, eq_int, beq_eq_false_iff_ne.mpr h3, oR_some, bR_bl, sBind, cond_false, sNx_e]
  unfold c__law_request_6
  by_cases h5 : q < 5
  · refine ⟨.walk sp pg, pk, ?_⟩
    simp only [sSeq_e, sIf_e, tOf_e, vOp_e, vVar_e, List.getElem?_cons_zero, List.getElem?_cons_succ, Res.bind, vC_e, lt, decide_eq_true h5, oR_some, bR_bl, sBind, cond_true, sRet_e, vTup_s, aCons_e, aNil_e, (show okL [D.str 14, .int sp, .int pg].length = true from rfl), endM_rt, Rq4.d]
  rw [sSeq_e, sIf_e]
  simp only [tOf_e, vOp_e, vVar_e, List.getElem?_cons_zero, List.getElem?_cons_succ, Res.bind, vC_e, lt, decide_eq_false h5, oR_some, bR_bl, sBind, cond_false, sNx_e]
  unfold c__law_request_5
  by_cases h6 : q = 5
  · refine ⟨.load sp pg (o % 2), ⟨pk, by omega, by omega⟩, ?_⟩
    simp only [sSeq_e, sIf_e, tOf_e, vOp_e, vVar_e, List.getElem?_cons_zero, List.getElem?_cons_succ, Res.bind, vC_e, eq_int, beq_iff_eq.mpr h6, oR_some, bR_bl, sBind, cond_true, sRet_e, vTup_s, aCons_e, aNil_e, md _ 2 (by decide), (show okL [D.str 15, .int sp, .int pg, .int (o % 2)].length = true from rfl), endM_rt, Rq4.d]
  rw [sSeq_e, sIf_e]
  simp only [tOf_e, vOp_e, vVar_e, List.getElem?_cons_zero, List.getElem?_cons_succ, Res.bind, vC_e, eq_int, beq_eq_false_iff_ne.mpr h6, oR_some, bR_bl, sBind, cond_false, sNx_e]
  unfold c__law_request_4
  by_cases h7 : q = 6
  · refine ⟨.store sp pg (o % 2) o, ⟨pk, by omega, by omega⟩, ?_⟩
    simp only [sSeq_e, sIf_e, tOf_e, vOp_e, vVar_e, List.getElem?_cons_zero, List.getElem?_cons_succ, Res.bind, vC_e, eq_int, beq_iff_eq.mpr h7, oR_some, bR_bl, sBind, cond_true, sRet_e, vTup_s, aCons_e, aNil_e, md _ 2 (by decide), (show okL [D.str 16, .int sp, .int pg, .int (o % 2), .int o].length = true from rfl), endM_rt, Rq4.d]
  rw [sSeq_e, sIf_e]
  simp only [tOf_e, vOp_e, vVar_e, List.getElem?_cons_zero, List.getElem?_cons_succ, Res.bind, vC_e, eq_int, beq_eq_false_iff_ne.mpr h7, oR_some, bR_bl, sBind, cond_false, sNx_e]
  unfold c__law_request_3
  by_cases h8 : q = 7
  · obtain ⟨x, hx⟩ : ∃ x : Int, atI [D.int (o / 2), .int 0] (o / 3 % 2) = some (.int x) := by
      have h : o / 3 % 2 = 0 ∨ o / 3 % 2 = 1 := by omega
      rcases h with h | h <;> rw [h]
      · exact ⟨_, rfl⟩
      · exact ⟨_, rfl⟩
    refine ⟨.change sp pg (o % 2) x (o / 5), ⟨pk, by omega, by omega⟩, ?_⟩
    simp only [sSeq_e, sIf_e, tOf_e, vOp_e, vVar_e, List.getElem?_cons_zero, List.getElem?_cons_succ, Res.bind, vC_e, eq_int, beq_iff_eq.mpr h8, oR_some, bR_bl, sBind, cond_true, sRet_e, vTup_s, aCons_e, aNil_e, md _ 2 (by decide), dv _ 2 (by decide) (by decide), dv _ 3 (by decide) (by decide), dv _ 5 (by decide) (by decide), vLst_s, (show okL [D.int (o / 2), .int 0].length = true from rfl), ixD_lst, hx, (show okL [D.str 17, .int sp, .int pg, .int (o % 2), .int x, .int (o / 5)].length = true from rfl), endM_rt, Rq4.d]
  rw [sSeq_e, sIf_e]
  simp only [tOf_e, vOp_e, vVar_e, List.getElem?_cons_zero, List.getElem?_cons_succ, Res.bind, vC_e, eq_int, beq_eq_false_iff_ne.mpr h8, oR_some, bR_bl, sBind, cond_false, sNx_e]
  unfold c__law_request_2
  by_cases h9 : q = 8
  · have zq0 : 0 ≤ o % (P : Int) := Int.emod_nonneg _ (by omega)
    have zq1 : o % (P : Int) < P := Int.emod_lt_of_pos _ (by omega)
    obtain ⟨z, hz⟩ := Int.eq_ofNat_of_zero_le zq0
    obtain ⟨ps, hps, l1, l2, al⟩ : ∃ ps : List (Int × Int), slD g (.lst [.tup [.int sp, .int pg], .tup [.int (o % 2), .int (o / 2 % 8)]]) none (some (1 + o / 16 % 2)) = some (.lst (ps.map pairD)) ∧ 1 ≤ ps.length ∧ ps.length ≤ 10 ∧ ps.all (fun q => okP q.1 q.2) = true := by
      have o2 : okP sp pg = true := by simp [okP]; omega
      have o3 : okP (o % 2) (o / 2 % 8) = true := by simp [okP]; omega
      have h : o / 16 % 2 = 0 ∨ o / 16 % 2 = 1 := by omega
      rcases h with h | h <;> rw [h]
      · exact ⟨[(sp, pg)], rfl, Nat.le_refl _, by simp, by simp [o2]⟩
      · exact ⟨[(sp, pg), (o % 2, o / 2 % 8)], rfl, by simp, by simp, by simp [o2, o3]⟩
    have tu : tupleD g [.lst (ps.map pairD)] = some (.tup (ps.map pairD)) := rfl
    refine ⟨.send z (1 + o, ps), ⟨by omega, by show 1 ≤ 1 + o; omega, l1, l2, al⟩, ?_⟩
    have mP : modD g (.int o) (.int (P : Int)) = some (.int (z : Int)) := by rw [md _ _ (by omega), hz]
    have vs : vSl (vLst (aCons (vTup (aCons (vVar 4) (aCons (vVar 5) aNil))) (aCons (vTup (aCons (vOp modD (vVar 3) (vC (.int 2))) (aCons (vOp modD (vOp divD (vVar 3) (vC (.int 2))) (vC (.int 8))) aNil))) aNil))) none (some (vOp addD (vC (.int 1)) (vOp modD (vOp divD (vVar 3) (vC (.int 16))) (vC (.int 2))))) [some (.ref wd), some (.int n), some (.int k), some (.int o), some (.int sp), some (.int pg), some (.int q), none, none] g = .ok (.lst (ps.map pairD)) g := by
      unfold vSl
      simp only [vLst_s, aCons_e, vTup_s, vVar_e, List.getElem?_cons_zero, List.getElem?_cons_succ, Res.bind, aNil_e, (show okL [D.int sp, .int pg].length = true from rfl), vOp_e, vC_e, md _ 2 (by decide), md _ 8 (by decide), dv _ 2 (by decide) (by decide), dv _ 16 (by decide) (by decide), oR_some, (show okL [D.int (o % 2), .int (o / 2 % 8)].length = true from rfl), (show okL [D.tup [.int sp, .int pg], .tup [.int (o % 2), .int (o / 2 % 8)]].length = true from rfl), addD_int, hps]
    simp only [sSeq_e, sIf_e, tOf_e, vOp_e, vVar_e, List.getElem?_cons_zero, List.getElem?_cons_succ, Res.bind, vC_e, eq_int, beq_iff_eq.mpr h9, oR_some, bR_bl, sBind, cond_true, sAsg_e, vCB_e, aCons_e, vs, aNil_e, tu, List.set, sRet_e, vTup_s, hw, mP, addD_int, (show okL [D.int (1 + o), .tup (ps.map pairD)].length = true from rfl), (show okL [D.str 12, .int (z : Int), .tup [.int (1 + o), .tup (ps.map pairD)]].length = true from rfl), endM_rt, Rq4.d, letD]
  rw [sSeq_e, sIf_e]
  simp only [tOf_e, vOp_e, vVar_e, List.getElem?_cons_zero, List.getElem?_cons_succ, Res.bind, vC_e, eq_int, beq_eq_false_iff_ne.mpr h9, oR_some, bR_bl, sBind, cond_false, sNx_e]
  refine ⟨.take, trivial, ?_⟩
  unfold c__law_request_1
  simp only [sRet_e, vTup_s, aCons_e, vC_e, Res.bind, aNil_e, (show okL [D.str 13].length = true from rfl), sBind, endM_rt, Rq4.d]
theorem same_ok {g : G} {n : Nat} {v : D} (h : pud n v = true) (hn : n ≤ 8) : m__law_same [v, v] g = .ok (.bl true) g := by
  have p8 : pud 8 v = true := pud_le hn h
  have e := pure_snap (g := g) h
  have q : eqD g v v = some (.bl true) := eq_same e e p8
  show endM (b__law_same [some v, some v] g) = _
  cases v with
  | scr _ => cases n <;> cases h
  | ref _ => cases n <;> cases h
  | rng _ _ => cases n <;> cases h
  | dic _ _ => cases n <;> cases h
  | _ => simp [b__law_same, q, eq_bl]
/-! ### the looks -/
theorem looks_ok {g : G} {m s h r P : Nat} {N B cnt : Int} {bA xA yA : Nat → Nat} {ld : Nat → D} {St : Nat → Prop} {log : List D} {S : S4} {wd wh wb wx : Nat} (M : MC g m s h r (P : Int) N B cnt (refsF P bA) (refsF P xA) S.held log) (X : MX g P bA xA yA ld S.rows S.lets St) (L : LS g wd wh wb wx P S) (hP : P ≤ 3) :
    ∃ os : G, m__law_looks [.ref m, .ref wd] g = .ok (.bl true) (g ++ os) := by
  show ∃ os : G, endM (b__law_looks [some (.ref m), some (.ref wd), none] g) = _
  obtain ⟨i43, i1, i7, i8⟩ := L.ix
  have ir : iRng1 (vOp ixC (vVar 1) (vC (.str 43))) [some (.ref m), some (.ref wd), none] g = .ok (.vals (rngL 0 P)) g := rng_of (n := P) (by simp [i43]) (by omega)
  unfold b__law_looks
  refine seq_rng (Q := fun r => ∃ os : G, endM r = .ok (.bl true) (g ++ os)) (fun j e g' => ∃ (os : G) (e2 : Option D), g' = g ++ os ∧ e = [some (.ref m), some (.ref wd), e2]) ir ⟨[], none, (List.append_nil g).symm, rfl⟩ ?_ ?_
  · rintro j e g' hj ⟨os, e2, rfl, rfl⟩
    refine ⟨_, rfl, ?_⟩
    simp only [List.set]
    have ap : ∀ {i : Nat} {o : Ob}, g[i]? = some o → (g ++ os)[i]? = g[i]? := fun e => List.getElem?_append_left (List.getElem?_eq_some_iff.mp e).1
    have M1 : MC (g ++ os) m s h r (P : Int) N B cnt (refsF P bA) (refsF P xA) S.held log := M.app
    have X1 : MX (g ++ os) P bA xA yA ld S.rows S.lets St := X.app
    have L1 : LS (g ++ os) wd wh wb wx P S := L.le (ap L.d) (ap L.h) (ap L.b) (ap L.x)
    obtain ⟨j43, j1, j7, j8⟩ := L1.ix
    have em := meth_e (nm := 42) (tbl := [(2, m_Buffer_entries)]) (o := vOp ixD (vFld [5] 7 (vVar 0)) (vVar 2)) (ms := aNil) (e := [some (.ref m), some (.ref wd), some (.int (j : Int))]) (g := g ++ os) (g2 := g ++ os) (ds := []) (by simp [M1.bufs, refs_at hj]) (X1.b j hj) rfl rfl rfl
    rw [entries_ok ⟨X1.b j hj, X1.l j hj⟩] at em
    have L2 : LS ((g ++ os) ++ [.lst ((S.rows j).map rowD)]) wd wh wb wx P S := by
      have ap2 : ∀ {i : Nat} {o : Ob}, (g ++ os)[i]? = some o → ((g ++ os) ++ [Ob.lst ((S.rows j).map rowD)])[i]? = (g ++ os)[i]? := fun e => List.getElem?_append_left (List.getElem?_eq_some_iff.mp e).1
      exact L1.le (ap2 L1.d) (ap2 L1.h) (ap2 L1.b) (ap2 L1.x)
    obtain ⟨k43, k1, k7, k8⟩ := L2.ix
    have pr : pud 8 (.lst ((S.rows j).map rowD)) = true := by
      rw [pud_lst]
      exact pud_rows _
    have ne1 := ne_same (g := (g ++ os) ++ [.lst ((S.rows j).map rowD)]) (x := .ref (g ++ os).length) (y := .lst ((S.rows j).map rowD)) (snap_of (lsD_ref get_snoc')) rfl pr
    have M2 : MC ((g ++ os) ++ [.lst ((S.rows j).map rowD)]) m s h r (P : Int) N B cnt (refsF P bA) (refsF P xA) S.held log := M1.app
    have X2 : MX ((g ++ os) ++ [.lst ((S.rows j).map rowD)]) P bA xA yA ld S.rows S.lets St := X1.app
    have B1 := L2.atB hj
    generalize hG : (g ++ os) ++ [Ob.lst ((S.rows j).map rowD)] = g2 at *
    have lm := meth_e (nm := 41) (tbl := [(3, m_Box_letters)]) (o := vOp ixD (vFld [5] 8 (vVar 0)) (vVar 2)) (ms := aNil) (e := [some (.ref m), some (.ref wd), some (.int (j : Int))]) (g := g2) (g2 := g2) (ds := []) (by simp [M2.boxs, refs_at hj]) (X2.x j hj) rfl rfl rfl
    rw [letters_ok (X2.x j hj) (X2.y j hj)] at lm
    have L3 : LS (g2 ++ [.lst ((S.lets j).map letD)]) wd wh wb wx P S := by
      have ap2 : ∀ {i : Nat} {o : Ob}, g2[i]? = some o → (g2 ++ [Ob.lst ((S.lets j).map letD)])[i]? = g2[i]? := fun e => List.getElem?_append_left (List.getElem?_eq_some_iff.mp e).1
      exact L2.le (ap2 L2.d) (ap2 L2.h) (ap2 L2.b) (ap2 L2.x)
    obtain ⟨u43, u1, u7, u8⟩ := L3.ix
    have pl : pud 8 (.lst ((S.lets j).map letD)) = true := by
      rw [pud_lst]
      exact all_pud _ fun x => pud_lt x
    have ne2 := ne_same (g := g2 ++ [.lst ((S.lets j).map letD)]) (x := .ref g2.length) (y := .lst ((S.lets j).map letD)) (snap_of (lsD_ref get_snoc')) rfl pl
    have X3 := L3.atX hj
    have run : sIf (tOr (tOf (vOp neD (vMeth 42 [(2, m_Buffer_entries)] (vOp ixD (vFld [5] 7 (vVar 0)) (vVar 2)) aNil) (vOp ixD (vOp ixC (vVar 1) (vC (.str 7))) (vVar 2)))) (tOf (vOp neD (vMeth 41 [(3, m_Box_letters)] (vOp ixD (vFld [5] 8 (vVar 0)) (vVar 2)) aNil) (vOp ixD (vOp ixC (vVar 1) (vC (.str 8))) (vVar 2))))) (sRet (vC (.bl false))) sNx [some (.ref m), some (.ref wd), some (.int (j : Int))] (g ++ os) = .nx [some (.ref m), some (.ref wd), some (.int (j : Int))] (g2 ++ [.lst ((S.lets j).map letD)]) := by
      simp only [sIf_e, tOr_e, tOf_e, vOp_e, em, Res.bind, vVar_e, List.getElem?_cons_zero, List.getElem?_cons_succ, vC_e, k7, B1, oR_some, ne1, bR_bl, cond_false, lm, u8, X3, ne2, sBind, sNx_e]
    rw [run]
    refine ⟨os ++ [.lst ((S.rows j).map rowD)] ++ [.lst ((S.lets j).map letD)], _, ?_, rfl⟩
    rw [← hG]
    simp [List.append_assoc]
  · rintro e g' ⟨os, e2, rfl, rfl⟩
    exact ⟨os, rfl⟩

/-! ### the loop -/
def StL (r wh wb wx ll : Nat) : Nat → Prop := fun i => i = 3 ∨ i = r ∨ i = wh ∨ i = wb ∨ i = wx ∨ i = ll
structure Iv (g : G) (P r wd wh wb wx ll : Nat) (bA xA yA : Nat → Nat) (ld : Nat → D) (j : Nat) (S : S4) (log : List D) : Prop where
  M : MC g 2 1 3 r (P : Int) 4 3 (j : Int) (refsF P bA) (refsF P xA) S.held log
  X : MX g P bA xA yA ld S.rows S.lets (StL r wh wb wx ll)
  L : LS g wd wh wb wx P S
  lg : g[ll]? = some (.lst log)
  ne : (wh ≠ 3 ∧ wh ≠ r) ∧ (wb ≠ 3 ∧ wb ≠ r) ∧ (wx ≠ 3 ∧ wx ≠ r) ∧ (ll ≠ 3 ∧ ll ≠ r) ∧ ll ≠ wh ∧ ll ≠ wb ∧ ll ≠ wx
  O : Ok4 P j S
  ln : log.length = j
  pl : ∀ v ∈ log, pud 7 v = true
theorem rq_pud {P : Nat} {R : Rq4} (h : R.ok P) : pud 6 (R.d P) = true := by
  cases R with
  | word a b w => simp [Rq4.d, wd_pud h.2]
  | send q x => simp [Rq4.d, pud_lt x (n := 2)]
  | _ => rfl
theorem body_ok {Tl : List Int} {Sc e4 e8 e9 e10 e11 e12 e13 : Option D} {g : G} {P r wd wh wb wx ll j : Nat} {bA xA yA : Nat → Nat} {ld : Nat → D} {S : S4} {log : List D} (hT : Nice Tl) (hP0 : 0 < P) (hP : P ≤ 3) (hj : j < 90) (I : Iv g P r wd wh wb wx ll bA xA yA ld j S log) :
    ∃ g' yA' ld' S' log' f8 f9 f10 f11 f12, c_law_9 [Sc, some (.lst (Tl.map D.int)), some (.int (P : Int)), some (.ref 2), e4, some (.ref wd), some (.ref ll), some (.int (j : Int)), e8, e9, e10, e11, e12, e13] g = .nx [Sc, some (.lst (Tl.map D.int)), some (.int (P : Int)), some (.ref 2), e4, some (.ref wd), some (.ref ll), some (.int (j : Int)), f8, f9, f10, f11, f12, e13] g' ∧ Iv g' P r wd wh wb wx ll bA xA yA' ld' (j + 1) S' log' := by
  have a1 : m__law_at [.lst (Tl.map D.int), .int ((j : Int) + 1)] g = .ok (.int (tk Tl (j + 1))) g := at_ok Tl (j + 1) g
  have a2 : m__law_at [.lst (Tl.map D.int), .int ((j : Int) + 2)] g = .ok (.int (tk Tl (j + 2))) g := at_ok Tl (j + 2) g
  have a3 : m__law_at [.lst (Tl.map D.int), .int ((j : Int) + 3)] g = .ok (.int (tk Tl (j + 3))) g := at_ok Tl (j + 3) g
  obtain ⟨n0, n1⟩ := tk_nice hT (j + 1)
  obtain ⟨k0, k1⟩ := tk_nice hT (j + 2)
  obtain ⟨o0, o1⟩ := tk_nice hT (j + 3)
  generalize tk Tl (j + 1) = n at a1 n0 n1
  generalize tk Tl (j + 2) = k at a2 k0 k1
  generalize tk Tl (j + 3) = o at a3 o0 o1
  have d10 : divD g (.int n) (.int 10) = some (.int (n / 10)) := divD_e (by decide) (by decide)
  have mP : modD g (.int (n / 10)) (.int (P : Int)) = some (.int (n / 10 % (P : Int))) := modD_e (by omega)
  have z0 : 0 ≤ n / 10 % (P : Int) := Int.emod_nonneg _ (by omega)
  have z1 : n / 10 % (P : Int) < P := Int.emod_lt_of_pos _ (by omega)
  obtain ⟨p, hp⟩ := Int.eq_ofNat_of_zero_le z0
  rw [hp] at mP z1
  have hpP : p < P := by omega
  obtain ⟨R, hR, hrq⟩ := req_ok I.L.ix.1 hP0 hP n0 n1 k0 k1 o0 o1
  obtain ⟨⟨e1, e2⟩, ⟨e3, e4'⟩, ⟨e5, e6⟩, ⟨e7, e8'⟩, e9', e10', e11'⟩ := I.ne
  obtain ⟨g1, hdue, L1, f1, lg1⟩ := due_ok I.L (n := j) (by omega) I.O hpP hP hR
  have h2n : ∀ i, (i = wh ∨ i = wb ∨ i = wx ∨ i = ll) → i ≠ 2 ∧ i ≠ 1 := fun i hi => by
    have hl : ∃ ds, g[i]? = some (.lst ds) := by
      rcases hi with rfl | rfl | rfl | rfl
      · exact ⟨_, I.L.h⟩
      · exact ⟨_, I.L.b⟩
      · exact ⟨_, I.L.x⟩
      · exact ⟨_, I.lg⟩
    obtain ⟨ds, hl⟩ := hl
    exact ⟨fun e => (by rw [e, I.M.mo] at hl; cases hl), fun e => (by rw [e, I.M.so] at hl; cases hl)⟩
  obtain ⟨b1, b2⟩ := h2n wh (.inl rfl)
  obtain ⟨b3, b4⟩ := h2n wb (.inr (.inl rfl))
  obtain ⟨b5, b6⟩ := h2n wx (.inr (.inr (.inl rfl)))
  obtain ⟨b7, b8⟩ := h2n ll (.inr (.inr (.inr rfl)))
  have M1 : MC g1 2 1 3 r (P : Int) 4 3 (j : Int) (refsF P bA) (refsF P xA) S.held log := I.M.le (f1 2 (Ne.symm b1) (Ne.symm b3) (Ne.symm b5)) (f1 1 (Ne.symm b2) (Ne.symm b4) (Ne.symm b6)) (f1 3 (Ne.symm e1) (Ne.symm e3) (Ne.symm e5)) (f1 r (Ne.symm e2) (Ne.symm e4') (Ne.symm e6))
  have X1 := I.X.fr (g' := g1) fun i hi ns _ => f1 i (fun e => ns (.inr (.inr (.inl e)))) (fun e => ns (.inr (.inr (.inr (.inl e))))) (fun e => ns (.inr (.inr (.inr (.inr (.inl e))))))
  have lgg : g1[ll]? = some (.lst log) := (f1 ll e9' e10' e11').trans I.lg
  have wdl : wd ≠ ll := fun e => by
    have := I.L.d
    rw [e, I.lg] at this
    cases this
  have L2 : LS (g1.set ll (.lst (log ++ [.tup [.int ((j : Int) + 1), .int (p : Int), R.d P]]))) wd wh wb wx P (doR P S p R).2 := L1.le (List.getElem?_set_ne (Ne.symm wdl)) (List.getElem?_set_ne e9') (List.getElem?_set_ne e10') (List.getElem?_set_ne e11')
  have M2 : MC (g1.set ll (.lst (log ++ [.tup [.int ((j : Int) + 1), .int (p : Int), R.d P]]))) 2 1 3 r (P : Int) 4 3 (j : Int) (refsF P bA) (refsF P xA) S.held log := M1.out b7 b8 e7 e8'
  have X2 := X1.at_ (a := ll) (o := .lst (log ++ [.tup [.int ((j : Int) + 1), .int (p : Int), R.d P]])) (.inr (.inr (.inr (.inr (.inr rfl)))))
  have lg2 : (g1.set ll (.lst (log ++ [.tup [.int ((j : Int) + 1), .int (p : Int), R.d P]])))[ll]? = some (.lst (log ++ [.tup [.int ((j : Int) + 1), .int (p : Int), R.d P]])) := List.getElem?_set_self (List.getElem?_eq_some_iff.mp lgg).1
  have app : vApp (vVar 6) (vTup (aCons (vOp addD (vVar 7) (vC (.int 1))) (aCons (vVar 9) (aCons (vVar 10) aNil)))) [Sc, some (.lst (Tl.map D.int)), some (.int (P : Int)), some (.ref 2), e4, some (.ref wd), some (.ref ll), some (.int (j : Int)), some (.int n), some (.int (p : Int)), some (R.d P), some (doR P S p R).1, e12, e13] g1 = .ok .non (g1.set ll (.lst (log ++ [.tup [.int ((j : Int) + 1), .int (p : Int), R.d P]]))) := by
    refine app_e (l := ll) (ds := log) (ds' := log) (g1 := g1) (g2 := g1) rfl lgg ?_ lgg (by have := I.ln; omega)
    simp [vTup_s, okL_s]
  generalize hG2 : g1.set ll (.lst (log ++ [.tup [.int ((j : Int) + 1), .int (p : Int), R.d P]])) = g2 at *
  obtain ⟨g3, yA', ld', hacc, M3, X3, R3, l3⟩ := mem_do M2 X2 (.inl rfl) (.inr (.inl rfl)) (n := j) (by omega) I.O hpP hR (fun i hi => by
    rcases hi with rfl | rfl | rfl | rfl | rfl | rfl
    · exact (List.getElem?_eq_some_iff.mp M2.ho).1
    · exact (List.getElem?_eq_some_iff.mp M2.ro).1
    · exact (List.getElem?_eq_some_iff.mp L2.h).1
    · exact (List.getElem?_eq_some_iff.mp L2.b).1
    · exact (List.getElem?_eq_some_iff.mp L2.x).1
    · exact (List.getElem?_eq_some_iff.mp lg2).1) (by have := I.ln; omega)
  have st3 : ∀ i ds, g2[i]? = some (.lst ds) → StL r wh wb wx ll i → i ≠ 3 → i ≠ r → g3[i]? = some (.lst ds) := fun i ds h1 h2 h3 h4 => by
    rw [R3 i (List.getElem?_eq_some_iff.mp h1).1 (fun e => by rw [e, M2.mo] at h1; cases h1) h3 h4 (fun q hq => ⟨fun e => (X2.ns q hq).1 (e ▸ h2), fun e => (X2.ns q hq).2.1 (e ▸ h2), fun e => (X2.ns q hq).2.2 (e ▸ h2)⟩)]
    exact h1
  have wd3 : g3[wd]? = g2[wd]? := by
    have h1 := L2.d
    refine R3 wd (List.getElem?_eq_some_iff.mp h1).1 (fun e => ?_) (fun e => ?_) (fun e => ?_) (fun q hq => ⟨fun e => ?_, fun e => ?_, fun e => ?_⟩)
    · rw [e, M2.mo] at h1; cases h1
    · rw [e, M2.ho] at h1; cases h1
    · rw [e, M2.ro] at h1; cases h1
    · rw [e, X2.b q hq] at h1; cases h1
    · rw [e, X2.x q hq] at h1; cases h1
    · rw [e, X2.y q hq] at h1; cases h1
  have L3 : LS g3 wd wh wb wx P (doR P S p R).2 := L2.le wd3 ((st3 wh _ L2.h (.inr (.inr (.inl rfl))) e1 e2).trans L2.h.symm) ((st3 wb _ L2.b (.inr (.inr (.inr (.inl rfl)))) e3 e4').trans L2.b.symm) ((st3 wx _ L2.x (.inr (.inr (.inr (.inr (.inl rfl))))) e5 e6).trans L2.x.symm)
  have lg3 := st3 ll _ lg2 (.inr (.inr (.inr (.inr (.inr rfl))))) e7 e8'
  obtain ⟨os, hlook⟩ := looks_ok M3 X3 L3 hP
  have do4 := do_ok4 I.O hR hpP
  have ap4 : ∀ {i : Nat} {o : Ob}, g3[i]? = some o → (g3 ++ os)[i]? = g3[i]? := fun e => List.getElem?_append_left (List.getElem?_eq_some_iff.mp e).1
  have I4 : Iv (g3 ++ os) P r wd wh wb wx ll bA xA yA' ld' (j + 1) (doR P S p R).2 (log ++ [.tup [.int ((j : Int) + 1), .int (p : Int), R.d P]]) := by
    refine ⟨?_, X3.app, L3.le (ap4 L3.d) (ap4 L3.h) (ap4 L3.b) (ap4 L3.x), (ap4 lg3).trans lg3, I.ne, do4.1, by simp [I.ln], fun v hv => ?_⟩
    · have : ((j + 1 : Nat) : Int) = (j : Int) + 1 := by omega
      rw [this]
      exact M3.app
    · rcases List.mem_append.mp hv with z | z
      · exact I.pl v z
      · rw [List.mem_singleton.mp z]
        simp [rq_pud hR]
  have sm := same_ok (g := g3) do4.2 (by decide)
  have am := M2.meth (nm := 31) (tbl := [(5, m_Memory_access)]) (o := vVar 3) (ms := aCons (vVar 9) (aCons (vVar 10) aNil)) (e := [Sc, some (.lst (Tl.map D.int)), some (.int (P : Int)), some (.ref 2), e4, some (.ref wd), some (.ref ll), some (.int (j : Int)), some (.int n), some (.int (p : Int)), some (R.d P), some (doR P S p R).1, e12, e13]) (g2 := g2) (ds := [.int (p : Int), R.d P]) rfl rfl rfl rfl
  rw [hacc] at am
  refine ⟨g3 ++ os, yA', ld', _, _, some (.int n), some (.int (p : Int)), some (R.d P), some (doR P S p R).1, some (.tup [(doR P S p R).1, .int ((j : Int) + 1)]), ?_, I4⟩
  unfold c_law_9 c_law_8 c_law_7 c_law_6 c_law_5 c_law_4 c_law_3
  simp only [sSeq_e, sAsg_e, vCall_e, aCons_e, aNil_e, vOp_e, vVar_e, vC_e, List.getElem?_cons_zero, List.getElem?_cons_succ, Res.bind, addD_int, oR_some, a1, sBind, List.set, d10, mP, hp, a2, a3, hrq, hdue, sDrop_e, app, am, sIf_e, tOr_e, tNot_e, tTru_e, vUn_e, isiD_tup, tsub_tuple_tuple, truD_bl, Bool.not_true, cond_false, tOf_e, ixD_tup, at1, at0, ne_int, beq_self_eq_true, bR_bl, sm, hlook, sNx_e]

/-! ### the start -/
theorem peeks {g : G} {m s h r : Nat} {Pn N B cnt : Int} {bs xs : D} {held log : List D} (M : MC g m s h r Pn N B cnt bs xs held log) {n : Nat} (hn : held.length = n) {e : En} (e3 : e[3]? = some (some (.ref m))) (h13 : 13 < e.length) : lcR (gN 13) tYes (vMeth 35 [(5, m_Memory_peek)] (vVar 3) (aCons (vVar 13) aNil)) (.vals (rngL 0 n)) e g = .ok held g := by
  subst hn
  have hl := M.hl
  rw [lcR_rng held.length (fun _ => true) (fun i => held.getD i .non) (by omega) (fun i hi => by
    obtain ⟨v, hv, vm⟩ := atI_mem (ds := held) (i := (i : Int)) (by omega) (by omega)
    have e3' : (e.set 13 (some (.int (i : Int))))[3]? = some (some (.ref m)) := by rw [List.getElem?_set_ne (by decide)]; exact e3
    refine ⟨e.set 13 (some (.int (i : Int))), rfl, rfl, fun _ => ?_⟩
    have a := M.meth (nm := 35) (tbl := [(5, m_Memory_peek)]) (o := vVar 3) (ms := aCons (vVar 13) aNil) (e := e.set 13 (some (.int (i : Int)))) (g2 := g) (ds := [.int (i : Int)]) (by simp [e3']) rfl rfl (by simp [List.getElem?_set_self h13])
    rw [a, M.peek_ok (by omega) (by omega) hv]
    have : held.getD i .non = v := by
      have q := atI_nat (xs := held) (j := i) (v := held.getD i .non) (by
        rw [List.getD_eq_getElem?_getD, List.getElem?_eq_getElem hi]
        rfl)
      rw [hv] at q
      exact (Option.some.inj q).symm
    rw [this])]
  congr 1
  rw [List.filter_eq_self.mpr (fun _ _ => rfl)]
  apply List.ext_getElem?
  intro i
  by_cases hi : i < held.length
  · simp [hi]
  · rw [List.getElem?_eq_none (by simpa using Nat.not_lt.mp hi), List.getElem?_eq_none (Nat.not_lt.mp hi)]
def S0 (held : List D) : S4 := ⟨held, fun _ => [], fun _ => []⟩
def held1 : List D := List.replicate 2 (.int 0) ++ List.replicate 32 .non ++ List.replicate 8 (.int 0) ++ List.replicate 11 (.tup [.int 0, .int 0])
def mem1 : G := [.dead, .ins 4 [(4, .int 1), (5, .int 4), (6, .int 3)], .ins 5 (memF 1 3 7 0 (.lst [.ref 4]) (.lst [.ref 5])), .lst held1, .ins 2 [(0, .lst [])], .ins 3 [(0, .ref 6)], .lst [], .lst []]
def dct1 (n : Nat) : Ob := .dct false ([(D.str 43, D.int 1), (.str 1, .ref 9), (.str 7, .ref 10), (.str 8, .ref 11)].take n)
def ls1 : Ob := .lst (List.replicate 1 (.lst []))
def all1 : G := mem1 ++ [dct1 4, .lst held1, ls1, ls1, .lst []]
theorem M1 : MC mem1 2 1 3 7 1 4 3 0 (refsF 1 fun p => 4 + p) (refsF 1 fun p => 4 + 1 + 2 * p) held1 [] := ⟨rfl, rfl, rfl, rfl, by decide, by decide, by decide⟩
theorem init1 {Sc Tp : Option D} : c_law_17 [Sc, Tp, some (.int 1), none, none, none, none, none, none, none, none, none, none, none] [.dead] = c_law_10 [Sc, Tp, some (.int 1), some (.ref 2), some (.int 53), some (.ref 8), some (.ref 12), none, none, none, none, none, none, none] all1 := by
  have v3 : vMake 5 m_Memory___init__ (aCons (vMake 4 m_Sizes___init__ (aCons (vVar 2) (aCons (vC (.int 4)) (aCons (vC (.int 3)) aNil)))) aNil) [Sc, Tp, some (.int 1), none, none, none, none, none, none, none, none, none, none, none] [.dead] = .ok (.ref 2) mem1 := rfl
  have v4 : vMeth 40 [(4, m_Sizes_cells)] (vFld [5] 2 (vVar 3)) aNil [Sc, Tp, some (.int 1), some (.ref 2), none, none, none, none, none, none, none, none, none, none] mem1 = .ok (.int 53) mem1 := rfl
  have v5 : vDctP (aCons (vLst (aCons (vTup (aCons (vC (.str 43)) (aCons (vVar 2) aNil))) aNil)) aNil) [Sc, Tp, some (.int 1), some (.ref 2), some (.int 53), none, none, none, none, none, none, none, none, none] mem1 = .ok (.ref 8) (mem1 ++ [dct1 1]) := rfl
  have MA : MC (mem1 ++ [dct1 1]) 2 1 3 7 1 4 3 0 (refsF 1 fun p => 4 + p) (refsF 1 fun p => 4 + 1 + 2 * p) held1 [] := M1.app
  have v6 : vLcO [13] (iRng1 (vVar 4)) (gN 13) tYes (vMeth 35 [(5, m_Memory_peek)] (vVar 3) (aCons (vVar 13) aNil)) [Sc, Tp, some (.int 1), some (.ref 2), some (.int 53), some (.ref 8), none, none, none, none, none, none, none, none] (mem1 ++ [dct1 1]) = .ok (.ref 9) (mem1 ++ [dct1 1] ++ [.lst held1]) := by
    have ir : iRng1 (vVar 4) [Sc, Tp, some (.int 1), some (.ref 2), some (.int 53), some (.ref 8), none, none, none, none, none, none, none, none] (mem1 ++ [dct1 1]) = .ok (.vals (rngL 0 53)) (mem1 ++ [dct1 1]) := rng_of (n := 53) rfl (by decide)
    simp only [vLcO_e, ir, Res.bind, wipeE_cons, wipeE_nil, List.set]
    rw [peeks MA (n := 53) rfl rfl (by simp)]
    rfl
  have s6 : sSubC (vVar 5) (vC (.str 1)) (vLcO [13] (iRng1 (vVar 4)) (gN 13) tYes (vMeth 35 [(5, m_Memory_peek)] (vVar 3) (aCons (vVar 13) aNil))) [Sc, Tp, some (.int 1), some (.ref 2), some (.int 53), some (.ref 8), none, none, none, none, none, none, none, none] (mem1 ++ [dct1 1]) = .nx [Sc, Tp, some (.int 1), some (.ref 2), some (.int 53), some (.ref 8), none, none, none, none, none, none, none, none] (mem1 ++ [dct1 2] ++ [.lst held1]) := by
    unfold sSubC
    rw [v6]
    rfl
  have s7 : sSubC (vVar 5) (vC (.str 7)) (vLcO [9] (iRng1 (vVar 2)) (gN 9) tYes (vLst aNil)) [Sc, Tp, some (.int 1), some (.ref 2), some (.int 53), some (.ref 8), none, none, none, none, none, none, none, none] (mem1 ++ [dct1 2] ++ [.lst held1]) = .nx [Sc, Tp, some (.int 1), some (.ref 2), some (.int 53), some (.ref 8), none, none, none, none, none, none, none, none] (mem1 ++ [dct1 3, .lst held1, ls1]) := rfl
  have s8 : sSubC (vVar 5) (vC (.str 8)) (vLcO [9] (iRng1 (vVar 2)) (gN 9) tYes (vLst aNil)) [Sc, Tp, some (.int 1), some (.ref 2), some (.int 53), some (.ref 8), none, none, none, none, none, none, none, none] (mem1 ++ [dct1 3, .lst held1, ls1]) = .nx [Sc, Tp, some (.int 1), some (.ref 2), some (.int 53), some (.ref 8), none, none, none, none, none, none, none, none] (mem1 ++ [dct1 4, .lst held1, ls1, ls1]) := rfl
  have v9 : ∀ e : En, vLstO aNil e (mem1 ++ [dct1 4, .lst held1, ls1, ls1]) = .ok (.ref 12) all1 := fun e => rfl
  unfold c_law_17 c_law_16 c_law_15 c_law_14 c_law_13 c_law_12 c_law_11
  rw [sSeq_e]
  simp only [sAsg_e, v3, sBind, List.set]
  rw [sSeq_e]
  simp only [sAsg_e, v4, sBind, List.set]
  rw [sSeq_e]
  simp only [sAsg_e, v5, sBind, List.set]
  rw [sSeq_e, s6]
  simp only []
  rw [sSeq_e, s7]
  simp only []
  rw [sSeq_e, s8]
  simp only []
  rw [sSeq_e]
  simp only [sAsg_e, v9, sBind, List.set]
theorem st1 : Iv all1 1 7 8 9 10 11 12 (fun p => 4 + p) (fun p => 4 + 1 + 2 * p) (fun p => 5 + 1 + 2 * p) (fun _ => .lst []) 0 (S0 held1) [] := by
  have lt : ∀ p, p < 1 → p = 0 := fun p hp => by omega
  refine ⟨M1.app, ⟨?_, fun p hp => rfl, ?_, ?_, fun p q _ _ e => by omega, fun p q _ _ e => by omega, fun p q _ _ e => by omega, fun p hp => ?_, fun p hp a ha => (by cases ha), fun p hp => Nat.zero_le 2, fun p hp => Nat.zero_le 900⟩, ⟨rfl, rfl, rfl, rfl, by decide⟩, rfl, by decide, ⟨rfl, ?_, ?_, fun p r hr => absurd hr List.not_mem_nil, fun p => Nat.zero_le 2, fun p => Nat.le_refl 0⟩, rfl, fun v hv => absurd hv List.not_mem_nil⟩
  · intro p hp
    rcases lt p hp with rfl <;> rfl
  · intro p hp
    rcases lt p hp with rfl <;> rfl
  · intro p hp
    rcases lt p hp with rfl <;> rfl
  · unfold StL
    omega
  · have : held1.all (pud 5) = true := by decide
    exact List.all_eq_true.mp this
  · intro c h1 h2
    refine ⟨.non, trivial, ?_⟩
    show (List.replicate 2 (D.int 0) ++ List.replicate 32 .non ++ List.replicate 8 (.int 0) ++ List.replicate 11 (.tup [.int 0, .int 0]))[c]? = some .non
    rw [List.getElem?_append_left (by simp; omega), List.getElem?_append_left (by simp; omega), List.getElem?_append_right (by simp; omega), List.getElem?_replicate, if_pos (by simp; omega)]
def held2 : List D := List.replicate 3 (.int 0) ++ List.replicate 32 .non ++ List.replicate 8 (.int 0) ++ List.replicate 11 (.tup [.int 0, .int 0])
def mem2 : G := [.dead, .ins 4 [(4, .int 2), (5, .int 4), (6, .int 3)], .ins 5 (memF 1 3 10 0 (.lst [.ref 4, .ref 5]) (.lst [.ref 6, .ref 8])), .lst held2, .ins 2 [(0, .lst [])], .ins 2 [(0, .lst [])], .ins 3 [(0, .ref 7)], .lst [], .ins 3 [(0, .ref 9)], .lst [], .lst []]
def dct2 (n : Nat) : Ob := .dct false ([(D.str 43, D.int 2), (.str 1, .ref 12), (.str 7, .ref 13), (.str 8, .ref 14)].take n)
def ls2 : Ob := .lst (List.replicate 2 (.lst []))
def all2 : G := mem2 ++ [dct2 4, .lst held2, ls2, ls2, .lst []]
theorem M2 : MC mem2 2 1 3 10 2 4 3 0 (refsF 2 fun p => 4 + p) (refsF 2 fun p => 4 + 2 + 2 * p) held2 [] := ⟨rfl, rfl, rfl, rfl, by decide, by decide, by decide⟩
theorem init2 {Sc Tp : Option D} : c_law_17 [Sc, Tp, some (.int 2), none, none, none, none, none, none, none, none, none, none, none] [.dead] = c_law_10 [Sc, Tp, some (.int 2), some (.ref 2), some (.int 54), some (.ref 11), some (.ref 15), none, none, none, none, none, none, none] all2 := by
  have v3 : vMake 5 m_Memory___init__ (aCons (vMake 4 m_Sizes___init__ (aCons (vVar 2) (aCons (vC (.int 4)) (aCons (vC (.int 3)) aNil)))) aNil) [Sc, Tp, some (.int 2), none, none, none, none, none, none, none, none, none, none, none] [.dead] = .ok (.ref 2) mem2 := rfl
  have v4 : vMeth 40 [(4, m_Sizes_cells)] (vFld [5] 2 (vVar 3)) aNil [Sc, Tp, some (.int 2), some (.ref 2), none, none, none, none, none, none, none, none, none, none] mem2 = .ok (.int 54) mem2 := rfl
  have v5 : vDctP (aCons (vLst (aCons (vTup (aCons (vC (.str 43)) (aCons (vVar 2) aNil))) aNil)) aNil) [Sc, Tp, some (.int 2), some (.ref 2), some (.int 54), none, none, none, none, none, none, none, none, none] mem2 = .ok (.ref 11) (mem2 ++ [dct2 1]) := rfl
  have MA : MC (mem2 ++ [dct2 1]) 2 1 3 10 2 4 3 0 (refsF 2 fun p => 4 + p) (refsF 2 fun p => 4 + 2 + 2 * p) held2 [] := M2.app
  have v6 : vLcO [13] (iRng1 (vVar 4)) (gN 13) tYes (vMeth 35 [(5, m_Memory_peek)] (vVar 3) (aCons (vVar 13) aNil)) [Sc, Tp, some (.int 2), some (.ref 2), some (.int 54), some (.ref 11), none, none, none, none, none, none, none, none] (mem2 ++ [dct2 1]) = .ok (.ref 12) (mem2 ++ [dct2 1] ++ [.lst held2]) := by
    have ir : iRng1 (vVar 4) [Sc, Tp, some (.int 2), some (.ref 2), some (.int 54), some (.ref 11), none, none, none, none, none, none, none, none] (mem2 ++ [dct2 1]) = .ok (.vals (rngL 0 54)) (mem2 ++ [dct2 1]) := rng_of (n := 54) rfl (by decide)
    simp only [vLcO_e, ir, Res.bind, wipeE_cons, wipeE_nil, List.set]
    rw [peeks MA (n := 54) rfl rfl (by simp)]
    rfl
  have s6 : sSubC (vVar 5) (vC (.str 1)) (vLcO [13] (iRng1 (vVar 4)) (gN 13) tYes (vMeth 35 [(5, m_Memory_peek)] (vVar 3) (aCons (vVar 13) aNil))) [Sc, Tp, some (.int 2), some (.ref 2), some (.int 54), some (.ref 11), none, none, none, none, none, none, none, none] (mem2 ++ [dct2 1]) = .nx [Sc, Tp, some (.int 2), some (.ref 2), some (.int 54), some (.ref 11), none, none, none, none, none, none, none, none] (mem2 ++ [dct2 2] ++ [.lst held2]) := by
    unfold sSubC
    rw [v6]
    rfl
  have s7 : sSubC (vVar 5) (vC (.str 7)) (vLcO [9] (iRng1 (vVar 2)) (gN 9) tYes (vLst aNil)) [Sc, Tp, some (.int 2), some (.ref 2), some (.int 54), some (.ref 11), none, none, none, none, none, none, none, none] (mem2 ++ [dct2 2] ++ [.lst held2]) = .nx [Sc, Tp, some (.int 2), some (.ref 2), some (.int 54), some (.ref 11), none, none, none, none, none, none, none, none] (mem2 ++ [dct2 3, .lst held2, ls2]) := rfl
  have s8 : sSubC (vVar 5) (vC (.str 8)) (vLcO [9] (iRng1 (vVar 2)) (gN 9) tYes (vLst aNil)) [Sc, Tp, some (.int 2), some (.ref 2), some (.int 54), some (.ref 11), none, none, none, none, none, none, none, none] (mem2 ++ [dct2 3, .lst held2, ls2]) = .nx [Sc, Tp, some (.int 2), some (.ref 2), some (.int 54), some (.ref 11), none, none, none, none, none, none, none, none] (mem2 ++ [dct2 4, .lst held2, ls2, ls2]) := rfl
  have v9 : ∀ e : En, vLstO aNil e (mem2 ++ [dct2 4, .lst held2, ls2, ls2]) = .ok (.ref 15) all2 := fun e => rfl
  unfold c_law_17 c_law_16 c_law_15 c_law_14 c_law_13 c_law_12 c_law_11
  rw [sSeq_e]
  simp only [sAsg_e, v3, sBind, List.set]
  rw [sSeq_e]
  simp only [sAsg_e, v4, sBind, List.set]
  rw [sSeq_e]
  simp only [sAsg_e, v5, sBind, List.set]
  rw [sSeq_e, s6]
  simp only []
  rw [sSeq_e, s7]
  simp only []
  rw [sSeq_e, s8]
  simp only []
  rw [sSeq_e]
  simp only [sAsg_e, v9, sBind, List.set]
theorem st2 : Iv all2 2 10 11 12 13 14 15 (fun p => 4 + p) (fun p => 4 + 2 + 2 * p) (fun p => 5 + 2 + 2 * p) (fun _ => .lst []) 0 (S0 held2) [] := by
  have lt : ∀ p, p < 2 → p = 0 ∨ p = 1 := fun p hp => by omega
  refine ⟨M2.app, ⟨?_, fun p hp => rfl, ?_, ?_, fun p q _ _ e => by omega, fun p q _ _ e => by omega, fun p q _ _ e => by omega, fun p hp => ?_, fun p hp a ha => (by cases ha), fun p hp => Nat.zero_le 2, fun p hp => Nat.zero_le 900⟩, ⟨rfl, rfl, rfl, rfl, by decide⟩, rfl, by decide, ⟨rfl, ?_, ?_, fun p r hr => absurd hr List.not_mem_nil, fun p => Nat.zero_le 2, fun p => Nat.le_refl 0⟩, rfl, fun v hv => absurd hv List.not_mem_nil⟩
  · intro p hp
    rcases lt p hp with rfl | rfl <;> rfl
  · intro p hp
    rcases lt p hp with rfl | rfl <;> rfl
  · intro p hp
    rcases lt p hp with rfl | rfl <;> rfl
  · unfold StL
    omega
  · have : held2.all (pud 5) = true := by decide
    exact List.all_eq_true.mp this
  · intro c h1 h2
    refine ⟨.non, trivial, ?_⟩
    show (List.replicate 3 (D.int 0) ++ List.replicate 32 .non ++ List.replicate 8 (.int 0) ++ List.replicate 11 (.tup [.int 0, .int 0]))[c]? = some .non
    rw [List.getElem?_append_left (by simp; omega), List.getElem?_append_left (by simp; omega), List.getElem?_append_right (by simp; omega), List.getElem?_replicate, if_pos (by simp; omega)]
def held3 : List D := List.replicate 4 (.int 0) ++ List.replicate 32 .non ++ List.replicate 8 (.int 0) ++ List.replicate 11 (.tup [.int 0, .int 0])
def mem3 : G := [.dead, .ins 4 [(4, .int 3), (5, .int 4), (6, .int 3)], .ins 5 (memF 1 3 13 0 (.lst [.ref 4, .ref 5, .ref 6]) (.lst [.ref 7, .ref 9, .ref 11])), .lst held3, .ins 2 [(0, .lst [])], .ins 2 [(0, .lst [])], .ins 2 [(0, .lst [])], .ins 3 [(0, .ref 8)], .lst [], .ins 3 [(0, .ref 10)], .lst [], .ins 3 [(0, .ref 12)], .lst [], .lst []]
def dct3 (n : Nat) : Ob := .dct false ([(D.str 43, D.int 3), (.str 1, .ref 15), (.str 7, .ref 16), (.str 8, .ref 17)].take n)
def ls3 : Ob := .lst (List.replicate 3 (.lst []))
def all3 : G := mem3 ++ [dct3 4, .lst held3, ls3, ls3, .lst []]
theorem M3 : MC mem3 2 1 3 13 3 4 3 0 (refsF 3 fun p => 4 + p) (refsF 3 fun p => 4 + 3 + 2 * p) held3 [] := ⟨rfl, rfl, rfl, rfl, by decide, by decide, by decide⟩
theorem init3 {Sc Tp : Option D} : c_law_17 [Sc, Tp, some (.int 3), none, none, none, none, none, none, none, none, none, none, none] [.dead] = c_law_10 [Sc, Tp, some (.int 3), some (.ref 2), some (.int 55), some (.ref 14), some (.ref 18), none, none, none, none, none, none, none] all3 := by
  have v3 : vMake 5 m_Memory___init__ (aCons (vMake 4 m_Sizes___init__ (aCons (vVar 2) (aCons (vC (.int 4)) (aCons (vC (.int 3)) aNil)))) aNil) [Sc, Tp, some (.int 3), none, none, none, none, none, none, none, none, none, none, none] [.dead] = .ok (.ref 2) mem3 := rfl
  have v4 : vMeth 40 [(4, m_Sizes_cells)] (vFld [5] 2 (vVar 3)) aNil [Sc, Tp, some (.int 3), some (.ref 2), none, none, none, none, none, none, none, none, none, none] mem3 = .ok (.int 55) mem3 := rfl
  have v5 : vDctP (aCons (vLst (aCons (vTup (aCons (vC (.str 43)) (aCons (vVar 2) aNil))) aNil)) aNil) [Sc, Tp, some (.int 3), some (.ref 2), some (.int 55), none, none, none, none, none, none, none, none, none] mem3 = .ok (.ref 14) (mem3 ++ [dct3 1]) := rfl
  have MA : MC (mem3 ++ [dct3 1]) 2 1 3 13 3 4 3 0 (refsF 3 fun p => 4 + p) (refsF 3 fun p => 4 + 3 + 2 * p) held3 [] := M3.app
  have v6 : vLcO [13] (iRng1 (vVar 4)) (gN 13) tYes (vMeth 35 [(5, m_Memory_peek)] (vVar 3) (aCons (vVar 13) aNil)) [Sc, Tp, some (.int 3), some (.ref 2), some (.int 55), some (.ref 14), none, none, none, none, none, none, none, none] (mem3 ++ [dct3 1]) = .ok (.ref 15) (mem3 ++ [dct3 1] ++ [.lst held3]) := by
    have ir : iRng1 (vVar 4) [Sc, Tp, some (.int 3), some (.ref 2), some (.int 55), some (.ref 14), none, none, none, none, none, none, none, none] (mem3 ++ [dct3 1]) = .ok (.vals (rngL 0 55)) (mem3 ++ [dct3 1]) := rng_of (n := 55) rfl (by decide)
    simp only [vLcO_e, ir, Res.bind, wipeE_cons, wipeE_nil, List.set]
    rw [peeks MA (n := 55) rfl rfl (by simp)]
    rfl
  have s6 : sSubC (vVar 5) (vC (.str 1)) (vLcO [13] (iRng1 (vVar 4)) (gN 13) tYes (vMeth 35 [(5, m_Memory_peek)] (vVar 3) (aCons (vVar 13) aNil))) [Sc, Tp, some (.int 3), some (.ref 2), some (.int 55), some (.ref 14), none, none, none, none, none, none, none, none] (mem3 ++ [dct3 1]) = .nx [Sc, Tp, some (.int 3), some (.ref 2), some (.int 55), some (.ref 14), none, none, none, none, none, none, none, none] (mem3 ++ [dct3 2] ++ [.lst held3]) := by
    unfold sSubC
    rw [v6]
    rfl
  have s7 : sSubC (vVar 5) (vC (.str 7)) (vLcO [9] (iRng1 (vVar 2)) (gN 9) tYes (vLst aNil)) [Sc, Tp, some (.int 3), some (.ref 2), some (.int 55), some (.ref 14), none, none, none, none, none, none, none, none] (mem3 ++ [dct3 2] ++ [.lst held3]) = .nx [Sc, Tp, some (.int 3), some (.ref 2), some (.int 55), some (.ref 14), none, none, none, none, none, none, none, none] (mem3 ++ [dct3 3, .lst held3, ls3]) := rfl
  have s8 : sSubC (vVar 5) (vC (.str 8)) (vLcO [9] (iRng1 (vVar 2)) (gN 9) tYes (vLst aNil)) [Sc, Tp, some (.int 3), some (.ref 2), some (.int 55), some (.ref 14), none, none, none, none, none, none, none, none] (mem3 ++ [dct3 3, .lst held3, ls3]) = .nx [Sc, Tp, some (.int 3), some (.ref 2), some (.int 55), some (.ref 14), none, none, none, none, none, none, none, none] (mem3 ++ [dct3 4, .lst held3, ls3, ls3]) := rfl
  have v9 : ∀ e : En, vLstO aNil e (mem3 ++ [dct3 4, .lst held3, ls3, ls3]) = .ok (.ref 18) all3 := fun e => rfl
  unfold c_law_17 c_law_16 c_law_15 c_law_14 c_law_13 c_law_12 c_law_11
  rw [sSeq_e]
  simp only [sAsg_e, v3, sBind, List.set]
  rw [sSeq_e]
  simp only [sAsg_e, v4, sBind, List.set]
  rw [sSeq_e]
  simp only [sAsg_e, v5, sBind, List.set]
  rw [sSeq_e, s6]
  simp only []
  rw [sSeq_e, s7]
  simp only []
  rw [sSeq_e, s8]
  simp only []
  rw [sSeq_e]
  simp only [sAsg_e, v9, sBind, List.set]
theorem st3 : Iv all3 3 13 14 15 16 17 18 (fun p => 4 + p) (fun p => 4 + 3 + 2 * p) (fun p => 5 + 3 + 2 * p) (fun _ => .lst []) 0 (S0 held3) [] := by
  have lt : ∀ p, p < 3 → p = 0 ∨ p = 1 ∨ p = 2 := fun p hp => by omega
  refine ⟨M3.app, ⟨?_, fun p hp => rfl, ?_, ?_, fun p q _ _ e => by omega, fun p q _ _ e => by omega, fun p q _ _ e => by omega, fun p hp => ?_, fun p hp a ha => (by cases ha), fun p hp => Nat.zero_le 2, fun p hp => Nat.zero_le 900⟩, ⟨rfl, rfl, rfl, rfl, by decide⟩, rfl, by decide, ⟨rfl, ?_, ?_, fun p r hr => absurd hr List.not_mem_nil, fun p => Nat.zero_le 2, fun p => Nat.le_refl 0⟩, rfl, fun v hv => absurd hv List.not_mem_nil⟩
  · intro p hp
    rcases lt p hp with rfl | rfl | rfl <;> rfl
  · intro p hp
    rcases lt p hp with rfl | rfl | rfl <;> rfl
  · intro p hp
    rcases lt p hp with rfl | rfl | rfl <;> rfl
  · unfold StL
    omega
  · have : held3.all (pud 5) = true := by decide
    exact List.all_eq_true.mp this
  · intro c h1 h2
    refine ⟨.non, trivial, ?_⟩
    show (List.replicate 4 (D.int 0) ++ List.replicate 32 .non ++ List.replicate 8 (.int 0) ++ List.replicate 11 (.tup [.int 0, .int 0]))[c]? = some .non
    rw [List.getElem?_append_left (by simp; omega), List.getElem?_append_left (by simp; omega), List.getElem?_append_right (by simp; omega), List.getElem?_replicate, if_pos (by simp; omega)]

theorem fin_ok {Sc Tp e7 e8 e9 e10 e11 e12 e13 : Option D} {g : G} {P r wd wh wb wx ll j tot : Nat} {bA xA yA : Nat → Nat} {ld : Nat → D} {S : S4} {log : List D} (I : Iv g P r wd wh wb wx ll bA xA yA ld j S log) (hj : j < 1000) (ht : S.held.length = tot) (htl : tot < 1000) :
    ∃ g', c_law_2 [Sc, Tp, some (.int (P : Int)), some (.ref 2), some (.int (tot : Int)), some (.ref wd), some (.ref ll), e7, e8, e9, e10, e11, e12, e13] g = .rt (.bl true) g' := by
  have ir : iRng1 (vVar 4) [Sc, Tp, some (.int (P : Int)), some (.ref 2), some (.int (tot : Int)), some (.ref wd), some (.ref ll), e7, e8, e9, e10, e11, e12, e13] g = .ok (.vals (rngL 0 tot)) g := rng_of (n := tot) rfl (by omega)
  obtain ⟨i43, i1, i7, i8⟩ := I.L.ix
  unfold c_law_2
  refine seq_rng (Q := fun r => ∃ g', r = .rt (.bl true) g') (fun j e g' => g' = g ∧ ∃ e13, e = [Sc, Tp, some (.int (P : Int)), some (.ref 2), some (.int (tot : Int)), some (.ref wd), some (.ref ll), e7, e8, e9, e10, e11, e12, e13]) ir ⟨rfl, e13, rfl⟩ ?_ ?_
  · rintro i e g' hi ⟨rfl, f13, rfl⟩
    refine ⟨_, rfl, ?_⟩
    simp only [List.set]
    obtain ⟨v, hv, vm⟩ := atI_mem (ds := S.held) (i := (i : Int)) (by omega) (by omega)
    have a := I.M.meth (nm := 35) (tbl := [(5, m_Memory_peek)]) (o := vVar 3) (ms := aCons (vVar 13) aNil) (e := [Sc, Tp, some (.int (P : Int)), some (.ref 2), some (.int (tot : Int)), some (.ref wd), some (.ref ll), e7, e8, e9, e10, e11, e12, some (.int (i : Int))]) (g2 := g') (ds := [.int (i : Int)]) rfl rfl rfl rfl
    rw [I.M.peek_ok (by omega) (by omega) hv] at a
    have sm := same_ok (g := g') (I.O.pv v vm) (by decide)
    have run : sIf (tNot (tTru (vCall m__law_same (aCons (vMeth 35 [(5, m_Memory_peek)] (vVar 3) (aCons (vVar 13) aNil)) (aCons (vOp ixD (vOp ixC (vVar 5) (vC (.str 1))) (vVar 13)) aNil))))) (sRet (vC (.bl false))) sNx [Sc, Tp, some (.int (P : Int)), some (.ref 2), some (.int (tot : Int)), some (.ref wd), some (.ref ll), e7, e8, e9, e10, e11, e12, some (.int (i : Int))] g' = .nx [Sc, Tp, some (.int (P : Int)), some (.ref 2), some (.int (tot : Int)), some (.ref wd), some (.ref ll), e7, e8, e9, e10, e11, e12, some (.int (i : Int))] g' := by
      simp only [sIf_e, tNot_e, tTru_e, vCall_e, aCons_e, a, Res.bind, vOp_e, vVar_e, List.getElem?_cons_zero, List.getElem?_cons_succ, vC_e, i1, oR_some, I.L.atH hv, aNil_e, sm, truD_bl, Bool.not_true, sBind, cond_false, sNx_e]
    rw [run]
    exact ⟨rfl, _, rfl⟩
  · rintro e g' ⟨rfl, f13, rfl⟩
    have a := I.M.meth (nm := 36) (tbl := [(5, m_Memory_log)]) (o := vVar 3) (ms := aNil) (e := [Sc, Tp, some (.int (P : Int)), some (.ref 2), some (.int (tot : Int)), some (.ref wd), some (.ref ll), e7, e8, e9, e10, e11, e12, f13]) (g2 := g') (ds := []) rfl rfl rfl rfl
    rw [I.M.log_ok] at a
    have p8 : pud 8 (.lst log) = true := by
      rw [pud_lst, List.all_eq_true]
      exact I.pl
    have lg : (g' ++ [Ob.lst log])[ll]? = some (.lst log) := by
      rw [List.getElem?_append_left (List.getElem?_eq_some_iff.mp I.lg).1]
      exact I.lg
    have ln : (g' ++ [Ob.lst log])[g'.length]? = some (.lst log) := by simp
    have eq := eq_same (g := g' ++ [Ob.lst log]) (x := .ref g'.length) (y := .ref ll) (snap_of (lsD_ref ln)) (snap_of (lsD_ref lg)) p8
    have M2 : MC (g' ++ [Ob.lst log]) 2 1 3 r (P : Int) 4 3 (j : Int) (refsF P bA) (refsF P xA) S.held log := I.M.app
    have len : lenD (g' ++ [Ob.lst log]) [.ref ll] = some (.int (j : Int)) := by
      simp [lenD, itD, lsD_ref lg, I.ln]
    refine ⟨g' ++ [Ob.lst log], ?_⟩
    unfold c_law_1
    simp only [sRet_e, vAnd_e, vOp_e, a, Res.bind, vVar_e, List.getElem?_cons_zero, List.getElem?_cons_succ, eq, oR_some, bR_bl, cond_true, vUn_e, M2.count_, vCB_e, aCons_e, aNil_e, len, eq_int, beq_self_eq_true, sBind]
theorem loop_ok {Tl : List Int} {Sc : Option D} {g : G} {P r wd wh wb wx ll tot : Nat} {bA xA yA : Nat → Nat} {ld : Nat → D} {S : S4} (hT : Nice Tl) (hl : Tl.length ≤ 3780) (hP : P ≤ 3) (hP0 : 0 < P) (I : Iv g P r wd wh wb wx ll bA xA yA ld 0 S []) (ht : tot = 52 + P) :
    ∃ g', c_law_10 [Sc, some (.lst (Tl.map D.int)), some (.int (P : Int)), some (.ref 2), some (.int (tot : Int)), some (.ref wd), some (.ref ll), none, none, none, none, none, none, none] g = .rt (.bl true) g' := by
  have cnt : iRng1 (vCB minD (aCons (vC (.int 90)) (aCons (vCB maxD (aCons (vC (.int 0)) (aCons (vOp subD (vCB lenD (aCons (vVar 1) aNil)) (vC (.int 3))) aNil))) aNil))) [Sc, some (.lst (Tl.map D.int)), some (.int (P : Int)), some (.ref 2), some (.int (tot : Int)), some (.ref wd), some (.ref ll), none, none, none, none, none, none, none] g = .ok (.vals (rngL 0 (min 90 (Tl.length - 3)))) g := by
    refine rng_of ?_ (by omega)
    simp only [vCB_e, aCons_e, aNil_e, vOp_e, vC_e, vVar_e, List.getElem?_cons_zero, List.getElem?_cons_succ, Res.bind, lenD_lst, List.length_map, oR_some, subD_int, maxD, minD]
    congr 2
    split <;> split <;> omega
  unfold c_law_10
  refine seq_rng (Q := fun r => ∃ g', r = .rt (.bl true) g') (fun j e g => j ≤ 90 ∧ ∃ yA ld S log e7 e8 e9 e10 e11 e12 e13, e = [Sc, some (.lst (Tl.map D.int)), some (.int (P : Int)), some (.ref 2), some (.int (tot : Int)), some (.ref wd), some (.ref ll), e7, e8, e9, e10, e11, e12, e13] ∧ Iv g P r wd wh wb wx ll bA xA yA ld j S log) cnt ?_ ?_ ?_
  · exact ⟨by decide, _, _, _, _, _, _, _, _, _, _, _, rfl, I⟩
  · rintro j e g hj ⟨_, yA, ld, S, log, e7, e8, e9, e10, e11, e12, e13, rfl, I⟩
    obtain ⟨g', yA', ld', S', log', f8, f9, f10, f11, f12, h1, I'⟩ := body_ok (Sc := Sc) (e4 := some (.int (tot : Int))) (e8 := e8) (e9 := e9) (e10 := e10) (e11 := e11) (e12 := e12) (e13 := e13) hT hP0 hP (show j < 90 by omega) I
    refine ⟨_, rfl, ?_⟩
    simp only [List.set]
    rw [h1]
    exact ⟨by omega, _, _, _, _, _, _, _, _, _, _, _, rfl, I'⟩
  · rintro e g ⟨hj, yA, ld, S, log, e7, e8, e9, e10, e11, e12, e13, rfl, I⟩
    exact fin_ok I (by omega) (by rw [I.O.len, ht]) (by omega)
theorem wins : Wins m_law := by
  intro ns hn
  obtain ⟨T, hT, hTl, e0⟩ := tape_ok ns hn []
  have e1 : m__law_tape [.scr (ns.map D.int)] [] = .ok (.lst (T.map D.int)) [Ob.dead] := e0
  suffices h : ∃ g', b_law [some (.scr (ns.map D.int)), none, none, none, none, none, none, none, none, none, none, none, none, none] [] = .rt (.bl true) g' by
    obtain ⟨g', h⟩ := h
    refine ⟨g', ?_⟩
    show endM (b_law [some (.scr (ns.map D.int)), none, none, none, none, none, none, none, none, none, none, none, none, none] []) = _
    rw [h]
    rfl
  have a0 : m__law_at [.lst (T.map D.int), .int 0] [.dead] = .ok (.int (tk T 0)) [.dead] := at_ok T 0 [.dead]
  obtain ⟨k0, k1⟩ := tk_nice hT 0
  generalize tk T 0 = k at a0 k0 k1
  have m3 : modD [Ob.dead] (.int k) (.int 3) = some (.int (k % 3)) := modD_e (by decide)
  have hk : 1 + k % 3 = 1 ∨ 1 + k % 3 = 2 ∨ 1 + k % 3 = 3 := by omega
  unfold b_law c_law_18
  rw [sSeq_e]
  simp only [sAsg_e, vCall_e, aCons_e, aNil_e, vVar_e, List.getElem?_cons_zero, Res.bind, e1, sBind, List.set]
  rw [sSeq_e]
  simp only [sAsg_e, vOp_e, vC_e, vCall_e, aCons_e, aNil_e, vVar_e, List.getElem?_cons_zero, List.getElem?_cons_succ, Res.bind, a0, m3, addD_int, oR_some, sBind, List.set]
  rcases hk with h | h | h
  · rw [h, init1]
    exact loop_ok (P := 1) (tot := 53) hT hTl (by decide) (by decide) st1 rfl
  · rw [h, init2]
    exact loop_ok (P := 2) (tot := 54) hT hTl (by decide) (by decide) st2 rfl
  · rw [h, init3]
    exact loop_ok (P := 3) (tot := 55) hT hTl (by decide) (by decide) st3 rfl

end Z

/-! ### the head (printed by gen.py) -/
namespace Z
open PySem PySem.Spec PyProof.Rows L2 Y
abbrev R : PySem.W.OpenRow := PySem.W.OpenLaw.row PySem.Challenge.rw_frametally_k04_whole_translations
def D_Memory_log : He.DefD := ⟨("Memory", some "log"), "log", "Memory.log", defArgs s_Memory_log, defBody s_Memory_log, defScope s_Memory_log, [], []⟩
def D__law_same : He.DefD := ⟨("_law_same", none), "_law_same", "_law_same", defArgs s__law_same, defBody s__law_same, defScope s__law_same, [], []⟩
def D_is_integer : He.DefD := ⟨("is_integer", none), "is_integer", "is_integer", defArgs s_is_integer, defBody s_is_integer, defScope s_is_integer, [], []⟩
def D_is_within : He.DefD := ⟨("is_within", none), "is_within", "is_within", defArgs s_is_within, defBody s_is_within, defScope s_is_within, [], []⟩
def D_Memory_check_cell : He.DefD := ⟨("Memory", some "check_cell"), "check_cell", "Memory.check_cell", defArgs s_Memory_check_cell, defBody s_Memory_check_cell, defScope s_Memory_check_cell, [], []⟩
def D_Memory_peek : He.DefD := ⟨("Memory", some "peek"), "peek", "Memory.peek", defArgs s_Memory_peek, defBody s_Memory_peek, defScope s_Memory_peek, [], []⟩
def D_Box_letters : He.DefD := ⟨("Box", some "letters"), "letters", "Box.letters", defArgs s_Box_letters, defBody s_Box_letters, defScope s_Box_letters, [], []⟩
def D_Buffer_entries : He.DefD := ⟨("Buffer", some "entries"), "entries", "Buffer.entries", defArgs s_Buffer_entries, defBody s_Buffer_entries, defScope s_Buffer_entries, [], []⟩
def D__law_looks : He.DefD := ⟨("_law_looks", none), "_law_looks", "_law_looks", defArgs s__law_looks, defBody s__law_looks, defScope s__law_looks, [], []⟩
def D_Sizes_frame_cell : He.DefD := ⟨("Sizes", some "frame_cell"), "frame_cell", "Sizes.frame_cell", defArgs s_Sizes_frame_cell, defBody s_Sizes_frame_cell, defScope s_Sizes_frame_cell, [], []⟩
def D_Buffer_frame_for : He.DefD := ⟨("Buffer", some "frame_for"), "frame_for", "Buffer.frame_for", defArgs s_Buffer_frame_for, defBody s_Buffer_frame_for, defScope s_Buffer_frame_for, [], []⟩
def D_Memory_use : He.DefD := ⟨("Memory", some "use"), "use", "Memory.use", defArgs s_Memory_use, defBody s_Memory_use, defScope s_Memory_use, [], []⟩
def D_Buffer_drop : He.DefD := ⟨("Buffer", some "drop"), "drop", "Buffer.drop", defArgs s_Buffer_drop, defBody s_Buffer_drop, defScope s_Buffer_drop, [], []⟩
def D_Buffer_put : He.DefD := ⟨("Buffer", some "put"), "put", "Buffer.put", defArgs s_Buffer_put, defBody s_Buffer_put, defScope s_Buffer_put, [], []⟩
def D_Sizes_word : He.DefD := ⟨("Sizes", some "word"), "word", "Sizes.word", defArgs s_Sizes_word, defBody s_Sizes_word, defScope s_Sizes_word, [], []⟩
def D_Sizes_acknowledge : He.DefD := ⟨("Sizes", some "acknowledge"), "acknowledge", "Sizes.acknowledge", defArgs s_Sizes_acknowledge, defBody s_Sizes_acknowledge, defScope s_Sizes_acknowledge, [], []⟩
def D_Box_take : He.DefD := ⟨("Box", some "take"), "take", "Box.take", defArgs s_Box_take, defBody s_Box_take, defScope s_Box_take, [], []⟩
def D_Memory_take : He.DefD := ⟨("Memory", some "take"), "take", "Memory.take", defArgs s_Memory_take, defBody s_Memory_take, defScope s_Memory_take, [], []⟩
def D_Memory_cell_result : He.DefD := ⟨("Memory", some "cell_result"), "cell_result", "Memory.cell_result", defArgs s_Memory_cell_result, defBody s_Memory_cell_result, defScope s_Memory_cell_result, [], []⟩
def D_Memory_result : He.DefD := ⟨("Memory", some "result"), "result", "Memory.result", defArgs s_Memory_result, defBody s_Memory_result, defScope s_Memory_result, [], []⟩
def D_is_pair : He.DefD := ⟨("is_pair", none), "is_pair", "is_pair", defArgs s_is_pair, defBody s_is_pair, defScope s_is_pair, [], []⟩
def D_is_letter : He.DefD := ⟨("is_letter", none), "is_letter", "is_letter", defArgs s_is_letter, defBody s_is_letter, defScope s_is_letter, [], []⟩
def D_Box_send : He.DefD := ⟨("Box", some "send"), "send", "Box.send", defArgs s_Box_send, defBody s_Box_send, defScope s_Box_send, [], []⟩
def D_Memory_check_page : He.DefD := ⟨("Memory", some "check_page"), "check_page", "Memory.check_page", defArgs s_Memory_check_page, defBody s_Memory_check_page, defScope s_Memory_check_page, [], []⟩
def D_Memory_check_request : He.DefD := ⟨("Memory", some "check_request"), "check_request", "Memory.check_request", defArgs s_Memory_check_request, defBody s_Memory_check_request, defScope s_Memory_check_request, [], []⟩
def D_Memory_access : He.DefD := ⟨("Memory", some "access"), "access", "Memory.access", defArgs s_Memory_access, defBody s_Memory_access, defScope s_Memory_access, [], []⟩
def D__law_frame : He.DefD := ⟨("_law_frame", none), "_law_frame", "_law_frame", defArgs s__law_frame, defBody s__law_frame, defScope s__law_frame, [], []⟩
def D__law_use : He.DefD := ⟨("_law_use", none), "_law_use", "_law_use", defArgs s__law_use, defBody s__law_use, defScope s__law_use, [], []⟩
def D__law_put : He.DefD := ⟨("_law_put", none), "_law_put", "_law_put", defArgs s__law_put, defBody s__law_put, defScope s__law_put, [], []⟩
def D__law_due : He.DefD := ⟨("_law_due", none), "_law_due", "_law_due", defArgs s__law_due, defBody s__law_due, defScope s__law_due, [], []⟩
def D__law_request : He.DefD := ⟨("_law_request", none), "_law_request", "_law_request", defArgs s__law_request, defBody s__law_request, defScope s__law_request, [], []⟩
def D__law_at : He.DefD := ⟨("_law_at", none), "_law_at", "_law_at", defArgs s__law_at, defBody s__law_at, defScope s__law_at, [], []⟩
def D_Sizes_swap_block : He.DefD := ⟨("Sizes", some "swap_block"), "swap_block", "Sizes.swap_block", defArgs s_Sizes_swap_block, defBody s_Sizes_swap_block, defScope s_Sizes_swap_block, [], []⟩
def D_Sizes_file_block : He.DefD := ⟨("Sizes", some "file_block"), "file_block", "Sizes.file_block", defArgs s_Sizes_file_block, defBody s_Sizes_file_block, defScope s_Sizes_file_block, [], []⟩
def D_Sizes_cells : He.DefD := ⟨("Sizes", some "cells"), "cells", "Sizes.cells", defArgs s_Sizes_cells, defBody s_Sizes_cells, defScope s_Sizes_cells, [], []⟩
def D_Box___init__ : He.DefD := ⟨("Box", some "__init__"), "__init__", "Box.__init__", defArgs s_Box___init__, defBody s_Box___init__, defScope s_Box___init__, [], []⟩
def D_Buffer___init__ : He.DefD := ⟨("Buffer", some "__init__"), "__init__", "Buffer.__init__", defArgs s_Buffer___init__, defBody s_Buffer___init__, defScope s_Buffer___init__, [], []⟩
def D_first_values : He.DefD := ⟨("first_values", none), "first_values", "first_values", defArgs s_first_values, defBody s_first_values, defScope s_first_values, [], []⟩
def D_Memory___init__ : He.DefD := ⟨("Memory", some "__init__"), "__init__", "Memory.__init__", defArgs s_Memory___init__, defBody s_Memory___init__, defScope s_Memory___init__, [], []⟩
def D_Sizes___init__ : He.DefD := ⟨("Sizes", some "__init__"), "__init__", "Sizes.__init__", defArgs s_Sizes___init__, defBody s_Sizes___init__, defScope s_Sizes___init__, [], []⟩
def D__law_tape : He.DefD := ⟨("_law_tape", none), "_law_tape", "_law_tape", defArgs s__law_tape, defBody s__law_tape, defScope s__law_tape, [], []⟩
def D_law : He.DefD := ⟨("law", none), "law", "law", defArgs s_law, defBody s_law, defScope s_law, [], []⟩
def fn : List He.DefD := [D_Memory_log, D__law_same, D_is_integer, D_is_within, D_Memory_check_cell, D_Memory_peek, D_Box_letters, D_Buffer_entries, D__law_looks, D_Sizes_frame_cell, D_Buffer_frame_for, D_Memory_use, D_Buffer_drop, D_Buffer_put, D_Sizes_word, D_Sizes_acknowledge, D_Box_take, D_Memory_take, D_Memory_cell_result, D_Memory_result, D_is_pair, D_is_letter, D_Box_send, D_Memory_check_page, D_Memory_check_request, D_Memory_access, D__law_frame, D__law_use, D__law_put, D__law_due] ++ [D__law_request, D__law_at, D_Sizes_swap_block, D_Sizes_file_block, D_Sizes_cells, D_Box___init__, D_Buffer___init__, D_first_values, D_Memory___init__, D_Sizes___init__, D__law_tape, D_law]
def fa : List He.Fa := [.glo "Buffer", .glo "Box", .glo "Sizes", .glo "Memory", .glo "PageError", .glo "NotValid", .cls "Memory", .noat "Memory" "count", .free "len", .noat "Memory" "rows", .cls "Box", .noat "Box" "rows", .cls "Buffer", .noat "Buffer" "rows", .free "list", .free "range", .free "isinstance", .free "bool", .noat "Memory" "held", .free "int", .exc "NotValid", .free "max", .free "min", .noat "Memory" "boxes", .noat "Memory" "buffers", .free "tuple", .cls "Sizes", .noat "Sizes" "processors", .int "SPACES" (4), .int "PAGES" (8)] ++ [.int "CELLS" (2), .noat "Memory" "sizes", .int "MOST_ENTRIES" (2), .free "all", .glo "LENGTHS", .free "dict", .noat "Sizes" "frames", .noat "Sizes" "blocks", .int "FILE_PAGES" (4), .int "FILES" (2), .int "MOST_BLOCKS" (12), .int "MOST_FRAMES" (12), .int "LEAST_FRAMES" (2), .int "MOST_PROCESSORS" (3), .free "abs", .mkr "Buffer", .mkr "Box", .mkr "Sizes", .mkr "Memory", .meth "Memory" "log", .glo "_law_same", .glo "is_integer", .glo "is_within", .meth "Memory" "check_cell", .meth "Memory" "peek", .meth "Box" "letters", .meth "Buffer" "entries", .glo "_law_looks", .meth "Sizes" "frame_cell", .meth "Buffer" "frame_for"] ++ [.meth "Memory" "use", .meth "Buffer" "drop", .meth "Buffer" "put", .meth "Sizes" "word", .meth "Sizes" "acknowledge", .meth "Box" "take", .meth "Memory" "take", .meth "Memory" "cell_result", .meth "Memory" "result", .glo "is_pair", .glo "is_letter", .meth "Box" "send", .meth "Memory" "check_page", .meth "Memory" "check_request", .meth "Memory" "access", .glo "_law_frame", .glo "_law_use", .glo "_law_put", .glo "_law_due", .glo "_law_request", .glo "_law_at", .meth "Sizes" "swap_block", .meth "Sizes" "file_block", .meth "Sizes" "cells", .glo "first_values", .glo "_law_tape", .glo "law"]
def loose : List PySem.Str := (["_wall", "MOST_ENTRIES", "Buffer", "PageError", "NotValid", "SPACES", "PAGES", "is_integer", "is_pair", "is_letter", "Box", "CELLS", "FILES", "FILE_PAGES", "MOST_PROCESSORS", "LEAST_FRAMES", "MOST_FRAMES", "MOST_BLOCKS", "LENGTHS", "is_within", "Sizes", "first_values", "Memory", "_law_tape", "_law_at", "_law_put", "_law_frame", "_law_use", "_law_due", "_law_request"] : List PySem.Str) ++ (["_law_same", "_law_looks"] : List PySem.Str)
def ex (K : PySem.W.Frag) : Bool := (kdB K (He.ga K "LENGTHS") TAB [.str 9, .str 10, .str 11, .str 12, .str 13, .str 14, .str 15, .str 16, .str 17] [.int 2, .int 3, .int 4, .int 3, .int 1, .int 3, .int 4, .int 5, .int 6])
def ts : List He.Tab := [(fun K => He.ga K "LENGTHS", ["read", "write", "swap", "send", "take", "walk", "load", "store", "change"])]
abbrev hk : PySem.W.Hook := He.hookX 4 fa fn ts [] ex
def ob (s : PySem.W.SharedT) : He.AlX := He.obsX 4 fa fn ts [] ex (HandSHeadRun.getT s)
theorem ob_eq (s : PySem.W.SharedT) : ob s = hk.obs s.abs := He.obsX_eq (HandSHeadRun.getT_eq s)
def ftK : String := "special-get-raises"
def ftW (w : World) (b : Bool) : World := { w with params := { w.params with followText := fun s => bif s == ftK then b else w.params.followText s } }
theorem ftW_eq (w : World) : ftW w (w.params.followText ftK) = w := by
  have e : (fun s => bif s == ftK then w.params.followText ftK else w.params.followText s) = w.params.followText := by
    funext s
    cases h : s == ftK with
    | true => rw [beq_iff_eq.mp h]; rfl
    | false => rfl
  show ({ w with params := { w.params with followText := fun s => bif s == ftK then w.params.followText ftK else w.params.followText s } } : World) = w
  rw [e]
theorem run0 (w : World) (b : Bool) : HandSHeadRun.RunEq R (PySem.W.view R.prog [37]) hk ob 6000 loose (ftW w b) := by
  intro os
  cases b <;> kernel_rfl
theorem run (w : World) : HandSHeadRun.RunEq R (PySem.W.view R.prog [37]) hk ob 6000 loose w := by
  rw [← ftW_eq w]
  exact run0 w _
abbrev kit (P : Program) (w : World) (K : PySem.W.Frag) (mg : Str → Option Value) (base : Heap) : Kit := ⟨P, w, K, mg, base, TAB, [He.ga K "PageError", He.ga K "NotValid", He.ga K "Buffer", He.ga K "Box", He.ga K "Sizes", He.ga K "Memory"], tab_nd, tab_sk⟩
theorem facts {P : Program} {w : World} {K : PySem.W.Frag} {h base : Heap} {mg : Str → Option Value} (X : K.In h) (G : h.Ns mainGlobals mg) (ct : He.SaysT fa fn ts w K) (xt : ex K = true) :
    Facts (kit P w K mg base) := by
  have c := ct.d
  unfold ex at xt
  have EX0 := xt
  exact {
    tb := rfl
    k_Buffer := ⟨_, rfl, He.glo_ok X G (c.fact 0 (f := .glo "Buffer") rfl)⟩
    k_Box := ⟨_, rfl, He.glo_ok X G (c.fact 1 (f := .glo "Box") rfl)⟩
    k_Sizes := ⟨_, rfl, He.glo_ok X G (c.fact 2 (f := .glo "Sizes") rfl)⟩
    k_Memory := ⟨_, rfl, He.glo_ok X G (c.fact 3 (f := .glo "Memory") rfl)⟩
    k_PageError := ⟨_, rfl, He.glo_ok X G (c.fact 4 (f := .glo "PageError") rfl)⟩
    k_NotValid := ⟨_, rfl, He.glo_ok X G (c.fact 5 (f := .glo "NotValid") rfl)⟩
    ca_count := (ca_cons (c := 5) (C := He.ga K "Memory") rfl (He.cls_ok (c.fact 6 (f := .cls "Memory") rfl)) (He.noat_ok (c.fact 7 (f := .noat "Memory" "count") rfl)) ca_nil)
    f_len := He.free_ok X G (c.fact 8 (f := .free "len") rfl)
    ca_rows := (ca_cons (c := 2) (C := He.ga K "Buffer") rfl (He.cls_ok (c.fact 12 (f := .cls "Buffer") rfl)) (He.noat_ok (c.fact 13 (f := .noat "Buffer" "rows") rfl)) (ca_cons (c := 3) (C := He.ga K "Box") rfl (He.cls_ok (c.fact 10 (f := .cls "Box") rfl)) (He.noat_ok (c.fact 11 (f := .noat "Box" "rows") rfl)) (ca_cons (c := 5) (C := He.ga K "Memory") rfl (He.cls_ok (c.fact 6 (f := .cls "Memory") rfl)) (He.noat_ok (c.fact 9 (f := .noat "Memory" "rows") rfl)) ca_nil)))
    f_list := He.free_ok X G (c.fact 14 (f := .free "list") rfl)
    f_range := He.free_ok X G (c.fact 15 (f := .free "range") rfl)
    f_isinstance := He.free_ok X G (c.fact 16 (f := .free "isinstance") rfl)
    f_bool := He.free_ok X G (c.fact 17 (f := .free "bool") rfl)
    ca_held := (ca_cons (c := 5) (C := He.ga K "Memory") rfl (He.cls_ok (c.fact 6 (f := .cls "Memory") rfl)) (He.noat_ok (c.fact 18 (f := .noat "Memory" "held") rfl)) ca_nil)
    f_int := He.free_ok X G (c.fact 19 (f := .free "int") rfl)
    x_NotValid := ⟨_, rfl, He.glo_ok X G (c.fact 5 (f := .glo "NotValid") rfl), (He.exc_ok (c.fact 20 (f := .exc "NotValid") rfl)).1, (He.exc_ok (c.fact 20 (f := .exc "NotValid") rfl)).2.1, (He.exc_ok (c.fact 20 (f := .exc "NotValid") rfl)).2.2.1, (He.exc_ok (c.fact 20 (f := .exc "NotValid") rfl)).2.2.2⟩
    f_max := He.free_ok X G (c.fact 21 (f := .free "max") rfl)
    f_min := He.free_ok X G (c.fact 22 (f := .free "min") rfl)
    ca_boxes := (ca_cons (c := 5) (C := He.ga K "Memory") rfl (He.cls_ok (c.fact 6 (f := .cls "Memory") rfl)) (He.noat_ok (c.fact 23 (f := .noat "Memory" "boxes") rfl)) ca_nil)
    ca_buffers := (ca_cons (c := 5) (C := He.ga K "Memory") rfl (He.cls_ok (c.fact 6 (f := .cls "Memory") rfl)) (He.noat_ok (c.fact 24 (f := .noat "Memory" "buffers") rfl)) ca_nil)
    f_tuple := He.free_ok X G (c.fact 25 (f := .free "tuple") rfl)
    ca_processors := (ca_cons (c := 4) (C := He.ga K "Sizes") rfl (He.cls_ok (c.fact 26 (f := .cls "Sizes") rfl)) (He.noat_ok (c.fact 27 (f := .noat "Sizes" "processors") rfl)) ca_nil)
    i_SPACES := He.int_ok X G (c.fact 28 (f := .int "SPACES" (4)) rfl)
    i_PAGES := He.int_ok X G (c.fact 29 (f := .int "PAGES" (8)) rfl)
    i_CELLS := He.int_ok X G (c.fact 30 (f := .int "CELLS" (2)) rfl)
    ca_sizes := (ca_cons (c := 5) (C := He.ga K "Memory") rfl (He.cls_ok (c.fact 6 (f := .cls "Memory") rfl)) (He.noat_ok (c.fact 31 (f := .noat "Memory" "sizes") rfl)) ca_nil)
    i_MOST_ENTRIES := He.int_ok X G (c.fact 32 (f := .int "MOST_ENTRIES" (2)) rfl)
    f_all := He.free_ok X G (c.fact 33 (f := .free "all") rfl)
    i_LENGTHS := ⟨_, He.glo_ok X G (c.fact 34 (f := .glo "LENGTHS") rfl), kdB_ok (Kt := kit P w K mg base) EX0 (ct.tab 0 rfl)⟩
    f_dict := He.free_ok X G (c.fact 35 (f := .free "dict") rfl)
    ca_frames := (ca_cons (c := 4) (C := He.ga K "Sizes") rfl (He.cls_ok (c.fact 26 (f := .cls "Sizes") rfl)) (He.noat_ok (c.fact 36 (f := .noat "Sizes" "frames") rfl)) ca_nil)
    ca_blocks := (ca_cons (c := 4) (C := He.ga K "Sizes") rfl (He.cls_ok (c.fact 26 (f := .cls "Sizes") rfl)) (He.noat_ok (c.fact 37 (f := .noat "Sizes" "blocks") rfl)) ca_nil)
    i_FILE_PAGES := He.int_ok X G (c.fact 38 (f := .int "FILE_PAGES" (4)) rfl)
    i_FILES := He.int_ok X G (c.fact 39 (f := .int "FILES" (2)) rfl)
    i_MOST_BLOCKS := He.int_ok X G (c.fact 40 (f := .int "MOST_BLOCKS" (12)) rfl)
    i_MOST_FRAMES := He.int_ok X G (c.fact 41 (f := .int "MOST_FRAMES" (12)) rfl)
    i_LEAST_FRAMES := He.int_ok X G (c.fact 42 (f := .int "LEAST_FRAMES" (2)) rfl)
    i_MOST_PROCESSORS := He.int_ok X G (c.fact 43 (f := .int "MOST_PROCESSORS" (3)) rfl)
    f_abs := He.free_ok X G (c.fact 44 (f := .free "abs") rfl)
    mk_Buffer := fun C e => by cases e; exact ⟨_, He.mkr_ok (c.fact 45 (f := .mkr "Buffer") rfl), c.def_ 36 (d := D_Buffer___init__) rfl⟩
    mk_Box := fun C e => by cases e; exact ⟨_, He.mkr_ok (c.fact 46 (f := .mkr "Box") rfl), c.def_ 35 (d := D_Box___init__) rfl⟩
    mk_Sizes := fun C e => by cases e; exact ⟨_, He.mkr_ok (c.fact 47 (f := .mkr "Sizes") rfl), c.def_ 39 (d := D_Sizes___init__) rfl⟩
    mk_Memory := fun C e => by cases e; exact ⟨_, He.mkr_ok (c.fact 48 (f := .mkr "Memory") rfl), c.def_ 38 (d := D_Memory___init__) rfl⟩
    d_Memory_log := fun C e => by cases e; exact ⟨He.cls_ok (c.fact 6 (f := .cls "Memory") rfl), _, (c.def_ 0 (d := D_Memory_log) rfl).choose, He.meth_ok (c.fact 49 (f := .meth "Memory" "log") rfl), (c.def_ 0 (d := D_Memory_log) rfl).choose_spec⟩
    d__law_same := ⟨_, (c.def_ 1 (d := D__law_same) rfl).choose, He.glo_ok X G (c.fact 50 (f := .glo "_law_same") rfl), (c.def_ 1 (d := D__law_same) rfl).choose_spec.kp, (c.def_ 1 (d := D__law_same) rfl).choose_spec⟩
    d_is_integer := ⟨_, (c.def_ 2 (d := D_is_integer) rfl).choose, He.glo_ok X G (c.fact 51 (f := .glo "is_integer") rfl), (c.def_ 2 (d := D_is_integer) rfl).choose_spec.kp, (c.def_ 2 (d := D_is_integer) rfl).choose_spec⟩
    d_is_within := ⟨_, (c.def_ 3 (d := D_is_within) rfl).choose, He.glo_ok X G (c.fact 52 (f := .glo "is_within") rfl), (c.def_ 3 (d := D_is_within) rfl).choose_spec.kp, (c.def_ 3 (d := D_is_within) rfl).choose_spec⟩
    d_Memory_check_cell := fun C e => by cases e; exact ⟨He.cls_ok (c.fact 6 (f := .cls "Memory") rfl), _, (c.def_ 4 (d := D_Memory_check_cell) rfl).choose, He.meth_ok (c.fact 53 (f := .meth "Memory" "check_cell") rfl), (c.def_ 4 (d := D_Memory_check_cell) rfl).choose_spec⟩
    d_Memory_peek := fun C e => by cases e; exact ⟨He.cls_ok (c.fact 6 (f := .cls "Memory") rfl), _, (c.def_ 5 (d := D_Memory_peek) rfl).choose, He.meth_ok (c.fact 54 (f := .meth "Memory" "peek") rfl), (c.def_ 5 (d := D_Memory_peek) rfl).choose_spec⟩
    d_Box_letters := fun C e => by cases e; exact ⟨He.cls_ok (c.fact 10 (f := .cls "Box") rfl), _, (c.def_ 6 (d := D_Box_letters) rfl).choose, He.meth_ok (c.fact 55 (f := .meth "Box" "letters") rfl), (c.def_ 6 (d := D_Box_letters) rfl).choose_spec⟩
    d_Buffer_entries := fun C e => by cases e; exact ⟨He.cls_ok (c.fact 12 (f := .cls "Buffer") rfl), _, (c.def_ 7 (d := D_Buffer_entries) rfl).choose, He.meth_ok (c.fact 56 (f := .meth "Buffer" "entries") rfl), (c.def_ 7 (d := D_Buffer_entries) rfl).choose_spec⟩
    d__law_looks := ⟨_, (c.def_ 8 (d := D__law_looks) rfl).choose, He.glo_ok X G (c.fact 57 (f := .glo "_law_looks") rfl), (c.def_ 8 (d := D__law_looks) rfl).choose_spec.kp, (c.def_ 8 (d := D__law_looks) rfl).choose_spec⟩
    d_Sizes_frame_cell := fun C e => by cases e; exact ⟨He.cls_ok (c.fact 26 (f := .cls "Sizes") rfl), _, (c.def_ 9 (d := D_Sizes_frame_cell) rfl).choose, He.meth_ok (c.fact 58 (f := .meth "Sizes" "frame_cell") rfl), (c.def_ 9 (d := D_Sizes_frame_cell) rfl).choose_spec⟩
    d_Buffer_frame_for := fun C e => by cases e; exact ⟨He.cls_ok (c.fact 12 (f := .cls "Buffer") rfl), _, (c.def_ 10 (d := D_Buffer_frame_for) rfl).choose, He.meth_ok (c.fact 59 (f := .meth "Buffer" "frame_for") rfl), (c.def_ 10 (d := D_Buffer_frame_for) rfl).choose_spec⟩
    d_Memory_use := fun C e => by cases e; exact ⟨He.cls_ok (c.fact 6 (f := .cls "Memory") rfl), _, (c.def_ 11 (d := D_Memory_use) rfl).choose, He.meth_ok (c.fact 60 (f := .meth "Memory" "use") rfl), (c.def_ 11 (d := D_Memory_use) rfl).choose_spec⟩
    d_Buffer_drop := fun C e => by cases e; exact ⟨He.cls_ok (c.fact 12 (f := .cls "Buffer") rfl), _, (c.def_ 12 (d := D_Buffer_drop) rfl).choose, He.meth_ok (c.fact 61 (f := .meth "Buffer" "drop") rfl), (c.def_ 12 (d := D_Buffer_drop) rfl).choose_spec⟩
    d_Buffer_put := fun C e => by cases e; exact ⟨He.cls_ok (c.fact 12 (f := .cls "Buffer") rfl), _, (c.def_ 13 (d := D_Buffer_put) rfl).choose, He.meth_ok (c.fact 62 (f := .meth "Buffer" "put") rfl), (c.def_ 13 (d := D_Buffer_put) rfl).choose_spec⟩
    d_Sizes_word := fun C e => by cases e; exact ⟨He.cls_ok (c.fact 26 (f := .cls "Sizes") rfl), _, (c.def_ 14 (d := D_Sizes_word) rfl).choose, He.meth_ok (c.fact 63 (f := .meth "Sizes" "word") rfl), (c.def_ 14 (d := D_Sizes_word) rfl).choose_spec⟩
    d_Sizes_acknowledge := fun C e => by cases e; exact ⟨He.cls_ok (c.fact 26 (f := .cls "Sizes") rfl), _, (c.def_ 15 (d := D_Sizes_acknowledge) rfl).choose, He.meth_ok (c.fact 64 (f := .meth "Sizes" "acknowledge") rfl), (c.def_ 15 (d := D_Sizes_acknowledge) rfl).choose_spec⟩
    d_Box_take := fun C e => by cases e; exact ⟨He.cls_ok (c.fact 10 (f := .cls "Box") rfl), _, (c.def_ 16 (d := D_Box_take) rfl).choose, He.meth_ok (c.fact 65 (f := .meth "Box" "take") rfl), (c.def_ 16 (d := D_Box_take) rfl).choose_spec⟩
    d_Memory_take := fun C e => by cases e; exact ⟨He.cls_ok (c.fact 6 (f := .cls "Memory") rfl), _, (c.def_ 17 (d := D_Memory_take) rfl).choose, He.meth_ok (c.fact 66 (f := .meth "Memory" "take") rfl), (c.def_ 17 (d := D_Memory_take) rfl).choose_spec⟩
    d_Memory_cell_result := fun C e => by cases e; exact ⟨He.cls_ok (c.fact 6 (f := .cls "Memory") rfl), _, (c.def_ 18 (d := D_Memory_cell_result) rfl).choose, He.meth_ok (c.fact 67 (f := .meth "Memory" "cell_result") rfl), (c.def_ 18 (d := D_Memory_cell_result) rfl).choose_spec⟩
    d_Memory_result := fun C e => by cases e; exact ⟨He.cls_ok (c.fact 6 (f := .cls "Memory") rfl), _, (c.def_ 19 (d := D_Memory_result) rfl).choose, He.meth_ok (c.fact 68 (f := .meth "Memory" "result") rfl), (c.def_ 19 (d := D_Memory_result) rfl).choose_spec⟩
    d_is_pair := ⟨_, (c.def_ 20 (d := D_is_pair) rfl).choose, He.glo_ok X G (c.fact 69 (f := .glo "is_pair") rfl), (c.def_ 20 (d := D_is_pair) rfl).choose_spec.kp, (c.def_ 20 (d := D_is_pair) rfl).choose_spec⟩
    d_is_letter := ⟨_, (c.def_ 21 (d := D_is_letter) rfl).choose, He.glo_ok X G (c.fact 70 (f := .glo "is_letter") rfl), (c.def_ 21 (d := D_is_letter) rfl).choose_spec.kp, (c.def_ 21 (d := D_is_letter) rfl).choose_spec⟩
    d_Box_send := fun C e => by cases e; exact ⟨He.cls_ok (c.fact 10 (f := .cls "Box") rfl), _, (c.def_ 22 (d := D_Box_send) rfl).choose, He.meth_ok (c.fact 71 (f := .meth "Box" "send") rfl), (c.def_ 22 (d := D_Box_send) rfl).choose_spec⟩
    d_Memory_check_page := fun C e => by cases e; exact ⟨He.cls_ok (c.fact 6 (f := .cls "Memory") rfl), _, (c.def_ 23 (d := D_Memory_check_page) rfl).choose, He.meth_ok (c.fact 72 (f := .meth "Memory" "check_page") rfl), (c.def_ 23 (d := D_Memory_check_page) rfl).choose_spec⟩
    d_Memory_check_request := fun C e => by cases e; exact ⟨He.cls_ok (c.fact 6 (f := .cls "Memory") rfl), _, (c.def_ 24 (d := D_Memory_check_request) rfl).choose, He.meth_ok (c.fact 73 (f := .meth "Memory" "check_request") rfl), (c.def_ 24 (d := D_Memory_check_request) rfl).choose_spec⟩
    d_Memory_access := fun C e => by cases e; exact ⟨He.cls_ok (c.fact 6 (f := .cls "Memory") rfl), _, (c.def_ 25 (d := D_Memory_access) rfl).choose, He.meth_ok (c.fact 74 (f := .meth "Memory" "access") rfl), (c.def_ 25 (d := D_Memory_access) rfl).choose_spec⟩
    d__law_frame := ⟨_, (c.def_ 26 (d := D__law_frame) rfl).choose, He.glo_ok X G (c.fact 75 (f := .glo "_law_frame") rfl), (c.def_ 26 (d := D__law_frame) rfl).choose_spec.kp, (c.def_ 26 (d := D__law_frame) rfl).choose_spec⟩
    d__law_use := ⟨_, (c.def_ 27 (d := D__law_use) rfl).choose, He.glo_ok X G (c.fact 76 (f := .glo "_law_use") rfl), (c.def_ 27 (d := D__law_use) rfl).choose_spec.kp, (c.def_ 27 (d := D__law_use) rfl).choose_spec⟩
    d__law_put := ⟨_, (c.def_ 28 (d := D__law_put) rfl).choose, He.glo_ok X G (c.fact 77 (f := .glo "_law_put") rfl), (c.def_ 28 (d := D__law_put) rfl).choose_spec.kp, (c.def_ 28 (d := D__law_put) rfl).choose_spec⟩
    d__law_due := ⟨_, (c.def_ 29 (d := D__law_due) rfl).choose, He.glo_ok X G (c.fact 78 (f := .glo "_law_due") rfl), (c.def_ 29 (d := D__law_due) rfl).choose_spec.kp, (c.def_ 29 (d := D__law_due) rfl).choose_spec⟩
    d__law_request := ⟨_, (c.def_ 30 (d := D__law_request) rfl).choose, He.glo_ok X G (c.fact 79 (f := .glo "_law_request") rfl), (c.def_ 30 (d := D__law_request) rfl).choose_spec.kp, (c.def_ 30 (d := D__law_request) rfl).choose_spec⟩
    d__law_at := ⟨_, (c.def_ 31 (d := D__law_at) rfl).choose, He.glo_ok X G (c.fact 80 (f := .glo "_law_at") rfl), (c.def_ 31 (d := D__law_at) rfl).choose_spec.kp, (c.def_ 31 (d := D__law_at) rfl).choose_spec⟩
    d_Sizes_swap_block := fun C e => by cases e; exact ⟨He.cls_ok (c.fact 26 (f := .cls "Sizes") rfl), _, (c.def_ 32 (d := D_Sizes_swap_block) rfl).choose, He.meth_ok (c.fact 81 (f := .meth "Sizes" "swap_block") rfl), (c.def_ 32 (d := D_Sizes_swap_block) rfl).choose_spec⟩
    d_Sizes_file_block := fun C e => by cases e; exact ⟨He.cls_ok (c.fact 26 (f := .cls "Sizes") rfl), _, (c.def_ 33 (d := D_Sizes_file_block) rfl).choose, He.meth_ok (c.fact 82 (f := .meth "Sizes" "file_block") rfl), (c.def_ 33 (d := D_Sizes_file_block) rfl).choose_spec⟩
    d_Sizes_cells := fun C e => by cases e; exact ⟨He.cls_ok (c.fact 26 (f := .cls "Sizes") rfl), _, (c.def_ 34 (d := D_Sizes_cells) rfl).choose, He.meth_ok (c.fact 83 (f := .meth "Sizes" "cells") rfl), (c.def_ 34 (d := D_Sizes_cells) rfl).choose_spec⟩
    d_first_values := ⟨_, (c.def_ 37 (d := D_first_values) rfl).choose, He.glo_ok X G (c.fact 84 (f := .glo "first_values") rfl), (c.def_ 37 (d := D_first_values) rfl).choose_spec.kp, (c.def_ 37 (d := D_first_values) rfl).choose_spec⟩
    d__law_tape := ⟨_, (c.def_ 40 (d := D__law_tape) rfl).choose, He.glo_ok X G (c.fact 85 (f := .glo "_law_tape") rfl), (c.def_ 40 (d := D__law_tape) rfl).choose_spec.kp, (c.def_ 40 (d := D__law_tape) rfl).choose_spec⟩
    d_law := ⟨_, (c.def_ 41 (d := D_law) rfl).choose, He.glo_ok X G (c.fact 86 (f := .glo "law") rfl), (c.def_ 41 (d := D_law) rfl).choose_spec.kp, (c.def_ 41 (d := D_law) rfl).choose_spec⟩
  }
end Z
open PySem PySem.W PySem.Calls PyProof.Rows
set_option maxRecDepth 100000 in
set_option maxHeartbeats 0 in
theorem PySem.Challenge.cw_frametally_k04_whole_translations_holds : PySem.Challenge.rw_frametally_k04_whole_translations.Holds := by
  w_on; o_law
  refine HandSHeadRun.head_any (r := OpenLaw.row PySem.Challenge.rw_frametally_k04_whole_translations) (q := view (OpenLaw.row PySem.Challenge.rw_frametally_k04_whole_translations).prog [37]) (H := Z.hk) (ob := Z.ob) (M := 6000) (loose := Z.loose) (d := HandSHeadRun.topDef (OpenLaw.row PySem.Challenge.rw_frametally_k04_whole_translations).prog 37) (kwd := []) Z.ob_eq
    (by kernel_rfl) (fun s => by kernel_rfl) Z.run (by kernel_rfl) (by kernel_rfl) (by kernel_rfl) (by rfl) (by first | assumption | decide +kernel) (by decide +kernel) ⟨rfl, rfl, rfl, rfl, rfl, by decide +kernel⟩ ?hw ?hc
  case hw => w_witness2
  case hc =>
    refine Y.law_end (l := PySem.Challenge.rw_frametally_k04_whole_translations) (k := 6) (x := "_law_script") rfl (by kernel_rfl) ⟨rfl, by decide, by decide⟩ (by kernel_rfl) ?F
    intro w mg h Y G
    obtain ⟨K, KX, c⟩ := Y
    obtain ⟨f, fd, h1, h2, F⟩ := (Z.facts (P := (PySem.Challenge.rw_frametally_k04_whole_translations).prog) (w := w) (base := h) KX G c.t c.more).d_law
    refine ⟨K, f, fd, Z.m_law, KX, h1, fun s v => L2.FunD.bindsA (ps := ["_law_script"]) F (fun _ _ _ _ _ _ us hl => match us, hl with | [_], _ => rfl) s [v] rfl, Z.wins, fun base KB GB => ?_⟩
    exact (Z.law_ok (Z.facts (P := (PySem.Challenge.rw_frametally_k04_whole_translations).prog) (w := w) (base := base) KX G c.t c.more) F).imp (Y.law_sp (Kt := Z.kit (PySem.Challenge.rw_frametally_k04_whole_translations).prog w K mg base) Z.wins)

