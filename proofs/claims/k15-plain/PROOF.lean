import PyProof.Rows.All
import Wide.All
import OpenK.AllK
import Wide.FinOn
import HandS.ForMost
import HandS.ForExc
import HandS.Deep
import HandS.TryOnly
import HandS.IsInst
import HandS.Flow
import HandS.Sort
import HandS.SortKw
import HandS.SuiteRaise
import HandS.More
import HandS.Dict
import HandS.Lambda
import HandS.HeadWalk
import HandS.HeadEnd
import HandS.HeadHook4
import HandS.ExcOwn
import HandS.ExcIs
import HandS.SetFor
import KE.KSortKey
import KE.KEqNest
import HandS.Iter
import HandS.Conv
import KE.KDictPairs
import KE.KDictCopyH
import KE.KDictOf
import HandS.DictComp
import HandS.DictTup
import HandS.Head2
import PySem.Challenge.RW_frametally_k15_plain_machine
set_option Elab.async false
set_option linter.all false
set_option maxRecDepth 100000
/-! Y: a layer over HandS: deep values D, a heap G of numbered objects, every def a total function over them. -/
namespace Y
open PySem PySem.Spec PyProof.Rows L2

/-- a value of the program as data: texts by their number in a table, mutable objects by their number -/
inductive D where
  | non | bl (b : Bool) | int (i : Int) | str (n : Nat)
  | tup (ds : List D) | lst (ds : List D) | scr (ds : List D) | ref (l : Nat) | rng (lo hi : Int) | dic (ks vs : List D)

/-- an object that may change -/
inductive Ob where
  | dead | lst (ds : List D) | ins (c : Nat) (fs : List (Nat × D)) | dct (t : Bool) (kvs : List (D × D)) | dctL (t : Bool) (kvs : List (D × D))
abbrev G := List Ob

inductive Res (α : Type) where
  | ok (a : α) (g : G) | exn (c : Nat) (g : G) | stuck
abbrev En := List (Option D)
abbrev EM := En → G → Res D
abbrev TM := En → G → Res Bool
abbrev AM := En → G → Res (List D)
abbrev MF := List D → G → Res D
inductive SR where
  | nx (e : En) (g : G) | rt (d : D) (g : G) | bk (e : En) (g : G) | ct (e : En) (g : G) | exn (c : Nat) (e : En) (g : G) | stuck
abbrev SM := En → G → SR

@[simp] def Res.bind {α β : Type} (r : Res α) (k : α → G → Res β) : Res β := match r with
  | .ok a g => k a g
  | .exn c g => .exn c g
  | .stuck => .stuck

/-! ### equality of data -/
mutual
def deq : D → D → Bool
  | .non, .non => true
  | .bl a, .bl b => a == b
  | .bl a, .int j => (if a then 1 else 0) == j
  | .int i, .bl b => i == (if b then 1 else 0)
  | .int i, .int j => i == j
  | .str m, .str n => m == n
  | .tup xs, .tup ys => deqs xs ys
  | .lst xs, .lst ys => deqs xs ys
  | _, _ => false
def deqs : List D → List D → Bool
  | [], [] => true
  | x :: xs, y :: ys => deq x y && deqs xs ys
  | _, _ => false
end
/-- data at most so deep, without objects -/
def pud : Nat → D → Bool
  | _, .non => true
  | _, .bl _ => true
  | _, .int _ => true
  | _, .str _ => true
  | n + 1, .tup ds => ds.all (pud n)
  | n + 1, .lst ds => ds.all (pud n)
  | _, _ => false

/-! ### what is fixed through a proof -/
structure Kit where
  P : Program
  w : World
  K : PySem.W.Frag
  mg : Str → Option Value
  base : Heap
  tab : List Str
  cls : List Addr
  tbs : List (Addr × Addr × Str)
  nd : tab.Nodup
  sk : tab.all PyData.strOk = true

/-- what a dict of the top holds at a text -/
def dicG : List D → List D → Nat → Option Int
  | .str k :: ks, .int v :: vs, m => bif k == m then some v else dicG ks vs m
  | _, _, _ => none
/-- a dict of the top -/
def KD (Kt : Kit) (a : Addr) (ks vs : List D) : Prop := (∃ es n, KDict Kt.K Kt.w a es n) ∧ ∀ (m : Nat) (x : Str), Kt.tab[m]? = some x → ∃ r : Option Value, PySem.W.nsIn Kt.K a x = some r ∧ (match dicG ks vs m with
  | some i => ∃ t, r = some (.int i t)
  | none => r = none)
mutual
inductive DV (Kt : Kit) (ι : List Addr) (F : Hp) : V → D → Prop
  | non : DV Kt ι F .non .non
  | bl (b : Bool) : DV Kt ι F (.bl b) (.bl b)
  | int (i : Int) : DV Kt ι F (.int i) (.int i)
  | str {n : Nat} {x : Str} : Kt.tab[n]? = some x → DV Kt ι F (.str x) (.str n)
  | tup {a : Addr} {vs : List V} {ds : List D} : F a = some (.tup vs) → DVs Kt ι F vs ds → DV Kt ι F (.ref a) (.tup ds)
  | lst {a : Addr} {vs : List V} {ds : List D} : F a = some (.lst vs) → DVs Kt ι F vs ds → DV Kt ι F (.ref a) (.lst ds)
  | scr {a : Addr} {vs : List V} {ds : List D} : SqL Kt.K F a vs → DVs Kt ι F vs ds → DV Kt ι F (.ref a) (.scr ds)
  | ref {l : Nat} {a : Addr} : ι[l]? = some a → DV Kt ι F (.ref a) (.ref l)
  | rng {a : Addr} {lo hi : Int} : F a = some (.rng lo hi) → DV Kt ι F (.ref a) (.rng lo hi)
  | dic {a : Addr} {k : D} {ks vs : List D} : KD Kt a (k :: ks) vs → DV Kt ι F (.ref a) (.dic (k :: ks) vs)
  | kt {a : Addr} {vs : List V} {ds : List D} : SqT Kt.K F a vs → DVs Kt ι F vs ds → DV Kt ι F (.ref a) (.dic [] ds)
inductive DVs (Kt : Kit) (ι : List Addr) (F : Hp) : List V → List D → Prop
  | nil : DVs Kt ι F [] []
  | cons {v : V} {d : D} {vs : List V} {ds : List D} : DV Kt ι F v d → DVs Kt ι F vs ds → DVs Kt ι F (v :: vs) (d :: ds)
end

/-- grows -/
structure Ex (ι : List Addr) (F : Hp) (ι' : List Addr) (F' : Hp) : Prop where
  i : ∀ (l : Nat) (a : Addr), ι[l]? = some a → ι'[l]? = some a
  f : ∀ a o, F a = some o → F' a = some o
theorem Ex.refl {ι : List Addr} {F : Hp} : Ex ι F ι F := ⟨fun _ _ h => h, fun _ _ h => h⟩
theorem Ex.trans {ι ι1 ι2 : List Addr} {F F1 F2 : Hp} (a : Ex ι F ι1 F1) (b : Ex ι1 F1 ι2 F2) : Ex ι F ι2 F2 := ⟨fun l x h => b.i l x (a.i l x h), fun l x h => b.f l x (a.f l x h)⟩
theorem rd_mono {F F' : Hp} (f : ∀ a o, F a = some o → F' a = some o) {a : Addr} {u : HO} (h : Rd F a u) : Rd F' a u := by
  rcases h with h | ⟨o, h⟩
  · exact .inl (f _ _ h)
  · exact .inr ⟨o, f _ _ h⟩
theorem sqt_mono {K : PySem.W.Frag} {F F' : Hp} (f : ∀ a o, F a = some o → F' a = some o) {a : Addr} {xs : List V} (h : SqT K F a xs) : SqT K F' a xs := by
  rcases h with h | h
  · exact .inl (rd_mono f h)
  · exact .inr h
theorem tS {K : PySem.W.Frag} {F : Hp} {a : Addr} {xs : List V} (h : F a = some (.tup xs)) : SqT K F a xs := .inl (.inl h)
theorem sql_mono {K : PySem.W.Frag} {F F' : Hp} (f : ∀ a o, F a = some o → F' a = some o) {a : Addr} {xs : List V} (h : SqL K F a xs) : SqL K F' a xs := by
  rcases h with h | h
  · exact .inl (rd_mono f h)
  · exact .inr h
mutual
theorem DV.mono {Kt : Kit} {ι ι' : List Addr} {F F' : Hp} (x : Ex ι F ι' F') : ∀ {v : V} {d : D}, DV Kt ι F v d → DV Kt ι' F' v d
  | _, _, .non => .non
  | _, _, .bl b => .bl b
  | _, _, .int i => .int i
  | _, _, .str h => .str h
  | _, _, .tup h r => .tup (x.f _ _ h) (DVs.mono x r)
  | _, _, .lst h r => .lst (x.f _ _ h) (DVs.mono x r)
  | _, _, .scr h r => .scr (sql_mono x.f h) (DVs.mono x r)
  | _, _, .ref h => .ref (x.i _ _ h)
  | _, _, .rng h => .rng (x.f _ _ h)
  | _, _, .dic h => .dic h
  | _, _, .kt h r => .kt (sqt_mono x.f h) (DVs.mono x r)
theorem DVs.mono {Kt : Kit} {ι ι' : List Addr} {F F' : Hp} (x : Ex ι F ι' F') : ∀ {v : List V} {d : List D}, DVs Kt ι F v d → DVs Kt ι' F' v d
  | _, _, .nil => .nil
  | _, _, .cons h r => .cons (DV.mono x h) (DVs.mono x r)
end
section
variable {Kt : Kit} {ι : List Addr} {F : Hp}
theorem DVs.length : ∀ {vs : List V} {ds : List D}, DVs Kt ι F vs ds → vs.length = ds.length
  | _, _, .nil => rfl
  | _, _, .cons _ r => congrArg (· + 1) (DVs.length r)
theorem DVs.append : ∀ {vs ws : List V} {ds es : List D}, DVs Kt ι F vs ds → DVs Kt ι F ws es → DVs Kt ι F (vs ++ ws) (ds ++ es)
  | _, _, _, _, .nil, s => s
  | _, _, _, _, .cons h r, s => .cons h (DVs.append r s)
theorem DVs.get : ∀ {vs : List V} {ds : List D} {i : Nat} {d : D}, DVs Kt ι F vs ds → ds[i]? = some d → ∃ v, vs[i]? = some v ∧ DV Kt ι F v d
  | _, _, _, _, .nil, e => by simp at e
  | _, _, 0, _, .cons r _, e => by simp at e; subst e; exact ⟨_, rfl, r⟩
  | _, _, i + 1, d, .cons _ t, e => by
    obtain ⟨v, h1, h2⟩ := DVs.get (i := i) (d := d) t (by simpa using e)
    exact ⟨v, by simpa using h1, h2⟩
theorem DVs.get' : ∀ {vs : List V} {ds : List D} {i : Nat} {v : V}, DVs Kt ι F vs ds → vs[i]? = some v → ∃ d, ds[i]? = some d ∧ DV Kt ι F v d
  | _, _, _, _, .nil, e => by simp at e
  | _, _, 0, _, .cons r _, e => by simp at e; subst e; exact ⟨_, rfl, r⟩
  | _, _, i + 1, d, .cons _ t, e => by
    obtain ⟨v, h1, h2⟩ := DVs.get' (i := i) (v := d) t (by simpa using e)
    exact ⟨v, by simpa using h1, h2⟩
theorem DVs.take : ∀ {vs : List V} {ds : List D} (n : Nat), DVs Kt ι F vs ds → DVs Kt ι F (vs.take n) (ds.take n)
  | _, _, 0, _ => by simp; exact .nil
  | _, _, _ + 1, .nil => .nil
  | _, _, n + 1, .cons h r => .cons h (DVs.take n r)
theorem DVs.drop : ∀ {vs : List V} {ds : List D} (n : Nat), DVs Kt ι F vs ds → DVs Kt ι F (vs.drop n) (ds.drop n)
  | _, _, 0, h => by simpa using h
  | _, _, _ + 1, .nil => .nil
  | _, _, n + 1, .cons _ r => DVs.drop n r
theorem DVs.set {v : V} {d : D} (h : DV Kt ι F v d) : ∀ {vs : List V} {ds : List D} (n : Nat), DVs Kt ι F vs ds → DVs Kt ι F (vs.set n v) (ds.set n d)
  | _, _, _, .nil => .nil
  | _, _, 0, .cons _ r => .cons h r
  | _, _, n + 1, .cons q r => .cons q (DVs.set h n r)
theorem DVs.one {v : V} {d : D} (h : DV Kt ι F v d) : DVs Kt ι F [v] [d] := .cons h .nil
theorem DVs.rep {vs : List V} {ds : List D} (h : DVs Kt ι F vs ds) : ∀ k : Nat, DVs Kt ι F (List.replicate k vs).flatten (List.replicate k ds).flatten
  | 0 => .nil
  | k + 1 => by
    rw [List.replicate_succ, List.replicate_succ, List.flatten_cons, List.flatten_cons]
    exact h.append (DVs.rep h k)
theorem DVs.eraseIdx : ∀ {vs : List V} {ds : List D} (n : Nat), DVs Kt ι F vs ds → DVs Kt ι F (vs.eraseIdx n) (ds.eraseIdx n)
  | _, _, _, .nil => .nil
  | _, _, 0, .cons _ r => r
  | _, _, n + 1, .cons q r => .cons q (DVs.eraseIdx n r)
end

/-! ### objects -/
/-- attributes -/
inductive FR (Kt : Kit) (ι : List Addr) (F : Hp) : List (Str × V) → List (Nat × D) → Prop
  | nil : FR Kt ι F [] []
  | cons {x : Str} {n : Nat} {v : V} {d : D} {fs : List (Str × V)} {gs : List (Nat × D)} : Kt.tab[n]? = some x → DV Kt ι F v d → FR Kt ι F fs gs → FR Kt ι F ((x, v) :: fs) ((n, d) :: gs)
/-- a dict's pairs: keys ints and texts -/
inductive KR (Kt : Kit) (ι : List Addr) (F : Hp) : List (Key × V) → List (D × D) → Prop
  | nil : KR Kt ι F [] []
  | cons {k : Key} {v : V} {d e : D} {r : List (Key × V)} {s : List (D × D)} : DV Kt ι F (kV k) d → DV Kt ι F v e → KR Kt ι F r s → KR Kt ι F ((k, v) :: r) ((d, e) :: s)
/-- .. keys tuples of these -/
inductive KRT (Kt : Kit) (ι : List Addr) (F : Hp) : List (List Key × V) → List (D × D) → Prop
  | nil : KRT Kt ι F [] []
  | cons {k : List Key} {v : V} {ds : List D} {e : D} {r : List (List Key × V)} {s : List (D × D)} : DVs Kt ι F (k.map kV) ds → DV Kt ι F v e → KRT Kt ι F r s → KRT Kt ι F ((k, v) :: r) ((.tup ds, e) :: s)
theorem KR.mono {Kt : Kit} {ι ι' : List Addr} {F F' : Hp} (x : Ex ι F ι' F') : ∀ {fs : List (Key × V)} {gs : List (D × D)}, KR Kt ι F fs gs → KR Kt ι' F' fs gs
  | _, _, .nil => .nil
  | _, _, .cons e h r => .cons (e.mono x) (h.mono x) (KR.mono x r)
theorem KRT.mono {Kt : Kit} {ι ι' : List Addr} {F F' : Hp} (x : Ex ι F ι' F') : ∀ {fs : List (List Key × V)} {gs : List (D × D)}, KRT Kt ι F fs gs → KRT Kt ι' F' fs gs
  | _, _, .nil => .nil
  | _, _, .cons e h r => .cons (e.mono x) (h.mono x) (KRT.mono x r)
def ObR (Kt : Kit) (ι : List Addr) (F H : Hp) (a : Addr) : Ob → Prop
  | .dead => True
  | .lst ds => F a = none ∧ ∃ vs, H a = some (.lst vs) ∧ DVs Kt ι F vs ds
  | .ins c fs => F a = none ∧ ∃ C dx gs, Kt.cls[c]? = some C ∧ H a = some (.ins C dx gs) ∧ FR Kt ι F gs fs
  | .dct t kvs => F a = none ∧ (match t with
    | false => ∃ us, H a = some (.dK us) ∧ KR Kt ι F us kvs
    | true => ∃ us, H a = some (.dT us) ∧ KRT Kt ι F us kvs)
  | .dctL t kvs => (match t with
    | false => ∃ od us, F a = some (.frz od (.dK us)) ∧ KR Kt ι F us kvs
    | true => ∃ od us, F a = some (.frz od (.dT us)) ∧ KRT Kt ι F us kvs)
/-- neither a table of code objects nor a code object -/
def NoT (o : Option HO) : Prop := (∀ ps, o ≠ some (.tbl ps)) ∧ ∀ c q, o ≠ some (LamX.CodeO c q)
theorem noT_lst {xs : List V} : NoT (some (.lst xs)) := ⟨(fun _ h => by cases h), (fun _ _ h => by unfold LamX.CodeO at h; cases h)⟩
theorem noT_ins {C dx : Addr} {fs : List (Str × V)} : NoT (some (.ins C dx fs)) := ⟨(fun _ h => by cases h), (fun _ _ h => by unfold LamX.CodeO at h; cases h)⟩
theorem noT_dK {xs : List (Key × V)} : NoT (some (.dK xs)) := ⟨(fun _ h => by cases h), (fun _ _ h => by unfold LamX.CodeO at h; cases h)⟩
theorem noT_dT {xs : List (List Key × V)} : NoT (some (.dT xs)) := ⟨(fun _ h => by cases h), (fun _ _ h => by unfold LamX.CodeO at h; cases h)⟩
theorem tabS_upd {H : Hp} {P a : Addr} {q : Str} {u : HO} (h : LamX.TabS H P q) (n : NoT (H a)) : LamX.TabS (upd H a u) P q := by
  obtain ⟨ps, h1, h2, h3⟩ := h
  have hP : P ≠ a := fun e => n.1 ps (by rw [← e]; exact h1)
  refine ⟨ps, by rw [upd_ne hP]; exact h1, h2, fun pos cv hc => ?_⟩
  obtain ⟨c, e1, e2⟩ := h3 pos cv hc
  exact ⟨c, e1, by rw [upd_ne (fun e => n.2 c q (by rw [← e]; exact e2))]; exact e2⟩
theorem tabS_ne {H : Hp} {P p : Addr} {q : Str} (h : LamX.TabS H P q) (hp : H p = none) : P ≠ p := by
  obtain ⟨ps, h1, _⟩ := h
  exact ne_of_none h1 hp
structure RelG (Kt : Kit) (Φ : Hp) (ι : List Addr) (F : Hp) (g : G) (H : Hp) : Prop where
  len : ι.length = g.length
  inj : ∀ (i j : Nat) (a : Addr), ι[i]? = some a → ι[j]? = some a → i = j
  sub : ∀ a o, F a = some o → H a = some o
  on : ∀ (i : Nat) (a : Addr), ι[i]? = some a → H a ≠ none
  fr : ∀ a o, Φ a = some o → H a = some o ∧ F a = none ∧ ∀ i : Nat, ι[i]? ≠ some a
  ob : ∀ (l : Nat) (a : Addr) (o : Ob), g[l]? = some o → ι[l]? = some a → ObR Kt ι F H a o
  tb : ∀ t ∈ Kt.tbs, LamX.TabS H t.2.1 t.2.2 ∧ F t.2.1 = none ∧ Φ t.2.1 = none ∧ ∀ i : Nat, ι[i]? ≠ some t.2.1
  nt : ∀ a vs, Φ a ≠ some (.tup vs)
theorem FR.mono {Kt : Kit} {ι ι' : List Addr} {F F' : Hp} (x : Ex ι F ι' F') : ∀ {fs : List (Str × V)} {gs : List (Nat × D)}, FR Kt ι F fs gs → FR Kt ι' F' fs gs
  | _, _, .nil => .nil
  | _, _, .cons e h r => .cons e (h.mono x) (FR.mono x r)
theorem FR.length {Kt : Kit} {ι : List Addr} {F : Hp} : ∀ {fs : List (Str × V)} {gs : List (Nat × D)}, FR Kt ι F fs gs → fs.length = gs.length
  | _, _, .nil => rfl
  | _, _, .cons _ _ r => congrArg (· + 1) (FR.length r)
theorem tab_inj {Kt : Kit} {m n : Nat} {x : Str} (h : Kt.tab[m]? = some x) (k : Kt.tab[n]? = some x) : m = n := nodup_ix Kt.nd h k
/-- an attribute -/
def lkA (n : Nat) : List (Nat × D) → Option D
  | [] => none
  | (m, d) :: r => if m = n then some d else lkA n r
def putA (n : Nat) (v : D) : List (Nat × D) → List (Nat × D)
  | [] => [(n, v)]
  | (m, d) :: r => if m = n then (m, v) :: r else (m, d) :: putA n v r
theorem FR.look {Kt : Kit} {ι : List Addr} {F : Hp} {n : Nat} {x : Str} (hx : Kt.tab[n]? = some x) : ∀ {fs : List (Str × V)} {gs : List (Nat × D)}, FR Kt ι F fs gs → ∀ {d : D}, lkA n gs = some d → ∃ v, fs.lookup x = some v ∧ DV Kt ι F v d
  | _, _, .nil, d, h => by simp [lkA] at h
  | _, _, .cons (x := y) (n := m) e q r, d, h => by
    unfold lkA at h
    by_cases z : m = n
    · rw [if_pos z] at h
      cases h
      subst z
      rw [e] at hx; cases hx
      exact ⟨_, by simp [List.lookup], q⟩
    · rw [if_neg z] at h
      obtain ⟨v, h1, h2⟩ := FR.look hx r h
      refine ⟨v, ?_, h2⟩
      have hne : (x == y) = false := by
        apply beq_eq_false_iff_ne.mpr
        rintro rfl
        exact z (tab_inj e hx)
      simp only [List.lookup, hne, h1]
theorem FR.nolook {Kt : Kit} {ι : List Addr} {F : Hp} {n : Nat} {x : Str} (hx : Kt.tab[n]? = some x) : ∀ {fs : List (Str × V)} {gs : List (Nat × D)}, FR Kt ι F fs gs → lkA n gs = none → fs.lookup x = none
  | _, _, .nil, h => rfl
  | _, _, .cons (x := y) (n := m) e q r, h => by
    unfold lkA at h
    by_cases z : m = n
    · rw [if_pos z] at h; cases h
    · rw [if_neg z] at h
      have h1 := FR.nolook hx r h
      have hne : (x == y) = false := by
        apply beq_eq_false_iff_ne.mpr
        rintro rfl
        exact z (tab_inj e hx)
      simp only [List.lookup, hne, h1]
theorem FR.put {Kt : Kit} {ι : List Addr} {F : Hp} {n : Nat} {x : Str} {v : V} {d : D} (hx : Kt.tab[n]? = some x) (hv : DV Kt ι F v d) : ∀ {fs : List (Str × V)} {gs : List (Nat × D)}, FR Kt ι F fs gs → FR Kt ι F (putF x v fs) (putA n d gs)
  | _, _, .nil => .cons hx hv .nil
  | _, _, .cons (x := y) (n := m) e q r => by
    unfold putA putF
    by_cases z : m = n
    · subst z
      rw [e] at hx; cases hx
      rw [if_pos rfl, if_pos rfl]
      exact .cons e hv r
    · have z' : ¬ y = x := by
        rintro rfl
        exact z (tab_inj e hx)
      rw [if_neg z, if_neg z']
      exact .cons e q (FR.put hx hv r)
theorem ObR.mono {Kt : Kit} {ι ι' : List Addr} {F F' H H' : Hp} (x : Ex ι F ι' F') {a : Addr} (h : H' a = H a) (hf : F a = none → F' a = none) : ∀ {o : Ob}, ObR Kt ι F H a o → ObR Kt ι' F' H' a o
  | .dead, _ => trivial
  | .lst ds, ⟨n, vs, e, r⟩ => ⟨hf n, vs, h.trans e, r.mono x⟩
  | .ins c fs, ⟨n, C, dx, gs, e1, e2, r⟩ => ⟨hf n, C, dx, gs, e1, h.trans e2, r.mono x⟩
  | .dct false _, ⟨n, us, e, r⟩ => ⟨hf n, us, h.trans e, r.mono x⟩
  | .dct true _, ⟨n, us, e, r⟩ => ⟨hf n, us, h.trans e, r.mono x⟩
  | .dctL false _, ⟨od, us, e, r⟩ => ⟨od, us, x.f _ _ e, r.mono x⟩
  | .dctL true _, ⟨od, us, e, r⟩ => ⟨od, us, x.f _ _ e, r.mono x⟩
section
variable {Kt : Kit} {Φ : Hp} {ι : List Addr} {F H : Hp} {g : G}
/-- a new thing that never changes -/
theorem RelG.frz (R : RelG Kt Φ ι F g H) {p : Addr} (hp : H p = none) (o : HO) : RelG Kt Φ ι (upd F p o) g (upd H p o) ∧ Ex ι F ι (upd F p o) := by
  have fp : F p = none := by
    cases e : F p with
    | none => rfl
    | some u => rw [R.sub p u e] at hp; cases hp
  have x : Ex ι F ι (upd F p o) := ⟨fun _ _ h => h, fun a u h => by rw [upd_ne (ne_of_none h fp)]; exact h⟩
  have np : ∀ (l : Nat) (a : Addr), ι[l]? = some a → a ≠ p := fun l a e z => R.on l a e (z ▸ hp)
  refine ⟨⟨R.len, R.inj, fun a u h => ?_, fun i a e => ?_, fun a u h => ?_, fun l a ob e1 e2 => ?_, fun t ht => ⟨(R.tb t ht).1.ext fun b u e => by rw [upd_ne (ne_of_none e hp)]; exact e, by rw [upd_ne (tabS_ne (R.tb t ht).1 hp)]; exact (R.tb t ht).2.1, (R.tb t ht).2.2⟩, R.nt⟩, x⟩
  · by_cases z : a = p
    · subst z; rw [upd_same] at h ⊢; exact h
    · rw [upd_ne z] at h ⊢; exact R.sub a u h
  · rw [upd_ne (np i a e)]; exact R.on i a e
  · obtain ⟨h1, h2, h3⟩ := R.fr a u h
    rw [upd_ne (ne_of_none h1 hp), upd_ne (ne_of_none h1 hp)]
    exact ⟨h1, h2, h3⟩
  · exact (R.ob l a ob e1 e2).mono x (upd_ne (np l a e2)) fun n => by rw [upd_ne (np l a e2)]; exact n
/-- a new object -/
theorem RelG.new (R : RelG Kt Φ ι F g H) {H' : Hp} {p : Addr} (hp : H p = none) (hH : ∀ a o, H a = some o → H' a = some o) (hp' : H' p ≠ none) {o : Ob} (ho : ObR Kt (ι ++ [p]) F H' p o) : RelG Kt Φ (ι ++ [p]) F (g ++ [o]) H' ∧ Ex ι F (ι ++ [p]) F := by
  have x : Ex ι F (ι ++ [p]) F := ⟨fun l a h => by rw [List.getElem?_append_left (List.getElem?_eq_some_iff.mp h).1]; exact h, fun _ _ h => h⟩
  have np : ∀ (l : Nat) (a : Addr), ι[l]? = some a → a ≠ p := fun l a e z => R.on l a e (z ▸ hp)
  have sp : ∀ (l : Nat) (a : Addr), (ι ++ [p])[l]? = some a → ι[l]? = some a ∨ (l = ι.length ∧ a = p) := fun l a e => by
    by_cases z : l < ι.length
    · rw [List.getElem?_append_left z] at e; exact .inl e
    · rw [List.getElem?_append_right (by omega)] at e
      have : l - ι.length = 0 := by
        have := (List.getElem?_eq_some_iff.mp e).1
        simp at this; omega
      rw [this] at e
      simp at e
      exact .inr ⟨by omega, e.symm⟩
  refine ⟨⟨by simp [R.len], fun i j a h1 h2 => ?_, fun a u h => hH a u (R.sub a u h), fun i a e => ?_, fun a u h => ?_, fun l a ob e1 e2 => ?_, fun t ht => ⟨(R.tb t ht).1.ext hH, (R.tb t ht).2.1, (R.tb t ht).2.2.1, fun i e => (by rcases sp i _ e with e | ⟨_, e⟩; exact (R.tb t ht).2.2.2 i e; exact tabS_ne (R.tb t ht).1 hp e)⟩, R.nt⟩, x⟩
  · rcases sp i a h1 with h1 | ⟨h1, e1⟩ <;> rcases sp j a h2 with h2 | ⟨h2, e2⟩
    · exact R.inj i j a h1 h2
    · exact absurd e2 (np i a h1)
    · exact absurd e1 (np j a h2)
    · omega
  · rcases sp i a e with e | ⟨_, e⟩
    · cases q : H a with
      | none => exact absurd q (R.on i a e)
      | some u => rw [hH a u q]; simp
    · rw [e]; exact hp'
  · obtain ⟨h1, h2, h3⟩ := R.fr a u h
    refine ⟨hH a u h1, h2, fun i q => ?_⟩
    rcases sp i a q with q | ⟨_, q⟩
    · exact h3 i q
    · exact (ne_of_none h1 hp) q
  · rcases sp l a e2 with e2 | ⟨e2, e3⟩
    · have hl : l < g.length := by rw [← R.len]; exact (List.getElem?_eq_some_iff.mp e2).1
      rw [List.getElem?_append_left hl] at e1
      cases q : H a with
      | none => exact absurd q (R.on l a e2)
      | some u => exact (R.ob l a ob e1 e2).mono x (by rw [hH a u q, q]) fun n => n
    · rw [e2, R.len, List.getElem?_append_right (Nat.le_refl _), Nat.sub_self] at e1
      simp at e1
      subst e1; subst e3
      exact ho
/-- an object changes -/
theorem RelG.put (R : RelG Kt Φ ι F g H) {l : Nat} {a : Addr} (e : ι[l]? = some a) (hF : F a = none) {u : HO} {o : Ob} (ho : ObR Kt ι F (upd H a u) a o) (hn : NoT (H a)) : RelG Kt Φ ι F (g.set l o) (upd H a u) := by
  refine ⟨by simp [R.len], R.inj, fun b v h => ?_, fun i b h => ?_, fun b v h => ?_, fun m b ob e1 e2 => ?_, fun t ht => ⟨tabS_upd (R.tb t ht).1 hn, (R.tb t ht).2⟩, R.nt⟩
  · rw [upd_ne (ne_of_none h hF)]; exact R.sub b v h
  · by_cases z : b = a
    · subst z; rw [upd_same]; simp
    · rw [upd_ne z]; exact R.on i b h
  · obtain ⟨h1, h2, h3⟩ := R.fr b v h
    have nb : b ≠ a := fun z => h3 l (by rw [z]; exact e)
    rw [upd_ne nb]
    exact ⟨h1, h2, h3⟩
  · by_cases z : m = l
    · subst z
      rw [e] at e2; cases e2
      have hl : m < g.length := by rw [← R.len]; exact (List.getElem?_eq_some_iff.mp e).1
      rw [List.getElem?_set_self hl] at e1
      cases e1
      exact ho
    · rw [List.getElem?_set_ne (Ne.symm z)] at e1
      have zb : b ≠ a := fun q => z (R.inj m l a (q ▸ e2) e)
      exact (R.ob m b ob e1 e2).mono Ex.refl (upd_ne zb) fun n => n
/-- a list that nobody changes any more -/
theorem RelG.done (R : RelG Kt Φ ι F g H) {l : Nat} {ds : List D} (h : g[l]? = some (.lst ds)) :
    ∃ a vs, ι[l]? = some a ∧ RelG Kt Φ ι (upd F a (.lst vs)) (g.set l .dead) H ∧ Ex ι F ι (upd F a (.lst vs)) ∧ DV Kt ι (upd F a (.lst vs)) (.ref a) (.lst ds) := by
  have hl : l < ι.length := by rw [R.len]; exact (List.getElem?_eq_some_iff.mp h).1
  have e : ι[l]? = some ι[l] := List.getElem?_eq_getElem hl
  obtain ⟨hF, vs, hH, r⟩ : F ι[l] = none ∧ ∃ vs, H ι[l] = some (.lst vs) ∧ DVs Kt ι F vs ds := R.ob l _ _ h e
  have x : Ex ι F ι (upd F ι[l] (.lst vs)) := ⟨fun _ _ h => h, fun a u h => by rw [upd_ne (ne_of_none h hF)]; exact h⟩
  refine ⟨ι[l], vs, e, ⟨by simp [R.len], R.inj, fun b v q => ?_, R.on, fun b v q => ?_, fun m b ob e1 e2 => ?_, fun t ht => ⟨(R.tb t ht).1, by rw [upd_ne (fun z => (R.tb t ht).2.2.2 l (by rw [z]; exact e))]; exact (R.tb t ht).2.1, (R.tb t ht).2.2⟩, R.nt⟩, x, .lst upd_same (r.mono x)⟩
  · by_cases z : b = ι[l]
    · subst z; rw [upd_same] at q; cases q; exact hH
    · rw [upd_ne z] at q; exact R.sub b v q
  · obtain ⟨h1, h2, h3⟩ := R.fr b v q
    have nb : b ≠ ι[l] := fun z => h3 l (by rw [z]; exact e)
    rw [upd_ne nb]
    exact ⟨h1, h2, h3⟩
  · by_cases z : m = l
    · subst z
      have hl : m < g.length := by rw [← R.len]; exact (List.getElem?_eq_some_iff.mp e).1
      rw [List.getElem?_set_self hl] at e1
      cases e1
      exact trivial
    · rw [List.getElem?_set_ne (Ne.symm z)] at e1
      have zb : b ≠ ι[l] := fun q => z (R.inj m l _ (q ▸ e2) e)
      exact (R.ob m b ob e1 e2).mono x rfl fun n => by rw [upd_ne zb]; exact n
theorem RelG.at_ (R : RelG Kt Φ ι F g H) {l : Nat} {o : Ob} (h : g[l]? = some o) : ∃ a, ι[l]? = some a ∧ ObR Kt ι F H a o := by
  have hl : l < ι.length := by rw [R.len]; exact (List.getElem?_eq_some_iff.mp h).1
  exact ⟨ι[l], List.getElem?_eq_getElem hl, R.ob l _ _ h (List.getElem?_eq_getElem hl)⟩
end

/-! ### the frame -/
def EnvR (Kt : Kit) (ι : List Addr) (F : Hp) (σ : L2.St) (e : En) : Prop := σ.length = e.length ∧ ∀ (i : Nat) (d : D), e[i]? = some (some d) → ∃ v, σ[i]? = some (some v) ∧ DV Kt ι F v d
theorem EnvR.mono {Kt : Kit} {ι ι' : List Addr} {F F' : Hp} {σ : L2.St} {e : En} (x : Ex ι F ι' F') (h : EnvR Kt ι F σ e) : EnvR Kt ι' F' σ e := ⟨h.1, fun i d q => let ⟨v, a, b⟩ := h.2 i d q; ⟨v, a, b.mono x⟩⟩
theorem EnvR.set {Kt : Kit} {ι : List Addr} {F : Hp} {σ : L2.St} {e : En} (h : EnvR Kt ι F σ e) (i : Nat) {v : V} {d : D} (r : DV Kt ι F v d) : EnvR Kt ι F (σ.set i (some v)) (e.set i (some d)) := by
  refine ⟨by simp [h.1], fun j d' q => ?_⟩
  by_cases z : j = i
  · subst z
    by_cases hj : j < e.length
    · rw [List.getElem?_set_self hj] at q
      cases q
      exact ⟨v, by rw [List.getElem?_set_self (by rw [h.1]; exact hj)], r⟩
    · rw [List.getElem?_eq_none (by simpa using hj)] at q; cases q
  · rw [List.getElem?_set_ne (Ne.symm z)] at q ⊢
    exact h.2 j d' q
theorem EnvR.unset {Kt : Kit} {ι : List Addr} {F : Hp} {σ : L2.St} {e : En} (h : EnvR Kt ι F σ e) (i : Nat) : EnvR Kt ι F (σ.set i none) (e.set i none) := by
  refine ⟨by simp [h.1], fun j d' q => ?_⟩
  by_cases z : j = i
  · subst z
    by_cases hj : j < e.length
    · rw [List.getElem?_set_self hj] at q
      cases q
    · rw [List.getElem?_eq_none (by simpa using hj)] at q; cases q
  · rw [List.getElem?_set_ne (Ne.symm z)] at q ⊢
    exact h.2 j d' q

/-! ### readings -/
/-- where one stands: the state of the data beside the state of the machine -/
structure St' (Kt : Kit) (Φ : Hp) (ι : List Addr) (F : Hp) (e : En) (g : G) (σ : L2.St) (H : Hp) : Prop where
  env : EnvR Kt ι F σ e
  rel : RelG Kt Φ ι F g H
def exP (Kt : Kit) (Φ : Hp) (W : WX) (ι : List Addr) (F : Hp) (σ : L2.St) (c : Nat) (g' : G) : Prop :=
  ∃ C, Kt.cls[c]? = some C ∧ ∀ ι' F' H', Ex ι F ι' F' → RelG Kt Φ ι' F' g' H' → W (.ref C) none σ H'
/-- what is wanted behind a computation -/
def po {α ν : Type} (Kt : Kit) (Φ : Hp) (W : WX) (σ : L2.St) (Rl : List Addr → Hp → ν → α → Prop) (ι : List Addr) (F : Hp) (r : Res α) (Q : ν → Hp → Prop) : Prop := match r with
  | .ok a g' => ∀ ι' F' H' v, Ex ι F ι' F' → RelG Kt Φ ι' F' g' H' → Rl ι' F' v a → Q v H'
  | .exn c g' => exP Kt Φ W ι F σ c g'
  | .stuck => False
abbrev RB : List Addr → Hp → Bool → Bool → Prop := fun _ _ b c => b = c
def te (Kt : Kit) (W : WX) (m : EM) : TE := fun σ H Q => ∃ Φ ι F e g, St' Kt Φ ι F e g σ H ∧ po Kt Φ W σ (DV Kt) ι F (m e g) Q
def tt (Kt : Kit) (W : WX) (m : TM) : TT := fun σ H Q => ∃ Φ ι F e g, St' Kt Φ ι F e g σ H ∧ po Kt Φ W σ RB ι F (m e g) Q
def ta (Kt : Kit) (W : WX) (m : AM) : TA := fun σ H Q => ∃ Φ ι F e g, St' Kt Φ ι F e g σ H ∧ po Kt Φ W σ (DVs Kt) ι F (m e g) Q
theorem exP.mono {Kt : Kit} {Φ : Hp} {W : WX} {ι ι1 : List Addr} {F F1 : Hp} {σ : L2.St} {c : Nat} {g : G} (x : Ex ι F ι1 F1) (h : exP Kt Φ W ι F σ c g) : exP Kt Φ W ι1 F1 σ c g :=
  let ⟨C, e, q⟩ := h
  ⟨C, e, fun ι' F' H' y R => q ι' F' H' (x.trans y) R⟩
theorem po.mono {α ν : Type} {Kt : Kit} {Φ : Hp} {W : WX} {σ : L2.St} {Rl : List Addr → Hp → ν → α → Prop} {ι ι1 : List Addr} {F F1 : Hp} {r : Res α} {Q : ν → Hp → Prop} (x : Ex ι F ι1 F1) (h : po Kt Φ W σ Rl ι F r Q) : po Kt Φ W σ Rl ι1 F1 r Q := by
  cases r with
  | ok a g => exact fun ι' F' H' v y R q => h ι' F' H' v (x.trans y) R q
  | exn c g => exact exP.mono x h
  | stuck => exact h
theorem po.bind {α β ν μ : Type} {Kt : Kit} {Φ : Hp} {W : WX} {σ : L2.St} {Rl : List Addr → Hp → ν → α → Prop} {Rm : List Addr → Hp → μ → β → Prop} {ι : List Addr} {F : Hp} {r : Res α} {k : α → G → Res β} {Q : μ → Hp → Prop}
    (h : po Kt Φ W σ Rm ι F (r.bind k) Q) : po Kt Φ W σ Rl ι F r fun v H1 => ∃ ι1 F1 g1 a, Ex ι F ι1 F1 ∧ RelG Kt Φ ι1 F1 g1 H1 ∧ Rl ι1 F1 v a ∧ po Kt Φ W σ Rm ι1 F1 (k a g1) Q := by
  cases r with
  | ok a g => exact fun ι' F' H' v y R q => ⟨ι', F', g, a, y, R, q, po.mono y h⟩
  | exn c g => exact h
  | stuck => exact h
theorem po.imp {α ν : Type} {Kt : Kit} {Φ : Hp} {W : WX} {σ : L2.St} {Rl : List Addr → Hp → ν → α → Prop} {ι : List Addr} {F : Hp} {r : Res α} {Q Q' : ν → Hp → Prop} (h : po Kt Φ W σ Rl ι F r Q) (i : ∀ v H, Q v H → Q' v H) : po Kt Φ W σ Rl ι F r Q' := by
  cases r with
  | ok a g => exact fun ι' F' H' v y R q => i _ _ (h ι' F' H' v y R q)
  | exn c g => exact h
  | stuck => exact h
/-- what is wanted behind a statement's end -/
def so (Kt : Kit) (Φ : Hp) (W : WX) (D : Ends) (ι : List Addr) (F : Hp) (r : SR) : Prop := match r with
  | .nx e' g' => ∀ ι' F' σ' H', Ex ι F ι' F' → St' Kt Φ ι' F' e' g' σ' H' → D.nx σ' H'
  | .bk e' g' => ∀ ι' F' σ' H', Ex ι F ι' F' → St' Kt Φ ι' F' e' g' σ' H' → D.bk σ' H'
  | .ct e' g' => ∀ ι' F' σ' H', Ex ι F ι' F' → St' Kt Φ ι' F' e' g' σ' H' → D.ct σ' H'
  | .rt d g' => ∀ ι' F' H' v, Ex ι F ι' F' → RelG Kt Φ ι' F' g' H' → DV Kt ι' F' v d → D.rt v H'
  | .exn c e' g' => ∃ C, Kt.cls[c]? = some C ∧ ∀ ι' F' σ' H', Ex ι F ι' F' → St' Kt Φ ι' F' e' g' σ' H' → W (.ref C) none σ' H'
  | .stuck => False
def ts (Kt : Kit) (W : WX) (m : SM) : TS := fun D σ H => ∃ Φ ι F e g, St' Kt Φ ι F e g σ H ∧ so Kt Φ W D ι F (m e g)
theorem so.mono {Kt : Kit} {Φ : Hp} {W : WX} {D : Ends} {ι ι1 : List Addr} {F F1 : Hp} {r : SR} (x : Ex ι F ι1 F1) (h : so Kt Φ W D ι F r) : so Kt Φ W D ι1 F1 r := by
  cases r with
  | nx e g => exact fun ι' F' σ' H' y S => h ι' F' σ' H' (x.trans y) S
  | bk e g => exact fun ι' F' σ' H' y S => h ι' F' σ' H' (x.trans y) S
  | ct e g => exact fun ι' F' σ' H' y S => h ι' F' σ' H' (x.trans y) S
  | rt d g => exact fun ι' F' H' v y R q => h ι' F' H' v (x.trans y) R q
  | exn c e g => exact let ⟨C, q, h⟩ := h; ⟨C, q, fun ι' F' σ' H' y S => h ι' F' σ' H' (x.trans y) S⟩
  | stuck => exact h
@[simp] def sBind {α : Type} (r : Res α) (e : En) (k : α → G → SR) : SR := match r with
  | .ok a g => k a g
  | .exn c g => .exn c e g
  | .stuck => .stuck
theorem so.bind {α ν : Type} {Kt : Kit} {Φ : Hp} {W : WX} {D : Ends} {σ : L2.St} {Rl : List Addr → Hp → ν → α → Prop} {ι : List Addr} {F : Hp} {e : En} {r : Res α} {k : α → G → SR} (S : EnvR Kt ι F σ e) (h : so Kt Φ W D ι F (sBind r e k)) :
    po Kt Φ W σ Rl ι F r fun v H1 => ∃ ι1 F1 g1 a, Ex ι F ι1 F1 ∧ RelG Kt Φ ι1 F1 g1 H1 ∧ Rl ι1 F1 v a ∧ so Kt Φ W D ι1 F1 (k a g1) := by
  cases r with
  | ok a g => exact fun ι' F' H' v y R q => ⟨ι', F', g, a, y, R, q, so.mono y h⟩
  | exn c g => exact let ⟨C, q, h⟩ := h; ⟨C, q, fun ι' F' H' y R => h ι' F' _ H' y ⟨S.mono y, R⟩⟩
  | stuck => exact h
end Y

namespace L2
open PySem PySem.Spec PyProof.Rows
section
variable {X : Cx}
theorem PE.imp {e : Expr} {t t' : TE} (h : PE X e t) (i : ∀ σ H Q, t' σ H Q → t σ H Q) : PE X e t' := ⟨fun pins s σ H Q I q => h.run pins s σ H Q I (i σ H Q q)⟩
theorem PT.imp {e : Expr} {t t' : TT} (h : PT X e t) (i : ∀ σ H Q, t' σ H Q → t σ H Q) : PT X e t' := ⟨fun pins s σ H Q I q => h.run pins s σ H Q I (i σ H Q q)⟩
theorem PA.imp {e : List Expr} {t t' : TA} (h : PA X e t) (i : ∀ σ H Q, t' σ H Q → t σ H Q) : PA X e t' := ⟨fun pos pins s σ H Q I q => h.run pos pins s σ H Q I (i σ H Q q)⟩
theorem PS.imp {e : Stmt} {t t' : TS} (h : PS X e t) (i : ∀ D σ H, t' D σ H → t D σ H) : PS X e t' := ⟨fun pins s σ H D I q => h.run pins s σ H D I (i D σ H q)⟩
theorem PSs.imp {e : List Stmt} {t t' : TS} (h : PSs X e t) (i : ∀ D σ H, t' D σ H → t D σ H) : PSs X e t' := ⟨fun pins s σ H D I q => h.run pins s σ H D I (i D σ H q)⟩
end
theorem PW.imp {X : Cx} {e : Expr} {t t' : TT} (h : PW X e t) (i : ∀ σ H Q, t' σ H Q → t σ H Q) : PW X e t' := ⟨fun wh pins s σ H Q I q => h.run wh pins s σ H Q I (i σ H Q q)⟩
end L2

set_option Elab.async false
set_option linter.all false
set_option maxRecDepth 100000
namespace Y
open PySem PySem.Spec PyProof.Rows L2

/-- where a body runs -/
structure At (Kt : Kit) (X : Cx) (W : WX) (k : Nat) : Prop where
  eP : X.prog = Kt.P
  ew : X.w = Kt.w
  eK : X.K = Kt.K
  em : X.mg = Kt.mg
  eb : X.base = Kt.base
  calm : X.calm = true
  tk : Takes X W
  room : Room k X.A
  pso : PassesOwn (model X.prog X.w) X.A X.env X.xe
  nd : X.N.Nodup
theorem At.hu {Kt : Kit} {X : Cx} {W : WX} {k : Nat} (A : At Kt X W k) : X.A.units + 65 < cLine := by have := A.room.un; omega

def LINE : Nat := 16777216
theorem line_eq : LINE = sizeLine := sizeLine_eq.symm
/-! the tests upon sizes, by name; what is not written stands first, so that nobody reckons with it -/
def okL (n : Nat) : Bool := Nat.ble n 16777216
def ltL (n : Nat) : Bool := Nat.ble n 16777215
def rB (j : Int) : Bool := Nat.ble j.natAbs 4611686018427387903
def mB (i j : Int) : Bool := Nat.ble i.natAbs 18446744073709551615 || Nat.ble j.natAbs 18446744073709551615
def dB (j : Int) : Bool := Nat.ble 1 j.toNat && Nat.ble j.toNat 1073741823
def pB (j : Int) : Bool := Nat.ble 1 j.toNat
def wB (i j : Int) : Bool := Nat.ble (-j).toNat 0 && (Nat.ble j.toNat 1000000 && Nat.ble i.natAbs 18446744073709551615)
def nB (n : Nat) (j : Int) : Bool := Nat.ble (-j).toNat 0 && (Nat.ble j.toNat 1048575 && Nat.ble (n * j.toNat) 16777216)
theorem okL_iff {n : Nat} : okL n = true ↔ n ≤ sizeLine := by unfold okL; rw [Nat.ble_eq, ← line_eq]; rfl
theorem ltL_iff {n : Nat} : ltL n = true ↔ n < sizeLine := by unfold ltL; rw [Nat.ble_eq, ← line_eq]; exact Nat.lt_succ_iff.symm
theorem okL_of {n : Nat} (h : n ≤ 16777216) : okL n = true := Nat.ble_eq.mpr h
theorem ltL_of {n : Nat} (h : n < 16777216) : ltL n = true := Nat.ble_eq.mpr (Nat.le_of_lt_succ h)
theorem rB_ok {j : Int} (h : rB j = true) : -(2 ^ 62) ≤ j ∧ j < 2 ^ 62 := by
  have h := Nat.ble_eq.mp h
  rw [show (2 : Int) ^ 62 = 4611686018427387904 by decide]
  omega
theorem mB_ok {i j : Int} (h : mB i j = true) : (-(2 ^ 64) < i ∧ i < 2 ^ 64) ∨ (-(2 ^ 64) < j ∧ j < 2 ^ 64) := by
  unfold mB at h
  rw [Bool.or_eq_true, Nat.ble_eq, Nat.ble_eq] at h
  rw [show (2 : Int) ^ 64 = 18446744073709551616 by decide]
  omega
theorem dB_ok {j : Int} (h : dB j = true) : 0 < j ∧ j < 1073741824 := by
  unfold dB at h
  rw [Bool.and_eq_true, Nat.ble_eq, Nat.ble_eq] at h
  omega
theorem pB_ok {j : Int} (h : pB j = true) : 0 < j := by
  unfold pB at h
  rw [Nat.ble_eq] at h
  omega
theorem wB_ok {i j : Int} (h : wB i j = true) : 0 ≤ j ∧ j ≤ 1000000 ∧ i.natAbs < 2 ^ 64 := by
  unfold wB at h
  rw [Bool.and_eq_true, Bool.and_eq_true, Nat.ble_eq, Nat.ble_eq, Nat.ble_eq] at h
  rw [show 2 ^ 64 = 18446744073709551616 by decide]
  omega
theorem nB_ok {n : Nat} {j : Int} (h : nB n j = true) : 0 ≤ j ∧ j < 1048576 ∧ n * j.toNat ≤ sizeLine := by
  unfold nB at h
  rw [Bool.and_eq_true, Bool.and_eq_true, Nat.ble_eq, Nat.ble_eq, Nat.ble_eq] at h
  exact ⟨by omega, by omega, by rw [← line_eq]; exact h.2.2⟩
theorem rB_of {j : Int} (h : -1000000000 ≤ j) (h' : j ≤ 1000000000) : rB j = true := Nat.ble_eq.mpr (by omega)
theorem mB_r {i j : Int} (h : -1000000000000 ≤ j) (h' : j ≤ 1000000000000) : mB i j = true := by unfold mB; rw [Bool.or_eq_true, Nat.ble_eq, Nat.ble_eq]; omega
theorem mB_l {i j : Int} (h : -1000000000000 ≤ i) (h' : i ≤ 1000000000000) : mB i j = true := by unfold mB; rw [Bool.or_eq_true, Nat.ble_eq, Nat.ble_eq]; omega
theorem dB_of {j : Int} (h : 0 < j) (h' : j < 1073741824) : dB j = true := by unfold dB; rw [Bool.and_eq_true, Nat.ble_eq, Nat.ble_eq]; omega
theorem pB_of {j : Int} (h : 0 < j) : pB j = true := by unfold pB; rw [Nat.ble_eq]; omega
theorem nB_of {n : Nat} {j : Int} (h : 0 ≤ j) (h' : j < 1048576) (h2 : n * j.toNat ≤ 16777216) : nB n j = true := by unfold nB; rw [Bool.and_eq_true, Bool.and_eq_true, Nat.ble_eq, Nat.ble_eq, Nat.ble_eq]; exact ⟨by omega, by omega, h2⟩

/-! ### data by the heap -/
def snap (g : G) : D → D
  | .ref l => match g[l]? with
    | some (.lst ds) => .lst ds
    | _ => .ref l
  | d => d
@[simp] theorem snap_non {g : G} : snap g .non = .non := rfl
@[simp] theorem snap_bl {g : G} {b : Bool} : snap g (.bl b) = .bl b := rfl
@[simp] theorem snap_int {g : G} {b : Int} : snap g (.int b) = .int b := rfl
@[simp] theorem snap_str {g : G} {b : Nat} : snap g (.str b) = .str b := rfl
@[simp] theorem snap_tup {g : G} {b : List D} : snap g (.tup b) = .tup b := rfl
@[simp] theorem snap_lst {g : G} {b : List D} : snap g (.lst b) = .lst b := rfl
@[simp] theorem snap_rng {g : G} {a b : Int} : snap g (.rng a b) = .rng a b := rfl
theorem snap_ref {g : G} {l : Nat} : snap g (.ref l) = match g[l]? with
    | some (.lst ds) => .lst ds
    | _ => .ref l := rfl
/-- a list's items -/
def lsD (g : G) (d : D) : Option (List D) := match snap g d with
  | .lst ds => some ds
  | _ => none
section
variable {Kt : Kit} {Φ : Hp} {ι : List Addr} {F H : Hp} {g : G} {v : V} {d : D} {ds : List D}
theorem lsD_ok (R : RelG Kt Φ ι F g H) (r : DV Kt ι F v d) (h : lsD g d = some ds) : ∃ a vs, v = .ref a ∧ H a = some (.lst vs) ∧ DVs Kt ι F vs ds := by
  unfold lsD at h
  cases r with
  | lst e q => simp at h; subst h; exact ⟨_, _, rfl, R.sub _ _ e, q⟩
  | @ref l a e =>
    rw [snap_ref] at h
    cases z : g[l]? with
    | none => rw [z] at h; simp at h
    | some o =>
      rw [z] at h
      cases o with
      | lst es =>
        simp at h; subst h
        obtain ⟨_, vs, e2, q⟩ := R.ob l a _ z e
        exact ⟨a, vs, rfl, e2, q⟩
      | _ => simp at h
  | non => simp at h
  | bl b => simp at h
  | int i => simp at h
  | str e => simp at h
  | tup e r => simp at h
  | scr e r => simp [snap] at h
  | rng e => simp at h
  | dic e => simp [snap] at h
  | kt e r => simp [snap] at h

/-! ### as the model's data -/
mutual
def py (T : List Str) : D → PyData
  | .bl b => .bool b
  | .int i => .int i
  | .str n => .str (T.getD n ⟨#[]⟩)
  | .tup ds => .tuple (pys T ds)
  | .lst ds => .list (pys T ds)
  | _ => .none
def pys (T : List Str) : List D → List PyData
  | [] => []
  | d :: ds => py T d :: pys T ds
end
mutual
/-- the texts are in the table -/
def inT (T : List Str) : D → Prop
  | .str n => n < T.length
  | .tup ds => inTs T ds
  | .lst ds => inTs T ds
  | _ => True
def inTs (T : List Str) : List D → Prop
  | [] => True
  | d :: ds => inT T d ∧ inTs T ds
end
mutual
theorem DV.inT : ∀ {v : V} {d : D}, DV Kt ι F v d → inT Kt.tab d
  | _, _, .non => by simp [Y.inT]
  | _, _, .bl b => by simp [Y.inT]
  | _, _, .int i => by simp [Y.inT]
  | _, _, .str h => by unfold Y.inT; exact (List.getElem?_eq_some_iff.mp h).1
  | _, _, .tup h r => by unfold Y.inT; exact DVs.inTs r
  | _, _, .lst h r => by unfold Y.inT; exact DVs.inTs r
  | _, _, .scr h r => by simp [Y.inT]
  | _, _, .ref h => by simp [Y.inT]
  | _, _, .rng h => by simp [Y.inT]
  | _, _, .dic h => by simp [Y.inT]
  | _, _, .kt h r => by simp [Y.inT]
theorem DVs.inTs : ∀ {v : List V} {d : List D}, DVs Kt ι F v d → inTs Kt.tab d
  | _, _, .nil => by simp [Y.inTs]
  | _, _, .cons h r => by unfold Y.inTs; exact ⟨DV.inT h, DVs.inTs r⟩
end
theorem getD_inj {T : List Str} (nd : T.Nodup) {m n : Nat} (hm : m < T.length) (hn : n < T.length) : (T.getD m ⟨#[]⟩ == T.getD n ⟨#[]⟩) = (m == n) := by
  rw [List.getD_eq_getElem?_getD, List.getD_eq_getElem?_getD, List.getElem?_eq_getElem hm, List.getElem?_eq_getElem hn]
  rw [Bool.eq_iff_iff]
  simp only [Option.getD_some, beq_iff_eq]
  exact ⟨fun e => (List.getElem_inj nd).mp e, fun e => by subst e; rfl⟩
mutual
theorem deq_py {T : List Str} (nd : T.Nodup) : ∀ (d e : D) (n m : Nat), pud n d = true → pud m e = true → inT T d → inT T e → PyData.eqv (py T d) (py T e) = deq d e
  | .non, e, n, m, hd, he, id, ie => by cases e <;> simp [py, PyData.eqv, deq] <;> simp [pud] at he
  | .bl b, e, n, m, hd, he, id, ie => by cases e <;> simp [py, PyData.eqv, deq] <;> simp [pud] at he
  | .int i, e, n, m, hd, he, id, ie => by cases e <;> simp [py, PyData.eqv, deq] <;> simp [pud] at he
  | .str k, e, n, m, hd, he, id, ie => by
    cases e <;> simp only [py, PyData.eqv, deq] <;> first
      | (simp [pud] at he; done)
      | exact getD_inj nd (by simpa [inT] using id) (by simpa [inT] using ie)
  | .tup ds, e, n, m, hd, he, id, ie => by
    cases e <;> simp only [py, PyData.eqv, deq] <;> first
      | (simp [pud] at he; done)
      | (cases n with
        | zero => simp [pud] at hd
        | succ n =>
          cases m with
          | zero => simp [pud] at he
          | succ m => exact deqs_py nd ds _ n m (by simpa [pud] using hd) (by simpa [pud] using he) (by simpa [inT] using id) (by simpa [inT] using ie))
  | .lst ds, e, n, m, hd, he, id, ie => by
    cases e <;> simp only [py, PyData.eqv, deq] <;> first
      | (simp [pud] at he; done)
      | (cases n with
        | zero => simp [pud] at hd
        | succ n =>
          cases m with
          | zero => simp [pud] at he
          | succ m => exact deqs_py nd ds _ n m (by simpa [pud] using hd) (by simpa [pud] using he) (by simpa [inT] using id) (by simpa [inT] using ie))
  | .scr ds, e, n, m, hd, he, id, ie => by simp [pud] at hd
  | .ref l, e, n, m, hd, he, id, ie => by simp [pud] at hd
  | .rng a b, e, n, m, hd, he, id, ie => by simp [pud] at hd
  | .dic a b, e, n, m, hd, he, id, ie => by simp [pud] at hd
theorem deqs_py {T : List Str} (nd : T.Nodup) : ∀ (d e : List D) (n m : Nat), (∀ x ∈ d, pud n x = true) → (∀ x ∈ e, pud m x = true) → inTs T d → inTs T e → PyData.eqvAll (pys T d) (pys T e) = deqs d e
  | [], e, n, m, hd, he, id, ie => by cases e <;> simp [pys, PyData.eqvAll, deqs]
  | x :: d, e, n, m, hd, he, id, ie => by
    cases e with
    | nil => simp [pys, PyData.eqvAll, deqs]
    | cons y e =>
      unfold inTs at id ie
      simp only [pys, PyData.eqvAll, deqs]
      rw [deq_py nd x y n m (hd x List.mem_cons_self) (he y List.mem_cons_self) id.1 ie.1, deqs_py nd d e n m (fun z hz => hd z (List.mem_cons_of_mem _ hz)) (fun z hz => he z (List.mem_cons_of_mem _ hz)) id.2 ie.2]
end
theorem sk_getD {T : List Str} (sk : T.all PyData.strOk = true) (n : Nat) : PyData.strOk (T.getD n ⟨#[]⟩) = true := by
  rw [List.getD_eq_getElem?_getD]
  cases e : T[n]? with
  | none => decide +kernel
  | some x => exact List.all_eq_true.mp sk x (List.mem_of_getElem? e)
mutual
theorem py_lay {T : List Str} (sk : T.all PyData.strOk = true) : ∀ (d : D), (py T d).canLay0 = true
  | .non => rfl
  | .bl b => rfl
  | .int i => rfl
  | .str n => by simp only [py, PyData.canLay0]; exact sk_getD sk n
  | .tup ds => by simp only [py, PyData.canLay0]; exact pys_lay sk ds
  | .lst ds => by simp only [py, PyData.canLay0]; exact pys_lay sk ds
  | .scr _ => rfl
  | .ref _ => rfl
  | .rng _ _ => rfl
  | .dic _ _ => rfl
theorem pys_lay {T : List Str} (sk : T.all PyData.strOk = true) : ∀ (d : List D), PyData.canLayAll0 (pys T d) = true
  | [] => rfl
  | d :: ds => by simp only [pys, PyData.canLayAll0, py_lay sk d, pys_lay sk ds, Bool.and_self]
end
mutual
theorem py_depth {T : List Str} : ∀ (d : D) (n : Nat), pud n d = true → (py T d).depth ≤ n
  | .non, n, h => by simp [py, PyData.depth]
  | .bl b, n, h => by simp [py, PyData.depth]
  | .int i, n, h => by simp [py, PyData.depth]
  | .str k, n, h => by simp [py, PyData.depth]
  | .tup ds, n, h => by
    cases n with
    | zero => simp [pud] at h
    | succ n =>
      simp only [py, PyData.depth]
      have := pys_depth (T := T) ds n (by simpa [pud] using h)
      omega
  | .lst ds, n, h => by
    cases n with
    | zero => simp [pud] at h
    | succ n =>
      simp only [py, PyData.depth]
      have := pys_depth (T := T) ds n (by simpa [pud] using h)
      omega
  | .scr _, n, h => by simp [pud] at h
  | .ref _, n, h => by simp [pud] at h
  | .rng _ _, n, h => by simp [pud] at h
  | .dic _ _, n, h => by simp [pud] at h
theorem pys_depth {T : List Str} : ∀ (d : List D) (n : Nat), (∀ x ∈ d, pud n x = true) → PyData.depthAll (pys T d) ≤ n
  | [], n, h => by simp [pys, PyData.depthAll]
  | d :: ds, n, h => by
    simp only [pys, PyData.depthAll]
    have h1 := py_depth (T := T) d n (h d List.mem_cons_self)
    have h2 := pys_depth (T := T) ds n fun x hx => h x (List.mem_cons_of_mem _ hx)
    omega
end
theorem py_shaped {T : List Str} (sk : T.all PyData.strOk = true) {d : D} {n : Nat} (h : pud n d = true) (hn : n ≤ 64) : SeqAt.shaped (py T d) = true := by
  unfold SeqAt.shaped
  rw [py_lay sk, Bool.true_and, decide_eq_true_eq]
  exact Nat.le_trans (py_depth d n h) hn
mutual
theorem DV.dp (R : RelG Kt Φ ι F g H) : ∀ {v : V} {d : D} (n : Nat), DV Kt ι F v d → pud n d = true → Dp Kt.K H v (py Kt.tab d)
  | _, _, n, .non, h => .non
  | _, _, n, .bl b, h => .bl b
  | _, _, n, .int i, h => .int i
  | _, _, n, .str (n := m) (x := x) e, h => by
    unfold py
    rw [List.getD_eq_getElem?_getD, e]
    exact .str x
  | _, _, 0, .tup e r, h => by simp [pud] at h
  | _, _, n + 1, .tup e r, h => by
    unfold py
    exact .tup (sqt_mono R.sub (tS e)) (DVs.dp R n r (by simpa [pud] using h))
  | _, _, 0, .lst e r, h => by simp [pud] at h
  | _, _, n + 1, .lst e r, h => by
    unfold py
    exact .lst (.inl (.inl (R.sub _ _ e))) (DVs.dp R n r (by simpa [pud] using h))
  | _, _, n, .scr e r, h => by simp [pud] at h
  | _, _, n, .ref e, h => by simp [pud] at h
  | _, _, n, .rng e, h => by simp [pud] at h
  | _, _, n, .dic e, h => by simp [pud] at h
  | _, _, n, .kt e r, h => by simp [pud] at h
theorem DVs.dp (R : RelG Kt Φ ι F g H) : ∀ {v : List V} {d : List D} (n : Nat), DVs Kt ι F v d → (∀ x ∈ d, pud n x = true) → DpAll Kt.K H v (pys Kt.tab d)
  | _, _, n, .nil, h => .nil
  | _, _, n, .cons e r, h => .cons (DV.dp R n e (h _ List.mem_cons_self)) (DVs.dp R n r fun x hx => h x (List.mem_cons_of_mem _ hx))
end
theorem snap_dp (R : RelG Kt Φ ι F g H) (r : DV Kt ι F v d) (h : pud 8 (snap g d) = true) : Dp Kt.K H v (py Kt.tab (snap g d)) ∧ inT Kt.tab (snap g d) := by
  cases r with
  | @ref l a e =>
    rw [snap_ref] at h ⊢
    cases z : g[l]? with
    | none => rw [z] at h; simp [pud] at h
    | some o =>
      rw [z] at h
      cases o with
      | lst es =>
        simp only at h ⊢
        obtain ⟨_, vs, e2, q⟩ := R.ob l a _ z e
        unfold py inT
        exact ⟨.lst (.inl (.inl e2)) (DVs.dp R 7 q (by simpa [pud] using h)), q.inTs⟩
      | _ => simp [pud] at h
  | non => exact ⟨.non, by simp [inT]⟩
  | bl b => exact ⟨.bl b, by simp [inT]⟩
  | int i => exact ⟨.int i, by simp [inT]⟩
  | str e => exact ⟨DV.dp R 8 (.str e) rfl, DV.inT (.str (ι := ι) (F := F) e)⟩
  | tup e r => exact ⟨DV.dp R 8 (.tup e r) h, DV.inT (.tup e r)⟩
  | lst e r => exact ⟨DV.dp R 8 (.lst e r) h, DV.inT (.lst e r)⟩
  | scr e r => simp [snap, pud] at h
  | rng e => simp [snap, pud] at h
  | dic e => simp [snap, pud] at h
  | kt e r => simp [snap, pud] at h
end

/-! ### operators -/
abbrev OpT := G → D → D → Option D
def oR (o : Option D) (g : G) : Res D := match o with
  | some d => .ok d g
  | none => .stuck
@[simp] theorem oR_some {d : D} {g : G} : oR (some d) g = .ok d g := rfl
def vOp (o : OpT) (a b : EM) : EM := fun e g => (a e g).bind fun x g1 => (b e g1).bind fun y g2 => oR (o g2 x y) g2
/-- what a value operator of the data says of the values -/
def OpD (Kt : Kit) (r : R2) (o : OpT) : Prop := ∀ {Φ : Hp} {ι : List Addr} {F : Hp} {g : G} {H : Hp} {x y : V} {d e z : D}, RelG Kt Φ ι F g H → DV Kt ι F x d → DV Kt ι F y e → o g d e = some z →
  ∀ Q : VK, (∀ ι' F' H' v, Ex ι F ι' F' → RelG Kt Φ ι' F' g H' → DV Kt ι' F' v z → Q v H') → r x y H Q
def UnD (Kt : Kit) (r : V → Hp → VK → Prop) (o : G → D → Option D) : Prop := ∀ {Φ : Hp} {ι : List Addr} {F : Hp} {g : G} {H : Hp} {x : V} {d z : D}, RelG Kt Φ ι F g H → DV Kt ι F x d → o g d = some z →
  ∀ Q : VK, (∀ ι' F' H' v, Ex ι F ι' F' → RelG Kt Φ ι' F' g H' → DV Kt ι' F' v z → Q v H') → r x H Q
section
variable {Kt : Kit} {W : WX} {ma mb mc : EM} {r : R2} {o : OpT} {σ : L2.St} {H : Hp} {Q : VK}
theorem te_op (hd : OpD Kt r o) (h : te Kt W (vOp o ma mb) σ H Q) : tOp r (te Kt W ma) (te Kt W mb) σ H Q := by
  obtain ⟨Φ, ι, F, e, g, S, h⟩ := h
  refine ⟨Φ, ι, F, e, g, S, (po.bind (Rl := DV Kt) h).imp fun v H1 ⟨ι1, F1, g1, a, x1, R1, r1, h1⟩ => ?_⟩
  refine ⟨Φ, ι1, F1, e, g1, ⟨S.env.mono x1, R1⟩, (po.bind (Rl := DV Kt) h1).imp fun v2 H2 ⟨ι2, F2, g2, b, x2, R2, r2, h2⟩ => ?_⟩
  cases z : o g2 a b with
  | none => rw [z] at h2; exact h2.elim
  | some d => rw [z] at h2; exact hd R2 (r1.mono x2) r2 z Q h2
/-- an answer that is at hand -/
theorem te_un {r : V → Hp → VK → Prop} {o : G → D → Option D} (hd : UnD Kt r o) (h : te Kt W (fun e g => (ma e g).bind fun x g1 => oR (o g1 x) g1) σ H Q) : tUn r (te Kt W ma) σ H Q := by
  obtain ⟨Φ, ι, F, e, g, S, h⟩ := h
  refine ⟨Φ, ι, F, e, g, S, (po.bind (Rl := DV Kt) h).imp fun v H1 ⟨ι1, F1, g1, a, x1, R1, r1, h1⟩ => ?_⟩
  cases z : o g1 a with
  | none => rw [z] at h1; exact h1.elim
  | some d => rw [z] at h1; exact hd R1 r1 z Q h1
end

/-! #### the operators -/
def addD : OpT := fun g x y => match x, y with
  | .int i, .int j => some (.int (i + j))
  | .tup a, .tup b => (match a.isEmpty || !okL (a.length + b.length) with
    | true => none
    | false => some (.tup (a ++ b)))
  | _, _ => match lsD g x, lsD g y with
    | some a, some b => (match okL (a.length + b.length) with
    | true => some (.lst (a ++ b))
    | false => none)
    | _, _ => none
def subD : OpT := fun _ x y => match x, y with
  | .int i, .int j => some (.int (i - j))
  | _, _ => none
def mulD : OpT := fun _ x y => match x, y with
  | .int i, .int j => (match mB i j with
    | true => some (.int (i * j))
    | false => none)
  | .lst a, .int j => (match nB a.length j with
    | true => some (.lst (List.replicate j.toNat a).flatten)
    | false => none)
  | _, _ => none
def divD : OpT := fun _ x y => match x, y with
  | .int i, .int j => (match dB j with
    | true => some (.int (i / j))
    | false => none)
  | _, _ => none
def modD : OpT := fun _ x y => match x, y with
  | .int i, .int j => (match pB j with
    | true => some (.int (i % j))
    | false => none)
  | _, _ => none
def powD : OpT := fun _ x y => match x, y with
  | .int i, .int j => (match wB i j with
    | true => some (.int (i ^ j.toNat))
    | false => none)
  | _, _ => none
def eqD : OpT := fun g x y => match pud 8 (snap g x) && pud 8 (snap g y) with
  | true => some (.bl (deq (snap g x) (snap g y)))
  | false => none
def neD : OpT := fun g x y => match pud 8 (snap g x) && pud 8 (snap g y) with
  | true => some (.bl (!deq (snap g x) (snap g y)))
  | false => none
def icD (p : Int → Int → Bool) : OpT := fun _ x y => match x, y with
  | .int i, .int j => some (.bl (p i j))
  | _, _ => none
abbrev ltD : OpT := icD fun i j => decide (i < j)
abbrev leD : OpT := icD fun i j => decide (i ≤ j)
abbrev gtD : OpT := icD fun i j => decide (j < i)
abbrev geD : OpT := icD fun i j => decide (j ≤ i)
def nonD : D → Bool
  | .non => true
  | _ => false
def isN : OpT := fun _ x y => match y with
  | .non => some (.bl (nonD x))
  | _ => none
def notN : OpT := fun _ x y => match y with
  | .non => some (.bl (!nonD x))
  | _ => none
/-- is False: one of None, True, False, ints .. -/
def sqD (g : G) (d : D) : Option (List D) := match d with
  | .tup ds => some ds
  | .dic [] ds => some ds
  | _ => lsD g d
def inD (neg : Bool) : OpT := fun g x y => match y with
  | .rng lo hi => match x with
    | .int i => (match neg with
      | true => none
      | false => some (.bl (decide (lo ≤ i ∧ i < hi))))
    | _ => none
  | _ => match sqD g y with
    | some ds => (match pud 7 x && ds.all (pud 7) with
      | true => some (.bl ((ds.any fun z => deq z x) != neg))
      | false => none)
    | none => none
/-- the items of what is indexed -/
def itD (g : G) (d : D) : Option (List D) := match d with
  | .tup ds => some ds
  | .scr ds => some ds
  | _ => lsD g d
def ixD : OpT := fun g x y => match y with
  | .int i => match itD g x with
    | some ds => atI ds i
    | none => none
  | _ => none
def cutD (xs : List D) (lo hi : Option Int) : List D := (xs.drop (HT.sIx xs.length 0 lo)).take (HT.sIx xs.length xs.length hi - HT.sIx xs.length 0 lo)
def slD (g : G) (x : D) (lo hi : Option Int) : Option D := match x with
  | .tup ds => (match decide (HT.sIx ds.length 0 lo = 0 ∧ HT.sIx ds.length ds.length hi = ds.length) with
    | true => none
    | false => some (.tup (cutD ds lo hi)))
  | _ => match lsD g x with
    | some ds => some (.lst (cutD ds lo hi))
    | none => none
section
variable {Kt : Kit} {Φ : Hp} {ι : List Addr} {F H : Hp} {g : G}
/-- a new list, a new tuple -/
theorem newL (R : RelG Kt Φ ι F g H) {vs : List V} {ds : List D} (r : DVs Kt ι F vs ds) {Q : VK} (h : ∀ ι' F' H' v, Ex ι F ι' F' → RelG Kt Φ ι' F' g H' → DV Kt ι' F' v (.lst ds) → Q v H') (p : Addr) (hp : H p = none) : Q (.ref p) (upd H p (.lst vs)) := by
  obtain ⟨R', x⟩ := R.frz hp (.lst vs)
  exact h _ _ _ _ x R' (.lst upd_same (r.mono x))
theorem newT (R : RelG Kt Φ ι F g H) {vs : List V} {ds : List D} (r : DVs Kt ι F vs ds) {Q : VK} (h : ∀ ι' F' H' v, Ex ι F ι' F' → RelG Kt Φ ι' F' g H' → DV Kt ι' F' v (.tup ds) → Q v H') (p : Addr) (hp : H p = none) : Q (.ref p) (upd H p (.tup vs)) := by
  obtain ⟨R', x⟩ := R.frz hp (.tup vs)
  exact h _ _ _ _ x R' (.tup upd_same (r.mono x))
theorem od_add : OpD Kt (fun x y H Q => rI0 (fun i j => .int (i + j)) x y H Q ∨ rCatT Kt.K x y H Q ∨ rCat x y H Q) addD := by
  intro Φ ι F g H x y d e z R hx hy h Q q
  unfold addD at h
  split at h
  · cases hx; cases hy; cases h
    exact .inl ⟨_, _, rfl, rfl, q _ _ _ _ Ex.refl R (.int _)⟩
  · rename_i a b
    cases hx with
    | tup e1 r1 =>
    cases hy with
    | tup e2 r2 =>
    split at h
    · cases h
    · rename_i hc
      cases h
      rw [Bool.or_eq_false_iff, Bool.not_eq_false', okL_iff] at hc
      refine .inr (.inl ⟨_, _, _, _, rfl, rfl, sqt_mono R.sub (tS e1), sqt_mono R.sub (tS e2), ?_, ?_, fun e => ?_, fun _ => newT R (r1.append r2) q⟩)
      · intro e; subst e; cases r1; exact Bool.noConfusion hc.1
      · rw [r1.length, r2.length]; exact hc.2
      · subst e; cases r2
        rw [List.append_nil] at q
        exact q _ _ _ _ Ex.refl R (.tup e1 r1)
  · split at h
    · rename_i a b h1 h2
      split at h
      · rename_i hl
        cases h
        obtain ⟨p, vs, rfl, e1, r1⟩ := lsD_ok R hx h1
        obtain ⟨p', vs', rfl, e2, r2⟩ := lsD_ok R hy h2
        exact .inr (.inr ⟨_, _, _, _, rfl, rfl, e1, e2, by rw [r1.length, r2.length]; exact okL_iff.mp hl, newL R (r1.append r2) q⟩)
      · cases h
    · cases h
theorem od_sub : OpD Kt (rI0 fun i j => .int (i - j)) subD := by
  intro Φ ι F g H x y d e z R hx hy h Q q
  unfold subD at h
  split at h
  · cases hx; cases hy; cases h
    exact ⟨_, _, rfl, rfl, q _ _ _ _ Ex.refl R (.int _)⟩
  · cases h
theorem od_mul : OpD Kt (fun x y H Q => rI CMul (fun i j => .int (i * j)) x y H Q ∨ rRep x y H Q) mulD := by
  intro Φ ι F g H x y d e z R hx hy h Q q
  unfold mulD at h
  split at h
  · cases hx; cases hy
    split at h
    · rename_i hc
      cases h
      exact .inl ⟨_, _, rfl, rfl, mB_ok hc, q _ _ _ _ Ex.refl R (.int _)⟩
    · cases h
  · rename_i a j
    cases hx with
    | lst e1 r1 =>
    cases hy
    split at h
    · rename_i hc
      cases h
      have hc := nB_ok hc
      exact .inr ⟨_, _, _, rfl, rfl, R.sub _ _ e1, by have := hc.1; omega, by have := hc.2.1; omega, by rw [r1.length]; exact hc.2.2, newL R (r1.rep _) q⟩
    · cases h
  · cases h
theorem od_div : OpD Kt (rI CDiv fun i j => .int (i / j)) divD := by
  intro Φ ι F g H x y d e z R hx hy h Q q
  unfold divD at h
  split at h
  · cases hx; cases hy
    split at h
    · rename_i hc
      cases h
      exact ⟨_, _, rfl, rfl, dB_ok hc, q _ _ _ _ Ex.refl R (.int _)⟩
    · cases h
  · cases h
theorem od_mod : OpD Kt (rI (fun _ j => 0 < j) fun i j => .int (i % j)) modD := by
  intro Φ ι F g H x y d e z R hx hy h Q q
  unfold modD at h
  split at h
  · cases hx; cases hy
    split at h
    · rename_i hc
      cases h
      exact ⟨_, _, rfl, rfl, pB_ok hc, q _ _ _ _ Ex.refl R (.int _)⟩
    · cases h
  · cases h
theorem od_pow : OpD Kt (rI CPow fun i j => .int (i ^ j.toNat)) powD := by
  intro Φ ι F g H x y d e z R hx hy h Q q
  unfold powD at h
  split at h
  · cases hx; cases hy
    split at h
    · rename_i hc
      cases h
      exact ⟨_, _, rfl, rfl, wB_ok hc, q _ _ _ _ Ex.refl R (.int _)⟩
    · cases h
  · cases h
theorem od_eq : OpD Kt (rEqD Kt.K) eqD := by
  intro Φ ι F g H x y d e z R hx hy h Q q
  unfold eqD at h
  split at h
  · rename_i hc
    cases h
    rw [Bool.and_eq_true] at hc
    obtain ⟨a1, a2⟩ := snap_dp R hx hc.1
    obtain ⟨b1, b2⟩ := snap_dp R hy hc.2
    refine ⟨_, _, a1, b1, py_shaped Kt.sk hc.1 (by decide), py_shaped Kt.sk hc.2 (by decide), ?_⟩
    rw [deq_py Kt.nd _ _ 8 8 hc.1 hc.2 a2 b2]
    exact q _ _ _ _ Ex.refl R (.bl _)
  · cases h
theorem od_ne : OpD Kt (rNeD Kt.K) neD := by
  intro Φ ι F g H x y d e z R hx hy h Q q
  unfold neD at h
  split at h
  · rename_i hc
    cases h
    rw [Bool.and_eq_true] at hc
    obtain ⟨a1, a2⟩ := snap_dp R hx hc.1
    obtain ⟨b1, b2⟩ := snap_dp R hy hc.2
    refine ⟨_, _, a1, b1, py_shaped Kt.sk hc.1 (by decide), py_shaped Kt.sk hc.2 (by decide), ?_⟩
    rw [deq_py Kt.nd _ _ 8 8 hc.1 hc.2 a2 b2]
    exact q _ _ _ _ Ex.refl R (.bl _)
  · cases h
theorem od_ic {p : Int → Int → Bool} : OpD Kt (rI0 fun i j => .bl (p i j)) (icD p) := by
  intro Φ ι F g H x y d e z R hx hy h Q q
  unfold icD at h
  split at h
  · cases hx; cases hy; cases h
    exact ⟨_, _, rfl, rfl, q _ _ _ _ Ex.refl R (.bl _)⟩
  · cases h
theorem DV.non_iff {v : V} {d : D} (r : DV Kt ι F v d) : decide (v = .non) = nonD d := by
  cases r <;> simp [nonD]
theorem od_isN : OpD Kt (fun x y H Q => y = .non ∧ Q (.bl (decide (x = .non))) H) isN := by
  intro Φ ι F g H x y d e z R hx hy h Q q
  unfold isN at h
  split at h
  · cases hy; cases h
    refine ⟨rfl, ?_⟩
    rw [hx.non_iff]
    exact q _ _ _ _ Ex.refl R (.bl _)
  · cases h
theorem od_notN : OpD Kt (fun x y H Q => y = .non ∧ Q (.bl (!decide (x = .non))) H) notN := by
  intro Φ ι F g H x y d e z R hx hy h Q q
  unfold notN at h
  split at h
  · cases hy; cases h
    refine ⟨rfl, ?_⟩
    rw [hx.non_iff]
    exact q _ _ _ _ Ex.refl R (.bl _)
  · cases h
/-- in, not in: lists and tuples of data -/
def rInS (K : PySem.W.Frag) (neg : Bool) : R2 := fun x y H Q => ∃ d ds, Dp K H x d ∧ (Dp K H y (.list ds) ∨ Dp K H y (.tuple ds)) ∧ SeqAt.shaped d = true ∧ PyData.canLayAll0 ds = true ∧ Q (.bl ((ds.any fun z => PyData.eqv z d) != neg)) H
theorem any_pys {T : List Str} (nd : T.Nodup) {x : D} (hx : pud 7 x = true) (ix : inT T x) : ∀ {ds : List D}, (∀ z ∈ ds, pud 7 z = true) → inTs T ds → ((pys T ds).any fun z => PyData.eqv z (py T x)) = ds.any fun z => deq z x
  | [], _, _ => rfl
  | d :: ds, h, i => by
    unfold inTs at i
    simp only [pys, List.any_cons]
    rw [deq_py nd d x 7 7 (h d List.mem_cons_self) hx i.1 ix, any_pys nd hx ix (fun z hz => h z (List.mem_cons_of_mem _ hz)) i.2]
theorem od_in {neg : Bool} : OpD Kt (fun x y H Q => rInS Kt.K neg x y H Q ∨ (neg = false ∧ ∃ i a lo hi, x = V.int i ∧ y = V.ref a ∧ H a = some (.rng lo hi) ∧ Q (.bl (decide (lo ≤ i ∧ i < hi))) H)) (inD neg) := by
  intro Φ ι F g H x y d e z R hx hy h Q q
  unfold inD at h
  split at h
  · cases hy with
    | rng e1 =>
    split at h
    · split at h
      · cases h
      · cases h
        cases hx
        exact .inr ⟨rfl, _, _, _, _, rfl, rfl, R.sub _ _ e1, q _ _ _ _ Ex.refl R (.bl _)⟩
    · cases h
  · split at h
    · rename_i ds hs
      split at h
      · rename_i hc
        cases h
        rw [Bool.and_eq_true, List.all_eq_true] at hc
        refine .inl ?_
        have key : ∀ vs, DVs Kt ι F vs ds → (Dp Kt.K H y (.list (pys Kt.tab ds)) ∨ Dp Kt.K H y (.tuple (pys Kt.tab ds))) → rInS Kt.K neg x y H Q := fun vs r hy' => by
          refine ⟨_, _, hx.dp R 7 hc.1, hy', py_shaped Kt.sk hc.1 (by decide), pys_lay Kt.sk ds, ?_⟩
          rw [any_pys Kt.nd hc.1 hx.inT hc.2 r.inTs]
          exact q _ _ _ _ Ex.refl R (.bl _)
        unfold sqD at hs
        split at hs
        · cases hs
          cases hy with
          | tup e1 r1 => exact key _ r1 (.inr (.tup (sqt_mono R.sub (tS e1)) (r1.dp R 7 hc.2)))
        · cases hs
          cases hy with
          | kt e1 r1 => exact key _ r1 (.inr (.tup (sqt_mono R.sub e1) (r1.dp R 7 hc.2)))
        · obtain ⟨a, vs, rfl, e1, r1⟩ := lsD_ok R hy hs
          exact key _ r1 (.inl (.lst (.inl (.inl e1)) (r1.dp R 7 hc.2)))
      · cases h
    · cases h
theorem op_inS {X : Cx} (hu : X.A.units + 65 < cLine) : OpR X (compareOp .In) (rInS X.K false) := by
  intro pins s σ H x y v u Q I rx ry h
  obtain ⟨d, ds, hd, he, sd, se, q⟩ := h
  obtain ⟨as, r1⟩ := Dp.reads I d x v hd rx
  have q' : Q (.bl (ds.any fun z => PyData.eqv z d)) H := by simpa using q
  rcases he with he | he
  · obtain ⟨bs, r2⟩ := Dp.reads I (.list ds) y u he ry
    exact SeqAt.in_list_reads r2 r1 se (SeqAt.canLay_of_shaped sd) (room_in_shaped sd hu) ⟨.bl _, H, I, rfl, q'⟩
  · obtain ⟨bs, r2⟩ := Dp.reads I (.tuple ds) y u he ry
    exact SeqAt.in_tuple_reads r2 r1 se (SeqAt.canLay_of_shaped sd) (room_in_shaped sd hu) ⟨.bl _, H, I, rfl, q'⟩
theorem op_notInS {X : Cx} (hu : X.A.units + 65 < cLine) : OpR X (compareOp .NotIn) (rInS X.K true) := by
  intro pins s σ H x y v u Q I rx ry h
  obtain ⟨d, ds, hd, he, sd, se, q⟩ := h
  obtain ⟨as, r1⟩ := Dp.reads I d x v hd rx
  have q' : Q (.bl (!ds.any fun z => PyData.eqv z d)) H := by simpa using q
  rcases he with he | he
  · obtain ⟨bs, r2⟩ := Dp.reads I (.list ds) y u he ry
    exact SeqAt.notIn_list_reads r2 r1 se (SeqAt.canLay_of_shaped sd) (room_in_shaped sd hu) ⟨.bl _, H, I, rfl, q'⟩
  · obtain ⟨bs, r2⟩ := Dp.reads I (.tuple ds) y u he ry
    exact SeqAt.notIn_tuple_reads r2 r1 se (SeqAt.canLay_of_shaped sd) (room_in_shaped sd hu) ⟨.bl _, H, I, rfl, q'⟩
theorem DVs.atI {vs : List V} {ds : List D} {i : Int} {d : D} (r : DVs Kt ι F vs ds) (h : L2.atI ds i = some d) : ∃ v, L2.atI vs i = some v ∧ DV Kt ι F v d := by
  unfold L2.atI at h ⊢
  rw [r.length]
  cases z : ixN ds.length i with
  | none => rw [z] at h; cases h
  | some j => rw [z] at h; exact r.get h
theorem od_ix : OpD Kt (rIx Kt.K) ixD := by
  intro Φ ι F g H x y d e z R hx hy h Q q
  unfold ixD at h
  split at h
  · cases hy
    split at h
    · rename_i ds hs
      unfold itD at hs
      split at hs
      · cases hs
        cases hx with
        | tup e1 r1 =>
          obtain ⟨v, h1, h2⟩ := r1.atI h
          exact .inr (.inl ⟨_, _, _, _, rfl, rfl, sqt_mono R.sub (tS e1), h1, q _ _ _ _ Ex.refl R h2⟩)
      · cases hs
        cases hx with
        | scr e1 r1 =>
          obtain ⟨v, h1, h2⟩ := r1.atI h
          exact .inl ⟨_, _, _, _, rfl, rfl, sql_mono R.sub e1, h1, q _ _ _ _ Ex.refl R h2⟩
      · obtain ⟨a, vs, rfl, e1, r1⟩ := lsD_ok R hx hs
        obtain ⟨v, h1, h2⟩ := r1.atI h
        exact .inl ⟨_, _, _, _, rfl, rfl, .inl (.inl e1), h1, q _ _ _ _ Ex.refl R h2⟩
    · cases h
  · cases h
theorem DVs.cut {vs : List V} {ds : List D} (r : DVs Kt ι F vs ds) (lo hi : Option Int) : DVs Kt ι F (cutV vs lo hi) (cutD ds lo hi) := by
  unfold cutV cutD
  rw [r.length]
  exact (r.drop _).take _
theorem sd_sl (R : RelG Kt Φ ι F g H) {x : V} {d z : D} {lo hi : Option Int} (hx : DV Kt ι F x d) (h : slD g d lo hi = some z) {Q : VK} (q : ∀ ι' F' H' v, Ex ι F ι' F' → RelG Kt Φ ι' F' g H' → DV Kt ι' F' v z → Q v H') :
    rSlL Kt.K x lo hi H Q ∨ rSlT Kt.K x lo hi H Q := by
  unfold slD at h
  split at h
  · split at h
    · cases h
    · rename_i hc
      cases h
      cases hx with
      | tup e1 r1 => exact .inr ⟨_, _, rfl, sqt_mono R.sub (tS e1), by rw [r1.length]; exact of_decide_eq_false hc, newT R (r1.cut lo hi) q⟩
  · split at h
    · rename_i ds hs
      cases h
      obtain ⟨a, vs, rfl, e1, r1⟩ := lsD_ok R hx hs
      exact .inl ⟨_, _, rfl, .inl (.inl e1), newL R (r1.cut lo hi) q⟩
    · cases h
def negD (g : G) (x : D) : Option D := match x with
  | .int i => some (.int (-i))
  | _ => none
theorem ud_neg : UnD Kt (rU fun i => .int (-i)) negD := by
  intro Φ ι F g H x d z R hx h Q q
  unfold negD at h
  split at h
  · cases hx; cases h
    exact ⟨_, rfl, q _ _ _ _ Ex.refl R (.int _)⟩
  · cases h
end
end Y

set_option Elab.async false
set_option linter.all false
set_option maxRecDepth 100000
namespace Y
open PySem PySem.Spec PyProof.Rows L2

/-! ### expressions -/
def vVar (i : Nat) : EM := fun e g => match e[i]? with
  | some (some d) => .ok d g
  | _ => .stuck
def vC (d : D) : EM := fun _ g => .ok d g
def vUn (o : G → D → Option D) (m : EM) : EM := fun e g => (m e g).bind fun x g1 => oR (o g1 x) g1
def bR (d : D) (g : G) : Res Bool := match d with
  | .bl b => .ok b g
  | _ => .stuck
@[simp] theorem bR_bl {b : Bool} {g : G} : bR (.bl b) g = .ok b g := rfl
def tOf (m : EM) : TM := fun e g => (m e g).bind bR
def tAnd (a b : TM) : TM := fun e g => (a e g).bind fun c g1 => bif c then b e g1 else .ok false g1
def tOr (a b : TM) : TM := fun e g => (a e g).bind fun c g1 => bif c then .ok true g1 else b e g1
def tNot (a : TM) : TM := fun e g => (a e g).bind fun c g1 => .ok (!c) g1
def vAnd (a b : EM) : EM := fun e g => (a e g).bind fun d g1 => (bR d g1).bind fun c g2 => bif c then b e g2 else .ok (.bl false) g2
def vOr (a b : EM) : EM := fun e g => (a e g).bind fun d g1 => (bR d g1).bind fun c g2 => bif c then .ok (.bl true) g2 else b e g2
def vNot (a : EM) : EM := fun e g => (a e g).bind fun d g1 => (bR d g1).bind fun c g2 => .ok (.bl (!c)) g2
def vIf (t : TM) (a b : EM) : EM := fun e g => (t e g).bind fun c g1 => bif c then a e g1 else b e g1
def vChain (o o' : OpT) (a b c : EM) : EM := fun e g => (a e g).bind fun x g1 => (b e g1).bind fun y g2 => (oR (o g2 x y) g2).bind fun z g3 => (bR z g3).bind fun k g4 => bif k then (c e g4).bind fun w g5 => oR (o' g5 y w) g5 else .ok (.bl false) g4
/-- truth -/
def truD (g : G) (d : D) : Option Bool := match snap g d with
  | .non => some false
  | .bl b => some b
  | .int i => some (i != 0)
  | .tup ds => some (!ds.isEmpty)
  | .lst ds => some (!ds.isEmpty)
  | _ => none
def tTru (m : EM) : TM := fun e g => (m e g).bind fun d g1 => match truD g1 d with
  | some b => .ok b g1
  | none => .stuck
def aNil : AM := fun _ g => .ok [] g
def aCons (a : EM) (r : AM) : AM := fun e g => (a e g).bind fun d g1 => (r e g1).bind fun ds g2 => .ok (d :: ds) g2
def vTup (a : AM) : EM := fun e g => (a e g).bind fun ds g1 => match okL ds.length with
  | true => .ok (.tup ds) g1
  | false => .stuck
def vLst (a : AM) : EM := fun e g => (a e g).bind fun ds g1 => match okL ds.length with
  | true => .ok (.lst ds) g1
  | false => .stuck
/-- a list that will change: an object -/
def vLstO (a : AM) : EM := fun e g => (a e g).bind fun ds g1 => match okL ds.length with
  | true => .ok (.ref g1.length) (g1 ++ [.lst ds])
  | false => .stuck
def fldD (cs : List Nat) (n : Nat) (g : G) (d : D) : Option D := match d with
  | .ref l => match g[l]? with
    | some (.ins c fs) => (match cs.contains c with
      | true => lkA n fs
      | false => none)
    | _ => none
  | _ => none
abbrev vFld (cs : List Nat) (n : Nat) (m : EM) : EM := vUn (fldD cs n) m
def vSl (m : EM) (lo hi : Option EM) : EM := fun e g => (m e g).bind fun x g1 => (match lo with
  | none => .ok none g1
  | some a => (a e g1).bind fun d g2 => match d with
    | .int i => .ok (some i) g2
    | _ => .stuck : Res (Option Int)).bind fun l g3 => (match hi with
  | none => .ok none g3
  | some a => (a e g3).bind fun d g2 => match d with
    | .int i => .ok (some i) g2
    | _ => .stuck : Res (Option Int)).bind fun u g4 => oR (slD g4 x l u) g4
/-- a built-in of values -/
def vCB (o : G → List D → Option D) (a : AM) : EM := fun e g => (a e g).bind fun ds g1 => oR (o g1 ds) g1

section
variable {Kt : Kit} {X : Cx} {W : WX} {k : Nat} {a b c : Expr} {ma mb mc : EM} {ta' tb' : TM} {pos : Pos} {es : List Expr} {ms : AM} {σ : L2.St} {H : Hp}
theorem se_var (i : Nat) {x : Str} (hN : X.N[i]? = some x := by rfl) (hv : Vis X.env.scope x := by first | exact Or.inl rfl | exact Or.inr (Or.inl rfl) | exact Or.inr (Or.inr rfl)) (hd : (x == ("__debug__" : Str)) = false := by decide)
    (hcd : (x == ("__classdict__" : Str)) = false := by decide) : PE X (.Name x pos) (te Kt W (vVar i)) :=
  (pv i hN hv hd hcd).imp fun σ H Q ⟨Φ, ι, F, e, g, S, h⟩ => by
    unfold vVar at h
    cases z : e[i]? with
    | none => rw [z] at h; exact h.elim
    | some o =>
      rw [z] at h
      cases o with
      | none => exact h.elim
      | some d =>
        obtain ⟨v, hv, r⟩ := S.env.2 i d z
        exact ⟨v, hv, h _ _ _ _ Ex.refl S.rel r⟩
theorem te_c {v : V} {d : D} (hd : ∀ ι F, DV Kt ι F v d) {Q : VK} (h : te Kt W (vC d) σ H Q) : tC v σ H Q := by
  obtain ⟨Φ, ι, F, e, g, S, h⟩ := h
  exact h _ _ _ _ Ex.refl S.rel (hd _ _)
theorem se_int {i : Int} {j} : PE X (.Constant (.int i) j pos) (te Kt W (vC (.int i))) := pe_int.imp fun _ _ _ => te_c fun _ _ => .int i
theorem se_bl {i : Bool} {j} : PE X (.Constant (.bool i) j pos) (te Kt W (vC (.bl i))) := pe_bl.imp fun _ _ _ => te_c fun _ _ => .bl i
theorem se_non {j} : PE X (.Constant .none j pos) (te Kt W (vC .non)) := pe_non.imp fun _ _ _ => te_c fun _ _ => .non
theorem se_str (n : Nat) {x : Str} {j} (h : Kt.tab[n]? = some x) : PE X (.Constant (.str x) j pos) (te Kt W (vC (.str n))) := pe_str.imp fun _ _ _ => te_c fun _ _ => .str h
theorem se_glob {x : Str} {v : V} {u : Value} {d : D} (A : At Kt X W k) (hm : Kt.mg x = some u) (r : RelV v u) (hd : ∀ ι F, DV Kt ι F v d) (hg : Gl X x := by rfl) (hdb : (x == ("__debug__" : Str)) = false := by decide) : PE X (.Name x pos) (te Kt W (vC d)) :=
  (pe_glob hg (A.em ▸ hm) r hdb).imp fun _ _ _ => te_c hd
theorem se_op {op : Operator} {r : R2} {o : OpT} (ho : OpR X (binaryOp op) r) (hd : OpD Kt r o) (ha : PE X a (te Kt W ma)) (hb : PE X b (te Kt W mb)) : PE X (.BinOp a op b pos) (te Kt W (vOp o ma mb)) :=
  (pe_op ho ha hb).imp fun _ _ _ => te_op hd
theorem or_add (A : At Kt X W k) : OpR X (binaryOp .Add) (fun x y H Q => rI0 (fun i j => .int (i + j)) x y H Q ∨ rCatT Kt.K x y H Q ∨ rCat x y H Q) := op_add.or ((A.eK ▸ op_catT).or op_cat)
theorem or_mul : OpR X (binaryOp .Mult) (fun x y H Q => rI CMul (fun i j => .int (i * j)) x y H Q ∨ rRep x y H Q) := op_mul.or op_rep
theorem se_add (A : At Kt X W k) (ha : PE X a (te Kt W ma)) (hb : PE X b (te Kt W mb)) : PE X (.BinOp a .Add b pos) (te Kt W (vOp addD ma mb)) := se_op (or_add A) od_add ha hb
theorem se_sub (ha : PE X a (te Kt W ma)) (hb : PE X b (te Kt W mb)) : PE X (.BinOp a .Sub b pos) (te Kt W (vOp subD ma mb)) := se_op op_sub od_sub ha hb
theorem se_mul (ha : PE X a (te Kt W ma)) (hb : PE X b (te Kt W mb)) : PE X (.BinOp a .Mult b pos) (te Kt W (vOp mulD ma mb)) := se_op or_mul od_mul ha hb
theorem se_div (ha : PE X a (te Kt W ma)) (hb : PE X b (te Kt W mb)) : PE X (.BinOp a .FloorDiv b pos) (te Kt W (vOp divD ma mb)) := se_op op_fdiv od_div ha hb
theorem se_mod (ha : PE X a (te Kt W ma)) (hb : PE X b (te Kt W mb)) : PE X (.BinOp a .Mod b pos) (te Kt W (vOp modD ma mb)) := se_op op_mod od_mod ha hb
theorem se_pow (ha : PE X a (te Kt W ma)) (hb : PE X b (te Kt W mb)) : PE X (.BinOp a .Pow b pos) (te Kt W (vOp powD ma mb)) := se_op op_pow od_pow ha hb
theorem se_neg (ha : PE X a (te Kt W ma)) : PE X (.UnaryOp .USub a pos) (te Kt W (vUn negD ma)) := (pe_un un_neg ha).imp fun _ _ _ => te_un ud_neg

/-! #### comparisons -/
structure Cmp (Kt : Kit) (X : Cx) (op : CmpOp) (o : OpT) : Prop where
  ex : ∃ r, OpR X (compareOp op) r ∧ OpD Kt r o
theorem cm_eq (A : At Kt X W k) : Cmp Kt X .Eq eqD := ⟨_, A.eK ▸ op_eqD (by have := A.hu; omega), od_eq⟩
theorem cm_ne (A : At Kt X W k) : Cmp Kt X .NotEq neD := ⟨_, A.eK ▸ op_neD (by have := A.hu; omega), od_ne⟩
theorem cm_lt : Cmp Kt X .Lt ltD := ⟨_, op_lt, od_ic⟩
theorem cm_le : Cmp Kt X .LtE leD := ⟨_, op_le, od_ic⟩
theorem cm_gt : Cmp Kt X .Gt gtD := ⟨_, op_gt, od_ic⟩
theorem cm_ge : Cmp Kt X .GtE geD := ⟨_, op_ge, od_ic⟩
theorem cm_is : Cmp Kt X .Is isN := ⟨_, op_isN, od_isN⟩
theorem cm_not : Cmp Kt X .IsNot notN := ⟨_, op_notN, od_notN⟩
theorem op_in_rng1 : OpR X (compareOp .In) (fun x y H Q => false = false ∧ ∃ i a lo hi, x = V.int i ∧ y = V.ref a ∧ H a = some (.rng lo hi) ∧ Q (.bl (decide (lo ≤ i ∧ i < hi))) H) :=
  fun pins s σ H x y v u Q I rx ry h => op_in_rng pins s σ H x y v u Q I rx ry h.2
theorem cm_in (A : At Kt X W k) : Cmp Kt X .In (inD false) := ⟨_, (A.eK ▸ op_inS A.hu : OpR X _ (rInS Kt.K false)).or op_in_rng1, od_in⟩
theorem op_never {f : Value → Value → Sem Value} {r : R2} : OpR X f (fun x y H Q => true = false ∧ r x y H Q) := fun pins s σ H x y v u Q I rx ry h => Bool.noConfusion h.1
theorem cm_notin (A : At Kt X W k) : Cmp Kt X .NotIn (inD true) := ⟨_, (A.eK ▸ op_notInS A.hu : OpR X _ (rInS Kt.K true)).or op_never, od_in⟩
theorem se_cmp {op : CmpOp} {o : OpT} (h : Cmp Kt X op o) (ha : PE X a (te Kt W ma)) (hb : PE X b (te Kt W mb)) (hm : behindInMarks op b = false := by first | exact nomark _ | rfl) : PE X (.Compare a [op] [b] pos) (te Kt W (vOp o ma mb)) :=
  let ⟨r, ho, hd⟩ := h.ex
  (pe_cmpR ho ha hb hm).imp fun _ _ _ => te_op hd
theorem te_tOf {t : TE} {m : EM} (i : ∀ Q, te Kt W m σ H Q → t σ H Q) {Q : Bool → Hp → Prop} (h : tt Kt W (tOf m) σ H Q) : tTest t σ H Q := by
  obtain ⟨Φ, ι, F, e, g, S, h⟩ := h
  refine i _ ⟨Φ, ι, F, e, g, S, (po.bind (Rl := DV Kt) h).imp fun v H1 ⟨ι1, F1, g1, d, x1, R1, r1, h1⟩ => ?_⟩
  cases r1 with
  | bl b => exact ⟨b, rfl, h1 _ _ _ _ Ex.refl R1 rfl⟩
  | _ => exact h1.elim
theorem st_cmp {op : CmpOp} {o : OpT} (h : Cmp Kt X op o) (ha : PE X a (te Kt W ma)) (hb : PE X b (te Kt W mb)) (hm : behindInMarks op b = false := by first | exact nomark _ | rfl) : PT X (.Compare a [op] [b] pos) (tt Kt W (tOf (vOp o ma mb))) :=
  let ⟨r, ho, hd⟩ := h.ex
  (pt_cmpR ho ha hb hm).imp fun _ _ _ => te_tOf fun _ => te_op hd
theorem te_chain {r r' : R2} {o o' : OpT} (hd : OpD Kt r o) (hd' : OpD Kt r' o') {Q : VK} (h : te Kt W (vChain o o' ma mb mc) σ H Q) : tChain r r' (te Kt W ma) (te Kt W mb) (te Kt W mc) σ H Q := by
  obtain ⟨Φ, ι, F, e, g, S, h⟩ := h
  refine ⟨Φ, ι, F, e, g, S, (po.bind (Rl := DV Kt) h).imp fun v H1 ⟨ι1, F1, g1, d1, x1, R1, r1, h1⟩ => ?_⟩
  refine ⟨Φ, ι1, F1, e, g1, ⟨S.env.mono x1, R1⟩, (po.bind (Rl := DV Kt) h1).imp fun v2 H2 ⟨ι2, F2, g2, d2, x2, R2, r2, h2⟩ => ?_⟩
  cases z : o g2 d1 d2 with
  | none => rw [z] at h2; exact h2.elim
  | some d =>
    rw [z] at h2
    refine hd R2 (r1.mono x2) r2 z _ fun ι3 F3 H3 v3 x3 R3 r3 => ?_
    cases r3 with
    | bl c =>
      refine ⟨c, rfl, ?_⟩
      have h3 : po Kt Φ W σ (DV Kt) ι2 F2 (bif c then (mc e g2).bind fun w g5 => oR (o' g5 d2 w) g5 else .ok (.bl false) g2) Q := h2
      cases c with
      | false => rw [if_neg Bool.false_ne_true]; exact h3 _ _ _ _ x3 R3 (.bl _)
      | true =>
        rw [if_pos rfl]
        refine ⟨Φ, ι3, F3, e, g2, ⟨S.env.mono ((x1.trans x2).trans x3), R3⟩, ((po.bind (Rl := DV Kt) (h3.mono x3))).imp fun v4 H4 ⟨ι4, F4, g4, d4, x4, R4, r4, h4⟩ => ?_⟩
        cases z' : o' g4 d2 d4 with
        | none => rw [z'] at h4; exact h4.elim
        | some d5 => rw [z'] at h4; exact hd' R4 (r2.mono (x3.trans x4)) r4 z' Q h4
    | _ => exact h2.elim
theorem se_chain {op op' : CmpOp} {o o' : OpT} (h : Cmp Kt X op o) (h' : Cmp Kt X op' o') (ha : PE X a (te Kt W ma)) (hb : PE X b (te Kt W mb)) (hc : PE X c (te Kt W mc)) (hm : lastMarks [op, op'] [b, c] = false := by with_unfolding_all rfl) :
    PE X (.Compare a [op, op'] [b, c] pos) (te Kt W (vChain o o' ma mb mc)) :=
  let ⟨r, ho, hd⟩ := h.ex
  let ⟨r', ho', hd'⟩ := h'.ex
  (pe_chain ho ho' ha hb hc hm).imp fun _ _ _ => te_chain hd hd'
theorem st_chain {op op' : CmpOp} {o o' : OpT} (h : Cmp Kt X op o) (h' : Cmp Kt X op' o') (ha : PE X a (te Kt W ma)) (hb : PE X b (te Kt W mb)) (hc : PE X c (te Kt W mc)) (hm : lastMarks [op, op'] [b, c] = false := by with_unfolding_all rfl) :
    PT X (.Compare a [op, op'] [b, c] pos) (tt Kt W (tOf (vChain o o' ma mb mc))) :=
  let ⟨r, ho, hd⟩ := h.ex
  let ⟨r', ho', hd'⟩ := h'.ex
  (pt_chain ho ho' ha hb hc hm).imp fun _ _ _ => te_tOf fun _ => te_chain hd hd'

/-! #### and, or, not, if -/
theorem sw_and1 (ha : PT X a (tt Kt W ta')) : PW X (.BoolOp .And [a] pos) (tt Kt W ta') := pw_and1 ha
theorem sw_or1 (ha : PT X a (tt Kt W ta')) : PW X (.BoolOp .Or [a] pos) (tt Kt W ta') := pw_or1 ha
theorem sw_and {rest : List Expr} (ha : PT X a (tt Kt W ta')) (hb : PW X (.BoolOp .And (b :: rest) pos) (tt Kt W tb')) : PW X (.BoolOp .And (a :: b :: rest) pos) (tt Kt W (tAnd ta' tb')) :=
  L2.PW.imp (pw_and ha hb) fun σ H Q ⟨Φ, ι, F, e, g, S, h⟩ => ⟨Φ, ι, F, e, g, S, (po.bind (Rl := RB) h).imp fun v H1 ⟨ι1, F1, g1, d1, x1, R1, r1, h1⟩ => by
    obtain rfl : v = d1 := r1
    cases v with
    | true => rw [if_pos rfl]; exact ⟨Φ, ι1, F1, e, g1, ⟨S.env.mono x1, R1⟩, h1⟩
    | false => rw [if_neg Bool.false_ne_true]; exact h1 _ _ _ _ Ex.refl R1 rfl⟩
theorem sw_or {rest : List Expr} (ha : PT X a (tt Kt W ta')) (hb : PW X (.BoolOp .Or (b :: rest) pos) (tt Kt W tb')) : PW X (.BoolOp .Or (a :: b :: rest) pos) (tt Kt W (tOr ta' tb')) :=
  L2.PW.imp (pw_or ha hb) fun σ H Q ⟨Φ, ι, F, e, g, S, h⟩ => ⟨Φ, ι, F, e, g, S, (po.bind (Rl := RB) h).imp fun v H1 ⟨ι1, F1, g1, d1, x1, R1, r1, h1⟩ => by
    obtain rfl : v = d1 := r1
    cases v with
    | true => rw [if_pos rfl]; exact h1 _ _ _ _ Ex.refl R1 rfl
    | false => rw [if_neg Bool.false_ne_true]; exact ⟨Φ, ι1, F1, e, g1, ⟨S.env.mono x1, R1⟩, h1⟩⟩
theorem st_not (ha : PT X a (tt Kt W ta')) : PT X (.UnaryOp .Not a pos) (tt Kt W (tNot ta')) :=
  (pt_not ha).imp fun σ H Q ⟨Φ, ι, F, e, g, S, h⟩ => ⟨Φ, ι, F, e, g, S, (po.bind (Rl := RB) h).imp fun v H1 ⟨ι1, F1, g1, d1, x1, R1, r1, h1⟩ => by
    obtain rfl : v = d1 := r1
    exact h1 _ _ _ _ Ex.refl R1 rfl⟩
theorem se_one {op} (ha : PE X a (te Kt W ma)) : PE X (.BoolOp op [a] pos) (te Kt W ma) := pe_one ha
theorem se_and {rest : List Expr} (ha : PE X a (te Kt W ma)) (hb : PE X (.BoolOp .And (b :: rest) pos) (te Kt W mb)) : PE X (.BoolOp .And (a :: b :: rest) pos) (te Kt W (vAnd ma mb)) :=
  (pe_and ha hb).imp fun σ H Q ⟨Φ, ι, F, e, g, S, h⟩ => ⟨Φ, ι, F, e, g, S, (po.bind (Rl := DV Kt) h).imp fun v H1 ⟨ι1, F1, g1, d1, x1, R1, r1, h1⟩ => by
    cases r1 with
    | bl c =>
      refine ⟨c, rfl, ?_⟩
      cases c with
      | true => rw [if_pos rfl]; exact ⟨Φ, ι1, F1, e, g1, ⟨S.env.mono x1, R1⟩, h1⟩
      | false => rw [if_neg Bool.false_ne_true]; exact h1 _ _ _ _ Ex.refl R1 (.bl _)
    | _ => exact h1.elim⟩
theorem se_or {rest : List Expr} (ha : PE X a (te Kt W ma)) (hb : PE X (.BoolOp .Or (b :: rest) pos) (te Kt W mb)) : PE X (.BoolOp .Or (a :: b :: rest) pos) (te Kt W (vOr ma mb)) :=
  (pe_or ha hb).imp fun σ H Q ⟨Φ, ι, F, e, g, S, h⟩ => ⟨Φ, ι, F, e, g, S, (po.bind (Rl := DV Kt) h).imp fun v H1 ⟨ι1, F1, g1, d1, x1, R1, r1, h1⟩ => by
    cases r1 with
    | bl c =>
      refine ⟨c, rfl, ?_⟩
      cases c with
      | true => rw [if_pos rfl]; exact h1 _ _ _ _ Ex.refl R1 (.bl _)
      | false => rw [if_neg Bool.false_ne_true]; exact ⟨Φ, ι1, F1, e, g1, ⟨S.env.mono x1, R1⟩, h1⟩
    | _ => exact h1.elim⟩
theorem se_not (ha : PE X a (te Kt W ma)) : PE X (.UnaryOp .Not a pos) (te Kt W (vNot ma)) :=
  (pe_not ha).imp fun σ H Q ⟨Φ, ι, F, e, g, S, h⟩ => ⟨Φ, ι, F, e, g, S, (po.bind (Rl := DV Kt) h).imp fun v H1 ⟨ι1, F1, g1, d1, x1, R1, r1, h1⟩ => by
    cases r1 with
    | bl c => exact ⟨c, rfl, h1 _ _ _ _ Ex.refl R1 (.bl _)⟩
    | _ => exact h1.elim⟩
theorem se_if (hc : PT X c (tt Kt W ta')) (ha : PE X a (te Kt W ma)) (hb : PE X b (te Kt W mb)) : PE X (.IfExp c a b pos) (te Kt W (vIf ta' ma mb)) :=
  (pe_ifExp hc ha hb).imp fun σ H Q ⟨Φ, ι, F, e, g, S, h⟩ => ⟨Φ, ι, F, e, g, S, (po.bind (Rl := RB) h).imp fun v H1 ⟨ι1, F1, g1, d1, x1, R1, r1, h1⟩ => by
    obtain rfl : v = d1 := r1
    cases v with
    | true => rw [if_pos rfl]; exact ⟨Φ, ι1, F1, e, g1, ⟨S.env.mono x1, R1⟩, h1⟩
    | false => rw [if_neg Bool.false_ne_true]; exact ⟨Φ, ι1, F1, e, g1, ⟨S.env.mono x1, R1⟩, h1⟩⟩
/-! #### a value as a test -/
theorem truD_ok {Φ : Hp} {ι : List Addr} {F : Hp} {g : G} {v : V} {d : D} {b : Bool} (R : RelG Kt Φ ι F g H) (r : DV Kt ι F v d) (h : truD g d = some b) : TruV Kt.K v H b := by
  have key : ∀ ds, lsD g d = some ds → TruV Kt.K v H (!ds.isEmpty) := fun ds e => by
    obtain ⟨a, vs, rfl, e1, r1⟩ := lsD_ok R r e
    refine .inl ⟨vs, .inl (.inl e1), ?_⟩
    cases r1 <;> rfl
  unfold truD at h
  cases r with
  | non => simp at h; subst h; rfl
  | bl b => simp at h; subst h; rfl
  | int i => simp at h; subst h; rfl
  | tup e r =>
    cases (show some _ = some b from h)
    refine .inr (.inl ⟨_, sqt_mono R.sub (tS e), ?_⟩)
    cases r <;> rfl
  | lst e r => cases (show some _ = some b from h); exact key _ rfl
  | ref e =>
    rename_i l _
    cases z : snap g (.ref l) with
    | lst es => rw [z] at h; cases (show some _ = some b from h); exact key _ (by unfold lsD; rw [z])
    | non => rw [snap_ref] at z; split at z <;> cases z
    | bl b => rw [snap_ref] at z; split at z <;> cases z
    | int b => rw [snap_ref] at z; split at z <;> cases z
    | tup b => rw [snap_ref] at z; split at z <;> cases z
    | _ => rw [z] at h; simp at h
  | scr e => simp [snap] at h
  | str e => simp at h
  | rng e => simp at h
  | dic e => simp [snap] at h
  | kt e r => simp [snap] at h
theorem st_tru (A : At Kt X W k) (ha : PE X a (te Kt W ma)) (he : ∀ whole, isTrue a X.env whole = (do let v ← whole; standAt a.pos; holding [v] (truthy v)) := by intro _; rfl) : PT X a (tt Kt W (tTru ma)) :=
  (pt_truth ha he).imp fun σ H Q ⟨Φ, ι, F, e, g, S, h⟩ => ⟨Φ, ι, F, e, g, S, (po.bind (Rl := DV Kt) h).imp fun v H1 ⟨ι1, F1, g1, d1, x1, R1, r1, h1⟩ => by
    cases z : truD g1 d1 with
    | none => rw [z] at h1; exact h1.elim
    | some b => rw [z] at h1; exact ⟨b, A.eK ▸ truD_ok R1 r1 z, h1 _ _ _ _ Ex.refl R1 rfl⟩⟩
/-- a call, an attribute that gives a bool -/
theorem st_val (ha : PE X a (te Kt W ma)) (he : ∀ whole, isTrue a X.env whole = (do let v ← whole; standAt a.pos; holding [v] (truthy v)) := by intro _; rfl) : PT X a (tt Kt W (tOf ma)) :=
  (pt_val ha he).imp fun σ H Q h => te_tOf (fun _ q => q) h

/-! #### items, slices, displays, attributes -/
theorem se_ix (A : At Kt X W k) (ha : PE X a (te Kt W ma)) (hb : PE X b (te Kt W mb)) (hs : PlainIx b := by intro _ _; rfl) : PE X (.Subscript a b pos) (te Kt W (vOp ixD ma mb)) :=
  (pe_ix (A.eK ▸ ix_seq : IxR X (rIx Kt.K)) ha hb hs).imp fun _ _ _ => te_op od_ix
def RO (Kt : Kit) : List Addr → Hp → Option Int → Option Int → Prop := fun _ _ a b => a = b
/-- a slice's part -/
structure PSl (Kt : Kit) (X : Cx) (W : WX) (o : Option Expr) (m : Option EM) : Prop where
  ex : ∃ t, PO X o t ∧ ∀ σ H Φ ι F e g (Q : Option Int → Hp → Prop), St' Kt Φ ι F e g σ H → po Kt Φ W σ (RO Kt) ι F (match m with
  | none => .ok none g
  | some a => (a e g).bind fun d g2 => match d with
    | .int i => .ok (some i) g2
    | _ => .stuck : Res (Option Int)) Q → t σ H Q
theorem sl_no : PSl Kt X W none none := ⟨_, po_none, fun σ H Φ ι F e g Q S h => h _ _ _ _ Ex.refl S.rel rfl⟩
theorem sl_so (ha : PE X a (te Kt W ma)) : PSl Kt X W (some a) (some ma) := ⟨_, po_some ha, fun σ H Φ ι F e g Q S h => ⟨Φ, ι, F, e, g, S, (po.bind (Rl := DV Kt) h).imp fun v H1 ⟨ι1, F1, g1, d1, x1, R1, r1, h1⟩ => by
    cases r1 with
    | int i => exact ⟨i, rfl, h1 _ _ _ _ Ex.refl R1 rfl⟩
    | _ => exact h1.elim⟩⟩
theorem se_sl {lo hi : Option Expr} {ml mh : Option EM} {p2 : Pos} (A : At Kt X W k) (ha : PE X a (te Kt W ma)) (hl : PSl Kt X W lo ml) (hh : PSl Kt X W hi mh) : PE X (.Subscript a (.Slice lo hi none p2) pos) (te Kt W (vSl ma ml mh)) := by
  obtain ⟨tl, pl, il⟩ := hl.ex
  obtain ⟨th, ph, ih⟩ := hh.ex
  refine (pe_slice ((A.eK ▸ sl_list : SlR X (rSlL Kt.K)).or (A.eK ▸ sl_tup : SlR X (rSlT Kt.K))) ha pl ph).imp fun σ H Q ⟨Φ, ι, F, e, g, S, h⟩ => ⟨Φ, ι, F, e, g, S, (po.bind (Rl := DV Kt) h).imp fun v H1 ⟨ι1, F1, g1, d1, x1, R1, r1, h1⟩ => ?_⟩
  refine il σ H1 Φ ι1 F1 e g1 _ ⟨S.env.mono x1, R1⟩ ((po.bind (Rl := RO Kt) h1).imp fun v2 H2 ⟨ι2, F2, g2, d2, x2, R2, r2, h2⟩ => ?_)
  refine ih σ H2 Φ ι2 F2 e g2 _ ⟨S.env.mono (x1.trans x2), R2⟩ ((po.bind (Rl := RO Kt) h2).imp fun v3 H3 ⟨ι3, F3, g3, d3, x3, R3, r3, h3⟩ => ?_)
  obtain rfl : v2 = d2 := r2
  obtain rfl : v3 = d3 := r3
  cases z : slD g3 d1 v2 v3 with
  | none => rw [z] at h3; exact h3.elim
  | some d => rw [z] at h3; exact sd_sl R3 (r1.mono (x2.trans x3)) z h3
theorem sa_nil : PA X [] (ta Kt W aNil) := L2.PA.imp pa_nil fun σ H Q ⟨Φ, ι, F, e, g, S, h⟩ => h _ _ _ _ Ex.refl S.rel .nil
theorem sa_cons (ha : PE X a (te Kt W ma)) (hr : PA X es (ta Kt W ms)) (hs : starEach (a :: es) X.env = (false, eval a X.env) :: starEach es X.env := by rfl) : PA X (a :: es) (ta Kt W (aCons ma ms)) :=
  L2.PA.imp (pa_cons ha hr hs) fun σ H Q ⟨Φ, ι, F, e, g, S, h⟩ => ⟨Φ, ι, F, e, g, S, (po.bind (Rl := DV Kt) h).imp fun v H1 ⟨ι1, F1, g1, d1, x1, R1, r1, h1⟩ => by
    refine ⟨Φ, ι1, F1, e, g1, ⟨S.env.mono x1, R1⟩, (po.bind (Rl := DVs Kt) h1).imp fun v2 H2 ⟨ι2, F2, g2, d2, x2, R2, r2, h2⟩ => ?_⟩
    exact h2 _ _ _ _ Ex.refl R2 (.cons (r1.mono x2) r2)⟩
theorem se_tup {x1} (h : PA X es (ta Kt W ms)) : PE X (.Tuple es x1 pos) (te Kt W (vTup ms)) :=
  (pe_tup h).imp fun σ H Q ⟨Φ, ι, F, e, g, S, h⟩ => ⟨Φ, ι, F, e, g, S, (po.bind (Rl := DVs Kt) h).imp fun v H1 ⟨ι1, F1, g1, d1, x1, R1, r1, h1⟩ => by
    split at h1
    · rename_i hl
      exact ⟨by rw [r1.length]; exact okL_iff.mp hl, newT R1 r1 h1⟩
    · exact h1.elim⟩
theorem se_lst (h : PA X es (ta Kt W ms)) : PE X (.List es pos) (te Kt W (vLst ms)) :=
  (pe_lst h).imp fun σ H Q ⟨Φ, ι, F, e, g, S, h⟩ => ⟨Φ, ι, F, e, g, S, (po.bind (Rl := DVs Kt) h).imp fun v H1 ⟨ι1, F1, g1, d1, x1, R1, r1, h1⟩ => by
    split at h1
    · rename_i hl
      exact ⟨by rw [r1.length]; exact okL_iff.mp hl, newL R1 r1 h1⟩
    · exact h1.elim⟩
theorem get_snoc {ι : List Addr} {p : Addr} {n : Nat} (h : ι.length = n) : (ι ++ [p])[n]? = some p := by
  rw [List.getElem?_append_right (by omega), h, Nat.sub_self]; rfl
theorem newO {Φ : Hp} {ι : List Addr} {F : Hp} {g : G} (R : RelG Kt Φ ι F g H) {vs : List V} {ds : List D} (r : DVs Kt ι F vs ds) {Q : VK} (h : ∀ ι' F' H' v, Ex ι F ι' F' → RelG Kt Φ ι' F' (g ++ [.lst ds]) H' → DV Kt ι' F' v (.ref g.length) → Q v H') (p : Addr) (hp : H p = none) : Q (.ref p) (upd H p (.lst vs)) := by
  have fp : F p = none := by
    cases e : F p with
    | none => rfl
    | some u => rw [R.sub p u e] at hp; cases hp
  have x : Ex ι F (ι ++ [p]) F := ⟨fun l a h => by rw [List.getElem?_append_left (List.getElem?_eq_some_iff.mp h).1]; exact h, fun _ _ h => h⟩
  obtain ⟨R', _⟩ := R.new hp (fun a o q => by rw [upd_ne (ne_of_none q hp)]; exact q) (by rw [upd_same]; simp) (o := .lst ds) ⟨fp, vs, upd_same, r.mono x⟩
  exact h _ _ _ _ x R' (.ref (get_snoc R.len))
theorem se_lstO (h : PA X es (ta Kt W ms)) : PE X (.List es pos) (te Kt W (vLstO ms)) :=
  (pe_lst h).imp fun σ H Q ⟨Φ, ι, F, e, g, S, h⟩ => ⟨Φ, ι, F, e, g, S, (po.bind (Rl := DVs Kt) h).imp fun v H1 ⟨ι1, F1, g1, d1, x1, R1, r1, h1⟩ => by
    split at h1
    · rename_i hl
      exact ⟨by rw [r1.length]; exact okL_iff.mp hl, newO R1 r1 h1⟩
    · exact h1.elim⟩
/-- of each of these classes: it is plain, and none of its bases has the name -/
def CA (Kt : Kit) (cs : List Nat) (x : Str) : Prop := ∀ c ∈ cs, ∀ C, Kt.cls[c]? = some C → Cls Kt.K C ∧ NoAttr Kt.K C x
theorem ud_fld {cs : List Nat} {n : Nat} {x : Str} (hx : Kt.tab[n]? = some x) (ca : CA Kt cs x) :
    UnD Kt (fun v H Q => ∃ a C dx fs u, v = .ref a ∧ H a = some (.ins C dx fs) ∧ Cls Kt.K C ∧ NoAttr Kt.K C x ∧ fs.lookup x = some u ∧ Q u H) (fldD cs n) := by
  intro Φ ι F g H v d z R hv h Q q
  unfold fldD at h
  split at h
  · rename_i l
    split at h
    · rename_i c fs e1
      split at h
      · rename_i hc
        cases hv with
        | ref e2 =>
          obtain ⟨_, C, dx, gs, e3, e4, r4⟩ := R.ob l _ _ e1 e2
          obtain ⟨u, l1, l2⟩ := r4.look hx h
          obtain ⟨c1, c2⟩ := ca c (by simpa using hc) C e3
          exact ⟨_, C, dx, gs, u, rfl, e4, c1, c2, l1, q _ _ _ _ Ex.refl R l2⟩
      · cases h
    · cases h
  · cases h
theorem se_fld {n : Nat} {cs : List Nat} {x : Str} (A : At Kt X W k) (hx : Kt.tab[n]? = some x) (ca : CA Kt cs x) (ha : PE X a (te Kt W ma)) (hb : attributeBase a x X.env (eval a X.env) = eval a X.env := by rfl) : PE X (.Attribute a x pos) (te Kt W (vFld cs n ma)) := by
  have h := pe_fld (pos := pos) ha hb
  rw [A.eK] at h
  exact h.imp fun _ _ _ => te_un (ud_fld hx ca)

/-! #### built-ins -/
def CrD (Kt : Kit) (r : List V → Hp → VK → Prop) (o : G → List D → Option D) : Prop := ∀ {Φ : Hp} {ι : List Addr} {F : Hp} {g : G} {H : Hp} {xs : List V} {ds : List D} {z : D}, RelG Kt Φ ι F g H → DVs Kt ι F xs ds → o g ds = some z →
  ∀ Q : VK, (∀ ι' F' H' v, Ex ι F ι' F' → RelG Kt Φ ι' F' g H' → DV Kt ι' F' v z → Q v H') → r xs H Q
theorem te_cb {r : List V → Hp → VK → Prop} {o : G → List D → Option D} (hd : CrD Kt r o) {Q : VK} (h : te Kt W (vCB o ms) σ H Q) : tCB r (ta Kt W ms) σ H Q := by
  obtain ⟨Φ, ι, F, e, g, S, h⟩ := h
  refine ⟨Φ, ι, F, e, g, S, (po.bind (Rl := DVs Kt) h).imp fun v H1 ⟨ι1, F1, g1, a, x1, R1, r1, h1⟩ => ?_⟩
  cases z : o g1 a with
  | none => rw [z] at h1; exact h1.elim
  | some d => rw [z] at h1; exact hd R1 r1 z Q h1
/-- f(e, ..), f a built-in -/
theorem se_cb {x : Str} {id : String} {p : Pos} {r : List V → Hp → VK → Prop} {o : G → List D → Option D} (A : At Kt X W k) (hc : CallR X (.builtin id) r) (hd : CrD Kt r o) (hm : Kt.mg x = none) (hv : bootBuiltins x = some (.builtin id)) (ha : PA X (a :: es) (ta Kt W ms)) (hg : Gl X x := by rfl) (hn : x ≠ "__name__" := by decide)
    (hdb : (x == ("__debug__" : Str)) = false := by decide) (he : starEach (a :: es) X.env = (false, eval a X.env) :: starEach es X.env := by rfl) (hpl : (backTo pos (starEach es X.env)).any (·.1) = false := by rfl) : PE X (.Call (.Name x p) (a :: es) [] pos) (te Kt W (vCB o ms)) :=
  (pe_callB hc hg (A.em ▸ hm) hv ha hn hdb he hpl).imp fun _ _ _ => te_cb hd
theorem se_cty {x : Str} {id : String} {p : Pos} {r : List V → Hp → VK → Prop} {o : G → List D → Option D} (A : At Kt X W k) (hc : CallR X (.type id) r) (hd : CrD Kt r o) (hm : Kt.mg x = none) (hv : bootBuiltins x = some (.type id)) (ha : PA X (a :: es) (ta Kt W ms)) (hg : Gl X x := by rfl) (hn : x ≠ "__name__" := by decide)
    (hdb : (x == ("__debug__" : Str)) = false := by decide) (he : starEach (a :: es) X.env = (false, eval a X.env) :: starEach es X.env := by rfl) (hpl : (backTo pos (starEach es X.env)).any (·.1) = false := by rfl) : PE X (.Call (.Name x p) (a :: es) [] pos) (te Kt W (vCB o ms)) :=
  (pe_callTy hc hg (A.em ▸ hm) hv ha hn hdb he hpl).imp fun _ _ _ => te_cb hd
def lenD (g : G) (ds : List D) : Option D := match ds with
  | [d] => match itD g d with
    | some xs => some (.int xs.length)
    | none => none
  | _ => none
theorem itD_ok {Φ : Hp} {ι : List Addr} {F : Hp} {g : G} {v : V} {d : D} {ds : List D} (R : RelG Kt Φ ι F g H) (r : DV Kt ι F v d) (h : itD g d = some ds) : ∃ a vs, v = .ref a ∧ (SqL Kt.K H a vs ∨ SqT Kt.K H a vs) ∧ DVs Kt ι F vs ds := by
  unfold itD at h
  split at h
  · cases h
    cases r with
    | tup e1 r1 => exact ⟨_, _, rfl, .inr (sqt_mono R.sub (tS e1)), r1⟩
  · cases h
    cases r with
    | scr e1 r1 => exact ⟨_, _, rfl, .inl (sql_mono R.sub e1), r1⟩
  · obtain ⟨a, vs, rfl, e1, r1⟩ := lsD_ok R r h
    exact ⟨_, _, rfl, .inl (.inl (.inl e1)), r1⟩
theorem cd_len : CrD Kt (fun xs H Q => ∃ x n, xs = [x] ∧ LenV Kt.K x H n ∧ Q (.int n) H) lenD := by
  intro Φ ι F g H xs ds z R hv h Q q
  unfold lenD at h
  split at h
  · rename_i d
    cases hv with
    | cons r1 r2 =>
    cases r2
    split at h
    · rename_i ys e
      cases h
      obtain ⟨a, vs, rfl, hs, r⟩ := itD_ok R r1 e
      refine ⟨_, vs.length, rfl, ?_, by rw [r.length]; exact q _ _ _ _ Ex.refl R (.int _)⟩
      rcases hs with hs | hs
      · exact .inl ⟨vs, hs, rfl⟩
      · exact .inr ⟨vs, hs, rfl⟩
    · cases h
  · cases h
def absD (_ : G) (ds : List D) : Option D := match ds with
  | [.int i] => some (.int (if i < 0 then -i else i))
  | _ => none
theorem cd_abs : CrD Kt (fun xs H Q => ∃ i, xs = [.int i] ∧ Q (.int (if i < 0 then -i else i)) H) absD := by
  intro Φ ι F g H xs ds z R hv h Q q
  unfold absD at h
  split at h
  · cases hv with
    | cons r1 r2 => cases r1; cases r2; cases h; exact ⟨_, rfl, q _ _ _ _ Ex.refl R (.int _)⟩
  · cases h
def maxD (_ : G) (ds : List D) : Option D := match ds with
  | [.int i, .int j] => some (.int (if j > i then j else i))
  | _ => none
def minD (_ : G) (ds : List D) : Option D := match ds with
  | [.int i, .int j] => some (.int (if j < i then j else i))
  | _ => none
theorem cd_max : CrD Kt (fun xs H Q => ∃ i j, xs = [.int i, .int j] ∧ Q (.int (if j > i then j else i)) H) maxD := by
  intro Φ ι F g H xs ds z R hv h Q q
  unfold maxD at h
  split at h
  · cases hv with
    | cons r1 r2 =>
      cases r2 with
      | cons r2 r3 => cases r1; cases r2; cases r3; cases h; exact ⟨_, _, rfl, q _ _ _ _ Ex.refl R (.int _)⟩
  · cases h
theorem cd_min : CrD Kt (fun xs H Q => ∃ i j, xs = [.int i, .int j] ∧ Q (.int (if j < i then j else i)) H) minD := by
  intro Φ ι F g H xs ds z R hv h Q q
  unfold minD at h
  split at h
  · cases hv with
    | cons r1 r2 =>
      cases r2 with
      | cons r2 r3 => cases r1; cases r2; cases r3; cases h; exact ⟨_, _, rfl, q _ _ _ _ Ex.refl R (.int _)⟩
  · cases h
def intD (_ : G) (ds : List D) : Option D := match ds with
  | [.int i] => some (.int i)
  | [.bl k] => some (.int (if k then 1 else 0))
  | _ => none
theorem cd_int : CrD Kt (fun xs H Q => (∃ i, xs = [.int i] ∧ Q (.int i) H) ∨ ∃ k, xs = [.bl k] ∧ Q (.int (if k then 1 else 0)) H) intD := by
  intro Φ ι F g H xs ds z R hv h Q q
  unfold intD at h
  split at h
  · cases hv with
    | cons r1 r2 => cases r1; cases r2; cases h; exact .inl ⟨_, rfl, q _ _ _ _ Ex.refl R (.int _)⟩
  · cases hv with
    | cons r1 r2 => cases r1; cases r2; cases h; exact .inr ⟨_, rfl, q _ _ _ _ Ex.refl R (.int _)⟩
  · cases h
/-- list(x), tuple(x): copies that do not change -/
def listD (g : G) (ds : List D) : Option D := match ds with
  | [d] => match itD g d with
    | some xs => some (.lst xs)
    | none => none
  | _ => none
theorem cd_list : CrD Kt (fun xs H Q => ∃ p ys, xs = [.ref p] ∧ (SqL Kt.K H p ys ∨ SqT Kt.K H p ys) ∧ ∀ l, H l = none → Q (.ref l) (upd H l (.lst ys))) listD := by
  intro Φ ι F g H xs ds z R hv h Q q
  unfold listD at h
  split at h
  · rename_i d
    cases hv with
    | cons r1 r2 =>
    cases r2
    split at h
    · rename_i ys e
      cases h
      obtain ⟨a, vs, rfl, hs, r⟩ := itD_ok R r1 e
      exact ⟨_, vs, rfl, hs, newL R r q⟩
    · cases h
  · cases h
def tupleD (g : G) (ds : List D) : Option D := match ds with
  | [d] => match d with
    | .tup xs => some (.tup xs)
    | _ => match lsD g d with
      | some xs => some (.tup xs)
      | none => none
  | _ => none
theorem cd_tuple : CrD Kt (fun xs H Q => ∃ p ys, xs = [.ref p] ∧ ((SqL Kt.K H p ys ∧ ∀ l, H l = none → Q (.ref l) (upd H l (.tup ys))) ∨ (SqT Kt.K H p ys ∧ Q (.ref p) H))) tupleD := by
  intro Φ ι F g H xs ds z R hv h Q q
  unfold tupleD at h
  split at h
  · rename_i d
    cases hv with
    | cons r1 r2 =>
    cases r2
    split at h
    · cases h
      cases r1 with
      | tup e1 r => exact ⟨_, _, rfl, .inr ⟨sqt_mono R.sub (tS e1), q _ _ _ _ Ex.refl R (.tup e1 r)⟩⟩
    · split at h
      · rename_i ys e
        cases h
        obtain ⟨a, vs, rfl, hs, r⟩ := lsD_ok R r1 e
        exact ⟨_, vs, rfl, .inl ⟨.inl (.inl hs), newT R r q⟩⟩
      · cases h
  · cases h
/-- list(x): a copy that will change -/
def vListO (a : AM) : EM := fun e g => (a e g).bind fun ds g1 => match ds with
  | [d] => match itD g1 d with
    | some xs => .ok (.ref g1.length) (g1 ++ [.lst xs])
    | none => .stuck
  | _ => .stuck
theorem se_listO {p : Pos} (A : At Kt X W k) (hm : Kt.mg "list" = none) (ha : PA X (a :: es) (ta Kt W ms)) (hg : Gl X "list" := by rfl) (he : starEach (a :: es) X.env = (false, eval a X.env) :: starEach es X.env := by rfl) (hpl : (backTo pos (starEach es X.env)).any (·.1) = false := by rfl) :
    PE X (.Call (.Name "list" p) (a :: es) [] pos) (te Kt W (vListO ms)) :=
  (pe_callTy (A.eK ▸ call_list_of : CallR X _ (fun xs H Q => ∃ p ys, xs = [.ref p] ∧ (SqL Kt.K H p ys ∨ SqT Kt.K H p ys) ∧ ∀ l, H l = none → Q (.ref l) (upd H l (.lst ys)))) hg (A.em ▸ hm) (by decide +kernel) ha (by decide) (by decide) he hpl).imp fun σ H Q ⟨Φ, ι, F, e, g, S, h⟩ => ⟨Φ, ι, F, e, g, S, (po.bind (Rl := DVs Kt) h).imp fun v H1 ⟨ι1, F1, g1, d1, x1, R1, r1, h1⟩ => by
    split at h1
    · rename_i d
      cases r1 with
      | cons r1 r2 =>
      cases r2
      split at h1
      · rename_i ys e
        obtain ⟨a, vs, rfl, hs, r⟩ := itD_ok R1 r1 e
        exact ⟨_, vs, rfl, hs, newO R1 r h1⟩
      · exact h1.elim
    · exact h1.elim⟩
/-! #### isinstance -/
inductive Ty where | non | bool | int | str | tuple | list
  deriving DecidableEq
def Ty.s : Ty → String
  | .non => "NoneType" | .bool => "bool" | .int => "int" | .str => "str" | .tuple => "tuple" | .list => "list"
def Ty.sub (a b : Ty) : Bool := a == b || (a == .bool && b == .int)
theorem Ty.kit (a b : Ty) : kitB a.s b.s = some (a.sub b) := by cases a <;> cases b <;> decide +kernel
def tyD (g : G) (d : D) : Option Ty := match snap g d with
  | .non => some .non
  | .bl _ => some .bool
  | .int _ => some .int
  | .str _ => some .str
  | .tup _ => some .tuple
  | .lst _ => some .list
  | _ => none
theorem tyD_ok {Φ : Hp} {ι : List Addr} {F : Hp} {g : G} {v : V} {d : D} {t : Ty} (R : RelG Kt Φ ι F g H) (r : DV Kt ι F v d) (h : tyD g d = some t) : TyX Kt.K H v (.type t.s) := by
  have key : ∀ ds, lsD g d = some ds → TyX Kt.K H v (.type "list") := fun ds e => by
    obtain ⟨a, vs, rfl, e1, r1⟩ := lsD_ok R r e
    exact .base (.lst e1)
  unfold tyD at h
  cases r with
  | non => simp at h; subst h; exact .base .non
  | bl b => simp at h; subst h; exact .base (.bl _)
  | int i => simp at h; subst h; exact .base (.int _)
  | str e => simp at h; subst h; exact .base (.str _)
  | tup e r =>
    simp at h; subst h
    exact .base (.tup (R.sub _ _ e))
  | lst e r => simp at h; subst h; exact key _ rfl
  | ref e =>
    rename_i l _
    cases z : snap g (.ref l) with
    | lst es => rw [z] at h; simp at h; subst h; exact key _ (by unfold lsD; rw [z])
    | non => rw [snap_ref] at z; split at z <;> cases z
    | bl b => rw [snap_ref] at z; split at z <;> cases z
    | int b => rw [snap_ref] at z; split at z <;> cases z
    | str b => rw [snap_ref] at z; split at z <;> cases z
    | tup b => rw [snap_ref] at z; split at z <;> cases z
    | _ => rw [z] at h; simp at h
  | scr e => simp [snap] at h
  | rng e => simp at h
  | dic e => simp [snap] at h
  | kt e r => simp [snap] at h
def isiD (t : Ty) (g : G) (d : D) : Option D := match tyD g d with
  | some s => some (.bl (s.sub t))
  | none => none
theorem se_isi {x : Str} {p p2 : Pos} (t : Ty) (A : At Kt X W k) (hm : Kt.mg "isinstance" = none) (hm2 : Kt.mg x = none) (hv : bootBuiltins x = some (.type t.s)) (ha : PE X a (te Kt W ma)) (hg : Gl X "isinstance" := by rfl) (hg2 : Gl X x := by rfl) (hn : x ≠ "__name__" := by decide) (hdb : (x == ("__debug__" : Str)) = false := by decide)
    (he : starEach [a, .Name x p2] X.env = (false, eval a X.env) :: starEach [.Name x p2] X.env := by rfl) (he2 : starEach [.Name x p2] X.env = (false, eval (.Name x p2) X.env) :: starEach [] X.env := by rfl) (hpl : (backTo pos (starEach [.Name x p2] X.env)).any (·.1) = false := by rfl) :
    PE X (.Call (.Name "isinstance" p) [a, .Name x p2] [] pos) (te Kt W (vUn (isiD t) ma)) :=
  (pe_callB (A.eK ▸ call_isi : CallR X _ (rIsi Kt.K)) hg (A.em ▸ hm) PyProof.Rows.boot_isinstance (pa_cons ha (pa_cons (pe_bltn (v := .ty t.s) hg2 (A.em ▸ hm2) hv rfl hn hdb) pa_nil he2) he) (by decide) (by decide) he hpl).imp fun σ H Q ⟨Φ, ι, F, e, g, S, h⟩ => ⟨Φ, ι, F, e, g, S, (po.bind (Rl := DV Kt) h).imp fun v H1 ⟨ι1, F1, g1, d1, x1, R1, r1, h1⟩ => by
    unfold isiD at h1
    cases z : tyD g1 d1 with
    | none => rw [z] at h1; exact h1.elim
    | some s => rw [z] at h1; exact ⟨v, _, _, _, _, rfl, .ty _, tyD_ok R1 r1 z, kit_ty (Ty.kit s t), h1 _ _ _ _ Ex.refl R1 (.bl _)⟩⟩
end
end Y

set_option Elab.async false
set_option linter.all false
set_option maxRecDepth 100000
namespace Y
open PySem PySem.Spec PyProof.Rows L2

/-! ### defs -/
/-- what a def that computes mf promises -/
def spM (Kt : Kit) (n : Nat) (mf : MF) : Sp := fun vs H Q E => vs.length = n ∧ ∃ Φ ι F g ds, RelG Kt Φ ι F g H ∧ DVs Kt ι F vs ds ∧ (match mf ds g with
  | .ok d g' => ∀ ι' F' H' v, Ex ι F ι' F' → RelG Kt Φ ι' F' g' H' → DV Kt ι' F' v d → Q v H'
  | .exn c g' => ∃ C, Kt.cls[c]? = some C ∧ ∀ ι' F' H', Ex ι F ι' F' → RelG Kt Φ ι' F' g' H' → E (.ref C) none H'
  | .stuck => False)
/-- a def that stands at f -/
structure FnAt (Kt : Kit) (k : Nat) (f : Addr) (n : Nat) (mf : MF) : Prop where
  ex : ∃ fd ps, ps.length = n ∧ FnOk Kt.P Kt.w Kt.K Kt.mg Kt.base (L2.CX Kt.P Kt.w) k f fd ps (spM Kt n mf) ∧ Binds Kt.K fd ps []
structure FnK (Kt : Kit) (k : Nat) (x : Str) (n : Nat) (mf : MF) : Prop where
  ex : ∃ f, Kt.mg x = some (.ref f) ∧ PySem.W.keepIn Kt.K (.ref f) = true ∧ FnAt Kt k f n mf
structure MkK (Kt : Kit) (k : Nat) (x : Str) (c : Nat) (n : Nat) (mf : MF) : Prop where
  ex : ∃ C f, Kt.cls[c]? = some C ∧ Kt.mg x = some (.ref C) ∧ Mk Kt.K C f ∧ FnAt Kt k f n mf
/-- a method of the class numbered c -/
structure MeK (Kt : Kit) (k : Nat) (m : Str) (c : Nat) (n : Nat) (mf : MF) : Prop where
  ex : ∃ C f, Kt.cls[c]? = some C ∧ Cls Kt.K C ∧ Meth Kt.K C m f ∧ FnAt Kt k f n mf
theorem FnAt.mono {Kt : Kit} {j k : Nat} {f : Addr} {n : Nat} {mf : MF} (h : FnAt Kt j f n mf) (le : j ≤ k) : FnAt Kt k f n mf := let ⟨fd, ps, e, F, B⟩ := h.ex; ⟨fd, ps, e, F.mono le, B⟩
theorem FnK.mono {Kt : Kit} {j k : Nat} {x : Str} {n : Nat} {mf : MF} (h : FnK Kt j x n mf) (le : j ≤ k) : FnK Kt k x n mf := let ⟨f, a, b, c⟩ := h.ex; ⟨f, a, b, c.mono le⟩
theorem MkK.mono {Kt : Kit} {j k : Nat} {x : Str} {c n : Nat} {mf : MF} (h : MkK Kt j x c n mf) (le : j ≤ k) : MkK Kt k x c n mf := let ⟨C, f, a, b, d, e⟩ := h.ex; ⟨C, f, a, b, d, e.mono le⟩
theorem MeK.mono {Kt : Kit} {j k : Nat} {x : Str} {c n : Nat} {mf : MF} (h : MeK Kt j x c n mf) (le : j ≤ k) : MeK Kt k x c n mf := let ⟨C, f, a, b, d, e⟩ := h.ex; ⟨C, f, a, b, d, e.mono le⟩

def vCall (mf : MF) (a : AM) : EM := fun e g => (a e g).bind mf
def vMake (c : Nat) (mf : MF) (a : AM) : EM := fun e g => (a e g).bind fun ds g1 => (mf (.ref g1.length :: ds) (g1 ++ [.ins c []])).bind fun d g2 => match d with
  | .non => .ok (.ref g1.length) g2
  | _ => .stuck
def lkM (c : Nat) : List (Nat × MF) → Option MF
  | [] => none
  | (m, f) :: r => if m = c then some f else lkM c r
def vMeth (n : Nat) (tbl : List (Nat × MF)) (o : EM) (a : AM) : EM := fun e g => (o e g).bind fun d g1 => match d with
  | .ref l => match g1[l]? with
    | some (.ins c fs) => match lkA n fs with
      | some _ => .stuck
      | none => match lkM c tbl with
        | some mf => (a e g1).bind fun ds g2 => mf (d :: ds) g2
        | none => .stuck
    | _ => .stuck
  | _ => .stuck

section
variable {Kt : Kit} {X : Cx} {W : WX} {k : Nat} {a b c : Expr} {ma mb mc : EM} {pos : Pos} {es : List Expr} {ms : AM}
theorem po_sp {Φ : Hp} {ι : List Addr} {F H : Hp} {g : G} {σ : L2.St} {vs : List V} {ds : List D} {mf : MF} {n : Nat} (hn : vs.length = n) (R : RelG Kt Φ ι F g H) (r : DVs Kt ι F vs ds) {Q : VK} (h : po Kt Φ W σ (DV Kt) ι F (mf ds g) Q) :
    spM Kt n mf vs H Q (WE W σ) := by
  refine ⟨hn, Φ, ι, F, g, ds, R, r, ?_⟩
  cases z : mf ds g with
  | ok d g' => rw [z] at h; exact h
  | exn c g' => rw [z] at h; exact h
  | stuck => rw [z] at h; exact h.elim
/-- a def that is known, called with values -/
theorem run_at {f : Addr} {n : Nat} {mf : MF} (A : At Kt X W k) (G : FnAt Kt k f n mf) {pins : List (Addr × Obj)} {σ : L2.St} {H : Hp} {s : Shared} {Q : VK} {us : List Value} {vs : List V} (I : Inv X pins σ H s) (r : Vals vs us) (h : spM Kt n mf vs H Q (WE W σ)) :
    wpAny (model X.prog X.w) X.A (call (.ref f) us) (EP X pins σ Q) X.xe s := by
  obtain ⟨fd, ps, e, Fk, B⟩ := G.ex
  have F' : FnOk X.prog X.w X.K X.mg X.base (L2.CX X.prog X.w) k f fd ps (spM Kt n mf) := by rw [A.eP, A.ew, A.eK, A.em, A.eb]; exact Fk
  exact run_fnS (E := WE W) F' A.room (A.eK ▸ B) (passAt A.tk σ) I r h
def Len (ms : AM) (n : Nat) : Prop := ∀ e g ds g', ms e g = .ok ds g' → ds.length = n
theorem len_nil : Len aNil 0 := fun e g ds g' h => by cases h; rfl
theorem len_cons {n : Nat} (h : Len ms n) : Len (aCons ma ms) (n + 1) := fun e g ds g' q => by
  unfold aCons at q
  cases z : ma e g with
  | ok d g1 =>
    rw [z] at q
    cases z2 : ms e g1 with
    | ok ds2 g2 => rw [Res.bind] at q; rw [z2] at q; cases q; rw [List.length_cons, h _ _ _ _ z2]
    | exn c g => rw [Res.bind] at q; rw [z2] at q; cases q
    | stuck => rw [Res.bind] at q; rw [z2] at q; cases q
  | exn c g => rw [z] at q; cases q
  | stuck => rw [z] at q; cases q
theorem po_len {Φ : Hp} {ι : List Addr} {F : Hp} {σ : L2.St} {r : Res (List D)} {n : Nat} (hn : ∀ ds g', r = .ok ds g' → ds.length = n) {Q : List V → Hp → Prop} (h : po Kt Φ W σ (DVs Kt) ι F r Q) : po Kt Φ W σ (DVs Kt) ι F r fun vs H => vs.length = n ∧ Q vs H := by
  cases r with
  | ok ds g' => exact fun ι' F' H' v x R q => ⟨q.length.trans (hn ds g' rfl), h ι' F' H' v x R q⟩
  | exn c g => exact h
  | stuck => exact h
theorem se_call {x : Str} {n : Nat} {mf : MF} {p : Pos} (A : At Kt X W k) (G : FnK Kt k x n mf) (ha : PA X (a :: es) (ta Kt W ms)) (hl : Len ms n) (hg : Gl X x := by rfl) (hdb : (x == ("__debug__" : Str)) = false := by decide)
    (he : starEach (a :: es) X.env = (false, eval a X.env) :: starEach es X.env := by rfl) (hpl : (backTo pos (starEach es X.env)).any (·.1) = false := by rfl) : PE X (.Call (.Name x p) (a :: es) [] pos) (te Kt W (vCall mf ms)) := by
  obtain ⟨f, hm, hk, G⟩ := G.ex
  refine ⟨fun pins s σ H Q I ⟨Φ, ι, F, e, g, S, h⟩ => ?_⟩
  refine wpAny_Call_Name_kw (ld_glob I hg (A.em ▸ hm) ?_ hdb)
  have h' := po_len (hl e g) (po.bind (Rl := DVs Kt) (α := List D) (ν := List V) h)
  refine PySem.W.callWith_K (h₀ := X.base) I.ok.mod.kin (A.eK ▸ hk) (thn (ha.run pos pins s σ H _ I ⟨Φ, ι, F, e, g, S, h'⟩) fun us s1 ⟨vs, H1, I1, r, hn, ι1, F1, g1, ds, x1, R1, r1, h1⟩ => ⟨I1.kIn, ?_⟩) he hpl
  exact run_at A G I1 r (po_sp hn R1 r1 h1)
theorem se_call0 {x : Str} {mf : MF} {p : Pos} (A : At Kt X W k) (G : FnK Kt k x 0 mf) (hg : Gl X x := by rfl) (hdb : (x == ("__debug__" : Str)) = false := by decide) : PE X (.Call (.Name x p) [] [] pos) (te Kt W (vCall mf aNil)) := by
  obtain ⟨f, hm, hk, G⟩ := G.ex
  refine ⟨fun pins s σ H Q I ⟨Φ, ι, F, e, g, S, h⟩ => ?_⟩
  refine wpAny_Call_Name_kw (ld_glob I hg (A.em ▸ hm) ?_ hdb)
  exact PySem.W.callWith_K0 I.kIn (A.eK ▸ hk) (run_at (us := []) (vs := []) A G I .nil (po_sp rfl S.rel .nil h))

/-- a new instance -/
theorem run_mk {C f : Addr} {n : Nat} {mf : MF} (A : At Kt X W (k + 1)) (M : Mk Kt.K C f) (G : FnAt Kt k f n mf) {pins : List (Addr × Obj)} {σ : L2.St} {H : Hp} {s : Shared} {Q : VK} {us : List Value} {vs : List V} (I : Inv X pins σ H s) (r : Vals vs us)
    (h : ∀ x dx, H x = none → H dx = none → dx ≠ x → spM Kt n mf (.ref x :: vs) (upd (upd H dx (.own x)) x (.ins C dx [])) (fun v H2 => v = .non ∧ Q (.ref x) H2) (WE W σ)) : wpAny (model X.prog X.w) X.A (call (.ref C) us) (EP X pins σ Q) X.xe s := by
  obtain ⟨fd, ps, e, Fk, B⟩ := G.ex
  have F' : FnOk X.prog X.w X.K X.mg X.base (L2.CX X.prog X.w) k f fd ps (spM Kt n mf) := by rw [A.eP, A.ew, A.eK, A.em, A.eb]; exact Fk
  have M' : Mk X.K C f := A.eK ▸ M
  have B' : Binds X.K fd ps [] := A.eK ▸ B
  have nx : H (s.heap.objs.size + 1) = none := I.hok.fresh (Nat.le_succ _)
  have nd : H s.heap.objs.size = none := I.hok.fresh (Nat.le_refl _)
  have q := h _ _ nx nd (Nat.ne_of_lt (Nat.lt_succ_self _))
  have J := Inv.made (C := C) I
  have rs : Vals (V.ref (s.heap.objs.size + 1) :: vs) (Value.ref (s.heap.objs.size + 1) :: us) := .cons rfl r
  have hl : (Value.ref (s.heap.objs.size + 1) :: us ++ []).length = ps.length := by
    rw [List.append_nil, ← rs.length]
    exact F'.len _ _ _ _ q
  have bt := B' _ (Value.ref (s.heap.objs.size + 1) :: us) J.kIn hl
  rw [List.append_nil] at bt
  have run := F'.run _ X.stack _ _ ⟨Value.ref (s.heap.objs.size + 1) :: us, []⟩ _ _ _ _ (A.room.make C us []) (J.env0.make C us []) bt rs q
  refine wpAny_call (make_map (f := f) I.kIn M'.makes M'.init (beq_iff_eq.mp M'.fn) (codeAny_mono run fun w s' back => ?_))
  match w, back with
  | .error e, back => exact passAt A.tk σ pins _ _ e s' J back
  | .ok (.ret u), back =>
    obtain ⟨v, H', J', rv, ev, fin⟩ := J.after back
    subst ev
    exact ⟨rv, V.ref (s.heap.objs.size + 1), H', J', rfl, fin⟩
theorem po_mk {Φ : Hp} {ι : List Addr} {F H : Hp} {g : G} {σ : L2.St} {vs : List V} {ds : List D} {mf : MF} {n c : Nat} {C : Addr} (hC : Kt.cls[c]? = some C) (hn : vs.length + 1 = n) (R : RelG Kt Φ ι F g H) (r : DVs Kt ι F vs ds) {Q : VK}
    (h : po Kt Φ W σ (DV Kt) ι F ((mf (.ref g.length :: ds) (g ++ [.ins c []])).bind fun d g2 => match d with
  | .non => .ok (.ref g.length) g2
  | _ => .stuck) Q) : ∀ x dx, H x = none → H dx = none → dx ≠ x → spM Kt n mf (.ref x :: vs) (upd (upd H dx (.own x)) x (.ins C dx [])) (fun v H2 => v = .non ∧ Q (.ref x) H2) (WE W σ) := by
  intro x dx hx hdx ne
  have fx : F x = none := by
    cases e : F x with
    | none => rfl
    | some u => rw [R.sub x u e] at hx; cases hx
  have keep : ∀ a o, H a = some o → upd (upd H dx (.own x)) x (.ins C dx []) a = some o := fun a o q => by
    rw [upd_ne (ne_of_none q hx), upd_ne (ne_of_none q hdx)]; exact q
  obtain ⟨R', y⟩ := R.new (p := x) (o := .ins c []) hx keep (by rw [upd_same]; simp) ⟨fx, C, dx, [], hC, upd_same, .nil⟩
  have me : DV Kt (ι ++ [x]) F (.ref x) (.ref g.length) := .ref (get_snoc R.len)
  refine po_sp (by simpa using hn) R' (.cons me (r.mono y)) ?_
  refine (po.bind (Rl := DV Kt) (h.mono y)).imp fun v H1 ⟨ι1, F1, g1, d, x1, R1, r1, h1⟩ => ?_
  cases r1 with
  | non => exact ⟨rfl, h1 _ _ _ _ Ex.refl R1 (me.mono x1)⟩
  | _ => exact h1.elim
theorem se_make {x : Str} {n c : Nat} {mf : MF} {p : Pos} (A : At Kt X W (k + 1)) (G : MkK Kt k x c (n + 1) mf) (ha : PA X (a :: es) (ta Kt W ms)) (hl : Len ms n) (hg : Gl X x := by rfl) (hdb : (x == ("__debug__" : Str)) = false := by decide)
    (he : starEach (a :: es) X.env = (false, eval a X.env) :: starEach es X.env := by rfl) (hpl : (backTo pos (starEach es X.env)).any (·.1) = false := by rfl) : PE X (.Call (.Name x p) (a :: es) [] pos) (te Kt W (vMake c mf ms)) := by
  obtain ⟨C, f, hC, hm, M, G⟩ := G.ex
  refine ⟨fun pins s σ H Q I ⟨Φ, ι, F, e, g, S, h⟩ => ?_⟩
  refine wpAny_Call_Name_kw (ld_glob I hg (A.em ▸ hm) ?_ hdb)
  have h' := po_len (hl e g) (po.bind (Rl := DVs Kt) (α := List D) (ν := List V) h)
  refine PySem.W.callWith_K (h₀ := X.base) I.ok.mod.kin (A.eK ▸ M.kp) (thn (ha.run pos pins s σ H _ I ⟨Φ, ι, F, e, g, S, h'⟩) fun us s1 ⟨vs, H1, I1, r, hn, ι1, F1, g1, ds, x1, R1, r1, h1⟩ => ⟨I1.kIn, ?_⟩) he hpl
  exact run_mk A M G I1 r (po_mk hC (by omega) R1 r1 h1)
theorem se_make0 {x : Str} {c : Nat} {mf : MF} {p : Pos} (A : At Kt X W (k + 1)) (G : MkK Kt k x c 1 mf) (hg : Gl X x := by rfl) (hdb : (x == ("__debug__" : Str)) = false := by decide) : PE X (.Call (.Name x p) [] [] pos) (te Kt W (vMake c mf aNil)) := by
  obtain ⟨C, f, hC, hm, M, G⟩ := G.ex
  refine ⟨fun pins s σ H Q I ⟨Φ, ι, F, e, g, S, h⟩ => ?_⟩
  refine wpAny_Call_Name_kw (ld_glob I hg (A.em ▸ hm) ?_ hdb)
  exact PySem.W.callWith_K0 I.kIn (A.eK ▸ M.kp) (run_mk (us := []) (vs := []) A M G I .nil (po_mk hC rfl S.rel .nil h))

/-- the methods of that name, by class -/
def MT (Kt : Kit) (k : Nat) (m : Str) (n : Nat) (tbl : List (Nat × MF)) : Prop := ∀ c mf, lkM c tbl = some mf → MeK Kt k m c n mf
theorem mt_nil {m : Str} {n : Nat} : MT Kt k m n [] := fun c mf h => by cases h
theorem mt_cons {m : Str} {n c : Nat} {mf : MF} {tbl : List (Nat × MF)} (h : MeK Kt k m c n mf) (r : MT Kt k m n tbl) : MT Kt k m n ((c, mf) :: tbl) := fun c' mf' q => by
  unfold lkM at q
  split at q
  · rename_i e; subst e; cases q; exact h
  · exact r _ _ q
theorem se_meth {o : Expr} {m : Str} {n nm : Nat} {tbl : List (Nat × MF)} {apos : Pos} {pl : Sem Bool} (A : At Kt X W k) (ho : PE X o (te Kt W ma)) (hx : Kt.tab[nm]? = some m) (T : MT Kt k m (n + 1) tbl) (ha : PA X (a :: es) (ta Kt W ms)) (hl : Len ms n)
    (hst : starEach (a :: es) X.env = (false, eval a X.env) :: starEach es X.env := by rfl) (hpl : (backTo pos (starEach es X.env)).any (·.1) = false := by rfl)
    (ht : eval (.Call (.Attribute o m apos) (a :: es) [] pos) X.env = (do
      let ov ← eval o X.env
      standAt apos.atName
      let (f, first) ← holding [ov] (getMethod ov m pl)
      callWith pos f first (backTo pos (starEach (a :: es) X.env)) (backToKw pos (keywordEach [] X.env))) := by rfl) :
    PE X (.Call (.Attribute o m apos) (a :: es) [] pos) (te Kt W (vMeth nm tbl ma ms)) := by
  refine ⟨fun pins s σ H Q I ⟨Φ, ι, F, e, g, S, h⟩ => ?_⟩
  refine PySem.W.methodCall_KW (pl := pl) (thn (ho.run pins s σ H _ I ⟨Φ, ι, F, e, g, S, po.bind (Rl := DV Kt) h⟩) fun u s1 ⟨x, H1, I1, rx, ι1, F1, g1, d, x1, R1, r1, h1⟩ => ?_) ht
  split at h1
  · rename_i l
    split at h1
    · rename_i c fs eg
      split at h1
      · exact h1.elim
      · rename_i en
        split at h1
        · rename_i mf em
          cases r1 with
          | @ref _ ad ei =>
          obtain ⟨fF, C, dx, gs, eC, eH, rf⟩ := R1.ob l _ _ eg ei
          obtain ⟨C', f, eC', cl, hm, G⟩ := (T c mf em).ex
          rw [eC] at eC'; cases eC'
          obtain rfl : u = Value.ref ad := rx
          refine getmeth_ok I1 eH (A.eK ▸ cl) (A.eK ▸ hm) (FR.nolook hx rf en) ?_
          have h' := po_len (hl e g1) (po.bind (Rl := DVs Kt) (α := List D) (ν := List V) h1)
          refine PySem.W.callWith_K (first := [.ref ad]) (h₀ := X.base) I.ok.mod.kin (A.eK ▸ hm.kp) (thn (ha.run pos pins s1 σ H1 _ I1 ⟨Φ, ι1, F1, e, g1, ⟨S.env.mono x1, R1⟩, h'⟩) fun us s2 ⟨vs, H2, I2, r, hn, ι2, F2, g2, ds, x2, R2, r2, h2⟩ => ⟨I2.kIn, ?_⟩) hst hpl
          exact run_at (us := .ref ad :: us) (vs := .ref ad :: vs) A G I2 (.cons rfl r) (po_sp (by simp [hn]) R2 (.cons (.ref (x2.i _ _ ei)) r2) h2)
        · exact h1.elim
    · exact h1.elim
  · exact h1.elim
theorem se_meth0 {o : Expr} {m : Str} {nm : Nat} {tbl : List (Nat × MF)} {apos : Pos} {pl : Sem Bool} (A : At Kt X W k) (ho : PE X o (te Kt W ma)) (hx : Kt.tab[nm]? = some m) (T : MT Kt k m 1 tbl)
    (ht : eval (.Call (.Attribute o m apos) [] [] pos) X.env = (do
      let ov ← eval o X.env
      standAt apos.atName
      let (f, first) ← holding [ov] (getMethod ov m pl)
      callWith pos f first (backTo pos (starEach [] X.env)) (backToKw pos (keywordEach [] X.env))) := by rfl) :
    PE X (.Call (.Attribute o m apos) [] [] pos) (te Kt W (vMeth nm tbl ma aNil)) := by
  refine ⟨fun pins s σ H Q I ⟨Φ, ι, F, e, g, S, h⟩ => ?_⟩
  refine PySem.W.methodCall_KW (pl := pl) (thn (ho.run pins s σ H _ I ⟨Φ, ι, F, e, g, S, po.bind (Rl := DV Kt) h⟩) fun u s1 ⟨x, H1, I1, rx, ι1, F1, g1, d, x1, R1, r1, h1⟩ => ?_) ht
  split at h1
  · rename_i l
    split at h1
    · rename_i c fs eg
      split at h1
      · exact h1.elim
      · rename_i en
        split at h1
        · rename_i mf em
          cases r1 with
          | @ref _ ad ei =>
          obtain ⟨fF, C, dx, gs, eC, eH, rf⟩ := R1.ob l _ _ eg ei
          obtain ⟨C', f, eC', cl, hm, G⟩ := (T c mf em).ex
          rw [eC] at eC'; cases eC'
          obtain rfl : u = Value.ref ad := rx
          refine getmeth_ok I1 eH (A.eK ▸ cl) (A.eK ▸ hm) (FR.nolook hx rf en) ?_
          exact PySem.W.callWith_K0 (first := [.ref ad]) I1.kIn (A.eK ▸ hm.kp) (run_at (us := [.ref ad]) (vs := [.ref ad]) A G I1 (.cons rfl .nil) (po_sp rfl R1 (.cons (.ref ei) .nil) h1))
        · exact h1.elim
    · exact h1.elim
  · exact h1.elim
end
end Y

set_option Elab.async false
set_option linter.all false
set_option maxRecDepth 100000
namespace Y
open PySem PySem.Spec PyProof.Rows L2

/-! ### statements -/
def sNx : SM := fun e g => .nx e g
def sSeq (a b : SM) : SM := fun e g => match a e g with
  | .nx e' g' => b e' g'
  | r => r
def sAsg (i : Nat) (m : EM) : SM := fun e g => sBind (m e g) e fun d g1 => .nx (e.set i (some d)) g1
def sDrop (m : EM) : SM := fun e g => sBind (m e g) e fun _ g1 => .nx e g1
def sRet (m : EM) : SM := fun e g => sBind (m e g) e fun d g1 => .rt d g1
def sIf (t : TM) (a b : SM) : SM := fun e g => sBind (t e g) e fun c g1 => bif c then a e g1 else b e g1
def sBk : SM := fun e g => .bk e g
def sCt : SM := fun e g => .ct e g
def sSetA (cs : List Nat) (n : Nat) (o m : EM) : SM := fun e g => sBind (m e g) e fun y g1 => sBind (o e g1) e fun d g2 => match d with
  | .ref l => match g2[l]? with
    | some (.ins c fs) => (match cs.contains c && decide (fs.length < 1000) with
      | true => .nx e (g2.set l (.ins c (putA n y fs)))
      | false => .stuck)
    | _ => .stuck
  | _ => .stuck
/-- o.x += an int -/
def sAugA (cs : List Nat) (n : Nat) (o m : EM) : SM := fun e g => sBind (o e g) e fun d g1 => match d with
  | .ref l => match g1[l]? with
    | some (.ins c fs) => match cs.contains c, lkA n fs with
      | true, some (.int i) => sBind (m e g1) e fun y g2 => match y with
        | .int j => match g2[l]? with
          | some (.ins c2 fs2) => (match decide (c2 = c ∧ fs2.length < 1000) with
            | true => .nx e (g2.set l (.ins c2 (putA n (.int (i + j)) fs2)))
            | false => .stuck)
          | _ => .stuck
        | _ => .stuck
      | _, _ => .stuck
    | _ => .stuck
  | _ => .stuck
def sAug (i : Nat) (m : EM) : SM := fun e g => match e[i]? with
  | some (some (.int x)) => sBind (m e g) e fun y g1 => match y with
    | .int z => .nx (e.set i (some (.int (x + z)))) g1
    | _ => .stuck
  | _ => .stuck
/-- o[i] = v, o a list that changes -/
def sSub (o i m : EM) : SM := fun e g => sBind (m e g) e fun y g1 => sBind (o e g1) e fun d g2 => sBind (i e g2) e fun j g3 => match d, j with
  | .ref l, .int j => match g3[l]? with
    | some (.lst ds) => match ixN ds.length j with
      | some n => .nx e (g3.set l (.lst (ds.set n y)))
      | none => .stuck
    | _ => .stuck
  | _, _ => .stuck
/-- the value of a list that nobody changes any more -/
def frzD (d : D) (g : G) : Res D := match d with
  | .ref l => match g[l]? with
    | some (.lst ds) => .ok (.lst ds) (g.set l .dead)
    | _ => .ok (.ref l) g
  | d => .ok d g
def vFrz (m : EM) : EM := fun e g => (m e g).bind frzD
def vApp (o m : EM) : EM := fun e g => (o e g).bind fun d g1 => match lsD g1 d with
  | none => .stuck
  | some _ => (m e g1).bind fun y g2 => match d with
    | .ref l => match g2[l]? with
      | some (.lst ds) => (match ltL ds.length with
        | true => .ok .non (g2.set l (.lst (ds ++ [y])))
        | false => .stuck)
      | _ => .stuck
    | _ => .stuck

/-! #### targets -/
abbrev GM := D → G → En → Option En
def gN (i : Nat) : GM := fun d _ e => some (e.set i (some d))
def gsN : List D → G → En → Option En := fun ds _ e => match ds with
  | [] => some e
  | _ => none
def gsC (a : GM) (r : List D → G → En → Option En) : List D → G → En → Option En := fun ds g e => match ds with
  | [] => none
  | d :: ds => match a d g e with
    | some e' => r ds g e'
    | none => none
def gT (n : Nat) (r : List D → G → En → Option En) : GM := fun d g e => match d with
  | .tup ds => (match ds.length == n with
    | true => r ds g e
    | false => none)
  | _ => none
def sTgt (m : EM) (gm : GM) : SM := fun e g => sBind (m e g) e fun d g1 => match gm d g1 e with
  | some e' => .nx e' g1
  | none => .stuck
/-- only these slots are set -/
def Out (vs : List Nat) (σ σ' : L2.St) : Prop := σ'.length = σ.length ∧ ∀ i, i ∉ vs → σ'[i]? = σ[i]?
theorem Out.refl {vs : List Nat} {σ : L2.St} : Out vs σ σ := ⟨rfl, fun _ _ => rfl⟩
theorem Out.trans {vs : List Nat} {σ σ1 σ2 : L2.St} (a : Out vs σ σ1) (b : Out vs σ1 σ2) : Out vs σ σ2 := ⟨b.1.trans a.1, fun i h => (b.2 i h).trans (a.2 i h)⟩
def tgt (Kt : Kit) (vs : List Nat) (gm : GM) : TG := fun v σ H Q => ∃ Φ ι F e g d, St' Kt Φ ι F e g σ H ∧ DV Kt ι F v d ∧ ∃ e', gm d g e = some e' ∧ ∀ σ', Out vs σ σ' → St' Kt Φ ι F e' g σ' H → Q σ' H
def tgts (Kt : Kit) (vs : List Nat) (gm : List D → G → En → Option En) : TGs := fun xs σ H Q => ∃ Φ ι F e g ds, St' Kt Φ ι F e g σ H ∧ DVs Kt ι F xs ds ∧ ∃ e', gm ds g e = some e' ∧ ∀ σ', Out vs σ σ' → St' Kt Φ ι F e' g σ' H → Q σ' H
section
variable {Kt : Kit} {X : Cx} {W : WX} {k : Nat} {a b c : Expr} {ma mb mc : EM} {ta' : TM} {pos : Pos} {es : List Expr} {ms : AM} {vs : List Nat} {gm : GM} {gms : List D → G → En → Option En} {st : Stmt} {sts : List Stmt} {m m' : SM}
theorem PG.imp {e : Expr} {t t' : TG} (h : PG X e t) (i : ∀ v σ H Q, t' v σ H Q → t v σ H Q) : PG X e t' := ⟨fun pins s σ H v u Q I r q => h.run pins s σ H v u Q I r (i v σ H Q q)⟩
theorem PGs.imp {e : List Expr} {t t' : TGs} (h : PGs X e t) (i : ∀ v σ H Q, t' v σ H Q → t v σ H Q) : PGs X e t' := ⟨fun pins s σ H v u Q I r q => h.run pins s σ H v u Q I r (i v σ H Q q)⟩
theorem sg_name (i : Nat) {x : Str} (hN : X.N.Nodup) (hv : i ∈ vs) (hi : X.N[i]? = some x := by rfl) (hx : Loc X.env.scope x := by first | exact Or.inl rfl | exact Or.inr rfl) (hf : X.fn x = true ∨ X.env.scope.names.lookup x = some .local := by first | exact .inl rfl | exact .inr rfl | assumption) :
    PG X (.Name x pos) (tgt Kt vs (gN i)) := PG.imp (pg_name hN hi hx hf) fun v σ H Q ⟨Φ, ι, F, e, g, d, S, r, e', h, q⟩ => by
  cases h
  exact q _ ⟨by simp, fun j hj => by rw [List.getElem?_set_ne]; rintro rfl; exact hj hv⟩ ⟨S.env.set i r, S.rel⟩
theorem sgs_nil : PGs X [] (tgts Kt vs gsN) := PGs.imp pgs_nil fun v σ H Q ⟨Φ, ι, F, e, g, ds, S, r, e', h, q⟩ => by
  cases r with
  | nil => cases h; exact ⟨rfl, q _ Out.refl S⟩
  | cons _ _ => cases h
theorem sgs_cons (h1 : PG X a (tgt Kt vs gm)) (h2 : PGs X es (tgts Kt vs gms)) (hs : (assignEach (a :: es) X.env).map (·.2) = assign a X.env :: (assignEach es X.env).map (·.2) := by rfl) : PGs X (a :: es) (tgts Kt vs (gsC gm gms)) :=
  PGs.imp (pgs_cons h1 h2 hs) fun v σ H Q ⟨Φ, ι, F, e, g, ds, S, r, e', h, q⟩ => by
    cases r with
    | nil => cases h
    | @cons x d xs ds r1 r2 =>
      unfold gsC at h
      simp only at h
      split at h
      · rename_i e1 h1
        exact ⟨x, xs, rfl, Φ, ι, F, e, g, d, S, r1, e1, h1, fun σ' o S' => ⟨Φ, ι, F, e1, g, ds, S', r2, e', h, fun σ2 o2 S2 => q σ2 (o.trans o2) S2⟩⟩
      · cases h
theorem sg_tup {kk : Nat} (n : Nat) (A : At Kt X W k) (h : PGs X es (tgts Kt vs gms)) (hn : (assignEach es X.env).length = n := by rfl) (hst : (assignEach es X.env).findIdx? (·.1) = none := by rfl) : PG X (.Tuple es kk pos) (tgt Kt vs (gT n gms)) :=
  PG.imp (pg_tup A.calm h hn hst) fun v σ H Q ⟨Φ, ι, F, e, g, d, S, r, e', h, q⟩ => by
    unfold gT at h
    split at h
    · split at h
      · rename_i hl
        cases r with
        | tup e1 r1 => exact ⟨_, _, rfl, A.eK ▸ sqt_mono S.rel.sub (tS e1), r1.length.trans (beq_iff_eq.mp hl), Φ, ι, F, e, g, _, S, r1, e', h, q⟩
      · cases h
    · cases h

/-! #### blocks -/
theorem ss_nil : PSs X [] (ts Kt W sNx) := L2.PSs.imp pss_nil fun D σ H ⟨Φ, ι, F, e, g, S, h⟩ => h _ _ _ _ Ex.refl S
theorem so_seq {D : Ends} {Φ : Hp} {ι : List Addr} {F : Hp} {e : En} {g : G} (h : so Kt Φ W D ι F (sSeq m m' e g)) : so Kt Φ W { D with nx := ts Kt W m' D } ι F (m e g) := by
  unfold sSeq at h
  cases z : m e g with
  | nx e1 g1 => rw [z] at h; exact fun ι' F' σ' H' x S => ⟨Φ, ι', F', e1, g1, S, so.mono x h⟩
  | bk e1 g1 => rw [z] at h; exact h
  | ct e1 g1 => rw [z] at h; exact h
  | rt d g1 => rw [z] at h; exact h
  | exn c e1 g1 => rw [z] at h; exact h
  | stuck => rw [z] at h; exact h
theorem ss_cons (h1 : PS X st (ts Kt W m)) (h2 : PSs X sts (ts Kt W m')) : PSs X (st :: sts) (ts Kt W (sSeq m m')) := L2.PSs.imp (pss_cons h1 h2) fun D σ H ⟨Φ, ι, F, e, g, S, h⟩ => ⟨Φ, ι, F, e, g, S, so_seq h⟩
theorem ss_one (h1 : PS X st (ts Kt W m)) : PSs X [st] (ts Kt W m) := pss_one h1
theorem ss_set (i : Nat) {x : Str} {p : Pos} (A : At Kt X W k) (ha : PE X a (te Kt W ma)) (hi : X.N[i]? = some x := by rfl) (hx : Loc X.env.scope x := by first | exact Or.inl rfl | exact Or.inr rfl) (hs : swapsWith a (some (.Name x p)) pos.line X.env = pure false := by rfl)
    (hf : X.fn x = true ∨ X.env.scope.names.lookup x = some .local := by first | exact .inl rfl | exact .inr rfl | assumption) : PS X (.Assign [.Name x p] a pos) (ts Kt W (sAsg i ma)) :=
  L2.PS.imp (ps_set A.nd hi hx ha hs hf) fun D σ H ⟨Φ, ι, F, e, g, S, h⟩ => ⟨Φ, ι, F, e, g, S, (so.bind (Rl := DV Kt) S.env h).imp fun v H1 ⟨ι1, F1, g1, d, x1, R1, r1, h1⟩ => h1 _ _ _ _ Ex.refl ⟨(S.env.mono x1).set i r1, R1⟩⟩
theorem ss_asg (A : At Kt X W k) (ha : PE X a (te Kt W ma)) (hg : PG X b (tgt Kt vs gm)) (hs : swapsWithSole [b] a pos.line X.env = pure false := by rfl) (hw : swappedStores [b] a X.env = pure none := by rfl) (h1 : (assignEach [b] X.env).map (·.2) = [assign b X.env] := by rfl) :
    PS X (.Assign [b] a pos) (ts Kt W (sTgt ma gm)) :=
  L2.PS.imp (ps_asg ha hg hs hw h1) fun D σ H ⟨Φ, ι, F, e, g, S, h⟩ => ⟨Φ, ι, F, e, g, S, (so.bind (Rl := DV Kt) S.env h).imp fun v H1 ⟨ι1, F1, g1, d, x1, R1, r1, h1⟩ => by
    cases z : gm d g1 e with
    | none => rw [z] at h1; exact h1.elim
    | some e' => rw [z] at h1; exact ⟨Φ, ι1, F1, e, g1, d, ⟨S.env.mono x1, R1⟩, r1, e', z, fun σ' _ S' => h1 _ _ _ _ Ex.refl S'⟩⟩
theorem ss_expr (ha : PE X a (te Kt W ma)) (hs : swapsWith a none pos.line X.env = pure false := by rfl) : PS X (.Expr a pos) (ts Kt W (sDrop ma)) :=
  L2.PS.imp (ps_expr ha hs) fun D σ H ⟨Φ, ι, F, e, g, S, h⟩ => ⟨Φ, ι, F, e, g, S, (so.bind (Rl := DV Kt) S.env h).imp fun v H1 ⟨ι1, F1, g1, d, x1, R1, r1, h1⟩ => h1 _ _ _ _ Ex.refl ⟨S.env.mono x1, R1⟩⟩
theorem ss_ret (ha : PE X a (te Kt W ma)) : PS X (.Return (some a) pos) (ts Kt W (sRet ma)) :=
  L2.PS.imp (ps_ret ha) fun D σ H ⟨Φ, ι, F, e, g, S, h⟩ => ⟨Φ, ι, F, e, g, S, (so.bind (Rl := DV Kt) S.env h).imp fun v H1 ⟨ι1, F1, g1, d, x1, R1, r1, h1⟩ => h1 _ _ _ _ Ex.refl R1 r1⟩
theorem ss_retN : PS X (.Return none pos) (ts Kt W (sRet (vC .non))) := L2.PS.imp ps_retN fun D σ H ⟨Φ, ι, F, e, g, S, h⟩ => h _ _ _ _ Ex.refl S.rel .non
theorem ss_if (hc : PT X c (tt Kt W ta')) (ha : PSs X sts (ts Kt W m)) {els : List Stmt} (hb : PSs X els (ts Kt W m')) : PS X (.If c sts els pos) (ts Kt W (sIf ta' m m')) :=
  L2.PS.imp (ps_if hc ha hb) fun D σ H ⟨Φ, ι, F, e, g, S, h⟩ => ⟨Φ, ι, F, e, g, S, (so.bind (Rl := RB) S.env h).imp fun v H1 ⟨ι1, F1, g1, d, x1, R1, r1, h1⟩ => by
    obtain rfl : v = d := r1
    cases v with
    | true => rw [if_pos rfl]; exact ⟨Φ, ι1, F1, e, g1, ⟨S.env.mono x1, R1⟩, h1⟩
    | false => rw [if_neg Bool.false_ne_true]; exact ⟨Φ, ι1, F1, e, g1, ⟨S.env.mono x1, R1⟩, h1⟩⟩
theorem ss_pass : PS X (.Pass pos) (ts Kt W sNx) := L2.PS.imp ps_pass fun D σ H ⟨Φ, ι, F, e, g, S, h⟩ => h _ _ _ _ Ex.refl S
theorem ss_break : PS X (.Break pos) (ts Kt W sBk) := L2.PS.imp ps_break fun D σ H ⟨Φ, ι, F, e, g, S, h⟩ => h _ _ _ _ Ex.refl S
theorem ss_cont : PS X (.Continue pos) (ts Kt W sCt) := L2.PS.imp ps_continue fun D σ H ⟨Φ, ι, F, e, g, S, h⟩ => h _ _ _ _ Ex.refl S
theorem setA_ok {Φ : Hp} {ι : List Addr} {F H : Hp} {g : G} {cs : List Nat} {n l cc : Nat} {x : Str} {fs : List (Nat × D)} {ad : Addr} {v : V} {y : D} (hx : Kt.tab[n]? = some x) (ca : CA Kt cs x) (R : RelG Kt Φ ι F g H) (e1 : g[l]? = some (.ins cc fs)) (hc : (cs.contains cc && decide (fs.length < 1000)) = true)
    (e2 : ι[l]? = some ad) (r : DV Kt ι F v y) : ∃ C dx gs, H ad = some (.ins C dx gs) ∧ Cls Kt.K C ∧ NoAttr Kt.K C x ∧ gs.length < 1000 ∧ RelG Kt Φ ι F (g.set l (.ins cc (putA n y fs))) (upd H ad (.ins C dx (putF x v gs))) := by
  rw [Bool.and_eq_true, decide_eq_true_eq] at hc
  obtain ⟨hF, C, dx, gs, e3, e4, r4⟩ := R.ob l _ _ e1 e2
  obtain ⟨c1, c2⟩ := ca cc (by simpa using hc.1) C e3
  exact ⟨C, dx, gs, e4, c1, c2, by rw [r4.length]; exact hc.2, R.put e2 hF ⟨hF, C, dx, _, e3, upd_same, r4.put hx r⟩ (by rw [e4]; exact noT_ins)⟩
theorem ss_fld {n : Nat} {cs : List Nat} {x : Str} {p : Pos} (A : At Kt X W k) (hx : Kt.tab[n]? = some x) (ca : CA Kt cs x) (ho : PE X a (te Kt W ma)) (hv : PE X b (te Kt W mb)) (hs : swapsWith b (some (.Attribute a x p)) pos.line X.env = pure false := by rfl) :
    PS X (.Assign [.Attribute a x p] b pos) (ts Kt W (sSetA cs n ma mb)) := by
  have h := ps_fld (pos := pos) (pos' := p) ho hv hs
  rw [A.eK] at h
  refine L2.PS.imp h fun D σ H ⟨Φ, ι, F, e, g, S, h⟩ => ⟨Φ, ι, F, e, g, S, (so.bind (Rl := DV Kt) S.env h).imp fun v H1 ⟨ι1, F1, g1, d, x1, R1, r1, h1⟩ => ⟨Φ, ι1, F1, e, g1, ⟨S.env.mono x1, R1⟩, (so.bind (Rl := DV Kt) (S.env.mono x1) h1).imp fun v2 H2 ⟨ι2, F2, g2, d2, x2, R2, r2, h2⟩ => ?_⟩⟩
  split at h2
  · split at h2
    · split at h2
      · cases r2 with
        | ref e2 =>
          obtain ⟨C, dx, gs, q1, q2, q3, q4, R3⟩ := setA_ok hx ca R2 (by assumption) (by assumption) e2 (r1.mono x2)
          exact ⟨_, C, dx, gs, rfl, q1, q2, q3, q4, h2 _ _ _ _ Ex.refl ⟨S.env.mono (x1.trans x2), R3⟩⟩
      · exact h2.elim
    · exact h2.elim
  · exact h2.elim
theorem ss_auga {n : Nat} {cs : List Nat} {x : Str} {p : Pos} (A : At Kt X W k) (hx : Kt.tab[n]? = some x) (ca : CA Kt cs x) (ho : PE X a (te Kt W ma)) (hv : PE X b (te Kt W mb)) : PS X (.AugAssign (.Attribute a x p) .Add b pos) (ts Kt W (sAugA cs n ma mb)) := by
  have h := ps_fldaug (pos := pos) (tpos := p) (f := x) ho hv in_add
  rw [A.eK] at h
  refine L2.PS.imp h fun D σ H ⟨Φ, ι, F, e, g, S, h⟩ => ⟨Φ, ι, F, e, g, S, (so.bind (Rl := DV Kt) S.env h).imp fun v H1 ⟨ι1, F1, g1, d, x1, R1, r1, h1⟩ => ?_⟩
  split at h1
  · rename_i l
    split at h1
    · rename_i cc fs e1
      split at h1
      · rename_i i hc hi
        · cases r1 with
          | @ref _ ad e2 =>
          obtain ⟨hF, C, dx, gs, e3, e4, r4⟩ := R1.ob l _ _ e1 e2
          obtain ⟨u', l1, l2⟩ := r4.look hx hi
          cases l2
          obtain ⟨c1, c2⟩ := ca cc (by simpa using hc) C e3
          refine ⟨ad, C, dx, gs, _, rfl, e4, c1, c2, l1, Φ, ι1, F1, e, g1, ⟨S.env.mono x1, R1⟩, (so.bind (Rl := DV Kt) (S.env.mono x1) h1).imp fun v2 H2 ⟨ι2, F2, g2, d2, x2, R2, r2, h2⟩ => ?_⟩
          split at h2
          · cases r2
            split at h2
            · rename_i cc2 fs2 e5
              split at h2
              · rename_i hc2
                obtain ⟨rfl, hl⟩ := of_decide_eq_true hc2
                obtain ⟨C2, dx2, gs2, q1, q2, q3, q4, R3⟩ := setA_ok hx ca R2 e5 (by rw [hc]; simpa using hl) (x2.i _ _ e2) (.int _)
                have eC : C2 = C := by
                  obtain ⟨_, C3, _, _, e6, e7, _⟩ := R2.ob l _ _ e5 (x2.i _ _ e2)
                  rw [q1] at e7; cases e7
                  rw [e3] at e6; cases e6; rfl
                subst eC
                exact ⟨_, _, rfl, rfl, dx2, gs2, q1, q4, h2 _ _ _ _ Ex.refl ⟨S.env.mono (x1.trans x2), R3⟩⟩
              · exact h2.elim
            · exact h2.elim
          · exact h2.elim
      · exact h1.elim
    · exact h1.elim
  · exact h1.elim
theorem ss_aug (i : Nat) {x : Str} {p : Pos} (A : At Kt X W k) (ha : PE X a (te Kt W ma)) (hi : X.N[i]? = some x := by rfl) (hx : Loc X.env.scope x := by first | exact Or.inl rfl | exact Or.inr rfl) (hf : X.fn x = true ∨ X.env.scope.names.lookup x = some .local := by first | exact .inl rfl | exact .inr rfl | assumption) :
    PS X (.AugAssign (.Name x p) .Add a pos) (ts Kt W (sAug i ma)) :=
  L2.PS.imp (ps_aug A.nd hi hx ha ip_add hf) fun D σ H ⟨Φ, ι, F, e, g, S, h⟩ => by
    unfold sAug at h
    split at h
    · rename_i z hz
      obtain ⟨v, e1, r⟩ := S.env.2 i _ hz
      cases r
      refine ⟨_, e1, Φ, ι, F, e, g, S, (so.bind (Rl := DV Kt) S.env h).imp fun v2 H2 ⟨ι2, F2, g2, d2, x2, R2, r2, h2⟩ => ?_⟩
      split at h2
      · cases r2
        exact ⟨_, _, rfl, rfl, h2 _ _ _ _ Ex.refl ⟨(S.env.mono x2).set i (.int _), R2⟩⟩
      · exact h2.elim
    · exact h.elim
theorem ss_sub (A : At Kt X W k) (ha : PE X a (te Kt W ma)) (hb : PE X b (te Kt W mb)) (hc : PE X c (te Kt W mc)) {p : Pos}
    (h0 : ∀ v, assign (.Subscript a b p) X.env v = (do
      let ov ← holding [v] (eval a X.env)
      let iv ← holding [v, ov] (eval b X.env)
      standAt p
      holding [v, ov, iv] (setItem ov iv v)
      release [v, ov, iv] []) := by intro _; rfl)
    (hs : swapsWithSole [.Subscript a b p] c pos.line X.env = pure false := by rfl) (hw : swappedStores [.Subscript a b p] c X.env = pure none := by rfl) (h1 : (assignEach [.Subscript a b p] X.env).map (·.2) = [assign (.Subscript a b p) X.env] := by rfl) :
    PS X (.Assign [.Subscript a b p] c pos) (ts Kt W (sSub ma mb mc)) :=
  L2.PS.imp (ps_asg hc (pg_sub ha hb set_list h0) hs hw h1) fun D σ H ⟨Φ, ι, F, e, g, S, h⟩ => ⟨Φ, ι, F, e, g, S, (so.bind (Rl := DV Kt) S.env h).imp fun v H1 ⟨ι1, F1, g1, d, x1, R1, r1, h1⟩ =>
    ⟨Φ, ι1, F1, e, g1, ⟨S.env.mono x1, R1⟩, (so.bind (Rl := DV Kt) (S.env.mono x1) h1).imp fun v2 H2 ⟨ι2, F2, g2, d2, x2, R2, r2, h2⟩ =>
      ⟨Φ, ι2, F2, e, g2, ⟨S.env.mono (x1.trans x2), R2⟩, (so.bind (Rl := DV Kt) (S.env.mono (x1.trans x2)) h2).imp fun v3 H3 ⟨ι3, F3, g3, d3, x3, R3, r3, h3⟩ => by
        split at h3
        · rename_i l j
          split at h3
          · rename_i ds e1
            split at h3
            · rename_i n hn
              cases r2 with
              | @ref _ ad e2 =>
              cases r3
              obtain ⟨hF, vs, e3, r4⟩ := R3.ob _ _ _ e1 (x3.i _ _ e2)
              refine ⟨ad, vs, _, n, rfl, rfl, e3, by rw [r4.length]; exact hn, h3 _ _ _ _ Ex.refl ⟨S.env.mono ((x1.trans x2).trans x3), R3.put (x3.i _ _ e2) hF ⟨hF, _, upd_same, DVs.set (r1.mono (x2.trans x3)) n r4⟩ (by rw [e3]; exact noT_lst)⟩⟩
            · exact h3.elim
          · exact h3.elim
        · exact h3.elim⟩⟩⟩
/-! #### lists that change -/
theorem po_frz {Φ : Hp} {ι : List Addr} {F H : Hp} {g : G} {σ : L2.St} {v : V} {d : D} (R : RelG Kt Φ ι F g H) (r : DV Kt ι F v d) {Q : VK} (h : po Kt Φ W σ (DV Kt) ι F (frzD d g) Q) : Q v H := by
  unfold frzD at h
  split at h
  · rename_i l
    split at h
    · rename_i ds e1
      obtain ⟨a, vs, e2, R', x, q⟩ := R.done e1
      cases r with
      | ref e3 =>
      rw [e2] at e3; cases e3
      exact h _ _ _ _ x R' q
    · exact h _ _ _ _ Ex.refl R r
  · exact h _ _ _ _ Ex.refl R r
theorem se_frz (ha : PE X a (te Kt W ma)) : PE X a (te Kt W (vFrz ma)) := L2.PE.imp ha fun σ H Q ⟨Φ, ι, F, e, g, S, h⟩ => ⟨Φ, ι, F, e, g, S, (po.bind (Rl := DV Kt) h).imp fun v H1 ⟨ι1, F1, g1, d, x1, R1, r1, h1⟩ => po_frz R1 r1 h1⟩
theorem tyV_l {Φ : Hp} {ι : List Addr} {F H : Hp} {g : G} {v : V} {d : D} {ds : List D} (R : RelG Kt Φ ι F g H) (r : DV Kt ι F v d) (h : lsD g d = some ds) : tyV Kt.K "list" v H := by
  obtain ⟨a, vs, rfl, e1, _⟩ := lsD_ok R r h
  exact .inl ⟨rfl, vs, .inl (.inl e1)⟩
theorem se_app {p : Pos} (A : At Kt X W k) (ho : PE X a (te Kt W ma)) (hm : PE X b (te Kt W mb)) (hbase : attributeBase a "append" X.env (eval a X.env) = eval a X.env := by rfl)
    (hfew : ((backTo pos (starEach [b] X.env)).all (fun x => !x.1) && (backToKw pos (keywordEach [] X.env)).all (fun x => x.1.isSome)
      && decide ([b].length + ([] : List Keyword).length + (if ([] : List Keyword).isEmpty then 0 else 1) < 30)) = true := by rfl)
    (hline : (p.endLine == pos.line) = true := by rfl) (hs : starEach [b] X.env = (false, eval b X.env) :: starEach [] X.env := by rfl) (hplain : (backTo pos (starEach [] X.env)).any (·.1) = false := by rfl) :
    PE X (.Call (.Attribute a "append" p) [b] [] pos) (te Kt W (vApp ma mb)) := by
  have h := pe_bm (cpos := pos) (apos := p) PySem.F.plainAttrs_list PySem.F.slot_list_append PySem.F.type_list_append mt_append ho (pa_cons hm pa_nil hs) hbase hfew hline hs hplain
  rw [A.eK] at h
  refine L2.PE.imp h fun σ H Q ⟨Φ, ι, F, e, g, S, h⟩ => ⟨Φ, ι, F, e, g, S, (po.bind (Rl := DV Kt) h).imp fun v H1 ⟨ι1, F1, g1, d, x1, R1, r1, h1⟩ => ?_⟩
  split at h1
  · exact h1.elim
  · rename_i ds0 e0
    refine ⟨tyV_l R1 r1 e0, Φ, ι1, F1, e, g1, ⟨S.env.mono x1, R1⟩, (po.bind (Rl := DV Kt) h1).imp fun v2 H2 ⟨ι2, F2, g2, d2, x2, R2, r2, h2⟩ => ?_⟩
    split at h2
    · rename_i l
      split at h2
      · rename_i ds e1
        split at h2
        · rename_i hl
          cases r1 with
          | @ref _ ad e2 =>
          obtain ⟨hF, vs, e3, r4⟩ := R2.ob _ _ _ e1 (x2.i _ _ e2)
          exact ⟨ad, vs, v2, rfl, rfl, e3, by rw [r4.length]; exact ltL_iff.mp hl, h2 _ _ _ _ Ex.refl (R2.put (x2.i _ _ e2) hF ⟨hF, _, upd_same, r4.append (.one r2)⟩ (by rw [e3]; exact noT_lst)) .non⟩
        · exact h2.elim
      · exact h2.elim
    · exact h2.elim
end
end Y

set_option Elab.async false
set_option linter.all false
set_option maxRecDepth 100000
namespace Y
open PySem PySem.Spec PyProof.Rows L2

/-! ### what a loop walks -/
inductive Src where
  | vals (xs : List D) | obj (l : Nat)
def nxS (s : Src) (i : Nat) (g : G) : Option (Option D) := match s with
  | .vals xs => some xs[i]?
  | .obj l => match g[l]? with
    | some (.lst ds) => some ds[i]?
    | _ => none
structure SrcJ (Kt : Kit) (s : Src) (J : It) (ι : List Addr) (F : Hp) : Prop where
  go : ∀ {Φ : Hp} {ι1 : List Addr} {F1 : Hp} {g : G} {H : Hp} {i : Nat} {x : D}, Ex ι F ι1 F1 → RelG Kt Φ ι1 F1 g H → nxS s i g = some (some x) →
    J.go i H ∧ ∀ v H', J.yld i H v H' → ∃ ι2 F2, Ex ι1 F1 ι2 F2 ∧ RelG Kt Φ ι2 F2 g H' ∧ DV Kt ι2 F2 v x
  stop : ∀ {Φ : Hp} {ι1 : List Addr} {F1 : Hp} {g : G} {H : Hp} {i : Nat}, Ex ι F ι1 F1 → RelG Kt Φ ι1 F1 g H → nxS s i g = some none → J.stop i H
abbrev RJ (Kt : Kit) : List Addr → Hp → It → Src → Prop := fun ι F J s => SrcJ Kt s J ι F
abbrev IM := En → G → Res Src
structure PIy (Kt : Kit) (X : Cx) (W : WX) (tg iter : Expr) (im : IM) : Prop where
  ex : ∃ wi, PI X tg iter wi ∧ ∀ (σ : L2.St) (H Φ : Hp) (ι : List Addr) (F : Hp) (e : En) (g : G) (R : It → Hp → Prop), St' Kt Φ ι F e g σ H → po Kt Φ W σ (RJ Kt) ι F (im e g) R → wi σ H R

/-! #### loops -/
def after (r : SR) (k : En → G → SR) : SR := match r with
  | .nx e g => k e g
  | .ct e g => k e g
  | .bk e g => .nx e g
  | r => r
def loopS (gm : GM) (b : SM) (s : Src) : Nat → Nat → En → G → SR
  | 0, i, e, g => match nxS s i g with
    | some none => .nx e g
    | _ => .stuck
  | n + 1, i, e, g => match nxS s i g with
    | none => .stuck
    | some none => .nx e g
    | some (some x) => match gm x g e with
      | none => .stuck
      | some e' => after (b e' g) fun e2 g2 => loopS gm b s n (i + 1) e2 g2
def loopL (gm : GM) (b : SM) : List D → En → G → SR
  | [], e, g => .nx e g
  | x :: xs, e, g => match gm x g e with
    | none => .stuck
    | some e' => after (b e' g) fun e2 g2 => loopL gm b xs e2 g2
theorem loopS_vals (gm : GM) (b : SM) (xs : List D) : ∀ (n i : Nat) (e : En) (g : G), n = xs.length - i → loopS gm b (.vals xs) n i e g = loopL gm b (xs.drop i) e g
  | 0, i, e, g, h => by
    have hx : xs[i]? = none := List.getElem?_eq_none (by omega)
    have hd : xs.drop i = [] := List.drop_eq_nil_of_le (by omega)
    rw [hd]
    unfold loopS loopL nxS
    simp only [hx]
  | n + 1, i, e, g, h => by
    have hi : i < xs.length := by omega
    have hx : xs[i]? = some xs[i] := List.getElem?_eq_getElem hi
    rw [List.drop_eq_getElem_cons hi]
    unfold loopS loopL nxS
    simp only [hx]
    split
    · rfl
    · congr 1
      funext e2 g2
      exact loopS_vals gm b xs n (i + 1) e2 g2 (by omega)
def runS (gm : GM) (b : SM) (s : Src) (e : En) (g : G) : SR := match s with
  | .vals xs => loopL gm b xs e g
  | .obj l => match g[l]? with
    | some (.lst ds) => loopS gm b (.obj l) ds.length 0 e g
    | _ => .stuck
def sFor (im : IM) (gm : GM) (b : SM) : SM := fun e g => sBind (im e g) e fun s g1 => runS gm b s e g1
def loopW (c : TM) (b : SM) : Nat → En → G → SR
  | 0, _, _ => .stuck
  | n + 1, e, g => sBind (c e g) e fun t g1 => bif t then after (b e g1) fun e2 g2 => loopW c b n e2 g2 else .nx e g1
def noX {α : Type} (r : Res α) : Res α := match r with
  | .ok a g => .ok a g
  | _ => .stuck
@[simp] theorem noX_ok {α : Type} {a : α} {g : G} : noX (.ok a g) = .ok a g := rfl
@[simp] theorem noX_stuck {α : Type} : noX (.stuck : Res α) = .stuck := rfl
def wipeE (e : En) : List Nat → En
  | [] => e
  | v :: vs => (wipeE e vs).set v none
def lcS (gm : GM) (t : TM) (m : EM) (s : Src) : Nat → Nat → En → G → Res (List D)
  | 0, i, e, g => match nxS s i g with
    | some none => .ok [] g
    | _ => .stuck
  | n + 1, i, e, g => match nxS s i g with
    | none => .stuck
    | some none => .ok [] g
    | some (some x) => match gm x g e with
      | none => .stuck
      | some e' => (noX (t e' g)).bind fun c g1 => bif c then (noX (m e' g1)).bind fun y g2 => (lcS gm t m s n (i + 1) e g2).bind fun ys g3 => .ok (y :: ys) g3 else lcS gm t m s n (i + 1) e g1
def lcL (gm : GM) (t : TM) (m : EM) : List D → En → G → Res (List D)
  | [], e, g => .ok [] g
  | x :: xs, e, g => match gm x g e with
    | none => .stuck
    | some e' => (noX (t e' g)).bind fun c g1 => bif c then (noX (m e' g1)).bind fun y g2 => (lcL gm t m xs e g2).bind fun ys g3 => .ok (y :: ys) g3 else lcL gm t m xs e g1
theorem lcS_vals (gm : GM) (t : TM) (m : EM) (xs : List D) : ∀ (n i : Nat) (e : En) (g : G), n = xs.length - i → lcS gm t m (.vals xs) n i e g = lcL gm t m (xs.drop i) e g
  | 0, i, e, g, h => by
    have hx : xs[i]? = none := List.getElem?_eq_none (by omega)
    have hd : xs.drop i = [] := List.drop_eq_nil_of_le (by omega)
    rw [hd]
    unfold lcS lcL nxS
    simp only [hx]
  | n + 1, i, e, g, h => by
    have hi : i < xs.length := by omega
    have hx : xs[i]? = some xs[i] := List.getElem?_eq_getElem hi
    rw [List.drop_eq_getElem_cons hi]
    unfold lcS lcL nxS
    simp only [hx]
    have ih := fun e2 g2 => lcS_vals gm t m xs n (i + 1) e2 g2 (by omega)
    simp only [ih]
def srcN (s : Src) (g : G) : Option Nat := match s with
  | .vals xs => some xs.length
  | .obj l => match g[l]? with
    | some (.lst ds) => some ds.length
    | _ => none
def lcR (gm : GM) (t : TM) (m : EM) (s : Src) (e : En) (g : G) : Res (List D) := match s with
  | .vals xs => match okL xs.length with
    | true => lcL gm t m xs e g
    | false => .stuck
  | .obj l => match g[l]? with
    | some (.lst ds) => (match okL ds.length with
      | true => lcS gm t m (.obj l) ds.length 0 e g
      | false => .stuck)
    | _ => .stuck
/-- a comprehension: a list that does not change; one that will -/
def vLc (own : List Nat) (im : IM) (gm : GM) (t : TM) (m : EM) : EM := fun e g => (im e g).bind fun s g1 => (lcR gm t m s (wipeE e own) g1).bind fun ys g2 => .ok (.lst ys) g2
def vLcO (own : List Nat) (im : IM) (gm : GM) (t : TM) (m : EM) : EM := fun e g => (im e g).bind fun s g1 => (lcR gm t m s (wipeE e own) g1).bind fun ys g2 => .ok (.ref g2.length) (g2 ++ [.lst ys])
def tYes : TM := fun _ g => .ok true g
abbrev WF : WX := fun _ _ _ _ => False

section
variable {Kt : Kit} {X : Cx} {W : WX} {k : Nat} {a b c tg iter : Expr} {ma mb mc : EM} {ta' : TM} {pos : Pos} {es : List Expr} {ms : AM} {vs : List Nat} {gm : GM} {st : Stmt} {sts : List Stmt} {m m' : SM} {im : IM}
theorem so_after {D : Ends} {N : L2.St → Hp → Prop} {Φ : Hp} {ι : List Addr} {F : Hp} {r : SR} {kk : En → G → SR} (h : so Kt Φ W D ι F (after r kk))
    (hN : ∀ ι' F' e' g' σ' H', Ex ι F ι' F' → St' Kt Φ ι' F' e' g' σ' H' → so Kt Φ W D ι' F' (kk e' g') → N σ' H') : so Kt Φ W { D with nx := N, ct := N, bk := D.nx } ι F r := by
  cases r with
  | nx e g => exact fun ι' F' σ' H' x S => hN ι' F' e g σ' H' x S (so.mono x h)
  | ct e g => exact fun ι' F' σ' H' x S => hN ι' F' e g σ' H' x S (so.mono x h)
  | bk e g => exact h
  | rt d g => exact h
  | exn c e g => exact h
  | stuck => exact h
theorem for_src {s : Src} {J : It} {D : Ends} {Φ : Hp} {ι : List Addr} {F : Hp} {e : En} {g : G} {σ : L2.St} {H : Hp} {n : Nat} (hJ : SrcJ Kt s J ι F) (S : St' Kt Φ ι F e g σ H) (h : so Kt Φ W D ι F (loopS gm m s n 0 e g)) :
    ∃ Wp : Nat → Nat → L2.St → Hp → Prop, (∃ m, Wp 0 m σ H) ∧ ∀ i k σ H, Wp i k σ H →
      (J.stop i H ∧ D.nx σ H) ∨ (J.go i H ∧ ∃ N : L2.St → Hp → Prop, (∀ σ' H', N σ' H' → ∃ m', m' < k ∧ Wp (i + 1) m' σ' H') ∧ ∀ x H', J.yld i H x H' → tgt Kt vs gm x σ H' fun σ2 H2 => ts Kt W m { D with nx := N, ct := N, bk := D.nx } σ2 H2) := by
  refine ⟨fun i k σ H => ∃ ι1 F1 e1 g1, Ex ι F ι1 F1 ∧ St' Kt Φ ι1 F1 e1 g1 σ H ∧ so Kt Φ W D ι1 F1 (loopS gm m s k i e1 g1), ⟨n, ι, F, e, g, Ex.refl, S, h⟩, ?_⟩
  rintro i k σ H ⟨ι1, F1, e1, g1, x1, S1, h1⟩
  cases z : nxS s i g1 with
  | none => cases k <;> (unfold loopS at h1; rw [z] at h1; exact h1.elim)
  | some o =>
    cases o with
    | none =>
      refine .inl ⟨hJ.stop x1 S1.rel z, ?_⟩
      cases k <;> (unfold loopS at h1; rw [z] at h1; exact h1 _ _ _ _ Ex.refl S1)
    | some y =>
      cases k with
      | zero => unfold loopS at h1; rw [z] at h1; exact h1.elim
      | succ k =>
        unfold loopS at h1
        rw [z] at h1
        obtain ⟨hg, hy⟩ := hJ.go x1 S1.rel z
        refine .inr ⟨hg, fun σ' H' => ∃ ι2 F2 e2 g2, Ex ι1 F1 ι2 F2 ∧ St' Kt Φ ι2 F2 e2 g2 σ' H' ∧ so Kt Φ W D ι2 F2 (loopS gm m s k (i + 1) e2 g2), fun σ' H' ⟨ι2, F2, e2, g2, x2, S2, h2⟩ => ⟨k, Nat.lt_succ_self _, ι2, F2, e2, g2, x1.trans x2, S2, h2⟩, fun v H' yl => ?_⟩
        obtain ⟨ι2, F2, x2, R2, r2⟩ := hy v H' yl
        cases zg : gm y g1 e1 with
        | none => simp only [zg] at h1; exact h1.elim
        | some e' =>
          simp only [zg] at h1
          refine ⟨Φ, ι2, F2, e1, g1, y, ⟨S1.env.mono x2, R2⟩, r2, e', zg, fun σ' _ S' => ⟨Φ, ι2, F2, e', g1, S', so_after (so.mono x2 h1) fun ι3 F3 e3 g3 σ3 H3 x3 S3 h3 => ⟨ι3, F3, e3, g3, x2.trans x3, S3, h3⟩⟩⟩
theorem ss_for (A : At Kt X W k) (hi : PIy Kt X W tg iter im) (hg : PG X tg (tgt Kt vs gm)) (hb : PSs X sts (ts Kt W m)) (hs : ∀ x, foldedSetIterable iter X.env x = pure x := by intro _; rfl) : PS X (.For tg iter sts [] pos) (ts Kt W (sFor im gm m)) := by
  obtain ⟨wi, pi, ii⟩ := hi.ex
  refine L2.PS.imp (ps_for A.pso A.calm pi hg hb hs) fun D σ H ⟨Φ, ι, F, e, g, S, h⟩ => ii σ H Φ ι F e g _ S ((so.bind (Rl := RJ Kt) S.env h).imp fun J H1 ⟨ι1, F1, g1, s, x1, R1, hJ, h1⟩ => ?_)
  have S1 : St' Kt Φ ι1 F1 e g1 σ H1 := ⟨S.env.mono x1, R1⟩
  cases s with
  | vals xs =>
    refine for_src hJ S1 (n := xs.length) ?_
    rw [loopS_vals gm m xs xs.length 0 e g1 rfl]
    exact h1
  | obj l =>
    unfold runS at h1
    simp only at h1
    split at h1
    · exact for_src hJ S1 h1
    · exact h1.elim
theorem ss_while (N : Nat) (A : At Kt X W k) (hc : PT X c (tt Kt W ta')) (hb : PSs X sts (ts Kt W m)) : PS X (.While c sts [] pos) (ts Kt W (loopW ta' m N)) := by
  refine L2.PS.imp (ps_while A.pso hc hb) fun D σ H ⟨Φ, ι, F, e, g, S, h⟩ => ⟨fun n σ H => ∃ ι1 F1 e1 g1, Ex ι F ι1 F1 ∧ St' Kt Φ ι1 F1 e1 g1 σ H ∧ so Kt Φ W D ι1 F1 (loopW ta' m n e1 g1), ⟨N, ι, F, e, g, Ex.refl, S, h⟩, ?_⟩
  rintro n σ H ⟨ι1, F1, e1, g1, x1, S1, h1⟩
  cases n with
  | zero => exact h1.elim
  | succ n =>
    unfold loopW at h1
    refine ⟨Φ, ι1, F1, e1, g1, S1, (so.bind (Rl := RB) S1.env h1).imp fun v H2 ⟨ι2, F2, g2, d, x2, R2, r2, h2⟩ => ?_⟩
    obtain rfl : v = d := r2
    have S2 : St' Kt Φ ι2 F2 e1 g2 σ H2 := ⟨S1.env.mono x2, R2⟩
    cases v with
    | false => rw [if_neg Bool.false_ne_true]; exact h2 _ _ _ _ Ex.refl S2
    | true =>
      rw [if_pos rfl]
      exact ⟨fun σ' H' => ∃ ι3 F3 e3 g3, Ex ι2 F2 ι3 F3 ∧ St' Kt Φ ι3 F3 e3 g3 σ' H' ∧ so Kt Φ W D ι3 F3 (loopW ta' m n e3 g3), fun σ' H' ⟨ι3, F3, e3, g3, x3, S3, h3⟩ => ⟨n, Nat.lt_succ_self _, ι3, F3, e3, g3, (x1.trans x2).trans x3, S3, h3⟩,
        Φ, ι2, F2, e1, g2, S2, so_after h2 fun ι3 F3 e3 g3 σ3 H3 x3 S3 h3 => ⟨ι3, F3, e3, g3, x3, S3, h3⟩⟩

/-! #### sources -/
theorem src_list {a : Addr} {xs : List D} {ι : List Addr} {F : Hp} {ws : List V} (h : SqL Kt.K F a ws) (r : DVs Kt ι F ws xs) : SrcJ Kt (.vals xs) (Itl Kt.K a) ι F where
  go := by
    intro Φ ι1 F1 g H i x y R e
    unfold nxS at e
    have e : xs[i]? = some x := Option.some.inj e
    obtain ⟨v, h1, h2⟩ := r.get e
    have hS : SqL Kt.K H a ws := sql_mono R.sub (sql_mono y.f h)
    refine ⟨⟨ws, v, hS, h1⟩, fun v' H' hy => ?_⟩
    obtain ⟨rfl, hy⟩ := hy
    have := hy ws hS
    rw [h1] at this; cases this
    exact ⟨ι1, F1, Ex.refl, R, h2.mono y⟩
  stop := by
    intro Φ ι1 F1 g H i y R e
    unfold nxS at e
    have e : xs[i]? = none := Option.some.inj e
    exact ⟨ws, sql_mono R.sub (sql_mono y.f h), by rw [r.length]; exact List.getElem?_eq_none_iff.mp e⟩
theorem src_tup {a : Addr} {xs : List D} {ι : List Addr} {F : Hp} {ws : List V} (h : SqT Kt.K F a ws) (r : DVs Kt ι F ws xs) : SrcJ Kt (.vals xs) (Itt Kt.K a) ι F where
  go := by
    intro Φ ι1 F1 g H i x y R e
    unfold nxS at e
    have e : xs[i]? = some x := Option.some.inj e
    obtain ⟨v, h1, h2⟩ := r.get e
    have hS : SqT Kt.K H a ws := sqt_mono R.sub (sqt_mono y.f h)
    refine ⟨⟨ws, v, hS, h1⟩, fun v' H' hy => ?_⟩
    obtain ⟨rfl, hy⟩ := hy
    have := hy ws hS
    rw [h1] at this; cases this
    exact ⟨ι1, F1, Ex.refl, R, h2.mono y⟩
  stop := by
    intro Φ ι1 F1 g H i y R e
    unfold nxS at e
    have e : xs[i]? = none := Option.some.inj e
    exact ⟨ws, sqt_mono R.sub (sqt_mono y.f h), by rw [r.length]; exact List.getElem?_eq_none_iff.mp e⟩
def rngL (lo : Int) (n : Nat) : List D := (List.range n).map fun (i : Nat) => D.int (lo + (i : Int))
theorem src_rng {lo : Int} {n : Nat} {ι : List Addr} {F : Hp} : SrcJ Kt (.vals (rngL lo n)) (Itr lo n) ι F where
  go := by
    intro Φ ι1 F1 g H i x y R e
    unfold nxS rngL at e
    have e : ((List.range n).map fun (i : Nat) => D.int (lo + (i : Int)))[i]? = some x := Option.some.inj e
    rw [List.getElem?_map] at e
    cases z : (List.range n)[i]? with
    | none => rw [z] at e; cases e
    | some j =>
      rw [z] at e
      cases e
      obtain ⟨hi, hj⟩ := List.getElem?_eq_some_iff.mp z
      simp at hi hj
      subst hj
      refine ⟨hi, fun v' H' hy => ?_⟩
      obtain ⟨rfl, rfl⟩ := hy
      exact ⟨ι1, F1, Ex.refl, R, .int _⟩
  stop := by
    intro Φ ι1 F1 g H i y R e
    unfold nxS rngL at e
    have e : ((List.range n).map fun (i : Nat) => D.int (lo + (i : Int)))[i]? = none := Option.some.inj e
    rw [List.getElem?_eq_none_iff, List.length_map, List.length_range] at e
    exact e
theorem src_obj {l : Nat} {a : Addr} {ι : List Addr} {F : Hp} (h : ι[l]? = some a) : SrcJ Kt (.obj l) (Itl Kt.K a) ι F where
  go := by
    intro Φ ι1 F1 g H i x y R e
    unfold nxS at e
    simp only at e
    split at e
    · rename_i ds eg
      have e : ds[i]? = some x := Option.some.inj e
      obtain ⟨_, ws, eH, r⟩ := R.ob l a _ eg (y.i _ _ h)
      obtain ⟨v, h1, h2⟩ := r.get e
      have hS : SqL Kt.K H a ws := .inl (.inl eH)
      refine ⟨⟨ws, v, hS, h1⟩, fun v' H' hy => ?_⟩
      obtain ⟨rfl, hy⟩ := hy
      have := hy ws hS
      rw [h1] at this; cases this
      exact ⟨ι1, F1, Ex.refl, R, h2⟩
    · cases e
  stop := by
    intro Φ ι1 F1 g H i y R e
    unfold nxS at e
    simp only at e
    split at e
    · rename_i ds eg
      have e : ds[i]? = none := Option.some.inj e
      obtain ⟨_, ws, eH, r⟩ := R.ob l a _ eg (y.i _ _ h)
      exact ⟨ws, .inl (.inl eH), by rw [r.length]; exact List.getElem?_eq_none_iff.mp e⟩
    · cases e
/-- a list, by its value -/
def iLst (m : EM) : IM := fun e g => (m e g).bind fun d g1 => match d with
  | .lst xs => .ok (.vals xs) g1
  | .scr xs => .ok (.vals xs) g1
  | .ref l => match g1[l]? with
    | some (.lst _) => .ok (.obj l) g1
    | _ => .stuck
  | _ => .stuck
def iTup (m : EM) : IM := fun e g => (m e g).bind fun d g1 => match d with
  | .tup xs => .ok (.vals xs) g1
  | _ => .stuck
def iRng1 (m : EM) : IM := fun e g => (m e g).bind fun d g1 => match d with
  | .int j => match rB j with
    | true => .ok (.vals (rngL 0 j.toNat)) g1
    | false => .stuck
  | _ => .stuck
def iRng2 (m m' : EM) : IM := fun e g => (m e g).bind fun d g1 => (m' e g1).bind fun d' g2 => match d, d' with
  | .int i, .int j => match rB i && rB j with
    | true => .ok (.vals (rngL i (j - i).toNat)) g2
    | false => .stuck
  | _, _ => .stuck
theorem si_lst (A : At Kt X W k) (h : PE X a (te Kt W ma)) : PIy Kt X W tg a (iLst ma) := by
  have hp := pi_list (tg := tg) h
  rw [A.eK] at hp
  refine ⟨_, hp, fun σ H Φ ι F e g R S q => ⟨Φ, ι, F, e, g, S, (po.bind (Rl := DV Kt) q).imp fun v H1 ⟨ι1, F1, g1, d, x1, R1, r1, h1⟩ => ?_⟩⟩
  cases r1 with
  | @lst ad ws ds eF r => exact ⟨ad, rfl, ⟨ws, .inl (.inl (R1.sub _ _ eF))⟩, h1 _ _ _ _ Ex.refl R1 (src_list (.inl (.inl eF)) r)⟩
  | @scr ad ws ds eF r => exact ⟨ad, rfl, ⟨ws, sql_mono R1.sub eF⟩, h1 _ _ _ _ Ex.refl R1 (src_list eF r)⟩
  | @ref l ad e2 =>
    simp only at h1
    split at h1
    · rename_i ds eg
      obtain ⟨_, ws, eH, r⟩ := R1.ob l ad _ eg e2
      exact ⟨ad, rfl, ⟨ws, .inl (.inl eH)⟩, h1 _ _ _ _ Ex.refl R1 (src_obj e2)⟩
    · exact h1.elim
  | _ => exact h1.elim
theorem si_tup (A : At Kt X W k) (h : PE X a (te Kt W ma)) : PIy Kt X W tg a (iTup ma) := by
  have hp := pi_tup (tg := tg) h
  rw [A.eK] at hp
  refine ⟨_, hp, fun σ H Φ ι F e g R S q => ⟨Φ, ι, F, e, g, S, (po.bind (Rl := DV Kt) q).imp fun v H1 ⟨ι1, F1, g1, d, x1, R1, r1, h1⟩ => ?_⟩⟩
  cases r1 with
  | @tup ad ws ds eF r => exact ⟨ad, rfl, ⟨ws, sqt_mono R1.sub (tS eF)⟩, h1 _ _ _ _ Ex.refl R1 (src_tup (tS eF) r)⟩
  | _ => exact h1.elim
theorem po_one {Φ : Hp} {σ : L2.St} {H : Hp} {e : En} {g : G} {ι : List Addr} {F : Hp} (S : St' Kt Φ ι F e g σ H) {Q : List V → Hp → Prop} (h : po Kt Φ W σ (DV Kt) ι F (ma e g) fun v H' => Q [v] H') : ta Kt W (aCons ma aNil) σ H Q := by
  refine ⟨Φ, ι, F, e, g, S, ?_⟩
  unfold aCons aNil
  cases z : ma e g with
  | ok d g1 =>
    rw [z] at h
    intro ι' F' H' vs x R r
    cases r with
    | cons r1 r2 => cases r2; exact h _ _ _ _ x R r1
  | exn c g1 => rw [z] at h; exact h
  | stuck => rw [z] at h; exact h.elim
theorem si_rng1 {p : Pos} (A : At Kt X W k) (h : PE X a (te Kt W ma)) (hm : Kt.mg "range" = none) (hg : Gl X "range" := by rfl) (hs : starEach [a] X.env = [(false, eval a X.env)] := by rfl) : PIy Kt X W tg (.Call (.Name "range" p) [a] [] pos) (iRng1 ma) :=
  ⟨_, pi_range1 hg (A.em ▸ hm) (pa_cons h pa_nil hs) hs, fun σ H Φ ι F e g R S q => ⟨Φ, ι, F, e, g, S, (po.bind (Rl := DV Kt) q).imp fun v H1 ⟨ι1, F1, g1, d, x1, R1, r1, h1⟩ => by
    split at h1
    · rename_i j
      cases r1
      split at h1
      · rename_i hb
        have hb := rB_ok hb
        exact ⟨j, rfl, hb.1, hb.2, h1 _ _ _ _ Ex.refl R1 src_rng⟩
      · exact h1.elim
    · exact h1.elim⟩⟩
theorem si_rng2 {p : Pos} (A : At Kt X W k) (h : PE X a (te Kt W ma)) (h' : PE X b (te Kt W mb)) (hm : Kt.mg "range" = none) (hg : Gl X "range" := by rfl) (hs : starEach [a, b] X.env = [(false, eval a X.env), (false, eval b X.env)] := by rfl) (hs2 : starEach [b] X.env = [(false, eval b X.env)] := by rfl) :
    PIy Kt X W tg (.Call (.Name "range" p) [a, b] [] pos) (iRng2 ma mb) :=
  ⟨_, pi_range2 hg (A.em ▸ hm) (pa_cons h (pa_cons h' pa_nil hs2) (by rw [hs, hs2])) hs hs2, fun σ H Φ ι F e g R S q => ⟨Φ, ι, F, e, g, S, (po.bind (Rl := DV Kt) q).imp fun v H1 ⟨ι1, F1, g1, d, x1, R1, r1, h1⟩ =>
    ⟨Φ, ι1, F1, e, g1, ⟨S.env.mono x1, R1⟩, (po.bind (Rl := DV Kt) h1).imp fun v2 H2 ⟨ι2, F2, g2, d2, x2, R2, r2, h2⟩ => by
      split at h2
      · rename_i i j
        cases r1; cases r2
        split at h2
        · rename_i hb
          rw [Bool.and_eq_true] at hb
          have hb1 := rB_ok hb.1
          have hb2 := rB_ok hb.2
          exact ⟨_, _, rfl, ⟨hb1.1, hb1.2, hb2.1, hb2.2⟩, h2 _ _ _ _ Ex.refl R2 src_rng⟩
        · exact h2.elim
      · exact h2.elim⟩⟩⟩

/-! #### comprehensions -/
theorem At.blk (A : At Kt X W k) (s : Shared) (H : Hp) (sc : Scope) (ce : Env) (fp : List Addr) : At Kt (X.blk s H sc ce fp) WF k :=
  ⟨A.eP, A.ew, A.eK, A.em, A.eb, A.calm, takes0, A.room, PassesOwn.never, A.nd⟩
structure PTy (Kt : Kit) (X : Cx) (ifs : List Expr) (t : TM) : Prop where
  ex : PTs X ifs (tt Kt WF t)
theorem sts_nil : PTs X [] (tt Kt WF tYes) := ⟨fun pins s σ H Q I ⟨Φ, ι, F, e, g, S, h⟩ => pts_nil.run pins s σ H Q I (h _ _ _ _ Ex.refl S.rel rfl)⟩
theorem sts_one (h : PT X c (tt Kt WF ta')) : PTs X [c] (tt Kt WF ta') := pts_one h
theorem wipe_env {ι : List Addr} {F : Hp} {σ : L2.St} {e : En} (h : EnvR Kt ι F σ e) : ∀ vs : List Nat, EnvR Kt ι F (wipe σ vs) (wipeE e vs)
  | [] => h
  | v :: vs => (wipe_env h vs).unset v
theorem wipe_get {σ : L2.St} : ∀ {vs : List Nat} {i : Nat}, i ∉ vs → (wipe σ vs)[i]? = σ[i]?
  | [], _, _ => rfl
  | v :: vs, i, h => by
    unfold wipe
    rw [List.getElem?_set_ne (fun z => h (by simp [z]))]
    exact wipe_get fun z => h (List.mem_cons_of_mem _ z)
theorem wipe_own {σ : L2.St} : ∀ {vs : List Nat} {i : Nat}, i ∈ vs → i < σ.length → (wipe σ vs)[i]? = some none
  | v :: vs, i, h, hl => by
    unfold wipe
    by_cases z : i = v
    · subst z
      rw [List.getElem?_set_self (by rw [wipe_length]; exact hl)]
    · rw [List.getElem?_set_ne (Ne.symm z)]
      exact wipe_own (by simpa [z] using h) hl
theorem wipe_out' {vs : List Nat} {σ σ' : L2.St} (h : Out vs (wipe σ vs) σ') : wipe σ' vs = wipe σ vs := by
  apply List.ext_getElem?
  intro i
  have hlen : σ'.length = σ.length := h.1.trans (wipe_length σ vs)
  by_cases hi : i ∈ vs
  · by_cases hl : i < σ.length
    · rw [wipe_own hi hl, wipe_own hi (by omega)]
    · rw [List.getElem?_eq_none (by rw [wipe_length]; omega), List.getElem?_eq_none (by rw [wipe_length]; omega)]
  · rw [wipe_get hi, h.2 i hi]
theorem noX_po {α ν : Type} {Φ : Hp} {σ : L2.St} {Rl : List Addr → Hp → ν → α → Prop} {ι : List Addr} {F : Hp} {r : Res α} {Q : ν → Hp → Prop} (h : po Kt Φ W σ Rl ι F (noX r) Q) : po Kt Φ WF σ Rl ι F r Q := by
  cases r with
  | ok a g => exact h
  | exn c g => exact h.elim
  | stuck => exact h.elim
theorem noX_bind {α β ν μ : Type} {Φ : Hp} {σ : L2.St} {Rl : List Addr → Hp → ν → α → Prop} {Rm : List Addr → Hp → μ → β → Prop} {ι : List Addr} {F : Hp} {r : Res α} {kk : α → G → Res β} {Q : μ → Hp → Prop} (h : po Kt Φ W σ Rm ι F ((noX r).bind kk) Q) :
    po Kt Φ WF σ Rl ι F r fun v H1 => ∃ ι1 F1 g1 a, Ex ι F ι1 F1 ∧ RelG Kt Φ ι1 F1 g1 H1 ∧ Rl ι1 F1 v a ∧ po Kt Φ W σ Rm ι1 F1 (kk a g1) Q := noX_po (po.bind h)
theorem tbP {Φ : Hp} {P p : Addr} {o : HO} (h : upd Φ p o P = none) : P ≠ p := fun z => by
  rw [z, upd_same] at h
  cases h
theorem tbN {Φ : Hp} {P p : Addr} {o : HO} (h : upd Φ p o P = none) : Φ P = none := by
  rw [upd_ne (tbP h)] at h
  exact h
theorem ntU {Φ : Hp} {p : Addr} {o : HO} (h : ∀ a vs, Φ a ≠ some (.tup vs)) (ho : ∀ vs, o ≠ .tup vs) (a : Addr) (vs : List V) : upd Φ p o a ≠ some (.tup vs) := fun e => by
  by_cases z : a = p
  · subst z
    rw [upd_same] at e
    exact ho vs (Option.some.inj e)
  · rw [upd_ne z] at e
    exact h a vs e
theorem ntB {Φ : Hp} {p : Addr} {o : HO} (h : ∀ a vs, upd Φ p o a ≠ some (.tup vs)) (hp : Φ p = none) (a : Addr) (vs : List V) : Φ a ≠ some (.tup vs) := fun e => h a vs (by rw [upd_ne (ne_of_none e hp)]; exact e)
theorem ntV {Φ : Hp} {p : Addr} {o o' : HO} (h : ∀ a vs, upd Φ p o a ≠ some (.tup vs)) (ho : ∀ vs, o' ≠ .tup vs) (a : Addr) (vs : List V) : upd Φ p o' a ≠ some (.tup vs) := fun e => by
  by_cases z : a = p
  · subst z
    rw [upd_same] at e
    exact ho vs (Option.some.inj e)
  · rw [upd_ne z] at e
    exact h a vs (by rw [upd_ne z]; exact e)
theorem lent {Φ : Hp} {ι : List Addr} {F H : Hp} {g : G} {p : Addr} {o : HO} (R : RelG Kt Φ ι F g H) (hp : H p = none) (ho : ∀ vs, o ≠ .tup vs := by intro vs h; cases h) : RelG Kt (upd Φ p o) ι F g (upd H p o) := by
  have nF : F p = none := by
    cases e : F p with
    | none => rfl
    | some u => rw [R.sub p u e] at hp; cases hp
  have np : ∀ (l : Nat) (a : Addr), ι[l]? = some a → a ≠ p := fun l a e z => R.on l a e (z ▸ hp)
  refine ⟨R.len, R.inj, fun a u h => ?_, fun i a e => ?_, fun a u h => ?_, fun l a ob e1 e2 => ?_, fun t ht => ⟨(R.tb t ht).1.ext fun b u e => by rw [upd_ne (ne_of_none e hp)]; exact e, (R.tb t ht).2.1, by rw [upd_ne (tabS_ne (R.tb t ht).1 hp)]; exact (R.tb t ht).2.2.1, (R.tb t ht).2.2.2⟩, ntU R.nt ho⟩
  · rw [upd_ne (ne_of_none (R.sub a u h) hp)]; exact R.sub a u h
  · rw [upd_ne (np i a e)]; exact R.on i a e
  · by_cases z : a = p
    · subst z
      rw [upd_same] at h ⊢
      exact ⟨h, nF, fun i q => np i a q rfl⟩
    · rw [upd_ne z] at h ⊢
      exact R.fr a u h
  · exact (R.ob l a ob e1 e2).mono Ex.refl (upd_ne (np l a e2)) fun n => n
theorem relent {Φ : Hp} {ι : List Addr} {F H : Hp} {g : G} {p : Addr} {o o' : HO} (R : RelG Kt (upd Φ p o) ι F g H) (hn : NoT (some o)) (ho : ∀ vs, o' ≠ .tup vs := by intro vs h; cases h) : RelG Kt (upd Φ p o') ι F g (upd H p o') ∧ H p = some o := by
  obtain ⟨h1, h2, h3⟩ := R.fr p o upd_same
  have np : ∀ (l : Nat) (a : Addr), ι[l]? = some a → a ≠ p := fun l a e z => h3 l (z ▸ e)
  refine ⟨⟨R.len, R.inj, fun a u h => ?_, fun i a e => ?_, fun a u h => ?_, fun l a ob e1 e2 => ?_, fun t ht => ⟨tabS_upd (R.tb t ht).1 (by rw [h1]; exact hn), (R.tb t ht).2.1, by rw [upd_ne (tbP (R.tb t ht).2.2.1)]; exact tbN (R.tb t ht).2.2.1, (R.tb t ht).2.2.2⟩, ntV R.nt ho⟩, h1⟩
  · rw [upd_ne (ne_of_none h h2)]; exact R.sub a u h
  · rw [upd_ne (np i a e)]; exact R.on i a e
  · by_cases z : a = p
    · subst z
      rw [upd_same] at h ⊢
      exact ⟨h, h2, h3⟩
    · rw [upd_ne z] at h ⊢
      exact R.fr a u (by rw [upd_ne z]; exact h)
  · exact (R.ob l a ob e1 e2).mono Ex.refl (upd_ne (np l a e2)) fun n => n
/-- the new list is handed on: as a value that does not change, as an object -/
theorem back {Φ : Hp} {ι : List Addr} {F H : Hp} {g : G} {p : Addr} {o : HO} (R : RelG Kt (upd Φ p o) ι F g H) (hp : Φ p = none) : RelG Kt Φ ι F g H := by
  refine ⟨R.len, R.inj, R.sub, R.on, fun a u h => R.fr a u ?_, R.ob, fun t ht => ⟨(R.tb t ht).1, (R.tb t ht).2.1, tbN (R.tb t ht).2.2.1, (R.tb t ht).2.2.2⟩, ntB R.nt hp⟩
  rw [upd_ne (ne_of_none h hp)]; exact h
theorem backF {Φ : Hp} {ι : List Addr} {F H : Hp} {g : G} {p : Addr} {o : HO} (R : RelG Kt (upd Φ p o) ι F g H) (hp : Φ p = none) : RelG Kt Φ ι (upd F p o) g H ∧ Ex ι F ι (upd F p o) := by
  obtain ⟨h1, h2, h3⟩ := R.fr p o upd_same
  have x : Ex ι F ι (upd F p o) := ⟨fun _ _ h => h, fun a u h => by rw [upd_ne (ne_of_none h h2)]; exact h⟩
  have np : ∀ (l : Nat) (a : Addr), ι[l]? = some a → a ≠ p := fun l a e z => h3 l (z ▸ e)
  refine ⟨⟨R.len, R.inj, fun a u h => ?_, R.on, fun a u h => ?_, fun l a ob e1 e2 => ?_, fun t ht => ⟨(R.tb t ht).1, by rw [upd_ne (tbP (R.tb t ht).2.2.1)]; exact (R.tb t ht).2.1, tbN (R.tb t ht).2.2.1, (R.tb t ht).2.2.2⟩, ntB R.nt hp⟩, x⟩
  · by_cases z : a = p
    · subst z; rw [upd_same] at h; cases h; exact h1
    · rw [upd_ne z] at h; exact R.sub a u h
  · have z := ne_of_none h hp
    obtain ⟨q1, q2, q3⟩ := R.fr a u (by rw [upd_ne z]; exact h)
    exact ⟨q1, by rw [upd_ne z]; exact q2, q3⟩
  · exact (R.ob l a ob e1 e2).mono x rfl fun n => by rw [upd_ne (np l a e2)]; exact n
theorem backO {Φ : Hp} {ι : List Addr} {F H : Hp} {g : G} {p : Addr} {ws : List V} {ds : List D} (R : RelG Kt (upd Φ p (.lst ws)) ι F g H) (hp : Φ p = none) (r : DVs Kt ι F ws ds) : RelG Kt Φ (ι ++ [p]) F (g ++ [.lst ds]) H ∧ Ex ι F (ι ++ [p]) F := by
  obtain ⟨h1, h2, h3⟩ := R.fr p _ upd_same
  have R0 := back R hp
  have x : Ex ι F (ι ++ [p]) F := ⟨fun l a h => by rw [List.getElem?_append_left (List.getElem?_eq_some_iff.mp h).1]; exact h, fun _ _ h => h⟩
  have sp : ∀ (l : Nat) (a : Addr), (ι ++ [p])[l]? = some a → ι[l]? = some a ∨ (l = ι.length ∧ a = p) := fun l a e => by
    by_cases z : l < ι.length
    · rw [List.getElem?_append_left z] at e; exact .inl e
    · rw [List.getElem?_append_right (by omega)] at e
      have : l - ι.length = 0 := by
        have := (List.getElem?_eq_some_iff.mp e).1
        simp at this; omega
      rw [this] at e
      simp at e
      exact .inr ⟨by omega, e.symm⟩
  refine ⟨⟨by simp [R.len], fun i j a q1 q2 => ?_, R.sub, fun i a e => ?_, fun a u h => ?_, fun l a ob e1 e2 => ?_, fun t ht => ⟨(R.tb t ht).1, (R.tb t ht).2.1, tbN (R.tb t ht).2.2.1, fun i e => (by rcases sp i _ e with e | ⟨_, e⟩; exact (R.tb t ht).2.2.2 i e; exact tbP (R.tb t ht).2.2.1 e)⟩, ntB R.nt hp⟩, x⟩
  · rcases sp i a q1 with q1 | ⟨q1, e1⟩ <;> rcases sp j a q2 with q2 | ⟨q2, e2⟩
    · exact R.inj i j a q1 q2
    · exact absurd (e2 ▸ q1) (h3 i)
    · exact absurd (e1 ▸ q2) (h3 j)
    · omega
  · rcases sp i a e with e | ⟨_, e⟩
    · exact R.on i a e
    · rw [e, h1]; simp
  · obtain ⟨q1, q2, q3⟩ := R0.fr a u h
    refine ⟨q1, q2, fun i q => ?_⟩
    rcases sp i a q with q | ⟨_, q⟩
    · exact q3 i q
    · rw [q] at h; rw [hp] at h; cases h
  · rcases sp l a e2 with e2 | ⟨e2, e3⟩
    · have hl : l < g.length := by rw [← R.len]; exact (List.getElem?_eq_some_iff.mp e2).1
      rw [List.getElem?_append_left hl] at e1
      exact (R.ob l a ob e1 e2).mono x rfl fun n => n
    · rw [e2, R.len, List.getElem?_append_right (Nat.le_refl _), Nat.sub_self] at e1
      simp at e1
      subst e1; subst e3
      exact ⟨h2, ws, h1, r.mono x⟩
/-- the loop of a comprehension -/
theorem lc_src {own : List Nat} {s : Src} {J : It} {Φ : Hp} {ι : List Addr} {F : Hp} {e : En} {g : G} {σ : L2.St} {H1 : Hp} {n : Nat} {t : TM} {Q : Hp → Prop} {p : Addr} (hJ : SrcJ Kt s J ι F) (S : St' Kt Φ ι F e g σ H1) (hp : H1 p = none) (hn : n ≤ LINE)
    (h : ∃ ys g', lcS gm t mb s n 0 (wipeE e own) g = .ok ys g' ∧ ∀ ι' F' H' ws, Ex ι F ι' F' → RelG Kt (upd Φ p (.lst ws)) ι' F' g' H' → DVs Kt ι' F' ws ys → Q H') :
    ∃ Wp : Nat → Nat → Hp → Prop, (∃ m, Wp 0 m (upd H1 p (.lst []))) ∧ ∀ i k H, Wp i k H → (J.stop i H ∧ Q H) ∨ (J.go i H ∧ ∃ N : Hp → Prop, (∀ H', N H' → ∃ m', m' < k ∧ Wp (i + 1) m' H') ∧ ∀ x H', J.yld i H x H' → tgt Kt own gm x (wipe σ own) H' fun σ2 H2 => wipe σ2 own = wipe σ own ∧ tt Kt WF t σ2 H2 fun b H3 =>
      if b = true then te Kt WF mb σ2 H3 fun y H4 => ∃ acc, H4 p = some (.lst acc) ∧ acc.length < sizeLine ∧ N (upd H4 p (.lst (acc ++ [y]))) else N H3) := by
  obtain ⟨ys0, gE, e0, fin⟩ := h
  refine ⟨fun i k H => ∃ ι1 F1 g1 ws ds ys, Ex ι F ι1 F1 ∧ RelG Kt (upd Φ p (.lst ws)) ι1 F1 g1 H ∧ DVs Kt ι1 F1 ws ds ∧ ws.length + k ≤ n ∧ lcS gm t mb s k i (wipeE e own) g1 = .ok ys gE ∧ ys0 = ds ++ ys, ⟨n, ι, F, g, [], [], ys0, Ex.refl, lent S.rel hp, .nil, by simp, e0, rfl⟩, ?_⟩
  rintro i k H ⟨ι1, F1, g1, ws, ds, ys, x1, R1, rw_, hk, e1, ey⟩
  cases z : nxS s i g1 with
  | none => cases k <;> (unfold lcS at e1; rw [z] at e1; cases e1)
  | some o =>
    cases o with
    | none =>
      refine .inl ⟨hJ.stop x1 R1 z, ?_⟩
      have e2 : (Res.ok [] g1 : Res (List D)) = .ok ys gE := by cases k <;> (unfold lcS at e1; rw [z] at e1; exact e1)
      cases e2
      rw [ey, List.append_nil] at fin
      exact fin _ _ _ _ x1 R1 rw_
    | some y =>
      cases k with
      | zero => unfold lcS at e1; rw [z] at e1; cases e1
      | succ k =>
        unfold lcS at e1
        simp only [z] at e1
        obtain ⟨hg, hy⟩ := hJ.go x1 R1 z
        refine .inr ⟨hg, fun H' => ∃ ι2 F2 g2 ws2 ds2 ys2, Ex ι F ι2 F2 ∧ RelG Kt (upd Φ p (.lst ws2)) ι2 F2 g2 H' ∧ DVs Kt ι2 F2 ws2 ds2 ∧ ws2.length + k ≤ n ∧ lcS gm t mb s k (i + 1) (wipeE e own) g2 = .ok ys2 gE ∧ ys0 = ds2 ++ ys2, fun H' q => ⟨k, Nat.lt_succ_self _, q⟩, fun v H' yl => ?_⟩
        obtain ⟨ι2, F2, x2, R2, r2⟩ := hy v H' yl
        cases zg : gm y g1 (wipeE e own) with
        | none => simp only [zg] at e1; cases e1
        | some e' =>
          simp only [zg] at e1
          have S2 : St' Kt (upd Φ p (.lst ws)) ι2 F2 (wipeE e own) g1 (wipe σ own) H' := ⟨wipe_env (S.env.mono (x1.trans x2)) own, R2⟩
          refine ⟨_, ι2, F2, wipeE e own, g1, y, S2, r2, e', zg, fun σ' o S' => ⟨wipe_out' o, _, ι2, F2, e', g1, S', ?_⟩⟩
          cases zt : t e' g1 with
          | exn c g' => rw [zt] at e1; cases e1
          | stuck => rw [zt] at e1; cases e1
          | ok cb g3 =>
            rw [zt] at e1
            intro ι3 F3 H3 v3 x3 R3 ev
            obtain rfl : v3 = cb := ev
            have e1 : (bif v3 then (noX (mb e' g3)).bind fun y g2 => (lcS gm t mb s k (i + 1) (wipeE e own) g2).bind fun ys g3 => .ok (y :: ys) g3 else lcS gm t mb s k (i + 1) (wipeE e own) g3) = .ok ys gE := e1
            cases v3 with
            | false =>
              rw [if_neg Bool.false_ne_true]
              exact ⟨ι3, F3, g3, ws, ds, ys, (x1.trans x2).trans x3, R3, rw_.mono (x2.trans x3), by omega, e1, ey⟩
            | true =>
              rw [if_pos rfl]
              refine ⟨_, ι3, F3, e', g3, ⟨S'.env.mono x3, R3⟩, ?_⟩
              have e1 : ((noX (mb e' g3)).bind fun y g2 => (lcS gm t mb s k (i + 1) (wipeE e own) g2).bind fun ys g3 => .ok (y :: ys) g3) = .ok ys gE := e1
              cases zm : mb e' g3 with
              | exn c g' => rw [zm] at e1; cases e1
              | stuck => rw [zm] at e1; cases e1
              | ok dy g4 =>
                rw [zm] at e1
                intro ι4 F4 H4 v4 x4 R4 r4
                cases zl : lcS gm t mb s k (i + 1) (wipeE e own) g4 with
                | exn c g' => rw [noX_ok, Res.bind, zl] at e1; cases e1
                | stuck => rw [noX_ok, Res.bind, zl] at e1; cases e1
                | ok ys' g5 =>
                  rw [noX_ok, Res.bind, zl] at e1
                  cases e1
                  obtain ⟨R5, eH⟩ := relent (o' := .lst (ws ++ [v4])) R4 noT_lst
                  refine ⟨ws, eH, by rw [← line_eq]; omega, ι4, F4, g4, ws ++ [v4], ds ++ [dy], ys', ((x1.trans x2).trans x3).trans x4, R5, (rw_.mono ((x2.trans x3).trans x4)).append (.one r4), by simp; omega, zl, by rw [ey]; simp⟩
theorem lcR_S {t : TM} {s : Src} {e : En} {g : G} {ys : List D} {g' : G} (h : lcR gm t mb s e g = .ok ys g') : ∃ n, n ≤ LINE ∧ lcS gm t mb s n 0 e g = .ok ys g' := by
  unfold lcR at h
  split at h
  · rename_i xs
    split at h
    · exact ⟨xs.length, by rw [line_eq]; exact okL_iff.mp (by assumption), by rw [lcS_vals gm t mb xs xs.length 0 e g rfl]; exact h⟩
    · cases h
  · split at h
    · split at h
      · exact ⟨_, by rw [line_eq]; exact okL_iff.mp (by assumption), h⟩
      · cases h
    · cases h
theorem lcR_po {t : TM} {s : Src} {e : En} {g : G} {Φ : Hp} {σ : L2.St} {ι : List Addr} {F : Hp} {kk : List D → G → Res D} {Q : VK} (hx : ∀ c g', lcR gm t mb s e g ≠ .exn c g') (h : po Kt Φ W σ (DV Kt) ι F ((lcR gm t mb s e g).bind kk) Q) : ∃ ys g', lcR gm t mb s e g = .ok ys g' ∧ po Kt Φ W σ (DV Kt) ι F (kk ys g') Q := by
  cases z : lcR gm t mb s e g with
  | ok ys g' => rw [z] at h; exact ⟨ys, g', rfl, h⟩
  | exn c g' => exact absurd z (hx c g')
  | stuck => rw [z] at h; exact h.elim
theorem noX_ne {α : Type} {r : Res α} {c : Nat} {g : G} : noX r ≠ .exn c g := by cases r <;> simp [noX]
theorem bind_ne {α β : Type} {r : Res α} {kk : α → G → Res β} {c : Nat} {g : G} (h : ∀ c g, r ≠ .exn c g) (hk : ∀ a g', kk a g' ≠ .exn c g) : r.bind kk ≠ .exn c g := by
  cases r with
  | ok a g' => exact hk a g'
  | exn c' g' => exact absurd rfl (h c' g')
  | stuck => simp
theorem lcS_ne {t : TM} {s : Src} : ∀ {n i : Nat} {e : En} {g : G} {c : Nat} {g' : G}, lcS gm t mb s n i e g ≠ .exn c g'
  | 0, i, e, g, c, g' => by
    unfold lcS
    split <;> simp
  | n + 1, i, e, g, c, g' => by
    unfold lcS
    split
    · simp
    · simp
    · split
      · simp
      · refine bind_ne (fun _ _ => noX_ne) fun b g1 => ?_
        cases b with
        | true => exact bind_ne (fun _ _ => noX_ne) fun y g2 => bind_ne (fun _ _ => lcS_ne) fun ys g3 => by simp
        | false => exact lcS_ne
theorem lcR_ne {t : TM} {s : Src} {e : En} {g : G} (c : Nat) (g' : G) : lcR gm t mb s e g ≠ .exn c g' := by
  unfold lcR
  split
  · rename_i xs
    split
    · have := lcS_vals gm t mb xs xs.length 0 e g rfl
      rw [List.drop_zero] at this
      rw [← this]
      exact lcS_ne
    · simp
  · split
    · split
      · exact lcS_ne
      · simp
    · simp
theorem lc_te {own : List Nat} {wi : TI} {J : It} {s : Src} {Φ : Hp} {ι : List Addr} {F : Hp} {e : En} {g : G} {σ : L2.St} {H1 : Hp} {t : TM} {Q : VK} (hJ : SrcJ Kt s J ι F) (S : St' Kt Φ ι F e g σ H1)
    (h : po Kt Φ W σ (DV Kt) ι F ((lcR gm t mb s (wipeE e own) g).bind fun ys g2 => .ok (.lst ys) g2) Q ∨ po Kt Φ W σ (DV Kt) ι F ((lcR gm t mb s (wipeE e own) g).bind fun ys g2 => .ok (.ref g2.length) (g2 ++ [.lst ys])) Q) :
    ∀ p, H1 p = none → ∃ Wp : Nat → Nat → Hp → Prop, (∃ m, Wp 0 m (upd H1 p (.lst []))) ∧ ∀ i k H, Wp i k H → (J.stop i H ∧ Q (.ref p) H) ∨ (J.go i H ∧ ∃ N : Hp → Prop, (∀ H', N H' → ∃ m', m' < k ∧ Wp (i + 1) m' H') ∧ ∀ x H', J.yld i H x H' → tgt Kt own gm x (wipe σ own) H' fun σ2 H2 => wipe σ2 own = wipe σ own ∧ tt Kt WF t σ2 H2 fun b H3 =>
      if b = true then te Kt WF mb σ2 H3 fun y H4 => ∃ acc, H4 p = some (.lst acc) ∧ acc.length < sizeLine ∧ N (upd H4 p (.lst (acc ++ [y]))) else N H3) := by
  intro p hp
  have hΦ : Φ p = none := by
    cases z : Φ p with
    | none => rfl
    | some o => rw [(S.rel.fr p o z).1] at hp; cases hp
  rcases h with h | h
  · obtain ⟨ys, g', e1, h1⟩ := lcR_po lcR_ne h
    obtain ⟨n, hn, e2⟩ := lcR_S e1
    refine lc_src hJ S hp hn ⟨ys, g', e2, fun ι' F' H' ws x R r => ?_⟩
    obtain ⟨R', x'⟩ := backF R hΦ
    exact h1 _ _ _ _ (x.trans x') R' (.lst upd_same (r.mono x'))
  · obtain ⟨ys, g', e1, h1⟩ := lcR_po lcR_ne h
    obtain ⟨n, hn, e2⟩ := lcR_S e1
    refine lc_src hJ S hp hn ⟨ys, g', e2, fun ι' F' H' ws x R r => ?_⟩
    obtain ⟨R', x'⟩ := backO R hΦ r
    exact h1 _ _ _ _ (x.trans x') R' (.ref (get_snoc R.len))
section
variable {elt : Expr} {ifs : List Expr} {scope : Scope} {own : List (Str × Nat)} {t : TM}
theorem se_lc (A : At Kt X W k) (hi : PIy Kt X W tg iter im) (ok : BlkOk X.N X.env.scope scope own)
    (hg : ∀ (s : Shared) (H : Hp) (C : Addr) (cl : List (Str × Addr)) (fp : List Addr), PG (X.blk s H scope (compEnvC scope cl C X.env) fp) tg (tgt Kt (own.map (·.2)) gm))
    (ht : ∀ (s : Shared) (H : Hp) (C : Addr) (cl : List (Str × Addr)) (fp : List Addr), At Kt (X.blk s H scope (compEnvC scope cl C X.env) fp) WF k → PTs (X.blk s H scope (compEnvC scope cl C X.env) fp) ifs (tt Kt WF t))
    (he : ∀ (s : Shared) (H : Hp) (C : Addr) (cl : List (Str × Addr)) (fp : List Addr), At Kt (X.blk s H scope (compEnvC scope cl C X.env) fp) WF k → PE (X.blk s H scope (compEnvC scope cl C X.env) fp) elt (te Kt WF mb)) (hs : ∀ x, foldedSetIterable iter X.env x = pure x := by intro _; rfl) :
    PE X (.ListComp elt [⟨tg, iter, ifs, 0⟩] scope pos) (te Kt W (vLc (own.map (·.2)) im gm t mb)) := by
  obtain ⟨wi, pi, ii⟩ := hi.ex
  exact L2.PE.imp (pe_lc A.calm A.nd pi ok hg (fun s H C cl fp => ht s H C cl fp (A.blk ..)) (fun s H C cl fp => he s H C cl fp (A.blk ..)) hs) fun σ H Q ⟨Φ, ι, F, e, g, S, h⟩ => ii σ H Φ ι F e g _ S ((po.bind (Rl := RJ Kt) h).imp fun J H1 ⟨ι1, F1, g1, s, x1, R1, hJ, h1⟩ => lc_te (wi := wi) hJ ⟨S.env.mono x1, R1⟩ (.inl h1))
theorem se_lcO (A : At Kt X W k) (hi : PIy Kt X W tg iter im) (ok : BlkOk X.N X.env.scope scope own)
    (hg : ∀ (s : Shared) (H : Hp) (C : Addr) (cl : List (Str × Addr)) (fp : List Addr), PG (X.blk s H scope (compEnvC scope cl C X.env) fp) tg (tgt Kt (own.map (·.2)) gm))
    (ht : ∀ (s : Shared) (H : Hp) (C : Addr) (cl : List (Str × Addr)) (fp : List Addr), At Kt (X.blk s H scope (compEnvC scope cl C X.env) fp) WF k → PTs (X.blk s H scope (compEnvC scope cl C X.env) fp) ifs (tt Kt WF t))
    (he : ∀ (s : Shared) (H : Hp) (C : Addr) (cl : List (Str × Addr)) (fp : List Addr), At Kt (X.blk s H scope (compEnvC scope cl C X.env) fp) WF k → PE (X.blk s H scope (compEnvC scope cl C X.env) fp) elt (te Kt WF mb)) (hs : ∀ x, foldedSetIterable iter X.env x = pure x := by intro _; rfl) :
    PE X (.ListComp elt [⟨tg, iter, ifs, 0⟩] scope pos) (te Kt W (vLcO (own.map (·.2)) im gm t mb)) := by
  obtain ⟨wi, pi, ii⟩ := hi.ex
  exact L2.PE.imp (pe_lc A.calm A.nd pi ok hg (fun s H C cl fp => ht s H C cl fp (A.blk ..)) (fun s H C cl fp => he s H C cl fp (A.blk ..)) hs) fun σ H Q ⟨Φ, ι, F, e, g, S, h⟩ => ii σ H Φ ι F e g _ S ((po.bind (Rl := RJ Kt) h).imp fun J H1 ⟨ι1, F1, g1, s, x1, R1, hJ, h1⟩ => lc_te (wi := wi) hJ ⟨S.env.mono x1, R1⟩ (.inr h1))
/-- y = [..], on one line, y a local -/
theorem ss_lc (i : Nat) {y : Str} {py spos : Pos} (A : At Kt X W k) (hi : PIy Kt X W tg iter im) (ok : BlkOk X.N X.env.scope scope own)
    (hg : ∀ (s : Shared) (H : Hp) (C : Addr) (cl : List (Str × Addr)) (fp : List Addr), PG (X.blk s H scope (compEnvC scope cl C X.env) fp) tg (tgt Kt (own.map (·.2)) gm))
    (ht : ∀ (s : Shared) (H : Hp) (C : Addr) (cl : List (Str × Addr)) (fp : List Addr), At Kt (X.blk s H scope (compEnvC scope cl C X.env) fp) WF k → PTs (X.blk s H scope (compEnvC scope cl C X.env) fp) ifs (tt Kt WF t))
    (he : ∀ (s : Shared) (H : Hp) (C : Addr) (cl : List (Str × Addr)) (fp : List Addr), At Kt (X.blk s H scope (compEnvC scope cl C X.env) fp) WF k → PE (X.blk s H scope (compEnvC scope cl C X.env) fp) elt (te Kt WF mb))
    (hy : X.N[i]? = some y := by rfl) (hyl : X.env.scope.names.lookup y = some .local := by rfl)
    (hsw : swapsWith (.ListComp elt [⟨tg, iter, ifs, 0⟩] scope pos) (some (.Name y py)) spos.line X.env = pure true := by exact sw_true rfl rfl rfl (by decide +kernel))
    (hs : ∀ x, foldedSetIterable iter X.env x = pure x := by intro _; rfl) :
    PS X (.Assign [.Name y py] (.ListComp elt [⟨tg, iter, ifs, 0⟩] scope pos) spos) (ts Kt W (sAsg i (vLc (own.map (·.2)) im gm t mb))) := by
  obtain ⟨wi, pi, ii⟩ := hi.ex
  refine L2.PS.imp (ps_setLc A.calm A.nd hy hyl hsw pi ok hg (fun s H C cl fp => ht s H C cl fp (A.blk ..)) (fun s H C cl fp => he s H C cl fp (A.blk ..)) hs) fun D σ H ⟨Φ, ι, F, e, g, S, h⟩ => ?_
  have h2 := so.bind (Rl := DV Kt) S.env h
  refine ii σ H Φ ι F e g _ S ((po.bind (Rl := RJ Kt) h2).imp fun J H1 ⟨ι1, F1, g1, s, x1, R1, hJ, h1⟩ => ?_)
  exact lc_te (wi := wi) hJ ⟨S.env.mono x1, R1⟩ (.inl (h1.imp fun v H2 ⟨ι2, F2, g2, d, x2, R2, r2, h3⟩ => h3 _ _ _ _ Ex.refl ⟨(S.env.mono x2).set i r2, R2⟩))
/-- .. an object -/
theorem ss_lcO (i : Nat) {y : Str} {py spos : Pos} (A : At Kt X W k) (hi : PIy Kt X W tg iter im) (ok : BlkOk X.N X.env.scope scope own)
    (hg : ∀ (s : Shared) (H : Hp) (C : Addr) (cl : List (Str × Addr)) (fp : List Addr), PG (X.blk s H scope (compEnvC scope cl C X.env) fp) tg (tgt Kt (own.map (·.2)) gm))
    (ht : ∀ (s : Shared) (H : Hp) (C : Addr) (cl : List (Str × Addr)) (fp : List Addr), At Kt (X.blk s H scope (compEnvC scope cl C X.env) fp) WF k → PTs (X.blk s H scope (compEnvC scope cl C X.env) fp) ifs (tt Kt WF t))
    (he : ∀ (s : Shared) (H : Hp) (C : Addr) (cl : List (Str × Addr)) (fp : List Addr), At Kt (X.blk s H scope (compEnvC scope cl C X.env) fp) WF k → PE (X.blk s H scope (compEnvC scope cl C X.env) fp) elt (te Kt WF mb))
    (hy : X.N[i]? = some y := by rfl) (hyl : X.env.scope.names.lookup y = some .local := by rfl)
    (hsw : swapsWith (.ListComp elt [⟨tg, iter, ifs, 0⟩] scope pos) (some (.Name y py)) spos.line X.env = pure true := by exact sw_true rfl rfl rfl (by decide +kernel))
    (hs : ∀ x, foldedSetIterable iter X.env x = pure x := by intro _; rfl) :
    PS X (.Assign [.Name y py] (.ListComp elt [⟨tg, iter, ifs, 0⟩] scope pos) spos) (ts Kt W (sAsg i (vLcO (own.map (·.2)) im gm t mb))) := by
  obtain ⟨wi, pi, ii⟩ := hi.ex
  refine L2.PS.imp (ps_setLc A.calm A.nd hy hyl hsw pi ok hg (fun s H C cl fp => ht s H C cl fp (A.blk ..)) (fun s H C cl fp => he s H C cl fp (A.blk ..)) hs) fun D σ H ⟨Φ, ι, F, e, g, S, h⟩ => ?_
  have h2 := so.bind (Rl := DV Kt) S.env h
  refine ii σ H Φ ι F e g _ S ((po.bind (Rl := RJ Kt) h2).imp fun J H1 ⟨ι1, F1, g1, s, x1, R1, hJ, h1⟩ => ?_)
  exact lc_te (wi := wi) hJ ⟨S.env.mono x1, R1⟩ (.inr (h1.imp fun v H2 ⟨ι2, F2, g2, d, x2, R2, r2, h3⟩ => h3 _ _ _ _ Ex.refl ⟨(S.env.mono x2).set i r2, R2⟩))
end
end
end Y

set_option Elab.async false
set_option linter.all false
set_option maxRecDepth 100000
namespace Y
open PySem PySem.Spec PyProof.Rows L2

/-! ### the built-ins by their names -/
theorem bt_len : bootBuiltins "len" = some (.builtin "len") := by decide +kernel
theorem bt_abs : bootBuiltins "abs" = some (.builtin "abs") := by decide +kernel
theorem bt_max : bootBuiltins "max" = some (.builtin "max") := by decide +kernel
theorem bt_min : bootBuiltins "min" = some (.builtin "min") := by decide +kernel
theorem bt_int : bootBuiltins "int" = some (.type "int") := by decide +kernel
theorem bt_bool : bootBuiltins "bool" = some (.type "bool") := by decide +kernel
theorem bt_str : bootBuiltins "str" = some (.type "str") := by decide +kernel
theorem bt_list : bootBuiltins "list" = some (.type "list") := by decide +kernel
theorem bt_tuple : bootBuiltins "tuple" = some (.type "tuple") := by decide +kernel
section
variable {Kt : Kit} {X : Cx} {W : WX} {k : Nat} {a : Expr} {es : List Expr} {ms : AM} {p pos : Pos}
theorem se_len (A : At Kt X W k) (hm : Kt.mg "len" = none) (ha : PA X (a :: es) (ta Kt W ms)) (hg : Gl X "len" := by rfl) (he : starEach (a :: es) X.env = (false, eval a X.env) :: starEach es X.env := by rfl) (hpl : (backTo pos (starEach es X.env)).any (·.1) = false := by rfl) :
    PE X (.Call (.Name "len" p) (a :: es) [] pos) (te Kt W (vCB lenD ms)) := se_cb A (A.eK ▸ call_len) cd_len hm bt_len ha hg (by decide) (by decide) he hpl
theorem se_abs (A : At Kt X W k) (hm : Kt.mg "abs" = none) (ha : PA X (a :: es) (ta Kt W ms)) (hg : Gl X "abs" := by rfl) (he : starEach (a :: es) X.env = (false, eval a X.env) :: starEach es X.env := by rfl) (hpl : (backTo pos (starEach es X.env)).any (·.1) = false := by rfl) :
    PE X (.Call (.Name "abs" p) (a :: es) [] pos) (te Kt W (vCB absD ms)) := se_cb A call_abs cd_abs hm bt_abs ha hg (by decide) (by decide) he hpl
theorem se_max (A : At Kt X W k) (hm : Kt.mg "max" = none) (ha : PA X (a :: es) (ta Kt W ms)) (hg : Gl X "max" := by rfl) (he : starEach (a :: es) X.env = (false, eval a X.env) :: starEach es X.env := by rfl) (hpl : (backTo pos (starEach es X.env)).any (·.1) = false := by rfl) :
    PE X (.Call (.Name "max" p) (a :: es) [] pos) (te Kt W (vCB maxD ms)) := se_cb A (call_max2 A.calm) cd_max hm bt_max ha hg (by decide) (by decide) he hpl
theorem se_min (A : At Kt X W k) (hm : Kt.mg "min" = none) (ha : PA X (a :: es) (ta Kt W ms)) (hg : Gl X "min" := by rfl) (he : starEach (a :: es) X.env = (false, eval a X.env) :: starEach es X.env := by rfl) (hpl : (backTo pos (starEach es X.env)).any (·.1) = false := by rfl) :
    PE X (.Call (.Name "min" p) (a :: es) [] pos) (te Kt W (vCB minD ms)) := se_cb A (call_min2 A.calm) cd_min hm bt_min ha hg (by decide) (by decide) he hpl
theorem se_int1 (A : At Kt X W k) (hm : Kt.mg "int" = none) (ha : PA X (a :: es) (ta Kt W ms)) (hg : Gl X "int" := by rfl) (he : starEach (a :: es) X.env = (false, eval a X.env) :: starEach es X.env := by rfl) (hpl : (backTo pos (starEach es X.env)).any (·.1) = false := by rfl) :
    PE X (.Call (.Name "int" p) (a :: es) [] pos) (te Kt W (vCB intD ms)) := se_cty A call_int1 cd_int hm bt_int ha hg (by decide) (by decide) he hpl
theorem se_list (A : At Kt X W k) (hm : Kt.mg "list" = none) (ha : PA X (a :: es) (ta Kt W ms)) (hg : Gl X "list" := by rfl) (he : starEach (a :: es) X.env = (false, eval a X.env) :: starEach es X.env := by rfl) (hpl : (backTo pos (starEach es X.env)).any (·.1) = false := by rfl) :
    PE X (.Call (.Name "list" p) (a :: es) [] pos) (te Kt W (vCB listD ms)) := se_cty A (A.eK ▸ call_list_of) cd_list hm bt_list ha hg (by decide) (by decide) he hpl
theorem se_tuple (A : At Kt X W k) (hm : Kt.mg "tuple" = none) (ha : PA X (a :: es) (ta Kt W ms)) (hg : Gl X "tuple" := by rfl) (he : starEach (a :: es) X.env = (false, eval a X.env) :: starEach es X.env := by rfl) (hpl : (backTo pos (starEach es X.env)).any (·.1) = false := by rfl) :
    PE X (.Call (.Name "tuple" p) (a :: es) [] pos) (te Kt W (vCB tupleD ms)) := se_cty A (A.eK ▸ call_tuple_of) cd_tuple hm bt_tuple ha hg (by decide) (by decide) he hpl
end

/-! ### a def -/
def startE (n : Nat) (ds : List D) : En := ds.map some ++ List.replicate (n - ds.length) none
def endM (r : SR) : Res D := match r with
  | .rt d g => .ok d g
  | .nx _ g => .ok .non g
  | .exn c _ g => .exn c g
  | _ => .stuck
/-- a def with so many parameters and names -/
def fnM (n N : Nat) (m : SM) : MF := fun ds g => if ds.length = n then endM (m (startE N ds) g) else .stuck
abbrev cxM (Kt : Kit) (N : List Str) (qual : Str) (scope : Scope) (f : Addr) (cdv : Value) (A : Around) (outer : List Env) (s : Shared) (H : Hp) (E : XK) : Cx := cxOf (L2.CX Kt.P Kt.w) Kt.P Kt.w Kt.K Kt.mg Kt.base N qual scope f cdv A outer s H E
abbrev wM (E : XK) : WX := fun cls d _ H => E cls d H
theorem dvs_map {Kt : Kit} {ι : List Addr} {F : Hp} {vs : List V} {ds : List D} (r : DVs Kt ι F vs ds) (i : Nat) (d : D) (h : (ds.map some)[i]? = some (some d)) : ∃ v, (vs.map some)[i]? = some (some v) ∧ DV Kt ι F v d := by
  rw [List.getElem?_map] at h
  cases z : ds[i]? with
  | none => rw [z] at h; cases h
  | some e =>
    rw [z] at h
    cases h
    obtain ⟨v, h1, h2⟩ := r.get z
    exact ⟨v, by rw [List.getElem?_map, h1]; rfl, h2⟩
theorem env_start {Kt : Kit} {ι : List Addr} {F : Hp} {N : List Str} {vs : List V} {ds : List D} (r : DVs Kt ι F vs ds) : EnvR Kt ι F (L2.start N vs) (startE N.length ds) := by
  refine ⟨by simp [L2.start, startE, r.length], fun i d h => ?_⟩
  unfold L2.start
  unfold startE at h
  by_cases hi : i < ds.length
  · rw [List.getElem?_append_left (by simpa using hi)] at h
    rw [List.getElem?_append_left (by simpa [r.length] using hi)]
    exact dvs_map r i d h
  · rw [List.getElem?_append_right (by simpa using hi), List.getElem?_replicate] at h
    split at h <;> cases h
theorem fn_ok {Kt : Kit} {k : Nat} {x qual : Str} {params : Arguments} {body : List Stmt} {scope : Scope} {f : Addr} {fd : FuncData} {N ps : List Str} {m : SM} (F : FunD Kt.K x qual params body scope [] [] f fd) (S : FnScope N ps scope)
    (hb : ∀ (cdv : Value) (A : Around) (outer : List Env) (s : Shared) (H : Hp) (E : XK), At Kt (cxM Kt N qual scope f cdv A outer s H E) (wM E) k → PSs (cxM Kt N qual scope f cdv A outer s H E) body (ts Kt (wM E) m)) :
    FnOk Kt.P Kt.w Kt.K Kt.mg Kt.base (L2.CX Kt.P Kt.w) (k + 1) f fd ps (spM Kt ps.length (fnM ps.length N.length m)) := by
  refine F.ok S (fun vs H Q E h => h.1) (fun cdv A outer s H vs Q E hr h => ?_)
  have At0 : At Kt (cxM Kt N qual scope f cdv A outer s H E) (wM E) k := ⟨rfl, rfl, rfl, rfl, rfl, rfl, takes_of rfl rfl rfl rfl, hr, passes_of rfl, S.nd⟩
  refine ⟨_, hb cdv A outer s H E At0, ?_⟩
  obtain ⟨hn, Φ, ι, Fz, g, ds, R, r, h⟩ := h
  refine ⟨Φ, ι, Fz, startE N.length ds, g, ⟨env_start r, R⟩, ?_⟩
  unfold fnM at h
  rw [if_pos (r.length.symm.trans hn)] at h
  cases z : m (startE N.length ds) g with
  | nx e' g' => rw [z] at h; exact fun ι' F' σ' H' x S' => h _ _ _ _ x S'.rel .non
  | bk e' g' => rw [z] at h; exact h.elim
  | ct e' g' => rw [z] at h; exact h.elim
  | rt d g' => rw [z] at h; exact h
  | exn c e' g' =>
    rw [z] at h
    obtain ⟨C, hC, h⟩ := h
    exact ⟨C, hC, fun ι' F' σ' H' x S' => h _ _ _ x S'.rel⟩
  | stuck => rw [z] at h; exact h.elim

theorem fn_at {Kt : Kit} {k : Nat} {x qual : Str} {params : Arguments} {body : List Stmt} {scope : Scope} {f : Addr} {fd : FuncData} {N ps : List Str} {m : SM} (F : FunD Kt.K x qual params body scope [] [] f fd) (S : FnScope N ps scope)
    (B : ∀ (kV doc pm : Value) (an : Option Addr) (cdv ct : Value) (us : List Value), us.length = ps.length → bindArgs (PySem.W.fnOf x qual params body scope .none kV doc pm an cdv ct) ⟨us, []⟩ = pure (ps.zip us))
    (hb : ∀ (cdv : Value) (A : Around) (outer : List Env) (s : Shared) (H : Hp) (E : XK), At Kt (cxM Kt N qual scope f cdv A outer s H E) (wM E) k → PSs (cxM Kt N qual scope f cdv A outer s H E) body (ts Kt (wM E) m)) :
    FnAt Kt (k + 1) f ps.length (fnM ps.length N.length m) := ⟨fd, ps, rfl, fn_ok F S hb, F.bindsN B⟩
/-- .. whose code object is told -/
theorem fn_okC {Kt : Kit} {k : Nat} {x qual : Str} {params : Arguments} {body : List Stmt} {scope : Scope} {f : Addr} {fd : FuncData} {N ps : List Str} {m : SM} (F : FunD Kt.K x qual params body scope [] [] f fd) (S : FnScope N ps scope)
    (hb : ∀ (A : Around) (outer : List Env) (s : Shared) (H : Hp) (E : XK), At Kt (cxM Kt N qual scope f fd.code A outer s H E) (wM E) k → PSs (cxM Kt N qual scope f fd.code A outer s H E) body (ts Kt (wM E) m)) :
    FnOk Kt.P Kt.w Kt.K Kt.mg Kt.base (L2.CX Kt.P Kt.w) (k + 1) f fd ps (spM Kt ps.length (fnM ps.length N.length m)) := by
  obtain ⟨oc, od, dV, kV, doc, pm, an, cdv, ct, osl, rfl, lk, hcd, _, _⟩ := F.ex
  refine fn_of lk hcd S (fun vs H Q E h => h.1) (fun A outer s H vs Q E hr h => ?_)
  have At0 : At Kt (cxM Kt N qual scope f cdv A outer s H E) (wM E) k := ⟨rfl, rfl, rfl, rfl, rfl, rfl, takes_of rfl rfl rfl rfl, hr, passes_of rfl, S.nd⟩
  refine ⟨_, hb A outer s H E At0, ?_⟩
  obtain ⟨hn, Φ, ι, Fz, g, ds, R, r, h⟩ := h
  refine ⟨Φ, ι, Fz, startE N.length ds, g, ⟨env_start r, R⟩, ?_⟩
  unfold fnM at h
  rw [if_pos (r.length.symm.trans hn)] at h
  cases z : m (startE N.length ds) g with
  | nx e' g' => rw [z] at h; exact fun ι' F' σ' H' x S' => h _ _ _ _ x S'.rel .non
  | bk e' g' => rw [z] at h; exact h.elim
  | ct e' g' => rw [z] at h; exact h.elim
  | rt d g' => rw [z] at h; exact h
  | exn c e' g' =>
    rw [z] at h
    obtain ⟨C, hC, h⟩ := h
    exact ⟨C, hC, fun ι' F' σ' H' x S' => h _ _ _ x S'.rel⟩
  | stuck => rw [z] at h; exact h.elim
theorem fn_atC {Kt : Kit} {k : Nat} {x qual : Str} {params : Arguments} {body : List Stmt} {scope : Scope} {f : Addr} {fd : FuncData} {N ps : List Str} {m : SM} (F : FunD Kt.K x qual params body scope [] [] f fd) (S : FnScope N ps scope)
    (B : ∀ (kV doc pm : Value) (an : Option Addr) (cdv ct : Value) (us : List Value), us.length = ps.length → bindArgs (PySem.W.fnOf x qual params body scope .none kV doc pm an cdv ct) ⟨us, []⟩ = pure (ps.zip us))
    (hb : ∀ (A : Around) (outer : List Env) (s : Shared) (H : Hp) (E : XK), At Kt (cxM Kt N qual scope f fd.code A outer s H E) (wM E) k → PSs (cxM Kt N qual scope f fd.code A outer s H E) body (ts Kt (wM E) m)) :
    FnAt Kt (k + 1) f ps.length (fnM ps.length N.length m) := ⟨fd, ps, rfl, fn_okC F S hb, F.bindsN B⟩
theorem ca_nil {Kt : Kit} {x : Str} : CA Kt [] x := fun c h => by cases h
theorem ca_cons {Kt : Kit} {x : Str} {c : Nat} {C : Addr} {cs : List Nat} (e : Kt.cls[c]? = some C) (h1 : Cls Kt.K C) (h2 : NoAttr Kt.K C x) (r : CA Kt cs x) : CA Kt (c :: cs) x := fun d hd D eD => by
  rcases List.mem_cons.mp hd with rfl | hd
  · rw [e] at eD; cases eD; exact ⟨h1, h2⟩
  · exact r d hd D eD

/-! ### the law -/
def spLaw (K : PySem.W.Frag) : Sp := fun vs H Q _ => ∃ (a : Addr) (ns : List Int), vs = [.ref a] ∧ SqL K H a (ns.map V.int) ∧ ns.length ≤ 63 ∧ ∀ H', Q (.bl true) H'
theorem dvs_ints {Kt : Kit} {ι : List Addr} {F : Hp} : ∀ ns : List Int, DVs Kt ι F (ns.map V.int) (ns.map D.int)
  | [] => .nil
  | n :: ns => .cons (.int n) (dvs_ints ns)
def Wins (mf : MF) : Prop := ∀ ns : List Int, ns.length ≤ 63 → ∃ g', mf [.scr (ns.map D.int)] [] = .ok (.bl true) g'
/-- .. with empty tables of code objects -/
def spLawT (T : List (Addr × Addr × Str)) (K : PySem.W.Frag) : Sp := fun vs H Q E => (∀ t ∈ T, H t.2.1 = some (.tbl #[])) ∧ spLaw K vs H Q E
theorem law_spT {Kt : Kit} {mf : MF} (hO : ∀ t ∈ Kt.tbs, Kt.K.lookup t.2.1 = none) (h : Wins mf) (vs : List V) (H : Hp) (Q : VK) (E : XK) (q : spLawT Kt.tbs Kt.K vs H Q E) : spM Kt 1 mf vs H Q E := by
  obtain ⟨hT, a, ns, rfl, hS, hn, hq⟩ := q
  obtain ⟨g', e⟩ := h ns hn
  have hne : ∀ t ∈ Kt.tbs, t.2.1 ≠ a := fun t ht z => by
    have e1 := hT t ht
    rw [z] at e1
    rcases hS with (q | ⟨o, q⟩) | ⟨_, _, _, q, _⟩
    · rw [e1] at q
      cases q
    · rw [e1] at q
      cases q
    · have e2 := hO t ht
      rw [z, q] at e2
      cases e2
  have hF : SqL Kt.K (fun b => if b = a then H b else none) a (ns.map V.int) := by
    rcases hS with (z | ⟨o, z⟩) | z
    · exact .inl (.inl ((if_pos rfl).trans z))
    · exact .inl (.inr ⟨o, (if_pos rfl).trans z⟩)
    · exact .inr z
  refine ⟨rfl, fun _ => none, [], fun b => if b = a then H b else none, [], [.scr (ns.map D.int)], ⟨rfl, fun i j a h => by simp at h, fun b o h => ?_, fun i a h => by simp at h, (fun b o h => by cases h), fun l a o h => by simp at h, fun t ht => ⟨.nil (hT t ht), if_neg (hne t ht), rfl, fun i h => by simp at h⟩, fun _ _ h => by cases h⟩, .cons (.scr hF (dvs_ints ns)) .nil, ?_⟩
  · split at h
    · exact h
    · cases h
  · rw [e]
    intro ι' F' H' v x R r
    cases r
    exact hq H'
theorem law_sp {Kt : Kit} {mf : MF} (e : Kt.tbs = []) (h : Wins mf) (vs : List V) (H : Hp) (Q : VK) (E : XK) (q : spLaw Kt.K vs H Q E) : spM Kt 1 mf vs H Q E :=
  law_spT (fun t ht => by rw [e] at ht; cases ht) h vs H Q E ⟨(fun t ht => by rw [e] at ht; cases ht), q⟩
theorem law_end {l : PySem.W.OpenLaw} {k : Nat} {q : Program} {loose : List Str} {XP : (Str → Option Value) → Heap → Prop} {YP : World → Heap → Prop} {d : DefRec} {x : Str}
    (hn : l.most = some 63) (hdf : d.params.defaults = []) (hr : Room k callerA) (hname : d.name = ("law" : Str))
    (F : ∀ (w : World) (mg : Str → Option Value) (h : Heap), YP w h → h.Ns mainGlobals mg →
      ∃ (K : PySem.W.Frag) (f : Addr) (fd : FuncData) (mf : MF), K.In h ∧ mg "law" = some (.ref f) ∧ (∀ (s : Shared) (u : Value), BindsTo s fd ⟨[u], []⟩ [(x, u)]) ∧ Wins mf ∧
        ∀ base : Heap, K.In base → base.Ns mainGlobals mg → FnOk l.prog w K mg base (L2.CX l.prog w) k f fd [x] (spLaw K)) :
    PySem.W.WalkO q loose XP YP l.row.toRowW d [] (fun f vs => PySem.call f vs) := by
  refine Att.attach_call hn hdf ?_
  intro w s0 s1 mg mb fa o pm cd doc a vs ns G Y ho hd hcd hmg hobj hints hlen hg
  obtain ⟨K, f, fd, mf, KX, hm, hb, hw, hF⟩ := F w mg _ Y G.T.g
  rw [hname] at hmg
  rw [hm] at hmg
  cases hmg
  exact law_call (CX := L2.CX l.prog w) KX G.T.g G.T.b G.T.builtins G.T.nolimit hg hobj hints (Nat.le_trans hlen (by decide)) hr hF hb
    (fun H hO hS => ⟨a, ns, rfl, hS, hlen, fun _ => rfl⟩)
    (fun H e s' ⟨_, _, _, _, _, _, _, _, _, _, _, _, z⟩ => z)
/-- .. with tables: tf, the defs that hold a lambda -/
theorem law_endT {l : PySem.W.OpenLaw} {k : Nat} {q : Program} {loose : List Str} {XP : (Str → Option Value) → Heap → Prop} {YP : World → Heap → Prop} {d : DefRec} {x : Str}
    (hn : l.most = some 63) (hdf : d.params.defaults = []) (hr : Room k callerA) (hname : d.name = ("law" : Str))
    (F : ∀ (w : World) (mg : Str → Option Value) (h : Heap), YP w h → h.Ns mainGlobals mg →
      ∃ (K : PySem.W.Frag) (f : Addr) (fd : FuncData) (mf : MF) (T : List (Addr × Addr × Str)), K.In h ∧ mg "law" = some (.ref f) ∧ (∀ t ∈ T, h.get? t.2.1 = some { cls := .none, data := .fields #[] }) ∧ (∀ t ∈ T, K.lookup t.2.1 = none) ∧ (∀ t ∈ T, PySem.W.CodeHd h t.1 t.2.1) ∧
        (∀ (s : Shared) (u : Value), BindsTo s fd ⟨[u], []⟩ [(x, u)]) ∧ Wins mf ∧
        ∀ base : Heap, K.In base → base.Ns mainGlobals mg → (∀ t ∈ T, LamX.TabB base mg t.1 t.2.1) → FnOk l.prog w K mg base (L2.CX l.prog w) k f fd [x] (spLawT T K)) :
    PySem.W.WalkO q loose XP YP l.row.toRowW d [] (fun f vs => PySem.call f vs) := by
  refine LamX.walk_ofTsE (CX := fun w => L2.CX l.prog w) (x := x) hn (by decide) hdf hr (fun w mg fa h Y G hmg => ?_) (fun w H s e s' ⟨_, _, _, _, _, _, _, _, _, _, _, _, z⟩ => z)
  obtain ⟨K, f, fd, mf, T, KX, hm, hE, hO, hC, hb, hw, hF⟩ := F w mg h Y G
  rw [hname] at hmg
  rw [hm] at hmg
  cases hmg
  refine ⟨K, KX, fd, T.map (fun t => (t.1, t.2.1)), spLawT T K, fun p hp => ?_, fun p hp => ?_, fun p hp => ?_, hb, fun H a ns hl hbits hH hS => ⟨fun t ht => hH _ (List.mem_map.mpr ⟨t, ht, rfl⟩), a, ns, rfl, hS, hl, fun _ => rfl⟩, fun base KB GB TB => hF base KB GB fun t ht => TB _ (List.mem_map.mpr ⟨t, ht, rfl⟩)⟩
  · obtain ⟨t, ht, rfl⟩ := List.mem_map.mp hp
    exact hE t ht
  · obtain ⟨t, ht, rfl⟩ := List.mem_map.mp hp
    exact hO t ht
  · obtain ⟨t, ht, rfl⟩ := List.mem_map.mp hp
    exact hC t ht
end Y

set_option Elab.async false
set_option linter.all false
set_option maxRecDepth 100000
namespace Y
open PySem PySem.Spec PyProof.Rows L2

/-! ### exceptions of own classes -/
structure ExK (Kt : Kit) (x : Str) (c : Nat) : Prop where
  ex : ∃ C, Kt.cls[c]? = some C ∧ Kt.mg x = some (.ref C) ∧ PySem.W.excIn Kt.K C He.veBase "ValueError.__new__" = true ∧ PySem.W.keepIn Kt.K (.ref C) = true ∧ PySem.W.subIn Kt.K (.ref C) (.type "BaseException") = some true ∧ PySem.W.typeIn Kt.K (.ref C) = some (.type "type")
/-- a clause for y, at exceptions of the class numbered c; they are of the class z -/
structure CatK (Kt : Kit) (y z : Str) (c : Nat) : Prop where
  ex : ∃ Cy Cz C, Kt.mg y = some (.ref Cy) ∧ Kt.mg z = some (.ref Cz) ∧ Kt.cls[c]? = some C ∧ PySem.W.exmOne Kt.K (.ref C) (.ref Cy) = some true ∧ ExcC Kt.K C ∧ PySem.W.kitOne Kt.K (.ref C) (.ref Cz) = some true
/-- the exception class x; its instances are told to be of the class z -/
def excB (K : PySem.W.Frag) (x z : Str) : Bool :=
  He.eqO (PySem.W.findIn K (.ref (He.ga K x)) "__getattribute__") (some (some (.builtin "BaseException.__getattribute__"))) && (He.eqO (PySem.W.findIn K (.ref (He.ga K x)) "__getattr__") (some none) &&
  (decide (PySem.W.subIn K (.ref (He.ga K x)) (.type "BaseException") = some true) && (PySem.W.hasDictIn K (He.ga K x) && (He.eqO (PySem.W.findIn K (.ref (He.ga K x)) "__class__") (some (some (.builtin "object.__class__"))) &&
  (He.eqO (PySem.W.specialIn K (.builtin "object.__class__") "__get__") (some (some (.builtin "getset_descriptor.__get__"))) && (decide (PySem.W.takesIn K (.builtin "object.__class__") = some true) &&
  (decide (PySem.W.mroIn K (He.ga K x) (.type "object") = some true) && decide (PySem.W.kitOne K (.ref (He.ga K x)) (.ref (He.ga K z)) = some true))))))))
theorem excB_ok {K : PySem.W.Frag} {x z : Str} (h : excB K x z = true) : ExcC K (He.ga K x) ∧ PySem.W.kitOne K (.ref (He.ga K x)) (.ref (He.ga K z)) = some true := by
  unfold excB at h
  obtain ⟨a1, h⟩ := He.ba h
  obtain ⟨a2, h⟩ := He.ba h
  obtain ⟨a3, h⟩ := He.ba h
  obtain ⟨a4, h⟩ := He.ba h
  obtain ⟨a5, h⟩ := He.ba h
  obtain ⟨a6, h⟩ := He.ba h
  obtain ⟨a7, h⟩ := He.ba h
  obtain ⟨a8, a9⟩ := He.ba h
  exact ⟨⟨He.eqO_ok a1, He.eqO_ok a2, of_decide_eq_true a3, a4, He.eqO_ok a5, He.eqO_ok a6, of_decide_eq_true a7, of_decide_eq_true a8⟩, of_decide_eq_true a9⟩

def sRaise (c : Nat) : SM := fun e g => .exn c e g
/-- try: m, except: the exception of the class c is told as [True] -/
def sCat (c : Nat) (m : SM) : SM := fun e g => match m e g with
  | .exn c' _ g' => if c' = c then .rt (.lst [.bl true]) g' else .stuck
  | r => r
section
variable {Kt : Kit} {X : Cx} {W : WX} {k : Nat} {a b : Expr} {ma mb : EM} {pos : Pos} {es : List Expr} {ms : AM} {m : SM}
theorem pmk_own0 {x : Str} {C : Addr} {p : Pos} (q : PySem.W.excIn X.K C He.veBase "ValueError.__new__" = true) (gC : X.mg x = some (.ref C)) (kC : PySem.W.keepIn X.K (.ref C) = true) (r : Raises X (.ref C)) (hg : Gl X x)
    (hdb : (x == ("__debug__" : Str)) = false := by decide) : PMk X (.Call (.Name x p) [] [] pos) (fun _ H Q => Q (.ref C) none H) := by
  intro pins s σ H Q I h
  refine wpAny_Call_Name_kw (ld_glob I hg gC ?_ hdb)
  refine PySem.W.callWith_K0 I.kIn kC ?_
  obtain ⟨bm, N, nm, qn, bs, hdct, sn, sub, ab, col, dd, k0, k1, k2, k3, k5, mN, hC, hN, hni, T⟩ := exc_obj I.kIn q
  exact wpAny_call_exc_subT PySem.F.excBase_ValueError T hC hN hni (fun h' e hm => mk_of I hm r h (I.hok.gone hm.new)) (Nat.zero_le _)
theorem ss_raise {x : Str} {c : Nat} {p pos' : Pos} (A : At Kt X W k) (T : ExK Kt x c) (hg : Gl X x := by rfl) (hdb : (x == ("__debug__" : Str)) = false := by decide) : PS X (.Raise (some (.Call (.Name x p) [] [] pos)) none pos') (ts Kt W (sRaise c)) := by
  obtain ⟨C, hC, hm, h1, h2, h3, h4⟩ := T.ex
  refine L2.PS.imp (L2.ps_raise A.calm A.tk (pmk_own0 (A.eK ▸ h1) (A.em ▸ hm) (A.eK ▸ h2) (raises_own (A.eK ▸ h3) (A.eK ▸ h4)) hg hdb)) fun D σ H ⟨Φ, ι, F, e, g, S, h⟩ => ?_
  obtain ⟨C', hC', h⟩ := h
  rw [hC] at hC'; cases hC'
  exact h _ _ _ _ Ex.refl S
theorem At.tr {W' : WX} {pn : List (Addr × Obj)} {xe : Value → Shared → Prop} (A : At Kt X W k) (tk : Takes (X.tr pn xe) W') (p : PassesOwn (model X.prog X.w) X.A X.env xe) : At Kt (X.tr pn xe) W' k := ⟨A.eP, A.ew, A.eK, A.em, A.eb, A.calm, tk, A.room, p, A.nd⟩
theorem ss_cat (i : Nat) {c : Nat} {y z n : Str} {body : List Stmt} {np p1 p2 p3 p4 p5 p6 p7 : Pos} (A : At Kt X W k) (T : CatK Kt y z c) (hfi : Kt.mg "isinstance" = none)
    (hb : ∀ (W : WX) (pn : List (Addr × Obj)) (xe : Value → Shared → Prop), At Kt (X.tr pn xe) W k → PSs (X.tr pn xe) body (ts Kt W m))
    (hs : X.stack = X.env :: X.outer := by rfl) (hf : X.env.frame = some X.env.locals := by rfl) (hi : X.N[i]? = some n := by rfl) (hln : X.env.kindOf n = some .local := by rfl)
    (hgy : Gl X y := by rfl) (hgz : Gl X z := by rfl) (hgi : Gl X "isinstance" := by rfl) (hdy : (y == ("__debug__" : Str)) = false := by decide) (hdz : (z == ("__debug__" : Str)) = false := by decide)
    (hv : Vis X.env.scope n := by first | exact Or.inl rfl | exact Or.inr (Or.inl rfl) | exact Or.inr (Or.inr rfl)) (hdn : (n == ("__debug__" : Str)) = false := by decide) (hdc : (n == ("__classdict__" : Str)) = false := by decide) :
    PS X (.Try body [.ExceptHandler (some (.Name y np)) (some n) [.Return (some (.List [.Call (.Name "isinstance" p1) [.Name n p2, .Name z p3] [] p4] p5)) p6] p7] [] [] pos) (ts Kt W (sCat c m)) := by
  obtain ⟨Cy, Cz, C, hy, hz, hCc, k1, k2, k3⟩ := T.ex
  refine L2.PS.imp (L2.ps_try_as (ts := fun a cls d D σ H => ∃ C, cls = .ref C ∧ d = none ∧ ExcC X.K C ∧ PySem.W.kitOne X.K (.ref C) (.ref Cz) = some true ∧ (i < σ.length → σ[i]? = some (some (.ref a))) ∧ ∀ p, H p = none → D.rt (.ref p) (upd H p (.lst [.bl true])))
    (tb := fun W => ts Kt W m) (Wout := W) hs hf A.nd hi hln ⟨hgy, hdy, .inl (A.em ▸ hy)⟩ A.tk (fun W' pn xe tk ps => hb W' pn xe (A.tr tk ps)) (fun a oe cls d pn hzc hfl => ?_)) fun D σ H ⟨Φ, ι, F, e, g, S, h⟩ => ⟨Φ, ι, F, e, g, S, ?_⟩
  · refine ⟨fun pins s σ H D I ⟨C, e1, e2, h1, h2, h3, h4⟩ => ?_⟩
    subst e1 e2
    refine (pss_one (X := X.suite a ((a, oe) :: pn)) (ps_ret (pe_lst (pa_cons (pe_callB (call_isE (X := X) h1 hzc hfl) hgi (show X.mg "isinstance" = none from A.em ▸ hfi) (by decide +kernel) (pa_cons (pv i hi hv hdn hdc) (pa_cons (pe_glob (v := .ref Cz) hgz (show X.mg z = some _ from A.em ▸ hz) rfl hdz) pa_nil rfl) rfl) (by decide) (by decide) rfl rfl) pa_nil rfl)))).run pins s σ H D I ?_
    refine ⟨.ref a, h3 (by rw [I.len]; exact (List.getElem?_eq_some_iff.mp hi).1), ?_⟩
    refine ⟨.ref Cz, .ref Cz, true, rfl, fun u r => r, h2, ?_⟩
    exact ⟨by rw [sizeLine_eq]; decide, h4⟩
  · unfold sCat at h
    cases zz : m e g with
    | exn c' e' g' =>
      rw [zz] at h
      simp only at h
      split at h
      · rename_i ec
        subst ec
        refine ⟨C, hCc, fun ι' F' σ' H' x S' => ?_⟩
        refine ⟨true, A.eK ▸ k1, fun _ a ha => ⟨C, rfl, rfl, A.eK ▸ k2, A.eK ▸ k3, ?_, ?_⟩, fun q => Bool.noConfusion q⟩
        · intro hl
          rw [List.length_set] at hl
          rw [List.getElem?_set_self hl]
        · exact newL S'.rel (.one (.bl true)) fun ι2 F2 H2 v x2 R2 r2 => h ι2 F2 H2 v (x.trans x2) R2 r2
      · exact h.elim
    | nx e' g' => rw [zz] at h; exact h
    | bk e' g' => rw [zz] at h; exact h
    | ct e' g' => rw [zz] at h; exact h
    | rt d g' => rw [zz] at h; exact h
    | stuck => rw [zz] at h; exact h

end
/-! ### isinstance of own instances and a built-in type -/
def IsO (Kt : Kit) (t : Ty) (cs : List Nat) : Prop := ∀ c ∈ cs, ∀ C, Kt.cls[c]? = some C → Cls Kt.K C ∧ PySem.W.findIn Kt.K (.ref C) "__class__" = some (some (.builtin "object.__class__")) ∧
  PySem.W.specialIn Kt.K (.builtin "object.__class__") "__get__" = some (some (.builtin "getset_descriptor.__get__")) ∧ PySem.W.takesIn Kt.K (.builtin "object.__class__") = some true ∧ PySem.W.mroIn Kt.K C (.type "object") = some true ∧ PySem.W.kitOne Kt.K (.ref C) (.type t.s) = some false
def isoB (K : PySem.W.Frag) (x : Str) (t : String) : Bool :=
  He.eqO (PySem.W.findIn K (.ref (He.ga K x)) "__class__") (some (some (.builtin "object.__class__"))) && (He.eqO (PySem.W.specialIn K (.builtin "object.__class__") "__get__") (some (some (.builtin "getset_descriptor.__get__"))) &&
  (decide (PySem.W.takesIn K (.builtin "object.__class__") = some true) && (decide (PySem.W.mroIn K (He.ga K x) (.type "object") = some true) && decide (PySem.W.kitOne K (.ref (He.ga K x)) (.type t) = some false))))
theorem iso_nil {Kt : Kit} {t : Ty} : IsO Kt t [] := fun c h => by cases h
theorem iso_cons {Kt : Kit} {t : Ty} {c : Nat} {x : Str} {cs : List Nat} (e : Kt.cls[c]? = some (He.ga Kt.K x)) (h1 : Cls Kt.K (He.ga Kt.K x)) (h : isoB Kt.K x t.s = true) (r : IsO Kt t cs) : IsO Kt t (c :: cs) := fun d hd D eD => by
  rcases List.mem_cons.mp hd with rfl | hd
  · rw [e] at eD; cases eD
    unfold isoB at h
    obtain ⟨a1, h⟩ := He.ba h
    obtain ⟨a2, h⟩ := He.ba h
    obtain ⟨a3, h⟩ := He.ba h
    obtain ⟨a4, a5⟩ := He.ba h
    exact ⟨h1, He.eqO_ok a1, He.eqO_ok a2, of_decide_eq_true a3, of_decide_eq_true a4, of_decide_eq_true a5⟩
  · exact r d hd D eD
def isoD (t : Ty) (cs : List Nat) (g : G) (d : D) : Option D := match isiD t g d with
  | some x => some x
  | none => match d with
    | .ref l => match g[l]? with
      | some (.ins c _) => (match cs.contains c with
        | true => some (.bl false)
        | false => none)
      | _ => none
    | _ => none
theorem se_iso {Kt : Kit} {X : Cx} {W : WX} {k : Nat} {a : Expr} {ma : EM} {pos : Pos} {x : Str} {p p2 : Pos} (t : Ty) {cs : List Nat} (T : IsO Kt t cs) (A : At Kt X W k) (hm : Kt.mg "isinstance" = none) (hm2 : Kt.mg x = none) (hv : bootBuiltins x = some (.type t.s)) (ha : PE X a (te Kt W ma)) (hg : Gl X "isinstance" := by rfl) (hg2 : Gl X x := by rfl) (hn : x ≠ "__name__" := by decide) (hdb : (x == ("__debug__" : Str)) = false := by decide)
    (he : starEach [a, .Name x p2] X.env = (false, eval a X.env) :: starEach [.Name x p2] X.env := by rfl) (he2 : starEach [.Name x p2] X.env = (false, eval (.Name x p2) X.env) :: starEach [] X.env := by rfl) (hpl : (backTo pos (starEach [.Name x p2] X.env)).any (·.1) = false := by rfl) :
    PE X (.Call (.Name "isinstance" p) [a, .Name x p2] [] pos) (te Kt W (vUn (isoD t cs) ma)) :=
  (pe_callB (A.eK ▸ call_isi : CallR X _ (rIsi Kt.K)) hg (A.em ▸ hm) PyProof.Rows.boot_isinstance (pa_cons ha (pa_cons (pe_bltn (v := .ty t.s) hg2 (A.em ▸ hm2) hv rfl hn hdb) pa_nil he2) he) (by decide) (by decide) he hpl).imp fun σ H Q ⟨Φ, ι, F, e, g, S, h⟩ => ⟨Φ, ι, F, e, g, S, (po.bind (Rl := DV Kt) h).imp fun v H1 ⟨ι1, F1, g1, d1, x1, R1, r1, h1⟩ => by
    unfold isoD at h1
    cases z : isiD t g1 d1 with
    | some w =>
      rw [z] at h1
      unfold isiD at z
      cases z2 : tyD g1 d1 with
      | none => rw [z2] at z; cases z
      | some s => rw [z2] at z; cases z; exact ⟨v, _, _, _, _, rfl, .ty _, tyD_ok R1 r1 z2, kit_ty (Ty.kit s t), h1 _ _ _ _ Ex.refl R1 (.bl _)⟩
    | none =>
      rw [z] at h1
      simp only at h1
      split at h1
      · rename_i l
        split at h1
        · rename_i c fs e1
          split at h1
          · rename_i hc
            cases r1 with
            | @ref _ ad e2 =>
            obtain ⟨_, C, dx, gs, e3, e4, r4⟩ := R1.ob l _ _ e1 e2
            obtain ⟨c1, c2, c3, c4, c5, c6⟩ := T c (by simpa using hc) C e3
            exact ⟨_, _, _, _, _, rfl, .ty _, .base (.ins e4 c1 c2 c3 c4 c5), c6, h1 _ _ _ _ Ex.refl R1 (.bl _)⟩
          · exact h1.elim
        · exact h1.elim
      · exact h1.elim⟩
/-! ### more values -/
section
variable {Kt : Kit} {X : Cx} {W : WX} {k : Nat} {a b : Expr} {ma mb : EM} {pos : Pos} {es : List Expr} {ms : AM} {m : SM}
def vSlO (m : EM) (lo hi : Option EM) : EM := fun e g => (m e g).bind fun x g1 => (match lo with
  | none => .ok none g1
  | some a => (a e g1).bind fun d g2 => match d with
    | .int i => .ok (some i) g2
    | _ => .stuck : Res (Option Int)).bind fun l g3 => (match hi with
  | none => .ok none g3
  | some a => (a e g3).bind fun d g2 => match d with
    | .int i => .ok (some i) g2
    | _ => .stuck : Res (Option Int)).bind fun u g4 => match lsD g4 x with
  | some ds => .ok (.ref g4.length) (g4 ++ [.lst (cutD ds l u)])
  | none => .stuck
/-- a slice of a list that is an object -/
theorem se_slO {lo hi : Option Expr} {ml mh : Option EM} {p2 : Pos} (A : At Kt X W k) (ha : PE X a (te Kt W ma)) (hl : PSl Kt X W lo ml) (hh : PSl Kt X W hi mh) : PE X (.Subscript a (.Slice lo hi none p2) pos) (te Kt W (vSlO ma ml mh)) := by
  obtain ⟨tl, pl, il⟩ := hl.ex
  obtain ⟨th, ph, ih⟩ := hh.ex
  refine (pe_slice (A.eK ▸ sl_list : SlR X (rSlL Kt.K)) ha pl ph).imp fun σ H Q ⟨Φ, ι, F, e, g, S, h⟩ => ⟨Φ, ι, F, e, g, S, (po.bind (Rl := DV Kt) h).imp fun v H1 ⟨ι1, F1, g1, d1, x1, R1, r1, h1⟩ => ?_⟩
  refine il σ H1 Φ ι1 F1 e g1 _ ⟨S.env.mono x1, R1⟩ ((po.bind (Rl := RO Kt) h1).imp fun v2 H2 ⟨ι2, F2, g2, d2, x2, R2, r2, h2⟩ => ?_)
  refine ih σ H2 Φ ι2 F2 e g2 _ ⟨S.env.mono (x1.trans x2), R2⟩ ((po.bind (Rl := RO Kt) h2).imp fun v3 H3 ⟨ι3, F3, g3, d3, x3, R3, r3, h3⟩ => ?_)
  obtain rfl : v2 = d2 := r2
  obtain rfl : v3 = d3 := r3
  cases z : lsD g3 d1 with
  | none => rw [z] at h3; exact h3.elim
  | some ds =>
    rw [z] at h3
    obtain ⟨ad, vs, rfl, e1, r4⟩ := lsD_ok R3 (r1.mono (x2.trans x3)) z
    exact ⟨_, _, rfl, .inl (.inl e1), newO R3 (r4.cut v2 v3) h3⟩
/-- bools of a list -/
def bls : List D → Option (List Bool)
  | [] => some []
  | .bl b :: r => (bls r).map (b :: ·)
  | _ => none
theorem bls_ok {ι : List Addr} {F : Hp} : ∀ {vs : List V} {ds : List D} {bs : List Bool}, DVs Kt ι F vs ds → bls ds = some bs → vs = bs.map V.bl
  | _, _, _, .nil, h => by cases h; rfl
  | _, _, bs, .cons (d := d) r1 r2, h => by
    cases r1 with
    | bl b =>
      unfold bls at h
      cases z : bls _ with
      | none => rw [z] at h; cases h
      | some cs => rw [z] at h; cases h; rw [bls_ok r2 z]; rfl
    | _ => simp [bls] at h
def allD (g : G) (ds : List D) : Option D := match ds with
  | [d] => match lsD g d with
    | some xs => (bls xs).map fun bs => .bl (bs.all id)
    | none => none
  | _ => none
def anyD (g : G) (ds : List D) : Option D := match ds with
  | [d] => match lsD g d with
    | some xs => (bls xs).map fun bs => .bl (bs.any id)
    | none => none
  | _ => none
theorem cd_all : CrD Kt (rAll Kt.K) allD := by
  intro Φ ι F g H xs ds z R hv h Q q
  unfold allD at h
  split at h
  · cases hv with
    | cons r1 r2 =>
    cases r2
    split at h
    · rename_i ys e
      cases zb : bls ys with
      | none => rw [zb] at h; cases h
      | some bs =>
        rw [zb] at h; cases h
        obtain ⟨ad, vs, rfl, e1, r⟩ := lsD_ok R r1 e
        have := bls_ok r zb
        subst this
        exact ⟨ad, bs, rfl, .inl (.inl e1), q _ _ _ _ Ex.refl R (.bl _)⟩
    · cases h
  · cases h
theorem cd_any : CrD Kt (rAny Kt.K) anyD := by
  intro Φ ι F g H xs ds z R hv h Q q
  unfold anyD at h
  split at h
  · cases hv with
    | cons r1 r2 =>
    cases r2
    split at h
    · rename_i ys e
      cases zb : bls ys with
      | none => rw [zb] at h; cases h
      | some bs =>
        rw [zb] at h; cases h
        obtain ⟨ad, vs, rfl, e1, r⟩ := lsD_ok R r1 e
        have := bls_ok r zb
        subst this
        exact ⟨ad, bs, rfl, .inl (.inl e1), q _ _ _ _ Ex.refl R (.bl _)⟩
    · cases h
  · cases h
theorem bt_all : bootBuiltins "all" = some (.builtin "all") := by decide +kernel
theorem bt_any : bootBuiltins "any" = some (.builtin "any") := by decide +kernel
theorem se_all {p : Pos} (A : At Kt X W k) (hm : Kt.mg "all" = none) (ha : PA X (a :: es) (ta Kt W ms)) (hg : Gl X "all" := by rfl) (he : starEach (a :: es) X.env = (false, eval a X.env) :: starEach es X.env := by rfl) (hpl : (backTo pos (starEach es X.env)).any (·.1) = false := by rfl) :
    PE X (.Call (.Name "all" p) (a :: es) [] pos) (te Kt W (vCB allD ms)) := se_cb A (A.eK ▸ cr_all A.calm) cd_all hm bt_all ha hg (by decide) (by decide) he hpl
theorem se_any {p : Pos} (A : At Kt X W k) (hm : Kt.mg "any" = none) (ha : PA X (a :: es) (ta Kt W ms)) (hg : Gl X "any" := by rfl) (he : starEach (a :: es) X.env = (false, eval a X.env) :: starEach es X.env := by rfl) (hpl : (backTo pos (starEach es X.env)).any (·.1) = false := by rfl) :
    PE X (.Call (.Name "any" p) (a :: es) [] pos) (te Kt W (vCB anyD ms)) := se_cb A (A.eK ▸ cr_any A.calm) cd_any hm bt_any ha hg (by decide) (by decide) he hpl
end
end Y

set_option Elab.async false
set_option linter.all false
set_option maxRecDepth 100000
namespace Y
open PySem PySem.Spec PyProof.Rows L2 PySem.MeetsSeq
/-! ### o.remove(e), e and the items data -/
/-- the list at l, and what == says of its items and x -/
def RmP (l : Addr) (vs : Array Value) (n : Nat) (x : Value) (q : Value → Bool) (A : Around) (s : Shared) : Prop :=
  s.heap.get? l = some { cls := .type "list", dict := none, data := .seq vs n, slots := #[] } ∧ ∀ y, y ∈ vs → SeqAt.EqAt A.in1 s y x (q y)
theorem rm_loop (l : Addr) (vs : Array Value) (n : Nat) (x : Value) (q : Value → Bool) (j : Nat) (lt : j < vs.size) (yes : q vs[j] = true) (z : vs.size ≤ sizeLine) (m : Nat) : ∀ i : Nat, i + m = j → (∀ c (hc : c < vs.size), c < j → q vs[c] = false) →
    Meets (Builtin.«list.remove.loop» ⟨[.ref l, x, rawInt i], []⟩) (fun A R s => RmP l vs n x q A s ∧ R (.ok (.ret .none)) { s with heap := s.heap.update l (Obj.mapSeq fun u => u.eraseIdxIfInBounds j) }) := by
  induction m with
  | zero =>
    intro i ei no prog w A R s ⟨⟨hl, he⟩, hr⟩
    obtain ⟨hp, gs, dr, tk, os⟩ := s
    obtain rfl : i = j := ei
    wp_walk using wpAny_loadPart' hl
    rw [show vs[((i : Nat) : Int).toNat]? = some vs[i] by simp [lt]]
    refine wpAny_bind (he _ (Array.getElem_mem lt) prog w _ _ ?_)
    rw [yes]
    have zz : (vs.eraseIdxIfInBounds i).size ≤ sizeLine + 1 := Nat.le_trans (size_erased vs _) (Nat.le_succ_of_le z)
    wp_walk using (wpAny_updateSeq hl rfl (hz := z) (_hz' := zz)), wpAny_loadPart' hl
    simpa using hr
  | succ m ih =>
    intro i ei no prog w A R s ⟨⟨hl, he⟩, hr⟩
    obtain ⟨hp, gs, dr, tk, os⟩ := s
    have lt' : i < vs.size := by omega
    wp_walk using wpAny_loadPart' hl
    rw [show vs[((i : Nat) : Int).toNat]? = some vs[i] by simp [lt']]
    refine wpAny_bind (he _ (Array.getElem_mem lt') prog w _ _ ?_)
    rw [no i lt' (by omega)]
    wp_walk
    rw [show ((i : Int) + 1) = ((i + 1 : Nat) : Int) by push_cast; rfl]
    exact ⟨plainId_quiet plain_remove_loop _, codeAny_builtin entry_remove_loop (by
      rw [Around.under_plainId plain_remove_loop _]
      exact ih (i + 1) (by omega) no prog w A R _ ⟨⟨hl, he⟩, hr⟩)⟩
theorem rm_meets (l : Addr) (vs : Array Value) (n : Nat) (x : Value) (q : Value → Bool) (j : Nat) (lt : j < vs.size) (yes : q vs[j] = true) (z : vs.size ≤ sizeLine) (no : ∀ c (hc : c < vs.size), c < j → q vs[c] = false) :
    Meets (Builtin.«list.remove» ⟨[.ref l, x], []⟩) (fun A R s => RmP l vs n x q A s ∧ R (.ok (.ret .none)) { s with heap := s.heap.update l (Obj.mapSeq fun u => u.eraseIdxIfInBounds j) }) := by
  intro prog w A R s ⟨⟨hl, he⟩, hr⟩
  obtain ⟨hp, gs, dr, tk, os⟩ := s
  wp_walk using wpAny_loadPart' hl
  exact ⟨plainId_quiet plain_remove_loop _, codeAny_builtin entry_remove_loop (by
    rw [Around.under_plainId plain_remove_loop _]
    exact rm_loop l vs n x q j lt yes z j 0 (Nat.zero_add j) no prog w A R _ ⟨⟨hl, he⟩, hr⟩)⟩
def rRemD (K : PySem.W.Frag) : V → List V → Hp → VK → Prop := fun x xs H Q => ∃ l vs y d ds j e, x = .ref l ∧ xs = [y] ∧ H l = some (.lst vs) ∧ Dp K H y d ∧ Dp K H (.ref l) (.list ds) ∧ SeqAt.shaped d = true ∧ PyData.canLayAll0 ds = true ∧
  ds[j]? = some e ∧ PyData.eqv e d = true ∧ (∀ m e', m < j → ds[m]? = some e' → PyData.eqv e' d = false) ∧ Q .non (upd H l (.lst (vs.eraseIdx j)))
theorem mt_removeD {X : Cx} (hu : X.A.units + 65 < cLine) : MtM X "list.remove" (rRemD X.K) := by
  intro pins s σ H x xs v us Q I rx rxs h
  obtain ⟨l, vs, y, d, ds, j, e, rfl, rfl, hH, hd, hds, sd, sds, hj, hje, hno, q⟩ := h
  cases rx
  obtain ⟨u, rfl, ru⟩ := rxs.one
  obtain ⟨z, its, n, r, hl, e0⟩ := I.lstM hH
  obtain ⟨as, rd⟩ := Dp.reads I d y u hd ru
  obtain ⟨bs, rl⟩ := Dp.reads I (.list ds) (.ref l) (.ref l) hds rfl
  have key : ∃ cs, ReadsAll s.heap its ds cs := by
    cases rl with
    | list h1 h2 h3 h4 =>
      rw [e0] at h1
      cases h1
      cases h3
      exact ⟨_, by simpa using h4⟩
  obtain ⟨cs, ra⟩ := key
  have rm := SeqAt.readsAll_map ds its cs sds ra
  have hq : ∀ m, m < its.length → ds[m]? = its[m]?.map (SeqAt.readOf s.heap) := fun m _ => by rw [← rm, List.getElem?_map]
  have hjd : j < ds.length := (List.getElem?_eq_some_iff.mp hj).1
  have hlen : ds.length = its.length := by rw [← rm, List.length_map]
  have hji : j < its.toArray.size := by rw [List.size_toArray]; omega
  refine call_meets PySem.F.slot_list_remove ⟨_, e0, rfl⟩ PySem.F.entry_list_remove (PySem.F.args_list_remove_2 _ _)
    (rm_meets l its.toArray n u (fun y => PyData.eqv (SeqAt.readOf s.heap y) d) j hji ?_ (by rw [List.size_toArray]; omega) ?_) ⟨⟨e0, ?_⟩, ?_⟩
  · have h1 := hq j (by omega)
    rw [hj, List.getElem?_eq_getElem (by omega)] at h1
    have h2 := Option.some.inj h1
    simp only [List.getElem_toArray]
    rw [← h2]
    exact hje
  · intro c hc hcj
    have hc' : c < its.length := by simpa using hc
    have h1 := hq c hc'
    rw [List.getElem?_eq_getElem hc'] at h1
    simp only [List.getElem_toArray]
    exact hno c _ hcj h1
  · exact SeqAt.items_eqAt (vs := its.toArray) (by simpa using ra) rd sds (SeqAt.canLay_of_shaped sd) (room_in_shaped sd hu)
  · refine ⟨.non, _, I.lset (its' := its.eraseIdx j) hH e0 ?_ (r.eraseIdx j) ?_, rfl, q⟩
    · show its.toArray.eraseIdxIfInBounds j = (its.eraseIdx j).toArray
      rw [List.eraseIdxIfInBounds_toArray]
    · have := List.length_eraseIdx_le vs j
      omega

def vRem (o m : EM) : EM := fun e g => (o e g).bind fun d g1 => match lsD g1 d with
  | none => .stuck
  | some _ => (m e g1).bind fun y g2 => match d with
    | .ref l => match g2[l]? with
      | some (.lst ds) => (match pud 7 y && ds.all (pud 7), ds.findIdx? (fun z => deq z y) with
        | true, some j => .ok .non (g2.set l (.lst (ds.eraseIdx j)))
        | _, _ => .stuck)
      | _ => .stuck
    | _ => .stuck
def vPopI (o m : EM) : EM := fun e g => (o e g).bind fun d g1 => match lsD g1 d with
  | none => .stuck
  | some _ => (m e g1).bind fun y g2 => match d, y with
    | .ref l, .int i => match g2[l]? with
      | some (.lst ds) => (match rB i, ixN ds.length i with
        | true, some j => match ds[j]? with
          | some z => .ok z (g2.set l (.lst (ds.eraseIdx j)))
          | none => .stuck
        | _, _ => .stuck)
      | _ => .stuck
    | _, _ => .stuck
section
variable {Kt : Kit} {X : Cx} {W : WX} {k : Nat} {a b c : Expr} {ma mb mc : EM} {pos : Pos} {es : List Expr} {ms : AM}
theorem pys_get {T : List Str} : ∀ {ds : List D} {j : Nat}, (pys T ds)[j]? = ds[j]?.map (py T)
  | [], j => by simp [pys]
  | d :: ds, 0 => by simp [pys]
  | d :: ds, j + 1 => by simp [pys, pys_get (ds := ds) (j := j)]
theorem inTs_get {T : List Str} : ∀ {ds : List D} {j : Nat} {d : D}, inTs T ds → ds[j]? = some d → inT T d
  | [], _, _, _, h => by simp at h
  | d :: ds, 0, e, i, h => by
    unfold inTs at i
    simp at h; subst h; exact i.1
  | d :: ds, j + 1, e, i, h => by
    unfold inTs at i
    exact inTs_get i.2 (by simpa using h)
theorem se_rem {p : Pos} (A : At Kt X W k) (ho : PE X a (te Kt W ma)) (hm : PE X b (te Kt W mb)) (hbase : attributeBase a "remove" X.env (eval a X.env) = eval a X.env := by rfl)
    (hfew : ((backTo pos (starEach [b] X.env)).all (fun x => !x.1) && (backToKw pos (keywordEach [] X.env)).all (fun x => x.1.isSome)
      && decide ([b].length + ([] : List Keyword).length + (if ([] : List Keyword).isEmpty then 0 else 1) < 30)) = true := by rfl)
    (hline : (p.endLine == pos.line) = true := by rfl) (hs : starEach [b] X.env = (false, eval b X.env) :: starEach [] X.env := by rfl) (hplain : (backTo pos (starEach [] X.env)).any (·.1) = false := by rfl) :
    PE X (.Call (.Attribute a "remove" p) [b] [] pos) (te Kt W (vRem ma mb)) := by
  have h := pe_bm (cpos := pos) (apos := p) PySem.F.plainAttrs_list PySem.F.slot_list_remove PySem.F.type_list_remove (mt_removeD A.hu) ho (pa_cons hm pa_nil hs) hbase hfew hline hs hplain
  rw [A.eK] at h
  refine L2.PE.imp h fun σ H Q ⟨Φ, ι, F, e, g, S, h⟩ => ⟨Φ, ι, F, e, g, S, (po.bind (Rl := DV Kt) h).imp fun v H1 ⟨ι1, F1, g1, d, x1, R1, r1, h1⟩ => ?_⟩
  split at h1
  · exact h1.elim
  · rename_i ds0 e0
    refine ⟨tyV_l R1 r1 e0, Φ, ι1, F1, e, g1, ⟨S.env.mono x1, R1⟩, (po.bind (Rl := DV Kt) h1).imp fun v2 H2 ⟨ι2, F2, g2, y, x2, R2, r2, h2⟩ => ?_⟩
    split at h2
    · rename_i l
      split at h2
      · rename_i ds e1
        split at h2
        · rename_i j hc hj
          cases r1 with
          | @ref _ ad e2 =>
          obtain ⟨hF, vs, e3, r4⟩ := R2.ob _ _ _ e1 (x2.i _ _ e2)
          rw [Bool.and_eq_true, List.all_eq_true] at hc
          obtain ⟨hc1, hc2⟩ := hc
          obtain ⟨hjl, hj1, hj2⟩ := List.findIdx?_eq_some_iff_getElem.mp hj
          have gj : ds[j]? = some ds[j] := List.getElem?_eq_getElem hjl
          have eqs : ∀ m d', ds[m]? = some d' → PyData.eqv (py Kt.tab d') (py Kt.tab y) = deq d' y := fun m d' hm => deq_py Kt.nd d' y 7 7 (hc2 _ (List.mem_of_getElem? hm)) hc1 (inTs_get r4.inTs hm) r2.inT
          refine ⟨ad, vs, v2, py Kt.tab y, pys Kt.tab ds, j, py Kt.tab ds[j], rfl, rfl, e3, r2.dp R2 7 hc1, .lst (.inl (.inl e3)) (r4.dp R2 7 hc2), py_shaped Kt.sk hc1 (by decide), pys_lay Kt.sk ds, ?_, ?_, ?_, h2 _ _ _ _ Ex.refl (R2.put (x2.i _ _ e2) hF ⟨hF, _, upd_same, r4.eraseIdx j⟩ (by rw [e3]; exact noT_lst)) .non⟩
          · rw [pys_get, gj]; rfl
          · rw [eqs j _ gj]; exact hj1
          · intro m e' hm he
            rw [pys_get] at he
            have hml : m < ds.length := by omega
            rw [List.getElem?_eq_getElem hml] at he
            cases he
            rw [eqs m _ (List.getElem?_eq_getElem hml)]
            simpa using hj2 m hm
        · exact h2.elim
      · exact h2.elim
    · exact h2.elim
theorem se_popI {p : Pos} (A : At Kt X W k) (ho : PE X a (te Kt W ma)) (hm : PE X b (te Kt W mb)) (hbase : attributeBase a "pop" X.env (eval a X.env) = eval a X.env := by rfl)
    (hfew : ((backTo pos (starEach [b] X.env)).all (fun x => !x.1) && (backToKw pos (keywordEach [] X.env)).all (fun x => x.1.isSome)
      && decide ([b].length + ([] : List Keyword).length + (if ([] : List Keyword).isEmpty then 0 else 1) < 30)) = true := by rfl)
    (hline : (p.endLine == pos.line) = true := by rfl) (hs : starEach [b] X.env = (false, eval b X.env) :: starEach [] X.env := by rfl) (hplain : (backTo pos (starEach [] X.env)).any (·.1) = false := by rfl) :
    PE X (.Call (.Attribute a "pop" p) [b] [] pos) (te Kt W (vPopI ma mb)) := by
  have h := pe_bm (cpos := pos) (apos := p) PySem.F.plainAttrs_list PySem.F.slot_list_pop PySem.F.type_list_pop mt_popAt ho (pa_cons hm pa_nil hs) hbase hfew hline hs hplain
  rw [A.eK] at h
  refine L2.PE.imp h fun σ H Q ⟨Φ, ι, F, e, g, S, h⟩ => ⟨Φ, ι, F, e, g, S, (po.bind (Rl := DV Kt) h).imp fun v H1 ⟨ι1, F1, g1, d, x1, R1, r1, h1⟩ => ?_⟩
  split at h1
  · exact h1.elim
  · rename_i ds0 e0
    refine ⟨tyV_l R1 r1 e0, Φ, ι1, F1, e, g1, ⟨S.env.mono x1, R1⟩, (po.bind (Rl := DV Kt) h1).imp fun v2 H2 ⟨ι2, F2, g2, y, x2, R2, r2, h2⟩ => ?_⟩
    split at h2
    · rename_i l i _
      split at h2
      · rename_i ds e1
        split at h2
        · rename_i j hr hj
          have hr := rB_ok hr
          split at h2
          · rename_i z hz
            cases r1 with
            | @ref _ ad e2 =>
            cases r2
            obtain ⟨hF, vs, e3, r4⟩ := R2.ob _ _ _ e1 (x2.i _ _ e2)
            obtain ⟨w, w1, w2⟩ := r4.get hz
            obtain ⟨q1, q2, q3, q4⟩ := ixN_seq hj
            refine ⟨ad, vs, i, j, w, rfl, rfl, e3, ?_, ?_, by rw [r4.length]; exact q1, w1, h2 _ _ _ _ Ex.refl (R2.put (x2.i _ _ e2) hF ⟨hF, _, upd_same, r4.eraseIdx j⟩ (by rw [e3]; exact noT_lst)) w2⟩
            · omega
            · omega
          · exact h2.elim
        · exact h2.elim
      · exact h2.elim
    · exact h2.elim

/-! ### sorted(xs) of ints -/
def insI (x : Int) : List Int → List Int
  | [] => [x]
  | y :: r => if x ≤ y then x :: y :: r else y :: insI x r
def srtI : List Int → List Int
  | [] => []
  | x :: r => insI x (srtI r)
theorem insI_perm (x : Int) : ∀ l : List Int, (insI x l).Perm (x :: l)
  | [] => .refl _
  | y :: r => by
    unfold insI
    split
    · exact .refl _
    · exact ((insI_perm x r).cons y).trans (.swap x y r)
theorem srtI_perm : ∀ l : List Int, (srtI l).Perm l
  | [] => .refl _
  | x :: r => (insI_perm x (srtI r)).trans ((srtI_perm r).cons x)
theorem insI_srt (x : Int) : ∀ l : List Int, l.Pairwise (· ≤ ·) → (insI x l).Pairwise (· ≤ ·)
  | [], _ => by simp [insI]
  | y :: r, h => by
    unfold insI
    rw [List.pairwise_cons] at h
    split
    · rename_i hx
      refine List.pairwise_cons.mpr ⟨fun z hz => ?_, List.pairwise_cons.mpr h⟩
      rcases List.mem_cons.mp hz with rfl | hz
      · exact hx
      · exact Int.le_trans hx (h.1 z hz)
    · rename_i hx
      refine List.pairwise_cons.mpr ⟨fun z hz => ?_, insI_srt x r h.2⟩
      rcases List.mem_cons.mp ((insI_perm x r).mem_iff.mp hz) with rfl | hz
      · omega
      · exact h.1 z hz
theorem srtI_srt : ∀ l : List Int, (srtI l).Pairwise (· ≤ ·)
  | [] => List.Pairwise.nil
  | x :: r => insI_srt x _ (srtI_srt r)
theorem srt_one : ∀ {a b : List Int}, a.Perm b → a.Pairwise (· ≤ ·) → b.Pairwise (· ≤ ·) → a = b
  | [], b, h, _, _ => (List.Perm.nil_eq h)
  | x :: a, [], h, _, _ => absurd h.length_eq (by simp)
  | x :: a, y :: b, h, ha, hb => by
    rw [List.pairwise_cons] at ha hb
    have e : x = y := by
      have h1 : x ∈ y :: b := h.mem_iff.mp List.mem_cons_self
      have h2 : y ∈ x :: a := h.mem_iff.mpr List.mem_cons_self
      rcases List.mem_cons.mp h1 with e | h1
      · exact e
      · rcases List.mem_cons.mp h2 with e | h2
        · exact e.symm
        · have := hb.1 x h1
          have := ha.1 y h2
          omega
    subst e
    rw [srt_one (List.Perm.cons_inv h) ha.2 hb.2]
def intsD : List D → Option (List Int)
  | [] => some []
  | .int i :: r => (intsD r).map (i :: ·)
  | _ => none
theorem intsD_ok {ι : List Addr} {F : Hp} : ∀ {vs : List V} {ds : List D} {bs : List Int}, DVs Kt ι F vs ds → intsD ds = some bs → vs = bs.map V.int
  | _, _, _, .nil, h => by cases h; rfl
  | _, _, bs, .cons (d := d) r1 r2, h => by
    cases r1 with
    | int b =>
      unfold intsD at h
      cases z : intsD _ with
      | none => rw [z] at h; cases h
      | some cs => rw [z] at h; cases h; rw [intsD_ok r2 z]; rfl
    | _ => simp [intsD] at h
def sortedD (g : G) (ds : List D) : Option D := match ds with
  | [d] => match lsD g d with
    | some xs => match intsD xs with
      | some ns => (match Nat.blt ns.length 64 with
        | true => some (.lst ((srtI ns).map D.int))
        | false => none)
      | none => none
    | none => none
  | _ => none
theorem dvs_intsM {ι : List Addr} {F : Hp} : ∀ ns : List Int, DVs Kt ι F (ns.map V.int) (ns.map D.int)
  | [] => .nil
  | n :: ns => .cons (.int n) (dvs_intsM ns)
theorem cd_sorted : CrD Kt (rSorted Kt.K) sortedD := by
  intro Φ ι F g H xs ds z R hv h Q q
  unfold sortedD at h
  split at h
  · cases hv with
    | cons r1 r2 =>
    cases r2
    split at h
    · rename_i ys e
      split at h
      · rename_i ns e2
        split at h
        · rename_i hl
          cases h
          obtain ⟨ad, vs, rfl, e1, r⟩ := lsD_ok R r1 e
          have := intsD_ok r e2
          subst this
          refine ⟨ad, ns, rfl, .inl (.inl e1), by simpa [Nat.blt_eq] using hl, fun ns' p hp hs hn => ?_⟩
          have e3 := srt_one (hp.trans (srtI_perm ns).symm) hs (srtI_srt ns)
          subst e3
          exact newL R (dvs_intsM _) q p hn
        · cases h
      · cases h
    · cases h
  · cases h
theorem bt_sorted : bootBuiltins "sorted" = some (.builtin "sorted") := by decide +kernel
theorem se_sorted {p : Pos} (A : At Kt X W k) (hm : Kt.mg "sorted" = none) (ha : PA X (a :: es) (ta Kt W ms)) (hg : Gl X "sorted" := by rfl) (he : starEach (a :: es) X.env = (false, eval a X.env) :: starEach es X.env := by rfl) (hpl : (backTo pos (starEach es X.env)).any (·.1) = false := by rfl) :
    PE X (.Call (.Name "sorted" p) (a :: es) [] pos) (te Kt W (vCB sortedD ms)) := se_cb A (A.eK ▸ cr_sorted) cd_sorted hm bt_sorted ha hg (by decide) (by decide) he hpl

/-! ### o[i] += e, o a list of its own, an int there -/
def sAugI (o i m : EM) : SM := fun e g => sBind (o e g) e fun d g1 => sBind (i e g1) e fun j g2 => match d, j with
  | .ref l, .int j => match g2[l]? with
    | some (.lst ds) => (match decide (0 ≤ j), rB j, ixN ds.length j with
      | true, true, some n => match ds[n]? with
        | some (.int z) => sBind (m e g2) e fun y g3 => match y with
          | .int w => match g3[l]? with
            | some (.lst ds') => (match ixN ds'.length j with
              | some n' => .nx e (g3.set l (.lst (ds'.set n' (.int (z + w)))))
              | none => .stuck)
            | _ => .stuck
          | _ => .stuck
        | _ => .stuck
      | _, _, _ => .stuck)
    | _ => .stuck
  | _, _ => .stuck
def rGetL (K : PySem.W.Frag) : V → V → Hp → VK → Prop := fun x y H Q => ∃ p xs i j v, x = .ref p ∧ y = .int i ∧ H p = some (.lst xs) ∧ 0 ≤ i ∧ i < 2 ^ 62 ∧ ixN xs.length i = some j ∧ xs[j]? = some v ∧ Q v H
theorem get_list1 : PGet X (rGetL X.K) := by
  intro pins s σ H o i ov iv Q I ro ri h
  obtain ⟨p, xs, k, j, v, rfl, rfl, hp, h0, hb, hj, hv, q⟩ := h
  cases ro
  obtain ⟨t, rfl⟩ := ri
  obtain ⟨its, r, pl, hz⟩ := I.list (.inl (.inl hp))
  obtain ⟨h1, h2, h3, h4⟩ := ixN_seq hj
  obtain ⟨w, ew, rw'⟩ := r.get hv
  have hk : k.toNat = j := by
    rw [seqIndex_of h0 h4] at h1
    exact Option.some.inj h1
  exact wpAny_getItem_list pl.isList h0 (by omega) (by rw [hk]; simpa using ew) ⟨v, H, I, rw', q⟩
theorem ss_augI {tpos : Pos} (A : At Kt X W k) (ho : PE X a (te Kt W ma)) (hi : PE X b (te Kt W mb)) (he : PE X c (te Kt W mc))
    (hx : ∀ ov iv new, augStore b ov iv new = (do holding [new, ov, iv] (setItem ov iv new); release [new, ov, iv] []; pure .next) := by intros; rfl) : PS X (.AugAssign (.Subscript a b tpos) .Add c pos) (ts Kt W (sAugI ma mb mc)) := by
  have h := ps_augS (pos := pos) (tpos := tpos) ho hi get_list1 he ip_add set_list hx
  refine L2.PS.imp h fun D σ H ⟨Φ, ι, F, e, g, S, h⟩ => ⟨Φ, ι, F, e, g, S, (so.bind (Rl := DV Kt) S.env h).imp fun v H1 ⟨ι1, F1, g1, d, x1, R1, r1, h1⟩ =>
    ⟨Φ, ι1, F1, e, g1, ⟨S.env.mono x1, R1⟩, (so.bind (Rl := DV Kt) (S.env.mono x1) h1).imp fun v2 H2 ⟨ι2, F2, g2, d2, x2, R2, r2, h2⟩ => ?_⟩⟩
  split at h2
  · rename_i l j _
    split at h2
    · rename_i ds e1
      split at h2
      · rename_i n h0 hr hn
        split at h2
        · rename_i z hz
          cases r1 with
          | @ref _ ad e2 =>
          cases r2
          have hr := rB_ok hr
          obtain ⟨hF, vs, e3, r4⟩ := R2.ob _ _ _ e1 (x2.i _ _ e2)
          obtain ⟨w, w1, w2⟩ := r4.get hz
          cases w2
          refine ⟨ad, vs, j, n, _, rfl, rfl, e3, of_decide_eq_true h0, by omega, by rw [r4.length]; exact hn, w1, Φ, ι2, F2, e, g2, ⟨S.env.mono (x1.trans x2), R2⟩, (so.bind (Rl := DV Kt) (S.env.mono (x1.trans x2)) h2).imp fun v3 H3 ⟨ι3, F3, g3, d3, x3, R3, r3, h3⟩ => ?_⟩
          split at h3
          · cases r3
            split at h3
            · rename_i ds' e5
              split at h3
              · rename_i n' hn'
                obtain ⟨hF', vs', e6, r6⟩ := R3.ob _ _ _ e5 ((x2.trans x3).i _ _ e2)
                exact ⟨_, _, rfl, rfl, ad, vs', j, n', rfl, rfl, e6, by rw [r6.length]; exact hn', h3 _ _ _ _ Ex.refl ⟨S.env.mono ((x1.trans x2).trans x3), R3.put ((x2.trans x3).i _ _ e2) hF' ⟨hF', _, upd_same, DVs.set (.int _) n' r6⟩ (by rw [e6]; exact noT_lst)⟩⟩
              · exact h3.elim
            · exact h3.elim
          · exact h3.elim
        · exact h2.elim
      · exact h2.elim
    · exact h2.elim
  · exact h2.elim
end
end Y

set_option Elab.async false
set_option linter.all false
set_option maxRecDepth 100000
/-! Y: dicts: of the top (texts to ints), and dicts that change (keys ints and texts, or tuples of these). -/
namespace Y
open PySem PySem.Spec PyProof.Rows L2
/-! ### pairs -/
def lkp : List (D × D) → D → Option D
  | [], _ => none
  | p :: r, d => bif deq p.1 d then some p.2 else lkp r d
def putp (kvs : List (D × D)) (d e : D) : List (D × D) := bif kvs.any fun p => deq p.1 d then kvs.map fun p => bif deq p.1 d then (p.1, e) else p else kvs ++ [(d, e)]
def dropp (kvs : List (D × D)) (d : D) : List (D × D) := kvs.filter fun p => !deq p.1 d
def kyD : D → Bool
  | .int _ => true
  | .str _ => true
  | _ => false
def isKey : Bool → D → Bool
  | false, d => kyD d
  | true, .tup ds => ds.all kyD
  | _, _ => false
/-- the pairs of a dict, walked or not -/
def prsO : Ob → Option (Bool × List (D × D))
  | .dct t kvs => some (t, kvs)
  | .dctL t kvs => some (t, kvs)
  | _ => none
/-- what a dict holds: none: not known; some none: no such key -/
def dcG (g : G) (x k : D) : Option (Option D) := match x with
  | .dic (q :: ks) vs => (match k with
    | .str m => some ((dicG (q :: ks) vs m).map .int)
    | _ => none)
  | .ref l => (match (g[l]?).bind prsO with
    | some (t, kvs) => (match isKey t k with
      | true => some (lkp kvs k)
      | false => none)
    | _ => none)
  | _ => none
def isDc (g : G) (x : D) : Bool := match x with
  | .dic (_ :: _) _ => true
  | .ref l => ((g[l]?).bind prsO).isSome
  | _ => false
def inC (neg : Bool) : OpT := fun g x y => (dcG g y x).map fun o => .bl (o.isSome != neg)
def ixC : OpT := fun g x y => (dcG g x y).bind fun o => o
def vDGet (o : EM) (ms : AM) : EM := fun e g => (o e g).bind fun x g1 => match isDc g1 x with
  | false => .stuck
  | true => (ms e g1).bind fun ys g2 => match ys with
    | [y] => (match dcG g2 x y with
      | some q => .ok (q.getD .non) g2
      | none => .stuck)
    | [y, z] => (match x with
      | .ref l => (match dcG g2 (.ref l) y with
        | some q => .ok (q.getD z) g2
        | none => .stuck)
      | _ => .stuck)
    | _ => .stuck
def vDPop (o : EM) (ms : AM) : EM := fun e g => (o e g).bind fun x g1 => match isDc g1 x with
  | false => .stuck
  | true => (ms e g1).bind fun ys g2 => match x with
    | .ref l => (match g2[l]? with
      | some (.dct false kvs) => (match ys with
        | [y] => (match kyD y, lkp kvs y with
          | true, some v => .ok v (g2.set l (.dct false (dropp kvs y)))
          | _, _ => .stuck)
        | [y, z] => (match kyD y, lkp kvs y with
          | true, some v => .ok v (g2.set l (.dct false (dropp kvs y)))
          | true, none => .ok z g2
          | _, _ => .stuck)
        | _ => .stuck)
      | _ => .stuck)
    | _ => .stuck
def sSubC (o i m : EM) : SM := fun e g => sBind (m e g) e fun z g1 => sBind (o e g1) e fun x g2 => sBind (i e g2) e fun y g3 => match x with
  | .ref l => (match g3[l]? with
    | some (.dct t kvs) => (match isKey t y && ltL kvs.length with
      | true => .nx e (g3.set l (.dct t (putp kvs y z)))
      | false => .stuck)
    | _ => .stuck)
  | _ => .stuck
def vDct0 (t : Bool) : EM := fun _ g => .ok (.ref g.length) (g ++ [.dct t []])

section
variable {Kt : Kit} {Φ : Hp} {ι : List Addr} {F H : Hp} {g : G}
theorem ky_ex {v : V} {d : D} (r : DV Kt ι F v d) (h : kyD d = true) : ∃ k : Key, v = kV k := by
  cases r with
  | int i => exact ⟨.inl i, rfl⟩
  | str e => exact ⟨.inr _, rfl⟩
  | _ => cases h
theorem kys_ex : ∀ {vs : List V} {ds : List D}, DVs Kt ι F vs ds → ds.all kyD = true → ∃ k : List Key, vs = k.map kV
  | _, _, .nil, _ => ⟨[], rfl⟩
  | _, _, .cons r t, h => by
    rw [List.all_cons, Bool.and_eq_true] at h
    obtain ⟨k, e⟩ := ky_ex r h.1
    obtain ⟨ks, es⟩ := kys_ex t h.2
    exact ⟨k :: ks, by rw [e, es, List.map_cons]⟩
theorem key_deq {k j : Key} {d e : D} (h : DV Kt ι F (kV k) d) (q : DV Kt ι F (kV j) e) : deq d e = decide (k = j) := by
  cases k with
  | inl a =>
    have h : DV Kt ι F (V.int a) d := h
    cases h
    cases j with
    | inl b =>
      have q : DV Kt ι F (V.int b) e := q
      cases q
      simp only [deq]
      rw [Bool.eq_iff_iff]
      simp
    | inr y =>
      have q : DV Kt ι F (V.str y) e := q
      cases q
      simp [deq]
  | inr x =>
    have h : DV Kt ι F (V.str x) d := h
    cases h with
    | str h1 =>
    cases j with
    | inl b =>
      have q : DV Kt ι F (V.int b) e := q
      cases q
      simp [deq]
    | inr y =>
      have q : DV Kt ι F (V.str y) e := q
      cases q with
      | str h2 =>
      simp only [deq]
      rw [Bool.eq_iff_iff]
      simp only [beq_iff_eq, decide_eq_true_eq]
      constructor
      · intro e
        subst e
        rw [h1] at h2
        cases h2
        rfl
      · intro e
        cases e
        exact tab_inj h1 h2
theorem keys_deq : ∀ {k j : List Key} {d e : List D}, DVs Kt ι F (k.map kV) d → DVs Kt ι F (j.map kV) e → deqs d e = decide (k = j)
  | [], [], _, _, .nil, .nil => by simp [deqs]
  | [], b :: j, _, _, .nil, .cons _ _ => by simp [deqs]
  | a :: k, [], _, _, .cons _ _, .nil => by simp [deqs]
  | a :: k, b :: j, _, _, .cons h r, .cons q s => by
    simp only [deqs]
    rw [key_deq h q, keys_deq r s, Bool.eq_iff_iff]
    simp
def oRel (Kt : Kit) (ι : List Addr) (F : Hp) (o : Option D) (q : Option V) : Prop := match o with
  | some e => ∃ v, q = some v ∧ DV Kt ι F v e
  | none => q = none
theorem KR.find {us : List (Key × V)} {kvs : List (D × D)} (r : KR Kt ι F us kvs) {k : Key} {d : D} (hd : DV Kt ι F (kV k) d) : oRel Kt ι F (lkp kvs d) (valV us k) := by
  induction r with
  | nil => rfl
  | @cons j v d' e r s hk hv t ih =>
    unfold lkp
    rw [key_deq hk hd]
    by_cases z : j = k
    · rw [decide_eq_true z]
      exact ⟨v, valV_pos z, hv⟩
    · rw [decide_eq_false z, valV_neg z]
      exact ih
theorem KRT.find {us : List (List Key × V)} {kvs : List (D × D)} (r : KRT Kt ι F us kvs) {k : List Key} {ds : List D} (hd : DVs Kt ι F (k.map kV) ds) : oRel Kt ι F (lkp kvs (.tup ds)) (valV us k) := by
  induction r with
  | nil => rfl
  | @cons j v d' e r s hk hv t ih =>
    unfold lkp
    rw [show deq (.tup d') (.tup ds) = decide (j = k) by simp only [deq]; exact keys_deq hk hd]
    by_cases z : j = k
    · rw [decide_eq_true z]
      exact ⟨v, valV_pos z, hv⟩
    · rw [decide_eq_false z, valV_neg z]
      exact ih
theorem KR.any {us : List (Key × V)} {kvs : List (D × D)} (r : KR Kt ι F us kvs) {k : Key} {d : D} (hd : DV Kt ι F (kV k) d) : (us.any fun p => decide (p.1 = k)) = kvs.any fun p => deq p.1 d := by
  induction r with
  | nil => rfl
  | cons hk hv t ih => rw [List.any_cons, List.any_cons, ih, key_deq hk hd]
theorem KRT.any {us : List (List Key × V)} {kvs : List (D × D)} (r : KRT Kt ι F us kvs) {k : List Key} {ds : List D} (hd : DVs Kt ι F (k.map kV) ds) : (us.any fun p => decide (p.1 = k)) = kvs.any fun p => deq p.1 (.tup ds) := by
  induction r with
  | nil => rfl
  | cons hk hv t ih => rw [List.any_cons, List.any_cons, ih, show deq (.tup _) (.tup ds) = _ by simp only [deq]; exact keys_deq hk hd]
theorem KR.map {us : List (Key × V)} {kvs : List (D × D)} (r : KR Kt ι F us kvs) {k : Key} {d e : D} {v : V} (hd : DV Kt ι F (kV k) d) (he : DV Kt ι F v e) :
    KR Kt ι F (us.map fun p => if p.1 = k then (p.1, v) else p) (kvs.map fun p => bif deq p.1 d then (p.1, e) else p) := by
  induction r with
  | nil => exact .nil
  | @cons j x d' e' r s hk hv t ih =>
    rw [List.map_cons, List.map_cons, key_deq hk hd]
    by_cases z : j = k
    · rw [if_pos z, decide_eq_true z]
      exact .cons hk he ih
    · rw [if_neg z, decide_eq_false z]
      exact .cons hk hv ih
theorem KRT.map {us : List (List Key × V)} {kvs : List (D × D)} (r : KRT Kt ι F us kvs) {k : List Key} {ds : List D} {e : D} {v : V} (hd : DVs Kt ι F (k.map kV) ds) (he : DV Kt ι F v e) :
    KRT Kt ι F (us.map fun p => if p.1 = k then (p.1, v) else p) (kvs.map fun p => bif deq p.1 (.tup ds) then (p.1, e) else p) := by
  induction r with
  | nil => exact .nil
  | @cons j x d' e' r s hk hv t ih =>
    rw [List.map_cons, List.map_cons, show deq (.tup d') (.tup ds) = decide (j = k) by simp only [deq]; exact keys_deq hk hd]
    by_cases z : j = k
    · rw [if_pos z, decide_eq_true z]
      exact .cons hk he ih
    · rw [if_neg z, decide_eq_false z]
      exact .cons hk hv ih
theorem KR.append {us ws : List (Key × V)} {kvs lvs : List (D × D)} (r : KR Kt ι F us kvs) (s : KR Kt ι F ws lvs) : KR Kt ι F (us ++ ws) (kvs ++ lvs) := by
  induction r with
  | nil => exact s
  | cons hk hv t ih => exact .cons hk hv ih
theorem KRT.append {us ws : List (List Key × V)} {kvs lvs : List (D × D)} (r : KRT Kt ι F us kvs) (s : KRT Kt ι F ws lvs) : KRT Kt ι F (us ++ ws) (kvs ++ lvs) := by
  induction r with
  | nil => exact s
  | cons hk hv t ih => exact .cons hk hv ih
theorem KR.put {us : List (Key × V)} {kvs : List (D × D)} (r : KR Kt ι F us kvs) {k : Key} {d e : D} {v : V} (hd : DV Kt ι F (kV k) d) (he : DV Kt ι F v e) : KR Kt ι F (putK us k v) (putp kvs d e) := by
  unfold putK putp
  rw [r.any hd]
  cases kvs.any fun p => deq p.1 d with
  | true => exact r.map hd he
  | false => exact r.append (.cons hd he .nil)
theorem KRT.put {us : List (List Key × V)} {kvs : List (D × D)} (r : KRT Kt ι F us kvs) {k : List Key} {ds : List D} {e : D} {v : V} (hd : DVs Kt ι F (k.map kV) ds) (he : DV Kt ι F v e) : KRT Kt ι F (putK us k v) (putp kvs (.tup ds) e) := by
  unfold putK putp
  rw [r.any hd]
  cases kvs.any fun p => deq p.1 (.tup ds) with
  | true => exact r.map hd he
  | false => exact r.append (.cons hd he .nil)
theorem KR.drop {us : List (Key × V)} {kvs : List (D × D)} (r : KR Kt ι F us kvs) {k : Key} {d : D} (hd : DV Kt ι F (kV k) d) : KR Kt ι F (dropK us k) (dropp kvs d) := by
  unfold dropK dropp
  induction r with
  | nil => exact .nil
  | @cons j v d' e r s hk hv t ih =>
    rw [List.filter_cons, List.filter_cons]
    simp only [key_deq hk hd]
    by_cases z : j = k
    · simp only [z, ne_eq, not_true_eq_false, decide_false, decide_true, Bool.not_true, Bool.false_eq_true, if_false]
      exact ih
    · simp only [z, ne_eq, not_false_eq_true, decide_false, decide_true, Bool.not_false, if_true]
      exact .cons hk hv ih
theorem KR.length {us : List (Key × V)} {kvs : List (D × D)} (r : KR Kt ι F us kvs) : us.length = kvs.length := by
  induction r with
  | nil => rfl
  | cons hk hv t ih => rw [List.length_cons, List.length_cons, ih]
theorem KRT.length {us : List (List Key × V)} {kvs : List (D × D)} (r : KRT Kt ι F us kvs) : us.length = kvs.length := by
  induction r with
  | nil => rfl
  | cons hk hv t ih => rw [List.length_cons, List.length_cons, ih]
/-- a dict, seen in the heap -/
def DkR (Kt : Kit) (ι : List Addr) (F H : Hp) (a : Addr) (kvs : List (D × D)) : Bool → Prop
  | false => ∃ us, Rd H a (.dK us) ∧ KR Kt ι F us kvs
  | true => ∃ us, Rd H a (.dT us) ∧ KRT Kt ι F us kvs
theorem prsO_ok (R : RelG Kt Φ ι F g H) {l : Nat} {a : Addr} {t : Bool} {kvs : List (D × D)} (e1 : ι[l]? = some a) (h : (g[l]?).bind prsO = some (t, kvs)) : DkR Kt ι F H a kvs t := by
  cases z : g[l]? with
  | none => rw [z] at h; cases h
  | some ob =>
    rw [z] at h
    have q := R.ob _ _ _ z e1
    cases ob with
    | dct t' kvs' =>
      cases h
      cases t with
      | false => obtain ⟨_, us, e2, r⟩ := q; exact ⟨us, .inl e2, r⟩
      | true => obtain ⟨_, us, e2, r⟩ := q; exact ⟨us, .inl e2, r⟩
    | dctL t' kvs' =>
      cases h
      cases t with
      | false => obtain ⟨od, us, e2, r⟩ := q; exact ⟨us, .inr ⟨od, R.sub _ _ e2⟩, r⟩
      | true => obtain ⟨od, us, e2, r⟩ := q; exact ⟨us, .inr ⟨od, R.sub _ _ e2⟩, r⟩
    | _ => cases h
/-- what a dict holds, seen in the heap -/
theorem dcG_obj (R : RelG Kt Φ ι F g H) {l : Nat} {x y : V} {k : D} {o : Option D} (hx : DV Kt ι F x (.ref l)) (hy : DV Kt ι F y k) (h : dcG g (.ref l) k = some o) :
    ∃ a q, x = .ref a ∧ DGet H a y q ∧ oRel Kt ι F o q := by
  cases hx with
  | @ref _ a e1 =>
  unfold dcG at h
  simp only at h
  cases z : (g[l]?).bind prsO with
  | none => rw [z] at h; cases h
  | some p =>
    obtain ⟨t, kvs⟩ := p
    rw [z] at h
    simp only at h
    cases hk : isKey t k with
    | false => rw [hk] at h; cases h
    | true =>
      rw [hk] at h
      cases h
      have ob := prsO_ok R e1 z
      cases t with
      | false =>
        obtain ⟨us, e2, r⟩ := ob
        obtain ⟨j, rfl⟩ := ky_ex hy hk
        exact ⟨a, valV us j, rfl, .inl ⟨us, j, e2, rfl, rfl⟩, r.find hy⟩
      | true =>
        obtain ⟨us, e2, r⟩ := ob
        cases hy with
        | @tup b vs ds f1 r1 =>
          obtain ⟨j, rfl⟩ := kys_ex r1 hk
          exact ⟨a, valV us j, rfl, .inr ⟨us, j, b, e2, rfl, R.sub _ _ f1, rfl⟩, r.find r1⟩
        | _ => cases hk
def kRel (o : Option D) (r : Option Value) : Prop := match o with
  | some e => ∃ i t, e = .int i ∧ r = some (.int i t)
  | none => r = none
theorem dcG_kd {ks vs : List D} {q : D} {x y : V} {k : D} {o : Option D} (hx : DV Kt ι F x (.dic (q :: ks) vs)) (hy : DV Kt ι F y k) (h : dcG g (.dic (q :: ks) vs) k = some o) :
    ∃ a es n z r, x = .ref a ∧ y = .str z ∧ KDict Kt.K Kt.w a es n ∧ PySem.W.nsIn Kt.K a z = some r ∧ kRel o r := by
  cases hx with
  | dic hd =>
  obtain ⟨⟨es, n, hd⟩, hv⟩ := hd
  unfold dcG at h
  simp only at h
  cases hy with
  | @str m z e =>
    cases h
    obtain ⟨r, h1, h2⟩ := hv m z e
    refine ⟨_, es, n, z, r, rfl, rfl, hd, h1, ?_⟩
    cases w : dicG (q :: ks) vs m with
    | none => rw [w] at h2; exact h2
    | some i =>
      rw [w] at h2
      obtain ⟨t, h2⟩ := h2
      exact ⟨i, t, rfl, h2⟩
  | _ => cases h
end
/-! ### in, not in, [ ] -/
def rInC (K : PySem.W.Frag) (w : World) (neg : Bool) : R2 := fun x y H Q => (∃ a o, y = .ref a ∧ DGet H a x o ∧ Q (.bl (o.isSome != neg)) H) ∨
  ∃ a es n z r, x = .str z ∧ y = .ref a ∧ KDict K w a es n ∧ PySem.W.nsIn K a z = some r ∧ Q (.bl (r.isSome != neg)) H
theorem op_inC {X : Cx} (hu : X.A.units + 65 < cLine) : OpR X (compareOp .In) (rInC X.K X.w false) := by
  intro pins s σ H x y v u Q I rx ry h
  rcases h with ⟨a, o, rfl, dg, q⟩ | ⟨a, es, n, z, r, rfl, rfl, kd, hn, q⟩
  · cases ry
    exact d_in (by omega) I dg rx fun s' I' => ⟨.bl o.isSome, H, I', rfl, by simpa using q⟩
  · exact op_in_kd kd pins s σ H _ _ v u Q I rx ry ⟨z, r, rfl, rfl, hn, by simpa using q⟩
theorem op_notInC {X : Cx} (hu : X.A.units + 65 < cLine) : OpR X (compareOp .NotIn) (rInC X.K X.w true) := by
  intro pins s σ H x y v u Q I rx ry h
  rcases h with ⟨a, o, rfl, dg, q⟩ | ⟨a, es, n, z, r, rfl, rfl, kd, hn, q⟩
  · cases ry
    exact d_notIn (by omega) I dg rx fun s' I' => ⟨.bl (!o.isSome), H, I', rfl, by simpa using q⟩
  · exact op_notIn_kd kd pins s σ H _ _ v u Q I rx ry ⟨z, r, rfl, rfl, hn, by simpa using q⟩
theorem od_inC {Kt : Kit} {neg : Bool} : OpD Kt (rInC Kt.K Kt.w neg) (inC neg) := by
  intro Φ ι F g H x y d e z R hx hy h Q q
  unfold inC at h
  cases w : dcG g e d with
  | none => rw [w] at h; cases h
  | some o =>
    rw [w] at h
    cases h
    cases e with
    | dic ks vs =>
      cases ks with
      | nil => cases w
      | cons k ks =>
        obtain ⟨a, es, n, z, r, rfl, rfl, kd, hn, hr⟩ := dcG_kd hy hx w
        have e : r.isSome = o.isSome := by
          cases o with
          | none => rw [show r = none from hr]; rfl
          | some e => obtain ⟨i, t, _, rfl⟩ := hr; rfl
        exact .inr ⟨a, es, n, z, r, rfl, rfl, kd, hn, by rw [e]; exact q _ _ _ _ Ex.refl R (.bl _)⟩
    | ref l =>
      obtain ⟨a, p, rfl, dg, hp⟩ := dcG_obj R hy hx w
      have e : p.isSome = o.isSome := by
        cases o with
        | none => rw [show p = none from hp]; rfl
        | some e => obtain ⟨v, rfl, _⟩ := hp; rfl
      exact .inl ⟨a, p, rfl, dg, by rw [e]; exact q _ _ _ _ Ex.refl R (.bl _)⟩
    | _ => cases w
def rIxC (K : PySem.W.Frag) (w : World) : R2 := fun x y H Q => (∃ a v, x = .ref a ∧ DGet H a y (some v) ∧ Q v H) ∨ rIxD K w x y H Q
theorem ix_dct {X : Cx} (hu : X.A.units + 65 < cLine) : IxR X (rIxC X.K X.w) := by
  intro value slice pins s σ H x y v u Q I rx ry h hs
  rcases h with ⟨a, r, rfl, dg, q⟩ | h
  · cases rx
    exact tail_any (dict_typeIs I dg) PySem.F.slot_dict_getitem.lookup (d_getItem (by omega) I dg ry fun w' s' I' rw' => ⟨r, H, I', rw', q⟩) hs
  · exact ix_kdict value slice pins s σ H x y v u Q I rx ry h hs
theorem od_ixC {Kt : Kit} : OpD Kt (rIxC Kt.K Kt.w) ixC := by
  intro Φ ι F g H x y d e z R hx hy h Q q
  unfold ixC at h
  cases w : dcG g d e with
  | none => rw [w] at h; cases h
  | some o =>
    rw [w] at h
    have h : o = some z := h
    subst h
    cases d with
    | dic ks vs =>
      cases ks with
      | nil => cases w
      | cons k ks =>
        obtain ⟨a, es, n, y', r, rfl, rfl, kd, hn, i, t, rfl, rfl⟩ := dcG_kd hx hy w
        exact .inr ⟨a, y', .int i, rfl, rfl, ⟨es, n, _, kd.at_, kd.lit, hn, t, rfl⟩, q _ _ _ _ Ex.refl R (.int _)⟩
    | ref l =>
      obtain ⟨a, p, rfl, dg, v, rfl, r1⟩ := dcG_obj R hx hy w
      exact .inl ⟨a, v, rfl, dg, q _ _ _ _ Ex.refl R r1⟩
    | _ => cases w
section
variable {Kt : Kit} {X : Cx} {W : WX} {k : Nat} {a b c : Expr} {ma mb mc : EM} {pos : Pos} {es : List Expr} {ms : AM}
theorem cm_inC (A : At Kt X W k) : Cmp Kt X .In (inC false) := ⟨_, (A.eK ▸ A.ew ▸ op_inC A.hu : OpR X _ (rInC Kt.K Kt.w false)), od_inC⟩
theorem cm_notinC (A : At Kt X W k) : Cmp Kt X .NotIn (inC true) := ⟨_, (A.eK ▸ A.ew ▸ op_notInC A.hu : OpR X _ (rInC Kt.K Kt.w true)), od_inC⟩
theorem se_ixC (A : At Kt X W k) (ha : PE X a (te Kt W ma)) (hb : PE X b (te Kt W mb)) (hs : PlainIx b := by intro _ _; rfl) : PE X (.Subscript a b pos) (te Kt W (vOp ixC ma mb)) :=
  (pe_ix (A.eK ▸ A.ew ▸ ix_dct A.hu : IxR X (rIxC Kt.K Kt.w)) ha hb hs).imp fun _ _ _ => te_op od_ixC
/-! ### d[k] = v -/
def rSetC : V → V → V → Hp → (Hp → Prop) → Prop := fun o i v H Q => ∃ a H', o = .ref a ∧ DPut H a i v H' ∧ Q H'
theorem set_dct {X : Cx} (hu : X.A.units + 65 < cLine) : PSet X rSetC := by
  intro pins s σ H o i v ov iv u Q I ro ri rv h
  obtain ⟨a, H', rfl, dp, q⟩ := h
  cases ro
  exact d_setItem (by omega) I dp ri rv fun s' I' => ⟨H', I', q⟩
theorem dct_put {Φ : Hp} {ι : List Addr} {F H : Hp} {g : G} (R : RelG Kt Φ ι F g H) {l : Nat} {ad : Addr} {t : Bool} {kvs : List (D × D)} {i v : V} {d z : D} (e1 : g[l]? = some (.dct t kvs)) (e2 : ι[l]? = some ad) (hi : DV Kt ι F i d) (hv : DV Kt ι F v z) (hk : isKey t d = true) (hl : ltL kvs.length = true) :
    ∃ H', DPut H ad i v H' ∧ RelG Kt Φ ι F (g.set l (.dct t (putp kvs d z))) H' := by
  have ob := R.ob _ _ _ e1 e2
  have hl := ltL_iff.mp hl
  cases t with
  | false =>
    obtain ⟨hF, us, e3, r⟩ := ob
    obtain ⟨j, rfl⟩ := ky_ex hi hk
    exact ⟨_, .k e3 (by rw [r.length]; exact hl), R.put e2 hF ⟨hF, _, upd_same, r.put hi hv⟩ (by rw [e3]; exact noT_dK)⟩
  | true =>
    obtain ⟨hF, us, e3, r⟩ := ob
    cases hi with
    | @tup b vs ds f1 r1 =>
      obtain ⟨j, rfl⟩ := kys_ex r1 hk
      exact ⟨_, .t e3 (R.sub _ _ f1) (by rw [r.length]; exact hl), R.put e2 hF ⟨hF, _, upd_same, r.put r1 hv⟩ (by rw [e3]; exact noT_dT)⟩
    | _ => cases hk
theorem ss_subC (A : At Kt X W k) (ha : PE X a (te Kt W ma)) (hb : PE X b (te Kt W mb)) (hc : PE X c (te Kt W mc)) {p : Pos}
    (h0 : ∀ v, assign (.Subscript a b p) X.env v = (do
      let ov ← holding [v] (eval a X.env)
      let iv ← holding [v, ov] (eval b X.env)
      standAt p
      holding [v, ov, iv] (setItem ov iv v)
      release [v, ov, iv] []) := by intro _; rfl)
    (hs : swapsWithSole [.Subscript a b p] c pos.line X.env = pure false := by rfl) (hw : swappedStores [.Subscript a b p] c X.env = pure none := by rfl) (h1 : (assignEach [.Subscript a b p] X.env).map (·.2) = [assign (.Subscript a b p) X.env] := by rfl) :
    PS X (.Assign [.Subscript a b p] c pos) (ts Kt W (sSubC ma mb mc)) :=
  L2.PS.imp (ps_asg hc (pg_sub ha hb (set_dct A.hu) h0) hs hw h1) fun D σ H ⟨Φ, ι, F, e, g, S, h⟩ => ⟨Φ, ι, F, e, g, S, (so.bind (Rl := DV Kt) S.env h).imp fun v H1 ⟨ι1, F1, g1, d, x1, R1, r1, h1⟩ =>
    ⟨Φ, ι1, F1, e, g1, ⟨S.env.mono x1, R1⟩, (so.bind (Rl := DV Kt) (S.env.mono x1) h1).imp fun v2 H2 ⟨ι2, F2, g2, d2, x2, R2, r2, h2⟩ =>
      ⟨Φ, ι2, F2, e, g2, ⟨S.env.mono (x1.trans x2), R2⟩, (so.bind (Rl := DV Kt) (S.env.mono (x1.trans x2)) h2).imp fun v3 H3 ⟨ι3, F3, g3, d3, x3, R3, r3, h3⟩ => by
        split at h3
        · rename_i l
          split at h3
          · rename_i t kvs e1
            split at h3
            · rename_i hh
              rw [Bool.and_eq_true] at hh
              cases r2 with
              | @ref _ ad e2 =>
              obtain ⟨H', dp, R'⟩ := dct_put R3 e1 (x3.i _ _ e2) r3 (r1.mono (x2.trans x3)) hh.1 hh.2
              exact ⟨ad, H', rfl, dp, h3 _ _ _ _ Ex.refl ⟨S.env.mono ((x1.trans x2).trans x3), R'⟩⟩
            · exact h3.elim
          · exact h3.elim
        · exact h3.elim⟩⟩⟩
/-! ### {} -/
theorem newD {Φ : Hp} {ι : List Addr} {F H : Hp} {g : G} (R : RelG Kt Φ ι F g H) {p : Addr} (hp : H p = none) (t : Bool) : ∃ u, (u = match t with
    | false => HO.dK []
    | true => HO.dT []) ∧ RelG Kt Φ (ι ++ [p]) F (g ++ [.dct t []]) (upd H p u) ∧ Ex ι F (ι ++ [p]) F := by
  have fp : F p = none := by
    cases e : F p with
    | none => rfl
    | some u => rw [R.sub p u e] at hp; cases hp
  refine ⟨_, rfl, R.new hp (fun a o h => by rw [upd_ne (ne_of_none h hp)]; exact h) (by rw [upd_same]; simp) ?_⟩
  cases t with
  | false => exact ⟨fp, [], upd_same, .nil⟩
  | true => exact ⟨fp, [], upd_same, .nil⟩
theorem se_dct0 (t : Bool) : PE X (.Dict [] [] pos) (te Kt W (vDct0 t)) := by
  cases t with
  | false =>
    refine L2.PE.imp pe_dnewK fun σ H Q ⟨Φ, ι, F, e, g, S, h⟩ p hp => ?_
    obtain ⟨u, rfl, R, x⟩ := newD S.rel hp false
    exact h _ _ _ _ x R (.ref (get_snoc S.rel.len))
  | true =>
    refine L2.PE.imp pe_dnewT fun σ H Q ⟨Φ, ι, F, e, g, S, h⟩ p hp => ?_
    obtain ⟨u, rfl, R, x⟩ := newD S.rel hp true
    exact h _ _ _ _ x R (.ref (get_snoc S.rel.len))
/-! ### d.get, d.pop -/
def isDK (K : PySem.W.Frag) (w : World) (x : V) (H : Hp) : Prop := ∃ a, x = .ref a ∧ (IsD H a ∨ ∃ es n, KDict K w a es n)
def tDM (K : PySem.W.Frag) (w : World) (r : V → List V → Hp → VK → Prop) (to : TE) (t : TA) : TE := fun σ H Q => to σ H fun x H1 => isDK K w x H1 ∧ t σ H1 fun xs H2 => r x xs H2 Q
theorem isDK_at {X : Cx} {pins : List (Addr × Obj)} {σ : L2.St} {H : Hp} {s : Shared} {x : V} {u : Value} (I : Inv X pins σ H s) (r : RelV x u) (d : isDK X.K X.w x H) :
    s.TypeIs u "dict" ∧ ∀ b, u = .ref b → ∃ ob, s.heap.get? b = some ob ∧ ob.dict = none := by
  obtain ⟨a, rfl, d | ⟨es, n, d⟩⟩ := d
  · cases r
    obtain ⟨h1, h2, _⟩ := isD_at I d
    exact ⟨h1, h2⟩
  · cases r
    refine ⟨kd_type d I, fun b q => ?_⟩
    cases q
    exact ⟨_, I.kIn _ _ d.at_, rfl⟩
theorem pe_dm {o e : Expr} {es : List Expr} {to : TE} {t : TA} {name : Str} {apos cpos : Pos} {id : String} {r : V → List V → Hp → VK → Prop} (slot : Slot "dict" name id) (hty : typeOf (.builtin id) = pure (.type "method_descriptor")) (hm : MtR X id r) (ho : PE X o to) (ha : PA X (e :: es) t)
    (hbase : attributeBase o name X.env (eval o X.env) = eval o X.env)
    (hfew : ((backTo cpos (starEach (e :: es) X.env)).all (fun x => !x.1) && (backToKw cpos (keywordEach [] X.env)).all (fun x => x.1.isSome)
      && decide ((e :: es).length + ([] : List Keyword).length + (if ([] : List Keyword).isEmpty then 0 else 1) < 30)) = true)
    (hline : (apos.endLine == cpos.line) = true) (hs : starEach (e :: es) X.env = (false, eval e X.env) :: starEach es X.env) (hplain : (backTo cpos (starEach es X.env)).any (·.1) = false) :
    PE X (.Call (.Attribute o name apos) (e :: es) [] cpos) (tDM X.K X.w r to t) := by
  refine ⟨fun pins s σ H Q I h => ?_⟩
  refine wpAny_Call_method_late hbase hfew hline rfl (thn (ho.run pins s σ H _ I h) fun v s1 ⟨x, H1, I1, r1, ty, q1⟩ => ?_)
  obtain ⟨h1, h2⟩ := isDK_at I1 r1 ty
  refine ⟨"dict", id, PySem.F.plainAttrs_dict, slot, hty, h1, h2, ?_⟩
  have hA := ha.run cpos pins s1 σ H1 _ I1 q1
  rw [hs] at hA ⊢
  refine Calls.callWith_builtin (by show (false || (backTo cpos (starEach es X.env)).any (·.1)) = false; rw [hplain] <;> rfl) (Calls.evalArgs_plain ?_)
  exact thn hA fun us s2 ⟨vs, H2, I2, r2, q2⟩ => hm pins s2 σ H2 x vs v us Q I2 r1 r2 q2
def rDGet (K : PySem.W.Frag) (w : World) : V → List V → Hp → VK → Prop := fun x xs H Q => ∃ a, x = .ref a ∧ ((∃ y o, xs = [y] ∧ DGet H a y o ∧ Q (o.getD .non) H) ∨ (∃ y z o, xs = [y, z] ∧ DGet H a y o ∧ Q (o.getD z) H) ∨
  ∃ es n t r v, xs = [.str t] ∧ KDict K w a es n ∧ PySem.W.nsIn K a t = some r ∧ RelV v (r.getD .none) ∧ Q v H)
theorem mt_dget {X : Cx} (hu : X.A.units + 65 < cLine) : MtR X "dict.get" (rDGet X.K X.w) := by
  intro pins s σ H x xs v us Q I rx rxs h
  obtain ⟨a, rfl, ⟨y, o, rfl, dg, q⟩ | ⟨y, z, o, rfl, dg, q⟩ | ⟨es, n, t, r, y, rfl, kd, hn, rv, q⟩⟩ := h
  · cases rx
    obtain ⟨u, rfl, ru⟩ := vals1 rxs
    exact d_get1 (by omega) I dg ru fun w' s' I' rw' => ⟨_, H, I', rw', q⟩
  · cases rx
    obtain ⟨u, w, rfl, ru, rw⟩ := vals2 rxs
    exact d_get2 (by omega) I dg ru rw fun w' s' I' rw' => ⟨_, H, I', rw', q⟩
  · cases rx
    obtain ⟨u, rfl, ru⟩ := vals1 rxs
    obtain ⟨tk, rfl⟩ := ru
    refine call_meetsIn PySem.F.slot_dict_get (kd_type kd I) PySem.F.entry_dict_get (PySem.F.args_dict_get_2 _ _) (meets_dict_get (PySem.strKind X.prog X.w) a (PySem.strKind_is X.prog X.w t tk) kd.low) ⟨_, PySem.W.mapOf_K (prog := X.prog) I.kIn kd.at_ kd.lit, ?_⟩
    rw [PySem.W.find_K kd.at_ hn]
    exact ⟨y, H, I.tok _, rv, q⟩
def rDPop : V → List V → Hp → VK → Prop := fun x xs H Q => ∃ a kvs k, x = .ref a ∧ H a = some (.dK kvs) ∧ ((∃ v, xs = [kV k] ∧ valV kvs k = some v ∧ Q v (upd H a (.dK (dropK kvs k)))) ∨
  ∃ z, xs = [kV k, z] ∧ (∀ v, valV kvs k = some v → Q v (upd H a (.dK (dropK kvs k)))) ∧ (valV kvs k = none → Q z H))
theorem isDc_ok {Φ : Hp} {ι : List Addr} {F H : Hp} {g : G} (R : RelG Kt Φ ι F g H) {x : V} {d : D} (r : DV Kt ι F x d) (h : isDc g d = true) : isDK Kt.K Kt.w x H := by
  unfold isDc at h
  cases r with
  | dic hd =>
    obtain ⟨⟨es, n, hd⟩, _⟩ := hd
    exact ⟨_, rfl, .inr ⟨es, n, hd⟩⟩
  | @ref l a e =>
    simp only at h
    cases z : (g[l]?).bind prsO with
    | none => rw [z] at h; cases h
    | some p =>
      obtain ⟨t, kvs⟩ := p
      have ob := prsO_ok R e z
      cases t with
      | false =>
        obtain ⟨us, e3, _⟩ := ob
        exact ⟨_, rfl, .inl (.inl ⟨us, e3⟩)⟩
      | true =>
        obtain ⟨us, e3, _⟩ := ob
        exact ⟨_, rfl, .inl (.inr ⟨us, e3⟩)⟩
  | _ => cases h
theorem se_dget {p : Pos} (A : At Kt X W k) (ho : PE X a (te Kt W ma)) (hm : PA X (b :: es) (ta Kt W ms)) (hbase : attributeBase a "get" X.env (eval a X.env) = eval a X.env := by rfl)
    (hfew : ((backTo pos (starEach (b :: es) X.env)).all (fun x => !x.1) && (backToKw pos (keywordEach [] X.env)).all (fun x => x.1.isSome)
      && decide ((b :: es).length + ([] : List Keyword).length + (if ([] : List Keyword).isEmpty then 0 else 1) < 30)) = true := by rfl)
    (hline : (p.endLine == pos.line) = true := by rfl) (hs : starEach (b :: es) X.env = (false, eval b X.env) :: starEach es X.env := by rfl) (hplain : (backTo pos (starEach es X.env)).any (·.1) = false := by rfl) :
    PE X (.Call (.Attribute a "get" p) (b :: es) [] pos) (te Kt W (vDGet ma ms)) := by
  have h := pe_dm (cpos := pos) (apos := p) PySem.F.slot_dict_get PySem.F.type_dict_get (mt_dget A.hu) ho hm hbase hfew hline hs hplain
  rw [A.eK, A.ew] at h
  refine L2.PE.imp h fun σ H Q ⟨Φ, ι, F, e, g, S, h⟩ => ⟨Φ, ι, F, e, g, S, (po.bind (Rl := DV Kt) h).imp fun v H1 ⟨ι1, F1, g1, d, x1, R1, r1, h1⟩ => ?_⟩
  split at h1
  · exact h1.elim
  · rename_i hd
    refine ⟨isDc_ok R1 r1 hd, Φ, ι1, F1, e, g1, ⟨S.env.mono x1, R1⟩, (po.bind (Rl := DVs Kt) h1).imp fun vs H2 ⟨ι2, F2, g2, ys, x2, R2, r2, h2⟩ => ?_⟩
    split at h2
    · rename_i y
      split at h2
      · rename_i o ho
        cases r2 with
        | cons ry r0 =>
        cases r0
        cases d with
        | dic ks vs =>
          cases ks with
          | nil => cases ho
          | cons q ks =>
            obtain ⟨ad, es, n, z, r, rfl, rfl, kd, hn, hr⟩ := dcG_kd (r1.mono x2) ry ho
            refine ⟨ad, rfl, .inr (.inr ?_)⟩
            cases o with
            | none =>
              cases (show r = none from hr)
              exact ⟨es, n, z, _, .non, rfl, kd, hn, rfl, h2 _ _ _ _ Ex.refl R2 .non⟩
            | some d =>
              obtain ⟨i, t, rfl, rfl⟩ := hr
              exact ⟨es, n, z, _, .int i, rfl, kd, hn, ⟨t, rfl⟩, h2 _ _ _ _ Ex.refl R2 (.int _)⟩
        | ref l =>
          obtain ⟨ad, q, rfl, dg, hq⟩ := dcG_obj R2 (r1.mono x2) ry ho
          refine ⟨ad, rfl, .inl ⟨_, q, rfl, dg, ?_⟩⟩
          cases o with
          | none =>
            cases (show q = none from hq)
            exact h2 _ _ _ _ Ex.refl R2 .non
          | some d =>
            obtain ⟨v, rfl, rv⟩ := hq
            exact h2 _ _ _ _ Ex.refl R2 rv
        | _ => cases ho
      · exact h2.elim
    · rename_i y z
      split at h2
      · rename_i l
        split at h2
        · rename_i o ho
          cases r2 with
          | cons ry r0 =>
          cases r0 with
          | cons rz r0 =>
          cases r0
          obtain ⟨ad, q, rfl, dg, hq⟩ := dcG_obj R2 (r1.mono x2) ry ho
          refine ⟨ad, rfl, .inr (.inl ⟨_, _, q, rfl, dg, ?_⟩)⟩
          cases o with
          | none =>
            cases (show q = none from hq)
            exact h2 _ _ _ _ Ex.refl R2 rz
          | some d =>
            obtain ⟨v, rfl, rv⟩ := hq
            exact h2 _ _ _ _ Ex.refl R2 rv
        · exact h2.elim
      · exact h2.elim
    · exact h2.elim
end
/-! ### xs + ys that is an object -/
def vAddO (a b : EM) : EM := fun e g => (a e g).bind fun x g1 => (b e g1).bind fun y g2 => match lsD g2 x, lsD g2 y with
  | some xs, some ys => (match okL (xs.length + ys.length) with
    | true => .ok (.ref g2.length) (g2 ++ [.lst (xs ++ ys)])
    | false => .stuck)
  | _, _ => .stuck
section
variable {Kt : Kit} {X : Cx} {W : WX} {k : Nat} {a b c : Expr} {ma mb mc : EM} {pos : Pos} {es : List Expr} {ms : AM}
theorem se_addO (A : At Kt X W k) (ha : PE X a (te Kt W ma)) (hb : PE X b (te Kt W mb)) : PE X (.BinOp a .Add b pos) (te Kt W (vAddO ma mb)) := by
  refine (pe_op (or_add A) ha hb).imp fun σ H Q ⟨Φ, ι, F, e, g, S, h⟩ => ⟨Φ, ι, F, e, g, S, (po.bind (Rl := DV Kt) h).imp fun v H1 ⟨ι1, F1, g1, d, x1, R1, r1, h1⟩ => ?_⟩
  refine ⟨Φ, ι1, F1, e, g1, ⟨S.env.mono x1, R1⟩, (po.bind (Rl := DV Kt) h1).imp fun v2 H2 ⟨ι2, F2, g2, d2, x2, R2, r2, h2⟩ => ?_⟩
  split at h2
  · rename_i xs ys hx hy
    split at h2
    · rename_i hl
      obtain ⟨p, vs, rfl, e1, q1⟩ := lsD_ok R2 (r1.mono x2) hx
      obtain ⟨p', vs', rfl, e2, q2⟩ := lsD_ok R2 r2 hy
      exact .inr (.inr ⟨_, _, _, _, rfl, rfl, e1, e2, by rw [q1.length, q2.length]; exact okL_iff.mp hl, newO R2 (q1.append q2) fun ι' F' H' v x R r => h2 _ _ _ _ x R r⟩)
    · exact h2.elim
  · exact h2.elim
end
/-! ### for the head -/
def kdB (K : PySem.W.Frag) (a : Addr) (T : List Str) (ks vs : List D) : Bool := (List.range T.length).all fun m => match PySem.W.nsIn K a (T.getD m ⟨#[]⟩) with
  | some (some (.int i _)) => decide (dicG ks vs m = some i)
  | some none => (dicG ks vs m).isNone
  | _ => false
theorem kdB_ok {Kt : Kit} {a : Addr} {ks vs : List D} (h : kdB Kt.K a Kt.tab ks vs = true) (d : ∃ es n, KDict Kt.K Kt.w a es n) : KD Kt a ks vs := by
  refine ⟨d, fun m x hx => ?_⟩
  have hm := (List.getElem?_eq_some_iff.mp hx).1
  have q := List.all_eq_true.mp h m (List.mem_range.mpr hm)
  rw [List.getD_eq_getElem?_getD, hx] at q
  simp only [Option.getD_some] at q
  split at q
  · rename_i i t e
    rw [of_decide_eq_true q]
    exact ⟨_, e, t, rfl⟩
  · rename_i e
    rw [Option.isNone_iff_eq_none.mp q]
    exact ⟨_, e, rfl⟩
  · cases q
end Y

set_option Elab.async false
set_option linter.all false
set_option maxRecDepth 100000
/-! Y: displays of dicts. -/
namespace Y
open PySem PySem.Spec PyProof.Rows L2
abbrev PM := En → G → Res (List (D × D))
def pNil : PM := fun _ g => .ok [] g
def pCons (a c : EM) (r : PM) : PM := fun e g => (a e g).bind fun x g1 => (c e g1).bind fun y g2 => (r e g2).bind fun ps g3 => .ok ((x, y) :: ps) g3
def mergep (kvs more : List (D × D)) : List (D × D) := more.foldl (fun acc kv => putp acc kv.1 kv.2) kvs
def vDisp (ps : PM) : EM := fun e g => (ps e (g ++ [.dct false []])).bind fun kvs g2 => match g2[g.length]? with
  | some (.dct false []) => (match decide (kvs.length ≤ 15) && kvs.all fun p => kyD p.1 with
    | true => .ok (.ref g.length) (g2.set g.length (.dct false (mergep [] kvs)))
    | false => .stuck)
  | _ => .stuck
inductive DVps (Kt : Kit) (ι : List Addr) (F : Hp) : List (V × V) → List (D × D) → Prop
  | nil : DVps Kt ι F [] []
  | cons {x y : V} {d e : D} {r : List (V × V)} {s : List (D × D)} : DV Kt ι F x d → DV Kt ι F y e → DVps Kt ι F r s → DVps Kt ι F ((x, y) :: r) ((d, e) :: s)
def tp (Kt : Kit) (W : WX) (m : PM) (σ : L2.St) (H : Hp) (Q : List (V × V) → Hp → Prop) : Prop := ∃ Φ ι F e g, St' Kt Φ ι F e g σ H ∧ po Kt Φ W σ (DVps Kt) ι F (m e g) Q
structure PPy (Kt : Kit) (X : Cx) (W : WX) (pos : Pos) (keys : List (Option Expr)) (vals : List Expr) (m : PM) : Prop where
  ex : ∃ trs, PPs X pos keys vals trs ∧ ∀ σ H Q, tp Kt W m σ H Q → tPairs trs σ H Q
section
variable {Kt : Kit} {X : Cx} {W : WX} {k : Nat} {a b c : Expr} {ma mb mc : EM} {pos : Pos} {keys : List (Option Expr)} {vals : List Expr} {m : PM}
theorem sp_nil : PPy Kt X W pos [] [] pNil := ⟨[], pps_nil, fun σ H Q ⟨Φ, ι, F, e, g, S, h⟩ => h _ _ _ _ Ex.refl S.rel .nil⟩
theorem sp_cons (ha : PE X a (te Kt W ma)) (hc : PE X c (te Kt W mc)) (hr : PPy Kt X W pos keys vals m) : PPy Kt X W pos (some a :: keys) (c :: vals) (pCons ma mc m) := by
  obtain ⟨trs, h1, h2⟩ := hr.ex
  refine ⟨_, pps_cons ha hc h1, fun σ H Q ⟨Φ, ι, F, e, g, S, h⟩ => ?_⟩
  refine ⟨Φ, ι, F, e, g, S, (po.bind (Rl := DV Kt) h).imp fun v H1 ⟨ι1, F1, g1, d, x1, R1, r1, h⟩ => ?_⟩
  refine ⟨Φ, ι1, F1, e, g1, ⟨S.env.mono x1, R1⟩, (po.bind (Rl := DV Kt) h).imp fun v2 H2 ⟨ι2, F2, g2, d2, x2, R2, r2, h⟩ => ?_⟩
  refine h2 _ _ _ ⟨Φ, ι2, F2, e, g2, ⟨S.env.mono (x1.trans x2), R2⟩, (po.bind (Rl := DVps Kt) h).imp fun ps H3 ⟨ι3, F3, g3, kvs, x3, R3, r3, h⟩ => ?_⟩
  exact h _ _ _ _ Ex.refl R3 (.cons (r1.mono (x2.trans x3)) (r2.mono x3) r3)
theorem DVps.ky {ι : List Addr} {F : Hp} {ps : List (V × V)} {kvs : List (D × D)} (r : DVps Kt ι F ps kvs) (h : (kvs.all fun p => kyD p.1) = true) : ∃ us : List (Key × V), ps = us.map (fun kv => (kV kv.1, kv.2)) ∧ KR Kt ι F us kvs := by
  induction r with
  | nil => exact ⟨[], rfl, .nil⟩
  | cons hx hy t ih =>
    rw [List.all_cons, Bool.and_eq_true] at h
    obtain ⟨j, rfl⟩ := ky_ex hx h.1
    obtain ⟨us, rfl, q⟩ := ih h.2
    exact ⟨(j, _) :: us, rfl, .cons hx hy q⟩
theorem KR.merge {ι : List Addr} {F : Hp} {ws : List (Key × V)} {lvs : List (D × D)} (r : KR Kt ι F ws lvs) : ∀ {us : List (Key × V)} {kvs : List (D × D)}, KR Kt ι F us kvs → KR Kt ι F (mergeK us ws) (mergep kvs lvs) := by
  induction r with
  | nil => exact fun q => q
  | cons hk hv t ih => exact fun q => ih (q.put hk hv)
theorem se_disp (h : PPy Kt X W pos keys vals m) (hall : keys.all (·.isSome) = true := by rfl) (hl : keys.length = vals.length := by rfl) (h0 : keys ≠ [] := by intro h; cases h) (h15 : keys.length ≤ 15 := by decide) :
    PE X (.Dict keys vals pos) (te Kt W (vDisp m)) := by
  obtain ⟨trs, h1, h2⟩ := h.ex
  refine L2.PE.imp (pe_disp h1 hall hl h0 h15) fun σ H Q ⟨Φ, ι, F, e, g, S, h⟩ p hp => ?_
  obtain ⟨u, rfl, R, x⟩ := newD S.rel hp false
  refine h2 _ _ _ ⟨Φ, ι ++ [p], F, e, g ++ [.dct false []], ⟨S.env.mono x, R⟩, (po.bind (Rl := DVps Kt) (po.mono x h)).imp fun ps H2 ⟨ι2, F2, g2, kvs, x2, R2, r2, h⟩ => ?_⟩
  have ip : ι2[g.length]? = some p := x2.i _ _ (get_snoc S.rel.len)
  split at h
  · rename_i z
    obtain ⟨hF, us, e3, r3⟩ := R2.ob _ _ _ z ip
    cases r3
    refine ⟨e3, ?_⟩
    split at h
    · rename_i hh
      rw [Bool.and_eq_true] at hh
      obtain ⟨us, rfl, q⟩ := r2.ky hh.2
      exact ⟨us, rfl, by rw [q.length]; exact of_decide_eq_true hh.1, h _ _ _ _ Ex.refl (R2.put ip hF ⟨hF, _, upd_same, q.merge .nil⟩ (by rw [e3]; exact noT_dK)) (.ref ip)⟩
    · exact h.elim
  · exact h.elim
end
/-! ### xs.pop() -/
def vPop0 (o : EM) : EM := fun e g => (o e g).bind fun d g1 => match d with
  | .ref l => (match g1[l]? with
    | some (.lst ds) => (match ds[ds.length - 1]? with
      | some z => .ok z (g1.set l (.lst ds.dropLast))
      | none => .stuck)
    | _ => .stuck)
  | _ => .stuck
section
variable {Kt : Kit} {X : Cx} {W : WX} {k : Nat} {a b c : Expr} {ma mb mc : EM} {pos : Pos}
theorem se_pop0 {p : Pos} (A : At Kt X W k) (ho : PE X a (te Kt W ma)) (hbase : attributeBase a "pop" X.env (eval a X.env) = eval a X.env := by rfl) (hline : (p.endLine == pos.line) = true := by rfl) :
    PE X (.Call (.Attribute a "pop" p) [] [] pos) (te Kt W (vPop0 ma)) := by
  have h := pe_bm0 (cpos := pos) (apos := p) PySem.F.plainAttrs_list PySem.F.slot_list_pop PySem.F.type_list_pop mt_pop ho hbase hline
  rw [A.eK] at h
  refine L2.PE.imp h fun σ H Q ⟨Φ, ι, F, e, g, S, h⟩ => ⟨Φ, ι, F, e, g, S, (po.bind (Rl := DV Kt) h).imp fun v H1 ⟨ι1, F1, g1, d, x1, R1, r1, h1⟩ => ?_⟩
  split at h1
  · rename_i l
    split at h1
    · rename_i ds e1
      split at h1
      · rename_i z hz
        refine ⟨tyV_l R1 r1 (by unfold lsD; rw [snap_ref, e1]), ?_⟩
        cases r1 with
        | @ref _ ad e2 =>
        obtain ⟨hF, vs, e3, r4⟩ := R1.ob _ _ _ e1 e2
        obtain ⟨w, w1, w2⟩ := r4.get hz
        refine ⟨ad, vs, w, rfl, rfl, e3, by rw [r4.length]; exact w1, h1 _ _ _ _ Ex.refl (R1.put e2 hF ⟨hF, _, upd_same, ?_⟩ (by rw [e3]; exact noT_lst)) w2⟩
        rw [List.dropLast_eq_take, List.dropLast_eq_take, r4.length]
        exact r4.take _
      · exact h1.elim
    · exact h1.elim
  · exact h1.elim
end
/-! ### xs * n that is an object -/
def vMulO (a b : EM) : EM := fun e g => (a e g).bind fun x g1 => (b e g1).bind fun y g2 => match x, y with
  | .lst xs, .int j => (match nB xs.length j with
    | true => .ok (.ref g2.length) (g2 ++ [.lst (List.replicate j.toNat xs).flatten])
    | false => .stuck)
  | _, _ => .stuck
section
variable {Kt : Kit} {X : Cx} {W : WX} {k : Nat} {a b c : Expr} {ma mb mc : EM} {pos : Pos}
theorem se_mulO (ha : PE X a (te Kt W ma)) (hb : PE X b (te Kt W mb)) : PE X (.BinOp a .Mult b pos) (te Kt W (vMulO ma mb)) := by
  refine (pe_op or_mul ha hb).imp fun σ H Q ⟨Φ, ι, F, e, g, S, h⟩ => ⟨Φ, ι, F, e, g, S, (po.bind (Rl := DV Kt) h).imp fun v H1 ⟨ι1, F1, g1, d, x1, R1, r1, h1⟩ => ?_⟩
  refine ⟨Φ, ι1, F1, e, g1, ⟨S.env.mono x1, R1⟩, (po.bind (Rl := DV Kt) h1).imp fun v2 H2 ⟨ι2, F2, g2, d2, x2, R2, r2, h2⟩ => ?_⟩
  split at h2
  · rename_i xs j
    split at h2
    · rename_i hc
      have r1 := r1.mono x2
      cases r1 with
      | lst e1 q1 =>
      cases r2
      have hc := nB_ok hc
      exact .inr ⟨_, _, _, rfl, rfl, R2.sub _ _ e1, by have := hc.1; omega, by have := hc.2.1; omega, by rw [q1.length]; exact hc.2.2, newO R2 (q1.rep _) fun ι' F' H' v x R r => h2 _ _ _ _ x R r⟩
    · exact h2.elim
  · exact h2.elim
end
/-! ### dict([(k, v), ..]) -/
def prsD : List D → Option (List (D × D))
  | [] => some []
  | .tup [k, v] :: r => (match kyD k, prsD r with
    | true, some q => some ((k, v) :: q)
    | _, _ => none)
  | _ => none
def vDctP (a : AM) : EM := fun e g => (a e g).bind fun ds g1 => match ds with
  | [d] => (match lsD g1 d with
    | some xs => (match prsD xs with
      | some kvs => .ok (.ref g1.length) (g1 ++ [.dct false (mergep [] kvs)])
      | none => .stuck)
    | none => .stuck)
  | _ => .stuck
section
variable {Kt : Kit} {X : Cx} {W : WX} {k : Nat} {a b c : Expr} {es : List Expr} {ms : AM} {ma mb mc : EM} {pos : Pos}
theorem prs_ok {Φ : Hp} {ι : List Addr} {F H : Hp} {g : G} (R : RelG Kt Φ ι F g H) : ∀ {xs : List D} {vs : List V} {kvs : List (D × D)}, DVs Kt ι F vs xs → prsD xs = some kvs → ∃ (ps : List Addr) (us : List (Key × V)), vs = ps.map V.ref ∧ Paired (fun p kv => SqT Kt.K H p [kV kv.1, kv.2]) ps us ∧ KR Kt ι F us kvs
  | [], _, _, .nil, h => by
    cases h
    exact ⟨[], [], rfl, .nil, .nil⟩
  | x :: r, _, kvs, .cons hx hr, h => by
    unfold prsD at h
    split at h
    · rename_i h0; cases h0
    · rename_i kd vd r' h0
      cases h0
      split at h
      · rename_i q hk hq
        cases h
        obtain ⟨ps, us, e1, e2, e3⟩ := prs_ok R hr hq
        cases hx with
        | @tup p ws _ f1 r1 =>
        cases r1 with
        | cons rk r2 =>
        cases r2 with
        | cons rv r3 =>
        cases r3
        obtain ⟨j, rfl⟩ := ky_ex rk hk
        exact ⟨p :: ps, (j, _) :: us, by rw [e1]; rfl, .cons (.inl (.inl (R.sub _ _ f1))) e2, .cons rk rv e3⟩
      · cases h
    · cases h
theorem se_dctP {p : Pos} (A : At Kt X W k) (hm : Kt.mg "dict" = none) (ha : PA X (a :: es) (ta Kt W ms)) (hg : Gl X "dict" := by rfl) (he : starEach (a :: es) X.env = (false, eval a X.env) :: starEach es X.env := by rfl) (hpl : (backTo pos (starEach es X.env)).any (·.1) = false := by rfl) :
    PE X (.Call (.Name "dict" p) (a :: es) [] pos) (te Kt W (vDctP ms)) := by
  have h := pe_callTy (p := p) (call_dictP A.calm) hg (A.em ▸ hm) (by decide +kernel) ha (by decide) (by decide) he hpl
  rw [A.eK] at h
  refine L2.PE.imp h fun σ H Q ⟨Φ, ι, F, e, g, S, h⟩ => ⟨Φ, ι, F, e, g, S, (po.bind (Rl := DVs Kt) h).imp fun v H1 ⟨ι1, F1, g1, d1, x1, R1, r1, h1⟩ => ?_⟩
  split at h1
  · rename_i d
    cases r1 with
    | cons r1 r2 =>
    cases r2
    split at h1
    · rename_i xs e1
      split at h1
      · rename_i kvs e2
        obtain ⟨ad, vs, rfl, hs, r⟩ := lsD_ok R1 r1 e1
        obtain ⟨ps, us, rfl, p2, p3⟩ := prs_ok R1 r e2
        refine ⟨ad, ps, us, rfl, .inl (.inl hs), p2, fun q hq => ?_⟩
        have fp : F1 q = none := by
          cases e : F1 q with
          | none => rfl
          | some u => rw [R1.sub q u e] at hq; cases hq
        have x : Ex ι1 F1 (ι1 ++ [q]) F1 := ⟨fun l a h => by rw [List.getElem?_append_left (List.getElem?_eq_some_iff.mp h).1]; exact h, fun _ _ h => h⟩
        obtain ⟨R', x'⟩ := R1.new hq (H' := upd H1 q (.dK (mergeK [] us))) (fun a o h => by rw [upd_ne (ne_of_none h hq)]; exact h) (by rw [upd_same]; simp) (o := .dct false (mergep [] kvs)) ⟨fp, _, upd_same, (p3.mono x).merge .nil⟩
        exact h1 _ _ _ _ x' R' (.ref (get_snoc R1.len))
      · exact h1.elim
    · exact h1.elim
  · exact h1.elim
end
end Y

set_option Elab.async false
set_option linter.all false
set_option maxRecDepth 100000
set_option maxHeartbeats 4000000
/-! ### sorted(xs, key=lambda x: ..): ints as keys -/
namespace Y
open PySem PySem.Spec PyProof.Rows L2
section
variable {prog : Program} {w : World} {A : Around} {E : Value → Shared → Prop} {s : Shared} {a kS : Addr} {vs : List Value} {kz : List Int} {keys : Array Value} {e e1 : Nat} {P : PySem.Fin → Shared → Prop}
/-- the heap behind a sort -/
def hpEnd (h : Heap) (kS a : Addr) (out : Array Value) : Heap := (h.update kS (Obj.mapSeq fun _ => (#[] : Array Value))).update a (Obj.mapSeq fun _ => out)
theorem sk_tail {st : SortSt} (nk : s.heap.get? kS = some (seqObj "list" keys e)) (na : s.heap.get? a = some (seqObj "list" #[] e1)) (hka : kS ≠ a)
    (hk : IntsAre keys.toList kz) (hlen : kz.length = vs.length) (h64 : vs.length < 64) (hp : (arrOf st).Perm (keys.zip vs.toArray)) (hs : SortedTo (arrOf st) (arrOf st).size) (hfl : failedOf st = none)
    (h : ∀ out : Array Value, out.size = vs.length → KskOut false kz vs out.toList → P (.done (.ret .none)) { s with heap := hpEnd s.heap kS a out }) :
    wpAny (model prog w) A (ksk_tail a false e1 (.ref kS) st) P E s := by
  have hsz : keys.size = vs.length := by
    have h1 := hk.length
    rw [Array.length_toList] at h1
    omega
  have hsz2 : (arrOf st).size = vs.length := by rw [hp.size_eq, Array.size_zip, hsz, List.size_toArray, Nat.min_self]
  have hout : ((arrOf st).map (·.2)).size = vs.length := by rw [Array.size_map]; exact hsz2
  have s1 := Heap.SameBut.update s.heap kS (Obj.mapSeq fun _ => (#[] : Array Value))
  have na1 : (s.heap.update kS (Obj.mapSeq fun _ => (#[] : Array Value))).get? a = some (seqObj "list" #[] e1) := (s1.2 a hka.symm).trans na
  unfold ksk_tail
  try dsimp only
  refine wpAny_bind (listUpdate_at nk rfl ?_ (by rw [hsz, sizeLine_eq]; omega) (Nat.zero_le _))
  refine wpAny_bind (wpAny_letGo ?_)
  refine wpAny_bind (seqEpoch_at na1 rfl ?_)
  refine wpAny_bind (listUpdate_at na1 rfl ?_ (Nat.zero_le _) (Nat.le_trans (Nat.le_of_eq (show (if false = true then ((arrOf st).map (·.2)).reverse else (arrOf st).map (·.2)).size = vs.length from hout)) (by rw [sizeLine_eq]; omega)))
  rw [hfl]
  simp only [bne_self_eq_false, Bool.false_eq_true, if_false]
  exact wpAny_pure (h _ hout (ksk_out (b := false) hk hp hs))
theorem sk_end (nk : s.heap.get? kS = some (seqObj "list" keys e)) (na : s.heap.get? a = some (seqObj "list" #[] e1)) (hka : kS ≠ a)
    (hk : IntsAre keys.toList kz) (hlen : kz.length = vs.length) (h64 : vs.length < 64)
    (h : ∀ out : Array Value, out.size = vs.length → KskOut false kz vs out.toList → P (.done (.ret .none)) { s with heap := hpEnd s.heap kS a out }) :
    wpAny (model prog w) A (ksk_end a false vs.toArray e1 (.ref kS) keys) P E s := by
  have hsz : keys.size = vs.length := by
    have h1 := hk.length
    rw [Array.length_toList] at h1
    omega
  have hzs : (keys.zip vs.toArray).size = vs.length := by rw [Array.size_zip, hsz, List.size_toArray, Nat.min_self]
  unfold ksk_end
  try dsimp only
  simp only [Bool.false_eq_true, if_false]
  by_cases h2 : vs.toArray.size < 2
  · rw [if_pos h2, if_pos h2]
    refine wpAny_bind (wpAny_pure ?_)
    rw [StateT.run_pure]
    refine wpAny_bind (wpAny_pure ?_)
    try dsimp only
    refine sk_tail (st := SortSt.mk' general' (keys.zip vs.toArray) #[] 7 none) nk na hka hk hlen h64 (Array.Perm.refl _) ?_ rfl h
    intro i j hij hj
    have hj2 : j < (keys.zip vs.toArray).size := hj
    rw [hzs] at hj2
    rw [List.size_toArray] at h2
    have : i = j := by omega
    subst this
    exact Int.le_refl _
  · rw [if_neg h2, if_neg h2]
    rw [List.size_toArray] at h2
    rw [ksk_kind hk (by rw [hsz]; omega)]
    refine wpAny_bind (wpAny_pure ?_)
    refine wpAny_bind (wpAny_mono (wpS_sortRuns (a₀ := keys.zip vs.toArray) (st := SortSt.mk' oneType' (keys.zip vs.toArray) #[] 7 none)
      (Q := fun _ st' => (arrOf st').Perm (keys.zip vs.toArray) ∧ failedOf st' = none ∧ SortedTo (arrOf st') (keys.zip vs.toArray).size)
      (ksk_intKeys hk) ⟨Array.Perm.refl _, rfl, rfl, rfl⟩ (by rw [hzs]; omega) (by rw [hzs]; exact h64) fun st' a1 a2 a3 => ⟨a1, a2, a3⟩) ?_ fun _ _ e => e)
    rintro ⟨⟨⟩, st'⟩ s' ⟨rfl, hp, hf, hs⟩
    try dsimp only
    exact sk_tail nk na hka hk hlen h64 hp (by rw [hp.size_eq]; exact hs) hf h
end
theorem vals_ints_of : ∀ {ns : List Int} {us : List Value}, Vals (ns.map V.int) us → IntsAre us ns
  | [], _, .nil => .nil
  | n :: ns, _, .cons h r => by
    obtain ⟨t, rfl⟩ := h
    exact .cons n t (vals_ints_of r)
theorem vals_snoc {xs : List V} {us : List Value} {x : V} {u : Value} (h : Vals xs us) (r : RelV x u) : Vals (xs ++ [x]) (us ++ [u]) := by
  induction h with
  | nil => exact .cons r .nil
  | cons a _ ih => exact .cons a ih
/-- an arrangement of the values is one of what they stand for -/
theorem perm_lift {α β : Type} {R : α → β → Prop} {l' m' : List β} (p : l'.Perm m') : ∀ {l : List α}, Paired R l l' → ∃ m, l.Perm m ∧ Paired R m m' := by
  induction p with
  | nil => intro l h; cases h; exact ⟨[], .nil, .nil⟩
  | cons x _ ih =>
    intro l h
    cases h with
    | cons r t =>
      obtain ⟨m, h1, h2⟩ := ih t
      exact ⟨_ :: m, h1.cons _, .cons r h2⟩
  | swap x y l =>
    intro l h
    cases h with
    | cons r t =>
      cases t with
      | cons r2 t2 => exact ⟨_, List.Perm.swap _ _ _, .cons r2 (.cons r t2)⟩
  | trans _ _ ih1 ih2 =>
    intro l h
    obtain ⟨m, h1, h2⟩ := ih1 h
    obtain ⟨n, h3, h4⟩ := ih2 h2
    exact ⟨n, h1.trans h3, h4⟩
/-- the keys' arrangement of the items -/
def SortV (kz : List Int) (xs out : List V) : Prop := ∃ ps : List (Int × V), ps.Perm (kz.zip xs) ∧ out = ps.map Prod.snd ∧ ps.Pairwise (fun p q => p.1 ≤ q.1)
theorem zip_paired : ∀ {kz : List Int} {xs : List V} {vs : List Value}, Vals xs vs → Paired (fun (p : Int × V) (q : Int × Value) => p.1 = q.1 ∧ RelV p.2 q.2) (kz.zip xs) (kz.zip vs)
  | [], _, _, _ => .nil
  | _ :: _, _, _, .nil => .nil
  | k :: kz, _, _, .cons r t => .cons ⟨rfl, r⟩ (zip_paired t)
theorem sortV_of {kz : List Int} {xs : List V} {vs out : List Value} (r : Vals xs vs) (h : KskOut false kz vs out) : ∃ ys, SortV kz xs ys ∧ Vals ys out := by
  obtain ⟨ps, h1, rfl, h3⟩ := h
  obtain ⟨m, q1, q2⟩ := perm_lift h1.symm (zip_paired (kz := kz) r)
  have v : ∀ {m : List (Int × V)} {ps : List (Int × Value)}, Paired (fun (p : Int × V) (q : Int × Value) => p.1 = q.1 ∧ RelV p.2 q.2) m ps → Vals (m.map Prod.snd) (ps.map Prod.snd) ∧ m.map Prod.fst = ps.map Prod.fst := fun h => by
    induction h with
    | nil => exact ⟨.nil, rfl⟩
    | cons r _ ih => exact ⟨.cons r.2 ih.1, by rw [List.map_cons, List.map_cons, r.1, ih.2]⟩
  obtain ⟨v1, v2⟩ := v q2
  refine ⟨m.map Prod.snd, ⟨m, q1.symm, rfl, ?_⟩, v1⟩
  have h3' : (ps.map Prod.fst).Pairwise (fun x y => x ≤ y) := by
    rw [List.pairwise_map]
    exact h3.imp fun {p q} h => by simpa using h
  rw [← v2, List.pairwise_map] at h3'
  exact h3'
section
variable {X : Cx} {pins : List (Addr × Obj)} {σ : L2.St} {H : Hp} {s : Shared} {l f : Addr} {xs : List V} {kz : List Int} {Q : VK}
/-- sorted with a key, from what one call of the key does -/
theorem sorted_lam (I : Inv X pins σ H s) (hs : SqL X.K H l xs) (h64 : xs.length < 64) (hkz : kz.length = xs.length) (J : Addr → Addr → Obj → Nat → Hp → Shared → Prop)
    (start : ∀ a kS o s', H a = none → H kS = none → s.heap.objs.size ≤ a → s.heap.objs.size ≤ kS → a ≠ kS → (∀ b u, s.heap.get? b = some u → s'.heap.get? b = some u) → J a kS o 0 (upd (upd H a (.frz o (.lst []))) kS (.lst [])) s')
    (stay : ∀ a kS o i H' s' s'', J a kS o i H' s' → s.heap.objs.size ≤ a → s.heap.objs.size ≤ kS → (∀ b u, b ≠ kS → s'.heap.get? b = some u → s''.heap.get? b = some u) → J a kS o i H' s'')
    (turn : ∀ a kS o i x k v H' s', a ≠ kS → xs[i]? = some x → kz[i]? = some k → RelV x v → Inv X pins σ H' s' → H' a = some (.frz o (.lst [])) → H' kS = some (.lst ((kz.take i).map V.int)) → J a kS o i H' s' →
      wpAny (model X.prog X.w) X.A.in1.in1 (call (.ref f) [v]) (fun u s'' => ∃ t H'', u = .int k t ∧ Inv X pins σ H'' s'' ∧ H'' a = some (.frz o (.lst [])) ∧ H'' kS = some (.lst ((kz.take i).map V.int)) ∧ J a kS o (i + 1) (upd H'' kS (.lst ((kz.take (i + 1)).map V.int))) s'') (fun _ _ => False) s')
    (done : ∀ a kS o H' s' out, a ≠ kS → J a kS o xs.length H' s' → H' a = some (.frz o (.lst [])) → H' kS = some (.lst (kz.map V.int)) → SortV kz xs out → Q (.ref a) (upd (upd (upd H' a (.lst [])) kS (.lst [])) a (.lst out))) :
    wpAny (model X.prog X.w) X.A (call (.builtin "sorted") [.ref l] [(Str.ofString "key", .ref f)]) (EP X pins σ Q) X.xe s := by
  obtain ⟨vs, rv, hl, hz⟩ := I.list hs
  have lenV : xs.length = vs.length := rv.length
  refine call_function_entry_kw kind_sorted plain_sorted entry_sorted (ksk_s1 _ _) ?_
  unfold Builtin.«sorted»
  refine wpAny_bind (m := checkCount "sorted" 1 1 _) (wpAny_pure ?_)
  refine wpAny_bind (collect_list hl.isList ?_ (by rw [sizeLine_eq]; omega))
  refine wpAny_bind (wpAny_newList ?_ (by rw [sizeLine_eq]; omega))
  have hsz : ((s.heap.push (seqObj "list" #[] 0)).update s.heap.objs.size (Obj.mapSeq (· ++ vs.toArray))).objs.size = s.heap.objs.size + 1 := by
    rw [Heap.size_update, size_push']
  have hoL : (((s.heap.push (seqObj "list" #[] 0)).update s.heap.objs.size (Obj.mapSeq (· ++ vs.toArray))).push (seqObj "list" vs.toArray 0)).get? (s.heap.objs.size + 1) = some (seqObj "list" vs.toArray 0) := by
    rw [← hsz]; exact Heap.get?_push_size _ rfl
  have keep : ∀ b o, s.heap.get? b = some o → (((s.heap.push (seqObj "list" #[] 0)).update s.heap.objs.size (Obj.mapSeq (· ++ vs.toArray))).push (seqObj "list" vs.toArray 0)).get? b = some o := fun b o q => by
    have hlt : b < s.heap.objs.size := Heap.lt_size q
    rw [Heap.get?_push_ne _ _ _ (by rw [hsz]; exact Nat.ne_of_lt (Nat.lt_succ_of_lt hlt)), Heap.get?_update_ne _ _ _ _ (Nat.ne_of_lt hlt), Heap.get?_push_ne _ _ _ (Nat.ne_of_lt hlt)]
    exact q
  have hsz2 : (((s.heap.push (seqObj "list" #[] 0)).update s.heap.objs.size (Obj.mapSeq (· ++ vs.toArray))).push (seqObj "list" vs.toArray 0)).objs.size = s.heap.objs.size + 2 := by
    rw [size_push', hsz]
  show wpAny _ _ _ _ _ { s with heap := ((s.heap.push (seqObj "list" #[] 0)).update s.heap.objs.size (Obj.mapSeq (· ++ vs.toArray))).push (seqObj "list" vs.toArray 0) }
  rw [hsz]
  generalize ((s.heap.push (seqObj "list" #[] 0)).update s.heap.objs.size (Obj.mapSeq (· ++ vs.toArray))).push (seqObj "list" vs.toArray 0) = hA at *
  refine wpAny_bind (wpAny_holding (wpAny_call_entry_kw slot_list_sort ⟨_, hoL, rfl⟩ entry_list_sort ?body (ksk_l1 _ _)))
  case body =>
  have ha0 : s.heap.objs.size ≤ s.heap.objs.size + 1 := Nat.le_succ _
  have hHa : H (s.heap.objs.size + 1) = none := I.hok.fresh ha0
  generalize hae : s.heap.objs.size + 1 = a at *
  show wpAny (model X.prog X.w) X.A.in1.in1 (Builtin.«list.sort» ⟨[.ref a], [(Str.ofString "key", .ref f)]⟩) _ _ _
  rw [ksk_t1 f a]
  unfold ksk_tree
  refine wpAny_bind (listItems_at hoL rfl ?_)
  refine wpAny_bind (listUpdate_at hoL rfl ?_ (by rw [List.size_toArray, sizeLine_eq]; omega) (Nat.zero_le _))
  have s1 := Heap.SameBut.update hA a (Obj.mapSeq fun _ => (#[] : Array Value))
  obtain ⟨e1, ho1⟩ : ∃ e1, (hA.update a (Obj.mapSeq fun _ => (#[] : Array Value))).get? a = some (seqObj "list" #[] e1) := ⟨_, get?_update_seq hoL fun _ => #[]⟩
  have keepB : ∀ b o, s.heap.get? b = some o → (hA.update a (Obj.mapSeq fun _ => (#[] : Array Value))).get? b = some o := fun b o q => (s1.2 b (Nat.ne_of_lt (Nat.lt_of_lt_of_le (Heap.lt_size q) ha0))).trans (keep b o q)
  have hszB : (hA.update a (Obj.mapSeq fun _ => (#[] : Array Value))).objs.size = s.heap.objs.size + 2 := by rw [Heap.size_update, hsz2]
  generalize hA.update a (Obj.mapSeq fun _ => (#[] : Array Value)) = hB at *
  refine wpAny_bind (seqEpoch_at ho1 rfl ?_)
  refine wpAny_bind (wpAny_newTuple ?_ (by show vs.length ≤ _; rw [sizeLine_eq]; omega))
  refine wpAny_bind (wpAny_newList ?_ (Nat.zero_le _))
  refine wpAny_holding ?_
  have hkS : (hB.push (seqObj "tuple" vs.toArray 0)).objs.size = s.heap.objs.size + 3 := by rw [size_push', hszB]
  have hoK : ((hB.push (seqObj "tuple" vs.toArray 0)).push (seqObj "list" #[] 0)).get? (s.heap.objs.size + 3) = some (seqObj "list" #[] 0) := by
    rw [← hkS]; exact Heap.get?_push_size _ rfl
  have Ia : Inv X pins σ (upd H a (.frz (seqObj "list" #[] e1) (.lst []))) { s with heap := hB, toks := s.toks } := I.laid (t' := s.toks) keepB ha0 ⟨ho1, Nat.zero_le _, [], e1, .nil, ho1⟩
  have Ik : Inv X pins σ (upd (upd H a (.frz (seqObj "list" #[] e1) (.lst []))) (s.heap.objs.size + 3) (.lst [])) { s with heap := (hB.push (seqObj "tuple" vs.toArray 0)).push (seqObj "list" #[] 0), toks := s.toks } :=
    Ia.laid (t' := s.toks) (fun b u q => Heap.get?_push_of_some _ (Heap.get?_push_of_some _ q)) (show hB.objs.size ≤ _ by rw [hszB]; omega) ⟨Nat.zero_le _, [], 0, .nil, hoK⟩
  have keepD : ∀ b o, s.heap.get? b = some o → ((hB.push (seqObj "tuple" vs.toArray 0)).push (seqObj "list" #[] 0)).get? b = some o := fun b o q => Heap.get?_push_of_some _ (Heap.get?_push_of_some _ (keepB b o q))
  have hHk : H (s.heap.objs.size + 3) = none := I.hok.fresh (by omega)
  show wpAny _ _ (ksk_rest a (.ref f) false vs.toArray e1 (.ref (hB.push (seqObj "tuple" vs.toArray 0)).objs.size)) _ _ _
  rw [hkS]
  have hka : s.heap.objs.size + 3 ≠ a := by omega
  have hkge : s.heap.objs.size ≤ s.heap.objs.size + 3 := by omega
  have hage : s.heap.objs.size ≤ a := by omega
  generalize s.heap.objs.size + 3 = kS at *
  have J0 := start a kS (seqObj "list" #[] e1) { s with heap := (hB.push (seqObj "tuple" vs.toArray 0)).push (seqObj "list" #[] 0) } hHa hHk hage hkge hka.symm keepD
  generalize (hB.push (seqObj "tuple" vs.toArray 0)).push (seqObj "list" #[] 0) = hD at *
  unfold ksk_rest
  refine wpAny_bind (wpAny_rule ?_)
  first
    | rw [List.forIn_toArray]
    | (rw [← Array.forIn_toList]; simp only [List.toList_toArray])
    | rw [← Array.forIn_toList]
  have nf : ∀ o' u', X.H_0 a ≠ some (.frz o' u') := fun o' u' z => by
    have q := I.base.frzs a o' u' z
    rw [hHa] at q
    cases q
  refine wpAny_bind (ksk_fold (fun i s' => ∃ H', Inv X pins σ H' s' ∧ H' a = some (.frz (seqObj "list" #[] e1) (.lst [])) ∧ H' kS = some (.lst ((kz.take i).map V.int)) ∧ J a kS (seqObj "list" #[] e1) i H' s') vs 0 _ ⟨_, Ik, by rw [upd_ne hka.symm, upd_same], upd_same, J0⟩ ?step ?done)
  case step =>
    rintro j v s' hv ⟨H', I', e2, e3, J'⟩
    simp only [Nat.zero_add] at e3 J' ⊢
    have hj : j < vs.length := (List.getElem?_eq_some_iff.mp hv).1
    have hx : xs[j]? = some xs[j] := List.getElem?_eq_getElem (by omega)
    have hk : kz[j]? = some kz[j] := List.getElem?_eq_getElem (by omega)
    have rx : RelV xs[j] v := by
      obtain ⟨u, h1, h2⟩ := rv.get hx
      rw [hv] at h1
      cases h1
      exact h2
    refine wpAny_bind (wpAny_attempt (wpAny_mono (turn a kS _ j xs[j] kz[j] v H' s' hka.symm hx hk rx I' e2 e3 J') (fun u s'' he => ?_) fun _ _ hF => hF.elim))
    obtain ⟨t, H2, rfl, I2, e4, e5, J2⟩ := he
    try dsimp only
    obtain ⟨hz2, its, n, r2, ho2⟩ := I2.hok kS _ e5
    have hl2 := r2.length
    rw [List.length_map, List.length_take] at hl2
    have ek : kz.take (j + 1) = kz.take j ++ [kz[j]] := by rw [List.take_add_one, hk]; simp
    have s2 := Heap.SameBut.update s''.heap kS (Obj.mapSeq (·.push (.int kz[j] t)))
    obtain ⟨c2, hc2⟩ : ∃ c2, (s''.heap.update kS (Obj.mapSeq (·.push (.int kz[j] t)))).get? kS = some (seqObj "list" (its.toArray.push (.int kz[j] t)) c2) := ⟨_, get?_update_seq ho2 (·.push (.int kz[j] t))⟩
    refine wpAny_bind (listUpdate_at ho2 rfl ?_ (by rw [List.size_toArray, sizeLine_eq]; omega) (Nat.le_trans (Nat.le_of_eq (Array.size_push ..)) (by rw [List.size_toArray, sizeLine_eq]; omega)))
    have I3 : Inv X pins σ (upd H2 kS (.lst ((kz.take (j + 1)).map V.int))) { s'' with heap := s''.heap.update kS (Obj.mapSeq (·.push (.int kz[j] t))), toks := s''.toks } :=
      I2.write (x := kS) (e := kS) (t' := s''.toks) (by rw [e5]; trivial) (.inl rfl) (fun b u hb q => (s2.2 b hb).trans q) ⟨_, hc2⟩
        ⟨by rw [List.length_map, List.length_take, sizeLine_eq]; omega, its ++ [.int kz[j] t], c2, by rw [ek, List.map_append]; exact vals_snoc r2 ⟨t, rfl⟩, by rw [hc2]; simp⟩
    refine wpAny_pure ⟨rfl, _, I3, by rw [upd_ne hka.symm]; exact e4, upd_same, stay a kS _ _ _ _ _ J2 hage hkge fun b u hb q => (s2.2 b hb).trans q⟩
  case done =>
    rintro s' ⟨H', I', e2, e3, J'⟩
    rw [Nat.zero_add, List.take_of_length_le (by omega)] at e3
    rw [Nat.zero_add, ← lenV] at J'
    obtain ⟨hz2, its, n, r2, ho2⟩ := I'.hok kS _ e3
    obtain ⟨ho3, _⟩ := I'.hok a _ e2
    refine wpAny_bind (listItems_at ho2 rfl ?_)
    refine sk_end (kz := kz) ho2 ho3 hka (by simpa using vals_ints_of r2) (by omega) (by omega) fun out hos hko => ⟨_, rfl, ?_⟩
    obtain ⟨ys, hy1, hy2⟩ := sortV_of rv hko
    have t1 := Heap.SameBut.update s'.heap kS (Obj.mapSeq fun _ => (#[] : Array Value))
    obtain ⟨c1, hc1⟩ : ∃ c1, (s'.heap.update kS (Obj.mapSeq fun _ => (#[] : Array Value))).get? kS = some (seqObj "list" #[] c1) := ⟨_, get?_update_seq ho2 fun _ => #[]⟩
    have na1 : (s'.heap.update kS (Obj.mapSeq fun _ => (#[] : Array Value))).get? a = some (seqObj "list" #[] e1) := (t1.2 a hka.symm).trans ho3
    have t2 := Heap.SameBut.update (s'.heap.update kS (Obj.mapSeq fun _ => (#[] : Array Value))) a (Obj.mapSeq fun _ => out)
    obtain ⟨c2, hc2⟩ : ∃ c2, (hpEnd s'.heap kS a out).get? a = some (seqObj "list" out c2) := ⟨_, get?_update_seq na1 fun _ => out⟩
    have I1 := I'.unlock e2 nf
    have I2 : Inv X pins σ (upd (upd H' a (.lst [])) kS (.lst [])) { s' with heap := s'.heap.update kS (Obj.mapSeq fun _ => (#[] : Array Value)), toks := s'.toks } :=
      I1.write (x := kS) (e := kS) (t' := s'.toks) (by rw [upd_ne hka, e3]; trivial) (.inl rfl) (fun b u hb q => (t1.2 b hb).trans q) ⟨_, hc1⟩ ⟨Nat.zero_le _, [], c1, .nil, hc1⟩
    have I3 : Inv X pins σ (upd (upd (upd H' a (.lst [])) kS (.lst [])) a (.lst ys)) { s' with heap := hpEnd s'.heap kS a out, toks := s'.toks } :=
      I2.write (x := a) (e := a) (t' := s'.toks) (by rw [upd_ne hka.symm, upd_same]; trivial) (.inl rfl) (fun b u hb q => (t2.2 b hb).trans q) ⟨_, hc2⟩ ⟨by rw [hy2.length, Array.length_toList, hos, sizeLine_eq]; omega, out.toList, c2, hy2, by rw [hc2]⟩
    exact wpAny_pure ⟨_, rfl, .ref a, _, I3, rfl, done a kS _ H' s' ys hka.symm J' e2 e3 hy1⟩
end

/-! #### a lambda of one parameter -/
theorem among_keep {pos : Pos} {cv : Value} (l m : List Value) (h : TriplesOk l) (hc : codeAmong pos l = some cv) : codeAmong pos (l ++ m) = some cv := by
  fun_induction TriplesOk l with
  | case1 => simp [codeAmong] at hc
  | case2 a t b u x rest ih =>
    simp only [List.cons_append, codeAmong] at hc ⊢
    split at hc
    · rename_i q
      rw [if_pos q]
      exact hc
    · rename_i q
      rw [if_neg q]
      exact ih h hc
  | case3 l h1 h2 => exact h.elim
theorem cloFrom_nil {cells : List (Str × Addr)} : ∀ {names : List (Str × NameKind)} {acc : List (Str × Addr)}, (∀ y ∈ names, y.2 ≠ .free) → cloFrom cells names acc = acc
  | [], _, _ => rfl
  | (n, k) :: r, acc, h => by
    have hk : k ≠ .free := h (n, k) List.mem_cons_self
    have hb : (k == NameKind.free) = false := by
      cases k <;> first | rfl | exact absurd rfl hk
    unfold cloFrom
    rw [hb, if_neg Bool.false_ne_true]
    exact cloFrom_nil fun y hy => h y (List.mem_cons_of_mem _ hy)
/-- the body of a lambda, run as that of a def -/
theorem lam_run {CX : CXT} {P : Program} {w : World} {K : PySem.W.Frag} {mg : Str → Option Value} {base : Heap} {k : Nat} {f c' : Addr} {name qual : Str} {params : Arguments} {body : Expr} {scope : Scope} {pm ctv : Value} {N ps : List Str} (S : FnScope N ps scope)
    {A : Around} {outer : List Env} {s : Shared} {H : Hp} {args : Args} {us : List Value} {vs : List V} {Q : VK} {E : XK} {t : TE} (hf : s.heap.get? f = some (PySem.W.kla_obj name qual params body scope [] pm c' ctv)) (hco : s.heap.CodeRec (.ref c') qual) (hr : Room (k + 1) A) (e0 : Env0 P w K mg base A outer s H)
    (hb : BindsTo s (PySem.W.kla_fn name qual params body scope [] pm (.ref c') ctv) args (ps.zip us)) (r : Vals vs us) (hl : vs.length = ps.length)
    (hbody : Room k (A.deeper (envOfC qual scope s.heap.objs.size f (.ref c'))) → PE (cxOf CX P w K mg base N qual scope f (.ref c') A outer s H E) body t) (hq : t (L2.start N vs) H Q) :
    codeAny (model P w) A (.call (.ref f) args) (CR CX outer P w H s Q E) s := by
  have lim : s.heap.NoLimit := e0.mod.nolimit.keeps fun b o e => (e0.bs b o e).1
  have hkind : ∀ y ∈ ps.zip us, scope.names.lookup y.1 = some .local ∨ (scope.names.lookup y.1 = some .cell ∧ ((cellsFrom (s.heap.objs.size + 1) scope.names []).lookup y.1).isSome = true) := fun ⟨n, v⟩ hy => by
    rcases S.par n (List.of_mem_zip hy).1 with q | q
    · exact .inl q
    · exact .inr ⟨q, PySem.W.cellsFrom_some _ _ _ (.inl q)⟩
  refine PySem.W.kla_callFunE hr.depth hf rfl S.co S.gen rfl hco (hb _ _ _ _ ?_)
  refine wpAny_newFunctionEnv_cells S.kind hkind fun env he s1 x => ?_
  subst he
  refine ⟨lim.keeps x.toInCall.keep, ?_⟩
  have I : Inv (cxOf CX P w K mg base N qual scope f (.ref c') A outer s H E) [] (L2.start N vs) H s1 := inv_start S hr.hd e0 hl r x
  refine PySem.W.kla_codeExpr (wpAny_mono ((hbody (hr.deeper _)).run [] _ _ H Q I hq) (fun v s' hs => ?_) fun e s' hs => hs)
  obtain ⟨w', H', J', rv, q⟩ := hs
  exact ⟨w', H', J'.os, J'.bare, J'.base, J'.hok, rv, q⟩
section
variable {X : Cx} {pins : List (Addr × Obj)} {σ : L2.St} {H : Hp} {s : Shared}
/-- the lambda is made; where its code object stands in the table -/
theorem lam_make3 {T : List (Addr × Str)} {c P : Addr} {params : Arguments} {body : Expr} {scope : Scope} {pos : Pos} {E : Value → Shared → Prop} {Q : Value → Shared → Prop} (I : Inv X pins σ H s) (TB : LamX.TabB X.base X.mg c P) (hcode : X.env.code = .ref c)
    (hm : (P, X.env.qual ++ "<lambda>") ∈ T) (hu : ∀ p ∈ T, p.1 = P → p.2 = X.env.qual ++ "<lambda>") (hT : LamX.Tabs T H) (hdef : defaultsOf params X.env = ([], [])) (hfree : ∀ y ∈ scope.names, y.2 = .free → ∃ c, X.env.cells.lookup y.1 = some c)
    (h : ∀ (f c' : Addr) (pm ctv : Value) (H1 : Hp) (s' : Shared), Inv X pins σ H1 s' → (H1 = H ∨ ∃ o1 o2, H c' = none ∧ H1 = upd (upd H P (.tbl o1)) c' o2) → LamX.Tabs T H1 →
      s'.heap.get? f = some (PySem.W.kla_obj "<lambda>" (X.env.qual ++ "<lambda>") params body scope (cloFrom X.env.cells scope.names []) pm c' ctv) → H1 f = none → f ∉ frs X.stack → (∃ ps : Array Value, H1 P = some (.tbl ps) ∧ TriplesOk ps.toList ∧ codeAmong pos ps.toList = some (.ref c')) → Q (.ref f) s') :
    wpAny (model X.prog X.w) X.A (eval (.Lambda params body scope pos) X.env) Q E s := by
  obtain ⟨ps, hP, ht, ha⟩ := hT _ hm
  refine PySem.W.kla_eval hdef ?_
  have bP : s.heap.BuiltinsAt X.mg P := TB.bm.keeps I.bk
  have hP' : s.heap.get? P = some { cls := .none, data := .fields ps } := I.hok P _ hP
  have nofr : ∀ f, s.heap.objs.size ≤ f → f ∉ frs X.stack := fun f hf z => by
    rcases List.mem_cons.mp (I.stkSub _ z) with e | e
    · have h1 := I.lt
      rw [← e] at h1
      exact Nat.lt_irrefl _ (Nat.lt_of_lt_of_le h1 hf)
    · exact I.nofs hf e
  cases hc : codeAmong pos ps.toList with
  | none =>
    refine PySem.W.kla_makeFunction (mg := X.mg) (c := c) (P := P) (ps := ps) (closure_ok hfree) I.ok.glob (I.mod.glob.keeps I.bk) hcode (TB.code.keeps I.bk) hP' ht hc TB.gP bP fun c' ctv h' tk hx hge hlt hrec htb => ?_
    obtain ⟨c2, oc, vs, t, e2, hoc, hd, hv⟩ := hrec
    cases e2
    have hsz : s.heap.objs.size ≤ h'.objs.size := Nat.le_trans hge (Nat.le_of_lt hlt)
    have nC : H c' = none := I.hok.fresh hge
    have I1 := LamX.inv_table (t' := tk) (more := #[rawInt pos.line, rawInt pos.col, .ref c']) (h' := h'.push (PySem.W.kla_obj "<lambda>" (X.env.qual ++ "<lambda>") params body scope (cloFrom X.env.cells scope.names []) ((X.mg "__name__").getD .none) c' ctv)) I hP
      (fun b o hb e => Heap.get?_push_of_some _ (hx b o hb e)) (Heap.get?_push_of_some _ htb) hge ⟨oc, vs, t, Heap.get?_push_of_some _ hoc, hd, hv⟩
    have eL : (ps ++ #[rawInt pos.line, rawInt pos.col, .ref c']).toList = ps.toList ++ [rawInt pos.line, rawInt pos.col, .ref c'] := by simp
    have hE : LamX.ExtN H (upd (upd H P (.tbl (ps ++ #[rawInt pos.line, rawInt pos.col, .ref c']))) c' (LamX.CodeO c' (X.env.qual ++ "<lambda>"))) := fun b o e n => by
      rw [upd_ne (ne_of_none e nC), upd_ne (fun z => n ps (Option.some.inj (e.symm.trans (by rw [z]; exact hP))))]
      exact e
    refine h h'.objs.size c' ((X.mg "__name__").getD .none) ctv _ _ I1 (.inr ⟨_, _, nC, rfl⟩) (fun p hp => ?_) (Heap.get?_push_size _ rfl) ?_ (nofr _ hsz) ⟨_, by rw [upd_ne (ne_of_none hP nC), upd_same], by rw [eL]; exact PySem.TriplesOk_snoc _ _ _ _ ht, by rw [eL]; exact codeAmong_snoc _ ht hc⟩
    · by_cases hb : p.1 = P
      · rw [hu p hp hb, hb]
        refine ⟨_, by rw [upd_ne (ne_of_none hP nC), upd_same], by rw [eL]; exact PySem.TriplesOk_snoc _ _ _ _ ht, fun p' cv hcv => ?_⟩
        rw [eL] at hcv
        rcases LamX.among_app _ ht hcv with z | z
        · obtain ⟨c0, e1, e2⟩ := ha p' cv z
          exact ⟨c0, e1, hE _ _ e2 LamX.codeO_ne⟩
        · exact ⟨c', z, upd_same⟩
      · obtain ⟨ps', a1, a2, a3⟩ := hT p hp
        refine ⟨ps', by rw [upd_ne (ne_of_none a1 nC), upd_ne hb]; exact a1, a2, fun p' cv hcv => ?_⟩
        obtain ⟨c0, e1, e2⟩ := a3 p' cv hcv
        exact ⟨c0, e1, hE _ _ e2 LamX.codeO_ne⟩
    · have n1 : h'.objs.size ≠ c' := Nat.ne_of_gt hlt
      have n2 : h'.objs.size ≠ P := Nat.ne_of_gt (Nat.lt_of_lt_of_le (Heap.lt_size hP') hsz)
      rw [upd_ne n1, upd_ne n2]
      exact I.hok.fresh hsz
  | some cv =>
    obtain ⟨c', e, hco⟩ := ha pos cv hc
    subst e
    refine PySem.W.kla_makeFunctionHit (mg := X.mg) (c := c) (P := P) (ps := ps) (closure_ok hfree) I.ok.glob (I.mod.glob.keeps I.bk) hcode (TB.code.keeps I.bk) hP' ht hc bP fun ctv h' tk hx hsz => ?_
    have I1 : Inv X pins σ H { s with heap := h'.push (PySem.W.kla_obj "<lambda>" (X.env.qual ++ "<lambda>") params body scope (cloFrom X.env.cells scope.names []) ((X.mg "__name__").getD .none) c' ctv), toks := tk } := I.kept fun b o e => Heap.get?_push_of_some _ (hx b o e)
    exact h h'.objs.size c' ((X.mg "__name__").getD .none) ctv H _ I1 (.inl rfl) hT (Heap.get?_push_size _ rfl) (I.hok.fresh hsz) (nofr _ hsz) ⟨ps, hP, ht, hc⟩
end
/-! #### the order, as data -/
def insK (k : Int) (d : D) : List (Int × D) → List (Int × D)
  | [] => [(k, d)]
  | (j, e) :: r => bif decide (k ≤ j) then (k, d) :: (j, e) :: r else (j, e) :: insK k d r
def srtK : List (Int × D) → List (Int × D)
  | [] => []
  | (k, d) :: r => insK k d (srtK r)
theorem insK_perm (k : Int) (d : D) : ∀ r, (insK k d r).Perm ((k, d) :: r)
  | [] => .refl _
  | (j, e) :: r => by
    unfold insK
    cases decide (k ≤ j) with
    | true => exact .refl _
    | false => exact ((insK_perm k d r).cons _).trans (List.Perm.swap _ _ _)
theorem srtK_perm : ∀ r, (srtK r).Perm r
  | [] => .refl _
  | (k, d) :: r => (insK_perm k d _).trans ((srtK_perm r).cons _)
theorem insK_srt (k : Int) (d : D) : ∀ r : List (Int × D), r.Pairwise (fun p q => p.1 ≤ q.1) → (insK k d r).Pairwise (fun p q => p.1 ≤ q.1)
  | [], _ => by unfold insK; exact List.pairwise_singleton _ _
  | (j, e) :: r, h => by
    unfold insK
    cases hk : decide (k ≤ j) with
    | true =>
      have hk := of_decide_eq_true hk
      refine List.pairwise_cons.mpr ⟨fun p hp => ?_, h⟩
      rcases List.mem_cons.mp hp with rfl | hp
      · exact hk
      · exact Int.le_trans hk ((List.pairwise_cons.mp h).1 p hp)
    | false =>
      have hk := of_decide_eq_false hk
      refine List.pairwise_cons.mpr ⟨fun p hp => ?_, insK_srt k d r (List.pairwise_cons.mp h).2⟩
      rcases List.mem_cons.mp ((insK_perm k d r).mem_iff.mp hp) with rfl | hp
      · show j ≤ k
        omega
      · exact (List.pairwise_cons.mp h).1 p hp
theorem srtK_srt : ∀ r : List (Int × D), (srtK r).Pairwise (fun p q => p.1 ≤ q.1)
  | [] => List.Pairwise.nil
  | (k, d) :: r => insK_srt k d _ (srtK_srt r)
theorem srtK_one : ∀ {a b : List (Int × D)}, a.Perm b → (a.map Prod.fst).Nodup → a.Pairwise (fun p q => p.1 ≤ q.1) → b.Pairwise (fun p q => p.1 ≤ q.1) → a = b
  | [], b, p, _, _, _ => by
    have := p.length_eq
    cases b with
    | nil => rfl
    | cons _ _ => simp at this
  | x :: a, b, p, nd, sa, sb => by
    cases b with
    | nil =>
      have := p.length_eq
      simp at this
    | cons y b =>
      rw [List.map_cons, List.nodup_cons] at nd
      have e : x = y := by
        rcases List.mem_cons.mp (p.mem_iff.mp List.mem_cons_self) with h | h
        · exact h
        · rcases List.mem_cons.mp (p.mem_iff.mpr List.mem_cons_self) with h2 | h2
          · exact h2.symm
          · exfalso
            have h3 := (List.pairwise_cons.mp sa).1 y h2
            have h4 := (List.pairwise_cons.mp sb).1 x h
            exact nd.1 (by rw [show x.1 = y.1 from Int.le_antisymm h3 h4]; exact List.mem_map.mpr ⟨y, h2, rfl⟩)
      subst e
      rw [srtK_one (List.Perm.cons_inv p) nd.2 (List.pairwise_cons.mp sa).2 (List.pairwise_cons.mp sb).2]
/-- the keys of the items -/
def keysL (kf : EM) (N : Nat) : List D → G → Res (List Int)
  | [], g => .ok [] g
  | d :: ds, g => (noX (kf (startE N [d]) g)).bind fun k g1 => match k with
    | .int i => (keysL kf N ds g1).bind fun ks g2 => .ok (i :: ks) g2
    | _ => .stuck
def vSortK (m kf : EM) (N : Nat) : EM := fun e g => (m e g).bind fun x g1 => match lsD g1 x with
  | some ds => (match decide (ds.length < 64) with
    | true => (keysL kf N ds g1).bind fun ks g2 => (match decide ks.Nodup with
      | true => .ok (.lst ((srtK (ks.zip ds)).map Prod.snd)) g2
      | false => .stuck)
    | false => .stuck)
  | none => .stuck
theorem sort_rel {Kt : Kit} {ι : List Addr} {F : Hp} {ks : List Int} {xs out : List V} {ds : List D} (r : DVs Kt ι F xs ds) (nd : ks.Nodup) (hl : ks.length = xs.length) (h : SortV ks xs out) : DVs Kt ι F out ((srtK (ks.zip ds)).map Prod.snd) := by
  obtain ⟨ps, h1, rfl, h3⟩ := h
  have zp : ∀ {ks : List Int} {xs : List V} {ds : List D}, DVs Kt ι F xs ds → Paired (fun (q : Int × D) (p : Int × V) => p.1 = q.1 ∧ DV Kt ι F p.2 q.2) (ks.zip ds) (ks.zip xs) := by
    intro ks
    induction ks with
    | nil => intro xs ds _; exact .nil
    | cons k ks ih =>
      intro xs ds r
      cases r with
      | nil => exact .nil
      | cons a b => exact .cons ⟨rfl, a⟩ (ih b)
  obtain ⟨m, q1, q2⟩ := perm_lift h1.symm (zp (ks := ks) r)
  have v : ∀ {m : List (Int × D)} {ps : List (Int × V)}, Paired (fun (q : Int × D) (p : Int × V) => p.1 = q.1 ∧ DV Kt ι F p.2 q.2) m ps → DVs Kt ι F (ps.map Prod.snd) (m.map Prod.snd) ∧ m.map Prod.fst = ps.map Prod.fst := fun h => by
    induction h with
    | nil => exact ⟨.nil, rfl⟩
    | cons r _ ih => exact ⟨.cons r.2 ih.1, by rw [List.map_cons, List.map_cons, r.1, ih.2]⟩
  obtain ⟨v1, v2⟩ := v q2
  have sm : m.Pairwise (fun p q => p.1 ≤ q.1) := by
    have h3' : (ps.map Prod.fst).Pairwise (fun x y => x ≤ y) := by rw [List.pairwise_map]; exact h3
    rw [← v2, List.pairwise_map] at h3'
    exact h3'
  have ndm : (m.map Prod.fst).Nodup := by
    have e : ((ks.zip ds).map Prod.fst) = ks := by rw [List.map_fst_zip (by rw [hl, r.length]; exact Nat.le_refl _)]
    exact (q1.map Prod.fst).nodup_iff.mp (by rw [e]; exact nd)
  have e := srtK_one (q1.symm.trans (srtK_perm _).symm) ndm sm (srtK_srt _)
  rw [← e]
  exact v1

/-! #### the rule -/
theorem noT_frz {o : Obj} {u : HO} : NoT (some (.frz o u)) := ⟨(fun _ h => by cases h), (fun _ _ h => by unfold LamX.CodeO at h; cases h)⟩
/-- what is told of a def that holds a lambda: its code object, its table -/
def LamD (Kt : Kit) (cd : Value) (q : Str) : Prop := ∃ c P, cd = .ref c ∧ (c, P, q) ∈ Kt.tbs ∧ (∀ t ∈ Kt.tbs, t.2.1 = P → t.2.2 = q) ∧ LamX.TabB Kt.base Kt.mg c P
theorem RelG.tab {Kt : Kit} {Φ : Hp} {ι : List Addr} {F H H1 : Hp} {g : G} {c P c' : Addr} {q : Str} (R : RelG Kt Φ ι F g H) (hm : (c, P, q) ∈ Kt.tbs) (h : H1 = H ∨ ∃ o1 o2, H c' = none ∧ H1 = upd (upd H P (.tbl o1)) c' o2) (hT : ∀ t ∈ Kt.tbs, LamX.TabS H1 t.2.1 t.2.2) : RelG Kt Φ ι F g H1 := by
  rcases h with rfl | ⟨o1, o2, hc, rfl⟩
  · exact R
  · obtain ⟨t1, t2, t3, t4⟩ := R.tb _ hm
    have at_ : ∀ b, b ≠ P → H b ≠ none → upd (upd H P (.tbl o1)) c' o2 b = H b := fun b h1 h2 => by
      rw [upd_ne (fun z => h2 (by rw [z]; exact hc)), upd_ne h1]
    refine ⟨R.len, R.inj, fun b u e => ?_, fun i b e => ?_, fun b u e => ?_, fun l b ob e1 e2 => ?_, fun t ht => ⟨hT t ht, (R.tb t ht).2⟩, R.nt⟩
    · rw [at_ b (fun z => by rw [z] at e; exact absurd (t2.symm.trans e) (by simp)) (by rw [R.sub b u e]; simp)]
      exact R.sub b u e
    · rw [at_ b (fun z => t4 i (by rw [← z]; exact e)) (R.on i b e)]
      exact R.on i b e
    · obtain ⟨q1, q2, q3⟩ := R.fr b u e
      rw [at_ b (fun z => by rw [z] at e; exact absurd (t3.symm.trans e) (by simp)) (by rw [q1]; simp)]
      exact ⟨q1, q2, q3⟩
    · exact (R.ob l b ob e1 e2).mono Ex.refl (at_ b (fun z => t4 l (by rw [← z]; exact e2)) (R.on l b e2)) fun n => n
theorem keysL_cons {kf : EM} {N : Nat} {d : D} {ds : List D} {g g2 : G} {ks : List Int} (h : keysL kf N (d :: ds) g = .ok ks g2) : ∃ k ks' g1, ks = k :: ks' ∧ kf (startE N [d]) g = .ok (.int k) g1 ∧ keysL kf N ds g1 = .ok ks' g2 := by
  unfold keysL at h
  cases z : kf (startE N [d]) g with
  | ok x g1 =>
    rw [z, noX_ok] at h
    simp only [Res.bind] at h
    split at h
    · rename_i i
      cases z2 : keysL kf N ds g1 with
      | ok ks' g3 =>
        rw [z2] at h
        simp only at h
        cases h
        exact ⟨i, ks', g1, rfl, rfl, z2⟩
      | exn c g3 => rw [z2] at h; cases h
      | stuck => rw [z2] at h; cases h
    · cases h
  | exn c g1 => rw [z] at h; cases h
  | stuck => rw [z] at h; cases h
theorem keysL_exn {kf : EM} {N : Nat} {c : Nat} {g2 : G} : ∀ {ds : List D} {g : G}, keysL kf N ds g ≠ .exn c g2
  | [], g, h => by cases h
  | d :: ds, g, h => by
    unfold keysL at h
    cases z : kf (startE N [d]) g with
    | ok x g1 =>
      rw [z, noX_ok] at h
      simp only [Res.bind] at h
      split at h
      · cases z2 : keysL kf N ds g1 with
        | ok ks' g3 => rw [z2] at h; cases h
        | exn c g3 => exact keysL_exn z2
        | stuck => rw [z2] at h; cases h
      · cases h
    | exn c g1 => rw [z] at h; cases h
    | stuck => rw [z] at h; cases h
theorem keysL_len {kf : EM} {N : Nat} : ∀ {ds : List D} {g g2 : G} {ks : List Int}, keysL kf N ds g = .ok ks g2 → ks.length = ds.length
  | [], _, _, _, h => by cases h; rfl
  | d :: ds, _, _, _, h => by
    obtain ⟨k, ks', g1, rfl, _, h2⟩ := keysL_cons h
    rw [List.length_cons, List.length_cons, keysL_len h2]
theorem upd_comm {H : Hp} {a b : Addr} {o u : HO} (h : a ≠ b) : upd (upd H a o) b u = upd (upd H b u) a o := by
  funext c
  unfold upd
  by_cases h1 : c = b
  · subst h1
    rw [if_pos rfl, if_neg (Ne.symm h), if_pos rfl]
  · rw [if_neg h1]
    by_cases h2 : c = a
    · rw [if_pos h2, if_pos h2]
    · rw [if_neg h2, if_neg h2, if_neg h1]
theorem se_sortK {Kt : Kit} {X : Cx} {W : WX} {k : Nat} {a body : Expr} {ma kf : EM} {params : Arguments} {scope : Scope} {N : List Str} {px : Str} {p1 pos lpos kpos : Pos} (A : At Kt X W (k + 3)) (hm : Kt.mg "sorted" = none) (L : LamD Kt X.env.code (X.env.qual ++ "<lambda>")) (ha : PE X a (te Kt W ma)) (S : FnScope N [px] scope)
    (hbody : ∀ (f c' : Addr) (Ar : Around) (outer : List Env) (s : Shared) (H : Hp), At Kt (cxOf (L2.CX X.prog X.w) X.prog X.w X.K X.mg X.base N (X.env.qual ++ "<lambda>") scope f (.ref c') Ar outer s H (fun _ _ _ => False)) WF k → PE (cxOf (L2.CX X.prog X.w) X.prog X.w X.K X.mg X.base N (X.env.qual ++ "<lambda>") scope f (.ref c') Ar outer s H (fun _ _ _ => False)) body (te Kt WF kf))
    (hbind : ∀ (q : Str) (pm cv ctv : Value) (u : Value), bindArgs (PySem.W.kla_fn "<lambda>" q params body scope [] pm cv ctv) ⟨[u], []⟩ = pure [(px, u)])
    (hdef : defaultsOf params X.env = ([], []) := by rfl) (hg : Gl X "sorted" := by rfl)
    (he : backTo pos (starEach [a] X.env) = (false, eval a X.env) :: backTo pos (starEach [] X.env) := by rfl) (hst : starEach [a] X.env = (false, eval a X.env) :: starEach [] X.env := by rfl) (hpl : (backTo pos (starEach [a] X.env)).any (·.1) = false := by rfl) :
    PE X (.Call (.Name "sorted" p1) [a] [⟨some (Str.ofString "key"), .Lambda params body scope lpos, kpos⟩] pos) (te Kt W (vSortK ma kf N.length)) := by
  refine ⟨fun pins s σ H Q I h => ?_⟩
  obtain ⟨Φ, ι, F, e, g, S0, h⟩ := h
  obtain ⟨c, P, hcode, hmem, huniq, TB⟩ := L
  refine wpAny_Call_Name_kw (ld_blt I hg (A.em ▸ hm) bt_sorted ?_ (by decide) (by decide))
  refine PyProof.Rows.callWith_kw (thn ((pa_cons ha pa_nil hst).run pos pins s σ H (fun vs H1 => ∃ v ι1 F1 g1 d, vs = [v] ∧ Ex ι F ι1 F1 ∧ RelG Kt Φ ι1 F1 g1 H1 ∧ DV Kt ι1 F1 v d ∧ po Kt Φ W σ (DV Kt) ι1 F1 (match lsD g1 d with
      | some ds => (match decide (ds.length < 64) with
        | true => (keysL kf N.length ds g1).bind fun ks g2 => (match decide ks.Nodup with
          | true => .ok (.lst ((srtK (ks.zip ds)).map Prod.snd)) g2
          | false => .stuck)
        | false => .stuck)
      | none => .stuck) Q) I ⟨Φ, ι, F, e, g, S0, (po.bind (Rl := DV Kt) h).imp fun v H1 ⟨ι1, F1, g1, d, x1, R1, r1, h1⟩ => ⟨v, ι1, F1, g1, d, rfl, x1, R1, r1, h1⟩⟩) fun us s1 ⟨vs, H1, I1, rv, q1⟩ => ?_) he hpl (by rfl) (by rfl)
  obtain ⟨v, ι1, F1, g1, d, rfl, x1, R1, r1, h1⟩ := q1
  show wpAny _ _ (evalAll ((do let v ← eval (.Lambda params body scope lpos) X.env; standAt pos; pure v) :: [])) _ _ s1
  have hT1 : LamX.Tabs (Kt.tbs.map fun t => (t.2.1, t.2.2)) H1 := fun p hp => by
    obtain ⟨t, ht, rfl⟩ := List.mem_map.mp hp
    exact (R1.tb t ht).1
  refine wpAny_evalAll_cons (wpAny_bind (lam_make3 (T := Kt.tbs.map fun t => (t.2.1, t.2.2)) I1 (by rw [A.eb, A.em]; exact TB) hcode (List.mem_map.mpr ⟨_, hmem, rfl⟩) (fun p hp hP => by
    obtain ⟨t, ht, rfl⟩ := List.mem_map.mp hp
    exact huniq t ht hP) hT1 hdef (fun y hy z => absurd z (S.nofree y hy)) fun f c' pm ctv H2 s2 I2 hH T2 hf hfn hfr htab => wpAny_bind (wpAny_standAt (wpAny_pure ?_))))
  refine wpAny_evalAll_nil ?_
  rw [cloFrom_nil S.nofree] at hf
  have R2 := R1.tab hmem hH fun t ht => T2 _ (List.mem_map.mpr ⟨t, ht, rfl⟩)
  cases hds : lsD g1 d with
  | none => rw [hds] at h1; exact h1.elim
  | some ds =>
  rw [hds] at h1
  simp only at h1
  cases hlen : decide (ds.length < 64) with
  | false => rw [hlen] at h1; exact h1.elim
  | true =>
  rw [hlen] at h1
  simp only at h1
  have hlen := of_decide_eq_true hlen
  cases hk : keysL kf N.length ds g1 with
  | exn c g2 => exact absurd hk keysL_exn
  | stuck => rw [hk] at h1; exact h1.elim
  | ok kz g2 =>
  rw [hk] at h1
  simp only [Res.bind] at h1
  cases hnd : decide kz.Nodup with
  | false => rw [hnd] at h1; exact h1.elim
  | true =>
  rw [hnd] at h1
  have hnd := of_decide_eq_true hnd
  obtain ⟨ad, xs, rfl, e1, r⟩ := lsD_ok R2 r1 hds
  have kl := keysL_len hk
  have lx := r.length
  obtain rfl := Vals.ref1 rv
  show wpAny (model X.prog X.w) X.A (call (.builtin "sorted") [.ref ad] [(Str.ofString "key", .ref f)]) (EP X pins σ Q) X.xe s2
  have flt := Heap.lt_size hf
  refine sorted_lam (kz := kz) I2 (.inl (.inl e1)) (by omega) (by omega)
    (fun a kS o i H' s' => (∃ ι' F' g', Ex ι1 F1 ι' F' ∧ RelG Kt (upd (upd Φ a (.frz o (.lst []))) kS (.lst ((kz.take i).map V.int))) ι' F' g' H' ∧ keysL kf N.length (ds.drop i) g' = .ok (kz.drop i) g2) ∧ Φ a = none ∧ Φ kS = none ∧
      s'.heap.get? f = some (PySem.W.kla_obj "<lambda>" (X.env.qual ++ "<lambda>") params body scope [] pm c' ctv) ∧ H' f = none ∧ ∃ ps : Array Value, H' P = some (.tbl ps) ∧ TriplesOk ps.toList ∧ codeAmong lpos ps.toList = some (.ref c')) ?_ ?_ ?_ ?_
  · intro a kS o s' hHa hHk ha' hk' hne keep
    have na : Φ a = none := by
      cases z : Φ a with
      | none => rfl
      | some u =>
        have := (R2.fr a u z).1
        rw [hHa] at this
        cases this
    have nk : Φ kS = none := by
      cases z : Φ kS with
      | none => rfl
      | some u =>
        have := (R2.fr kS u z).1
        rw [hHk] at this
        cases this
    have Ra := lent (o := .frz o (.lst [])) R2 hHa
    have Rk := lent (o := .lst []) Ra (p := kS) (by rw [upd_ne (Ne.symm hne)]; exact hHk)
    obtain ⟨ps, hP, ht, hc⟩ := htab
    refine ⟨⟨ι1, F1, g1, Ex.refl, Rk, hk⟩, na, nk, keep _ _ hf, ?_, ps, ?_, ht, hc⟩
    · rw [upd_ne (Nat.ne_of_lt (Nat.lt_of_lt_of_le flt hk')), upd_ne (Nat.ne_of_lt (Nat.lt_of_lt_of_le flt ha'))]
      exact hfn
    · rw [upd_ne (ne_of_none hP hHk), upd_ne (ne_of_none hP hHa)]
      exact hP
  · rintro a kS o i H' s' s'' ⟨j1, j2, j3, j4, j5⟩ ha' hk' keep
    exact ⟨j1, j2, j3, keep _ _ (Nat.ne_of_lt (Nat.lt_of_lt_of_le flt hk')) j4, j5⟩
  · rintro a kS o i x kk vv H' s' hne hx hkk rvv I' ea eK ⟨⟨ι', F', g', x', R', hks⟩, na, nk, hf', hfn', ps, hP, htr, hcd⟩
    have hi : i < xs.length := (List.getElem?_eq_some_iff.mp hx).1
    have hid : i < ds.length := by omega
    have hik : i < kz.length := by omega
    have hdi : ds[i]? = some ds[i] := List.getElem?_eq_getElem hid
    obtain ⟨x2, hx2, rx⟩ := r.get hdi
    rw [hx] at hx2
    cases hx2
    rw [List.drop_eq_getElem_cons hid] at hks
    obtain ⟨k0, ks', g'', ek, hkf, hks'⟩ := keysL_cons hks
    rw [List.drop_eq_getElem_cons hik] at ek
    rw [List.getElem?_eq_getElem hik] at hkk
    cases hkk
    injection ek with ek1 ek2
    subst ek1
    subst ek2
    obtain ⟨⟨ps', hP', ht', hcs⟩, _⟩ := R'.tb _ hmem
    rw [hP] at hP'
    cases hP'
    obtain ⟨c0, ec, hco⟩ := hcs lpos _ hcd
    cases ec
    obtain ⟨⟨oc, vs, t, hoc, hdc, hvc⟩, _, _⟩ := I'.hok c' _ hco
    have room1 : Room (k + 1) X.A.in1.in1 := A.room.in1.in1
    have rc := lam_run (CX := L2.CX X.prog X.w) (P := X.prog) (w := X.w) (K := X.K) (mg := X.mg) (base := X.base) (k := k) (A := X.A.in1.in1) (outer := X.stack) (s := s') (H := H') (args := ⟨[vv], []⟩) (us := [vv]) (vs := [x]) (E := fun _ _ _ => False) (t := te Kt WF kf)
      (Q := fun v2 H2 => v2 = .int kz[i] ∧ ∃ ι2 F2, Ex ι1 F1 ι2 F2 ∧ RelG Kt (upd (upd Φ a (.frz o (.lst []))) kS (.lst ((kz.take i).map V.int))) ι2 F2 g'' H2) S hf' ⟨c', oc, vs, t, rfl, hoc, hdc, hvc⟩ room1 I'.env0.in1.in1
      (fun M A E Q hQ => by rw [hbind]; exact wpAny_pure hQ) (.cons rvv .nil) rfl (fun hr' => hbody f c' _ _ _ _ ⟨A.eP, A.ew, A.eK, A.em, A.eb, rfl, LamX.takes0, hr', passes_of rfl, S.nd⟩)
      ⟨_, ι', F', startE N.length [ds[i]], g', ⟨env_start (.one (rx.mono x')), R'⟩, by
        rw [hkf]
        intro ι2 F2 H2 v2 x2 R2 rv2
        cases rv2
        exact ⟨rfl, ι2, F2, x'.trans x2, R2⟩⟩
    refine wpAny_call (codeAny_mono rc fun rr s'' hq => ?_)
    cases rr with
    | error e => exact (let ⟨_, _, _, _, _, _, _, _, _, _, _, _, z⟩ := (show L2.CX X.prog X.w X.stack H' s' (fun _ _ _ => False) e s'' from hq); z)
    | ok fl =>
      cases fl with
      | next => exact False.elim hq
      | brk => exact False.elim hq
      | cont => exact False.elim hq
      | ret u =>
        obtain ⟨v2, H2, os, bare, un, hok, rv2, rfl, ι2, F2, xx, RR⟩ := (show CE X.stack X.prog X.w H' s' _ u s'' from hq)
        obtain ⟨t, rfl⟩ := rv2
        have hf2 := un.keep f _ hf' hfn' hfr (by simp)
        have hfn2 := un.free f _ hf' hfn' (by simp)
        obtain ⟨more, hP2⟩ := un.tbls P ps hP
        obtain ⟨⟨ps2, hP3, ht3, _⟩, _⟩ := RR.tb _ hmem
        rw [hP2] at hP3
        cases hP3
        have hcd2 : codeAmong lpos (ps ++ more).toList = some (.ref c') := by
          rw [Array.toList_append]
          exact among_keep _ _ htr hcd
        obtain ⟨hh, gg, dd, tt, os'⟩ := s''
        obtain rfl : os' = s'.os := os
        have In : Inv X pins σ H2 { s' with heap := hh, gens := gg, drawn := dd, toks := tt } := I'.call (h' := hh) (g' := gg) (d' := dd) (t' := tt) (ch := []) un hok bare (fun b z => absurd z (by simp))
        have e3 : H2 a = some (.frz o (.lst [])) := (RR.fr a _ (by rw [upd_ne hne, upd_same])).1
        have e4 : H2 kS = some (.lst ((kz.take i).map V.int)) := (RR.fr kS _ upd_same).1
        obtain ⟨Rn, _⟩ := relent (o' := .lst ((kz.take (i + 1)).map V.int)) RR noT_lst
        have fk : f ≠ kS := fun z => by
          rw [z] at hfn2
          rw [e4] at hfn2
          cases hfn2
        have Pk : P ≠ kS := fun z => by
          rw [z] at hP2
          rw [e4] at hP2
          cases hP2
        exact ⟨t, H2, rfl, In, e3, e4, ⟨ι2, F2, g'', xx, Rn, hks'⟩, na, nk, hf2, by rw [upd_ne fk]; exact hfn2, _, by rw [upd_ne Pk]; exact hP2, ht3, hcd2⟩
  · rintro a kS o H' s' out hne ⟨⟨ι', F', g', x', R', hks⟩, na, nk, hf', hfn', _⟩ ea eK hsv
    rw [List.drop_eq_nil_of_le (show ds.length ≤ xs.length by omega), List.drop_eq_nil_of_le (show kz.length ≤ xs.length by omega)] at hks
    have eg : g' = g2 := by
      unfold keysL at hks
      cases hks
      rfl
    subst eg
    rw [List.take_of_length_le (show kz.length ≤ xs.length by omega), upd_comm hne] at R'
    obtain ⟨Q1, _⟩ := relent (o' := .lst []) R' noT_frz
    rw [upd_comm (Ne.symm hne)] at Q1
    obtain ⟨Q2, _⟩ := relent (o' := .lst []) Q1 noT_lst
    rw [upd_comm hne] at Q2
    obtain ⟨Q3, _⟩ := relent (o' := .lst out) Q2 noT_lst
    obtain ⟨Q4, x4⟩ := backF Q3 (by rw [upd_ne hne]; exact na)
    have Q5 := back Q4 nk
    exact h1 ι' _ _ (.ref a) (x'.trans x4) Q5 (.lst upd_same (sort_rel (r.mono (x'.trans x4)) hnd (by omega) hsv))
end Y

set_option Elab.async false
set_option linter.all false
set_option maxRecDepth 100000
/-! Y: walks over dicts, under a lock; == of what holds dicts. -/
namespace Y
open PySem PySem.Spec PyProof.Rows L2
/-! ### a lock -/
def del (F : Hp) (a : Addr) : Hp := fun b => if b = a then none else F b
theorem del_same {F : Hp} {a : Addr} : del F a a = none := by unfold del; rw [if_pos rfl]
theorem del_ne {F : Hp} {a b : Addr} (h : b ≠ a) : del F a b = F b := by unfold del; rw [if_neg h]
def dkO : HO → Bool
  | .dK _ => true
  | .dT _ => true
  | _ => false
section
variable {Kt : Kit} {Φ : Hp} {ι : List Addr} {F H : Hp} {g : G} {ad : Addr} {od : Obj} {u : HO}
theorem del_at {a : Addr} {o : HO} (hF : F ad = some (.frz od u)) (h : F a = some o) (hn : ∀ p q, o ≠ .frz p q) : del F ad a = some o := by
  rw [del_ne]
  · exact h
  · intro z
    rw [z, hF] at h
    exact hn _ _ (Option.some.inj h).symm
theorem sql_del {K : PySem.W.Frag} {a : Addr} {xs : List V} (hF : F ad = some (.frz od u)) (hu : dkO u = true) (h : SqL K F a xs) : SqL K (del F ad) a xs := by
  rcases h with (h | ⟨o, h⟩) | h
  · exact .inl (.inl (del_at hF h fun _ _ z => by cases z))
  · refine .inl (.inr ⟨o, ?_⟩)
    rw [del_ne]
    · exact h
    · intro z
      rw [z, hF] at h
      cases h
      cases hu
  · exact .inr h
theorem sqt_del {K : PySem.W.Frag} {a : Addr} {xs : List V} (hF : F ad = some (.frz od u)) (hu : dkO u = true) (h : SqT K F a xs) : SqT K (del F ad) a xs := by
  rcases h with (h | ⟨o, h⟩) | h
  · exact .inl (.inl (del_at hF h fun _ _ z => by cases z))
  · refine .inl (.inr ⟨o, ?_⟩)
    rw [del_ne]
    · exact h
    · intro z
      rw [z, hF] at h
      cases h
      cases hu
  · exact .inr h
mutual
theorem DV.del (hF : F ad = some (.frz od u)) (hu : dkO u = true) : ∀ {v : V} {d : D}, DV Kt ι F v d → DV Kt ι (Y.del F ad) v d
  | _, _, .non => .non
  | _, _, .bl b => .bl b
  | _, _, .int i => .int i
  | _, _, .str h => .str h
  | _, _, .tup h r => .tup (del_at hF h fun _ _ z => by cases z) (DVs.del hF hu r)
  | _, _, .lst h r => .lst (del_at hF h fun _ _ z => by cases z) (DVs.del hF hu r)
  | _, _, .scr h r => .scr (sql_del hF hu h) (DVs.del hF hu r)
  | _, _, .ref h => .ref h
  | _, _, .rng h => .rng (del_at hF h fun _ _ z => by cases z)
  | _, _, .dic h => .dic h
  | _, _, .kt h r => .kt (sqt_del hF hu h) (DVs.del hF hu r)
theorem DVs.del (hF : F ad = some (.frz od u)) (hu : dkO u = true) : ∀ {v : List V} {d : List D}, DVs Kt ι F v d → DVs Kt ι (Y.del F ad) v d
  | _, _, .nil => .nil
  | _, _, .cons h r => .cons (DV.del hF hu h) (DVs.del hF hu r)
end
theorem FR.del (hF : F ad = some (.frz od u)) (hu : dkO u = true) : ∀ {fs : List (Str × V)} {gs : List (Nat × D)}, FR Kt ι F fs gs → FR Kt ι (Y.del F ad) fs gs
  | _, _, .nil => .nil
  | _, _, .cons e h r => .cons e (h.del hF hu) (FR.del hF hu r)
theorem KR.del (hF : F ad = some (.frz od u)) (hu : dkO u = true) : ∀ {fs : List (Key × V)} {gs : List (D × D)}, KR Kt ι F fs gs → KR Kt ι (Y.del F ad) fs gs
  | _, _, .nil => .nil
  | _, _, .cons e h r => .cons (e.del hF hu) (h.del hF hu) (KR.del hF hu r)
theorem KRT.del (hF : F ad = some (.frz od u)) (hu : dkO u = true) : ∀ {fs : List (List Key × V)} {gs : List (D × D)}, KRT Kt ι F fs gs → KRT Kt ι (Y.del F ad) fs gs
  | _, _, .nil => .nil
  | _, _, .cons e h r => .cons (e.del hF hu) (h.del hF hu) (KRT.del hF hu r)
theorem EnvR.del {σ : L2.St} {e : En} (hF : F ad = some (.frz od u)) (hu : dkO u = true) (h : EnvR Kt ι F σ e) : EnvR Kt ι (Y.del F ad) σ e := ⟨h.1, fun i d q => let ⟨v, a, b⟩ := h.2 i d q; ⟨v, a, b.del hF hu⟩⟩
theorem ObR.del (hF : F ad = some (.frz od u)) (hu : dkO u = true) {a : Addr} {H' : Hp} (hne : a ≠ ad) (h : H' a = H a) : ∀ {o : Ob}, ObR Kt ι F H a o → ObR Kt ι (Y.del F ad) H' a o
  | .dead, _ => trivial
  | .lst ds, ⟨n, vs, e, r⟩ => ⟨by rw [del_ne hne]; exact n, vs, h.trans e, r.del hF hu⟩
  | .ins c fs, ⟨n, C, dx, gs, e1, e2, r⟩ => ⟨by rw [del_ne hne]; exact n, C, dx, gs, e1, h.trans e2, r.del hF hu⟩
  | .dct false _, ⟨n, us, e, r⟩ => ⟨by rw [del_ne hne]; exact n, us, h.trans e, r.del hF hu⟩
  | .dct true _, ⟨n, us, e, r⟩ => ⟨by rw [del_ne hne]; exact n, us, h.trans e, r.del hF hu⟩
  | .dctL false _, ⟨od, us, e, r⟩ => ⟨od, us, by rw [del_ne hne]; exact e, r.del hF hu⟩
  | .dctL true _, ⟨od, us, e, r⟩ => ⟨od, us, by rw [del_ne hne]; exact e, r.del hF hu⟩
theorem dct_at (R : RelG Kt Φ ι F g H) {l : Nat} {t : Bool} {kvs : List (D × D)} (e1 : g[l]? = some (.dct t kvs)) (e2 : ι[l]? = some ad) : F ad = none ∧ ∃ u, dkO u = true ∧ Mut (some u) ∧ H ad = some u ∧ NoT (some u) ∧ ((t = false ∧ ∃ us, u = .dK us ∧ KR Kt ι F us kvs) ∨ (t = true ∧ ∃ us, u = .dT us ∧ KRT Kt ι F us kvs)) := by
  have ob := R.ob _ _ _ e1 e2
  cases t with
  | false => obtain ⟨hF, us, e3, r⟩ := ob; exact ⟨hF, .dK us, rfl, trivial, e3, noT_dK, .inl ⟨rfl, us, rfl, r⟩⟩
  | true => obtain ⟨hF, us, e3, r⟩ := ob; exact ⟨hF, .dT us, rfl, trivial, e3, noT_dT, .inr ⟨rfl, us, rfl, r⟩⟩
/-- a dict is locked -/
theorem RelG.lockD (R : RelG Kt Φ ι F g H) {l : Nat} {t : Bool} {kvs : List (D × D)} (e1 : g[l]? = some (.dct t kvs)) (e2 : ι[l]? = some ad) (eu : H ad = some u) (od : Obj) :
    RelG Kt Φ ι (upd F ad (.frz od u)) (g.set l (.dctL t kvs)) (upd H ad (.frz od u)) ∧ Ex ι F ι (upd F ad (.frz od u)) := by
  obtain ⟨hF, u', hu, hm, e3, nt, hh⟩ := dct_at R e1 e2
  rw [eu] at e3
  cases e3
  have x : Ex ι F ι (upd F ad (.frz od u)) := ⟨fun _ _ h => h, fun a o h => by rw [upd_ne (ne_of_none h hF)]; exact h⟩
  refine ⟨⟨by simp [R.len], R.inj, fun b v h => ?_, fun i b h => ?_, fun b v h => ?_, fun m b ob e4 e5 => ?_, fun t ht => ⟨tabS_upd (R.tb t ht).1 (by rw [eu]; exact nt), ?_, (R.tb t ht).2.2⟩, R.nt⟩, x⟩
  · by_cases z : b = ad
    · subst z; rw [upd_same] at h ⊢; exact h
    · rw [upd_ne z] at h ⊢; exact R.sub b v h
  · by_cases z : b = ad
    · subst z; rw [upd_same]; simp
    · rw [upd_ne z]; exact R.on i b h
  · obtain ⟨h1, h2, h3⟩ := R.fr b v h
    have z : b ≠ ad := fun z => h3 l (by rw [z]; exact e2)
    rw [upd_ne z, upd_ne z]
    exact ⟨h1, h2, h3⟩
  · by_cases z : m = l
    · subst z
      rw [e2] at e5; cases e5
      rw [List.getElem?_set_self (List.getElem?_eq_some_iff.mp e1).1] at e4
      cases e4
      rcases hh with ⟨rfl, us, rfl, r⟩ | ⟨rfl, us, rfl, r⟩
      · exact ⟨od, us, upd_same, r.mono x⟩
      · exact ⟨od, us, upd_same, r.mono x⟩
    · rw [List.getElem?_set_ne (Ne.symm z)] at e4
      have zb : b ≠ ad := fun q => z (R.inj m l ad (q ▸ e5) e2)
      exact (R.ob m b ob e4 e5).mono x (upd_ne zb) fun n => by rw [upd_ne zb]; exact n
  · rw [upd_ne (fun z => (R.tb t ht).2.2.2 l (by rw [z]; exact e2))]; exact (R.tb t ht).2.1
/-- .. and freed -/
theorem RelG.freeD (R : RelG Kt Φ ι F g H) {l : Nat} {t : Bool} {kvs : List (D × D)} (hF : F ad = some (.frz od u)) (hu : dkO u = true) (e1 : g[l]? = some (.dctL t kvs)) (e2 : ι[l]? = some ad) :
    RelG Kt Φ ι (Y.del F ad) (g.set l (.dct t kvs)) (upd H ad u) := by
  refine ⟨by simp [R.len], R.inj, fun b v h => ?_, fun i b h => ?_, fun b v h => ?_, fun m b ob e4 e5 => ?_, fun t ht => ⟨tabS_upd (R.tb t ht).1 (by rw [R.sub _ _ hF]; exact noT_frz), ?_, (R.tb t ht).2.2⟩, R.nt⟩
  · by_cases z : b = ad
    · subst z; rw [del_same] at h; cases h
    · rw [del_ne z] at h; rw [upd_ne z]; exact R.sub b v h
  · by_cases z : b = ad
    · subst z; rw [upd_same]; simp
    · rw [upd_ne z]; exact R.on i b h
  · obtain ⟨h1, h2, h3⟩ := R.fr b v h
    have z : b ≠ ad := fun z => h3 l (by rw [z]; exact e2)
    rw [upd_ne z, del_ne z]
    exact ⟨h1, h2, h3⟩
  · by_cases z : m = l
    · subst z
      rw [e2] at e5; cases e5
      rw [List.getElem?_set_self (List.getElem?_eq_some_iff.mp e1).1] at e4
      cases e4
      have q := R.ob _ _ _ e1 e2
      cases t with
      | false =>
        obtain ⟨od', us, e, r⟩ := q
        rw [hF] at e
        cases e
        exact ⟨del_same, us, upd_same, r.del hF hu⟩
      | true =>
        obtain ⟨od', us, e, r⟩ := q
        rw [hF] at e
        cases e
        exact ⟨del_same, us, upd_same, r.del hF hu⟩
    · rw [List.getElem?_set_ne (Ne.symm z)] at e4
      have zb : b ≠ ad := fun q => z (R.inj m l ad (q ▸ e5) e2)
      exact (R.ob m b ob e4 e5).del hF hu zb (upd_ne zb)
  · rw [del_ne (fun z => (R.tb t ht).2.2.2 l (by rw [z]; exact e2))]; exact (R.tb t ht).2.1
end
/-- an expression during which a dict is walked -/
def vLock (pk : En → G → Option Nat) (m : EM) : EM := fun e g => match pk e g with
  | none => .stuck
  | some l => (match g[l]? with
    | some (.dct t kvs) => (noX (m e (g.set l (.dctL t kvs)))).bind fun d g1 => (match g1[l]? with
      | some (.dctL t' kvs') => .ok d (g1.set l (.dct t' kvs'))
      | _ => .stuck)
    | _ => .stuck)
def freeS (l : Nat) (g : G) (k : G → SR) : SR := match g[l]? with
  | some (.dctL t kvs) => k (g.set l (.dct t kvs))
  | _ => .stuck
def sLock (pk : En → G → Option Nat) (m : SM) : SM := fun e g => match pk e g with
  | none => .stuck
  | some l => (match g[l]? with
    | some (.dct t kvs) => (match m e (g.set l (.dctL t kvs)) with
      | .nx e1 g1 => freeS l g1 (.nx e1)
      | .rt d g1 => freeS l g1 (.rt d)
      | .bk e1 g1 => freeS l g1 (.bk e1)
      | .ct e1 g1 => freeS l g1 (.ct e1)
      | _ => .stuck)
    | _ => .stuck)
section
variable {Kt : Kit} {X : Cx} {W : WX} {k : Nat} {a b c tg : Expr} {st : Stmt} {ma mb mc m : EM} {sm : SM} {pos : Pos} {pk : En → G → Option Nat}
theorem Ex.del {ι ι' : List Addr} {F F' : Hp} {ad : Addr} {o : HO} (hF : F ad = none) (x : Ex ι (upd F ad o) ι' F') : Ex ι F ι' (Y.del F' ad) := ⟨x.i, fun a u h => by
  have z := ne_of_none h hF
  rw [del_ne z]
  exact x.f a u (by rw [upd_ne z]; exact h)⟩
theorem lock_te {σ : L2.St} {H : Hp} {Q : VK} (h : te Kt W (vLock pk m) σ H Q) : tLockE (te Kt W m) σ H Q := by
  obtain ⟨Φ, ι, F, e, g, S, h⟩ := h
  unfold vLock at h
  split at h
  · exact h.elim
  · rename_i l hl
    split at h
    · rename_i t kvs e1
      obtain ⟨ad, e2, _⟩ := S.rel.at_ e1
      obtain ⟨hF, u, hu, hm, e3, nt, hh⟩ := dct_at S.rel e1 e2
      refine ⟨ad, u, e3, hm, fun od => ?_⟩
      obtain ⟨R, x⟩ := S.rel.lockD e1 e2 e3 od
      refine ⟨Φ, ι, _, e, _, ⟨S.env.mono x, R⟩, ?_⟩
      cases z : m e (g.set l (.dctL t kvs)) with
      | exn c g1 => rw [z] at h; exact h.elim
      | stuck => rw [z] at h; exact h.elim
      | ok d g1 =>
        rw [z] at h
        simp only [noX_ok, Res.bind] at h
        intro ι' F' H' v x' R' r
        split at h
        · rename_i t' kvs' e4
          have hF' := x'.f ad _ upd_same
          have e5 := x'.i _ _ e2
          exact ⟨R'.sub _ _ hF', h _ _ _ _ (x'.del hF) (R'.freeD hF' hu e4 e5) (r.del hF' hu)⟩
        · exact h.elim
    · exact h.elim
theorem se_lock (h : PE X a (te Kt W m)) : PE X a (te Kt W (vLock pk m)) := (pe_lock h).imp fun σ H Q => lock_te
theorem ss_lock (h : PS X st (ts Kt W sm)) : PS X st (ts Kt W (sLock pk sm)) := L2.PS.imp (ps_lock h) fun D σ H ⟨Φ, ι, F, e, g, S, h⟩ => by
  unfold sLock at h
  split at h
  · exact h.elim
  · rename_i l hl
    split at h
    · rename_i t kvs e1
      obtain ⟨ad, e2, _⟩ := S.rel.at_ e1
      obtain ⟨hF, u, hu, hm, e3, nt, hh⟩ := dct_at S.rel e1 e2
      refine ⟨ad, u, e3, hm, fun od => ?_⟩
      obtain ⟨R, x⟩ := S.rel.lockD e1 e2 e3 od
      refine ⟨Φ, ι, _, e, _, ⟨S.env.mono x, R⟩, ?_⟩
      split at h
      · rename_i e4 g1 z
        rw [z]
        intro ι' F' σ' H' x' S'
        unfold freeS at h
        split at h
        · rename_i t' kvs' e4
          have hF' := x'.f ad _ upd_same
          have e5 := x'.i _ _ e2
          exact ⟨S'.rel.sub _ _ hF', h _ _ _ _ (x'.del hF) ⟨S'.env.del hF' hu, S'.rel.freeD hF' hu e4 e5⟩⟩
        · exact h.elim
      · rename_i e4 g1 z
        rw [z]
        intro ι' F' H' v x' R' r
        unfold freeS at h
        split at h
        · rename_i t' kvs' e4
          have hF' := x'.f ad _ upd_same
          have e5 := x'.i _ _ e2
          exact ⟨R'.sub _ _ hF', h _ _ _ _ (x'.del hF) (R'.freeD hF' hu e4 e5) (r.del hF' hu)⟩
        · exact h.elim
      · rename_i e4 g1 z
        rw [z]
        intro ι' F' σ' H' x' S'
        unfold freeS at h
        split at h
        · rename_i t' kvs' e4
          have hF' := x'.f ad _ upd_same
          have e5 := x'.i _ _ e2
          exact ⟨S'.rel.sub _ _ hF', h _ _ _ _ (x'.del hF) ⟨S'.env.del hF' hu, S'.rel.freeD hF' hu e4 e5⟩⟩
        · exact h.elim
      · rename_i e4 g1 z
        rw [z]
        intro ι' F' σ' H' x' S'
        unfold freeS at h
        split at h
        · rename_i t' kvs' e4
          have hF' := x'.f ad _ upd_same
          have e5 := x'.i _ _ e2
          exact ⟨S'.rel.sub _ _ hF', h _ _ _ _ (x'.del hF) ⟨S'.env.del hF' hu, S'.rel.freeD hF' hu e4 e5⟩⟩
        · exact h.elim
      · exact h.elim
    · exact h.elim
/-! ### the keys of a dict, walked -/
def iKey (m : EM) : IM := fun e g => (m e g).bind fun d g1 => match d with
  | .ref l => (match g1[l]? with
    | some (.dctL _ kvs) => .ok (.vals (kvs.map Prod.fst)) g1
    | _ => .stuck)
  | _ => .stuck
theorem KR.at_ {ι : List Addr} {F : Hp} {us : List (Key × V)} {kvs : List (D × D)} (r : KR Kt ι F us kvs) : ∀ {i : Nat} {d : D}, (kvs.map Prod.fst)[i]? = some d → ∃ kv, us[i]? = some kv ∧ DV Kt ι F (kV kv.1) d := by
  induction r with
  | nil => intro i d h; simp at h
  | @cons j v d' e' r s hk hv t ih =>
    intro i d h
    cases i with
    | zero => simp at h; subst h; exact ⟨_, rfl, hk⟩
    | succ i => exact ih (by simpa using h)
theorem KRT.at_ {ι : List Addr} {F : Hp} {us : List (List Key × V)} {kvs : List (D × D)} (r : KRT Kt ι F us kvs) : ∀ {i : Nat} {d : D}, (kvs.map Prod.fst)[i]? = some d → ∃ kv ds, us[i]? = some kv ∧ d = .tup ds ∧ DVs Kt ι F (kv.1.map kV) ds := by
  induction r with
  | nil => intro i d h; simp at h
  | @cons j v d' e' r s hk hv t ih =>
    intro i d h
    cases i with
    | zero => simp at h; subst h; exact ⟨_, _, rfl, rfl, hk⟩
    | succ i => exact ih (by simpa using h)
/-- a tuple that stands there is known -/
theorem RelG.known {Φ : Hp} {ι : List Addr} {F H : Hp} {g : G} (R : RelG Kt Φ ι F g H) {q : Addr} {vs : List V} (hq : H q = some (.tup vs)) : ∃ F', Ex ι F ι F' ∧ RelG Kt Φ ι F' g H ∧ F' q = some (.tup vs) := by
  cases e : F q with
  | some o =>
    have := R.sub q o e
    rw [hq] at this
    cases this
    exact ⟨F, Ex.refl, R, e⟩
  | none =>
    have x : Ex ι F ι (upd F q (.tup vs)) := ⟨fun _ _ h => h, fun a u h => by rw [upd_ne (ne_of_none h e)]; exact h⟩
    refine ⟨upd F q (.tup vs), x, ⟨R.len, R.inj, fun b u h => ?_, R.on, fun b u h => ?_, fun m b ob e4 e5 => ?_, fun t ht => ⟨(R.tb t ht).1, ?_, (R.tb t ht).2.2⟩, R.nt⟩, upd_same⟩
    · by_cases z : b = q
      · subst z; rw [upd_same] at h; cases h; exact hq
      · rw [upd_ne z] at h; exact R.sub b u h
    · obtain ⟨h1, h2, h3⟩ := R.fr b u h
      have z : b ≠ q := fun z => by
        rw [z, hq] at h1
        cases h1
        exact R.nt _ _ h
      rw [upd_ne z]
      exact ⟨h1, h2, h3⟩
    · have o := R.ob m b ob e4 e5
      have key : (b = q → ob = .dead) := fun z => by
        subst z
        cases ob with
        | dead => rfl
        | lst ds => obtain ⟨_, us, q1, _⟩ := o; rw [hq] at q1; cases q1
        | ins c fs => obtain ⟨_, C, dx, us, _, q1, _⟩ := o; rw [hq] at q1; cases q1
        | dct t kvs =>
          cases t with
          | false => obtain ⟨_, us, q1, _⟩ := o; rw [hq] at q1; cases q1
          | true => obtain ⟨_, us, q1, _⟩ := o; rw [hq] at q1; cases q1
        | dctL t kvs =>
          cases t with
          | false => obtain ⟨_, us, q1, _⟩ := o; rw [e] at q1; cases q1
          | true => obtain ⟨_, us, q1, _⟩ := o; rw [e] at q1; cases q1
      by_cases z : b = q
      · rw [key z]; trivial
      · exact o.mono x rfl fun n => by rw [upd_ne z]; exact n
    · rw [upd_ne]
      · exact (R.tb t ht).2.1
      · intro z
        obtain ⟨⟨ps, h1, _⟩, _⟩ := R.tb t ht
        rw [z, hq] at h1
        cases h1
theorem src_keys {ad : Addr} {od : Obj} {us : List (Key × V)} {kvs : List (D × D)} {ι : List Addr} {F : Hp} (h : F ad = some (.frz od (.dK us))) (r : KR Kt ι F us kvs) : SrcJ Kt (.vals (kvs.map Prod.fst)) (Itk ad od us) ι F where
  go := by
    intro Φ ι1 F1 g H i x y R e
    have e : (kvs.map Prod.fst)[i]? = some x := Option.some.inj e
    obtain ⟨kv, h1, h2⟩ := r.at_ e
    refine ⟨⟨R.sub _ _ (y.f _ _ h), (List.getElem?_eq_some_iff.mp h1).1⟩, fun v' H' hy => ?_⟩
    obtain ⟨rfl, k, v, h3, rfl⟩ := hy
    rw [h1] at h3
    cases h3
    exact ⟨ι1, F1, Ex.refl, R, h2.mono y⟩
  stop := by
    intro Φ ι1 F1 g H i y R e
    have e : (kvs.map Prod.fst)[i]? = none := Option.some.inj e
    refine ⟨R.sub _ _ (y.f _ _ h), ?_⟩
    rw [r.length]
    simpa using List.getElem?_eq_none_iff.mp e
theorem src_keysT {ad : Addr} {od : Obj} {us : List (List Key × V)} {kvs : List (D × D)} {ι : List Addr} {F : Hp} (h : F ad = some (.frz od (.dT us))) (r : KRT Kt ι F us kvs) : SrcJ Kt (.vals (kvs.map Prod.fst)) (Itkt ad od us) ι F where
  go := by
    intro Φ ι1 F1 g H i x y R e
    have e : (kvs.map Prod.fst)[i]? = some x := Option.some.inj e
    obtain ⟨kv, ds, h1, rfl, h2⟩ := r.at_ e
    refine ⟨⟨R.sub _ _ (y.f _ _ h), (List.getElem?_eq_some_iff.mp h1).1⟩, fun v' H' hy => ?_⟩
    obtain ⟨rfl, k, v, q, h3, rfl, h4⟩ := hy
    rw [h1] at h3
    cases h3
    obtain ⟨F2, x2, R2, e2⟩ := R.known h4
    exact ⟨ι1, F2, x2, R2, .tup e2 (h2.mono (y.trans x2))⟩
  stop := by
    intro Φ ι1 F1 g H i y R e
    have e : (kvs.map Prod.fst)[i]? = none := Option.some.inj e
    refine ⟨R.sub _ _ (y.f _ _ h), ?_⟩
    rw [r.length]
    simpa using List.getElem?_eq_none_iff.mp e
theorem si_key (h : PE X a (te Kt W ma)) : PIy Kt X W tg a (iKey ma) := by
  refine ⟨_, pi_keys (tg := tg) h, fun σ H Φ ι F e g R S q => ⟨Φ, ι, F, e, g, S, (po.bind (Rl := DV Kt) q).imp fun v H1 ⟨ι1, F1, g1, d, x1, R1, r1, h1⟩ => ?_⟩⟩
  split at h1
  · rename_i l
    split at h1
    · rename_i t kvs e1
      cases r1 with
      | @ref _ ad e2 =>
      have ob := R1.ob _ _ _ e1 e2
      cases t with
      | false =>
        obtain ⟨od, us, e3, r⟩ := ob
        exact ⟨ad, od, rfl, .inl ⟨us, R1.sub _ _ e3, h1 _ _ _ _ Ex.refl R1 (src_keys e3 r)⟩⟩
      | true =>
        obtain ⟨od, us, e3, r⟩ := ob
        exact ⟨ad, od, rfl, .inr ⟨us, R1.sub _ _ e3, h1 _ _ _ _ Ex.refl R1 (src_keysT e3 r)⟩⟩
    · exact h1.elim
  · exact h1.elim
end
end Y

set_option Elab.async false
set_option linter.all false
set_option maxRecDepth 100000
/-! Y: == and != of what holds dicts. -/
namespace Y
open PySem PySem.Spec PyProof.Rows L2
open PySem.SeqAt (EqIn)
/-! ### two dicts whose keys are tuples -/
section
variable {P : Program} {w : World} {κ : Type} [DecidableEq κ] {kd : HeapKind P w κ} {A : Around} {E : Value → Shared → Prop} {s : Shared} {a b : Addr} {ka kb : List (κ × Addr × Value)}
/-- the look-ups, one behind another -/
inductive HitsT (P : Program) (w : World) (A : Around) (s : Shared) (kb : List (κ × Addr × Value)) : List (κ × Addr × Value) → Bool → Prop
  | nil : HitsT P w A s kb [] true
  | no {p : κ × Addr × Value} {r : List (κ × Addr × Value)} : atKey kb p.1 = none → HitsT P w A s kb (p :: r) false
  | yes {p : κ × Addr × Value} {q : Addr × Value} {r : List (κ × Addr × Value)} {e c : Bool} : atKey kb p.1 = some q → EqIn P w A s p.2.2 q.2 e → HitsT P w A s kb r c → HitsT P w A s kb (p :: r) (e && c)
theorem same_dt {nm : String} {Q : Bool → Shared → Prop} (na : (a == sysModules) = false) (nb : (b == sysModules) = false) (da : s.heap.DictOfH kd a ka) (db : s.heap.DictOfH kd b kb) (hr : kd.room A)
    {r : Bool} (eq : ka.length = kb.length → HitsT P w A s kb ka r) (h : Q (ka.length == kb.length && r) s) :
    wpAny (model P w) A (Builtin.Dict.samePairs nm a b) Q E s := by
  obtain ⟨oa, es, ep, ga, _, ea, la, ia, _⟩ := da
  obtain ⟨ob, fs, fp, gb, _, eb, lb, ib, nb2⟩ := db
  have za := size_of_entries la
  have zb := size_of_entries lb
  unfold Builtin.Dict.samePairs Builtin.Dict.showsAll
  rw [na, nb]
  simp only [Bool.false_eq_true, if_false]
  refine wpAny_bind (wpAny_pure (wpAny_bind (wpAny_pure (wpAny_bind (wpAny_dictEntries ga ea ?_)))))
  try dsimp only
  refine wpAny_bind (wpAny_dictEntries gb eb ?_)
  by_cases hz : ka.length = kb.length
  case neg =>
    rw [if_pos (by rw [za, zb]; simpa using hz)]
    have n0 : (ka.length == kb.length) = false := by simpa using hz
    rw [n0, Bool.false_and] at h
    exact wpAny_bind (wpAny_rule (wpAny_pure h))
  case pos =>
    have h1 : Q r s := by simpa [hz] using h
    have eq := eq hz
    rw [if_neg (by rw [za, zb, hz]; simp)]
    refine wpAny_bind (wpAny_dictEpoch ga ea (wpAny_bind ?_))
    rw [Std.Legacy.Range.forIn_eq_forIn_range']
    simp only [Std.Legacy.Range.size, Nat.sub_zero, Nat.add_sub_cancel, Nat.div_one]
    refine wpAny_forIn_list _ (fun more st s1 => s1 = s ∧ st = (none, ()) ∧ ∃ i, more = List.range' i (es.size - i) ∧ i ≤ es.size ∧ ∃ c, HitsT P w A s kb (ka.drop i) c ∧ Q c s) _ ?_ ?_ _ _ ⟨rfl, rfl, 0, by simp, Nat.zero_le _, r, eq, h1⟩
    · rintro x more st s1 ⟨rfl, rfl, i, em, hi, c, hh, hq⟩
      have hlt : i < es.size := by
        rcases Nat.lt_or_ge i es.size with z | z
        · exact z
        · rw [Nat.sub_eq_zero_of_le z] at em; cases em
      have ei : es.size - i = (es.size - (i + 1)) + 1 := by omega
      rw [ei, List.range'_succ] at em
      injection em with e1 e2
      subst e1
      have hk : x < ka.length := by rw [← za]; exact hlt
      obtain ⟨k, p, v, hkv⟩ : ∃ k p v, ka[x] = (k, p, v) := ⟨_, _, _, rfl⟩
      have hget : ka[x]? = some (k, p, v) := by rw [List.getElem?_eq_getElem hk, hkv]
      have hx : es[x]? = some ⟨kd.hash k, .ref p, v⟩ := by rw [entry_at la, hget]; rfl
      have hm : (k, p, v) ∈ ka := List.mem_of_getElem? hget
      have hd : ka.drop x = (k, p, v) :: ka.drop (x + 1) := by rw [← hkv]; exact List.drop_eq_getElem_cons hk
      rw [hd] at hh
      refine wpAny_bind (wpAny_dictEntries ga ea ?_)
      rw [hx]
      show wpAny _ _ (holding [.ref p, v] _ >>= _) _ _ _
      refine wpAny_bind (wpAny_holding (wpAny_bind (wpAny_dictFind_heap hr (ia _ hm) gb eb lb ib nb2 (fun no => ?_) fun j q hj => ?_)))
      · have n1 := atKey_none_of_get no
        cases hh with
        | yes h2 _ _ => rw [n1] at h2; cases h2
        | no _ =>
        refine wpAny_pure ?_
        show wpAny _ _ (if (!false) = true then _ else _) _ _ _
        rw [if_pos (by decide)]
        exact wpAny_pure (wpAny_pure hq)
      · have s1' := atKey_of_get nb2 hj
        have hy : fs[j]? = some ⟨kd.hash k, .ref q.1, q.2⟩ := by rw [entry_at lb, hj]; rfl
        cases hh with
        | no h2 => rw [s1'] at h2; cases h2
        | @yes _ q' _ e' c' h2 he hr' =>
        rw [s1'] at h2
        cases h2
        refine wpAny_bind (wpAny_dictEntries gb eb ?_)
        rw [hy]
        refine wpAny_holding (he _ _ ?_)
        cases e' with
        | false =>
          rw [Bool.false_and] at hq
          show wpAny _ _ (if (!false) = true then _ else _) _ _ _
          rw [if_pos (by decide)]
          exact wpAny_pure (wpAny_pure hq)
        | true =>
          rw [Bool.true_and] at hq
          show wpAny _ _ (if (!true) = true then _ else _) _ _ _
          rw [if_neg (by decide)]
          refine wpAny_bind (wpAny_dictEpoch ga ea ?_)
          rw [if_neg (by simp)]
          exact wpAny_pure ⟨rfl, rfl, x + 1, e2, hlt, c', hr', hq⟩
    · rintro st s1 ⟨rfl, rfl, i, em, hi, c, hh, hq⟩
      have ein : i = es.size := by
        rcases Nat.lt_or_ge i es.size with z | z
        · have ei : es.size - i = (es.size - (i + 1)) + 1 := by omega
          rw [ei, List.range'_succ] at em; cases em
        · exact Nat.le_antisymm hi z
      rw [ein, za, List.drop_length] at hh
      cases hh
      exact wpAny_pure hq
/-- d == e, d != e -/
theorem cmp_dict {Q : Value → Shared → Prop} {r : Bool} (neg : Bool) (ta : s.TypeIs (.ref a) "dict") (tb : s.TypeIs (.ref b) "dict") (hu : A.units < cLine)
    (h : ∀ nm Q', Q' r s → wpAny (model P w) A.in1 (Builtin.Dict.samePairs nm a b) Q' (fun _ _ => False) s) (q : Q (.bool (r != neg)) s) :
    wpAny (model P w) A (compareOp (if neg = true then .NotEq else .Eq) (.ref a) (.ref b)) Q E s := by
  cases neg with
  | false =>
    rw [if_neg Bool.false_ne_true]
    refine wpAny_richCompare_same_room (op := .Eq) ta tb PySem.F.slot_dict_eq (wpAny_call_entry PySem.F.slot_dict_eq ta PySem.F.entry_dict_eq ?_ (PySem.F.args_dict_eq_2 _ _)) hu
    refine wpAny_bind (m := Builtin.Dict.dictSlotArgs "__eq__" ⟨[.ref a, .ref b], []⟩) ?_
    unfold Builtin.Dict.dictSlotArgs
    refine wpAny_bind (wpAny_notOrdered_dict ta (wpAny_pure ?_))
    refine wpAny_bind (wpAny_isInstance (T := "dict") tb PySem.F.sub_dict_dict ?_)
    simp only [Bool.not_true, Bool.false_eq_true, if_false]
    refine wpAny_bind (wpAny_pure (wpAny_bind (wpAny_pure (wpAny_bind (wpAny_mono (h _ _ ?_) (fun _ _ z => z) fun _ _ z => z.elim)))))
    exact wpAny_pure ⟨_, rfl, fun z => (nomatch z), by simpa using q⟩
  | true =>
    rw [if_pos rfl]
    refine wpAny_richCompare_same_room (op := .NotEq) ta tb PySem.F.slot_dict_ne (wpAny_call_entry PySem.F.slot_dict_ne ta PySem.F.entry_dict_ne ?_ (PySem.F.args_dict_ne_2 _ _)) hu
    refine wpAny_bind (m := Builtin.Dict.dictSlotArgs "__ne__" ⟨[.ref a, .ref b], []⟩) ?_
    unfold Builtin.Dict.dictSlotArgs
    refine wpAny_bind (wpAny_notOrdered_dict ta (wpAny_pure ?_))
    refine wpAny_bind (wpAny_isInstance (T := "dict") tb PySem.F.sub_dict_dict ?_)
    simp only [Bool.not_true, Bool.false_eq_true, if_false]
    refine wpAny_bind (wpAny_pure (wpAny_bind (wpAny_pure (wpAny_bind (wpAny_mono (h _ _ ?_) (fun _ _ z => z) fun _ _ z => z.elim)))))
    exact wpAny_pure ⟨_, rfl, fun z => (nomatch z), by simpa using q⟩
end
/-! ### as data -/
def zipAll (f : D → D → Option Bool) : List D → List D → Option Bool
  | [], [] => some true
  | x :: xs, y :: ys => (match f x y, zipAll f xs ys with
    | some c, some r => some (c && r)
    | _, _ => none)
  | _, _ => some false
def hitsD (f : D → D → Option Bool) (ls : List (D × D)) : List (D × D) → Option Bool
  | [] => some true
  | p :: r => (match lkp ls p.1 with
    | none => (hitsD f ls r).map fun _ => false
    | some y => (match f p.2 y, hitsD f ls r with
      | some c, some q => some (c && q)
      | _, _ => none))
def leafG (g : G) (x y : D) : Option Bool := match pud 8 (snap g x) && pud 8 (snap g y) with
  | true => some (deq (snap g x) (snap g y))
  | false => none
def eqG : Nat → G → D → D → Option Bool
  | 0, _, _, _ => none
  | n + 1, g, x, y => match x, y with
    | .tup xs, .tup ys => zipAll (eqG n g) xs ys
    | .ref l, .ref m => (match l == m with
      | true => some true
      | false => (match (g[l]?).bind prsO, (g[m]?).bind prsO with
        | some (t, ks), some (t', ls) => (match t == t', ks.length == ls.length with
          | true, true => hitsD (eqG n g) ls ks
          | true, false => some false
          | _, _ => none)
        | _, _ => leafG g x y))
    | _, _ => leafG g x y
/-- at the top: two dicts, two tuples with dicts within -/
def eqX (neg : Bool) : OpT := fun g x y => match x, y with
  | .ref l, .ref m => (match l == m with
    | true => none
    | false => (match (g[l]?).bind prsO, (g[m]?).bind prsO with
      | some _, some _ => (eqG 8 g x y).map fun c => .bl (c != neg)
      | _, _ => none))
  | _, _ => none
section
variable {Kt : Kit} {X : Cx} {Φ : Hp} {ι : List Addr} {F H : Hp} {g : G} {σ : L2.St} {s : Shared} {pins : List (Addr × Obj)}
theorem self_key {n : Nat} (ih : ∀ {v : V} {d e : D}, DV Kt ι F v d → DV Kt ι F v e → pud n d = true → pud n e = true → deq d e = true) : ∀ {vs : List V} {ds es : List D}, DVs Kt ι F vs ds → DVs Kt ι F vs es → (∀ x ∈ ds, pud n x = true) → (∀ x ∈ es, pud n x = true) → deqs ds es = true
  | [], _, _, .nil, .nil, _, _ => by simp [deqs]
  | v :: vs, _, _, .cons a1 b1, .cons a2 b2, h1, h2 => by
    simp only [deqs]
    rw [ih a1 a2 (h1 _ List.mem_cons_self) (h2 _ List.mem_cons_self), self_key ih b1 b2 (fun x hx => h1 x (List.mem_cons_of_mem _ hx)) (fun x hx => h2 x (List.mem_cons_of_mem _ hx))]
    rfl
theorem self_pure : ∀ (n : Nat) {v : V} {d e : D}, DV Kt ι F v d → DV Kt ι F v e → pud n d = true → pud n e = true → deq d e = true := by
  intro n
  induction n with
  | zero =>
    intro v d e h1 h2 p1 p2
    cases h1 <;> first | (simp [pud] at p1; done) | (cases h2 <;> first | (simp [pud] at p2; done) | (simp [deq]; done) | skip)
    rename_i h1 _ h2
    rw [tab_inj h1 h2]
    simp [deq]
  | succ n ih =>
    intro v d e h1 h2 p1 p2
    cases h1 <;> first | (simp [pud] at p1; done) | (cases h2 <;> first | (simp [pud] at p2; done) | (simp [deq]; done) | skip)
    · rename_i h1 _ h2
      rw [tab_inj h1 h2]
      simp [deq]
    · rename_i e1 r1 _ _ r2 e2
      rw [e1] at e2
      cases e2
      simp only [deq]
      exact self_key ih r1 r2 (by simpa [pud] using p1) (by simpa [pud] using p2)
    · rename_i e1 _ _ _ _ e2
      rw [e1] at e2
      cases e2
    · rename_i e1 _ _ _ _ e2
      rw [e1] at e2
      cases e2
    · rename_i e1 r1 _ _ r2 e2
      rw [e1] at e2
      cases e2
      simp only [deq]
      exact self_key ih r1 r2 (by simpa [pud] using p1) (by simpa [pud] using p2)
theorem self_snap (R : RelG Kt Φ ι F g H) {v : V} {d e : D} (h1 : DV Kt ι F v d) (h2 : DV Kt ι F v e) (p1 : pud 8 (snap g d) = true) (p2 : pud 8 (snap g e) = true) : deq (snap g d) (snap g e) = true := by
  have obj : ∀ {l : Nat} {a : Addr}, ι[l]? = some a → pud 8 (snap g (.ref l)) = true → F a = none ∧ ∃ vs ds, snap g (.ref l) = .lst ds ∧ DVs Kt ι F vs ds := fun {l a} e1 p => by
    rw [snap_ref] at p ⊢
    cases z : g[l]? with
    | none => rw [z] at p; simp [pud] at p
    | some o =>
      rw [z] at p
      cases o with
      | lst es =>
        obtain ⟨n, vs, _, q⟩ := R.ob l a _ z e1
        exact ⟨n, vs, es, rfl, q⟩
      | _ => simp [pud] at p
  cases h1 with
  | @ref l a e1 =>
    obtain ⟨n1, vs, ds, es, q⟩ := obj e1 p1
    cases h2 with
    | @ref m _ e2 =>
      obtain rfl := R.inj _ _ _ e1 e2
      rw [es] at p1 ⊢
      simp only [deq]
      exact self_key (fun a b c d => self_pure 7 a b c d) q q (by simpa [pud] using p1) (by simpa [pud] using p1)
    | tup e2 r2 => rw [n1] at e2; cases e2
    | lst e2 r2 => rw [n1] at e2; cases e2
    | scr e2 r2 => simp [snap, pud] at p2
    | rng e2 => simp [snap, pud] at p2
    | dic e2 => simp [snap, pud] at p2
    | kt e2 r2 => simp [snap, pud] at p2
  | scr e1 r1 => simp [snap, pud] at p1
  | rng e1 => simp [snap, pud] at p1
  | dic e1 => simp [snap, pud] at p1
  | kt e1 r1 => simp [snap, pud] at p1
  | non => cases h2; simp [deq]
  | bl b => cases h2; simp [deq]
  | int i => cases h2; simp [deq]
  | str z =>
    cases h2 with
    | str z2 => rw [tab_inj z z2]; simp [deq]
  | tup e1 r1 =>
    cases h2 with
    | ref e2 => obtain ⟨n1, _⟩ := obj e2 p2; rw [n1] at e1; cases e1
    | scr e2 r2 => simp [snap, pud] at p2
    | rng e2 => simp [snap, pud] at p2
    | dic e2 => simp [snap, pud] at p2
    | kt e2 r2 => simp [snap, pud] at p2
    | tup e2 r2 => exact self_pure 8 (.tup e1 r1) (.tup e2 r2) p1 p2
    | lst e2 r2 => exact self_pure 8 (.tup e1 r1) (.lst e2 r2) p1 p2
  | lst e1 r1 =>
    cases h2 with
    | ref e2 => obtain ⟨n1, _⟩ := obj e2 p2; rw [n1] at e1; cases e1
    | scr e2 r2 => simp [snap, pud] at p2
    | rng e2 => simp [snap, pud] at p2
    | dic e2 => simp [snap, pud] at p2
    | kt e2 r2 => simp [snap, pud] at p2
    | tup e2 r2 => exact self_pure 8 (.lst e1 r1) (.tup e2 r2) p1 p2
    | lst e2 r2 => exact self_pure 8 (.lst e1 r1) (.lst e2 r2) p1 p2
theorem self_leaf (R : RelG Kt Φ ι F g H) {v : V} {d e : D} {b : Bool} (h1 : DV Kt ι F v d) (h2 : DV Kt ι F v e) (h : leafG g d e = some b) : b = true := by
  unfold leafG at h
  split at h
  · rename_i hc
    rw [Bool.and_eq_true] at hc
    cases h
    exact self_snap R h1 h2 hc.1 hc.2
  · cases h
theorem self_zip {f : D → D → Option Bool} (ih : ∀ {v : V} {d e : D} {b : Bool}, DV Kt ι F v d → DV Kt ι F v e → f d e = some b → b = true) : ∀ {vs : List V} {ds es : List D} {b : Bool}, DVs Kt ι F vs ds → DVs Kt ι F vs es → zipAll f ds es = some b → b = true
  | [], _, _, _, .nil, .nil, h => by cases h; rfl
  | v :: vs, _, _, _, .cons a1 b1, .cons a2 b2, h => by
    unfold zipAll at h
    split at h
    · rename_i c r e1 e2
      cases h
      rw [ih a1 a2 e1, self_zip ih b1 b2 e2]
      rfl
    · cases h
theorem self_eqG (R : RelG Kt Φ ι F g H) : ∀ (n : Nat) {v : V} {d e : D} {b : Bool}, DV Kt ι F v d → DV Kt ι F v e → eqG n g d e = some b → b = true
  | 0, _, _, _, _, _, _, h => by cases h
  | n + 1, v, d, e, b, h1, h2, h => by
    unfold eqG at h
    split at h
    · cases h1 with
      | tup e1 r1 =>
      cases h2 with
      | tup e2 r2 =>
      rw [e1] at e2
      cases e2
      exact self_zip (fun a b c => self_eqG R n a b c) r1 r2 h
    · cases h1 with
      | ref e1 =>
      cases h2 with
      | ref e2 =>
      rw [R.inj _ _ _ e1 e2] at h
      simp at h
      exact h
    · exact self_leaf R h1 h2 h
theorem EqIn.mono {P : Program} {w : World} {A : Around} {x y : Value} {b c : Bool} (h : EqIn P w A s x y b) (e : b = c) : EqIn P w A s x y c := e ▸ h
theorem leaf_ok (I : Inv X pins σ H s) (eK : X.K = Kt.K) (R : RelG Kt Φ ι F g H) {v u : V} {d e : D} {x y : Value} {b : Bool} (h1 : DV Kt ι F v d) (h2 : DV Kt ι F u e) (rx : RelV v x) (ry : RelV u y) (h : leafG g d e = some b) (A : Around) (hu : A.units + 65 < cLine) : EqIn X.prog X.w A s x y b := by
  unfold leafG at h
  split at h
  · rename_i hc
    rw [Bool.and_eq_true] at hc
    cases h
    obtain ⟨a1, a2⟩ := snap_dp R h1 hc.1
    obtain ⟨b1, b2⟩ := snap_dp R h2 hc.2
    rw [← eK] at a1 b1
    obtain ⟨as, r1⟩ := Dp.reads I _ _ _ a1 rx
    obtain ⟨bs, r2⟩ := Dp.reads I _ _ _ b1 ry
    have sx := py_shaped Kt.sk hc.1 (by decide)
    have sy := py_shaped Kt.sk hc.2 (by decide)
    have q := SeqAt.eqAt_reads _ _ A s x y as bs r1 r2 (SeqAt.canLay_of_shaped sx) (SeqAt.canLay_of_shaped sy) (SeqAt.room_of_shaped sx (by omega))
    rw [deq_py Kt.nd _ _ 8 8 hc.1 hc.2 a2 b2] at q
    exact q.inModel _ _
  · cases h
/-- what of two items is told -/
def pick (f : D → D → Option Bool) (xs ys : List D) (j : Nat) : Bool := match xs[j]?, ys[j]? with
  | some x, some y => (f x y).getD false
  | _, _ => false
theorem zip_eq {f : D → D → Option Bool} : ∀ {xs ys : List D} {b : Bool}, zipAll f xs ys = some b → b = ((List.range (min xs.length ys.length)).all (pick f xs ys) && xs.length == ys.length)
  | [], [], _, h => by cases h; rfl
  | [], _ :: _, _, h => by cases h; simp
  | _ :: _, [], _, h => by cases h; simp
  | x :: xs, y :: ys, b, h => by
    unfold zipAll at h
    split at h
    · rename_i c r e1 e2
      cases h
      rw [zip_eq e2, List.length_cons, List.length_cons, Nat.succ_min_succ, List.range_succ_eq_map, List.all_cons, List.all_map]
      have hp : (pick f (x :: xs) (y :: ys) ∘ Nat.succ) = pick f xs ys := by funext j; simp [pick]
      have h0 : pick f (x :: xs) (y :: ys) 0 = c := by simp [pick, e1]
      rw [hp, h0, Bool.and_assoc]
      congr 2
      rw [Bool.eq_iff_iff]
      simp
    · cases h
theorem zip_at {f : D → D → Option Bool} : ∀ {xs ys : List D} {b : Bool} {j : Nat} {x y : D}, zipAll f xs ys = some b → xs[j]? = some x → ys[j]? = some y → f x y = some (pick f xs ys j)
  | [], _, _, _, _, _, _, h, _ => by simp at h
  | _ :: _, [], _, _, _, _, _, _, h => by simp at h
  | x :: xs, y :: ys, b, j, x', y', h, hx, hy => by
    unfold zipAll at h
    split at h
    · rename_i c r e1 e2
      cases j with
      | zero =>
        simp at hx hy
        subst hx; subst hy
        simp [pick, e1]
      | succ j => simpa [pick] using zip_at e2 (by simpa using hx) (by simpa using hy)
    · cases h
theorem vals_at {vs : List V} {us : List Value} (r : Vals vs us) : ∀ {j : Nat} {u : Value}, us[j]? = some u → ∃ v, vs[j]? = some v ∧ RelV v u := by
  induction r with
  | nil => intro j u h; simp at h
  | cons a _ ih =>
    intro j u h
    cases j with
    | zero => simp at h; subst h; exact ⟨_, rfl, a⟩
    | succ j => simpa using ih (by simpa using h)
section
variable {A : Around} {f : D → D → Option Bool}
def Sound (Kt : Kit) (ι : List Addr) (F : Hp) (P : Program) (w : World) (A : Around) (s : Shared) (f : D → D → Option Bool) : Prop := ∀ {v u : V} {d e : D} {x y : Value} {b : Bool}, DV Kt ι F v d → DV Kt ι F u e → RelV v x → RelV u y → f d e = some b → EqIn P w A s x y b
theorem hits_int (hf : Sound Kt ι F X.prog X.w A s f) {ls : List (D × D)} {lus : List (Key × V)} {vb : List (Key × Value)} (rl : KR Kt ι F lus ls) (rb : KV lus vb) : ∀ {us : List (Key × V)} {va : List (Key × Value)} (_ : KV us va) {ks : List (D × D)} {b : Bool} (_ : KR Kt ι F us ks), hitsD f ls ks = some b → PySem.W.KeqHitsIn X.prog X.w A s vb va b := by
  intro us va ra
  unfold KV at ra
  induction ra with
  | nil => intro ks b rk h; cases rk; cases h; exact .nil
  | @cons p q ps qs hpq t ih =>
    intro ks b rk h
    cases rk with
    | @cons j v dk dv r ks' hk hv tk =>
    obtain ⟨h1, h2⟩ := hpq
    obtain ⟨key, val⟩ := q
    have h1 : j = key := h1
    subst h1
    unfold hitsD at h
    have fl := rl.find hk
    split at h
    · rename_i e1
      simp only at e1
      rw [e1] at fl
      have fl : valV lus j = none := fl
      have q := (rb.val j).isSome_eq
      rw [fl] at q
      have vn : valueAt vb j = none := by
        cases z : valueAt vb j with
        | none => rfl
        | some _ => rw [z] at q; cases q
      obtain ⟨c, _, hc⟩ := Option.map_eq_some_iff.mp h
      subst hc
      exact .miss vn
    · rename_i y e1
      simp only at e1
      rw [e1] at fl
      obtain ⟨vy, fl, ry⟩ := fl
      obtain ⟨uy, hy, ruy⟩ := RelO.some_of (v := vy) (o := valueAt vb j) (by rw [← fl]; exact rb.val j)
      split at h
      · rename_i c q e2 e3
        cases h
        exact .hit hy (hf hv ry h2 ruy e2) (ih tk e3)
      · cases h
theorem hits_tup {ls : List (D × D)} (hf : Sound Kt ι F X.prog X.w A s f) {lus : List (List Key × V)} {vb : List (List Key × Addr × Value)} (rl : KRT Kt ι F lus ls) (rb : KT H lus vb) : ∀ {us : List (List Key × V)} {va : List (List Key × Addr × Value)} (_ : KT H us va) {ks : List (D × D)} {b : Bool} (_ : KRT Kt ι F us ks), hitsD f ls ks = some b → HitsT X.prog X.w A s vb va b := by
  intro us va ra
  induction ra with
  | nil => intro ks b rk h; cases rk; cases h; exact .nil
  | @cons p q ps qs hpq t ih =>
    intro ks b rk h
    cases rk with
    | @cons j v dk dv r ks' hk hv tk =>
    obtain ⟨h1, h2, h3⟩ := hpq
    obtain ⟨key, ka, val⟩ := q
    have h1 : j = key := h1
    subst h1
    unfold hitsD at h
    have fl := rl.find hk
    split at h
    · rename_i e1
      simp only at e1
      rw [e1] at fl
      have fl : valV lus j = none := fl
      have q := (rb.val j).isSome_eq
      rw [fl, Option.isSome_map] at q
      have vn : atKey vb j = none := by
        cases z : atKey vb j with
        | none => rfl
        | some _ => rw [z] at q; cases q
      obtain ⟨c, _, hc⟩ := Option.map_eq_some_iff.mp h
      subst hc
      exact .no vn
    · rename_i y e1
      simp only at e1
      rw [e1] at fl
      obtain ⟨vy, fl, ry⟩ := fl
      obtain ⟨uy, hy, ruy⟩ := RelO.some_of (v := vy) (o := (atKey vb j).map (·.2)) (by rw [← fl]; exact rb.val j)
      obtain ⟨pr, hp, hp2⟩ := Option.map_eq_some_iff.mp hy
      subst hp2
      split at h
      · rename_i c q e2 e3
        cases h
        exact .yes hp (hf hv ry h3 ruy e2) (ih tk e3)
      · cases h
/-- two dicts -/
theorem pairs_ok (I : Inv X pins σ H s) (R : RelG Kt Φ ι F g H) {l m : Nat} {a c : Addr} {t : Bool} {ks ls : List (D × D)} {b : Bool} (e1 : ι[l]? = some a) (e2 : ι[m]? = some c) (p1 : (g[l]?).bind prsO = some (t, ks)) (p2 : (g[m]?).bind prsO = some (t, ls)) (hu : A.units < cLine)
    (hf : Sound Kt ι F X.prog X.w A s f) (h : (match ks.length == ls.length with
      | true => hitsD f ls ks
      | false => some false) = some b) : s.TypeIs (.ref a) "dict" ∧ s.TypeIs (.ref c) "dict" ∧ ∀ nm Q', Q' b s → wpAny (model X.prog X.w) A (Builtin.Dict.samePairs nm a c) Q' (fun _ _ => False) s := by
  have o1 := prsO_ok R e1 p1
  have o2 := prsO_ok R e2 p2
  cases t with
  | false =>
    obtain ⟨us, q1, r1⟩ := o1
    obtain ⟨ws, q2, r2⟩ := o2
    obtain ⟨_, na, va, ra, da⟩ := dk_rd I.hok q1
    obtain ⟨_, nc, vb, rb, db⟩ := dk_rd I.hok q2
    have la : va.length = ks.length := by rw [← ra.length, r1.length]
    have lb : vb.length = ls.length := by rw [← rb.length, r2.length]
    refine ⟨da.typeIs, db.typeIs, fun nm Q' hq => ?_⟩
    cases z : ks.length == ls.length with
    | true =>
      rw [z] at h
      refine PySem.W.keq_samePairsIn (r := b) na nc da db (fun _ => hits_int hf r2 rb ra r1 h) ?_
      rw [la, lb, z]
      simpa using hq
    | false =>
      rw [z] at h
      cases h
      refine PySem.W.keq_samePairsIn (r := false) na nc da db (fun hl => ?_) (by simpa using hq)
      rw [la, lb] at hl
      simp [hl] at z
  | true =>
    obtain ⟨us, q1, r1⟩ := o1
    obtain ⟨ws, q2, r2⟩ := o2
    obtain ⟨_, na, va, ra, da⟩ := dt_rd I.hok q1
    obtain ⟨_, nc, vb, rb, db⟩ := dt_rd I.hok q2
    have la : va.length = ks.length := by rw [← Paired.length ra, r1.length]
    have lb : vb.length = ls.length := by rw [← Paired.length rb, r2.length]
    refine ⟨da.typeIs, db.typeIs, fun nm Q' hq => ?_⟩
    cases z : ks.length == ls.length with
    | true =>
      rw [z] at h
      refine same_dt (r := b) na nc da db hu (fun _ => hits_tup hf r2 rb ra r1 h) ?_
      rw [la, lb, z]
      simpa using hq
    | false =>
      rw [z] at h
      cases h
      refine same_dt (r := false) na nc da db hu (fun hl => ?_) (by simpa using hq)
      rw [la, lb] at hl
      simp [hl] at z
end
theorem eqG_ok (I : Inv X pins σ H s) (eK : X.K = Kt.K) (R : RelG Kt Φ ι F g H) : ∀ (n : Nat) (A : Around), A.units + n + 65 < cLine → Sound Kt ι F X.prog X.w A s (eqG n g)
  | 0, _, _ => fun _ _ _ _ h => by cases h
  | n + 1, A, hu => by
    intro h1 h2 rx ry h
    rename_i v u d e x y b
    unfold eqG at h
    split at h
    · rename_i xs ys
      have h1' := h1
      have h2' := h2
      cases h1 with
      | @tup a vs _ e1 r1 =>
      cases h2 with
      | @tup c us _ e2 r2 =>
      obtain rfl : x = Value.ref a := rx
      obtain rfl : y = Value.ref c := ry
      by_cases hac : a = c
      · subst hac
        rw [e1] at e2
        cases e2
        rw [self_zip (fun a b c => self_eqG R n a b c) r1 r2 h]
        exact (SeqAt.EqAt.same _).inModel _ _
      · obtain ⟨as, q1, t1, _⟩ := I.tuple (a := a) (xs := vs) (tS (R.sub _ _ e1))
        obtain ⟨cs, q2, t2, _⟩ := I.tuple (a := c) (xs := us) (tS (R.sub _ _ e2))
        have la : as.toArray.size = xs.length := by rw [List.size_toArray, ← q1.length, r1.length]
        have lc : cs.toArray.size = ys.length := by rw [List.size_toArray, ← q2.length, r2.length]
        refine SeqAt.EqIn.of_refs hac fun E Q hq => SeqAt.rcIn_tuples (e := pick (eqG n g) xs ys) t1 t2 (by omega) (fun j j1 j2 => ?_) ?_
        · have g1 : as[j]? = some as.toArray[j] := by
            rw [List.getElem_toArray]
            exact List.getElem?_eq_getElem (by simpa using j1)
          have g2 : cs[j]? = some cs.toArray[j] := by
            rw [List.getElem_toArray]
            exact List.getElem?_eq_getElem (by simpa using j2)
          obtain ⟨v1, k1, w1⟩ := vals_at q1 g1
          obtain ⟨v2, k2, w2⟩ := vals_at q2 g2
          obtain ⟨d1, k3, w3⟩ := r1.get' k1
          obtain ⟨d2, k4, w4⟩ := r2.get' k2
          exact eqG_ok I eK R n A.in1 (by show A.units + 1 + n + 65 < cLine; omega) w3 w4 w1 w2 (zip_at h k3 k4)
        · rw [la, lc, ← zip_eq h]
          exact hq
    · rename_i l m
      have h1' := h1
      have h2' := h2
      cases h1 with
      | @ref _ a e1 =>
      cases h2 with
      | @ref _ c e2 =>
      obtain rfl : x = Value.ref a := rx
      obtain rfl : y = Value.ref c := ry
      cases hlm : l == m with
      | true =>
        rw [hlm] at h
        cases h
        obtain rfl := beq_iff_eq.mp hlm
        rw [e1] at e2
        cases e2
        exact (SeqAt.EqAt.same _).inModel _ _
      | false =>
        rw [hlm] at h
        simp only at h
        split at h
        · rename_i t ks t' ls p1 p2
          have ht : t = t' := by
            cases z : t == t' with
            | true => exact beq_iff_eq.mp z
            | false => rw [z] at h; cases ks.length == ls.length <;> cases h
          subst ht
          have h' : (match ks.length == ls.length with
            | true => hitsD (eqG n g) ls ks
            | false => some false) = some b := by
            cases z : ks.length == ls.length with
            | true => rw [z] at h; simpa using h
            | false => rw [z] at h; simpa using h
          obtain ⟨ta, tc, run⟩ := pairs_ok (A := A.in1) I R e1 e2 p1 p2 (by show A.units + 1 < cLine; omega) (eqG_ok I eK R n A.in1 (by show A.units + 1 + n + 65 < cLine; omega)) h'
          have hac : a ≠ c := fun z => by
            rw [← z] at e2
            rw [R.inj _ _ _ e1 e2] at hlm
            simp at hlm
          refine SeqAt.EqIn.of_refs hac fun E Q hq => ?_
          have q := cmp_dict (P := X.prog) (w := X.w) (E := E) (Q := Q) false ta tc (by omega) run (by simpa using hq)
          exact q
        · exact leaf_ok I eK R h1' h2' rfl rfl h A (by omega)
    · exact leaf_ok I eK R h1 h2 rx ry h A (by omega)
def rEqX (Kt : Kit) (neg : Bool) : R2 := fun x y H Q => ∃ Φ ι F g d e b, RelG Kt Φ ι F g H ∧ DV Kt ι F x d ∧ DV Kt ι F y e ∧ eqX neg g d e = some (.bl b) ∧ Q (.bl b) H
theorem op_eqX {neg : Bool} (eK : X.K = Kt.K) (hu : X.A.units + 80 < cLine) : OpR X (compareOp (if neg = true then .NotEq else .Eq)) (rEqX Kt neg) := by
  intro pins s σ H x y v u Q I rx ry ⟨Φ, ι, F, g, d, e, b, R, h1, h2, h, q⟩
  unfold eqX at h
  split at h
  · rename_i l m
    cases h1 with
    | @ref _ a e1 =>
    cases h2 with
    | @ref _ c e2 =>
    obtain rfl : v = Value.ref a := rx
    obtain rfl : u = Value.ref c := ry
    split at h
    · cases h
    · rename_i hlm
      split at h
      · rename_i p1 p2 q1 q2
        obtain ⟨r, hr, er⟩ := Option.map_eq_some_iff.mp h
        cases er
        unfold eqG at hr
        simp only [hlm] at hr
        obtain ⟨t, ks⟩ := p1
        obtain ⟨t', ls⟩ := p2
        rw [q1, q2] at hr
        simp only at hr
        have ht : t = t' := by
          cases z : t == t' with
          | true => exact beq_iff_eq.mp z
          | false => rw [z] at hr; cases ks.length == ls.length <;> cases hr
        subst ht
        have h' : (match ks.length == ls.length with
          | true => hitsD (eqG 7 g) ls ks
          | false => some false) = some r := by
          cases z : ks.length == ls.length with
          | true => rw [z] at hr; simpa using hr
          | false => rw [z] at hr; simpa using hr
        obtain ⟨ta, tc, run⟩ := pairs_ok (A := X.A.in1) I R e1 e2 q1 q2 (by show X.A.units + 1 < cLine; omega) (eqG_ok I eK R 7 X.A.in1 (by show X.A.units + 1 + 7 + 65 < cLine; omega)) h'
        exact cmp_dict neg ta tc (by omega) run ⟨.bl _, H, I, rfl, q⟩
      · cases h
  · cases h
theorem od_eqX {neg : Bool} : OpD Kt (rEqX Kt neg) (eqX neg) := by
  intro Φ ι F g H x y d e z R hx hy h Q q
  have hz : ∃ b, z = .bl b := by
    unfold eqX at h
    split at h
    · split at h
      · cases h
      · split at h
        · obtain ⟨r, _, er⟩ := Option.map_eq_some_iff.mp h
          exact ⟨_, er.symm⟩
        · cases h
    · cases h
  obtain ⟨b, rfl⟩ := hz
  exact ⟨Φ, ι, F, g, d, e, b, R, hx, hy, h, q _ _ _ _ Ex.refl R (.bl _)⟩
theorem cm_eqX {W : WX} {k : Nat} (A : At Kt X W k) : Cmp Kt X .Eq (eqX false) := ⟨_, op_eqX (neg := false) A.eK (by have := A.room.un; omega), od_eqX⟩
theorem cm_neX {W : WX} {k : Nat} (A : At Kt X W k) : Cmp Kt X .NotEq (eqX true) := ⟨_, op_eqX (neg := true) A.eK (by have := A.room.un; omega), od_eqX⟩
end
/-- the dict that is walked -/
def pkOf (m : EM) : En → G → Option Nat := fun e g => match m e g with
  | .ok (.ref l) _ => some l
  | _ => none
/-! ### for the head -/
theorem tb_nodup {α : Type} {f g : α → Addr} {q : α → Str} : ∀ {l : List α}, (l.map g).Nodup → ∀ s ∈ l.map (fun p => (f p, g p, q p)), ∀ t ∈ l.map (fun p => (f p, g p, q p)), s.2.1 = t.2.1 → s = t
  | [], _, s, hs, _, _, _ => by cases hs
  | a :: l, nd, s, hs, t, ht, e => by
    rw [List.map_cons, List.nodup_cons] at nd
    rw [List.map_cons] at hs ht
    rcases List.mem_cons.mp hs with rfl | hs
    · rcases List.mem_cons.mp ht with rfl | ht
      · rfl
      · obtain ⟨b, hb, rfl⟩ := List.mem_map.mp ht
        exact absurd (List.mem_map.mpr ⟨b, hb, e.symm⟩) nd.1
    · rcases List.mem_cons.mp ht with rfl | ht
      · obtain ⟨b, hb, rfl⟩ := List.mem_map.mp hs
        exact absurd (List.mem_map.mpr ⟨b, hb, e⟩) nd.1
      · exact tb_nodup nd.2 s hs t ht e
theorem lam_code {Kt : Kit} {p : He.Defn} {x qual q : Str} {params : Arguments} {body : List Stmt} {scope : Scope} {dvs : List V} {kws : List (Str × V)} {fd : FuncData} (F : FunD Kt.K x qual params body scope dvs kws (He.fAd Kt.K p) fd) (hm : ((He.cT Kt.K p).1, (He.cT Kt.K p).2, q) ∈ Kt.tbs)
    (inj : ∀ s ∈ Kt.tbs, ∀ t ∈ Kt.tbs, s.2.1 = t.2.1 → s = t) (TB : ∀ t ∈ Kt.tbs, LamX.TabB Kt.base Kt.mg t.1 t.2.1) : LamD Kt fd.code q := by
  obtain ⟨oc, od, dV, kV, doc, pm, an, cdv, ct, osl, rfl, lk, hcd, _, _⟩ := F.ex
  obtain ⟨c, rfl⟩ := He.codeIn_ref hcd
  have e : He.codeOf Kt.K p = c := He.codeOf_eq lk rfl
  have hm' : (c, (He.cT Kt.K p).2, q) ∈ Kt.tbs := by
    have h := hm
    rw [show (He.cT Kt.K p).1 = c from e] at h
    exact h
  exact ⟨c, (He.cT Kt.K p).2, rfl, hm', fun t ht h => by rw [inj t ht _ hm' h], TB _ hm'⟩
end Y

set_option Elab.async false
set_option linter.all false
set_option maxRecDepth 100000
/-! Y: ranges as values, lists of ranges. -/
namespace Y
open PySem PySem.Spec PyProof.Rows L2
def rgB (i j : Int) : Bool := rB i && (rB j && okL (j - i).toNat)
theorem rgB_ok {i j : Int} (h : rgB i j = true) : RgOk i j := by
  unfold rgB at h
  rw [Bool.and_eq_true, Bool.and_eq_true] at h
  have h1 := rB_ok h.1
  have h2 := rB_ok h.2.1
  have h3 := okL_iff.mp h.2.2
  rw [← line_eq] at h3
  exact ⟨h1.1, h1.2, h2.1, h2.2, h3⟩
theorem rgB_of {i j : Int} (h1 : -1000000 ≤ i) (h2 : i ≤ 1000000) (h3 : -1000000 ≤ j) (h4 : j ≤ 1000000) : rgB i j = true := by
  unfold rgB
  rw [rB_of (by omega) (by omega), rB_of (by omega) (by omega), okL_of (by omega)]
  rfl
theorem dvs_rng {Kt : Kit} {ι : List Addr} {F : Hp} (lo : Int) : ∀ ns : List Nat, DVs Kt ι F (ns.map fun (i : Nat) => V.int (lo + (i : Int))) (ns.map fun (i : Nat) => D.int (lo + (i : Int)))
  | [] => .nil
  | _ :: ns => .cons (.int _) (dvs_rng lo ns)
/-- list(range(n)), list(range(i, j)) -/
def vLRg1 (a : EM) : EM := fun e g => (a e g).bind fun x g1 => match x with
  | .int j => (match rgB 0 j with
    | true => .ok (.lst (rngL 0 j.toNat)) g1
    | false => .stuck)
  | _ => .stuck
def vLRg2 (a b : EM) : EM := fun e g => (a e g).bind fun x g1 => (b e g1).bind fun y g2 => match x, y with
  | .int i, .int j => (match rgB i j with
    | true => .ok (.lst (rngL i (j - i).toNat)) g2
    | false => .stuck)
  | _, _ => .stuck
/-- range(i, j) -/
def vRng2 (a : AM) : EM := fun e g => (a e g).bind fun xs g1 => match xs with
  | [.int i, .int j] => .ok (.rng i j) g1
  | _ => .stuck
/-- i in range(..), not in it: a range or what inD takes -/
def inR (neg : Bool) : OpT := fun g x y => match x, y with
  | .int i, .rng lo hi => some (.bl (decide (lo ≤ i ∧ i < hi) != neg))
  | _, _ => none
section
variable {Kt : Kit} {X : Cx} {W : WX} {k : Nat} {a b c : Expr} {ma mb mc : EM} {es : List Expr} {ms : AM} {pos : Pos}
theorem se_lrg1 {p q : Pos} (A : At Kt X W k) (h1 : Kt.mg "list" = none) (h2 : Kt.mg "range" = none) (ha : PE X a (te Kt W ma)) (g1 : Gl X "list" := by rfl) (g2 : Gl X "range" := by rfl) (na : starEach [a] X.env = (false, eval a X.env) :: starEach [] X.env := by rfl)
    (nb : starEach [.Call (.Name "range" q) [a] [] pos] X.env = (false, eval (.Call (.Name "range" q) [a] [] pos) X.env) :: starEach [] X.env := by rfl) {pos2 : Pos} :
    PE X (.Call (.Name "list" p) [.Call (.Name "range" q) [a] [] pos] [] pos2) (te Kt W (vLRg1 ma)) := by
  refine L2.PE.imp (pe_listRg A.calm g1 (A.em ▸ h1) (prg_1 g2 (A.em ▸ h2) ha na) nb) fun σ H Q ⟨Φ, ι, F, e, g, S, h⟩ => ⟨Φ, ι, F, e, g, S, (po.bind (Rl := DV Kt) h).imp fun v H1 ⟨ι1, F1, g1, d, x1, R1, r1, h1⟩ => ?_⟩
  split at h1
  · rename_i j
    cases r1
    split at h1
    · rename_i hc
      refine ⟨j, rfl, rgB_ok hc, ?_⟩
      have e : (j - 0).toNat = j.toNat := by rw [Int.sub_zero]
      have r := dvs_rng (Kt := Kt) (ι := ι1) (F := F1) 0 (List.range j.toNat)
      exact newL R1 (by unfold rgV; rw [e]; exact r) h1
    · exact h1.elim
  · exact h1.elim
theorem se_lrg2 {p q : Pos} (A : At Kt X W k) (h1 : Kt.mg "list" = none) (h2 : Kt.mg "range" = none) (ha : PE X a (te Kt W ma)) (hb : PE X b (te Kt W mb)) (g1 : Gl X "list" := by rfl) (g2 : Gl X "range" := by rfl) (na : starEach [a, b] X.env = (false, eval a X.env) :: starEach [b] X.env := by rfl)
    (na2 : starEach [b] X.env = (false, eval b X.env) :: starEach [] X.env := by rfl) (hp : (backTo pos (starEach [b] X.env)).any (·.1) = false := by rfl)
    (nb : starEach [.Call (.Name "range" q) [a, b] [] pos] X.env = (false, eval (.Call (.Name "range" q) [a, b] [] pos) X.env) :: starEach [] X.env := by rfl) {pos2 : Pos} :
    PE X (.Call (.Name "list" p) [.Call (.Name "range" q) [a, b] [] pos] [] pos2) (te Kt W (vLRg2 ma mb)) := by
  refine L2.PE.imp (pe_listRg A.calm g1 (A.em ▸ h1) (prg_2 g2 (A.em ▸ h2) ha hb na na2 hp) nb) fun σ H Q ⟨Φ, ι, F, e, g, S, h⟩ => ⟨Φ, ι, F, e, g, S, (po.bind (Rl := DV Kt) h).imp fun v H1 ⟨ι1, F1, g1, d, x1, R1, r1, h1⟩ => ?_⟩
  refine ⟨Φ, ι1, F1, e, g1, ⟨S.env.mono x1, R1⟩, (po.bind (Rl := DV Kt) h1).imp fun v2 H2 ⟨ι2, F2, g2, d2, x2, R2, r2, h2⟩ => ?_⟩
  have r1 := r1.mono x2
  cases r1 with
  | int i =>
    cases r2 with
    | int j =>
      simp only at h2
      split at h2
      · rename_i hc
        exact ⟨i, j, rfl, rfl, rgB_ok hc, newL R2 (dvs_rng i (List.range (j - i).toNat)) h2⟩
      · exact h2.elim
    | _ => exact h2.elim
  | _ => exact h2.elim
theorem bt_range : bootBuiltins "range" = some (.type "range") := by decide +kernel
theorem se_rng2 {p : Pos} (A : At Kt X W k) (hm : Kt.mg "range" = none) (ha : PA X (a :: es) (ta Kt W ms)) (hg : Gl X "range" := by rfl) (he : starEach (a :: es) X.env = (false, eval a X.env) :: starEach es X.env := by rfl) (hpl : (backTo pos (starEach es X.env)).any (·.1) = false := by rfl) :
    PE X (.Call (.Name "range" p) (a :: es) [] pos) (te Kt W (vRng2 ms)) := by
  refine L2.PE.imp (pe_callTy (p := p) cr_range2 hg (A.em ▸ hm) bt_range ha (by decide) (by decide) he hpl) fun σ H Q ⟨Φ, ι, F, e, g, S, h⟩ => ⟨Φ, ι, F, e, g, S, (po.bind (Rl := DVs Kt) h).imp fun v H1 ⟨ι1, F1, g1, d1, x1, R1, r1, h1⟩ => ?_⟩
  split at h1
  · rename_i i j
    cases r1 with
    | cons q1 r1 =>
    cases r1 with
    | cons q2 r1 =>
    cases r1
    cases q1
    cases q2
    refine ⟨i, j, rfl, fun q hq => ?_⟩
    obtain ⟨R', x⟩ := R1.frz hq (.rng i j)
    exact h1 _ _ _ _ x R' (.rng upd_same)
  · exact h1.elim
def rInR (neg : Bool) : R2 := fun x y H Q => ∃ i a lo hi, x = V.int i ∧ y = V.ref a ∧ H a = some (.rng lo hi) ∧ Q (.bl (decide (lo ≤ i ∧ i < hi) != neg)) H
theorem op_inR {neg : Bool} : OpR X (compareOp (if neg = true then .NotIn else .In)) (rInR neg) := by
  intro pins s σ H x y v u Q I rx ry h
  obtain ⟨i, a, lo, hi, rfl, rfl, ha, q⟩ := h
  have key := op_in_rng (X := X) pins s σ H _ _ v u (fun z H' => z = .bl (decide (lo ≤ i ∧ i < hi)) ∧ H' = H) I rx ry ⟨i, a, lo, hi, rfl, rfl, ha, rfl, rfl⟩
  cases neg with
  | false =>
    refine thn key fun w s' ⟨z, H', I', rz, e, e2⟩ => ?_
    subst e; subst e2
    exact ⟨_, _, I', rz, by simpa using q⟩
  | true =>
    have key2 : wpAny (model X.prog X.w) X.A (contains u v) (fun c s' => Inv X pins σ H s' ∧ c = decide (lo ≤ i ∧ i < hi)) X.xe s := by
      obtain ⟨kk, rfl⟩ := rx
      obtain rfl : u = Value.ref a := ry
      obtain ⟨t1, t2, t3, ho⟩ := I.hok a _ ha
      refine wpAny_contains_slot (T := "range") ⟨_, ho, rfl⟩ F.slot_range_contains (call_meets F.slot_range_contains ⟨_, ho, rfl⟩ F.entry_range_contains (F.args_range_contains_2 _ _) (q_contains a lo hi i t1 t2 t3 kk) ⟨ho, ?_⟩)
      exact wpAny_truthy_bool ⟨I, place1 lo hi i⟩
    show wpAny _ _ (do return Value.bool (!(← contains u v))) _ _ s
    refine wpAny_bind (thn key2 fun cc s' ⟨I', e⟩ => ?_)
    subst e
    exact wpAny_pure ⟨.bl _, H, I', rfl, by simpa using q⟩
theorem od_inR {neg : Bool} : OpD Kt (rInR neg) (inR neg) := by
  intro Φ ι F g H x y d e z R hx hy h Q q
  unfold inR at h
  split at h
  · cases h
    cases hx
    cases hy with
    | rng e1 => exact ⟨_, _, _, _, rfl, rfl, R.sub _ _ e1, q _ _ _ _ Ex.refl R (.bl _)⟩
  · cases h
theorem cm_inR : Cmp Kt X .In (inR false) := ⟨_, op_inR (neg := false), od_inR⟩
theorem cm_notinR : Cmp Kt X .NotIn (inR true) := ⟨_, op_inR (neg := true), od_inR⟩
end
end Y

set_option Elab.async false
set_option linter.all false
set_option maxRecDepth 100000
/-! Y: dicts whose keys are tuples: copies, pairs, comprehensions; pop. -/
namespace Y
open PySem PySem.Spec PyProof.Rows L2
/-! ### keys whose hashes differ -/
def smallK : D → Bool
  | .tup [.int a, .int b] => decide (0 ≤ a ∧ a < 8) && decide (0 ≤ b ∧ b < 2)
  | .tup [.int a, .int b, .int c] => decide (0 ≤ a ∧ a < 2) && (decide (0 ≤ b ∧ b < 4) && decide (0 ≤ c ∧ c < 2))
  | _ => false
def smallKs : List (List Int) := ((List.range 16).map fun (i : Nat) => [((i / 2 : Nat) : Int), ((i % 2 : Nat) : Int)]) ++ ((List.range 16).map fun (i : Nat) => [((i / 8 : Nat) : Int), ((i / 2 % 4 : Nat) : Int), ((i % 2 : Nat) : Int)])
def hashI (ks : List Int) : Int := reduceHash (Builtin.Tuple.tupleHashOf (ks.map hashInt))
theorem hash_nd : (smallKs.map hashI).Nodup := by decide +kernel
theorem hash_inj {a b : List Int} (ha : a ∈ smallKs) (hb : b ∈ smallKs) (h : hashI a = hashI b) : a = b := by
  have key : ∀ {l : List (List Int)}, (l.map hashI).Nodup → a ∈ l → b ∈ l → a = b := by
    intro l
    induction l with
    | nil => intro _ h; cases h
    | cons x l ih =>
      intro nd m1 m2
      rw [List.map_cons, List.nodup_cons] at nd
      rcases List.mem_cons.mp m1 with e1 | n1
      · rcases List.mem_cons.mp m2 with e2 | n2
        · rw [e1, e2]
        · exact absurd (List.mem_map.mpr ⟨b, n2, by rw [← h, e1]⟩) nd.1
      · rcases List.mem_cons.mp m2 with e2 | n2
        · exact absurd (List.mem_map.mpr ⟨a, n1, by rw [h, e2]⟩) nd.1
        · exact ih nd.2 n1 n2
  exact key hash_nd ha hb
theorem small_mem2 {a b : Int} (h1 : 0 ≤ a ∧ a < 8) (h2 : 0 ≤ b ∧ b < 2) : [a, b] ∈ smallKs := by
  refine List.mem_append_left _ (List.mem_map.mpr ⟨(2 * a + b).toNat, List.mem_range.mpr (by omega), ?_⟩)
  have e1 : (((2 * a + b).toNat / 2 : Nat) : Int) = a := by omega
  have e2 : (((2 * a + b).toNat % 2 : Nat) : Int) = b := by omega
  rw [e1, e2]
theorem small_mem3 {a b c : Int} (h1 : 0 ≤ a ∧ a < 2) (h2 : 0 ≤ b ∧ b < 4) (h3 : 0 ≤ c ∧ c < 2) : [a, b, c] ∈ smallKs := by
  refine List.mem_append_right _ (List.mem_map.mpr ⟨(8 * a + 2 * b + c).toNat, List.mem_range.mpr (by omega), ?_⟩)
  have e1 : (((8 * a + 2 * b + c).toNat / 8 : Nat) : Int) = a := by omega
  have e2 : (((8 * a + 2 * b + c).toNat / 2 % 4 : Nat) : Int) = b := by omega
  have e3 : (((8 * a + 2 * b + c).toNat % 2 : Nat) : Int) = c := by omega
  rw [e1, e2, e3]
theorem tkh_ints {P : Program} {w : World} : ∀ (ks : List Int), tupleKeyHash (mixKind P w) (ks.map Sum.inl) = hashI ks := by
  intro ks
  unfold tupleKeyHash hashI
  rw [List.map_map]
  rfl
section
variable {Kt : Kit} {ι : List Addr} {F H : Hp} {g : G}
theorem int_dv {k : Key} {i : Int} (r : DV Kt ι F (kV k) (.int i)) : k = .inl i := by
  cases k with
  | inl j =>
    have r : DV Kt ι F (V.int j) (.int i) := r
    cases r
    rfl
  | inr x =>
    have r : DV Kt ι F (V.str x) (.int i) := r
    cases r
theorem small_key {k : List Key} {ds : List D} (r : DVs Kt ι F (k.map kV) ds) (h : smallK (.tup ds) = true) : ∃ ks ∈ smallKs, k = ks.map Sum.inl := by
  unfold smallK at h
  split at h
  · rename_i a b e
    cases e
    rw [Bool.and_eq_true, decide_eq_true_eq, decide_eq_true_eq] at h
    match k, r with
    | [x, y], .cons r1 (.cons r2 .nil) => exact ⟨[a, b], small_mem2 h.1 h.2, by rw [int_dv r1, int_dv r2]; rfl⟩
  · rename_i a b c e
    cases e
    rw [Bool.and_eq_true, Bool.and_eq_true, decide_eq_true_eq, decide_eq_true_eq, decide_eq_true_eq] at h
    match k, r with
    | [x, y, z], .cons r1 (.cons r2 (.cons r3 .nil)) => exact ⟨[a, b, c], small_mem3 h.1 h.2.1 h.2.2, by rw [int_dv r1, int_dv r2, int_dv r3]; rfl⟩
  · cases h
def keysS (kvs : List (D × D)) : Bool := kvs.all fun p => smallK p.1
theorem keysS_nd {P : Program} {w : World} {us : List (List Key × V)} {kvs : List (D × D)} (r : KRT Kt ι F us kvs) (h : keysS kvs = true) (nd : (us.map Prod.fst).Nodup) : (us.map fun x => tupleKeyHash (mixKind P w) x.1).Nodup := by
  have all : ∀ x ∈ us, ∃ ks ∈ smallKs, x.1 = ks.map Sum.inl := by
    clear nd
    induction r with
    | nil => intro x hx; cases hx
    | cons hk hv t ih =>
      unfold keysS at h ih
      rw [List.all_cons, Bool.and_eq_true] at h
      intro x hx
      rcases List.mem_cons.mp hx with rfl | hx
      · exact small_key hk h.1
      · exact ih h.2 x hx
  unfold List.Nodup at nd ⊢
  rw [List.pairwise_map] at nd ⊢
  refine (List.Pairwise.and_mem.mp nd).imp fun {x y} ⟨hx, hy, hne⟩ e => hne ?_
  obtain ⟨a, ha, ea⟩ := all x hx
  obtain ⟨b, hb, eb⟩ := all y hy
  rw [ea, eb, tkh_ints, tkh_ints] at e
  rw [ea, eb, hash_inj ha hb e]
end
/-! ### dict(d) -/
section
variable {P : Program} {w : World} {A : Around} {E : Value → Shared → Prop} {s : Shared}
abbrev tmK (P : Program) (w : World) := tupleKind (mixKind P w)
theorem tk_keep {k : List Key} {a : Addr} {h h' : Heap} (x : (tmK P w).is h k a) (e : ∀ o, h.get? a = some o → h'.get? a = some o) : (tmK P w).is h' k a := by
  obtain ⟨o, items, n, h1, h2, h3, h4⟩ := x
  exact ⟨o, items, n, e _ h1, h2, h3, h4⟩
theorem tk_type {k : List Key} {a : Addr} (x : (tmK P w).is s.heap k a) : s.TypeIs (.ref a) "tuple" := by
  obtain ⟨o, items, n, h1, h2, h3, h4⟩ := x
  exact ⟨o, h1, h2⟩
theorem dh_keep {d : Addr} {xs : List (List Key × Addr × Value)} {h h' : Heap} (x : h.DictOfH (tmK P w) d xs) (e : ∀ b o, h.get? b = some o → h'.get? b = some o) : h'.DictOfH (tmK P w) d xs := by
  obtain ⟨o, es, ep, h1, h2, h3, h4, h5, h6⟩ := x
  exact ⟨o, es, ep, e _ _ h1, h2, h3, h4, fun y hy => tk_keep (h5 y hy) (e _), h6⟩
theorem copy_dT {o : Addr} {xs : List (List Key × Addr × Value)} {Q : Value → Shared → Prop} (no : (o == sysModules) = false) (ho : s.heap.DictOfH (tmK P w) o xs) (hz : xs.length ≤ sizeLine) (hu : A.units + 2 < cLine) (hap : (xs.map fun x => (tmK P w).hash x.1).Nodup)
    (h : ∀ h', h'.DictOfH (tmK P w) s.heap.objs.size xs → (∀ b q, s.heap.get? b = some q → h'.get? b = some q) → Q (.ref s.heap.objs.size) { s with heap := h' }) : wpAny (model P w) A (call (.type "dict") [.ref o]) Q E s := by
  refine callType_codes (Q₁ := fun obj t => obj = .ref s.heap.objs.size ∧ t = { s with heap := s.heap.push { cls := .type "dict", data := .dict #[] } }) F.kt_called_dict (F.kt_typeCall_dict_1 _) F.entry_dict_init (kt_code_dict_new _ ⟨rfl, rfl⟩) ?_
  rintro obj t ⟨rfl, rfl⟩
  have nw : (s.heap.push { cls := .type "dict", data := .dict #[] }).DictOfH (tmK P w) s.heap.objs.size [] := Heap.DictOfH.new s.heap
  have ho2 := dh_keep (h' := s.heap.push { cls := .type "dict", data := .dict #[] }) ho fun b q e => Heap.get?_push_of_some _ e
  obtain ⟨_, _, _, g1, _, _, _, is1, nd⟩ := id ho2
  obtain ⟨_, _, _, g0, _⟩ := ho
  have hne : s.heap.objs.size ≠ o := fun e => absurd (Heap.lt_size g0) (by rw [e]; exact Nat.lt_irrefl _)
  refine ⟨nw.typeIs, F.args_dict_init_2 _ _, ?_⟩
  unfold Builtin.«dict.__init__»
  refine wpAny_bind (m := Builtin.Dict.selfAndRest "__init__" ⟨[.ref s.heap.objs.size, .ref o], []⟩) ?_
  unfold Builtin.Dict.selfAndRest
  refine wpAny_bind (wpAny_notOrdered_dict nw.typeIs (wpAny_pure ?_))
  refine updateFrom_dictH (A := A.in1) (knd := tmK P w) .none (show A.units + 1 + 1 < cLine from hu) hne no nw ho2 (.inr ⟨fun x hx => tk_type (is1 x hx), hap⟩) (by simpa using hz) fun h' hd' _ hs => ⟨rfl, h h' ?_ fun b q e => ?_⟩
  · rw [storedAllH_nil_of_nodup xs nd] at hd'
    exact hd'
  · exact (hs.2 b (Nat.ne_of_lt (Heap.lt_size e))).trans (Heap.get?_push_of_some _ e)
end
section
variable {X : Cx}
def rDCopy : List V → Hp → VK → Prop := fun vs H Q => ∃ a, vs = [.ref a] ∧ ((∃ kvs, Rd H a (.dK kvs) ∧ ∀ p, H p = none → Q (.ref p) (upd H p (.dK kvs))) ∨
  ∃ kvs, Rd H a (.dT kvs) ∧ ((∀ P w, (kvs.map Prod.fst).Nodup → (kvs.map fun x => tupleKeyHash (mixKind P w) x.1).Nodup) ∧ ∀ p, H p = none → Q (.ref p) (upd H p (.dT kvs))))
theorem kt_map {H : Hp} {kvs : List (List Key × V)} {xs : List (List Key × Addr × Value)} (r : KT H kvs xs) {β : Type} (f : List Key → β) : kvs.map (fun x => f x.1) = xs.map fun x => f x.1 := by
  induction r with
  | nil => rfl
  | cons h _ ih => rw [List.map_cons, List.map_cons, ih, h.1]
theorem dt_laid {pins : List (Addr × Obj)} {σ : L2.St} {H : Hp} {s : Shared} {h' : Heap} {kvs : List (List Key × V)} {xs : List (List Key × Addr × Value)} {tk : Nat} (I : Inv X pins σ H s) (hz : kvs.length ≤ sizeLine) (rel : KT H kvs xs) (dd : h'.DictOfH (tmK X.prog X.w) s.heap.objs.size xs)
    (keep : ∀ b q, s.heap.get? b = some q → h'.get? b = some q) : Inv X pins σ (upd H s.heap.objs.size (.dT kvs)) { s with heap := h', toks := tk } := by
  obtain ⟨o, es, ep, h1, h2, h3, h4, _, h5⟩ := dd
  refine I.laid (a := s.heap.objs.size) (o := .dT kvs) (t' := tk) keep (Nat.le_refl _) ⟨hz, beq_eq_false_iff_ne.mpr (Ne.symm (Nat.ne_of_lt I.big)), xs, rel.keeps fun b ys eb => ?_, o, es, ep, h1, h2, h3, h4, h5⟩
  rw [upd_ne (ne_of_none eb (I.hok.fresh (Nat.le_refl _)))]
  exact eb
theorem cr_dcopy (hu : X.A.units + 2 < cLine) : CallR X (.type "dict") rDCopy := by
  intro pins s σ H vs us Q I r h
  obtain ⟨a, rfl, h⟩ := h
  obtain rfl := Vals.ref1 r
  rcases h with ⟨kvs, hd, q⟩ | ⟨kvs, hd, nd, q⟩
  · exact d_copyOf I hd fun p s' hp I' => ⟨.ref p, _, I', rfl, q p hp⟩
  · obtain ⟨z, na, xs, rel, dd⟩ := dt_rd I.hok hd
    have nx : (xs.map (·.1)).Nodup := dd.nodup
    have e1 := kt_map rel fun k => k
    have e2 := kt_map rel fun k => tupleKeyHash (mixKind X.prog X.w) k
    have hn := nd X.prog X.w (by rw [show kvs.map Prod.fst = xs.map (·.1) from e1]; exact nx)
    refine copy_dT na dd (by rw [← Paired.length rel]; exact z) hu (by rw [e2] at hn; exact hn) fun h' dd' keep => ?_
    exact ⟨.ref s.heap.objs.size, _, dt_laid (tk := s.toks) I z rel dd' keep, rfl, q _ (I.hok.fresh (Nat.le_refl _))⟩
end
/-- dict(d) -/
def vDctC (a : AM) : EM := fun e g => (a e g).bind fun ds g1 => match ds with
  | [.ref l] => (match (g1[l]?).bind prsO with
    | some (t, kvs) => (match !t || keysS kvs with
      | true => .ok (.ref g1.length) (g1 ++ [.dct t kvs])
      | false => .stuck)
    | none => .stuck)
  | _ => .stuck
section
variable {Kt : Kit} {X : Cx} {W : WX} {k : Nat} {a b c : Expr} {es : List Expr} {ms : AM} {ma mb mc : EM} {pos : Pos}
/-- a new dict, known -/
theorem newDk {Φ : Hp} {ι : List Addr} {F H : Hp} {g : G} (R : RelG Kt Φ ι F g H) {us : List (Key × V)} {kvs : List (D × D)} (r : KR Kt ι F us kvs) {Q : VK} (h : ∀ ι' F' H' v, Ex ι F ι' F' → RelG Kt Φ ι' F' (g ++ [.dct false kvs]) H' → DV Kt ι' F' v (.ref g.length) → Q v H') (p : Addr) (hp : H p = none) : Q (.ref p) (upd H p (.dK us)) := by
  have fp : F p = none := by
    cases e : F p with
    | none => rfl
    | some u => rw [R.sub p u e] at hp; cases hp
  have x : Ex ι F (ι ++ [p]) F := ⟨fun l a h => by rw [List.getElem?_append_left (List.getElem?_eq_some_iff.mp h).1]; exact h, fun _ _ h => h⟩
  obtain ⟨R', _⟩ := R.new hp (H' := upd H p (.dK us)) (fun a o q => by rw [upd_ne (ne_of_none q hp)]; exact q) (by rw [upd_same]; simp) (o := .dct false kvs) ⟨fp, us, upd_same, r.mono x⟩
  exact h _ _ _ _ x R' (.ref (get_snoc R.len))
theorem newDt {Φ : Hp} {ι : List Addr} {F H : Hp} {g : G} (R : RelG Kt Φ ι F g H) {us : List (List Key × V)} {kvs : List (D × D)} (r : KRT Kt ι F us kvs) {Q : VK} (h : ∀ ι' F' H' v, Ex ι F ι' F' → RelG Kt Φ ι' F' (g ++ [.dct true kvs]) H' → DV Kt ι' F' v (.ref g.length) → Q v H') (p : Addr) (hp : H p = none) : Q (.ref p) (upd H p (.dT us)) := by
  have fp : F p = none := by
    cases e : F p with
    | none => rfl
    | some u => rw [R.sub p u e] at hp; cases hp
  have x : Ex ι F (ι ++ [p]) F := ⟨fun l a h => by rw [List.getElem?_append_left (List.getElem?_eq_some_iff.mp h).1]; exact h, fun _ _ h => h⟩
  obtain ⟨R', _⟩ := R.new hp (H' := upd H p (.dT us)) (fun a o q => by rw [upd_ne (ne_of_none q hp)]; exact q) (by rw [upd_same]; simp) (o := .dct true kvs) ⟨fp, us, upd_same, r.mono x⟩
  exact h _ _ _ _ x R' (.ref (get_snoc R.len))
theorem se_dctC {p : Pos} (A : At Kt X W k) (hm : Kt.mg "dict" = none) (ha : PA X (a :: es) (ta Kt W ms)) (hg : Gl X "dict" := by rfl) (he : starEach (a :: es) X.env = (false, eval a X.env) :: starEach es X.env := by rfl) (hpl : (backTo pos (starEach es X.env)).any (·.1) = false := by rfl) :
    PE X (.Call (.Name "dict" p) (a :: es) [] pos) (te Kt W (vDctC ms)) := by
  refine L2.PE.imp (pe_callTy (p := p) (cr_dcopy (by have := A.hu; omega)) hg (A.em ▸ hm) (by decide +kernel) ha (by decide) (by decide) he hpl) fun σ H Q ⟨Φ, ι, F, e, g, S, h⟩ => ⟨Φ, ι, F, e, g, S, (po.bind (Rl := DVs Kt) h).imp fun v H1 ⟨ι1, F1, g1, d1, x1, R1, r1, h1⟩ => ?_⟩
  split at h1
  · rename_i l
    cases r1 with
    | cons r1 r2 =>
    cases r2
    cases r1 with
    | @ref _ ad e1 =>
    split at h1
    · rename_i t kvs e2
      have ob := prsO_ok R1 e1 e2
      cases t with
      | false =>
        obtain ⟨us, q1, q2⟩ := ob
        exact ⟨ad, rfl, .inl ⟨us, q1, newDk R1 q2 h1⟩⟩
      | true =>
        obtain ⟨us, q1, q2⟩ := ob
        split at h1
        · rename_i hk
          exact ⟨ad, rfl, .inr ⟨us, q1, fun P w nd => keysS_nd q2 (by simpa using hk) nd, newDt R1 q2 h1⟩⟩
        · exact h1.elim
    · exact h1.elim
  · exact h1.elim
end
/-! ### dict([(k, v), ..]), the keys tuples -/
section
variable {X : Cx}
theorem KT_merge {H : Hp} : ∀ {ms : List (List Key × V)} {rs : List (List Key × Addr × Value)} {kvs : List (List Key × V)} {xs : List (List Key × Addr × Value)}, KT H ms rs → KT H kvs xs → KT H (ms.foldl (fun acc kv => putK acc kv.1 kv.2) kvs) (storedAllH xs rs)
  | [], [], _, _, .nil, r => r
  | m :: ms, q :: rs, kvs, xs, .cons h t, r => by
    obtain ⟨k, v⟩ := m
    obtain ⟨k', b, u⟩ := q
    obtain ⟨h1, h2, h3⟩ := h
    have h1 : k = k' := h1
    subst h1
    exact KT_merge (ms := ms) (rs := rs) t (KT.put r k h2 h3)
def rDPairT : List V → Hp → VK → Prop := fun vs H Q => ∃ (a : Addr) (ts : List Addr) (bs : List Addr) (kvs : List (List Key × V)), vs = [.ref a] ∧ H a = some (.lst (ts.map V.ref)) ∧ Paired (fun (z : Addr × Addr) (kv : List Key × V) => H z.1 = some (.tup [.ref z.2, kv.2]) ∧ H z.2 = some (.tup (kv.1.map kV))) (ts.zip bs) kvs ∧ ts.length = kvs.length ∧ bs.length = kvs.length ∧
  ∀ p, H p = none → Q (.ref p) (upd H p (.dT (kvs.foldl (fun acc kv => putK acc kv.1 kv.2) [])))
theorem fold_len : ∀ (ms kvs : List (List Key × V)), (ms.foldl (fun acc kv => putK acc kv.1 kv.2) kvs).length ≤ kvs.length + ms.length
  | [], _ => Nat.le_refl _
  | m :: ms, kvs => by
    have h1 := fold_len ms (putK kvs m.1 m.2)
    have h2 := length_putK kvs m.1 m.2
    rw [List.foldl_cons, List.length_cons]
    omega
theorem cr_dpairT (hc : X.calm = true) (hu : X.A.units + 2 < cLine) : CallR X (.type "dict") rDPairT := by
  intro pins s σ H vs us Q I r h
  obtain ⟨a, ts, bs, kvs, rfl, hl, hp, l1, l2, q⟩ := h
  obtain rfl := Vals.ref1 r
  obtain ⟨hz, its, n, rv, ho⟩ := I.hok a _ hl
  rw [List.length_map] at hz
  have ei := refs_at rv
  -- the pairs, one by one
  have key : ∀ {ts bs : List Addr} {kvs : List (List Key × V)}, Paired (fun (z : Addr × Addr) (kv : List Key × V) => H z.1 = some (.tup [.ref z.2, kv.2]) ∧ H z.2 = some (.tup (kv.1.map kV))) (ts.zip bs) kvs → ts.length = kvs.length → bs.length = kvs.length →
      ∃ xs : List (List Key × Addr × Value), KT H kvs xs ∧ xs.length = kvs.length ∧ ∀ (j : Nat) (k : List Key) (b : Addr) (v : Value), xs[j]? = some (k, b, v) → ∃ T, ts[j]? = some T ∧ s.heap.IsTuple T #[.ref b, v] := by
    intro ts
    induction ts with
    | nil =>
      intro bs kvs hp h1 h2
      cases kvs with
      | nil => exact ⟨[], .nil, rfl, fun j k b v e => by simp at e⟩
      | cons _ _ => cases h1
    | cons t ts ih =>
      intro bs kvs hp h1 h2
      cases bs with
      | nil => rw [← h2] at h1; cases h1
      | cons b bs =>
        rw [List.zip_cons_cons] at hp
        cases hp with
        | @cons _ kv _ kvs h t2 =>
        obtain ⟨xs, k1, k2, k3⟩ := ih t2 (by simpa using h1) (by simpa using h2)
        obtain ⟨_, it, rt, pt⟩ := I.hok t _ h.1
        obtain ⟨u1, u2, e1, r1, r2⟩ := vals2 rt
        obtain rfl : u1 = Value.ref b := r1
        subst e1
        refine ⟨(kv.1, b, u2) :: xs, .cons ⟨rfl, h.2, r2⟩ k1, by simp [k2], fun j k b' v e => ?_⟩
        cases j with
        | zero =>
          simp only [List.getElem?_cons_zero, Option.some.injEq, Prod.mk.injEq] at e
          obtain ⟨_, rfl, rfl⟩ := e
          have pt' : IsTup s.heap t #[Value.ref b, u2] := by simpa using pt
          exact ⟨t, rfl, pt'⟩
        | succ j => simpa using k3 j k b' v (by simpa using e)
  obtain ⟨xs, k1, k2, k3⟩ := key hp l1 l2
  let ps : List (Value × Value) := xs.map fun x => (.ref x.2.1, x.2.2)
  have lp : ps.length = ts.length := by simp [ps, k2, l1]
  have pi : PairItems s.heap its.toArray (fun j => ts.getD j 0) ps := by
    refine ⟨by rw [List.size_toArray, ei]; simp [lp], fun j kv vv hj => ?_⟩
    simp only [ps, List.getElem?_map] at hj
    cases z : xs[j]? with
    | none => rw [z] at hj; cases hj
    | some x =>
      rw [z] at hj
      cases hj
      obtain ⟨T, t1, t2⟩ := k3 j x.1 x.2.1 x.2.2 z
      have eT : ts.getD j 0 = T := by rw [List.getD_eq_getElem?_getD, t1]; rfl
      refine ⟨?_, .inl (by show s.heap.IsTuple (ts.getD j 0) _; rw [eT]; exact t2)⟩
      show its.toArray[j]? = some (.ref (ts.getD j 0))
      rw [eT, List.getElem?_toArray, ei, List.getElem?_map, t1]
      rfl
  have tk : ∀ x ∈ xs, (tmK X.prog X.w).is s.heap x.1 x.2.1 := by
    intro x hx
    obtain ⟨j, hj⟩ := List.mem_iff_getElem?.mp hx
    have := Paired.length k1
    clear key k3
    have : ∀ {l : List (List Key × V)} {m : List (List Key × Addr × Value)}, KT H l m → ∀ x ∈ m, (tmK X.prog X.w).is s.heap x.1 x.2.1 := by
      intro l m z
      induction z with
      | nil => intro x hx; cases hx
      | cons h _ ih =>
        intro x hx
        rcases List.mem_cons.mp hx with e | hx
        · subst e
          exact key_of I.hok (by rw [← h.1]; exact h.2.1)
        · exact ih x hx
    exact this k1 x hx
  refine call_dict_pairsH (knd := tmK X.prog X.w) (ps := xs) (PairArg.list a its.toArray (fun j => ts.getD j 0) ps) (I.ok.hd hc) (show X.A.units + 1 + 1 < cLine from hu) ⟨⟨_, n, ho, rfl, rfl, rfl⟩, pi⟩ ⟨by simp [ps], fun i kv vv hr => ?_⟩ (fun h' hk x hx => tk_keep (tk x hx) fun o e => hk _ o (Nat.ne_of_lt (Heap.lt_size e)) (by simp) e) (by rw [lp]; exact hz) fun h' t dd keep => ?_
  · have hr : ps[i]? = some (kv, vv) := hr
    simp only [ps, List.getElem?_map] at hr
    cases z : xs[i]? with
    | none => rw [z] at hr; cases hr
    | some x => rw [z] at hr; cases hr; exact ⟨x.1, x.2.1, rfl, rfl⟩
  · have hl2 := fold_len kvs []
    rw [List.length_nil, Nat.zero_add] at hl2
    exact ⟨.ref s.heap.objs.size, _, dt_laid (tk := t) I (by omega) (KT_merge k1 .nil) dd (fun b o e => keep b o (by simp) e), rfl, q _ (I.hok.fresh (Nat.le_refl _))⟩
end
def prsT : List D → Option (List (D × D))
  | [] => some []
  | .tup [k, v] :: r => (match isKey true k, prsT r with
    | true, some q => some ((k, v) :: q)
    | _, _ => none)
  | _ => none
def vDctT (a : AM) : EM := fun e g => (a e g).bind fun ds g1 => match ds with
  | [d] => (match lsD g1 d with
    | some xs => (match prsT xs with
      | some kvs => .ok (.ref g1.length) (g1 ++ [.dct true (mergep [] kvs)])
      | none => .stuck)
    | none => .stuck)
  | _ => .stuck
section
variable {Kt : Kit} {X : Cx} {W : WX} {k : Nat} {a b c : Expr} {es : List Expr} {ms : AM} {ma mb mc : EM} {pos : Pos}
theorem KRT.merge {ι : List Addr} {F : Hp} {ws : List (List Key × V)} {lvs : List (D × D)} (r : KRT Kt ι F ws lvs) : ∀ {us : List (List Key × V)} {kvs : List (D × D)}, KRT Kt ι F us kvs → KRT Kt ι F (ws.foldl (fun acc kv => putK acc kv.1 kv.2) us) (mergep kvs lvs) := by
  induction r with
  | nil => exact fun q => q
  | cons hk hv t ih => exact fun q => ih (q.put hk hv)
theorem prsT_ok {Φ : Hp} {ι : List Addr} {F H : Hp} {g : G} (R : RelG Kt Φ ι F g H) : ∀ {xs : List D} {vs : List V} {kvs : List (D × D)}, DVs Kt ι F vs xs → prsT xs = some kvs → ∃ (ts bs : List Addr) (us : List (List Key × V)), vs = ts.map V.ref ∧
    Paired (fun (z : Addr × Addr) (kv : List Key × V) => H z.1 = some (.tup [.ref z.2, kv.2]) ∧ H z.2 = some (.tup (kv.1.map kV))) (ts.zip bs) us ∧ ts.length = us.length ∧ bs.length = us.length ∧ KRT Kt ι F us kvs
  | [], _, _, .nil, h => by
    cases h
    exact ⟨[], [], [], rfl, .nil, rfl, rfl, .nil⟩
  | x :: r, _, kvs, .cons hx hr, h => by
    unfold prsT at h
    split at h
    · rename_i h0; cases h0
    · rename_i kd vd r' h0
      cases h0
      split at h
      · rename_i q hk hq
        cases h
        obtain ⟨ts, bs, us, e1, e2, e3, e4, e5⟩ := prsT_ok R hr hq
        cases hx with
        | @tup p ws _ f1 r1 =>
        cases r1 with
        | cons rk r2 =>
        cases r2 with
        | cons rv r3 =>
        cases r3
        cases rk with
        | @tup b ks ds f2 r4 =>
          obtain ⟨j, rfl⟩ := kys_ex r4 hk
          exact ⟨p :: ts, b :: bs, (j, _) :: us, by rw [e1]; rfl, .cons ⟨R.sub _ _ f1, R.sub _ _ f2⟩ e2, by simp [e3], by simp [e4], .cons r4 rv e5⟩
        | _ => cases hk
      · cases h
    · cases h
theorem se_dctT {p : Pos} (A : At Kt X W k) (hm : Kt.mg "dict" = none) (ha : PA X (a :: es) (ta Kt W ms)) (hg : Gl X "dict" := by rfl) (he : starEach (a :: es) X.env = (false, eval a X.env) :: starEach es X.env := by rfl) (hpl : (backTo pos (starEach es X.env)).any (·.1) = false := by rfl) :
    PE X (.Call (.Name "dict" p) (a :: es) [] pos) (te Kt W (vDctT ms)) := by
  refine L2.PE.imp (pe_callTy (p := p) (cr_dpairT A.calm (by have := A.hu; omega)) hg (A.em ▸ hm) (by decide +kernel) ha (by decide) (by decide) he hpl) fun σ H Q ⟨Φ, ι, F, e, g, S, h⟩ => ⟨Φ, ι, F, e, g, S, (po.bind (Rl := DVs Kt) h).imp fun v H1 ⟨ι1, F1, g1, d1, x1, R1, r1, h1⟩ => ?_⟩
  split at h1
  · rename_i d
    cases r1 with
    | cons r1 r2 =>
    cases r2
    split at h1
    · rename_i xs e1
      split at h1
      · rename_i kvs e2
        obtain ⟨ad, vs, rfl, hs, r⟩ := lsD_ok R1 r1 e1
        obtain ⟨ts, bs, us, rfl, p2, p3, p4, p5⟩ := prsT_ok R1 r e2
        exact ⟨ad, ts, bs, us, rfl, hs, p2, p3, p4, newDt R1 (p5.merge .nil) h1⟩
      · exact h1.elim
    · exact h1.elim
  · exact h1.elim
end
/-! ### {k: v for ..}: any kind of dict -/
/-- a kind of dict: what it holds, how a pair is put -/
structure DKd (X : Cx) where
  C : Type
  ho : C → HO
  e0 : C
  pre : C → V → V → Hp → C → Prop
  nil : ∀ (P : Program) (w : World) (H : Hp) (h : Heap), sysModules < h.objs.size → ObjOk P w H (h.push { cls := .type "dict", data := .dict #[] }) h.objs.size (ho e0)
  set : ∀ (Z : Cx), Z.prog = X.prog → Z.w = X.w → Z.A.units = X.A.units → ∀ {pins : List (Addr × Obj)} {σ : L2.St} {H : Hp} {s : Shared} {E : Value → Shared → Prop} {D : Addr} {c c' : C} {y z : V} {u r : Value} {Q : Unit → Shared → Prop}, Inv Z pins σ H s → H D = some (ho c) → pre c y z H c' → RelV y u → RelV z r →
    (∀ s', Inv Z pins σ (upd H D (ho c')) s' → Q () s') → wpAny (model Z.prog Z.w) Z.A (dictSet D u r) Q E s
/-- the key that a value is -/
def absK : V → Option Key
  | .int i => some (.inl i)
  | .str x => some (.inr x)
  | _ => none
theorem absK_kV (k : Key) : absK (kV k) = some k := by
  cases k <;> rfl
section
variable {X : Cx}
def tDcG (k : DKd X) (wi : TI) (gt : TG) (tt : TT) (tk tv : TE) (vs : List Nat) : TE := fun σ H Q => wi σ H fun J H1 => ∀ D, H1 D = none → ∃ W : Nat → Nat → Hp → Prop, (∃ m, W 0 m (upd H1 D (k.ho k.e0))) ∧ ∀ i m H, W i m H →
  (J.stop i H ∧ Q (.ref D) H) ∨ (J.go i H ∧ ∃ Nx : Hp → Prop, (∀ H', Nx H' → ∃ m', m' < m ∧ W (i + 1) m' H') ∧ ∀ x H', J.yld i H x H' → gt x (wipe σ vs) H' fun σ2 H2 => wipe σ2 vs = wipe σ vs ∧ tt σ2 H2 fun b H3 =>
    if b = true then tk σ2 H3 fun y H4 => tv σ2 H4 fun z H5 => ∃ c c', H5 D = some (k.ho c) ∧ k.pre c y z H5 c' ∧ Nx (upd H5 D (k.ho c')) else Nx H3)
theorem dcG_core (kd : DKd X) {pins : List (Addr × Obj)} {s : Shared} {σ : L2.St} {H : Hp} {Q : VK} {use : Option (Value → Sem Unit)} {Qf : Value → Shared → Prop} {pos' : Pos} {kx vx tg iter : Expr} {ifs : List Expr} {scope : Scope} {own : List (Str × Nat)} {pos : Pos} {wi : TI} {gt : TG} {tt : TT} {tk tv : TE} (hc : X.calm = true) (hN : X.N.Nodup) (hi : PI X tg iter wi) (ok : BlkOk X.N X.env.scope scope own)
    (hg : ∀ (s : Shared) (H : Hp) (C : Addr) (cl : List (Str × Addr)) (fp : List Addr), PG (X.blk s H scope (compEnvC scope cl C X.env) fp) tg gt) (ht : ∀ (s : Shared) (H : Hp) (C : Addr) (cl : List (Str × Addr)) (fp : List Addr), PTs (X.blk s H scope (compEnvC scope cl C X.env) fp) ifs tt)
    (hk : ∀ (s : Shared) (H : Hp) (C : Addr) (cl : List (Str × Addr)) (fp : List Addr), PE (X.blk s H scope (compEnvC scope cl C X.env) fp) kx tk) (hv : ∀ (s : Shared) (H : Hp) (C : Addr) (cl : List (Str × Addr)) (fp : List Addr), PE (X.blk s H scope (compEnvC scope cl C X.env) fp) vx tv)
    (hs : ∀ x, foldedSetIterable iter X.env x = pure x) (J0 : Inv X pins σ H s) (want : tDcG kd wi gt tt tk tv (own.map (·.2)) σ H Q)
    (hRR : ∀ D C s' m H', Inv X pins σ H' s' → Q (.ref D) H' → s'.heap.Ns C m → FpOk X pins H' C → compPost (model X.prog X.w) X.A X.xe use Qf (.ref D) C (.ok .next) s') :
    wpAny (model X.prog X.w) X.A (comprehension (.DictComp kx vx [⟨tg, iter, ifs, 0⟩] scope pos) scope X.env pos' newDict false (eval iter X.env) use) Qf X.xe s := by
  refine wpAny_comprehension_free (use := use) rfl hs (closure_ok fun y hy e => (ok.free y hy e).elim (fun q => J0.ok.has _ (.inl q)) fun q => J0.ok.has _ (.inr q)) ok.kind (fun y hy e => by rw [ok.uniq y hy, e])
    (thn (hi.run pins s σ H _ J0 want) fun xv t1 hx => thn hx fun itv t2 h2 => ?_)
  obtain ⟨it, fp, tn, J, H2, rfl, J2, T, st2, f2, q⟩ := h2
  refine wpAny_newObj_type (newEnv_comp ?_)
  generalize eD : t2.heap.objs.size = D
  obtain ⟨W, ⟨m0, w0⟩, turn⟩ := q D (J2.hok.fresh (Nat.le_of_eq eD))
  generalize e3 : ({ t2 with heap := t2.heap.push { cls := .type "dict", data := .dict #[] } } : Shared) = t3
  have h3 : t3.heap = t2.heap.push { cls := .type "dict", data := .dict #[] } := by rw [← e3]
  have up : ∀ b o, t2.heap.get? b = some o → t3.heap.get? b = some o := fun b o e => by rw [h3]; exact Heap.get?_push_of_some _ e
  have J3 : Inv X pins σ (upd H2 D (kd.ho kd.e0)) t3 := by
    rw [← e3]
    exact J2.laid (t' := t2.toks) (fun b o e => Heap.get?_push_of_some _ e) (Nat.le_of_eq eD) (by rw [← eD]; exact kd.nil _ _ _ _ J2.big)
  have lt : ∀ b ∈ fp, b < t2.heap.objs.size := fun b hb => (T.obj _ _ st2 b hb).elim fun o z => Heap.lt_size z.1
  have f3 : ∀ b ∈ fp, FpOk X pins (upd H2 D (kd.ho kd.e0)) b ∧ b < t3.heap.objs.size := fun b hb =>
    ⟨⟨by rw [upd_ne (by rw [← eD]; exact Nat.ne_of_lt (lt b hb))]; exact (f2 b hb).1, (f2 b hb).2⟩, by rw [h3, Heap.size_push]; exact Nat.lt_succ_of_lt (lt b hb)⟩
  have st3 : tn 0 t3.heap := T.keep _ _ _ st2 fun b _ o e => up b o e
  have J4 := block_start J3 ok hN f3
  generalize hcl : cellsFrom (t3.heap.objs.size + 1) scope.names (cloFrom X.env.cells scope.names []) = cl at J4 ⊢
  have pg := hg t3 (upd H2 D (kd.ho kd.e0)) t3.heap.objs.size cl fp
  have pt := ht t3 (upd H2 D (kd.ho kd.e0)) t3.heap.objs.size cl fp
  have pk := hk t3 (upd H2 D (kd.ho kd.e0)) t3.heap.objs.size cl fp
  have pv := hv t3 (upd H2 D (kd.ho kd.e0)) t3.heap.objs.size cl fp
  have none3 : ∀ b ∈ fp, (upd H2 D (kd.ho kd.e0)) b = none := fun b hb => (f3 b hb).1.1
  have goal' : ∀ R : Result → Shared → Prop, R = compPost (model X.prog X.w) X.A X.xe use Qf (.ref D) t3.heap.objs.size → codeAny (model X.prog X.w) X.A (.compStart (.DictComp kx vx [⟨tg, iter, ifs, 0⟩] scope pos) 0 (.ref it) (.ref D) (compEnvC scope cl t3.heap.objs.size X.env)) R { t3 with heap := pushCells (t3.heap.push { cls := .type "dict", data := .dict #[] }) scope.names } := by
    intro R eR
    subst eR
    generalize hce : compEnvC scope cl t3.heap.objs.size X.env = ce at J4 pg pt pk pv ⊢
    have cL : ce.locals = t3.heap.objs.size := by subst hce; rfl
    generalize hH3 : upd H2 D (kd.ho kd.e0) = H3 at J3 J4 pg pt pk pv w0 none3 f3
    generalize hs4 : ({ t3 with heap := pushCells (t3.heap.push { cls := .type "dict", data := .dict #[] }) scope.names } : Shared) = t4 at J4 ⊢
    have st4 : tn 0 t4.heap := T.keep _ _ _ st3 fun b _ o e => by rw [← hs4]; exact pushCells_keeps _ _ _ _ (Heap.get?_push_of_some _ e)
    have still : ∀ {σ' : L2.St} {H' : Hp} {s' : Shared}, Inv (X.blk t3 H3 scope ce fp) [] σ' H' s' → (∀ b ∈ fp, H' b = none) → ∀ b ∈ fp, FpOk (X.blk t3 H3 scope ce fp) [] H' b := fun {σ' H' s'} K hn b hb =>
      ⟨hn b hb, (K.ok.exf b hb).1, K.ok.exfs b hb, .inl hb, fun x c e => (K.ok.exf b hb).2 x c e, fun p hp => absurd (show p ∈ ([] : List (Addr × Obj)) ++ [] from hp) (by simp)⟩
    have loop : codeAny (model X.prog X.w) X.A (.compLoop (.DictComp kx vx [⟨tg, iter, ifs, 0⟩] scope pos) 0 (.ref it) (.ref D) ce) (compPost (model X.prog X.w) X.A X.xe use Qf (.ref D) t3.heap.objs.size) t4 := by
      refine compLoop_anyD (fun n s' => ∃ i H', Inv (X.blk t3 H3 scope ce fp) [] (wipe σ (own.map (·.2))) H' s' ∧ tn i s'.heap ∧ (∀ b ∈ fp, H' b = none) ∧ W i n H') ?_ m0 ⟨0, H3, J4, st4, none3, w0⟩
      rintro n t5 ⟨i, H5, J5, st5, n5, w5⟩
      rcases turn i n H5 w5 with ⟨stop, fin⟩ | ⟨go, Nx, hNx, step⟩
      · refine thnF (T.done (X.blk t3 H3 scope ce fp) rfl rfl rfl hc i [] t5 _ H5 (fun _ _ => False) J5 (still J5 n5) st5 stop) fun r t6 ⟨hr, J6⟩ => ?_
        subst hr
        have J7 : Inv X pins σ H5 t6 := J3.call' (ch := fp) J6.os J6.base J6.hok J6.bare fun b hb => ⟨(f3 b hb).1.2.2.2.1, (f3 b hb).1.2.1, (f3 b hb).1.2.2.2.2.1, (f3 b hb).1.2.2.2.2.2⟩
        have nC : H5 t3.heap.objs.size = none := by rw [← cL]; exact J6.free
        obtain ⟨m, hn, _⟩ := J6.loc
        have hn : t6.heap.Ns t3.heap.objs.size m := by rw [← cL]; exact hn
        exact hRR D t3.heap.objs.size t6 m H5 J7 fin hn (J3.fpOk (Nat.le_refl _) nC)
      · refine thnF (T.item (X.blk t3 H3 scope ce fp) rfl rfl rfl hc i [] t5 _ H5 (fun _ _ => False) J5 (still J5 n5) st5 go) fun r t6 ⟨u, hr, h6⟩ => ?_
        subst hr
        refine thnF h6 fun _ t7 ⟨x, H7, J7, r7, y7, st7, n7⟩ => ?_
        refine thnF (pg.run _ t7 _ H7 x u _ (J7.pinned (still J7 n7) (T.obj _ _ st7)) r7 (step x H7 y7)) fun _ t8 ⟨σ8, H8, J8, hw8, q8⟩ => ?_
        refine thnF (pt.run _ t8 σ8 H8 _ J8 q8) fun b t9 ⟨H9, J9, q9⟩ => ?_
        have back : ∀ {s' : Shared} {H' : Hp}, Inv (X.blk t3 H3 scope ce fp) ([] ++ pinsAt fp t7.heap) σ8 H' s' → Nx H' → ∃ m, m < n ∧ ∃ i H', Inv (X.blk t3 H3 scope ce fp) [] (wipe σ (own.map (·.2))) H' s' ∧ tn i s'.heap ∧ (∀ b ∈ fp, H' b = none) ∧ W i m H' := fun {s' H'} K nx => by
          obtain ⟨m', hm, w'⟩ := hNx H' nx
          have kept : ∀ b ∈ fp, ∀ o, t7.heap.get? b = some o → s'.heap.get? b = some o ∧ H' b = none := fun b hb o e => (K.pin (b, o) (List.mem_append_right _ (List.mem_append_right _ (mem_pinsAt hb e)))).elim fun z1 z2 => ⟨z1, z2.1⟩
          refine ⟨m', hm, i + 1, H', (K.unpinned (pins := [])).weak (by rw [← hw8, wipe_length]) (fun j v e => (by rw [← hw8] at e; exact (wipe_some e).1)), T.keep _ _ _ st7 fun b hb o e => (kept b hb o e).1, fun b hb => ?_, w'⟩
          obtain ⟨o, e, _⟩ := T.obj _ _ st7 b hb
          exact (kept b hb o e).2
        cases b with
        | false =>
          simp only [Bool.false_eq_true, if_false] at q9 ⊢
          exact back J9 q9
        | true =>
          simp only [if_true] at q9 ⊢
          refine thnF (pk.run _ t9 σ8 H9 _ J9 q9) fun z t10 ⟨yk, H10, J10, r10, q10⟩ => thnF (pv.run _ t10 σ8 H10 _ J10 q10) fun z2 t11 ⟨yv, H11, J11, r11, c, c', eD, pre, nx⟩ => ?_
          exact kd.set (X.blk t3 H3 scope ce fp) rfl rfl rfl J11 eD pre r10 r11 fun t12 J12 => back J12 nx
    exact codeAny_compStart_dict loop (T.self X.A 0 _ _ _ st4 loop)
  exact goal' _ rfl
theorem pe_dcG (kd : DKd X) {kx vx tg iter : Expr} {ifs : List Expr} {scope : Scope} {own : List (Str × Nat)} {pos : Pos} {wi : TI} {gt : TG} {tt : TT} {tk tv : TE} (hc : X.calm = true) (hN : X.N.Nodup) (hi : PI X tg iter wi) (ok : BlkOk X.N X.env.scope scope own)
    (hg : ∀ (s : Shared) (H : Hp) (C : Addr) (cl : List (Str × Addr)) (fp : List Addr), PG (X.blk s H scope (compEnvC scope cl C X.env) fp) tg gt) (ht : ∀ (s : Shared) (H : Hp) (C : Addr) (cl : List (Str × Addr)) (fp : List Addr), PTs (X.blk s H scope (compEnvC scope cl C X.env) fp) ifs tt)
    (hk : ∀ (s : Shared) (H : Hp) (C : Addr) (cl : List (Str × Addr)) (fp : List Addr), PE (X.blk s H scope (compEnvC scope cl C X.env) fp) kx tk) (hv : ∀ (s : Shared) (H : Hp) (C : Addr) (cl : List (Str × Addr)) (fp : List Addr), PE (X.blk s H scope (compEnvC scope cl C X.env) fp) vx tv)
    (hs : ∀ x, foldedSetIterable iter X.env x = pure x := by intro _; rfl) : PE X (.DictComp kx vx [⟨tg, iter, ifs, 0⟩] scope pos) (tDcG kd wi gt tt tk tv (own.map (·.2))) := by
  refine ⟨fun pins s σ H Q J0 want => ?_⟩
  rw [arm_eval_DictComp]
  refine dcG_core kd hc hN hi ok hg ht hk hv hs J0 want fun D C s' m H' J q hn f => ⟨m, hn, fun h2 sb => ?_⟩
  obtain ⟨k0, k1, k2, k3, k4, k5⟩ := f
  exact ⟨.ref D, H', J.turned (t' := s'.toks) (fun b o hb e => (sb.2 b hb).trans e) k0 k1 k3 k4 k5, rfl, q⟩
/-- y = {..}, y a local that the comprehension does not see -/
theorem ps_setDcG (kd : DKd X) {i : Nat} {y : Str} {py spos : Pos} {kx vx tg iter : Expr} {ifs : List Expr} {scope : Scope} {own : List (Str × Nat)} {pos : Pos} {wi : TI} {gt : TG} {tt : TT} {tk tv : TE} (hc : X.calm = true) (hN : X.N.Nodup) (hy : X.N[i]? = some y) (hyl : X.env.scope.names.lookup y = some .local)
    (hsw : swapsWith (.DictComp kx vx [⟨tg, iter, ifs, 0⟩] scope pos) (some (.Name y py)) spos.line X.env = pure true) (hi : PI X tg iter wi) (ok : BlkOk X.N X.env.scope scope own)
    (hg : ∀ (s : Shared) (H : Hp) (C : Addr) (cl : List (Str × Addr)) (fp : List Addr), PG (X.blk s H scope (compEnvC scope cl C X.env) fp) tg gt) (ht : ∀ (s : Shared) (H : Hp) (C : Addr) (cl : List (Str × Addr)) (fp : List Addr), PTs (X.blk s H scope (compEnvC scope cl C X.env) fp) ifs tt)
    (hk : ∀ (s : Shared) (H : Hp) (C : Addr) (cl : List (Str × Addr)) (fp : List Addr), PE (X.blk s H scope (compEnvC scope cl C X.env) fp) kx tk) (hv : ∀ (s : Shared) (H : Hp) (C : Addr) (cl : List (Str × Addr)) (fp : List Addr), PE (X.blk s H scope (compEnvC scope cl C X.env) fp) vx tv)
    (hs : ∀ x, foldedSetIterable iter X.env x = pure x := by intro _; rfl) : PS X (.Assign [.Name y py] (.DictComp kx vx [⟨tg, iter, ifs, 0⟩] scope pos) spos) (tAsg (tDcG kd wi gt tt tk tv (own.map (·.2))) (gName i)) := by
  refine ⟨fun pins s σ H D J0 want => ?_⟩
  rw [exec_Assign_Name_used _ _ _ _ hsw]
  refine wpAny_bind (wpAny_standAt (wpAny_bind ?_))
  show wpAny _ X.A (do let _ ← comprehension (.DictComp kx vx [⟨tg, iter, ifs, 0⟩] scope pos) scope X.env (firstIterPos [⟨tg, iter, ifs, 0⟩] pos) newDict false (eval iter X.env) (some (assign (.Name y py) X.env))) _ _ s
  have want : tDcG kd wi gt tt tk tv (own.map (·.2)) σ H (fun x H1 => gName i x σ H1 D.nx) := want
  refine wpAny_bind (thn (dcG_core kd (Qf := fun _ s' => SP X pins D .next s') hc hN hi ok hg ht hk hv hs J0 want fun L C s' m H' J q hn f => ?_) fun _ s' hq => wpAny_pure (wpAny_pure hq))
  refine wpAny_assign_Name (store_ok2 (v := V.ref L) J hN hy (.inl hyl) rfl (fun s2 J2 ⟨a, sb, ha⟩ => ?_) (.inr hyl))
  obtain ⟨k0, k1, k2, k3, k4, k5⟩ := f
  refine ⟨m, hn.sameBut sb (ha.elim (fun z => by rw [z]; exact k1) fun z e => k4 y a z e.symm), fun h3 sb3 => ?_⟩
  exact ⟨_, H', J2.turned (t' := s2.toks) (fun b o hb e => (sb3.2 b hb).trans e) k0 k1 k3 k4 k5, q⟩
theorem sw_trueD {kx vx : Expr} {gs : List Comprehension} {scope : Scope} {pos py : Pos} {y : Str} {l : Nat} {env : Env} (hk : env.scope.kind = .function) (hy : env.scope.names.lookup y = some .local) (hl : (py.line == pos.line) = true)
    (ha : (scope.names.any fun (n, k) => n == y && (k == .local || k == .cell)) = false) : swapsWith (.DictComp kx vx gs scope pos) (some (.Name y py)) l env = pure true := by
  unfold swapsWith
  simp only [show env.blockKind = .function by unfold Env.blockKind; rw [hk]; rfl, show env.kindOf y = some .local from hy, ha, Expr.pos, hl]
  rfl
def kdK (X : Cx) : DKd X where
  C := List (Key × V)
  ho := .dK
  e0 := []
  pre := fun c y z _ c' => c.length < sizeLine ∧ ∃ k, y = kV k ∧ c' = putK c k z
  nil := fun _ _ _ h hb => dk_empty h hb
  set := fun Z _ _ _ pins σ H s E D c c' y z u r Q I hD pre ry rz h => by
    obtain ⟨hz, k, rfl, rfl⟩ := pre
    exact d_dictSet I hD hz ry rz h
def kdT (X : Cx) (hu : X.A.units + 1 < cLine) : DKd X where
  C := List (List Key × V)
  ho := .dT
  e0 := []
  pre := fun c y z H c' => c.length < sizeLine ∧ ∃ k b, y = .ref b ∧ H b = some (.tup (k.map kV)) ∧ c' = putK c k z
  nil := fun _ _ _ h hb => dt_empty h hb
  set := fun Z _ _ eu pins σ H s E D c c' y z u r Q I hD pre ry rz h => by
    obtain ⟨hz, k, b, rfl, hb, rfl⟩ := pre
    obtain rfl : u = Value.ref b := ry
    obtain ⟨z1, nD, xs, rel, dd⟩ := dt_of I.hok hD
    have hl : (putK c k z).length ≤ sizeLine := by have := length_putK c k z; omega
    refine wpAny_dictSet_heap (hsz := by rw [← Paired.length rel]; exact z1) (knd := tmK Z.prog Z.w) (show Z.A.units < cLine by omega) (key_of I.hok hb) dd fun h' dd' hs => h _ ?_
    obtain ⟨q, es, ep, hq, h2, h3, h4, _, h5⟩ := dd'
    refine d_write I (by rw [hD]; exact True.intro) hs ⟨q, hq⟩ ⟨hl, nD, _, (rel.put k hb rz).keeps fun c ys ec => ?_, q, es, ep, hq, h2, h3, h4, h5⟩
    rw [upd_ne (ne_of ec hD fun z => nomatch z)]
    exact ec
end
/-! ### as data -/
/-- the pairs of a comprehension, one behind another -/
def dcL (gm : GM) (t : TM) (mk mv : EM) : List D → En → G → Res (List (D × D))
  | [], e, g => .ok [] g
  | x :: xs, e, g => match gm x g e with
    | none => .stuck
    | some e' => (noX (t e' g)).bind fun c g1 => bif c then (noX (mk e' g1)).bind fun y g2 => (noX (mv e' g2)).bind fun z g3 => (dcL gm t mk mv xs e g3).bind fun ps g4 => .ok ((y, z) :: ps) g4 else dcL gm t mk mv xs e g1
/-- {k: v for ..}: over what does not change -/
def vDc (tk : Bool) (own : List Nat) (im : IM) (gm : GM) (t : TM) (mk mv : EM) : EM := fun e g => (im e g).bind fun s g1 => match s with
  | .vals xs => (match okL xs.length with
    | true => (dcL gm t mk mv xs (wipeE e own) g1).bind fun kvs g2 => (match kvs.all fun p => isKey tk p.1 with
      | true => .ok (.ref g2.length) (g2 ++ [.dct tk (mergep [] kvs)])
      | false => .stuck)
    | false => .stuck)
  | _ => .stuck
section
variable {Kt : Kit} {X : Cx} {W : WX} {k : Nat} {kx vx tg iter : Expr} {ifs : List Expr} {scope : Scope} {own : List (Str × Nat)} {pos : Pos} {gm : GM} {t : TM} {mk mv : EM} {im : IM}
theorem dcL_cons {x : D} {xs : List D} {e e' : En} {g g' : G} {ps : List (D × D)} (hg : gm x g e = some e') (h : dcL gm t mk mv (x :: xs) e g = .ok ps g') :
    (∃ g1, t e' g = .ok false g1 ∧ dcL gm t mk mv xs e g1 = .ok ps g') ∨ ∃ g1 y g2 z g3 qs, t e' g = .ok true g1 ∧ mk e' g1 = .ok y g2 ∧ mv e' g2 = .ok z g3 ∧ dcL gm t mk mv xs e g3 = .ok qs g' ∧ ps = (y, z) :: qs := by
  unfold dcL at h
  rw [hg] at h
  simp only at h
  cases z1 : t e' g with
  | exn c g1 => rw [z1] at h; cases h
  | stuck => rw [z1] at h; cases h
  | ok c g1 =>
    rw [z1, noX_ok] at h
    simp only [Res.bind] at h
    cases c with
    | false => exact .inl ⟨g1, rfl, h⟩
    | true =>
      simp only [cond_true] at h
      cases z2 : mk e' g1 with
      | exn c g2 => rw [z2] at h; cases h
      | stuck => rw [z2] at h; cases h
      | ok y g2 =>
        rw [z2, noX_ok] at h
        simp only at h
        cases z3 : mv e' g2 with
        | exn c g3 => rw [z3] at h; cases h
        | stuck => rw [z3] at h; cases h
        | ok z g3 =>
          rw [z3, noX_ok] at h
          simp only at h
          cases z4 : dcL gm t mk mv xs e g3 with
          | exn c g4 => rw [z4] at h; cases h
          | stuck => rw [z4] at h; cases h
          | ok qs g4 =>
            rw [z4] at h
            cases h
            exact .inr ⟨g1, y, g2, z, g3, qs, rfl, z2, z3, z4, rfl⟩
/-- what the new dict holds, told by its kind -/
structure DRel (Kt : Kit) (X : Cx) (kd : DKd X) (tk : Bool) where
  R : List Addr → Hp → kd.C → List (D × D) → Prop
  mono : ∀ {ι ι' : List Addr} {F F' : Hp} {c : kd.C} {kvs : List (D × D)}, Ex ι F ι' F' → R ι F c kvs → R ι' F' c kvs
  nil : ∀ {ι : List Addr} {F : Hp}, R ι F kd.e0 []
  nt : ∀ c, NoT (some (kd.ho c)) ∧ ∀ vs, kd.ho c ≠ .tup vs
  put : ∀ {Φ : Hp} {ι : List Addr} {F H : Hp} {g : G} {c : kd.C} {kvs : List (D × D)} {y z : V} {d e : D}, RelG Kt Φ ι F g H → R ι F c kvs → DV Kt ι F y d → DV Kt ι F z e → isKey tk d = true → kvs.length < LINE → ∃ c', kd.pre c y z H c' ∧ R ι F c' (putp kvs d e)
  out : ∀ {Φ : Hp} {ι : List Addr} {F H : Hp} {g : G} {p : Addr} {c : kd.C} {kvs : List (D × D)}, RelG Kt (upd Φ p (kd.ho c)) ι F g H → Φ p = none → R ι F c kvs → RelG Kt Φ (ι ++ [p]) F (g ++ [.dct tk kvs]) H ∧ Ex ι F (ι ++ [p]) F
theorem putp_len {kvs : List (D × D)} {d e : D} : (putp kvs d e).length ≤ kvs.length + 1 := by
  unfold putp
  cases kvs.any fun p => deq p.1 d <;> simp
theorem relentG {Φ : Hp} {ι : List Addr} {F H : Hp} {g : G} {p : Addr} {o o' : HO} (R : RelG Kt (upd Φ p o) ι F g H) (hn : NoT (some o)) (ho : ∀ vs, o' ≠ .tup vs) : RelG Kt (upd Φ p o') ι F g (upd H p o') ∧ H p = some o := relent R hn ho
theorem dc_te (kd : DKd X) {tk : Bool} (DR : DRel Kt X kd tk) {wi : TI} {Φ : Hp} {J : It} {ι : List Addr} {F : Hp} {e : En} {g : G} {σ : L2.St} {H1 : Hp} {xs : List D} {own : List Nat} {Q : VK} (hJ : SrcJ Kt (.vals xs) J ι F) (S : St' Kt Φ ι F e g σ H1) (hn : xs.length ≤ LINE)
    (h : po Kt Φ W σ (DV Kt) ι F ((dcL gm t mk mv xs (wipeE e own) g).bind fun kvs g2 => (match kvs.all fun p => isKey tk p.1 with
      | true => .ok (.ref g2.length) (g2 ++ [.dct tk (mergep [] kvs)])
      | false => .stuck)) Q) :
    ∀ p, H1 p = none → ∃ Wp : Nat → Nat → Hp → Prop, (∃ m, Wp 0 m (upd H1 p (kd.ho kd.e0))) ∧ ∀ i k H, Wp i k H → (J.stop i H ∧ Q (.ref p) H) ∨ (J.go i H ∧ ∃ N : Hp → Prop, (∀ H', N H' → ∃ m', m' < k ∧ Wp (i + 1) m' H') ∧ ∀ x H', J.yld i H x H' → tgt Kt own gm x (wipe σ own) H' fun σ2 H2 => wipe σ2 own = wipe σ own ∧ tt Kt WF t σ2 H2 fun b H3 =>
      if b = true then te Kt WF mk σ2 H3 fun y H4 => te Kt WF mv σ2 H4 fun z H5 => ∃ c c', H5 p = some (kd.ho c) ∧ kd.pre c y z H5 c' ∧ N (upd H5 p (kd.ho c')) else N H3) := by
  intro p hp
  have hΦ : Φ p = none := by
    cases z : Φ p with
    | none => rfl
    | some o => rw [(S.rel.fr p o z).1] at hp; cases hp
  cases z0 : dcL gm t mk mv xs (wipeE e own) g with
  | exn c gE =>
    exfalso
    have ne : ∀ (xs : List D) (e : En) (g : G) (c : Nat) (g' : G), dcL gm t mk mv xs e g ≠ .exn c g' := by
      intro xs
      induction xs with
      | nil => intro e g c g' h; cases h
      | cons x xs ih =>
        intro e g c g'
        unfold dcL
        split
        · simp
        · refine bind_ne (fun _ _ => noX_ne) fun b g1 => ?_
          cases b with
          | true => exact bind_ne (fun _ _ => noX_ne) fun y g2 => bind_ne (fun _ _ => noX_ne) fun z g3 => bind_ne (fun _ _ => ih _ _ _ _) fun ps g4 => by simp
          | false => exact ih _ _ _ _
    exact ne _ _ _ _ _ z0
  | stuck => rw [z0] at h; exact h.elim
  | ok ps0 gE =>
    rw [z0] at h
    simp only [Res.bind] at h
    have hk : (ps0.all fun p => isKey tk p.1) = true := by
      cases q : ps0.all fun p => isKey tk p.1 with
      | true => rfl
      | false => rw [q] at h; exact h.elim
    rw [hk] at h
    have h : po Kt Φ W σ (DV Kt) ι F (.ok (.ref gE.length) (gE ++ [.dct tk (mergep [] ps0)])) Q := h
    refine ⟨fun i m H => ∃ ι1 F1 g1 c kvs ps, Ex ι F ι1 F1 ∧ RelG Kt (upd Φ p (kd.ho c)) ι1 F1 g1 H ∧ DR.R ι1 F1 c kvs ∧ m = xs.length - i ∧ i ≤ xs.length ∧ kvs.length ≤ i ∧ dcL gm t mk mv (xs.drop i) (wipeE e own) g1 = .ok ps gE ∧ mergep [] ps0 = mergep kvs ps ∧ (ps.all fun p => isKey tk p.1) = true,
      ⟨xs.length, ι, F, g, kd.e0, [], ps0, Ex.refl, lent S.rel hp (DR.nt kd.e0).2, DR.nil, by simp, Nat.zero_le _, Nat.le_refl _, by simpa using z0, rfl, hk⟩, ?_⟩
    rintro i m H ⟨ι1, F1, g1, c, kvs, ps, x1, R1, rc, rfl, hi, hl, e1, em, hk1⟩
    rcases Nat.lt_or_ge i xs.length with hlt | hge
    · obtain ⟨hg, hy⟩ := hJ.go x1 R1 (show nxS (.vals xs) i g1 = some (some xs[i]) by show some xs[i]? = _; rw [List.getElem?_eq_getElem hlt])
      refine .inr ⟨hg, fun H' => ∃ ι1 F1 g1 c kvs ps, Ex ι F ι1 F1 ∧ RelG Kt (upd Φ p (kd.ho c)) ι1 F1 g1 H' ∧ DR.R ι1 F1 c kvs ∧ kvs.length ≤ i + 1 ∧ dcL gm t mk mv (xs.drop (i + 1)) (wipeE e own) g1 = .ok ps gE ∧ mergep [] ps0 = mergep kvs ps ∧ (ps.all fun p => isKey tk p.1) = true,
        fun H' ⟨ι2, F2, g2, c2, kvs2, ps2, q1, q2, q3, q4, q5, q6, q7⟩ => ⟨xs.length - (i + 1), by omega, ι2, F2, g2, c2, kvs2, ps2, q1, q2, q3, rfl, hlt, q4, q5, q6, q7⟩, fun v H' yl => ?_⟩
      obtain ⟨ι2, F2, x2, R2, r2⟩ := hy v H' yl
      rw [List.drop_eq_getElem_cons hlt] at e1
      cases zg : gm xs[i] g1 (wipeE e own) with
      | none =>
        unfold dcL at e1
        rw [zg] at e1
        cases e1
      | some e' =>
        have S2 : St' Kt (upd Φ p (kd.ho c)) ι2 F2 (wipeE e own) g1 (wipe σ own) H' := ⟨wipe_env (S.env.mono (x1.trans x2)) own, R2⟩
        refine ⟨_, ι2, F2, wipeE e own, g1, xs[i], S2, r2, e', zg, fun σ' o S' => ⟨wipe_out' o, _, ι2, F2, e', g1, S', ?_⟩⟩
        rcases dcL_cons zg e1 with ⟨g3, t1, t2⟩ | ⟨g3, y, g4, z, g5, qs, t1, t2, t3, t4, rfl⟩
        · rw [t1]
          intro ι3 F3 H3 v3 x3 R3 ev
          obtain rfl : v3 = false := ev
          rw [if_neg Bool.false_ne_true]
          exact ⟨ι3, F3, g3, c, kvs, ps, (x1.trans x2).trans x3, R3, DR.mono (x2.trans x3) rc, by omega, t2, em, hk1⟩
        · rw [t1]
          intro ι3 F3 H3 v3 x3 R3 ev
          obtain rfl : v3 = true := ev
          rw [if_pos rfl]
          refine ⟨_, ι3, F3, e', g3, ⟨S'.env.mono x3, R3⟩, ?_⟩
          rw [t2]
          intro ι4 F4 H4 v4 x4 R4 r4
          refine ⟨_, ι4, F4, e', g4, ⟨S'.env.mono (x3.trans x4), R4⟩, ?_⟩
          rw [t3]
          intro ι5 F5 H5 v5 x5 R5 r5
          rw [List.all_cons, Bool.and_eq_true] at hk1
          obtain ⟨c', p1, p2⟩ := DR.put R5 (DR.mono ((x2.trans x3).trans (x4.trans x5)) rc) (r4.mono x5) r5 hk1.1 (by omega)
          obtain ⟨R6, eH⟩ := relentG (o' := kd.ho c') R5 (DR.nt c).1 (DR.nt c').2
          have := putp_len (kvs := kvs) (d := y) (e := z)
          exact ⟨c, c', eH, p1, ι5, F5, g5, c', putp kvs y z, qs, ((x1.trans x2).trans x3).trans (x4.trans x5), R6, p2, by omega, t4, em, hk1.2⟩
    · refine .inl ⟨hJ.stop x1 R1 (show nxS (.vals xs) i g1 = some none by show some xs[i]? = _; rw [List.getElem?_eq_none hge]), ?_⟩
      rw [List.drop_eq_nil_of_le hge] at e1
      unfold dcL at e1
      cases e1
      obtain ⟨R', x'⟩ := DR.out R1 hΦ rc
      have em : mergep [] ps0 = kvs := em
      rw [em] at h
      exact h _ _ _ _ (x1.trans x') R' (.ref (get_snoc R1.len))
/-- .. handed on -/
theorem backD {Φ : Hp} {ι : List Addr} {F H : Hp} {g : G} {p : Addr} {o : HO} {ob : Ob} (R : RelG Kt (upd Φ p o) ι F g H) (hp : Φ p = none) (hob : ∀ ι' F', Ex ι F ι' F' → F' p = none → H p = some o → ObR Kt ι' F' H p ob) : RelG Kt Φ (ι ++ [p]) F (g ++ [ob]) H ∧ Ex ι F (ι ++ [p]) F := by
  obtain ⟨h1, h2, h3⟩ := R.fr p _ upd_same
  have R0 := back R hp
  have x : Ex ι F (ι ++ [p]) F := ⟨fun l a h => by rw [List.getElem?_append_left (List.getElem?_eq_some_iff.mp h).1]; exact h, fun _ _ h => h⟩
  have sp : ∀ (l : Nat) (a : Addr), (ι ++ [p])[l]? = some a → ι[l]? = some a ∨ (l = ι.length ∧ a = p) := fun l a e => by
    by_cases z : l < ι.length
    · rw [List.getElem?_append_left z] at e; exact .inl e
    · rw [List.getElem?_append_right (by omega)] at e
      have : l - ι.length = 0 := by
        have := (List.getElem?_eq_some_iff.mp e).1
        simp at this; omega
      rw [this] at e
      simp at e
      exact .inr ⟨by omega, e.symm⟩
  refine ⟨⟨by simp [R.len], fun i j a q1 q2 => ?_, R.sub, fun i a e => ?_, fun a u h => ?_, fun l a ob' e1 e2 => ?_, fun t ht => ⟨(R.tb t ht).1, (R.tb t ht).2.1, tbN (R.tb t ht).2.2.1, fun i e => (by rcases sp i _ e with e | ⟨_, e⟩; exact (R.tb t ht).2.2.2 i e; exact tbP (R.tb t ht).2.2.1 e)⟩, R0.nt⟩, x⟩
  · rcases sp i a q1 with q1 | ⟨q1, e1⟩ <;> rcases sp j a q2 with q2 | ⟨q2, e2⟩
    · exact R.inj i j a q1 q2
    · exact absurd (e2 ▸ q1) (h3 i)
    · exact absurd (e1 ▸ q2) (h3 j)
    · omega
  · rcases sp i a e with e | ⟨_, e⟩
    · exact R.on i a e
    · rw [e, h1]; simp
  · obtain ⟨q1, q2, q3⟩ := R0.fr a u h
    refine ⟨q1, q2, fun i q => ?_⟩
    rcases sp i a q with q | ⟨_, q⟩
    · exact q3 i q
    · rw [q] at h; rw [hp] at h; cases h
  · rcases sp l a e2 with e2 | ⟨e2, e3⟩
    · have hl : l < g.length := by rw [← R.len]; exact (List.getElem?_eq_some_iff.mp e2).1
      rw [List.getElem?_append_left hl] at e1
      exact (R.ob l a ob' e1 e2).mono x rfl fun n => n
    · rw [e2, R.len, List.getElem?_append_right (Nat.le_refl _), Nat.sub_self] at e1
      simp at e1
      subst e1; subst e3
      exact hob _ _ x h2 h1
def drK : DRel Kt X (kdK X) false where
  R := fun ι F c kvs => KR Kt ι F c kvs
  mono := fun x h => KR.mono x h
  nil := .nil
  nt := fun c => ⟨noT_dK, fun vs h => by cases h⟩
  put := fun {Φ ι F H g c kvs y z d e} R rc ry rz hk hl => by
    obtain ⟨j, rfl⟩ := ky_ex ry hk
    have rc' : KR Kt ι F c kvs := rc
    exact ⟨putK c j z, ⟨by rw [← line_eq]; have := rc'.length; show List.length c < _; omega, j, rfl, rfl⟩, rc'.put ry rz⟩
  out := fun {Φ ι F H g p c kvs} R hp rc => backD R hp fun ι' F' x n h => ⟨n, c, h, KR.mono x rc⟩
def drT (hu : X.A.units + 1 < cLine) : DRel Kt X (kdT X hu) true where
  R := fun ι F c kvs => KRT Kt ι F c kvs
  mono := fun x h => KRT.mono x h
  nil := .nil
  nt := fun c => ⟨noT_dT, fun vs h => by cases h⟩
  put := fun {Φ ι F H g c kvs y z d e} R rc ry rz hk hl => by
    have rc' : KRT Kt ι F c kvs := rc
    cases ry with
    | @tup b ws ds f1 r1 =>
      obtain ⟨j, rfl⟩ := kys_ex r1 hk
      exact ⟨putK c j z, ⟨by rw [← line_eq]; have := rc'.length; show List.length c < _; omega, j, b, rfl, R.sub _ _ f1, rfl⟩, rc'.put r1 rz⟩
    | _ => cases hk
  out := fun {Φ ι F H g p c kvs} R hp rc => backD R hp fun ι' F' x n h => ⟨n, c, h, KRT.mono x rc⟩
theorem se_dcG (kd : DKd X) {tk : Bool} (DR : DRel Kt X kd tk) (A : At Kt X W k) (hi : PIy Kt X W tg iter im) (ok : BlkOk X.N X.env.scope scope own)
    (hg : ∀ (s : Shared) (H : Hp) (C : Addr) (cl : List (Str × Addr)) (fp : List Addr), PG (X.blk s H scope (compEnvC scope cl C X.env) fp) tg (tgt Kt (own.map (·.2)) gm))
    (ht : ∀ (s : Shared) (H : Hp) (C : Addr) (cl : List (Str × Addr)) (fp : List Addr), At Kt (X.blk s H scope (compEnvC scope cl C X.env) fp) WF k → PTs (X.blk s H scope (compEnvC scope cl C X.env) fp) ifs (tt Kt WF t))
    (hk : ∀ (s : Shared) (H : Hp) (C : Addr) (cl : List (Str × Addr)) (fp : List Addr), At Kt (X.blk s H scope (compEnvC scope cl C X.env) fp) WF k → PE (X.blk s H scope (compEnvC scope cl C X.env) fp) kx (te Kt WF mk))
    (hv : ∀ (s : Shared) (H : Hp) (C : Addr) (cl : List (Str × Addr)) (fp : List Addr), At Kt (X.blk s H scope (compEnvC scope cl C X.env) fp) WF k → PE (X.blk s H scope (compEnvC scope cl C X.env) fp) vx (te Kt WF mv)) (hs : ∀ x, foldedSetIterable iter X.env x = pure x := by intro _; rfl) :
    PE X (.DictComp kx vx [⟨tg, iter, ifs, 0⟩] scope pos) (te Kt W (vDc tk (own.map (·.2)) im gm t mk mv)) := by
  obtain ⟨wi, pi, ii⟩ := hi.ex
  refine L2.PE.imp (pe_dcG kd A.calm A.nd pi ok hg (fun s H C cl fp => ht s H C cl fp (A.blk ..)) (fun s H C cl fp => hk s H C cl fp (A.blk ..)) (fun s H C cl fp => hv s H C cl fp (A.blk ..)) hs) fun σ H Q ⟨Φ, ι, F, e, g, S, h⟩ => ii σ H Φ ι F e g _ S ((po.bind (Rl := RJ Kt) h).imp fun J H1 ⟨ι1, F1, g1, s, x1, R1, hJ, h1⟩ => ?_)
  cases s with
  | obj l => exact h1.elim
  | vals xs =>
    simp only at h1
    split at h1
    · rename_i hl
      exact dc_te (wi := wi) kd DR hJ ⟨S.env.mono x1, R1⟩ (by rw [line_eq]; exact okL_iff.mp hl) h1
    · exact h1.elim
theorem ss_dcG (kd : DKd X) {tk : Bool} (DR : DRel Kt X kd tk) (i : Nat) {y : Str} {py spos : Pos} (A : At Kt X W k) (hi : PIy Kt X W tg iter im) (ok : BlkOk X.N X.env.scope scope own)
    (hg : ∀ (s : Shared) (H : Hp) (C : Addr) (cl : List (Str × Addr)) (fp : List Addr), PG (X.blk s H scope (compEnvC scope cl C X.env) fp) tg (tgt Kt (own.map (·.2)) gm))
    (ht : ∀ (s : Shared) (H : Hp) (C : Addr) (cl : List (Str × Addr)) (fp : List Addr), At Kt (X.blk s H scope (compEnvC scope cl C X.env) fp) WF k → PTs (X.blk s H scope (compEnvC scope cl C X.env) fp) ifs (tt Kt WF t))
    (hk : ∀ (s : Shared) (H : Hp) (C : Addr) (cl : List (Str × Addr)) (fp : List Addr), At Kt (X.blk s H scope (compEnvC scope cl C X.env) fp) WF k → PE (X.blk s H scope (compEnvC scope cl C X.env) fp) kx (te Kt WF mk))
    (hv : ∀ (s : Shared) (H : Hp) (C : Addr) (cl : List (Str × Addr)) (fp : List Addr), At Kt (X.blk s H scope (compEnvC scope cl C X.env) fp) WF k → PE (X.blk s H scope (compEnvC scope cl C X.env) fp) vx (te Kt WF mv))
    (hy : X.N[i]? = some y := by rfl) (hyl : X.env.scope.names.lookup y = some .local := by rfl)
    (hsw : swapsWith (.DictComp kx vx [⟨tg, iter, ifs, 0⟩] scope pos) (some (.Name y py)) spos.line X.env = pure true := by exact sw_trueD rfl rfl rfl (by decide +kernel))
    (hs : ∀ x, foldedSetIterable iter X.env x = pure x := by intro _; rfl) :
    PS X (.Assign [.Name y py] (.DictComp kx vx [⟨tg, iter, ifs, 0⟩] scope pos) spos) (ts Kt W (sAsg i (vDc tk (own.map (·.2)) im gm t mk mv))) := by
  obtain ⟨wi, pi, ii⟩ := hi.ex
  refine L2.PS.imp (ps_setDcG kd A.calm A.nd hy hyl hsw pi ok hg (fun s H C cl fp => ht s H C cl fp (A.blk ..)) (fun s H C cl fp => hk s H C cl fp (A.blk ..)) (fun s H C cl fp => hv s H C cl fp (A.blk ..)) hs) fun D σ H ⟨Φ, ι, F, e, g, S, h⟩ => ?_
  have h2 := so.bind (Rl := DV Kt) S.env h
  refine ii σ H Φ ι F e g _ S ((po.bind (Rl := RJ Kt) h2).imp fun J H1 ⟨ι1, F1, g1, s, x1, R1, hJ, h1⟩ => ?_)
  cases s with
  | obj l => exact h1.elim
  | vals xs =>
    simp only at h1
    split at h1
    · rename_i hl
      exact dc_te (wi := wi) kd DR hJ ⟨S.env.mono x1, R1⟩ (by rw [line_eq]; exact okL_iff.mp hl) (h1.imp fun v H2 ⟨ι2, F2, g2, d, x2, R2, r2, h3⟩ => h3 _ _ _ _ Ex.refl ⟨(S.env.mono x2).set i r2, R2⟩)
    · exact h1.elim
theorem se_dcK (A : At Kt X W k) (hi : PIy Kt X W tg iter im) (ok : BlkOk X.N X.env.scope scope own)
    (hg : ∀ (s : Shared) (H : Hp) (C : Addr) (cl : List (Str × Addr)) (fp : List Addr), PG (X.blk s H scope (compEnvC scope cl C X.env) fp) tg (tgt Kt (own.map (·.2)) gm))
    (ht : ∀ (s : Shared) (H : Hp) (C : Addr) (cl : List (Str × Addr)) (fp : List Addr), At Kt (X.blk s H scope (compEnvC scope cl C X.env) fp) WF k → PTs (X.blk s H scope (compEnvC scope cl C X.env) fp) ifs (tt Kt WF t))
    (hk : ∀ (s : Shared) (H : Hp) (C : Addr) (cl : List (Str × Addr)) (fp : List Addr), At Kt (X.blk s H scope (compEnvC scope cl C X.env) fp) WF k → PE (X.blk s H scope (compEnvC scope cl C X.env) fp) kx (te Kt WF mk))
    (hv : ∀ (s : Shared) (H : Hp) (C : Addr) (cl : List (Str × Addr)) (fp : List Addr), At Kt (X.blk s H scope (compEnvC scope cl C X.env) fp) WF k → PE (X.blk s H scope (compEnvC scope cl C X.env) fp) vx (te Kt WF mv)) (hs : ∀ x, foldedSetIterable iter X.env x = pure x := by intro _; rfl) :
    PE X (.DictComp kx vx [⟨tg, iter, ifs, 0⟩] scope pos) (te Kt W (vDc false (own.map (·.2)) im gm t mk mv)) := se_dcG (kdK X) drK A hi ok hg ht hk hv hs
theorem se_dcT (A : At Kt X W k) (hi : PIy Kt X W tg iter im) (ok : BlkOk X.N X.env.scope scope own)
    (hg : ∀ (s : Shared) (H : Hp) (C : Addr) (cl : List (Str × Addr)) (fp : List Addr), PG (X.blk s H scope (compEnvC scope cl C X.env) fp) tg (tgt Kt (own.map (·.2)) gm))
    (ht : ∀ (s : Shared) (H : Hp) (C : Addr) (cl : List (Str × Addr)) (fp : List Addr), At Kt (X.blk s H scope (compEnvC scope cl C X.env) fp) WF k → PTs (X.blk s H scope (compEnvC scope cl C X.env) fp) ifs (tt Kt WF t))
    (hk : ∀ (s : Shared) (H : Hp) (C : Addr) (cl : List (Str × Addr)) (fp : List Addr), At Kt (X.blk s H scope (compEnvC scope cl C X.env) fp) WF k → PE (X.blk s H scope (compEnvC scope cl C X.env) fp) kx (te Kt WF mk))
    (hv : ∀ (s : Shared) (H : Hp) (C : Addr) (cl : List (Str × Addr)) (fp : List Addr), At Kt (X.blk s H scope (compEnvC scope cl C X.env) fp) WF k → PE (X.blk s H scope (compEnvC scope cl C X.env) fp) vx (te Kt WF mv)) (hs : ∀ x, foldedSetIterable iter X.env x = pure x := by intro _; rfl) :
    PE X (.DictComp kx vx [⟨tg, iter, ifs, 0⟩] scope pos) (te Kt W (vDc true (own.map (·.2)) im gm t mk mv)) := se_dcG (kdT X (by have := A.hu; omega)) (drT _) A hi ok hg ht hk hv hs
end
theorem hu1 {Kt : Kit} {X : Cx} {W : WX} {k : Nat} (A : At Kt X W k) : X.A.units + 1 < cLine := by have := A.hu; omega
/-! ### d.pop(k), d.pop(k, x) -/
def vDPopX (o : EM) (ms : AM) : EM := fun e g => (o e g).bind fun x g1 => match isDc g1 x with
  | false => .stuck
  | true => (ms e g1).bind fun ys g2 => match x with
    | .ref l => (match g2[l]? with
      | some (.dct t kvs) => (match ys with
        | [y] => (match kyD y, t, lkp kvs y with
          | true, false, some v => .ok v (g2.set l (.dct false (dropp kvs y)))
          | _, _, _ => .stuck)
        | [y, z] => (match isKey t y, lkp kvs y with
          | true, some v => .ok v (g2.set l (.dct t (dropp kvs y)))
          | true, none => .ok z g2
          | _, _ => .stuck)
        | _ => .stuck)
      | _ => .stuck)
    | _ => .stuck
def rDPopX : V → List V → Hp → VK → Prop := fun x xs H Q => rDPop x xs H Q ∨ L2.DX.rPopT x xs H Q
theorem mt_dpopK {X : Cx} : MtR X "dict.pop" rDPop := by
  intro pins s σ H x xs v us Q I rx rxs h
  obtain ⟨a, kvs, k, rfl, ha, ⟨y, rfl, l, q⟩ | ⟨z, rfl, q1, q2⟩⟩ := h
  · obtain rfl : v = Value.ref a := rx
    obtain ⟨u, rfl, ru⟩ := vals1 rxs
    exact d_pop (more := []) I ha ru l (.inl rfl) fun w' s' I' rw' => ⟨y, _, I', rw', q⟩
  · obtain rfl : v = Value.ref a := rx
    obtain ⟨u, w, rfl, ru, rw⟩ := vals2 rxs
    cases l : valV kvs k with
    | some y => exact d_pop (more := [w]) I ha ru l (.inr ⟨w, rfl⟩) fun w' s' I' rw' => ⟨y, _, I', rw', q1 y l⟩
    | none => exact d_popD I ha ru l fun s' I' => ⟨z, _, I', rw, q2 l⟩
theorem mt_dpopX {X : Cx} (hu : X.A.units + 1 < cLine) : MtR X "dict.pop" rDPopX := by
  intro pins s σ H x xs v us Q I rx rxs h
  rcases h with h | h
  · exact mt_dpopK pins s σ H x xs v us Q I rx rxs h
  · exact L2.DX.mt_popT hu pins s σ H x xs v us Q I rx rxs h
section
variable {Kt : Kit} {X : Cx} {W : WX} {k : Nat} {a b c : Expr} {ma mb mc : EM} {pos : Pos} {es : List Expr} {ms : AM}
theorem KRT.drop {ι : List Addr} {F : Hp} {us : List (List Key × V)} {kvs : List (D × D)} (r : KRT Kt ι F us kvs) {k : List Key} {ds : List D} (hd : DVs Kt ι F (k.map kV) ds) : KRT Kt ι F (dropK us k) (dropp kvs (.tup ds)) := by
  unfold dropK dropp
  induction r with
  | nil => exact .nil
  | @cons j v d' e r s hk hv t ih =>
    rw [List.filter_cons, List.filter_cons]
    have e1 : deq (.tup d') (.tup ds) = decide (j = k) := by simp only [deq]; exact keys_deq hk hd
    simp only [e1]
    by_cases z : j = k
    · simp only [z, ne_eq, not_true_eq_false, decide_false, decide_true, Bool.not_true, Bool.false_eq_true, if_false]
      exact ih
    · simp only [z, ne_eq, not_false_eq_true, decide_false, decide_true, Bool.not_false, if_true]
      exact .cons hk hv ih
theorem se_dpop {p : Pos} (A : At Kt X W k) (ho : PE X a (te Kt W ma)) (hm : PA X (b :: es) (ta Kt W ms)) (hbase : attributeBase a "pop" X.env (eval a X.env) = eval a X.env := by rfl)
    (hfew : ((backTo pos (starEach (b :: es) X.env)).all (fun x => !x.1) && (backToKw pos (keywordEach [] X.env)).all (fun x => x.1.isSome)
      && decide ((b :: es).length + ([] : List Keyword).length + (if ([] : List Keyword).isEmpty then 0 else 1) < 30)) = true := by rfl)
    (hline : (p.endLine == pos.line) = true := by rfl) (hs : starEach (b :: es) X.env = (false, eval b X.env) :: starEach es X.env := by rfl) (hplain : (backTo pos (starEach es X.env)).any (·.1) = false := by rfl) :
    PE X (.Call (.Attribute a "pop" p) (b :: es) [] pos) (te Kt W (vDPopX ma ms)) := by
  have h := pe_dm (cpos := pos) (apos := p) PySem.F.slot_dict_pop PySem.F.type_dict_pop (mt_dpopX (by have := A.hu; omega)) ho hm hbase hfew hline hs hplain
  rw [A.eK, A.ew] at h
  refine L2.PE.imp h fun σ H Q ⟨Φ, ι, F, e, g, S, h⟩ => ⟨Φ, ι, F, e, g, S, (po.bind (Rl := DV Kt) h).imp fun v H1 ⟨ι1, F1, g1, d, x1, R1, r1, h1⟩ => ?_⟩
  split at h1
  · exact h1.elim
  · rename_i hd
    refine ⟨isDc_ok R1 r1 hd, Φ, ι1, F1, e, g1, ⟨S.env.mono x1, R1⟩, (po.bind (Rl := DVs Kt) h1).imp fun vs H2 ⟨ι2, F2, g2, ys, x2, R2, r2, h2⟩ => ?_⟩
    split at h2
    · rename_i l
      split at h2
      · rename_i t kvs e1
        have r1' := r1.mono x2
        cases r1' with
        | @ref _ ad e2 =>
        have ob := R2.ob _ _ _ e1 e2
        split at h2
        · rename_i y
          cases r2 with
          | cons ry r0 =>
          cases r0
          split at h2
          · rename_i d2 hk hl
            obtain ⟨hF, us, e3, r⟩ := ob
            obtain ⟨j, rfl⟩ := ky_ex ry hk
            have fd := r.find ry
            rw [hl] at fd
            obtain ⟨w, fw, rw'⟩ := fd
            exact .inl ⟨ad, us, j, rfl, e3, .inl ⟨w, rfl, fw, h2 _ _ _ _ Ex.refl (R2.put e2 hF ⟨hF, _, upd_same, r.drop ry⟩ (by rw [e3]; exact noT_dK)) rw'⟩⟩
          · exact h2.elim
        · rename_i y z
          cases r2 with
          | cons ry r0 =>
          cases r0 with
          | cons rz r0 =>
          cases r0
          cases t with
          | false =>
            obtain ⟨hF, us, e3, r⟩ := ob
            split at h2
            · rename_i d2 hk hl
              obtain ⟨j, rfl⟩ := ky_ex ry hk
              have fd := r.find ry
              rw [hl] at fd
              obtain ⟨w, fw, rw'⟩ := fd
              refine .inl ⟨ad, us, j, rfl, e3, .inr ⟨_, rfl, fun v' hv' => ?_, fun hn => ?_⟩⟩
              · rw [fw] at hv'
                cases hv'
                exact h2 _ _ _ _ Ex.refl (R2.put e2 hF ⟨hF, _, upd_same, r.drop ry⟩ (by rw [e3]; exact noT_dK)) rw'
              · rw [fw] at hn; cases hn
            · rename_i hk hl
              obtain ⟨j, rfl⟩ := ky_ex ry hk
              have fd := r.find ry
              rw [hl] at fd
              have fd : valV us j = none := fd
              refine .inl ⟨ad, us, j, rfl, e3, .inr ⟨_, rfl, fun v' hv' => ?_, fun hn => h2 _ _ _ _ Ex.refl R2 rz⟩⟩
              rw [fd] at hv'; cases hv'
            · exact h2.elim
          | true =>
            obtain ⟨hF, us, e3, r⟩ := ob
            cases ry with
            | @tup bb ws ds f1 rk =>
              split at h2
              · rename_i d2 hk hl
                obtain ⟨j, rfl⟩ := kys_ex rk hk
                have fd := r.find rk
                rw [hl] at fd
                obtain ⟨w, fw, rw'⟩ := fd
                refine .inr ⟨ad, us, j, bb, _, rfl, rfl, e3, R2.sub _ _ f1, fun v' hv' => ?_, fun hn => ?_⟩
                · rw [fw] at hv'
                  cases hv'
                  exact h2 _ _ _ _ Ex.refl (R2.put e2 hF ⟨hF, _, upd_same, r.drop rk⟩ (by rw [e3]; exact noT_dT)) rw'
                · rw [fw] at hn; cases hn
              · rename_i hk hl
                obtain ⟨j, rfl⟩ := kys_ex rk hk
                have fd := r.find rk
                rw [hl] at fd
                have fd : valV us j = none := fd
                refine .inr ⟨ad, us, j, bb, _, rfl, rfl, e3, R2.sub _ _ f1, fun v' hv' => ?_, fun hn => h2 _ _ _ _ Ex.refl R2 rz⟩
                rw [fd] at hv'; cases hv'
              · exact h2.elim
            | _ => split at h2 <;> first | exact h2.elim | (rename_i hk _; cases hk)
        · exact h2.elim
      · exact h2.elim
    · exact h2.elim
end
end Y

set_option Elab.async false
set_option linter.all false
set_option maxRecDepth 100000
namespace Y
open PySem L2

/-! ### plain: running the data -/
def Le (g g' : G) : Prop := ∀ (l : Nat) (o : Ob), g[l]? = some o → g'[l]? = some o
theorem Le.refl {g : G} : Le g g := fun _ _ h => h
theorem Le.trans {g g1 g2 : G} (a : Le g g1) (b : Le g1 g2) : Le g g2 := fun l o h => b l o (a l o h)
theorem Le.app {g : G} {os : List Ob} : Le g (g ++ os) := fun l o h => by rw [List.getElem?_append_left (List.getElem?_eq_some_iff.mp h).1]; exact h
theorem Le.set {g g' : G} (h : Le g g') {l : Nat} (hl : g.length ≤ l) {o : Ob} : Le g (g'.set l o) := fun m u e => by
  rw [List.getElem?_set_ne (by have := (List.getElem?_eq_some_iff.mp e).1; omega)]
  exact h m u e
theorem lsD_le {g g' : G} (h : Le g g') {d : D} {ds : List D} (e : lsD g d = some ds) : lsD g' d = some ds := by
  unfold lsD at e ⊢
  cases d with
  | ref l =>
    rw [snap_ref] at e ⊢
    cases z : g[l]? with
    | none => rw [z] at e; cases e
    | some o => rw [h l o z]; rw [z] at e; exact e
  | _ => exact e
@[simp] theorem lsD_lst {g : G} {ds : List D} : lsD g (.lst ds) = some ds := rfl
theorem lsD_ref {g : G} {l : Nat} {ds : List D} (h : g[l]? = some (.lst ds)) : lsD g (.ref l) = some ds := by unfold lsD; rw [snap_ref, h]
theorem snap_of {g : G} {d : D} {ds : List D} (h : lsD g d = some ds) : snap g d = .lst ds := by
  unfold lsD at h
  split at h
  · rename_i e; cases h; exact e
  · cases h
theorem itD_of {g : G} {d : D} {ds : List D} (h : lsD g d = some ds) : itD g d = some ds := by
  unfold itD
  cases d with
  | tup _ => cases h
  | scr _ => cases h
  | _ => exact h

/-- a step of a loop -/
def StepOK (r : SR) (P : En → G → Prop) (Q : SR → Prop) : Prop := match r with
  | .nx e g => P e g
  | .ct e g => P e g
  | .bk e g => Q (.nx e g)
  | r => Q r
theorem after_ok {r : SR} {k : En → G → SR} {P : En → G → Prop} {Q : SR → Prop} (h : StepOK r P Q) (hk : ∀ e g, P e g → Q (k e g)) : Q (after r k) := by
  cases r with
  | nx e g => exact hk e g h
  | ct e g => exact hk e g h
  | bk e g => exact h
  | rt d g => exact h
  | exn c e g => exact h
  | stuck => exact h
theorem loopL_inv {gm : GM} {b : SM} {Q : SR → Prop} (P : List D → En → G → Prop) (hs : ∀ x xs e g, P (x :: xs) e g → ∃ e', gm x g e = some e' ∧ StepOK (b e' g) (P xs) Q) (hd : ∀ e g, P [] e g → Q (.nx e g)) : ∀ xs e g, P xs e g → Q (loopL gm b xs e g)
  | [], e, g, h => hd e g h
  | x :: xs, e, g, h => by
    obtain ⟨e', h1, h2⟩ := hs x xs e g h
    unfold loopL
    rw [h1]
    exact after_ok h2 fun e2 g2 h3 => loopL_inv P hs hd xs e2 g2 h3
theorem rngL_cons {lo : Int} {n : Nat} : rngL lo (n + 1) = .int lo :: rngL (lo + 1) n := by
  unfold rngL
  rw [List.range_succ_eq_map, List.map_cons, List.map_map]
  congr 1
  · simp
  · apply List.map_congr_left
    intro i _
    simp only [Function.comp_apply]
    congr 1
    omega
theorem loop_rng {gm : GM} {b : SM} {Q : SR → Prop} {lo : Int} (P : Nat → En → G → Prop) : ∀ (n i : Nat) (e : En) (g : G), (∀ j e g, i ≤ j → j < i + n → P j e g → ∃ e', gm (.int (lo + (j : Int))) g e = some e' ∧ StepOK (b e' g) (P (j + 1)) Q) → (∀ e g, P (i + n) e g → Q (.nx e g)) → P i e g →
    Q (loopL gm b (rngL (lo + (i : Int)) n) e g)
  | 0, i, e, g, hs, hd, h => hd e g h
  | n + 1, i, e, g, hs, hd, h => by
    obtain ⟨e', h1, h2⟩ := hs i e g (Nat.le_refl _) (by omega) h
    rw [rngL_cons]
    unfold loopL
    rw [h1]
    refine after_ok h2 fun e2 g2 h3 => ?_
    have := loop_rng P n (i + 1) e2 g2 (fun j e g a b => hs j e g (by omega) (by omega)) (fun e g z => hd e g (by rw [Nat.add_succ, ← Nat.succ_add]; exact z)) h3
    rw [show lo + (i : Int) + 1 = lo + ((i + 1 : Nat) : Int) by omega]
    exact this
/-- for i in range(n) -/
theorem for_rng {gm : GM} {b : SM} {Q : SR → Prop} {n : Nat} {e : En} {g : G} (P : Nat → En → G → Prop) (h0 : P 0 e g) (hs : ∀ j e g, j < n → P j e g → ∃ e', gm (.int (j : Int)) g e = some e' ∧ StepOK (b e' g) (P (j + 1)) Q) (hd : ∀ e g, P n e g → Q (.nx e g)) :
    Q (loopL gm b (rngL 0 n) e g) := by
  have := loop_rng (lo := 0) P n 0 e g (fun j e g _ h2 h => by simpa using hs j e g (by omega) h) (fun e g h => hd e g (by simpa using h)) h0
  simpa using this
def srcL (g : G) : Src → Option (List D)
  | .vals xs => some xs
  | .obj l => match g[l]? with
    | some (.lst ds) => some ds
    | _ => none
theorem srcL_obj {g : G} {l : Nat} {xs : List D} (h : srcL g (.obj l) = some xs) : g[l]? = some (.lst xs) := by
  have h : (match g[l]? with
    | some (.lst ds) => some ds
    | _ => none) = some xs := h
  cases z : g[l]? with
  | none => rw [z] at h; cases h
  | some o =>
    rw [z] at h
    cases o with
    | lst ds => cases h; rfl
    | _ => cases h
theorem nxS_src {g : G} {s : Src} {xs : List D} (h : srcL g s = some xs) (i : Nat) : nxS s i g = some xs[i]? := by
  cases s with
  | vals ys => cases h; rfl
  | obj l =>
    unfold nxS
    simp only [srcL_obj h]
theorem loopS_pure {gm : GM} {b : SM} {Q : SR → Prop} {g : G} {s : Src} {xs : List D} (hx : srcL g s = some xs) (P : List D → En → Prop) (hs : ∀ x xs e, P (x :: xs) e → ∃ e', gm x g e = some e' ∧ StepOK (b e' g) (fun e2 g2 => g2 = g ∧ P xs e2) Q) (hd : ∀ e, P [] e → Q (.nx e g)) :
    ∀ n i e, n = xs.length - i → P (xs.drop i) e → Q (loopS gm b s n i e g)
  | 0, i, e, hn, h => by
    have hd' : xs.drop i = [] := List.drop_eq_nil_of_le (by omega)
    rw [hd'] at h
    unfold loopS
    rw [nxS_src hx, List.getElem?_eq_none (by omega)]
    exact hd e h
  | n + 1, i, e, hn, h => by
    have hi : i < xs.length := by omega
    rw [List.drop_eq_getElem_cons hi] at h
    obtain ⟨e', h1, h2⟩ := hs _ _ e h
    unfold loopS
    rw [nxS_src hx, List.getElem?_eq_getElem hi]
    simp only [h1]
    refine after_ok h2 fun e2 g2 ⟨eg, h3⟩ => ?_
    subst eg
    exact loopS_pure hx P hs hd n (i + 1) e2 (by omega) h3
/-- a loop that does not change the objects -/
theorem runS_pure {gm : GM} {b : SM} {Q : SR → Prop} {g : G} {s : Src} {xs : List D} {e : En} (hx : srcL g s = some xs) (P : List D → En → Prop) (h0 : P xs e) (hs : ∀ x xs e, P (x :: xs) e → ∃ e', gm x g e = some e' ∧ StepOK (b e' g) (fun e2 g2 => g2 = g ∧ P xs e2) Q) (hd : ∀ e, P [] e → Q (.nx e g)) :
    Q (runS gm b s e g) := by
  have key := loopS_pure hx P hs hd xs.length 0 e rfl (by simpa using h0)
  cases s with
  | vals ys =>
    cases hx
    rw [loopS_vals gm b xs xs.length 0 e g rfl] at key
    exact key
  | obj l =>
    unfold runS
    simp only [srcL_obj hx]
    exact key
theorem lcL_pure {α : Type} {gm : GM} {t : TM} {m : EM} {e : En} {g : G} (c : α → D) (p : α → Bool) (f : α → D) : ∀ (xs : List α), (∀ x ∈ xs, ∃ e', gm (c x) g e = some e' ∧ t e' g = .ok (p x) g ∧ (p x = true → m e' g = .ok (f x) g)) → lcL gm t m (xs.map c) e g = .ok ((xs.filter p).map f) g
  | [], _ => rfl
  | x :: xs, h => by
    obtain ⟨e', h1, h2, h3⟩ := h x List.mem_cons_self
    have ih := lcL_pure c p f xs fun y hy => h y (List.mem_cons_of_mem _ hy)
    rw [List.map_cons]
    unfold lcL
    rw [h1]
    simp only [h2, noX_ok, Res.bind]
    cases hp : p x with
    | true => simp [h3 hp, ih, hp]
    | false => simp [ih, hp]
theorem lcS_pure {gm : GM} {t : TM} {m : EM} {e : En} {g : G} {s : Src} {xs : List D} (hx : srcL g s = some xs) {ys : List D} : ∀ (n i : Nat), n = xs.length - i → (∀ x ∈ xs, ∃ e' b, gm x g e = some e' ∧ t e' g = .ok b g ∧ (b = true → ∃ y, m e' g = .ok y g)) → lcS gm t m s n i e g = lcL gm t m (xs.drop i) e g
  | 0, i, hn, h => by
    have hd' : xs.drop i = [] := List.drop_eq_nil_of_le (by omega)
    rw [hd']
    unfold lcS lcL
    rw [nxS_src hx, List.getElem?_eq_none (by omega)]
  | n + 1, i, hn, h => by
    have hi : i < xs.length := by omega
    obtain ⟨e', b, h1, h2, h3⟩ := h xs[i] (List.getElem_mem hi)
    have ih := lcS_pure (ys := ys) hx n (i + 1) (by omega) h
    rw [List.drop_eq_getElem_cons hi]
    unfold lcS lcL
    rw [nxS_src hx, List.getElem?_eq_getElem hi]
    simp only [h1, h2, noX_ok, Res.bind]
    cases b with
    | true =>
      obtain ⟨y, h4⟩ := h3 rfl
      simp only [h4, noX_ok, cond_true, Res.bind]
      rw [ih]
    | false => simp only [cond_false]; rw [ih]
/-- a comprehension whose parts do not change the objects -/
theorem lcR_pure {α : Type} {gm : GM} {t : TM} {m : EM} {e : En} {g : G} {s : Src} (c : α → D) (p : α → Bool) (f : α → D) (xs : List α) (hx : srcL g s = some (xs.map c)) (hl : okL xs.length = true) (h : ∀ x ∈ xs, ∃ e', gm (c x) g e = some e' ∧ t e' g = .ok (p x) g ∧ (p x = true → m e' g = .ok (f x) g)) :
    lcR gm t m s e g = .ok ((xs.filter p).map f) g := by
  have key := lcL_pure c p f xs h
  unfold lcR
  cases s with
  | vals ys =>
    cases hx
    simp only [List.length_map, hl]
    exact key
  | obj l =>
    have h2 : ∀ z ∈ xs.map c, ∃ e' b, gm z g e = some e' ∧ t e' g = .ok b g ∧ (b = true → ∃ y, m e' g = .ok y g) := fun z hz => by
      obtain ⟨x, hx, rfl⟩ := List.mem_map.mp hz
      obtain ⟨e', a1, a2, a3⟩ := h x hx
      exact ⟨e', p x, a1, a2, fun q => ⟨_, a3 q⟩⟩
    have k2 := lcS_pure (ys := []) hx (xs.map c).length 0 rfl h2
    simp only [srcL_obj hx, List.length_map, hl]
    rw [List.length_map] at k2
    rw [k2]
    exact key
/-! #### the law's tape -/
def tapeB : SM := (sSeq (sAsg 1 (vLstO aNil))
    (sSeq (sFor (iRng1 (vCB lenD (aCons (vVar 0) aNil))) (gN 2) (sSeq (sAsg 3 (vCB absD (aCons (vCB intD (aCons (vOp ixD (vVar 0) (vVar 2)) aNil)) aNil)))
    (sIf (tOf (vOp geD (vVar 3) (vOp powD (vC (.int 10)) (vC (.int 18))))) (sFor (iRng1 (vC (.int 60))) (gN 4) (sIf (tOf (vOp gtD (vVar 3) (vC (.int 0)))) (sSeq (sDrop (vApp (vVar 1) (vOp modD (vVar 3) (vC (.int 1000)))))
    (sAsg 3 (vOp divD (vVar 3) (vC (.int 1000))))) sNx)) (sFor (iRng1 (vC (.int 4))) (gN 4) (sSeq (sAsg 3 (vOp modD (vOp addD (vOp addD (vOp mulD (vVar 3) (vC (.int 48271))) (vOp mulD (vC (.int 69621)) (vOp addD (vVar 2) (vC (.int 1))))) (vOp mulD (vC (.int 7)) (vVar 4))) (vC (.int 2147483647))))
    (sSeq (sAsg 3 (vOp modD (vOp mulD (vVar 3) (vC (.int 16807))) (vC (.int 2147483647))))
    (sDrop (vApp (vVar 1) (vOp modD (vOp divD (vVar 3) (vC (.int 1000))) (vC (.int 1000)))))))))))
    (sRet (vFrz (vVar 1)))))
def Nice (T : List Int) : Prop := ∀ t ∈ T, 0 ≤ t ∧ t < 1000
/-- between two turns -/
def TP (ns : List Int) (l m : Nat) (e : En) (g0 g : G) : Prop := ∃ (T : List Int) (a b c : Option D), e = [some (.scr (ns.map D.int)), some (.ref l), a, b, c] ∧ g = g0 ++ [.lst (T.map D.int)] ∧ l = g0.length ∧ Nice T ∧ T.length ≤ m
theorem get_snoc' {g0 : G} {o : Ob} : (g0 ++ [o])[g0.length]? = some o := by
  rw [List.getElem?_append_right (Nat.le_refl _), Nat.sub_self]; rfl
theorem set_snoc' {g0 : G} {o o' : Ob} : (g0 ++ [o]).set g0.length o' = g0 ++ [o'] := by
  rw [List.set_append_right _ _ (Nat.le_refl _), Nat.sub_self]; rfl
theorem app_tape {e : En} {g0 : G} {T : List Int} {t : Int} {m : EM} {o : EM} (ho : o e (g0 ++ [.lst (T.map D.int)]) = .ok (.ref g0.length) (g0 ++ [.lst (T.map D.int)])) (hm : m e (g0 ++ [.lst (T.map D.int)]) = .ok (.int t) (g0 ++ [.lst (T.map D.int)])) (hl : ltL T.length = true) :
    vApp o m e (g0 ++ [.lst (T.map D.int)]) = .ok .non (g0 ++ [.lst ((T ++ [t]).map D.int)]) := by
  unfold vApp
  rw [ho]
  simp only [Res.bind, lsD_ref get_snoc', hm, get_snoc', List.length_map, hl, set_snoc', List.map_append, List.map_cons, List.map_nil]
theorem nice_snoc {T : List Int} (h : Nice T) {t : Int} (h0 : 0 ≤ t) (h1 : t < 1000) : Nice (T ++ [t]) := fun x hx => by
  rcases List.mem_append.mp hx with hx | hx
  · exact h x hx
  · simp at hx; subst hx; exact ⟨h0, h1⟩
theorem atI_ints (ns : List Int) {j : Nat} (h : j < ns.length) : atI (ns.map D.int) (j : Int) = some (.int ns[j]) := atI_nat (by simp [h])
theorem tape_in1 {ns : List Int} {g0 : G} {m0 j : Nat} {T : List Int} {x : Int} {c : Option D} (hT : Nice T) (hl : T.length ≤ m0) (hm : m0 < 10000) (hx : 0 ≤ x) :
    StepOK (loopL (gN 4) (sIf (tOf (vOp gtD (vVar 3) (vC (.int 0)))) (sSeq (sDrop (vApp (vVar 1) (vOp modD (vVar 3) (vC (.int 1000))))) (sAsg 3 (vOp divD (vVar 3) (vC (.int 1000))))) sNx) (rngL 0 60) [some (.scr (ns.map D.int)), some (.ref g0.length), some (.int j), some (.int x), c] (g0 ++ [.lst (T.map D.int)]))
      (TP ns g0.length (m0 + 60) · g0 ·) (fun _ => False) := by
  refine for_rng (Q := fun r => StepOK r (TP ns g0.length (m0 + 60) · g0 ·) (fun _ => False)) (fun i e g => ∃ (T : List Int) (x : Int) (c : Option D), e = [some (.scr (ns.map D.int)), some (.ref g0.length), some (.int j), some (.int x), c] ∧ g = g0 ++ [.lst (T.map D.int)] ∧ Nice T ∧ T.length ≤ m0 + i ∧ 0 ≤ x) ⟨T, x, c, rfl, rfl, hT, hl, hx⟩ ?_ ?_
  · rintro i e g hi ⟨T, x, c, rfl, rfl, hT, hl, hx⟩
    refine ⟨_, rfl, ?_⟩
    by_cases h0 : 0 < x
    · have e1 := app_tape (e := [some (.scr (ns.map D.int)), some (.ref g0.length), some (.int j), some (.int x), some (.int (i : Int))]) (g0 := g0) (T := T) (t := x % 1000) (m := vOp modD (vVar 3) (vC (.int 1000))) (o := vVar 1) rfl rfl (ltL_of (by omega))
      simp only [sIf, tOf, vOp, vVar, vC, Res.bind, sBind, List.set, List.getElem?_cons_zero, List.getElem?_cons_succ, gtD, icD, oR_some, bR_bl, h0, decide_true, cond_true, sSeq, sDrop] at e1 ⊢
      rw [e1]
      refine ⟨T ++ [x % 1000], x / 1000, some (.int i), rfl, rfl, nice_snoc hT (by omega) (by omega), by simp; omega, by omega⟩
    · simp only [sIf, tOf, vOp, vVar, vC, Res.bind, sBind, List.set, List.getElem?_cons_zero, List.getElem?_cons_succ, gtD, icD, oR_some, bR_bl, h0, decide_false, cond_false]
      exact ⟨T, x, some (.int i), rfl, rfl, hT, by omega, hx⟩
  · rintro e g ⟨T, x, c, rfl, rfl, hT, hl, hx⟩
    exact ⟨T, _, _, _, rfl, rfl, rfl, hT, hl⟩
theorem tape_in2 {ns : List Int} {g0 : G} {m0 j : Nat} {T : List Int} {x : Int} {c : Option D} (hT : Nice T) (hl : T.length ≤ m0) (hm : m0 < 10000) :
    StepOK (loopL (gN 4) (sSeq (sAsg 3 (vOp modD (vOp addD (vOp addD (vOp mulD (vVar 3) (vC (.int 48271))) (vOp mulD (vC (.int 69621)) (vOp addD (vVar 2) (vC (.int 1))))) (vOp mulD (vC (.int 7)) (vVar 4))) (vC (.int 2147483647))))
    (sSeq (sAsg 3 (vOp modD (vOp mulD (vVar 3) (vC (.int 16807))) (vC (.int 2147483647))))
    (sDrop (vApp (vVar 1) (vOp modD (vOp divD (vVar 3) (vC (.int 1000))) (vC (.int 1000))))))) (rngL 0 4) [some (.scr (ns.map D.int)), some (.ref g0.length), some (.int j), some (.int x), c] (g0 ++ [.lst (T.map D.int)]))
      (TP ns g0.length (m0 + 60) · g0 ·) (fun _ => False) := by
  refine for_rng (Q := fun r => StepOK r (TP ns g0.length (m0 + 60) · g0 ·) (fun _ => False)) (fun i e g => ∃ (T : List Int) (x : Int) (c : Option D), e = [some (.scr (ns.map D.int)), some (.ref g0.length), some (.int j), some (.int x), c] ∧ g = g0 ++ [.lst (T.map D.int)] ∧ Nice T ∧ T.length ≤ m0 + i) ⟨T, x, c, rfl, rfl, hT, hl⟩ ?_ ?_
  · rintro i e g hi ⟨T, x, c, rfl, rfl, hT, hl⟩
    refine ⟨_, rfl, ?_⟩
    generalize hy : ((x * 48271 + 69621 * ((j : Int) + 1) + 7 * (i : Int)) % 2147483647) * 16807 % 2147483647 = y
    have y0 : 0 ≤ y := by omega
    have e1 := app_tape (e := [some (.scr (ns.map D.int)), some (.ref g0.length), some (.int j), some (.int y), some (.int (i : Int))]) (g0 := g0) (T := T) (t := y / 1000 % 1000) (m := vOp modD (vOp divD (vVar 3) (vC (.int 1000))) (vC (.int 1000))) (o := vVar 1) rfl rfl (ltL_of (by omega))
    have b1 : mB x 48271 = true := mB_r (by decide) (by decide)
    have b2 : mB 69621 ((j : Int) + 1) = true := mB_l (by decide) (by decide)
    have b3 : mB 7 (i : Int) = true := mB_l (by decide) (by decide)
    have b4 : ∀ z : Int, mB z 16807 = true := fun z => mB_r (by decide) (by decide)
    have b5 : pB 2147483647 = true := rfl
    simp only [sAsg, vOp, vVar, vC, Res.bind, sBind, List.set, List.getElem?_cons_zero, List.getElem?_cons_succ, mulD, addD, modD, oR_some, b1, b2, b3, b4, b5, sSeq, sDrop, hy] at e1 ⊢
    rw [e1]
    exact ⟨T ++ [y / 1000 % 1000], y, some (.int i), rfl, rfl, nice_snoc hT (by omega) (by omega), by simp; omega⟩
  · rintro e g ⟨T, x, c, rfl, rfl, hT, hl⟩
    exact ⟨T, _, _, _, rfl, rfl, rfl, hT, by omega⟩
theorem vLstO_nil {e : En} {g : G} : vLstO aNil e g = .ok (.ref g.length) (g ++ [.lst []]) := by
  rfl
theorem tape_ok (ns : List Int) (hn : ns.length ≤ 63) (g : G) : ∃ T : List Int, Nice T ∧ T.length ≤ 3780 ∧ fnM 1 5 tapeB [.scr (ns.map D.int)] g = .ok (.lst (T.map D.int)) (g ++ [.dead]) := by
  have key : ∃ T : List Int, Nice T ∧ T.length ≤ 3780 ∧ tapeB [some (.scr (ns.map D.int)), none, none, none, none] g = .rt (.lst (T.map D.int)) (g ++ [.dead]) := by
    unfold tapeB
    simp only [sSeq, sAsg, vLstO_nil, sBind, List.set, sFor, iRng1, vCB, aCons, vVar, List.getElem?_cons_zero, lenD, itD, oR_some, List.length_map, aNil, Res.bind]
    simp only [rB_of (show -1000000000 ≤ (ns.length : Int) by omega) (show (ns.length : Int) ≤ 1000000000 by omega), sBind, runS, Int.toNat_natCast]
    refine for_rng (Q := fun r => ∃ T : List Int, Nice T ∧ T.length ≤ 3780 ∧ (match r with
      | .nx e' g' => sRet (vFrz (vVar 1)) e' g'
      | r => r) = .rt (.lst (T.map D.int)) (g ++ [.dead])) (fun j e g' => TP ns g.length (60 * j) e g g') ⟨[], _, _, _, rfl, rfl, rfl, fun _ h => (by cases h), Nat.le_refl _⟩ ?_ ?_
    · rintro j e g' hj ⟨T, a, b, c, rfl, rfl, _, hT, hl⟩
      refine ⟨_, rfl, ?_⟩
      have imp : ∀ {r : SR}, StepOK r (TP ns g.length (60 * j + 60) · g ·) (fun _ => False) → StepOK r (fun e g' => TP ns g.length (60 * (j + 1)) e g g') (fun r => ∃ T : List Int, Nice T ∧ T.length ≤ 3780 ∧ (match r with
        | .nx e' g' => sRet (vFrz (vVar 1)) e' g'
        | r => r) = .rt (.lst (T.map D.int)) (g ++ [.dead])) := by
        intro r h
        rw [show 60 * (j + 1) = 60 * j + 60 by omega]
        cases r with
        | nx e g => exact h
        | ct e g => exact h
        | _ => exact h.elim
      simp only [sSeq, sAsg, vOp, vVar, vC, Res.bind, sBind, List.set, List.getElem?_cons_zero, List.getElem?_cons_succ, vCB, aCons, aNil, ixD, itD, atI_ints ns hj, oR_some, intD, absD, sIf, tOf, powD]
      generalize hx : (if ns[j] < 0 then -ns[j] else ns[j]) = x
      have x0 : 0 ≤ x := by subst hx; split <;> omega
      simp only [show wB 10 18 = true from rfl, oR_some, geD, icD, Res.bind, bR_bl, sBind]
      generalize (10 : Int) ^ (18 : Int).toNat = N
      have t60 : (60 : Int).toNat = 60 := rfl
      have t4 : (4 : Int).toNat = 4 := rfl
      have c60 : rB 60 = true := rfl
      have c4 : rB 4 = true := rfl
      by_cases hb : N ≤ x
      · simp only [decide_eq_true hb, cond_true, sFor, iRng1, vC, Res.bind, sBind, c60, runS, t60]
        exact imp (tape_in1 hT hl (by omega) x0)
      · simp only [decide_eq_false hb, cond_false, sFor, iRng1, vC, Res.bind, sBind, c4, runS, t4]
        exact imp (tape_in2 hT hl (by omega))
    · rintro e g' ⟨T, a, b, c, rfl, rfl, _, hT, hl⟩
      refine ⟨T, hT, by omega, ?_⟩
      simp only [sRet, vFrz, vVar, List.getElem?_cons_zero, List.getElem?_cons_succ, Res.bind, sBind, frzD, get_snoc', set_snoc']
  obtain ⟨T, h1, h2, h3⟩ := key
  refine ⟨T, h1, h2, ?_⟩
  show (if [D.scr (ns.map D.int)].length = 1 then endM (tapeB [some (.scr (ns.map D.int)), none, none, none, none] g) else Res.stuck) = _
  rw [h3]
  rfl
/-! #### equations for simp -/
section
variable {e : En} {g : G} {a b c : EM} {t t' : TM} {m m' : SM} {ms : AM}
@[simp] theorem vVar_e {i : Nat} : vVar i e g = (match e[i]? with
  | some (some d) => .ok d g
  | _ => .stuck) := rfl
@[simp] theorem vC_e {d : D} : vC d e g = .ok d g := rfl
@[simp] theorem vUn_e {o : G → D → Option D} : vUn o a e g = (a e g).bind fun x g1 => oR (o g1 x) g1 := rfl
@[simp] theorem vOp_e {o : OpT} : vOp o a b e g = (a e g).bind fun x g1 => (b e g1).bind fun y g2 => oR (o g2 x y) g2 := rfl
@[simp] theorem tOf_e : tOf a e g = (a e g).bind bR := rfl
@[simp] theorem tAnd_e : tAnd t t' e g = (t e g).bind fun c g1 => bif c then t' e g1 else .ok false g1 := rfl
@[simp] theorem tOr_e : tOr t t' e g = (t e g).bind fun c g1 => bif c then .ok true g1 else t' e g1 := rfl
@[simp] theorem tNot_e : tNot t e g = (t e g).bind fun c g1 => .ok (!c) g1 := rfl
@[simp] theorem vAnd_e : vAnd a b e g = (a e g).bind fun d g1 => (bR d g1).bind fun c g2 => bif c then b e g2 else .ok (.bl false) g2 := rfl
@[simp] theorem vOr_e : vOr a b e g = (a e g).bind fun d g1 => (bR d g1).bind fun c g2 => bif c then .ok (.bl true) g2 else b e g2 := rfl
@[simp] theorem vNot_e : vNot a e g = (a e g).bind fun d g1 => (bR d g1).bind fun c g2 => .ok (.bl (!c)) g2 := rfl
@[simp] theorem vIf_e : vIf t a b e g = (t e g).bind fun c g1 => bif c then a e g1 else b e g1 := rfl
@[simp] theorem vChain_e {o o' : OpT} : vChain o o' a b c e g = (a e g).bind fun x g1 => (b e g1).bind fun y g2 => (oR (o g2 x y) g2).bind fun z g3 => (bR z g3).bind fun k g4 => bif k then (c e g4).bind fun w g5 => oR (o' g5 y w) g5 else .ok (.bl false) g4 := rfl
@[simp] theorem tTru_e : tTru a e g = (a e g).bind fun d g1 => match truD g1 d with
  | some b => .ok b g1
  | none => .stuck := rfl
@[simp] theorem aNil_e : aNil e g = .ok [] g := rfl
@[simp] theorem aCons_e : aCons a ms e g = (a e g).bind fun d g1 => (ms e g1).bind fun ds g2 => .ok (d :: ds) g2 := rfl
@[simp] theorem vCB_e {o : G → List D → Option D} : vCB o ms e g = (ms e g).bind fun ds g1 => oR (o g1 ds) g1 := rfl
@[simp] theorem vCall_e {f : MF} : vCall f ms e g = (ms e g).bind f := rfl
@[simp] theorem sNx_e : sNx e g = .nx e g := rfl
@[simp] theorem sSeq_e : sSeq m m' e g = (match m e g with
  | .nx e' g' => m' e' g'
  | r => r) := rfl
@[simp] theorem sAsg_e {i : Nat} : sAsg i a e g = sBind (a e g) e fun d g1 => .nx (e.set i (some d)) g1 := rfl
@[simp] theorem sDrop_e : sDrop a e g = sBind (a e g) e fun _ g1 => .nx e g1 := rfl
@[simp] theorem sRet_e : sRet a e g = sBind (a e g) e fun d g1 => .rt d g1 := rfl
@[simp] theorem sIf_e : sIf t m m' e g = sBind (t e g) e fun c g1 => bif c then m e g1 else m' e g1 := rfl
@[simp] theorem sFor_e {im : IM} {gm : GM} : sFor im gm m e g = sBind (im e g) e fun s g1 => runS gm m s e g1 := rfl
@[simp] theorem gN_e {i : Nat} {d : D} : gN i d g e = some (e.set i (some d)) := rfl
@[simp] theorem tYes_e : tYes e g = .ok true g := rfl
@[simp] theorem vLc_e {own : List Nat} {im : IM} {gm : GM} : vLc own im gm t a e g = (im e g).bind fun s g1 => (lcR gm t a s (wipeE e own) g1).bind fun ys g2 => .ok (.lst ys) g2 := rfl
@[simp] theorem vLcO_e {own : List Nat} {im : IM} {gm : GM} : vLcO own im gm t a e g = (im e g).bind fun s g1 => (lcR gm t a s (wipeE e own) g1).bind fun ys g2 => .ok (.ref g2.length) (g2 ++ [.lst ys]) := rfl
@[simp] theorem wipeE_nil : wipeE e [] = e := rfl
@[simp] theorem wipeE_cons {i : Nat} {is : List Nat} : wipeE e (i :: is) = (wipeE e is).set i none := rfl
@[simp] theorem endM_rt {d : D} : endM (.rt d g) = .ok d g := rfl
@[simp] theorem endM_nx : endM (.nx e g) = .ok .non g := rfl
@[simp] theorem oR_none : oR none g = .stuck := rfl
@[simp] theorem addD_int {i j : Int} : addD g (.int i) (.int j) = some (.int (i + j)) := rfl
@[simp] theorem subD_int {i j : Int} : subD g (.int i) (.int j) = some (.int (i - j)) := rfl
@[simp] theorem icD_int {p : Int → Int → Bool} {i j : Int} : icD p g (.int i) (.int j) = some (.bl (p i j)) := rfl
@[simp] theorem isN_e {d : D} : isN g d .non = some (.bl (nonD d)) := rfl
@[simp] theorem notN_e {d : D} : notN g d .non = some (.bl (!nonD d)) := rfl
@[simp] theorem nonD_non : nonD .non = true := rfl
@[simp] theorem nonD_int {i : Int} : nonD (.int i) = false := rfl
@[simp] theorem nonD_bl {i : Bool} : nonD (.bl i) = false := rfl
@[simp] theorem nonD_str {i : Nat} : nonD (.str i) = false := rfl
@[simp] theorem nonD_tup {i : List D} : nonD (.tup i) = false := rfl
@[simp] theorem nonD_lst {i : List D} : nonD (.lst i) = false := rfl
@[simp] theorem nonD_ref {i : Nat} : nonD (.ref i) = false := rfl
@[simp] theorem deq_int {i j : Int} : deq (.int i) (.int j) = (i == j) := by simp only [deq]
@[simp] theorem deq_bl {i j : Bool} : deq (.bl i) (.bl j) = (i == j) := by simp only [deq]
@[simp] theorem deq_str {i j : Nat} : deq (.str i) (.str j) = (i == j) := by simp only [deq]
@[simp] theorem deq_non : deq .non .non = true := by simp only [deq]
@[simp] theorem deq_tup {i j : List D} : deq (.tup i) (.tup j) = deqs i j := by simp only [deq]
@[simp] theorem deq_lst {i j : List D} : deq (.lst i) (.lst j) = deqs i j := by simp only [deq]
@[simp] theorem deqs_nil : deqs [] [] = true := by simp only [deqs]
@[simp] theorem deqs_cons {x y : D} {i j : List D} : deqs (x :: i) (y :: j) = (deq x y && deqs i j) := by simp only [deqs]
@[simp] theorem deqs_cn {x : D} {i : List D} : deqs (x :: i) [] = false := by simp only [deqs]
@[simp] theorem deqs_nc {x : D} {i : List D} : deqs [] (x :: i) = false := by simp only [deqs]
@[simp] theorem pud_non {n : Nat} : pud n .non = true := by cases n <;> rfl
@[simp] theorem pud_int {n : Nat} {i : Int} : pud n (.int i) = true := by cases n <;> rfl
@[simp] theorem pud_bl {n : Nat} {i : Bool} : pud n (.bl i) = true := by cases n <;> rfl
@[simp] theorem pud_str {n : Nat} {i : Nat} : pud n (.str i) = true := by cases n <;> rfl
theorem pud_tup {n : Nat} {ds : List D} : pud (n + 1) (.tup ds) = ds.all (pud n) := rfl
theorem pud_lst {n : Nat} {ds : List D} : pud (n + 1) (.lst ds) = ds.all (pud n) := rfl
@[simp] theorem pud8_tup {ds : List D} : pud 8 (.tup ds) = ds.all (pud 7) := rfl
@[simp] theorem pud8_lst {ds : List D} : pud 8 (.lst ds) = ds.all (pud 7) := rfl
@[simp] theorem pud7_tup {ds : List D} : pud 7 (.tup ds) = ds.all (pud 6) := rfl
@[simp] theorem pud7_lst {ds : List D} : pud 7 (.lst ds) = ds.all (pud 6) := rfl
@[simp] theorem pud6_tup {ds : List D} : pud 6 (.tup ds) = ds.all (pud 5) := rfl
@[simp] theorem pud6_lst {ds : List D} : pud 6 (.lst ds) = ds.all (pud 5) := rfl
@[simp] theorem pud5_tup {ds : List D} : pud 5 (.tup ds) = ds.all (pud 4) := rfl
@[simp] theorem truD_bl {b : Bool} : truD g (.bl b) = some b := rfl
@[simp] theorem truD_non : truD g .non = some false := rfl
@[simp] theorem truD_tup {ds : List D} : truD g (.tup ds) = some (!ds.isEmpty) := rfl
@[simp] theorem truD_lst {ds : List D} : truD g (.lst ds) = some (!ds.isEmpty) := rfl
theorem eqD_e {x y : D} (h : (pud 8 (snap g x) && pud 8 (snap g y)) = true) : eqD g x y = some (.bl (deq (snap g x) (snap g y))) := by unfold eqD; rw [h]
theorem neD_e {x y : D} (h : (pud 8 (snap g x) && pud 8 (snap g y)) = true) : neD g x y = some (.bl (!deq (snap g x) (snap g y))) := by unfold neD; rw [h]
@[simp] theorem ixD_tup {ds : List D} {i : Int} : ixD g (.tup ds) (.int i) = atI ds i := rfl
@[simp] theorem ixD_lst {ds : List D} {i : Int} : ixD g (.lst ds) (.int i) = atI ds i := rfl
@[simp] theorem ixD_scr {ds : List D} {i : Int} : ixD g (.scr ds) (.int i) = atI ds i := rfl
@[simp] theorem lenD_tup {ds : List D} : lenD g [.tup ds] = some (.int ds.length) := rfl
@[simp] theorem lenD_lst {ds : List D} : lenD g [.lst ds] = some (.int ds.length) := rfl
@[simp] theorem lenD_scr {ds : List D} : lenD g [.scr ds] = some (.int ds.length) := rfl
theorem lsD_tup {ds : List D} : lsD g (.tup ds) = none := rfl
end
theorem modD_e {g : G} {i j : Int} (h : 0 < j) : modD g (.int i) (.int j) = some (.int (i % j)) := by unfold modD; simp only [pB_of h]
theorem divD_e {g : G} {i j : Int} (h : 0 < j) (h' : j < 1073741824) : divD g (.int i) (.int j) = some (.int (i / j)) := by unfold divD; simp only [dB_of h h']
theorem mulD_r {g : G} {i j : Int} (h : -1000000000000 ≤ j) (h' : j ≤ 1000000000000) : mulD g (.int i) (.int j) = some (.int (i * j)) := by unfold mulD; simp only [mB_r h h']
theorem mulD_l {g : G} {i j : Int} (h : -1000000000000 ≤ i) (h' : i ≤ 1000000000000) : mulD g (.int i) (.int j) = some (.int (i * j)) := by unfold mulD; simp only [mB_l h h']
theorem vTup_e {ms : AM} {e : En} {g g1 : G} {ds : List D} (h : ms e g = .ok ds g1) (hl : okL ds.length = true) : vTup ms e g = .ok (.tup ds) g1 := by unfold vTup; rw [h]; simp only [Res.bind, hl]
theorem vLst_e {ms : AM} {e : En} {g g1 : G} {ds : List D} (h : ms e g = .ok ds g1) (hl : okL ds.length = true) : vLst ms e g = .ok (.lst ds) g1 := by unfold vLst; rw [h]; simp only [Res.bind, hl]
theorem for_rng1 {m : EM} {e : En} {g g1 : G} {n : Int} (h : m e g = .ok (.int n) g1) (hl : -1000000000 ≤ n) (hu : n ≤ 1000000000) : iRng1 m e g = .ok (.vals (rngL 0 n.toNat)) g1 := by unfold iRng1; rw [h]; simp only [Res.bind, rB_of hl hu]
/-! #### the law's reader -/
def atB : SM := (sSeq (sIf (tOf (vOp ltD (vVar 1) (vCB lenD (aCons (vVar 0) aNil)))) (sRet (vOp ixD (vVar 0) (vVar 1))) sNx)
    (sRet (vC (.int 0))))
def tk (T : List Int) (k : Nat) : Int := T.getD k 0
theorem tk_nice {T : List Int} (h : Nice T) (k : Nat) : 0 ≤ tk T k ∧ tk T k < 1000 := by
  unfold tk
  rw [List.getD_eq_getElem?_getD]
  cases e : T[k]? with
  | none => simp
  | some x => exact h x (List.mem_of_getElem? e)
theorem at_ok (T : List Int) (k : Nat) (g : G) : fnM 2 2 atB [.lst (T.map D.int), .int (k : Int)] g = .ok (.int (tk T k)) g := by
  show endM (atB [some (.lst (T.map D.int)), some (.int (k : Int))] g) = _
  unfold atB tk
  by_cases h : k < T.length
  · simp [h, atI_ints T h, List.getD_eq_getElem?_getD, List.getElem?_eq_getElem h]
  · simp [h, List.getD_eq_getElem?_getD, List.getElem?_eq_none (Nat.not_lt.mp h)]
end Y

set_option Elab.async false
set_option linter.all false
set_option maxRecDepth 100000
namespace Y
open PySem L2
/-! ### plain: more -/
theorem meth_e {nm : Nat} {tbl : List (Nat × MF)} {o : EM} {ms : AM} {e : En} {g g1 g2 : G} {l c : Nat} {fs : List (Nat × D)} {mf : MF} {ds : List D} (ho : o e g = .ok (.ref l) g1) (hg : g1[l]? = some (.ins c fs)) (hn : lkA nm fs = none) (hm : lkM c tbl = some mf) (ha : ms e g1 = .ok ds g2) : vMeth nm tbl o ms e g = mf (.ref l :: ds) g2 := by
  unfold vMeth
  simp only [ho, Res.bind, hg, hn, hm, ha]
/-- the source of a list by its value -/
theorem iLst_of {m : EM} {e : En} {g : G} {d : D} {xs : List D} (hm : m e g = .ok d g) (h : lsD g d = some xs) : ∃ s, iLst m e g = .ok s g ∧ srcL g s = some xs := by
  unfold iLst
  rw [hm]
  cases d with
  | lst ys => cases h; exact ⟨_, rfl, rfl⟩
  | ref l =>
    cases z : g[l]? with
    | none => rw [lsD, snap_ref, z] at h; cases h
    | some o =>
      rw [lsD, snap_ref, z] at h
      cases o with
      | lst ds =>
        cases h
        refine ⟨.obj l, ?_, ?_⟩
        · simp only [Res.bind, z]
        · unfold srcL; simp only [z]
      | _ => cases h
  | _ => cases h
theorem fldD_e {cs : List Nat} {n : Nat} {g : G} {l c : Nat} {fs : List (Nat × D)} {d : D} (h : g[l]? = some (.ins c fs)) (hc : cs.contains c = true) (hl : lkA n fs = some d) : fldD cs n g (.ref l) = some d := by
  unfold fldD
  simp only [h, hc, hl]
theorem setA_e {cs : List Nat} {n : Nat} {o m : EM} {e : En} {g g1 g2 : G} {l c : Nat} {fs : List (Nat × D)} {y : D} (hm : m e g = .ok y g1) (ho : o e g1 = .ok (.ref l) g2) (h : g2[l]? = some (.ins c fs)) (hc : cs.contains c = true) (hl : fs.length < 1000) : sSetA cs n o m e g = .nx e (g2.set l (.ins c (putA n y fs))) := by
  unfold sSetA
  simp only [hm, sBind, ho, h, hc, Bool.true_and, decide_eq_true hl]
theorem app_e {o m : EM} {e : En} {g g1 g2 : G} {l : Nat} {ds ds' : List D} {y : D} (ho : o e g = .ok (.ref l) g1) (h1 : g1[l]? = some (.lst ds')) (hm : m e g1 = .ok y g2) (h : g2[l]? = some (.lst ds)) (hl : ds.length < 16777216) : vApp o m e g = .ok .non (g2.set l (.lst (ds ++ [y]))) := by
  unfold vApp
  simp only [ho, Res.bind, lsD_ref h1, hm, h, ltL_of hl]
@[simp] theorem isiD_non {t : Ty} {g : G} : isiD t g .non = some (.bl (Ty.non.sub t)) := rfl
@[simp] theorem isiD_bl {t : Ty} {g : G} {b : Bool} : isiD t g (.bl b) = some (.bl (Ty.bool.sub t)) := rfl
@[simp] theorem isiD_int {t : Ty} {g : G} {b : Int} : isiD t g (.int b) = some (.bl (Ty.int.sub t)) := rfl
@[simp] theorem isiD_str {t : Ty} {g : G} {b : Nat} : isiD t g (.str b) = some (.bl (Ty.str.sub t)) := rfl
@[simp] theorem isiD_tup {t : Ty} {g : G} {b : List D} : isiD t g (.tup b) = some (.bl (Ty.tuple.sub t)) := rfl
@[simp] theorem isiD_lst {t : Ty} {g : G} {b : List D} : isiD t g (.lst b) = some (.bl (Ty.list.sub t)) := rfl
theorem isiD_of {t : Ty} {g : G} {d : D} {ds : List D} (h : lsD g d = some ds) : isiD t g d = some (.bl (Ty.list.sub t)) := by
  unfold isiD tyD
  rw [snap_of h]
@[simp] theorem sub_nt : Ty.non.sub .tuple = false := rfl
@[simp] theorem sub_nl : Ty.non.sub .list = false := rfl
@[simp] theorem sub_ni : Ty.non.sub .int = false := rfl
@[simp] theorem sub_nb : Ty.non.sub .bool = false := rfl
@[simp] theorem sub_ns : Ty.non.sub .str = false := rfl
@[simp] theorem sub_bt : Ty.bool.sub .tuple = false := rfl
@[simp] theorem sub_bl : Ty.bool.sub .list = false := rfl
@[simp] theorem sub_bi : Ty.bool.sub .int = true := rfl
@[simp] theorem sub_bb : Ty.bool.sub .bool = true := rfl
@[simp] theorem sub_bs : Ty.bool.sub .str = false := rfl
@[simp] theorem sub_it : Ty.int.sub .tuple = false := rfl
@[simp] theorem sub_il : Ty.int.sub .list = false := rfl
@[simp] theorem sub_ii : Ty.int.sub .int = true := rfl
@[simp] theorem sub_ib : Ty.int.sub .bool = false := rfl
@[simp] theorem sub_is : Ty.int.sub .str = false := rfl
@[simp] theorem sub_st : Ty.str.sub .tuple = false := rfl
@[simp] theorem sub_sl : Ty.str.sub .list = false := rfl
@[simp] theorem sub_si : Ty.str.sub .int = false := rfl
@[simp] theorem sub_sb : Ty.str.sub .bool = false := rfl
@[simp] theorem sub_ss : Ty.str.sub .str = true := rfl
@[simp] theorem sub_tt : Ty.tuple.sub .tuple = true := rfl
@[simp] theorem sub_tl : Ty.tuple.sub .list = false := rfl
@[simp] theorem sub_ti : Ty.tuple.sub .int = false := rfl
@[simp] theorem sub_tb : Ty.tuple.sub .bool = false := rfl
@[simp] theorem sub_ts : Ty.tuple.sub .str = false := rfl
@[simp] theorem sub_lt : Ty.list.sub .tuple = false := rfl
@[simp] theorem sub_ll : Ty.list.sub .list = true := rfl
@[simp] theorem sub_li : Ty.list.sub .int = false := rfl
@[simp] theorem sub_lb : Ty.list.sub .bool = false := rfl
@[simp] theorem sub_ls : Ty.list.sub .str = false := rfl
@[simp] theorem sRaise_e {c : Nat} {e : En} {g : G} : sRaise c e g = .exn c e g := rfl
@[simp] theorem endM_exn {c : Nat} {e : En} {g : G} : endM (.exn c e g) = .exn c g := rfl
@[simp] theorem sCat_e {c : Nat} {m : SM} {e : En} {g : G} : sCat c m e g = (match m e g with
  | .exn c' _ g' => if c' = c then .rt (.lst [.bl true]) g' else .stuck
  | r => r) := rfl
@[simp] theorem negD_int {g : G} {i : Int} : negD g (.int i) = some (.int (-i)) := rfl
theorem deqs_refl : ∀ (ds : List D), (∀ d ∈ ds, deq d d = true) → deqs ds ds = true
  | [], _ => by simp
  | d :: ds, h => by simp [h d List.mem_cons_self, deqs_refl ds fun x hx => h x (List.mem_cons_of_mem _ hx)]
theorem deq_refl : ∀ (n : Nat) (d : D), pud n d = true → deq d d = true
  | 0, d, h => by cases d <;> simp_all [pud]
  | n + 1, d, h => by
    cases d with
    | tup ds =>
      rw [pud_tup, List.all_eq_true] at h
      rw [deq_tup]
      exact deqs_refl ds fun x hx => deq_refl n x (h x hx)
    | lst ds =>
      rw [pud_lst, List.all_eq_true] at h
      rw [deq_lst]
      exact deqs_refl ds fun x hx => deq_refl n x (h x hx)
    | scr _ => cases h
    | ref _ => cases h
    | rng _ _ => cases h
    | dic _ _ => cases h
    | _ => simp
theorem eq_same {g : G} {x y d : D} (hx : snap g x = d) (hy : snap g y = d) (h : pud 8 d = true) : eqD g x y = some (.bl true) := by
  rw [eqD_e (by rw [hx, hy, h]; rfl), hx, hy, deq_refl 8 d h]
theorem ne_same {g : G} {x y d : D} (hx : snap g x = d) (hy : snap g y = d) (h : pud 8 d = true) : neD g x y = some (.bl false) := by
  rw [neD_e (by rw [hx, hy, h]; rfl), hx, hy, deq_refl 8 d h]
  rfl
theorem pud_mono : ∀ (n : Nat) (d : D), pud n d = true → pud (n + 1) d = true
  | 0, d, h => by cases d <;> simp_all [pud]
  | n + 1, d, h => by
    cases d with
    | tup ds =>
      rw [pud_tup, List.all_eq_true] at h ⊢
      exact fun x hx => pud_mono n x (h x hx)
    | lst ds =>
      rw [pud_lst, List.all_eq_true] at h ⊢
      exact fun x hx => pud_mono n x (h x hx)
    | scr _ => cases h
    | ref _ => cases h
    | rng _ _ => cases h
    | dic _ _ => cases h
    | _ => simp
theorem all_pud {α : Type} {n : Nat} {f : α → D} (xs : List α) (h : ∀ x, pud n (f x) = true) : (xs.map f).all (pud n) = true := by
  rw [List.all_eq_true]
  intro d hd
  obtain ⟨x, _, rfl⟩ := List.mem_map.mp hd
  exact h x
theorem okL_e {n : Nat} (h : n < 16777216) : okL n = true := okL_of (by omega)
/-- a comprehension over range(n) -/
theorem lcR_rng {gm : GM} {t : TM} {m : EM} {e : En} {g : G} (n : Nat) (p : Nat → Bool) (f : Nat → D) (hn : n ≤ 1000000) (h : ∀ i, i < n → ∃ e', gm (.int (i : Int)) g e = some e' ∧ t e' g = .ok (p i) g ∧ (p i = true → m e' g = .ok (f i) g)) :
    lcR gm t m (.vals (rngL 0 n)) e g = .ok (((List.range n).filter p).map f) g := by
  have := lcR_pure (gm := gm) (t := t) (m := m) (e := e) (g := g) (s := .vals (rngL 0 n)) (fun i : Nat => D.int (0 + (i : Int))) p f (List.range n) rfl (okL_of (by simp; omega)) (fun i hi => by
    obtain ⟨e', h1, h2, h3⟩ := h i (List.mem_range.mp hi)
    exact ⟨e', by rw [Int.zero_add]; exact h1, h2, h3⟩)
  exact this
theorem cut1 (xs : List D) : cutD xs (some 1) none = xs.drop 1 := by
  unfold cutD
  have e1 : HT.sIx xs.length 0 (some 1) = min 1 xs.length := HT.sIx_nat xs.length 0 1
  have e2 : HT.sIx xs.length xs.length none = xs.length := HT.sIx_none _ _
  rw [e1, e2, List.take_of_length_le (by simp)]
  cases xs with
  | nil => rfl
  | cons x xs => simp [Nat.min_eq_left]
@[simp] theorem bls_nil : bls [] = some [] := rfl
@[simp] theorem bls_cons {b : Bool} {r : List D} : bls (.bl b :: r) = (bls r).map (b :: ·) := rfl
theorem bls_map : ∀ bs : List Bool, bls (bs.map D.bl) = some bs
  | [] => rfl
  | b :: bs => by simp [bls_map bs]
theorem allD_e {g : G} {bs : List Bool} : allD g [.lst (bs.map D.bl)] = some (.bl (bs.all id)) := by
  unfold allD
  simp only [lsD_lst, bls_map]
  rfl
theorem anyD_e {g : G} {bs : List Bool} : anyD g [.lst (bs.map D.bl)] = some (.bl (bs.any id)) := by
  unfold anyD
  simp only [lsD_lst, bls_map]
  rfl
/-! #### running by simp -/
theorem seq_rng {im : IM} {gm : GM} {b m : SM} {e : En} {g : G} {n : Nat} {Q : SR → Prop} (P : Nat → En → G → Prop) (hi : im e g = .ok (.vals (rngL 0 n)) g) (h0 : P 0 e g)
    (hs : ∀ j e g, j < n → P j e g → ∃ e', gm (.int (j : Int)) g e = some e' ∧ StepOK (b e' g) (P (j + 1)) (fun r => Q (match r with
    | .nx e' g' => m e' g'
    | r => r))) (hd : ∀ e g, P n e g → Q (m e g)) : Q (sSeq (sFor im gm b) m e g) := by
  simp only [sSeq_e, sFor_e, hi, sBind, runS]
  exact for_rng (Q := fun r => Q (match r with
    | .nx e' g' => m e' g'
    | r => r)) P h0 hs hd
theorem rng_of {m : EM} {e : En} {g : G} {n : Nat} (h : m e g = .ok (.int (n : Int)) g) (hn : n ≤ 1000000) : iRng1 m e g = .ok (.vals (rngL 0 n)) g := by
  have := for_rng1 h (by omega) (by omega)
  simpa using this
theorem atI_mem {ds : List D} {i : Int} (h0 : 0 ≤ i) (h1 : i < ds.length) : ∃ d, atI ds i = some d ∧ d ∈ ds := by
  obtain ⟨n, rfl⟩ := Int.eq_ofNat_of_zero_le h0
  have h2 : n < ds.length := by omega
  exact ⟨_, atI_nat (List.getElem?_eq_getElem h2), List.getElem_mem h2⟩
theorem neD_u {g : G} {x y : D} : neD g x y = (match pud 8 (snap g x) && pud 8 (snap g y) with
  | true => some (.bl (!deq (snap g x) (snap g y)))
  | false => none) := rfl
theorem eqD_u {g : G} {x y : D} : eqD g x y = (match pud 8 (snap g x) && pud 8 (snap g y) with
  | true => some (.bl (deq (snap g x) (snap g y)))
  | false => none) := rfl
theorem make_e {c : Nat} {mf : MF} {a : AM} {e : En} {g g1 g2 : G} {ds : List D} (ha : a e g = .ok ds g1) (hm : mf (.ref g1.length :: ds) (g1 ++ [.ins c []]) = .ok .non g2) : vMake c mf a e g = .ok (.ref g1.length) g2 := by
  unfold vMake
  simp only [ha, Res.bind, hm]
theorem okL_s {n : Nat} (h : n < 1000) : okL n = true := okL_of (by omega)
theorem vTup_s {ms : AM} {e : En} {g : G} : vTup ms e g = (ms e g).bind fun ds g1 => match okL ds.length with
  | true => .ok (.tup ds) g1
  | false => .stuck := rfl
theorem vLst_s {ms : AM} {e : En} {g : G} : vLst ms e g = (ms e g).bind fun ds g1 => match okL ds.length with
  | true => .ok (.lst ds) g1
  | false => .stuck := rfl
theorem fnM_s {n N : Nat} {m : SM} {ds : List D} {g : G} : fnM n N m ds g = if ds.length = n then endM (m (ds.map some ++ List.replicate (N - ds.length) none) g) else .stuck := rfl
theorem ne_int {g : G} {i j : Int} : neD g (.int i) (.int j) = some (.bl (!(i == j))) := by rw [neD_e (by simp)]; simp
theorem eq_int {g : G} {i j : Int} : eqD g (.int i) (.int j) = some (.bl (i == j)) := by rw [eqD_e (by simp)]; simp
theorem eq_str {g : G} {i j : Nat} : eqD g (.str i) (.str j) = some (.bl (i == j)) := by rw [eqD_e (by simp)]; simp
theorem ne_str {g : G} {i j : Nat} : neD g (.str i) (.str j) = some (.bl (!(i == j))) := by rw [neD_e (by simp)]; simp
theorem ne_bl {g : G} {i j : Bool} : neD g (.bl i) (.bl j) = some (.bl (!(i == j))) := by rw [neD_e (by simp)]; simp
theorem eq_bl {g : G} {i j : Bool} : eqD g (.bl i) (.bl j) = some (.bl (i == j)) := by rw [eqD_e (by simp)]; simp
theorem at0 {a : D} {r : List D} : atI (a :: r) 0 = some a := atI_nat (j := 0) rfl
theorem at1 {a b : D} {r : List D} : atI (a :: b :: r) 1 = some b := atI_nat (j := 1) rfl
theorem at2 {a b c : D} {r : List D} : atI (a :: b :: c :: r) 2 = some c := atI_nat (j := 2) rfl
theorem at3 {a b c d : D} {r : List D} : atI (a :: b :: c :: d :: r) 3 = some d := atI_nat (j := 3) rfl
theorem at4 {a b c d e : D} {r : List D} : atI (a :: b :: c :: d :: e :: r) 4 = some e := atI_nat (j := 4) rfl
theorem pud_le {n k : Nat} {d : D} (h : n ≤ k) (q : pud n d = true) : pud k d = true := by
  induction h with
  | refl => exact q
  | step _ ih => exact pud_mono _ _ ih
theorem ne_ni {g : G} {j : Int} : neD g .non (.int j) = some (.bl true) := by rw [neD_e (by simp)]; simp [deq]
@[simp] theorem tsub_non_non : Ty.sub .non .non = true := rfl
@[simp] theorem tsub_non_bool : Ty.sub .non .bool = false := rfl
@[simp] theorem tsub_non_int : Ty.sub .non .int = false := rfl
@[simp] theorem tsub_non_str : Ty.sub .non .str = false := rfl
@[simp] theorem tsub_non_tuple : Ty.sub .non .tuple = false := rfl
@[simp] theorem tsub_non_list : Ty.sub .non .list = false := rfl
@[simp] theorem tsub_bool_non : Ty.sub .bool .non = false := rfl
@[simp] theorem tsub_bool_bool : Ty.sub .bool .bool = true := rfl
@[simp] theorem tsub_bool_int : Ty.sub .bool .int = true := rfl
@[simp] theorem tsub_bool_str : Ty.sub .bool .str = false := rfl
@[simp] theorem tsub_bool_tuple : Ty.sub .bool .tuple = false := rfl
@[simp] theorem tsub_bool_list : Ty.sub .bool .list = false := rfl
@[simp] theorem tsub_int_non : Ty.sub .int .non = false := rfl
@[simp] theorem tsub_int_bool : Ty.sub .int .bool = false := rfl
@[simp] theorem tsub_int_int : Ty.sub .int .int = true := rfl
@[simp] theorem tsub_int_str : Ty.sub .int .str = false := rfl
@[simp] theorem tsub_int_tuple : Ty.sub .int .tuple = false := rfl
@[simp] theorem tsub_int_list : Ty.sub .int .list = false := rfl
@[simp] theorem tsub_str_non : Ty.sub .str .non = false := rfl
@[simp] theorem tsub_str_bool : Ty.sub .str .bool = false := rfl
@[simp] theorem tsub_str_int : Ty.sub .str .int = false := rfl
@[simp] theorem tsub_str_str : Ty.sub .str .str = true := rfl
@[simp] theorem tsub_str_tuple : Ty.sub .str .tuple = false := rfl
@[simp] theorem tsub_str_list : Ty.sub .str .list = false := rfl
@[simp] theorem tsub_tuple_non : Ty.sub .tuple .non = false := rfl
@[simp] theorem tsub_tuple_bool : Ty.sub .tuple .bool = false := rfl
@[simp] theorem tsub_tuple_int : Ty.sub .tuple .int = false := rfl
@[simp] theorem tsub_tuple_str : Ty.sub .tuple .str = false := rfl
@[simp] theorem tsub_tuple_tuple : Ty.sub .tuple .tuple = true := rfl
@[simp] theorem tsub_tuple_list : Ty.sub .tuple .list = false := rfl
@[simp] theorem tsub_list_non : Ty.sub .list .non = false := rfl
@[simp] theorem tsub_list_bool : Ty.sub .list .bool = false := rfl
@[simp] theorem tsub_list_int : Ty.sub .list .int = false := rfl
@[simp] theorem tsub_list_str : Ty.sub .list .str = false := rfl
@[simp] theorem tsub_list_tuple : Ty.sub .list .tuple = false := rfl
@[simp] theorem tsub_list_list : Ty.sub .list .list = true := rfl
end Y

set_option Elab.async false
set_option linter.all false
set_option maxRecDepth 100000
set_option maxHeartbeats 4000000
namespace Z
open PySem PySem.Spec PyProof.Rows L2 Y
/-! ### the text by places (printed by gen.py) -/
def top (i : Nat) : Stmt := PySem.Challenge.pw_frametally_k15_plain_machine.main.body.getD i (.Pass ⟨0, 0, 0, 0⟩)
def s__law_next : Stmt := top 19
def s_cell_of : Stmt := top 6
def s__law_table : Stmt := top 23
def s__law_shows : Stmt := top 27
def s__law_seen : Stmt := top 28
def s__law_born : Stmt := top 25
def s__law_cells : Stmt := top 24
def s__law_does : Stmt := top 26
def s_with_entry : Stmt := top 3
def s_with_space : Stmt := top 4
def s_after_space : Stmt := top 16
def s_protected : Stmt := top 14
def s_unmapped : Stmt := top 13
def s_mapped : Stmt := top 12
def s_with_cell : Stmt := top 7
def s_after_use : Stmt := top 15
def s_new_space : Stmt := top 8
def s_page_of : Stmt := top 5
def s_use_refusal : Stmt := top 9
def s_use_answer : Stmt := top 10
def s_answer_of : Stmt := top 11
def s_after_call : Stmt := top 17
def s__law_call : Stmt := top 20
def s_new_plain : Stmt := top 2
def s__law_new : Stmt := top 21
def s_law : Stmt := top 29
/-! ### what each def computes -/
/-- line 134 -/
def c__law_next_1 : SM := (sRet (vOp modD (vCB intD (aCons (vOp divD (vOp modD (vOp mulD (vOp ixD (vVar 0) (vC (.int 3))) (vC (.int 16807))) (vC (.int 2147483647))) (vC (.int 7))) aNil)) (vVar 1)))
/-- line 133 on -/
def c__law_next_2 : SM := (sSeq (sSub (vVar 0) (vC (.int 3)) (vOp modD (vCB intD (aCons (vOp addD (vOp addD (vOp mulD (vOp ixD (vVar 0) (vC (.int 3))) (vC (.int 48271))) (vOp mulD (vVar 3) (vC (.int 69621)))) (vC (.int 11))) aNil)) (vC (.int 2147483647)))) c__law_next_1)
/-- line 130 on -/
def c__law_next_3 : SM := (sSeq (sIf (tOf (vOp geD (vVar 3) (vOp powD (vC (.int 10)) (vC (.int 18))))) (sSeq (sSub (vVar 0) (vC (.int 2)) (vOp divD (vVar 3) (vVar 1))) (sRet (vOp modD (vCB intD (aCons (vVar 3) aNil)) (vVar 1)))) sNx) c__law_next_2)
/-- line 127 on -/
def c__law_next_4 : SM := (sSeq (sIf (tOf (vOp ltD (vOp ixD (vVar 0) (vC (.int 1))) (vCB lenD (aCons (vOp ixD (vVar 0) (vC (.int 0))) aNil)))) (sSeq (sAsg 3 (vCB absD (aCons (vOp ixD (vOp ixD (vVar 0) (vC (.int 0))) (vOp ixD (vVar 0) (vC (.int 1)))) aNil))) (sAugI (vVar 0) (vC (.int 1)) (vC (.int 1)))) sNx) c__law_next_3)
/-- line 126 on -/
def c__law_next_5 : SM := (sSeq (sAsg 3 (vC (.int 0))) c__law_next_4)
/-- line 123 on -/
def c__law_next_6 : SM := (sSeq (sIf (tOf (vOp gtD (vVar 2) (vC (.int 0)))) (sSeq (sSub (vVar 0) (vC (.int 2)) (vOp divD (vVar 2) (vVar 1))) (sRet (vOp modD (vCB intD (aCons (vVar 2) aNil)) (vVar 1)))) sNx) c__law_next_5)
def b__law_next : SM := (sSeq (sAsg 2 (vOp ixD (vVar 0) (vC (.int 2)))) c__law_next_6)
def m__law_next : MF := fnM 2 4 b__law_next
/-- line 20 -/
def c_cell_of_1 : SM := (sRet (vDGet (vOp ixC (vVar 0) (vC (.str 13))) (aCons (vOp addD (vVar 6) (vTup (aCons (vVar 3) aNil))) (aCons (vC (.int 0)) aNil))))
/-- line 18 on -/
def c_cell_of_2 : SM := (sSeq (sIf (tOf (vOp isN (vVar 6) (vC .non))) (sRet (vDGet (vVar 5) (aCons (vTup (aCons (vVar 2) (aCons (vVar 3) aNil))) (aCons (vC (.int 0)) aNil)))) sNx) c_cell_of_1)
/-- line 17 on -/
def c_cell_of_3 : SM := (sSeq (sAsg 6 (vOp ixD (vOp ixC (vVar 4) (vVar 2)) (vC (.int 1)))) c_cell_of_2)
def b_cell_of : SM := (sSeq (sTgt (vOp ixC (vOp ixC (vVar 0) (vC (.str 14))) (vVar 1)) (gT 2 (gsC (gN 4) (gsC (gN 5) gsN)))) c_cell_of_3)
def m_cell_of : MF := fnM 4 7 b_cell_of
/-- line 172 -/
def c__law_table_1 : SM := (sRet (vTup (aCons (vOp ixD (vVar 0) (vC (.int 1))) (aCons (vTup (aCons (vOp ixD (vVar 6) (vC (.int 0))) (aCons (vOp ixD (vVar 6) (vC (.int 1))) (aCons (vVar 3) aNil)))) aNil))))
/-- line 170 on -/
def c__law_table_2 : SM := (sSeq (sIf (tOf (vOp isN (vVar 6) (vC .non))) (sRet (vTup (aCons (vVar 5) (aCons (vTup (aCons (vVar 2) (aCons (vVar 3) aNil))) aNil)))) sNx) c__law_table_1)
/-- line 169 on -/
def c__law_table_3 : SM := (sSeq (sAsg 6 (vOp ixD (vOp ixC (vVar 4) (vVar 2)) (vC (.int 1)))) c__law_table_2)
def b__law_table : SM := (sSeq (sTgt (vOp ixC (vOp ixD (vVar 0) (vC (.int 0))) (vVar 1)) (gT 2 (gsC (gN 4) (gsC (gN 5) gsN)))) c__law_table_3)
def m__law_table : MF := fnM 4 7 b__law_table
/-- line 232 -/
def c__law_shows_1 : SM := (sRet (vDisp (pCons (vC (.str 14)) (vVar 1) (pCons (vC (.str 13)) (vVar 5) pNil))))
/-- line 231 on -/
def c__law_shows_2 : SM := (sSeq (sAsg 5 (vDctT (aCons (vLock (pkOf (vOp ixD (vVar 0) (vC (.int 1)))) (vLc [6] (iKey (vOp ixD (vVar 0) (vC (.int 1)))) (gN 6) (tOf (vOp neD (vOp ixC (vOp ixD (vVar 0) (vC (.int 1))) (vVar 6)) (vC (.int 0)))) (vTup (aCons (vVar 6) (aCons (vOp ixC (vOp ixD (vVar 0) (vC (.int 1))) (vVar 6)) aNil))))) aNil))) c__law_shows_1)
/-- the loop of line 229 -/
def c__law_shows_3 : SM := (sSeq (sTgt (vOp ixC (vOp ixD (vVar 0) (vC (.int 0))) (vVar 2)) (gT 2 (gsC (gN 3) (gsC (gN 4) gsN)))) (sSubC (vVar 1) (vVar 2) (vTup (aCons (vDctC (aCons (vVar 3) aNil)) (aCons (vDctT (aCons (vLock (pkOf (vVar 4)) (vLc [6] (iKey (vVar 4)) (gN 6) (tOf (vOp neD (vOp ixC (vVar 4) (vVar 6)) (vC (.int 0)))) (vTup (aCons (vVar 6) (aCons (vOp ixC (vVar 4) (vVar 6)) aNil))))) aNil)) aNil)))))
/-- line 228 on -/
def c__law_shows_4 : SM := (sSeq (sLock (pkOf (vOp ixD (vVar 0) (vC (.int 0)))) (sFor (iKey (vOp ixD (vVar 0) (vC (.int 0)))) (gN 2) c__law_shows_3)) c__law_shows_2)
def b__law_shows : SM := (sSeq (sAsg 1 (vDct0 false)) c__law_shows_4)
def m__law_shows : MF := fnM 1 7 b__law_shows
def b__law_seen : SM := (sRet (vCall m__law_shows (aCons (vLst (aCons (vOp ixC (vVar 0) (vC (.str 14))) (aCons (vOp ixC (vVar 0) (vC (.str 13))) aNil))) aNil)))
def m__law_seen : MF := fnM 1 1 b__law_seen
/-- line 197 -/
def c__law_born_1 : SM := (sRet (vTup (aCons (vC (.str 15)) (aCons (vOp ixD (vVar 2) (vC (.int 0))) aNil))))
/-- line 194 on -/
def c__law_born_2 : SM := (sSeq (sIf (tOf (vOp eqD (vOp ixD (vVar 1) (vC (.int 0))) (vC (.str 6)))) (sSeq (sTgt (vOp ixC (vOp ixD (vVar 0) (vC (.int 0))) (vOp ixD (vVar 1) (vC (.int 1)))) (gT 2 (gsC (gN 3) (gsC (gN 4) gsN)))) (sSubC (vOp ixD (vVar 0) (vC (.int 0))) (vOp ixD (vVar 2) (vC (.int 0))) (vTup (aCons (vDctC (aCons (vVar 3) aNil)) (aCons (vDctC (aCons (vVar 4) aNil)) aNil))))) sNx) c__law_born_1)
/-- line 193 on -/
def c__law_born_3 : SM := (sSeq (sSubC (vOp ixD (vVar 0) (vC (.int 0))) (vOp ixD (vVar 2) (vC (.int 0))) (vTup (aCons (vDct0 false) (aCons (vDct0 true) aNil)))) c__law_born_2)
/-- line 191 on -/
def c__law_born_4 : SM := (sSeq (sIf (tOf (vOp eqD (vVar 2) (vLst aNil))) (sRet (vTup (aCons (vC (.str 17)) (aCons (vC .non) aNil)))) sNx) c__law_born_3)
def b__law_born : SM := (sSeq (sAsg 2 (vLc [5] (iRng1 (vC (.int 4))) (gN 5) (tOf (vOp (inC true) (vVar 5) (vOp ixD (vVar 0) (vC (.int 0))))) (vVar 5))) c__law_born_4)
def m__law_born : MF := fnM 2 6 b__law_born
/-- line 188 -/
def c__law_cells_1 : SM := (sRet (vTup (aCons (vC (.str 15)) (aCons (vOp eqD (vVar 5) (vOp ixD (vVar 1) (vC (.int 4)))) aNil))))
/-- line 186 on -/
def c__law_cells_2 : SM := (sSeq (sIf (tOf (vOp eqD (vVar 5) (vOp ixD (vVar 1) (vC (.int 4))))) (sSubC (vVar 3) (vVar 4) (vOp ixD (vVar 1) (vC (.int 5)))) sNx) c__law_cells_1)
/-- line 183 on -/
def c__law_cells_3 : SM := (sSeq (sIf (tOf (vOp eqD (vOp ixD (vVar 1) (vC (.int 0))) (vC (.str 7)))) (sSeq (sSubC (vVar 3) (vVar 4) (vOp ixD (vVar 1) (vC (.int 4)))) (sRet (vTup (aCons (vC (.str 15)) (aCons (vC .non) aNil))))) sNx) c__law_cells_2)
/-- line 181 on -/
def c__law_cells_4 : SM := (sSeq (sIf (tOf (vOp eqD (vOp ixD (vVar 1) (vC (.int 0))) (vC (.str 3)))) (sRet (vTup (aCons (vC (.str 15)) (aCons (vVar 5) aNil)))) sNx) c__law_cells_3)
/-- line 180 on -/
def c__law_cells_5 : SM := (sSeq (sAsg 5 (vDGet (vVar 3) (aCons (vVar 4) (aCons (vC (.int 0)) aNil)))) c__law_cells_4)
/-- line 179 on -/
def c__law_cells_6 : SM := (sSeq (sTgt (vCall m__law_table (aCons (vVar 0) (aCons (vOp ixD (vVar 1) (vC (.int 1))) (aCons (vOp ixD (vVar 1) (vC (.int 2))) (aCons (vOp ixD (vVar 1) (vC (.int 3))) aNil))))) (gT 2 (gsC (gN 3) (gsC (gN 4) gsN)))) c__law_cells_5)
/-- line 177 on -/
def c__law_cells_7 : SM := (sSeq (sIf (tOr (tOf (vOp (inC true) (vOp ixD (vVar 1) (vC (.int 2))) (vVar 2))) (tAnd (tOf (vOp neD (vOp ixD (vVar 1) (vC (.int 0))) (vC (.str 3)))) (tOf (vOp eqD (vOp ixD (vOp ixC (vVar 2) (vOp ixD (vVar 1) (vC (.int 2)))) (vC (.int 0))) (vC (.str 0)))))) (sRet (vTup (aCons (vC (.str 19)) (aCons (vC .non) aNil)))) sNx) c__law_cells_6)
/-- line 176 on -/
def c__law_cells_8 : SM := (sSeq (sAsg 2 (vOp ixD (vOp ixC (vOp ixD (vVar 0) (vC (.int 0))) (vOp ixD (vVar 1) (vC (.int 1)))) (vC (.int 0)))) c__law_cells_7)
def b__law_cells : SM := (sSeq (sIf (tOf (vOp (inC true) (vOp ixD (vVar 1) (vC (.int 1))) (vOp ixD (vVar 0) (vC (.int 0))))) (sRet (vTup (aCons (vC (.str 18)) (aCons (vC .non) aNil)))) sNx) c__law_cells_8)
def m__law_cells : MF := fnM 2 6 b__law_cells
/-- line 225 -/
def c__law_does_1 : SM := (sRet (vTup (aCons (vC (.str 15)) (aCons (vC .non) aNil))))
/-- line 224 -/
def c__law_does_2 : SM := (sDrop (vDPopX (vVar 4) (aCons (vTup (aCons (vVar 6) (aCons (vC (.int 1)) aNil))) (aCons (vC .non) aNil))))
/-- line 223 on -/
def c__law_does_3 : SM := (sSeq (sDrop (vDPopX (vVar 4) (aCons (vTup (aCons (vVar 6) (aCons (vC (.int 0)) aNil))) (aCons (vC .non) aNil)))) c__law_does_2)
/-- line 215 on -/
def c__law_does_4 : SM := (sSeq (sFor (iLst (vVar 5)) (gN 6) (sIf (tOf (vOp eqD (vVar 2) (vC (.str 12)))) (sSeq (sAsg 7 (vOp ixD (vVar 1) (vC (.int 5)))) (sSubC (vVar 3) (vVar 6) (vTup (aCons (vOp ixD (vVar 1) (vC (.int 4))) (aCons (vIf (tOf (vOp isN (vVar 7) (vC .non))) (vC .non) (vTup (aCons (vOp ixD (vVar 7) (vC (.int 0))) (aCons (vOp subD (vOp addD (vOp ixD (vVar 7) (vC (.int 1))) (vVar 6)) (vOp ixD (vVar 1) (vC (.int 2)))) aNil)))) aNil))))) (sIf (tAnd (tOf (vOp (inC false) (vVar 6) (vVar 3))) (tOf (vOp eqD (vVar 2) (vC (.str 4))))) (sSubC (vVar 3) (vVar 6) (vTup (aCons (vOp ixD (vVar 1) (vC (.int 4))) (aCons (vOp ixD (vOp ixC (vVar 3) (vVar 6)) (vC (.int 1))) aNil)))) (sIf (tOf (vOp (inC false) (vVar 6) (vVar 3))) (sSeq (sDrop (vDPopX (vVar 3) (aCons (vVar 6) aNil))) c__law_does_3) sNx)))) c__law_does_1)
/-- line 213 on -/
def c__law_does_5 : SM := (sSeq (sIf (tAnd (tOf (vOp eqD (vVar 2) (vC (.str 12)))) (tOf (vOp gtD (vCB lenD (aCons (vLc [6] (iLst (vVar 5)) (gN 6) (tOf (vOp (inC false) (vVar 6) (vVar 3))) (vVar 6)) aNil)) (vC (.int 0))))) (sRet (vTup (aCons (vC (.str 16)) (aCons (vC .non) aNil)))) sNx) c__law_does_4)
/-- line 212 on -/
def c__law_does_6 : SM := (sSeq (sAsg 5 (vLRg2 (vOp ixD (vVar 1) (vC (.int 2))) (vOp addD (vOp ixD (vVar 1) (vC (.int 2))) (vOp ixD (vVar 1) (vC (.int 3)))))) c__law_does_5)
/-- line 211 on -/
def c__law_does_7 : SM := (sSeq (sTgt (vOp ixC (vOp ixD (vVar 0) (vC (.int 0))) (vOp ixD (vVar 1) (vC (.int 1)))) (gT 2 (gsC (gN 3) (gsC (gN 4) gsN)))) c__law_does_6)
/-- line 208 on -/
def c__law_does_8 : SM := (sSeq (sIf (tOf (vOp eqD (vVar 2) (vC (.str 2)))) (sSeq (sDrop (vDPopX (vOp ixD (vVar 0) (vC (.int 0))) (aCons (vOp ixD (vVar 1) (vC (.int 1))) aNil))) (sRet (vTup (aCons (vC (.str 15)) (aCons (vC .non) aNil))))) sNx) c__law_does_7)
/-- line 206 on -/
def c__law_does_9 : SM := (sSeq (sIf (tOf (vOp (inD false) (vVar 2) (vTup (aCons (vC (.str 9)) (aCons (vC (.str 6)) aNil))))) (sRet (vCall m__law_born (aCons (vVar 0) (aCons (vVar 1) aNil)))) sNx) c__law_does_8)
/-- line 204 on -/
def c__law_does_10 : SM := (sSeq (sIf (tAnd (tOf (vOp neD (vVar 2) (vC (.str 9)))) (tOf (vOp (inC true) (vOp ixD (vVar 1) (vC (.int 1))) (vOp ixD (vVar 0) (vC (.int 0)))))) (sRet (vTup (aCons (vC (.str 18)) (aCons (vC .non) aNil)))) sNx) c__law_does_9)
/-- line 202 on -/
def c__law_does_11 : SM := (sSeq (sIf (tOf (vOp (inD false) (vVar 2) (vTup (aCons (vC (.str 10)) (aCons (vC (.str 11)) aNil))))) (sRet (vTup (aCons (vC (.str 15)) (aCons (vC .non) aNil)))) sNx) c__law_does_10)
/-- line 200 on -/
def c__law_does_12 : SM := (sSeq (sIf (tOf (vOp (inD false) (vVar 2) (vTup (aCons (vC (.str 3)) (aCons (vC (.str 7)) (aCons (vC (.str 8)) aNil)))))) (sRet (vCall m__law_cells (aCons (vVar 0) (aCons (vVar 1) aNil)))) sNx) c__law_does_11)
def b__law_does : SM := (sSeq (sAsg 2 (vOp ixD (vVar 1) (vC (.int 0)))) c__law_does_12)
def m__law_does : MF := fnM 2 8 b__law_does
/-- line 8 -/
def c_with_entry_1 : SM := (sRet (vVar 3))
/-- line 7 on -/
def c_with_entry_2 : SM := (sSeq (sSubC (vVar 3) (vVar 1) (vVar 2)) c_with_entry_1)
def b_with_entry : SM := (sSeq (sAsg 3 (vDctC (aCons (vVar 0) aNil))) c_with_entry_2)
def m_with_entry : MF := fnM 3 4 b_with_entry
def b_with_space : SM := (sRet (vDisp (pCons (vC (.str 14)) (vCall m_with_entry (aCons (vOp ixC (vVar 0) (vC (.str 14))) (aCons (vVar 1) (aCons (vVar 2) aNil)))) (pCons (vC (.str 13)) (vOp ixC (vVar 0) (vC (.str 13))) pNil))))
def m_with_space : MF := fnM 3 3 b_with_space
/-- line 105 -/
def c_after_space_1 : SM := (sRet (vCall m_with_space (aCons (vVar 0) (aCons (vVar 2) (aCons (vVar 5) aNil)))))
/-- line 103 on -/
def c_after_space_2 : SM := (sSeq (sIf (tOf (vOp eqD (vOp ixD (vVar 1) (vC (.int 0))) (vC (.str 6)))) (sAsg 5 (vOp ixC (vOp ixC (vVar 0) (vC (.str 14))) (vOp ixD (vVar 1) (vC (.int 1))))) sNx) c_after_space_1)
/-- line 102 on -/
def c_after_space_3 : SM := (sSeq (sAsg 5 (vTup (aCons (vDct0 false) (aCons (vDct0 true) aNil)))) c_after_space_2)
/-- line 101 -/
def c_after_space_4 : SM := (sRet (vDisp (pCons (vC (.str 14)) (vVar 4) (pCons (vC (.str 13)) (vOp ixC (vVar 0) (vC (.str 13))) pNil))))
/-- line 100 on -/
def c_after_space_5 : SM := (sSeq (sLock (pkOf (vVar 3)) (sAsg 4 (vDc false [6] (iKey (vVar 3)) (gN 6) (tOf (vOp neD (vVar 6) (vOp ixD (vVar 1) (vC (.int 1))))) (vVar 6) (vOp ixC (vVar 3) (vVar 6))))) c_after_space_4)
def b_after_space : SM := (sSeq (sIf (tOf (vOp eqD (vOp ixD (vVar 1) (vC (.int 0))) (vC (.str 2)))) (sSeq (sAsg 3 (vOp ixC (vVar 0) (vC (.str 14)))) c_after_space_5) sNx) c_after_space_3)
def m_after_space : MF := fnM 3 7 b_after_space
/-- line 90 -/
def c_protected_1 : SM := (sRet (vCall m_with_space (aCons (vVar 0) (aCons (vVar 3) (aCons (vTup (aCons (vVar 9) (aCons (vVar 8) aNil))) aNil)))))
/-- line 87 on -/
def c_protected_2 : SM := (sSeq (sFor (iRng2 (vVar 4) (vOp addD (vVar 4) (vVar 5))) (gN 10) (sIf (tOf (vOp (inC false) (vVar 10) (vVar 7))) (sSubC (vVar 9) (vVar 10) (vTup (aCons (vVar 6) (aCons (vOp ixD (vOp ixC (vVar 7) (vVar 10)) (vC (.int 1))) aNil)))) sNx)) c_protected_1)
/-- line 86 on -/
def c_protected_3 : SM := (sSeq (sAsg 9 (vDctC (aCons (vVar 7) aNil))) c_protected_2)
/-- line 85 on -/
def c_protected_4 : SM := (sSeq (sTgt (vOp ixC (vOp ixC (vVar 0) (vC (.str 14))) (vVar 3)) (gT 2 (gsC (gN 7) (gsC (gN 8) gsN)))) c_protected_3)
def b_protected : SM := (sSeq (sTgt (vVar 1) (gT 5 (gsC (gN 2) (gsC (gN 3) (gsC (gN 4) (gsC (gN 5) (gsC (gN 6) gsN))))))) c_protected_4)
def m_protected : MF := fnM 2 11 b_protected
/-- line 82 -/
def c_unmapped_1 : SM := (sRet (vCall m_with_space (aCons (vVar 0) (aCons (vVar 3) (aCons (vTup (aCons (vVar 6) (aCons (vVar 7) aNil))) aNil)))))
/-- line 81 on -/
def c_unmapped_2 : SM := (sSeq (sAsg 7 (vLock (pkOf (vVar 7)) (vDc true [10] (iKey (vVar 7)) (gN 10) (tOf (vOp (inR true) (vOp ixD (vVar 10) (vC (.int 0))) (vVar 8))) (vVar 10) (vOp ixC (vVar 7) (vVar 10))))) c_unmapped_1)
/-- line 80 on -/
def c_unmapped_3 : SM := (sSeq (sAsg 6 (vLock (pkOf (vVar 6)) (vDc false [9] (iKey (vVar 6)) (gN 9) (tOf (vOp (inR true) (vVar 9) (vVar 8))) (vVar 9) (vOp ixC (vVar 6) (vVar 9))))) c_unmapped_2)
/-- line 79 on -/
def c_unmapped_4 : SM := (sSeq (sAsg 8 (vRng2 (aCons (vVar 4) (aCons (vOp addD (vVar 4) (vVar 5)) aNil)))) c_unmapped_3)
/-- line 78 on -/
def c_unmapped_5 : SM := (sSeq (sTgt (vOp ixC (vOp ixC (vVar 0) (vC (.str 14))) (vVar 3)) (gT 2 (gsC (gN 6) (gsC (gN 7) gsN)))) c_unmapped_4)
def b_unmapped : SM := (sSeq (sTgt (vVar 1) (gT 4 (gsC (gN 2) (gsC (gN 3) (gsC (gN 4) (gsC (gN 5) gsN)))))) c_unmapped_5)
def m_unmapped : MF := fnM 2 11 b_unmapped
/-- line 75 -/
def c_mapped_1 : SM := (sRet (vCall m_with_space (aCons (vVar 0) (aCons (vVar 3) (aCons (vTup (aCons (vVar 8) (aCons (vVar 9) aNil))) aNil)))))
/-- line 74 -/
def c_mapped_2 : SM := (sAsg 8 (vCall m_with_entry (aCons (vVar 8) (aCons (vOp addD (vVar 4) (vVar 10)) (aCons (vTup (aCons (vVar 6) (aCons (vVar 11) aNil))) aNil)))))
/-- line 72 on -/
def c_mapped_3 : SM := (sSeq (sIf (tOf (vOp notN (vVar 7) (vC .non))) (sAsg 11 (vTup (aCons (vOp ixD (vVar 7) (vC (.int 0))) (aCons (vOp addD (vOp ixD (vVar 7) (vC (.int 1))) (vVar 10)) aNil)))) sNx) c_mapped_2)
/-- the loop of line 71 -/
def c_mapped_4 : SM := (sSeq (sAsg 11 (vC .non)) c_mapped_3)
/-- line 70 on -/
def c_mapped_5 : SM := (sSeq (sFor (iRng1 (vVar 5)) (gN 10) c_mapped_4) c_mapped_1)
/-- line 69 on -/
def c_mapped_6 : SM := (sSeq (sTgt (vOp ixC (vOp ixC (vVar 0) (vC (.str 14))) (vVar 3)) (gT 2 (gsC (gN 8) (gsC (gN 9) gsN)))) c_mapped_5)
def b_mapped : SM := (sSeq (sTgt (vVar 1) (gT 6 (gsC (gN 2) (gsC (gN 3) (gsC (gN 4) (gsC (gN 5) (gsC (gN 6) (gsC (gN 7) gsN)))))))) c_mapped_6)
def m_mapped : MF := fnM 2 12 b_mapped
/-- line 26 -/
def c_with_cell_1 : SM := (sRet (vDisp (pCons (vC (.str 14)) (vOp ixC (vVar 0) (vC (.str 14))) (pCons (vC (.str 13)) (vCall m_with_entry (aCons (vOp ixC (vVar 0) (vC (.str 13))) (aCons (vOp addD (vVar 7) (vTup (aCons (vVar 3) aNil))) (aCons (vVar 4) aNil)))) pNil))))
/-- line 24 on -/
def c_with_cell_2 : SM := (sSeq (sIf (tOf (vOp isN (vVar 7) (vC .non))) (sRet (vCall m_with_space (aCons (vVar 0) (aCons (vVar 1) (aCons (vTup (aCons (vVar 5) (aCons (vCall m_with_entry (aCons (vVar 6) (aCons (vTup (aCons (vVar 2) (aCons (vVar 3) aNil))) (aCons (vVar 4) aNil)))) aNil))) aNil))))) sNx) c_with_cell_1)
/-- line 23 on -/
def c_with_cell_3 : SM := (sSeq (sAsg 7 (vOp ixD (vOp ixC (vVar 5) (vVar 2)) (vC (.int 1)))) c_with_cell_2)
def b_with_cell : SM := (sSeq (sTgt (vOp ixC (vOp ixC (vVar 0) (vC (.str 14))) (vVar 1)) (gT 2 (gsC (gN 5) (gsC (gN 6) gsN)))) c_with_cell_3)
def m_with_cell : MF := fnM 5 8 b_with_cell
/-- line 96 -/
def c_after_use_1 : SM := (sRet (vVar 0))
/-- line 94 on -/
def c_after_use_2 : SM := (sSeq (sIf (tAnd (tOf (vOp eqD (vOp ixD (vVar 1) (vC (.int 0))) (vC (.str 8)))) (tOf (vOp eqD (vCall m_cell_of (aCons (vVar 0) (aCons (vOp ixD (vVar 1) (vC (.int 1))) (aCons (vOp ixD (vVar 1) (vC (.int 2))) (aCons (vOp ixD (vVar 1) (vC (.int 3))) aNil))))) (vOp ixD (vVar 1) (vC (.int 4)))))) (sRet (vCall m_with_cell (aCons (vVar 0) (aCons (vOp ixD (vVar 1) (vC (.int 1))) (aCons (vOp ixD (vVar 1) (vC (.int 2))) (aCons (vOp ixD (vVar 1) (vC (.int 3))) (aCons (vOp ixD (vVar 1) (vC (.int 5))) aNil))))))) sNx) c_after_use_1)
def b_after_use : SM := (sSeq (sIf (tOf (vOp eqD (vOp ixD (vVar 1) (vC (.int 0))) (vC (.str 7)))) (sRet (vCall m_with_cell (aCons (vVar 0) (aCons (vOp ixD (vVar 1) (vC (.int 1))) (aCons (vOp ixD (vVar 1) (vC (.int 2))) (aCons (vOp ixD (vVar 1) (vC (.int 3))) (aCons (vOp ixD (vVar 1) (vC (.int 4))) aNil))))))) sNx) c_after_use_2)
def m_after_use : MF := fnM 2 2 b_after_use
def b_new_space : SM := (sSeq (sFor (iRng1 (vC (.int 4))) (gN 1) (sIf (tOf (vOp (inC true) (vVar 1) (vOp ixC (vVar 0) (vC (.str 14))))) (sRet (vVar 1)) sNx)) (sRet (vC .non)))
def m_new_space : MF := fnM 1 2 b_new_space
def b_page_of : SM := (sSeq (sIf (tOf (vOp (inC true) (vVar 1) (vOp ixC (vVar 0) (vC (.str 14))))) (sRet (vC .non)) sNx) (sRet (vDGet (vOp ixD (vOp ixC (vOp ixC (vVar 0) (vC (.str 14))) (vVar 1)) (vC (.int 0))) (aCons (vVar 2) aNil))))
def m_page_of : MF := fnM 3 3 b_page_of
/-- line 38 -/
def c_use_refusal_1 : SM := (sRet (vC (.str 20)))
/-- line 36 on -/
def c_use_refusal_2 : SM := (sSeq (sIf (tOr (tOf (vOp isN (vVar 2) (vC .non))) (tAnd (tOf (vOp neD (vOp ixD (vVar 1) (vC (.int 0))) (vC (.str 3)))) (tOf (vOp eqD (vOp ixD (vVar 2) (vC (.int 0))) (vC (.str 0)))))) (sRet (vC (.str 19))) sNx) c_use_refusal_1)
/-- line 35 on -/
def c_use_refusal_3 : SM := (sSeq (sAsg 2 (vCall m_page_of (aCons (vVar 0) (aCons (vOp ixD (vVar 1) (vC (.int 1))) (aCons (vOp ixD (vVar 1) (vC (.int 2))) aNil))))) c_use_refusal_2)
def b_use_refusal : SM := (sSeq (sIf (tOf (vOp (inC true) (vOp ixD (vVar 1) (vC (.int 1))) (vOp ixC (vVar 0) (vC (.str 14))))) (sRet (vC (.str 18))) sNx) c_use_refusal_3)
def m_use_refusal : MF := fnM 2 3 b_use_refusal
/-- line 48 -/
def c_use_answer_1 : SM := (sRet (vTup (aCons (vC (.str 15)) (aCons (vOp eqD (vVar 3) (vOp ixD (vVar 1) (vC (.int 4)))) aNil))))
/-- line 46 on -/
def c_use_answer_2 : SM := (sSeq (sIf (tOf (vOp eqD (vOp ixD (vVar 1) (vC (.int 0))) (vC (.str 7)))) (sRet (vTup (aCons (vC (.str 15)) (aCons (vC .non) aNil)))) sNx) c_use_answer_1)
/-- line 44 on -/
def c_use_answer_3 : SM := (sSeq (sIf (tOf (vOp eqD (vOp ixD (vVar 1) (vC (.int 0))) (vC (.str 3)))) (sRet (vTup (aCons (vC (.str 15)) (aCons (vVar 3) aNil)))) sNx) c_use_answer_2)
/-- line 43 on -/
def c_use_answer_4 : SM := (sSeq (sAsg 3 (vCall m_cell_of (aCons (vVar 0) (aCons (vOp ixD (vVar 1) (vC (.int 1))) (aCons (vOp ixD (vVar 1) (vC (.int 2))) (aCons (vOp ixD (vVar 1) (vC (.int 3))) aNil)))))) c_use_answer_3)
/-- line 41 on -/
def c_use_answer_5 : SM := (sSeq (sIf (tOf (vOp neD (vVar 2) (vC (.str 20)))) (sRet (vTup (aCons (vVar 2) (aCons (vC .non) aNil)))) sNx) c_use_answer_4)
def b_use_answer : SM := (sSeq (sAsg 2 (vCall m_use_refusal (aCons (vVar 0) (aCons (vVar 1) aNil)))) c_use_answer_5)
def m_use_answer : MF := fnM 2 4 b_use_answer
/-- line 66 -/
def c_answer_of_1 : SM := (sRet (vTup (aCons (vC (.str 15)) (aCons (vC .non) aNil))))
/-- line 62 on -/
def c_answer_of_2 : SM := (sSeq (sIf (tOf (vOp eqD (vVar 2) (vC (.str 12)))) (sSeq (sAsg 4 (vOp ixD (vOp ixC (vOp ixC (vVar 0) (vC (.str 14))) (vOp ixD (vVar 1) (vC (.int 1)))) (vC (.int 0)))) (sIf (tTru (vCB anyD (aCons (vLc [5] (iRng2 (vOp ixD (vVar 1) (vC (.int 2))) (vOp addD (vOp ixD (vVar 1) (vC (.int 2))) (vOp ixD (vVar 1) (vC (.int 3))))) (gN 5) tYes (vOp (inC false) (vVar 5) (vVar 4))) aNil))) (sRet (vTup (aCons (vC (.str 16)) (aCons (vC .non) aNil)))) sNx)) sNx) c_answer_of_1)
/-- line 61 -/
def c_answer_of_3 : SM := (sRet (vTup (aCons (vC (.str 15)) (aCons (vVar 3) aNil))))
/-- line 59 on -/
def c_answer_of_4 : SM := (sSeq (sIf (tOf (vOp isN (vVar 3) (vC .non))) (sRet (vTup (aCons (vC (.str 17)) (aCons (vC .non) aNil)))) sNx) c_answer_of_3)
/-- line 57 on -/
def c_answer_of_5 : SM := (sSeq (sIf (tOf (vOp (inD false) (vVar 2) (vTup (aCons (vC (.str 9)) (aCons (vC (.str 6)) aNil))))) (sSeq (sAsg 3 (vCall m_new_space (aCons (vVar 0) aNil))) c_answer_of_4) sNx) c_answer_of_2)
/-- line 55 on -/
def c_answer_of_6 : SM := (sSeq (sIf (tAnd (tOf (vOp neD (vVar 2) (vC (.str 9)))) (tOf (vOp (inC true) (vOp ixD (vVar 1) (vC (.int 1))) (vOp ixC (vVar 0) (vC (.str 14)))))) (sRet (vTup (aCons (vC (.str 18)) (aCons (vC .non) aNil)))) sNx) c_answer_of_5)
/-- line 53 on -/
def c_answer_of_7 : SM := (sSeq (sIf (tOf (vOp (inD false) (vVar 2) (vTup (aCons (vC (.str 10)) (aCons (vC (.str 11)) aNil))))) (sRet (vTup (aCons (vC (.str 15)) (aCons (vC .non) aNil)))) sNx) c_answer_of_6)
/-- line 51 on -/
def c_answer_of_8 : SM := (sSeq (sIf (tOf (vOp (inD false) (vVar 2) (vTup (aCons (vC (.str 3)) (aCons (vC (.str 7)) (aCons (vC (.str 8)) aNil)))))) (sRet (vCall m_use_answer (aCons (vVar 0) (aCons (vVar 1) aNil)))) sNx) c_answer_of_7)
def b_answer_of : SM := (sSeq (sAsg 2 (vOp ixD (vVar 1) (vC (.int 0)))) c_answer_of_8)
def m_answer_of : MF := fnM 2 6 b_answer_of
/-- line 119 -/
def c_after_call_1 : SM := (sRet (vCall m_after_space (aCons (vVar 0) (aCons (vVar 1) (aCons (vVar 3) aNil)))))
/-- line 117 on -/
def c_after_call_2 : SM := (sSeq (sIf (tOf (vOp eqD (vVar 4) (vC (.str 4)))) (sRet (vCall m_protected (aCons (vVar 0) (aCons (vVar 1) aNil)))) sNx) c_after_call_1)
/-- line 115 on -/
def c_after_call_3 : SM := (sSeq (sIf (tOf (vOp eqD (vVar 4) (vC (.str 5)))) (sRet (vCall m_unmapped (aCons (vVar 0) (aCons (vVar 1) aNil)))) sNx) c_after_call_2)
/-- line 113 on -/
def c_after_call_4 : SM := (sSeq (sIf (tOf (vOp eqD (vVar 4) (vC (.str 12)))) (sRet (vCall m_mapped (aCons (vVar 0) (aCons (vVar 1) aNil)))) sNx) c_after_call_3)
/-- line 111 on -/
def c_after_call_5 : SM := (sSeq (sIf (tOf (vOp (inD false) (vVar 4) (vTup (aCons (vC (.str 3)) (aCons (vC (.str 7)) (aCons (vC (.str 8)) aNil)))))) (sRet (vCall m_after_use (aCons (vVar 0) (aCons (vVar 1) aNil)))) sNx) c_after_call_4)
/-- line 109 on -/
def c_after_call_6 : SM := (sSeq (sIf (tOr (tOf (vOp neD (vVar 2) (vC (.str 15)))) (tOf (vOp (inD false) (vVar 4) (vTup (aCons (vC (.str 10)) (aCons (vC (.str 11)) aNil)))))) (sRet (vVar 0)) sNx) c_after_call_5)
/-- line 108 on -/
def c_after_call_7 : SM := (sSeq (sAsg 4 (vOp ixD (vVar 1) (vC (.int 0)))) c_after_call_6)
def b_after_call : SM := (sSeq (sTgt (vCall m_answer_of (aCons (vVar 0) (aCons (vVar 1) aNil))) (gT 2 (gsC (gN 2) (gsC (gN 3) gsN)))) c_after_call_7)
def m_after_call : MF := fnM 2 5 b_after_call
/-- line 159 -/
def c__law_call_1 : SM := (sRet (vTup (aCons (vC (.str 10)) aNil)))
/-- line 157 on -/
def c__law_call_2 : SM := (sSeq (sIf (tOf (vOp eqD (vVar 2) (vC (.int 19)))) (sRet (vOp ixD (vTup (aCons (vTup (aCons (vC (.str 2)) (aCons (vVar 3) aNil))) (aCons (vTup (aCons (vC (.str 9)) aNil)) (aCons (vTup (aCons (vC (.str 11)) (aCons (vCall m__law_next (aCons (vVar 0) (aCons (vC (.int 2)) aNil))) aNil))) aNil)))) (vCall m__law_next (aCons (vVar 0) (aCons (vC (.int 3)) aNil))))) sNx) c__law_call_1)
/-- line 155 on -/
def c__law_call_3 : SM := (sSeq (sIf (tOf (vOp ltD (vVar 2) (vC (.int 19)))) (sRet (vTup (aCons (vC (.str 6)) (aCons (vVar 3) aNil)))) sNx) c__law_call_2)
/-- line 153 on -/
def c__law_call_4 : SM := (sSeq (sIf (tOf (vOp eqD (vVar 2) (vC (.int 16)))) (sRet (vTup (aCons (vC (.str 4)) (aCons (vVar 3) (aCons (vVar 4) (aCons (vVar 5) (aCons (vOp ixD (vTup (aCons (vC (.str 0)) (aCons (vC (.str 1)) aNil))) (vCall m__law_next (aCons (vVar 0) (aCons (vC (.int 2)) aNil)))) aNil))))))) sNx) c__law_call_3)
/-- line 151 on -/
def c__law_call_5 : SM := (sSeq (sIf (tOf (vOp eqD (vVar 2) (vC (.int 15)))) (sRet (vTup (aCons (vC (.str 5)) (aCons (vVar 3) (aCons (vVar 4) (aCons (vVar 5) aNil)))))) sNx) c__law_call_4)
/-- line 150 -/
def c__law_call_6 : SM := (sRet (vTup (aCons (vC (.str 12)) (aCons (vVar 3) (aCons (vVar 4) (aCons (vVar 5) (aCons (vOp ixD (vTup (aCons (vC (.str 1)) (aCons (vC (.str 1)) (aCons (vC (.str 0)) aNil)))) (vCall m__law_next (aCons (vVar 0) (aCons (vC (.int 3)) aNil)))) (aCons (vVar 6) aNil))))))))
/-- line 148 on -/
def c__law_call_7 : SM := (sSeq (sIf (tOf (vOp eqD (vCall m__law_next (aCons (vVar 0) (aCons (vC (.int 3)) aNil))) (vC (.int 0)))) (sAsg 6 (vTup (aCons (vCall m__law_next (aCons (vVar 0) (aCons (vC (.int 2)) aNil))) (aCons (vCall m__law_next (aCons (vVar 0) (aCons (vOp subD (vC (.int 5)) (vVar 5)) aNil))) aNil)))) sNx) c__law_call_6)
/-- line 146 on -/
def c__law_call_8 : SM := (sSeq (sIf (tOf (vOp ltD (vVar 2) (vC (.int 15)))) (sSeq (sAsg 6 (vC .non)) c__law_call_7) sNx) c__law_call_5)
/-- line 144 on -/
def c__law_call_9 : SM := (sSeq (sIf (tOf (vOp eqD (vVar 2) (vC (.int 11)))) (sRet (vTup (aCons (vC (.str 8)) (aCons (vVar 3) (aCons (vVar 4) (aCons (vCall m__law_next (aCons (vVar 0) (aCons (vC (.int 2)) aNil))) (aCons (vCall m__law_next (aCons (vVar 0) (aCons (vC (.int 4)) aNil))) (aCons (vOp addD (vC (.int 1)) (vCall m__law_next (aCons (vVar 0) (aCons (vC (.int 9)) aNil)))) aNil)))))))) sNx) c__law_call_8)
/-- line 142 on -/
def c__law_call_10 : SM := (sSeq (sIf (tOf (vOp ltD (vVar 2) (vC (.int 11)))) (sRet (vTup (aCons (vC (.str 3)) (aCons (vVar 3) (aCons (vVar 4) (aCons (vCall m__law_next (aCons (vVar 0) (aCons (vC (.int 2)) aNil))) aNil)))))) sNx) c__law_call_9)
/-- line 140 on -/
def c__law_call_11 : SM := (sSeq (sIf (tOf (vOp ltD (vVar 2) (vC (.int 6)))) (sRet (vTup (aCons (vC (.str 7)) (aCons (vVar 3) (aCons (vVar 4) (aCons (vCall m__law_next (aCons (vVar 0) (aCons (vC (.int 2)) aNil))) (aCons (vOp addD (vC (.int 1)) (vCall m__law_next (aCons (vVar 0) (aCons (vC (.int 9)) aNil)))) aNil))))))) sNx) c__law_call_10)
/-- line 139 on -/
def c__law_call_12 : SM := (sSeq (sAsg 5 (vOp addD (vC (.int 1)) (vCall m__law_next (aCons (vVar 0) (aCons (vCB minD (aCons (vC (.int 3)) (aCons (vOp subD (vC (.int 8)) (vVar 4)) aNil))) aNil))))) c__law_call_11)
/-- line 138 on -/
def c__law_call_13 : SM := (sSeq (sAsg 4 (vCall m__law_next (aCons (vVar 0) (aCons (vOp ixD (vTup (aCons (vC (.int 3)) (aCons (vC (.int 8)) aNil))) (vOp divD (vCall m__law_next (aCons (vVar 0) (aCons (vC (.int 4)) aNil))) (vC (.int 3)))) aNil)))) c__law_call_12)
/-- line 137 on -/
def c__law_call_14 : SM := (sSeq (sAsg 3 (vCall m__law_next (aCons (vVar 0) (aCons (vVar 1) aNil)))) c__law_call_13)
def b__law_call : SM := (sSeq (sAsg 2 (vCall m__law_next (aCons (vVar 0) (aCons (vC (.int 24)) aNil)))) c__law_call_14)
def m__law_call : MF := fnM 2 7 b__law_call
def b_new_plain : SM := (sRet (vDisp (pCons (vC (.str 14)) (vDisp (pCons (vC (.int 0)) (vTup (aCons (vDct0 false) (aCons (vDct0 true) aNil))) pNil)) (pCons (vC (.str 13)) (vDct0 true) pNil))))
def m_new_plain : MF := fnM 0 0 b_new_plain
def b__law_new : SM := (sRet (vLst (aCons (vDisp (pCons (vC (.int 0)) (vTup (aCons (vDct0 false) (aCons (vDct0 true) aNil))) pNil)) (aCons (vDct0 true) aNil))))
def m__law_new : MF := fnM 0 0 b__law_new
/-- line 254 -/
def c_law_1 : SM := (sRet (vC (.bl true)))
/-- line 253 -/
def c_law_2 : SM := (sAsg 3 (vVar 8))
/-- the loop of line 250 -/
def c_law_3 : SM := (sSeq (sTgt (vCall m__law_table (aCons (vVar 2) (aCons (vVar 9) (aCons (vVar 10) (aCons (vOp modD (vVar 4) (vC (.int 2))) aNil))))) (gT 2 (gsC (gN 11) (gsC (gN 12) gsN)))) (sIf (tOf (vOp neD (vCall m_cell_of (aCons (vVar 8) (aCons (vVar 9) (aCons (vVar 10) (aCons (vOp modD (vVar 4) (vC (.int 2))) aNil))))) (vDGet (vVar 11) (aCons (vVar 12) (aCons (vC (.int 0)) aNil))))) (sRet (vC (.bl false))) sNx))
/-- line 248 on -/
def c_law_4 : SM := (sSeq (sLock (pkOf (vOp ixD (vVar 2) (vC (.int 0)))) (sFor (iKey (vOp ixD (vVar 2) (vC (.int 0)))) (gN 9) (sLock (pkOf (vOp ixD (vOp ixC (vOp ixD (vVar 2) (vC (.int 0))) (vVar 9)) (vC (.int 0)))) (sFor (iKey (vOp ixD (vOp ixC (vOp ixD (vVar 2) (vC (.int 0))) (vVar 9)) (vC (.int 0)))) (gN 10) c_law_3)))) c_law_2)
/-- line 246 on -/
def c_law_5 : SM := (sSeq (sIf (tOf (vOp (eqX true) (vCall m__law_seen (aCons (vVar 8) aNil)) (vCall m__law_shows (aCons (vVar 2) aNil)))) (sRet (vC (.bl false))) sNx) c_law_4)
/-- line 244 on -/
def c_law_6 : SM := (sSeq (sIf (tOr (tOf (vOp (eqX true) (vCall m__law_seen (aCons (vVar 3) aNil)) (vVar 6))) (tOr (tOf (vOp neD (vVar 7) (vCall m__law_does (aCons (vVar 2) (aCons (vVar 5) aNil))))) (tNot (tTru (vUn (isiD .tuple) (vVar 7)))))) (sRet (vC (.bl false))) sNx) c_law_5)
/-- line 243 on -/
def c_law_7 : SM := (sSeq (sAsg 8 (vCall m_after_call (aCons (vVar 3) (aCons (vVar 5) aNil)))) c_law_6)
/-- line 242 on -/
def c_law_8 : SM := (sSeq (sAsg 7 (vCall m_answer_of (aCons (vVar 3) (aCons (vVar 5) aNil)))) c_law_7)
/-- line 241 on -/
def c_law_9 : SM := (sSeq (sAsg 6 (vCall m__law_seen (aCons (vVar 3) aNil))) c_law_8)
/-- the loop of line 240 -/
def c_law_10 : SM := (sSeq (sAsg 5 (vCall m__law_call (aCons (vVar 1) (aCons (vC (.int 4)) aNil)))) c_law_9)
/-- line 239 on -/
def c_law_11 : SM := (sSeq (sFor (iRng1 (vOp ixD (vTup (aCons (vC (.int 6)) (aCons (vC (.int 12)) (aCons (vC (.int 30)) aNil)))) (vCall m__law_next (aCons (vVar 1) (aCons (vC (.int 3)) aNil))))) (gN 4) c_law_10) c_law_1)
/-- line 238 on -/
def c_law_12 : SM := (sSeq (sAsg 3 (vCall m_new_plain aNil)) c_law_11)
/-- line 237 on -/
def c_law_13 : SM := (sSeq (sAsg 2 (vCall m__law_new aNil)) c_law_12)
def b_law : SM := (sSeq (sAsg 1 (vLstO (aCons (vCB listD (aCons (vVar 0) aNil)) (aCons (vC (.int 0)) (aCons (vC (.int 0)) (aCons (vC (.int 5)) aNil)))))) c_law_13)
def m_law : MF := fnM 1 13 b_law
/-! ### what is asked of the top -/
def TAB : List Str := (["r", "rw", "end", "load", "protect", "unmap", "fork", "store", "change", "begin", "evict", "sync", "map", "files", "spaces", "ok", "taken", "full", "none", "fault", ""] : List Str)
theorem tab_nd : TAB.Nodup := by decide +kernel
theorem tab_sk : TAB.all PyData.strOk = true := by decide +kernel
structure Facts (Kt : Kit) : Prop where
  tb : Kt.tab = TAB
  f_range : Kt.mg "range" = none
  f_int : Kt.mg "int" = none
  f_len : Kt.mg "len" = none
  f_abs : Kt.mg "abs" = none
  f_dict : Kt.mg "dict" = none
  f_isinstance : Kt.mg "isinstance" = none
  f_tuple : Kt.mg "tuple" = none
  f_list : Kt.mg "list" = none
  f_any : Kt.mg "any" = none
  i_SPACES : ∃ t, Kt.mg "SPACES" = some (.int 4 t)
  f_min : Kt.mg "min" = none
  d__law_next : ∃ f fd, Kt.mg "_law_next" = some (.ref f) ∧ PySem.W.keepIn Kt.K (.ref f) = true ∧ FunD Kt.K "_law_next" "_law_next" (defArgs s__law_next) (defBody s__law_next) (defScope s__law_next) [] [] f fd
  d_cell_of : ∃ f fd, Kt.mg "cell_of" = some (.ref f) ∧ PySem.W.keepIn Kt.K (.ref f) = true ∧ FunD Kt.K "cell_of" "cell_of" (defArgs s_cell_of) (defBody s_cell_of) (defScope s_cell_of) [] [] f fd
  d__law_table : ∃ f fd, Kt.mg "_law_table" = some (.ref f) ∧ PySem.W.keepIn Kt.K (.ref f) = true ∧ FunD Kt.K "_law_table" "_law_table" (defArgs s__law_table) (defBody s__law_table) (defScope s__law_table) [] [] f fd
  d__law_shows : ∃ f fd, Kt.mg "_law_shows" = some (.ref f) ∧ PySem.W.keepIn Kt.K (.ref f) = true ∧ FunD Kt.K "_law_shows" "_law_shows" (defArgs s__law_shows) (defBody s__law_shows) (defScope s__law_shows) [] [] f fd
  d__law_seen : ∃ f fd, Kt.mg "_law_seen" = some (.ref f) ∧ PySem.W.keepIn Kt.K (.ref f) = true ∧ FunD Kt.K "_law_seen" "_law_seen" (defArgs s__law_seen) (defBody s__law_seen) (defScope s__law_seen) [] [] f fd
  d__law_born : ∃ f fd, Kt.mg "_law_born" = some (.ref f) ∧ PySem.W.keepIn Kt.K (.ref f) = true ∧ FunD Kt.K "_law_born" "_law_born" (defArgs s__law_born) (defBody s__law_born) (defScope s__law_born) [] [] f fd
  d__law_cells : ∃ f fd, Kt.mg "_law_cells" = some (.ref f) ∧ PySem.W.keepIn Kt.K (.ref f) = true ∧ FunD Kt.K "_law_cells" "_law_cells" (defArgs s__law_cells) (defBody s__law_cells) (defScope s__law_cells) [] [] f fd
  d__law_does : ∃ f fd, Kt.mg "_law_does" = some (.ref f) ∧ PySem.W.keepIn Kt.K (.ref f) = true ∧ FunD Kt.K "_law_does" "_law_does" (defArgs s__law_does) (defBody s__law_does) (defScope s__law_does) [] [] f fd
  d_with_entry : ∃ f fd, Kt.mg "with_entry" = some (.ref f) ∧ PySem.W.keepIn Kt.K (.ref f) = true ∧ FunD Kt.K "with_entry" "with_entry" (defArgs s_with_entry) (defBody s_with_entry) (defScope s_with_entry) [] [] f fd
  d_with_space : ∃ f fd, Kt.mg "with_space" = some (.ref f) ∧ PySem.W.keepIn Kt.K (.ref f) = true ∧ FunD Kt.K "with_space" "with_space" (defArgs s_with_space) (defBody s_with_space) (defScope s_with_space) [] [] f fd
  d_after_space : ∃ f fd, Kt.mg "after_space" = some (.ref f) ∧ PySem.W.keepIn Kt.K (.ref f) = true ∧ FunD Kt.K "after_space" "after_space" (defArgs s_after_space) (defBody s_after_space) (defScope s_after_space) [] [] f fd
  d_protected : ∃ f fd, Kt.mg "protected" = some (.ref f) ∧ PySem.W.keepIn Kt.K (.ref f) = true ∧ FunD Kt.K "protected" "protected" (defArgs s_protected) (defBody s_protected) (defScope s_protected) [] [] f fd
  d_unmapped : ∃ f fd, Kt.mg "unmapped" = some (.ref f) ∧ PySem.W.keepIn Kt.K (.ref f) = true ∧ FunD Kt.K "unmapped" "unmapped" (defArgs s_unmapped) (defBody s_unmapped) (defScope s_unmapped) [] [] f fd
  d_mapped : ∃ f fd, Kt.mg "mapped" = some (.ref f) ∧ PySem.W.keepIn Kt.K (.ref f) = true ∧ FunD Kt.K "mapped" "mapped" (defArgs s_mapped) (defBody s_mapped) (defScope s_mapped) [] [] f fd
  d_with_cell : ∃ f fd, Kt.mg "with_cell" = some (.ref f) ∧ PySem.W.keepIn Kt.K (.ref f) = true ∧ FunD Kt.K "with_cell" "with_cell" (defArgs s_with_cell) (defBody s_with_cell) (defScope s_with_cell) [] [] f fd
  d_after_use : ∃ f fd, Kt.mg "after_use" = some (.ref f) ∧ PySem.W.keepIn Kt.K (.ref f) = true ∧ FunD Kt.K "after_use" "after_use" (defArgs s_after_use) (defBody s_after_use) (defScope s_after_use) [] [] f fd
  d_new_space : ∃ f fd, Kt.mg "new_space" = some (.ref f) ∧ PySem.W.keepIn Kt.K (.ref f) = true ∧ FunD Kt.K "new_space" "new_space" (defArgs s_new_space) (defBody s_new_space) (defScope s_new_space) [] [] f fd
  d_page_of : ∃ f fd, Kt.mg "page_of" = some (.ref f) ∧ PySem.W.keepIn Kt.K (.ref f) = true ∧ FunD Kt.K "page_of" "page_of" (defArgs s_page_of) (defBody s_page_of) (defScope s_page_of) [] [] f fd
  d_use_refusal : ∃ f fd, Kt.mg "use_refusal" = some (.ref f) ∧ PySem.W.keepIn Kt.K (.ref f) = true ∧ FunD Kt.K "use_refusal" "use_refusal" (defArgs s_use_refusal) (defBody s_use_refusal) (defScope s_use_refusal) [] [] f fd
  d_use_answer : ∃ f fd, Kt.mg "use_answer" = some (.ref f) ∧ PySem.W.keepIn Kt.K (.ref f) = true ∧ FunD Kt.K "use_answer" "use_answer" (defArgs s_use_answer) (defBody s_use_answer) (defScope s_use_answer) [] [] f fd
  d_answer_of : ∃ f fd, Kt.mg "answer_of" = some (.ref f) ∧ PySem.W.keepIn Kt.K (.ref f) = true ∧ FunD Kt.K "answer_of" "answer_of" (defArgs s_answer_of) (defBody s_answer_of) (defScope s_answer_of) [] [] f fd
  d_after_call : ∃ f fd, Kt.mg "after_call" = some (.ref f) ∧ PySem.W.keepIn Kt.K (.ref f) = true ∧ FunD Kt.K "after_call" "after_call" (defArgs s_after_call) (defBody s_after_call) (defScope s_after_call) [] [] f fd
  d__law_call : ∃ f fd, Kt.mg "_law_call" = some (.ref f) ∧ PySem.W.keepIn Kt.K (.ref f) = true ∧ FunD Kt.K "_law_call" "_law_call" (defArgs s__law_call) (defBody s__law_call) (defScope s__law_call) [] [] f fd
  d_new_plain : ∃ f fd, Kt.mg "new_plain" = some (.ref f) ∧ PySem.W.keepIn Kt.K (.ref f) = true ∧ FunD Kt.K "new_plain" "new_plain" (defArgs s_new_plain) (defBody s_new_plain) (defScope s_new_plain) [] [] f fd
  d__law_new : ∃ f fd, Kt.mg "_law_new" = some (.ref f) ∧ PySem.W.keepIn Kt.K (.ref f) = true ∧ FunD Kt.K "_law_new" "_law_new" (defArgs s__law_new) (defBody s__law_new) (defScope s__law_new) [] [] f fd
  d_law : ∃ f fd, Kt.mg "law" = some (.ref f) ∧ PySem.W.keepIn Kt.K (.ref f) = true ∧ FunD Kt.K "law" "law" (defArgs s_law) (defBody s_law) (defScope s_law) [] [] f fd
section
variable {Kt : Kit}
theorem Facts.s (T : Facts Kt) {n : Nat} {x : Str} (h : TAB[n]? = some x) : Kt.tab[n]? = some x := by rw [T.tb]; exact h
theorem Facts.c_SPACES (T : Facts Kt) {X : Cx} {W : WX} {k : Nat} {pos : Pos} (A : At Kt X W k) (hg : Gl X "SPACES" := by rfl) : PE X (.Name "SPACES" pos) (te Kt W (vC (.int 4))) := by
  obtain ⟨t, h⟩ := T.i_SPACES
  exact se_glob (v := .int 4) A h ⟨t, rfl⟩ (fun _ _ => .int _) hg
/-! ### the walks -/
abbrev NN__law_next : List Str := ["_law_tape", "_law_many", "_law_rest", "_law_cell"]
theorem sc__law_next : FnScope ["_law_tape", "_law_many", "_law_rest", "_law_cell"] ["_law_tape", "_law_many"] (defScope s__law_next) := ⟨rfl, rfl, rfl, by decide +kernel, rfl, by decide +kernel, by decide +kernel⟩
theorem g__law_next (T : Facts Kt) : FnK Kt 1 "_law_next" 2 m__law_next := by
  obtain ⟨f, fd, h1, h2, F⟩ := T.d__law_next
  exact ⟨f, h1, h2, fn_at F sc__law_next (fun _ _ _ _ _ _ us hl => match us, hl with | [_, _], _ => rfl) fun cdv Ar outer s H E A => (ss_cons (ss_set 2 A (se_ix A (se_var 0) se_int))
    (ss_cons (ss_if (st_cmp cm_gt (se_var 2) se_int) (ss_cons (ss_sub A (se_var 0) se_int (se_div (se_var 2) (se_var 1)))
    (ss_one (ss_ret (se_mod (se_int1 A T.f_int (sa_cons (se_var 2) sa_nil)) (se_var 1))))) ss_nil)
    (ss_cons (ss_set 3 A se_int)
    (ss_cons (ss_if (st_cmp cm_lt (se_ix A (se_var 0) se_int) (se_len A T.f_len (sa_cons (se_ix A (se_var 0) se_int) sa_nil))) (ss_cons (ss_set 3 A (se_abs A T.f_abs (sa_cons (se_ix A (se_ix A (se_var 0) se_int) (se_ix A (se_var 0) se_int)) sa_nil)))
    (ss_one (ss_augI A (se_var 0) se_int se_int))) ss_nil)
    (ss_cons (ss_if (st_cmp cm_ge (se_var 3) (se_pow se_int se_int)) (ss_cons (ss_sub A (se_var 0) se_int (se_div (se_var 3) (se_var 1)))
    (ss_one (ss_ret (se_mod (se_int1 A T.f_int (sa_cons (se_var 3) sa_nil)) (se_var 1))))) ss_nil)
    (ss_cons (ss_sub A (se_var 0) se_int (se_mod (se_int1 A T.f_int (sa_cons (se_add A (se_add A (se_mul (se_ix A (se_var 0) se_int) se_int) (se_mul (se_var 3) se_int)) se_int) sa_nil)) se_int))
    (ss_one (ss_ret (se_mod (se_int1 A T.f_int (sa_cons (se_div (se_mod (se_mul (se_ix A (se_var 0) se_int) se_int) se_int) se_int) sa_nil)) (se_var 1))))))))))⟩
abbrev NN_cell_of : List Str := ["plain", "space", "page", "index", "pages", "cells", "source"]
theorem sc_cell_of : FnScope ["plain", "space", "page", "index", "pages", "cells", "source"] ["plain", "space", "page", "index"] (defScope s_cell_of) := ⟨rfl, rfl, rfl, by decide +kernel, rfl, by decide +kernel, by decide +kernel⟩
theorem g_cell_of (T : Facts Kt) : FnK Kt 1 "cell_of" 4 m_cell_of := by
  obtain ⟨f, fd, h1, h2, F⟩ := T.d_cell_of
  exact ⟨f, h1, h2, fn_at F sc_cell_of (fun _ _ _ _ _ _ us hl => match us, hl with | [_, _, _, _], _ => rfl) fun cdv Ar outer s H E A => (ss_cons (ss_asg (vs := [4, 5]) A (se_ixC A (se_ixC A (se_var 0) (se_str 14 (T.s rfl))) (se_var 1)) (sg_tup 2 A (sgs_cons (sg_name 4 A.nd (by simp)) (sgs_cons (sg_name 5 A.nd (by simp)) sgs_nil))))
    (ss_cons (ss_set 6 A (se_ix A (se_ixC A (se_var 4) (se_var 2)) se_int))
    (ss_cons (ss_if (st_cmp cm_is (se_var 6) se_non) (ss_one (ss_ret (se_dget A (se_var 5) (sa_cons (se_tup (sa_cons (se_var 2) (sa_cons (se_var 3) sa_nil))) (sa_cons se_int sa_nil))))) ss_nil)
    (ss_one (ss_ret (se_dget A (se_ixC A (se_var 0) (se_str 13 (T.s rfl))) (sa_cons (se_add A (se_var 6) (se_tup (sa_cons (se_var 3) sa_nil))) (sa_cons se_int sa_nil))))))))⟩
abbrev NN__law_table : List Str := ["_law_plain", "_law_space", "_law_page", "_law_index", "_law_pages", "_law_cells_here", "_law_source"]
theorem sc__law_table : FnScope ["_law_plain", "_law_space", "_law_page", "_law_index", "_law_pages", "_law_cells_here", "_law_source"] ["_law_plain", "_law_space", "_law_page", "_law_index"] (defScope s__law_table) := ⟨rfl, rfl, rfl, by decide +kernel, rfl, by decide +kernel, by decide +kernel⟩
theorem g__law_table (T : Facts Kt) : FnK Kt 1 "_law_table" 4 m__law_table := by
  obtain ⟨f, fd, h1, h2, F⟩ := T.d__law_table
  exact ⟨f, h1, h2, fn_at F sc__law_table (fun _ _ _ _ _ _ us hl => match us, hl with | [_, _, _, _], _ => rfl) fun cdv Ar outer s H E A => (ss_cons (ss_asg (vs := [4, 5]) A (se_ixC A (se_ix A (se_var 0) se_int) (se_var 1)) (sg_tup 2 A (sgs_cons (sg_name 4 A.nd (by simp)) (sgs_cons (sg_name 5 A.nd (by simp)) sgs_nil))))
    (ss_cons (ss_set 6 A (se_ix A (se_ixC A (se_var 4) (se_var 2)) se_int))
    (ss_cons (ss_if (st_cmp cm_is (se_var 6) se_non) (ss_one (ss_ret (se_tup (sa_cons (se_var 5) (sa_cons (se_tup (sa_cons (se_var 2) (sa_cons (se_var 3) sa_nil))) sa_nil))))) ss_nil)
    (ss_one (ss_ret (se_tup (sa_cons (se_ix A (se_var 0) se_int) (sa_cons (se_tup (sa_cons (se_ix A (se_var 6) se_int) (sa_cons (se_ix A (se_var 6) se_int) (sa_cons (se_var 3) sa_nil)))) sa_nil))))))))⟩
abbrev NN__law_shows : List Str := ["_law_plain", "_law_spaces", "_law_space", "_law_pages", "_law_cells_here", "_law_files", "_law_place"]
theorem sc__law_shows : FnScope ["_law_plain", "_law_spaces", "_law_space", "_law_pages", "_law_cells_here", "_law_files", "_law_place"] ["_law_plain"] (defScope s__law_shows) := ⟨rfl, rfl, rfl, by decide +kernel, rfl, by decide +kernel, by decide +kernel⟩
theorem g__law_shows (T : Facts Kt) : FnK Kt 1 "_law_shows" 1 m__law_shows := by
  obtain ⟨f, fd, h1, h2, F⟩ := T.d__law_shows
  exact ⟨f, h1, h2, fn_at F sc__law_shows (fun _ _ _ _ _ _ us hl => match us, hl with | [_], _ => rfl) fun cdv Ar outer s H E A => (ss_cons (ss_set 1 A (se_dct0 false))
    (ss_cons (ss_lock (ss_for (vs := [2]) A (si_key (se_ix A (se_var 0) se_int)) (sg_name 2 A.nd (by simp)) (ss_cons (ss_asg (vs := [3, 4]) A (se_ixC A (se_ix A (se_var 0) se_int) (se_var 2)) (sg_tup 2 A (sgs_cons (sg_name 3 A.nd (by simp)) (sgs_cons (sg_name 4 A.nd (by simp)) sgs_nil))))
    (ss_one (ss_subC A (se_var 1) (se_var 2) (se_tup (sa_cons (se_dctC A T.f_dict (sa_cons (se_var 3) sa_nil)) (sa_cons (se_dctT A T.f_dict (sa_cons (se_lock (se_lc (own := [("_law_place", 6)]) A (si_key (se_var 4)) (blkOk_by (N := NN__law_shows) (sc := defScope s__law_shows) (by decide +kernel)) (fun _ _ _ _ _ => (sg_name 6 A.nd (by simp))) (fun _ _ _ _ _ A => (sts_one (st_cmp (cm_ne A) (se_ixC A (se_var 4) (se_var 6)) se_int))) (fun _ _ _ _ _ A => (se_tup (sa_cons (se_var 6) (sa_cons (se_ixC A (se_var 4) (se_var 6)) sa_nil)))))) sa_nil)) sa_nil))))))))
    (ss_cons (ss_set 5 A (se_dctT A T.f_dict (sa_cons (se_lock (se_lc (own := [("_law_place", 6)]) A (si_key (se_ix A (se_var 0) se_int)) (blkOk_by (N := NN__law_shows) (sc := defScope s__law_shows) (by decide +kernel)) (fun _ _ _ _ _ => (sg_name 6 A.nd (by simp))) (fun _ _ _ _ _ A => (sts_one (st_cmp (cm_ne A) (se_ixC A (se_ix A (se_var 0) se_int) (se_var 6)) se_int))) (fun _ _ _ _ _ A => (se_tup (sa_cons (se_var 6) (sa_cons (se_ixC A (se_ix A (se_var 0) se_int) (se_var 6)) sa_nil)))))) sa_nil)))
    (ss_one (ss_ret (se_disp (sp_cons (se_str 14 (T.s rfl)) (se_var 1) (sp_cons (se_str 13 (T.s rfl)) (se_var 5) sp_nil))))))))⟩
abbrev NN__law_seen : List Str := ["_law_state"]
theorem sc__law_seen : FnScope ["_law_state"] ["_law_state"] (defScope s__law_seen) := ⟨rfl, rfl, rfl, by decide +kernel, rfl, by decide +kernel, by decide +kernel⟩
theorem g__law_seen (T : Facts Kt) : FnK Kt 2 "_law_seen" 1 m__law_seen := by
  obtain ⟨f, fd, h1, h2, F⟩ := T.d__law_seen
  exact ⟨f, h1, h2, fn_at F sc__law_seen (fun _ _ _ _ _ _ us hl => match us, hl with | [_], _ => rfl) fun cdv Ar outer s H E A => (ss_one (ss_ret (se_call A ((g__law_shows T).mono (by decide)) (sa_cons (se_lst (sa_cons (se_ixC A (se_var 0) (se_str 14 (T.s rfl))) (sa_cons (se_ixC A (se_var 0) (se_str 13 (T.s rfl))) sa_nil))) sa_nil) (len_cons len_nil))))⟩
abbrev NN__law_born : List Str := ["_law_plain", "_law_call_here", "_law_fresh", "_law_pages", "_law_cells_here", "_law_space"]
theorem sc__law_born : FnScope ["_law_plain", "_law_call_here", "_law_fresh", "_law_pages", "_law_cells_here", "_law_space"] ["_law_plain", "_law_call_here"] (defScope s__law_born) := ⟨rfl, rfl, rfl, by decide +kernel, rfl, by decide +kernel, by decide +kernel⟩
theorem g__law_born (T : Facts Kt) : FnK Kt 1 "_law_born" 2 m__law_born := by
  obtain ⟨f, fd, h1, h2, F⟩ := T.d__law_born
  exact ⟨f, h1, h2, fn_at F sc__law_born (fun _ _ _ _ _ _ us hl => match us, hl with | [_, _], _ => rfl) fun cdv Ar outer s H E A => (ss_cons (ss_lc 2 (own := [("_law_space", 5)]) A (si_rng1 A se_int T.f_range) (blkOk_by (N := NN__law_born) (sc := defScope s__law_born) (by decide +kernel)) (fun _ _ _ _ _ => (sg_name 5 A.nd (by simp))) (fun _ _ _ _ _ A => (sts_one (st_cmp (cm_notinC A) (se_var 5) (se_ix A (se_var 0) se_int)))) (fun _ _ _ _ _ A => (se_var 5)))
    (ss_cons (ss_if (st_cmp (cm_eq A) (se_var 2) (se_lst sa_nil)) (ss_one (ss_ret (se_tup (sa_cons (se_str 17 (T.s rfl)) (sa_cons se_non sa_nil))))) ss_nil)
    (ss_cons (ss_subC A (se_ix A (se_var 0) se_int) (se_ix A (se_var 2) se_int) (se_tup (sa_cons (se_dct0 false) (sa_cons (se_dct0 true) sa_nil))))
    (ss_cons (ss_if (st_cmp (cm_eq A) (se_ix A (se_var 1) se_int) (se_str 6 (T.s rfl))) (ss_cons (ss_asg (vs := [3, 4]) A (se_ixC A (se_ix A (se_var 0) se_int) (se_ix A (se_var 1) se_int)) (sg_tup 2 A (sgs_cons (sg_name 3 A.nd (by simp)) (sgs_cons (sg_name 4 A.nd (by simp)) sgs_nil))))
    (ss_one (ss_subC A (se_ix A (se_var 0) se_int) (se_ix A (se_var 2) se_int) (se_tup (sa_cons (se_dctC A T.f_dict (sa_cons (se_var 3) sa_nil)) (sa_cons (se_dctC A T.f_dict (sa_cons (se_var 4) sa_nil)) sa_nil)))))) ss_nil)
    (ss_one (ss_ret (se_tup (sa_cons (se_str 15 (T.s rfl)) (sa_cons (se_ix A (se_var 2) se_int) sa_nil)))))))))⟩
abbrev NN__law_cells : List Str := ["_law_plain", "_law_call_here", "_law_pages", "_law_table_here", "_law_place", "_law_value"]
theorem sc__law_cells : FnScope ["_law_plain", "_law_call_here", "_law_pages", "_law_table_here", "_law_place", "_law_value"] ["_law_plain", "_law_call_here"] (defScope s__law_cells) := ⟨rfl, rfl, rfl, by decide +kernel, rfl, by decide +kernel, by decide +kernel⟩
theorem g__law_cells (T : Facts Kt) : FnK Kt 2 "_law_cells" 2 m__law_cells := by
  obtain ⟨f, fd, h1, h2, F⟩ := T.d__law_cells
  exact ⟨f, h1, h2, fn_at F sc__law_cells (fun _ _ _ _ _ _ us hl => match us, hl with | [_, _], _ => rfl) fun cdv Ar outer s H E A => (ss_cons (ss_if (st_cmp (cm_notinC A) (se_ix A (se_var 1) se_int) (se_ix A (se_var 0) se_int)) (ss_one (ss_ret (se_tup (sa_cons (se_str 18 (T.s rfl)) (sa_cons se_non sa_nil))))) ss_nil)
    (ss_cons (ss_set 2 A (se_ix A (se_ixC A (se_ix A (se_var 0) se_int) (se_ix A (se_var 1) se_int)) se_int))
    (ss_cons (ss_if (PW.pt (sw_or (st_cmp (cm_notinC A) (se_ix A (se_var 1) se_int) (se_var 2)) (sw_or1 (PW.pt (sw_and (st_cmp (cm_ne A) (se_ix A (se_var 1) se_int) (se_str 3 (T.s rfl))) (sw_and1 (st_cmp (cm_eq A) (se_ix A (se_ixC A (se_var 2) (se_ix A (se_var 1) se_int)) se_int) (se_str 0 (T.s rfl))))))))) (ss_one (ss_ret (se_tup (sa_cons (se_str 19 (T.s rfl)) (sa_cons se_non sa_nil))))) ss_nil)
    (ss_cons (ss_asg (vs := [3, 4]) A (se_call A ((g__law_table T).mono (by decide)) (sa_cons (se_var 0) (sa_cons (se_ix A (se_var 1) se_int) (sa_cons (se_ix A (se_var 1) se_int) (sa_cons (se_ix A (se_var 1) se_int) sa_nil)))) (len_cons (len_cons (len_cons (len_cons len_nil))))) (sg_tup 2 A (sgs_cons (sg_name 3 A.nd (by simp)) (sgs_cons (sg_name 4 A.nd (by simp)) sgs_nil))))
    (ss_cons (ss_set 5 A (se_dget A (se_var 3) (sa_cons (se_var 4) (sa_cons se_int sa_nil))))
    (ss_cons (ss_if (st_cmp (cm_eq A) (se_ix A (se_var 1) se_int) (se_str 3 (T.s rfl))) (ss_one (ss_ret (se_tup (sa_cons (se_str 15 (T.s rfl)) (sa_cons (se_var 5) sa_nil))))) ss_nil)
    (ss_cons (ss_if (st_cmp (cm_eq A) (se_ix A (se_var 1) se_int) (se_str 7 (T.s rfl))) (ss_cons (ss_subC A (se_var 3) (se_var 4) (se_ix A (se_var 1) se_int))
    (ss_one (ss_ret (se_tup (sa_cons (se_str 15 (T.s rfl)) (sa_cons se_non sa_nil)))))) ss_nil)
    (ss_cons (ss_if (st_cmp (cm_eq A) (se_var 5) (se_ix A (se_var 1) se_int)) (ss_one (ss_subC A (se_var 3) (se_var 4) (se_ix A (se_var 1) se_int))) ss_nil)
    (ss_one (ss_ret (se_tup (sa_cons (se_str 15 (T.s rfl)) (sa_cons (se_cmp (cm_eq A) (se_var 5) (se_ix A (se_var 1) se_int)) sa_nil)))))))))))))⟩
abbrev NN__law_does : List Str := ["_law_plain", "_law_call_here", "_law_kind", "_law_pages", "_law_cells_here", "_law_wanted", "_law_page", "_law_source"]
theorem sc__law_does : FnScope ["_law_plain", "_law_call_here", "_law_kind", "_law_pages", "_law_cells_here", "_law_wanted", "_law_page", "_law_source"] ["_law_plain", "_law_call_here"] (defScope s__law_does) := ⟨rfl, rfl, rfl, by decide +kernel, rfl, by decide +kernel, by decide +kernel⟩
theorem g__law_does (T : Facts Kt) : FnK Kt 3 "_law_does" 2 m__law_does := by
  obtain ⟨f, fd, h1, h2, F⟩ := T.d__law_does
  exact ⟨f, h1, h2, fn_at F sc__law_does (fun _ _ _ _ _ _ us hl => match us, hl with | [_, _], _ => rfl) fun cdv Ar outer s H E A => (ss_cons (ss_set 2 A (se_ix A (se_var 1) se_int))
    (ss_cons (ss_if (st_cmp (cm_in A) (se_var 2) (se_tup (sa_cons (se_str 3 (T.s rfl)) (sa_cons (se_str 7 (T.s rfl)) (sa_cons (se_str 8 (T.s rfl)) sa_nil))))) (ss_one (ss_ret (se_call A ((g__law_cells T).mono (by decide)) (sa_cons (se_var 0) (sa_cons (se_var 1) sa_nil)) (len_cons (len_cons len_nil))))) ss_nil)
    (ss_cons (ss_if (st_cmp (cm_in A) (se_var 2) (se_tup (sa_cons (se_str 10 (T.s rfl)) (sa_cons (se_str 11 (T.s rfl)) sa_nil)))) (ss_one (ss_ret (se_tup (sa_cons (se_str 15 (T.s rfl)) (sa_cons se_non sa_nil))))) ss_nil)
    (ss_cons (ss_if (PW.pt (sw_and (st_cmp (cm_ne A) (se_var 2) (se_str 9 (T.s rfl))) (sw_and1 (st_cmp (cm_notinC A) (se_ix A (se_var 1) se_int) (se_ix A (se_var 0) se_int))))) (ss_one (ss_ret (se_tup (sa_cons (se_str 18 (T.s rfl)) (sa_cons se_non sa_nil))))) ss_nil)
    (ss_cons (ss_if (st_cmp (cm_in A) (se_var 2) (se_tup (sa_cons (se_str 9 (T.s rfl)) (sa_cons (se_str 6 (T.s rfl)) sa_nil)))) (ss_one (ss_ret (se_call A ((g__law_born T).mono (by decide)) (sa_cons (se_var 0) (sa_cons (se_var 1) sa_nil)) (len_cons (len_cons len_nil))))) ss_nil)
    (ss_cons (ss_if (st_cmp (cm_eq A) (se_var 2) (se_str 2 (T.s rfl))) (ss_cons (ss_expr (se_dpop A (se_ix A (se_var 0) se_int) (sa_cons (se_ix A (se_var 1) se_int) sa_nil)))
    (ss_one (ss_ret (se_tup (sa_cons (se_str 15 (T.s rfl)) (sa_cons se_non sa_nil)))))) ss_nil)
    (ss_cons (ss_asg (vs := [3, 4]) A (se_ixC A (se_ix A (se_var 0) se_int) (se_ix A (se_var 1) se_int)) (sg_tup 2 A (sgs_cons (sg_name 3 A.nd (by simp)) (sgs_cons (sg_name 4 A.nd (by simp)) sgs_nil))))
    (ss_cons (ss_set 5 A (se_lrg2 A T.f_list T.f_range (se_ix A (se_var 1) se_int) (se_add A (se_ix A (se_var 1) se_int) (se_ix A (se_var 1) se_int))))
    (ss_cons (ss_if (PW.pt (sw_and (st_cmp (cm_eq A) (se_var 2) (se_str 12 (T.s rfl))) (sw_and1 (st_cmp cm_gt (se_len A T.f_len (sa_cons (se_lc (own := [("_law_page", 6)]) A (si_lst A (se_var 5)) (blkOk_by (N := NN__law_does) (sc := defScope s__law_does) (by decide +kernel)) (fun _ _ _ _ _ => (sg_name 6 A.nd (by simp))) (fun _ _ _ _ _ A => (sts_one (st_cmp (cm_inC A) (se_var 6) (se_var 3)))) (fun _ _ _ _ _ A => (se_var 6))) sa_nil)) se_int)))) (ss_one (ss_ret (se_tup (sa_cons (se_str 16 (T.s rfl)) (sa_cons se_non sa_nil))))) ss_nil)
    (ss_cons (ss_for (vs := [6]) A (si_lst A (se_var 5)) (sg_name 6 A.nd (by simp)) (ss_one (ss_if (st_cmp (cm_eq A) (se_var 2) (se_str 12 (T.s rfl))) (ss_cons (ss_set 7 A (se_ix A (se_var 1) se_int))
    (ss_one (ss_subC A (se_var 3) (se_var 6) (se_tup (sa_cons (se_ix A (se_var 1) se_int) (sa_cons (se_if (st_cmp cm_is (se_var 7) se_non) se_non (se_tup (sa_cons (se_ix A (se_var 7) se_int) (sa_cons (se_sub (se_add A (se_ix A (se_var 7) se_int) (se_var 6)) (se_ix A (se_var 1) se_int)) sa_nil)))) sa_nil)))))) (ss_one (ss_if (PW.pt (sw_and (st_cmp (cm_inC A) (se_var 6) (se_var 3)) (sw_and1 (st_cmp (cm_eq A) (se_var 2) (se_str 4 (T.s rfl)))))) (ss_one (ss_subC A (se_var 3) (se_var 6) (se_tup (sa_cons (se_ix A (se_var 1) se_int) (sa_cons (se_ix A (se_ixC A (se_var 3) (se_var 6)) se_int) sa_nil))))) (ss_one (ss_if (st_cmp (cm_inC A) (se_var 6) (se_var 3)) (ss_cons (ss_expr (se_dpop A (se_var 3) (sa_cons (se_var 6) sa_nil)))
    (ss_cons (ss_expr (se_dpop A (se_var 4) (sa_cons (se_tup (sa_cons (se_var 6) (sa_cons se_int sa_nil))) (sa_cons se_non sa_nil))))
    (ss_one (ss_expr (se_dpop A (se_var 4) (sa_cons (se_tup (sa_cons (se_var 6) (sa_cons se_int sa_nil))) (sa_cons se_non sa_nil))))))) ss_nil)))))))
    (ss_one (ss_ret (se_tup (sa_cons (se_str 15 (T.s rfl)) (sa_cons se_non sa_nil)))))))))))))))⟩
abbrev NN_with_entry : List Str := ["table", "key", "value", "changed"]
theorem sc_with_entry : FnScope ["table", "key", "value", "changed"] ["table", "key", "value"] (defScope s_with_entry) := ⟨rfl, rfl, rfl, by decide +kernel, rfl, by decide +kernel, by decide +kernel⟩
theorem g_with_entry (T : Facts Kt) : FnK Kt 1 "with_entry" 3 m_with_entry := by
  obtain ⟨f, fd, h1, h2, F⟩ := T.d_with_entry
  exact ⟨f, h1, h2, fn_at F sc_with_entry (fun _ _ _ _ _ _ us hl => match us, hl with | [_, _, _], _ => rfl) fun cdv Ar outer s H E A => (ss_cons (ss_set 3 A (se_dctC A T.f_dict (sa_cons (se_var 0) sa_nil)))
    (ss_cons (ss_subC A (se_var 3) (se_var 1) (se_var 2))
    (ss_one (ss_ret (se_var 3)))))⟩
abbrev NN_with_space : List Str := ["plain", "space", "value"]
theorem sc_with_space : FnScope ["plain", "space", "value"] ["plain", "space", "value"] (defScope s_with_space) := ⟨rfl, rfl, rfl, by decide +kernel, rfl, by decide +kernel, by decide +kernel⟩
theorem g_with_space (T : Facts Kt) : FnK Kt 2 "with_space" 3 m_with_space := by
  obtain ⟨f, fd, h1, h2, F⟩ := T.d_with_space
  exact ⟨f, h1, h2, fn_at F sc_with_space (fun _ _ _ _ _ _ us hl => match us, hl with | [_, _, _], _ => rfl) fun cdv Ar outer s H E A => (ss_one (ss_ret (se_disp (sp_cons (se_str 14 (T.s rfl)) (se_call A ((g_with_entry T).mono (by decide)) (sa_cons (se_ixC A (se_var 0) (se_str 14 (T.s rfl))) (sa_cons (se_var 1) (sa_cons (se_var 2) sa_nil))) (len_cons (len_cons (len_cons len_nil)))) (sp_cons (se_str 13 (T.s rfl)) (se_ixC A (se_var 0) (se_str 13 (T.s rfl))) sp_nil)))))⟩
abbrev NN_after_space : List Str := ["plain", "call", "space", "spaces", "left", "value", "other"]
theorem sc_after_space : FnScope ["plain", "call", "space", "spaces", "left", "value", "other"] ["plain", "call", "space"] (defScope s_after_space) := ⟨rfl, rfl, rfl, by decide +kernel, rfl, by decide +kernel, by decide +kernel⟩
theorem g_after_space (T : Facts Kt) : FnK Kt 3 "after_space" 3 m_after_space := by
  obtain ⟨f, fd, h1, h2, F⟩ := T.d_after_space
  exact ⟨f, h1, h2, fn_at F sc_after_space (fun _ _ _ _ _ _ us hl => match us, hl with | [_, _, _], _ => rfl) fun cdv Ar outer s H E A => (ss_cons (ss_if (st_cmp (cm_eq A) (se_ix A (se_var 1) se_int) (se_str 2 (T.s rfl))) (ss_cons (ss_set 3 A (se_ixC A (se_var 0) (se_str 14 (T.s rfl))))
    (ss_cons (ss_lock (ss_dcG (kdK _) drK 4 (own := [("other", 6)]) A (si_key (se_var 3)) (blkOk_by (N := NN_after_space) (sc := defScope s_after_space) (by decide +kernel)) (fun _ _ _ _ _ => (sg_name 6 A.nd (by simp))) (fun _ _ _ _ _ A => (sts_one (st_cmp (cm_ne A) (se_var 6) (se_ix A (se_var 1) se_int)))) (fun _ _ _ _ _ A => (se_var 6)) (fun _ _ _ _ _ A => (se_ixC A (se_var 3) (se_var 6)))))
    (ss_one (ss_ret (se_disp (sp_cons (se_str 14 (T.s rfl)) (se_var 4) (sp_cons (se_str 13 (T.s rfl)) (se_ixC A (se_var 0) (se_str 13 (T.s rfl))) sp_nil))))))) ss_nil)
    (ss_cons (ss_set 5 A (se_tup (sa_cons (se_dct0 false) (sa_cons (se_dct0 true) sa_nil))))
    (ss_cons (ss_if (st_cmp (cm_eq A) (se_ix A (se_var 1) se_int) (se_str 6 (T.s rfl))) (ss_one (ss_set 5 A (se_ixC A (se_ixC A (se_var 0) (se_str 14 (T.s rfl))) (se_ix A (se_var 1) se_int)))) ss_nil)
    (ss_one (ss_ret (se_call A ((g_with_space T).mono (by decide)) (sa_cons (se_var 0) (sa_cons (se_var 2) (sa_cons (se_var 5) sa_nil))) (len_cons (len_cons (len_cons len_nil)))))))))⟩
abbrev NN_protected : List Str := ["plain", "call", "_", "space", "first", "pages", "rights", "table", "cells", "changed", "page"]
theorem sc_protected : FnScope ["plain", "call", "_", "space", "first", "pages", "rights", "table", "cells", "changed", "page"] ["plain", "call"] (defScope s_protected) := ⟨rfl, rfl, rfl, by decide +kernel, rfl, by decide +kernel, by decide +kernel⟩
theorem g_protected (T : Facts Kt) : FnK Kt 3 "protected" 2 m_protected := by
  obtain ⟨f, fd, h1, h2, F⟩ := T.d_protected
  exact ⟨f, h1, h2, fn_at F sc_protected (fun _ _ _ _ _ _ us hl => match us, hl with | [_, _], _ => rfl) fun cdv Ar outer s H E A => (ss_cons (ss_asg (vs := [2, 3, 4, 5, 6]) A (se_var 1) (sg_tup 5 A (sgs_cons (sg_name 2 A.nd (by simp)) (sgs_cons (sg_name 3 A.nd (by simp)) (sgs_cons (sg_name 4 A.nd (by simp)) (sgs_cons (sg_name 5 A.nd (by simp)) (sgs_cons (sg_name 6 A.nd (by simp)) sgs_nil)))))))
    (ss_cons (ss_asg (vs := [7, 8]) A (se_ixC A (se_ixC A (se_var 0) (se_str 14 (T.s rfl))) (se_var 3)) (sg_tup 2 A (sgs_cons (sg_name 7 A.nd (by simp)) (sgs_cons (sg_name 8 A.nd (by simp)) sgs_nil))))
    (ss_cons (ss_set 9 A (se_dctC A T.f_dict (sa_cons (se_var 7) sa_nil)))
    (ss_cons (ss_for (vs := [10]) A (si_rng2 A (se_var 4) (se_add A (se_var 4) (se_var 5)) T.f_range) (sg_name 10 A.nd (by simp)) (ss_one (ss_if (st_cmp (cm_inC A) (se_var 10) (se_var 7)) (ss_one (ss_subC A (se_var 9) (se_var 10) (se_tup (sa_cons (se_var 6) (sa_cons (se_ix A (se_ixC A (se_var 7) (se_var 10)) se_int) sa_nil))))) ss_nil)))
    (ss_one (ss_ret (se_call A ((g_with_space T).mono (by decide)) (sa_cons (se_var 0) (sa_cons (se_var 3) (sa_cons (se_tup (sa_cons (se_var 9) (sa_cons (se_var 8) sa_nil))) sa_nil))) (len_cons (len_cons (len_cons len_nil))))))))))⟩
abbrev NN_unmapped : List Str := ["plain", "call", "_", "space", "first", "pages", "table", "cells", "gone", "page", "place"]
theorem sc_unmapped : FnScope ["plain", "call", "_", "space", "first", "pages", "table", "cells", "gone", "page", "place"] ["plain", "call"] (defScope s_unmapped) := ⟨rfl, rfl, rfl, by decide +kernel, rfl, by decide +kernel, by decide +kernel⟩
theorem g_unmapped (T : Facts Kt) : FnK Kt 3 "unmapped" 2 m_unmapped := by
  obtain ⟨f, fd, h1, h2, F⟩ := T.d_unmapped
  exact ⟨f, h1, h2, fn_at F sc_unmapped (fun _ _ _ _ _ _ us hl => match us, hl with | [_, _], _ => rfl) fun cdv Ar outer s H E A => (ss_cons (ss_asg (vs := [2, 3, 4, 5]) A (se_var 1) (sg_tup 4 A (sgs_cons (sg_name 2 A.nd (by simp)) (sgs_cons (sg_name 3 A.nd (by simp)) (sgs_cons (sg_name 4 A.nd (by simp)) (sgs_cons (sg_name 5 A.nd (by simp)) sgs_nil))))))
    (ss_cons (ss_asg (vs := [6, 7]) A (se_ixC A (se_ixC A (se_var 0) (se_str 14 (T.s rfl))) (se_var 3)) (sg_tup 2 A (sgs_cons (sg_name 6 A.nd (by simp)) (sgs_cons (sg_name 7 A.nd (by simp)) sgs_nil))))
    (ss_cons (ss_set 8 A (se_rng2 A T.f_range (sa_cons (se_var 4) (sa_cons (se_add A (se_var 4) (se_var 5)) sa_nil))))
    (ss_cons (ss_set 6 A (se_lock (se_dcG (kdK _) drK (own := [("page", 9)]) A (si_key (se_var 6)) (blkOk_by (N := NN_unmapped) (sc := defScope s_unmapped) (by decide +kernel)) (fun _ _ _ _ _ => (sg_name 9 A.nd (by simp))) (fun _ _ _ _ _ A => (sts_one (st_cmp cm_notinR (se_var 9) (se_var 8)))) (fun _ _ _ _ _ A => (se_var 9)) (fun _ _ _ _ _ A => (se_ixC A (se_var 6) (se_var 9))))))
    (ss_cons (ss_set 7 A (se_lock (se_dcG (kdT _ (hu1 A)) (drT _) (own := [("place", 10)]) A (si_key (se_var 7)) (blkOk_by (N := NN_unmapped) (sc := defScope s_unmapped) (by decide +kernel)) (fun _ _ _ _ _ => (sg_name 10 A.nd (by simp))) (fun _ _ _ _ _ A => (sts_one (st_cmp cm_notinR (se_ix A (se_var 10) se_int) (se_var 8)))) (fun _ _ _ _ _ A => (se_var 10)) (fun _ _ _ _ _ A => (se_ixC A (se_var 7) (se_var 10))))))
    (ss_one (ss_ret (se_call A ((g_with_space T).mono (by decide)) (sa_cons (se_var 0) (sa_cons (se_var 3) (sa_cons (se_tup (sa_cons (se_var 6) (sa_cons (se_var 7) sa_nil))) sa_nil))) (len_cons (len_cons (len_cons len_nil)))))))))))⟩
abbrev NN_mapped : List Str := ["plain", "call", "_", "space", "first", "pages", "rights", "source", "table", "cells", "step", "place"]
theorem sc_mapped : FnScope ["plain", "call", "_", "space", "first", "pages", "rights", "source", "table", "cells", "step", "place"] ["plain", "call"] (defScope s_mapped) := ⟨rfl, rfl, rfl, by decide +kernel, rfl, by decide +kernel, by decide +kernel⟩
theorem g_mapped (T : Facts Kt) : FnK Kt 3 "mapped" 2 m_mapped := by
  obtain ⟨f, fd, h1, h2, F⟩ := T.d_mapped
  exact ⟨f, h1, h2, fn_at F sc_mapped (fun _ _ _ _ _ _ us hl => match us, hl with | [_, _], _ => rfl) fun cdv Ar outer s H E A => (ss_cons (ss_asg (vs := [2, 3, 4, 5, 6, 7]) A (se_var 1) (sg_tup 6 A (sgs_cons (sg_name 2 A.nd (by simp)) (sgs_cons (sg_name 3 A.nd (by simp)) (sgs_cons (sg_name 4 A.nd (by simp)) (sgs_cons (sg_name 5 A.nd (by simp)) (sgs_cons (sg_name 6 A.nd (by simp)) (sgs_cons (sg_name 7 A.nd (by simp)) sgs_nil))))))))
    (ss_cons (ss_asg (vs := [8, 9]) A (se_ixC A (se_ixC A (se_var 0) (se_str 14 (T.s rfl))) (se_var 3)) (sg_tup 2 A (sgs_cons (sg_name 8 A.nd (by simp)) (sgs_cons (sg_name 9 A.nd (by simp)) sgs_nil))))
    (ss_cons (ss_for (vs := [10]) A (si_rng1 A (se_var 5) T.f_range) (sg_name 10 A.nd (by simp)) (ss_cons (ss_set 11 A se_non)
    (ss_cons (ss_if (st_cmp cm_not (se_var 7) se_non) (ss_one (ss_set 11 A (se_tup (sa_cons (se_ix A (se_var 7) se_int) (sa_cons (se_add A (se_ix A (se_var 7) se_int) (se_var 10)) sa_nil))))) ss_nil)
    (ss_one (ss_set 8 A (se_call A ((g_with_entry T).mono (by decide)) (sa_cons (se_var 8) (sa_cons (se_add A (se_var 4) (se_var 10)) (sa_cons (se_tup (sa_cons (se_var 6) (sa_cons (se_var 11) sa_nil))) sa_nil))) (len_cons (len_cons (len_cons len_nil)))))))))
    (ss_one (ss_ret (se_call A ((g_with_space T).mono (by decide)) (sa_cons (se_var 0) (sa_cons (se_var 3) (sa_cons (se_tup (sa_cons (se_var 8) (sa_cons (se_var 9) sa_nil))) sa_nil))) (len_cons (len_cons (len_cons len_nil)))))))))⟩
abbrev NN_with_cell : List Str := ["plain", "space", "page", "index", "value", "pages", "cells", "source"]
theorem sc_with_cell : FnScope ["plain", "space", "page", "index", "value", "pages", "cells", "source"] ["plain", "space", "page", "index", "value"] (defScope s_with_cell) := ⟨rfl, rfl, rfl, by decide +kernel, rfl, by decide +kernel, by decide +kernel⟩
theorem g_with_cell (T : Facts Kt) : FnK Kt 3 "with_cell" 5 m_with_cell := by
  obtain ⟨f, fd, h1, h2, F⟩ := T.d_with_cell
  exact ⟨f, h1, h2, fn_at F sc_with_cell (fun _ _ _ _ _ _ us hl => match us, hl with | [_, _, _, _, _], _ => rfl) fun cdv Ar outer s H E A => (ss_cons (ss_asg (vs := [5, 6]) A (se_ixC A (se_ixC A (se_var 0) (se_str 14 (T.s rfl))) (se_var 1)) (sg_tup 2 A (sgs_cons (sg_name 5 A.nd (by simp)) (sgs_cons (sg_name 6 A.nd (by simp)) sgs_nil))))
    (ss_cons (ss_set 7 A (se_ix A (se_ixC A (se_var 5) (se_var 2)) se_int))
    (ss_cons (ss_if (st_cmp cm_is (se_var 7) se_non) (ss_one (ss_ret (se_call A ((g_with_space T).mono (by decide)) (sa_cons (se_var 0) (sa_cons (se_var 1) (sa_cons (se_tup (sa_cons (se_var 5) (sa_cons (se_call A ((g_with_entry T).mono (by decide)) (sa_cons (se_var 6) (sa_cons (se_tup (sa_cons (se_var 2) (sa_cons (se_var 3) sa_nil))) (sa_cons (se_var 4) sa_nil))) (len_cons (len_cons (len_cons len_nil)))) sa_nil))) sa_nil))) (len_cons (len_cons (len_cons len_nil)))))) ss_nil)
    (ss_one (ss_ret (se_disp (sp_cons (se_str 14 (T.s rfl)) (se_ixC A (se_var 0) (se_str 14 (T.s rfl))) (sp_cons (se_str 13 (T.s rfl)) (se_call A ((g_with_entry T).mono (by decide)) (sa_cons (se_ixC A (se_var 0) (se_str 13 (T.s rfl))) (sa_cons (se_add A (se_var 7) (se_tup (sa_cons (se_var 3) sa_nil))) (sa_cons (se_var 4) sa_nil))) (len_cons (len_cons (len_cons len_nil)))) sp_nil))))))))⟩
abbrev NN_after_use : List Str := ["plain", "call"]
theorem sc_after_use : FnScope ["plain", "call"] ["plain", "call"] (defScope s_after_use) := ⟨rfl, rfl, rfl, by decide +kernel, rfl, by decide +kernel, by decide +kernel⟩
theorem g_after_use (T : Facts Kt) : FnK Kt 4 "after_use" 2 m_after_use := by
  obtain ⟨f, fd, h1, h2, F⟩ := T.d_after_use
  exact ⟨f, h1, h2, fn_at F sc_after_use (fun _ _ _ _ _ _ us hl => match us, hl with | [_, _], _ => rfl) fun cdv Ar outer s H E A => (ss_cons (ss_if (st_cmp (cm_eq A) (se_ix A (se_var 1) se_int) (se_str 7 (T.s rfl))) (ss_one (ss_ret (se_call A ((g_with_cell T).mono (by decide)) (sa_cons (se_var 0) (sa_cons (se_ix A (se_var 1) se_int) (sa_cons (se_ix A (se_var 1) se_int) (sa_cons (se_ix A (se_var 1) se_int) (sa_cons (se_ix A (se_var 1) se_int) sa_nil))))) (len_cons (len_cons (len_cons (len_cons (len_cons len_nil)))))))) ss_nil)
    (ss_cons (ss_if (PW.pt (sw_and (st_cmp (cm_eq A) (se_ix A (se_var 1) se_int) (se_str 8 (T.s rfl))) (sw_and1 (st_cmp (cm_eq A) (se_call A ((g_cell_of T).mono (by decide)) (sa_cons (se_var 0) (sa_cons (se_ix A (se_var 1) se_int) (sa_cons (se_ix A (se_var 1) se_int) (sa_cons (se_ix A (se_var 1) se_int) sa_nil)))) (len_cons (len_cons (len_cons (len_cons len_nil))))) (se_ix A (se_var 1) se_int))))) (ss_one (ss_ret (se_call A ((g_with_cell T).mono (by decide)) (sa_cons (se_var 0) (sa_cons (se_ix A (se_var 1) se_int) (sa_cons (se_ix A (se_var 1) se_int) (sa_cons (se_ix A (se_var 1) se_int) (sa_cons (se_ix A (se_var 1) se_int) sa_nil))))) (len_cons (len_cons (len_cons (len_cons (len_cons len_nil)))))))) ss_nil)
    (ss_one (ss_ret (se_var 0)))))⟩
abbrev NN_new_space : List Str := ["plain", "space"]
theorem sc_new_space : FnScope ["plain", "space"] ["plain"] (defScope s_new_space) := ⟨rfl, rfl, rfl, by decide +kernel, rfl, by decide +kernel, by decide +kernel⟩
theorem g_new_space (T : Facts Kt) : FnK Kt 1 "new_space" 1 m_new_space := by
  obtain ⟨f, fd, h1, h2, F⟩ := T.d_new_space
  exact ⟨f, h1, h2, fn_at F sc_new_space (fun _ _ _ _ _ _ us hl => match us, hl with | [_], _ => rfl) fun cdv Ar outer s H E A => (ss_cons (ss_for (vs := [1]) A (si_rng1 A (T.c_SPACES A) T.f_range) (sg_name 1 A.nd (by simp)) (ss_one (ss_if (st_cmp (cm_notinC A) (se_var 1) (se_ixC A (se_var 0) (se_str 14 (T.s rfl)))) (ss_one (ss_ret (se_var 1))) ss_nil)))
    (ss_one (ss_ret se_non)))⟩
abbrev NN_page_of : List Str := ["plain", "space", "page"]
theorem sc_page_of : FnScope ["plain", "space", "page"] ["plain", "space", "page"] (defScope s_page_of) := ⟨rfl, rfl, rfl, by decide +kernel, rfl, by decide +kernel, by decide +kernel⟩
theorem g_page_of (T : Facts Kt) : FnK Kt 1 "page_of" 3 m_page_of := by
  obtain ⟨f, fd, h1, h2, F⟩ := T.d_page_of
  exact ⟨f, h1, h2, fn_at F sc_page_of (fun _ _ _ _ _ _ us hl => match us, hl with | [_, _, _], _ => rfl) fun cdv Ar outer s H E A => (ss_cons (ss_if (st_cmp (cm_notinC A) (se_var 1) (se_ixC A (se_var 0) (se_str 14 (T.s rfl)))) (ss_one (ss_ret se_non)) ss_nil)
    (ss_one (ss_ret (se_dget A (se_ix A (se_ixC A (se_ixC A (se_var 0) (se_str 14 (T.s rfl))) (se_var 1)) se_int) (sa_cons (se_var 2) sa_nil)))))⟩
abbrev NN_use_refusal : List Str := ["plain", "call", "page"]
theorem sc_use_refusal : FnScope ["plain", "call", "page"] ["plain", "call"] (defScope s_use_refusal) := ⟨rfl, rfl, rfl, by decide +kernel, rfl, by decide +kernel, by decide +kernel⟩
theorem g_use_refusal (T : Facts Kt) : FnK Kt 2 "use_refusal" 2 m_use_refusal := by
  obtain ⟨f, fd, h1, h2, F⟩ := T.d_use_refusal
  exact ⟨f, h1, h2, fn_at F sc_use_refusal (fun _ _ _ _ _ _ us hl => match us, hl with | [_, _], _ => rfl) fun cdv Ar outer s H E A => (ss_cons (ss_if (st_cmp (cm_notinC A) (se_ix A (se_var 1) se_int) (se_ixC A (se_var 0) (se_str 14 (T.s rfl)))) (ss_one (ss_ret (se_str 18 (T.s rfl)))) ss_nil)
    (ss_cons (ss_set 2 A (se_call A ((g_page_of T).mono (by decide)) (sa_cons (se_var 0) (sa_cons (se_ix A (se_var 1) se_int) (sa_cons (se_ix A (se_var 1) se_int) sa_nil))) (len_cons (len_cons (len_cons len_nil)))))
    (ss_cons (ss_if (PW.pt (sw_or (st_cmp cm_is (se_var 2) se_non) (sw_or1 (PW.pt (sw_and (st_cmp (cm_ne A) (se_ix A (se_var 1) se_int) (se_str 3 (T.s rfl))) (sw_and1 (st_cmp (cm_eq A) (se_ix A (se_var 2) se_int) (se_str 0 (T.s rfl))))))))) (ss_one (ss_ret (se_str 19 (T.s rfl)))) ss_nil)
    (ss_one (ss_ret (se_str 20 (T.s rfl)))))))⟩
abbrev NN_use_answer : List Str := ["plain", "call", "refusal", "value"]
theorem sc_use_answer : FnScope ["plain", "call", "refusal", "value"] ["plain", "call"] (defScope s_use_answer) := ⟨rfl, rfl, rfl, by decide +kernel, rfl, by decide +kernel, by decide +kernel⟩
theorem g_use_answer (T : Facts Kt) : FnK Kt 3 "use_answer" 2 m_use_answer := by
  obtain ⟨f, fd, h1, h2, F⟩ := T.d_use_answer
  exact ⟨f, h1, h2, fn_at F sc_use_answer (fun _ _ _ _ _ _ us hl => match us, hl with | [_, _], _ => rfl) fun cdv Ar outer s H E A => (ss_cons (ss_set 2 A (se_call A ((g_use_refusal T).mono (by decide)) (sa_cons (se_var 0) (sa_cons (se_var 1) sa_nil)) (len_cons (len_cons len_nil))))
    (ss_cons (ss_if (st_cmp (cm_ne A) (se_var 2) (se_str 20 (T.s rfl))) (ss_one (ss_ret (se_tup (sa_cons (se_var 2) (sa_cons se_non sa_nil))))) ss_nil)
    (ss_cons (ss_set 3 A (se_call A ((g_cell_of T).mono (by decide)) (sa_cons (se_var 0) (sa_cons (se_ix A (se_var 1) se_int) (sa_cons (se_ix A (se_var 1) se_int) (sa_cons (se_ix A (se_var 1) se_int) sa_nil)))) (len_cons (len_cons (len_cons (len_cons len_nil))))))
    (ss_cons (ss_if (st_cmp (cm_eq A) (se_ix A (se_var 1) se_int) (se_str 3 (T.s rfl))) (ss_one (ss_ret (se_tup (sa_cons (se_str 15 (T.s rfl)) (sa_cons (se_var 3) sa_nil))))) ss_nil)
    (ss_cons (ss_if (st_cmp (cm_eq A) (se_ix A (se_var 1) se_int) (se_str 7 (T.s rfl))) (ss_one (ss_ret (se_tup (sa_cons (se_str 15 (T.s rfl)) (sa_cons se_non sa_nil))))) ss_nil)
    (ss_one (ss_ret (se_tup (sa_cons (se_str 15 (T.s rfl)) (sa_cons (se_cmp (cm_eq A) (se_var 3) (se_ix A (se_var 1) se_int)) sa_nil))))))))))⟩
abbrev NN_answer_of : List Str := ["plain", "call", "kind", "space", "pages", "page"]
theorem sc_answer_of : FnScope ["plain", "call", "kind", "space", "pages", "page"] ["plain", "call"] (defScope s_answer_of) := ⟨rfl, rfl, rfl, by decide +kernel, rfl, by decide +kernel, by decide +kernel⟩
theorem g_answer_of (T : Facts Kt) : FnK Kt 4 "answer_of" 2 m_answer_of := by
  obtain ⟨f, fd, h1, h2, F⟩ := T.d_answer_of
  exact ⟨f, h1, h2, fn_at F sc_answer_of (fun _ _ _ _ _ _ us hl => match us, hl with | [_, _], _ => rfl) fun cdv Ar outer s H E A => (ss_cons (ss_set 2 A (se_ix A (se_var 1) se_int))
    (ss_cons (ss_if (st_cmp (cm_in A) (se_var 2) (se_tup (sa_cons (se_str 3 (T.s rfl)) (sa_cons (se_str 7 (T.s rfl)) (sa_cons (se_str 8 (T.s rfl)) sa_nil))))) (ss_one (ss_ret (se_call A ((g_use_answer T).mono (by decide)) (sa_cons (se_var 0) (sa_cons (se_var 1) sa_nil)) (len_cons (len_cons len_nil))))) ss_nil)
    (ss_cons (ss_if (st_cmp (cm_in A) (se_var 2) (se_tup (sa_cons (se_str 10 (T.s rfl)) (sa_cons (se_str 11 (T.s rfl)) sa_nil)))) (ss_one (ss_ret (se_tup (sa_cons (se_str 15 (T.s rfl)) (sa_cons se_non sa_nil))))) ss_nil)
    (ss_cons (ss_if (PW.pt (sw_and (st_cmp (cm_ne A) (se_var 2) (se_str 9 (T.s rfl))) (sw_and1 (st_cmp (cm_notinC A) (se_ix A (se_var 1) se_int) (se_ixC A (se_var 0) (se_str 14 (T.s rfl))))))) (ss_one (ss_ret (se_tup (sa_cons (se_str 18 (T.s rfl)) (sa_cons se_non sa_nil))))) ss_nil)
    (ss_cons (ss_if (st_cmp (cm_in A) (se_var 2) (se_tup (sa_cons (se_str 9 (T.s rfl)) (sa_cons (se_str 6 (T.s rfl)) sa_nil)))) (ss_cons (ss_set 3 A (se_call A ((g_new_space T).mono (by decide)) (sa_cons (se_var 0) sa_nil) (len_cons len_nil)))
    (ss_cons (ss_if (st_cmp cm_is (se_var 3) se_non) (ss_one (ss_ret (se_tup (sa_cons (se_str 17 (T.s rfl)) (sa_cons se_non sa_nil))))) ss_nil)
    (ss_one (ss_ret (se_tup (sa_cons (se_str 15 (T.s rfl)) (sa_cons (se_var 3) sa_nil))))))) ss_nil)
    (ss_cons (ss_if (st_cmp (cm_eq A) (se_var 2) (se_str 12 (T.s rfl))) (ss_cons (ss_set 4 A (se_ix A (se_ixC A (se_ixC A (se_var 0) (se_str 14 (T.s rfl))) (se_ix A (se_var 1) se_int)) se_int))
    (ss_one (ss_if (st_tru A (se_any A T.f_any (sa_cons (se_lc (own := [("page", 5)]) A (si_rng2 A (se_ix A (se_var 1) se_int) (se_add A (se_ix A (se_var 1) se_int) (se_ix A (se_var 1) se_int)) T.f_range) (blkOk_by (N := NN_answer_of) (sc := defScope s_answer_of) (by decide +kernel)) (fun _ _ _ _ _ => (sg_name 5 A.nd (by simp))) (fun _ _ _ _ _ A => sts_nil) (fun _ _ _ _ _ A => (se_cmp (cm_inC A) (se_var 5) (se_var 4)))) sa_nil))) (ss_one (ss_ret (se_tup (sa_cons (se_str 16 (T.s rfl)) (sa_cons se_non sa_nil))))) ss_nil))) ss_nil)
    (ss_one (ss_ret (se_tup (sa_cons (se_str 15 (T.s rfl)) (sa_cons se_non sa_nil)))))))))))⟩
abbrev NN_after_call : List Str := ["plain", "call", "word", "value", "kind"]
theorem sc_after_call : FnScope ["plain", "call", "word", "value", "kind"] ["plain", "call"] (defScope s_after_call) := ⟨rfl, rfl, rfl, by decide +kernel, rfl, by decide +kernel, by decide +kernel⟩
theorem g_after_call (T : Facts Kt) : FnK Kt 5 "after_call" 2 m_after_call := by
  obtain ⟨f, fd, h1, h2, F⟩ := T.d_after_call
  exact ⟨f, h1, h2, fn_at F sc_after_call (fun _ _ _ _ _ _ us hl => match us, hl with | [_, _], _ => rfl) fun cdv Ar outer s H E A => (ss_cons (ss_asg (vs := [2, 3]) A (se_call A ((g_answer_of T).mono (by decide)) (sa_cons (se_var 0) (sa_cons (se_var 1) sa_nil)) (len_cons (len_cons len_nil))) (sg_tup 2 A (sgs_cons (sg_name 2 A.nd (by simp)) (sgs_cons (sg_name 3 A.nd (by simp)) sgs_nil))))
    (ss_cons (ss_set 4 A (se_ix A (se_var 1) se_int))
    (ss_cons (ss_if (PW.pt (sw_or (st_cmp (cm_ne A) (se_var 2) (se_str 15 (T.s rfl))) (sw_or1 (st_cmp (cm_in A) (se_var 4) (se_tup (sa_cons (se_str 10 (T.s rfl)) (sa_cons (se_str 11 (T.s rfl)) sa_nil))))))) (ss_one (ss_ret (se_var 0))) ss_nil)
    (ss_cons (ss_if (st_cmp (cm_in A) (se_var 4) (se_tup (sa_cons (se_str 3 (T.s rfl)) (sa_cons (se_str 7 (T.s rfl)) (sa_cons (se_str 8 (T.s rfl)) sa_nil))))) (ss_one (ss_ret (se_call A ((g_after_use T).mono (by decide)) (sa_cons (se_var 0) (sa_cons (se_var 1) sa_nil)) (len_cons (len_cons len_nil))))) ss_nil)
    (ss_cons (ss_if (st_cmp (cm_eq A) (se_var 4) (se_str 12 (T.s rfl))) (ss_one (ss_ret (se_call A ((g_mapped T).mono (by decide)) (sa_cons (se_var 0) (sa_cons (se_var 1) sa_nil)) (len_cons (len_cons len_nil))))) ss_nil)
    (ss_cons (ss_if (st_cmp (cm_eq A) (se_var 4) (se_str 5 (T.s rfl))) (ss_one (ss_ret (se_call A ((g_unmapped T).mono (by decide)) (sa_cons (se_var 0) (sa_cons (se_var 1) sa_nil)) (len_cons (len_cons len_nil))))) ss_nil)
    (ss_cons (ss_if (st_cmp (cm_eq A) (se_var 4) (se_str 4 (T.s rfl))) (ss_one (ss_ret (se_call A ((g_protected T).mono (by decide)) (sa_cons (se_var 0) (sa_cons (se_var 1) sa_nil)) (len_cons (len_cons len_nil))))) ss_nil)
    (ss_one (ss_ret (se_call A ((g_after_space T).mono (by decide)) (sa_cons (se_var 0) (sa_cons (se_var 1) (sa_cons (se_var 3) sa_nil))) (len_cons (len_cons (len_cons len_nil)))))))))))))⟩
abbrev NN__law_call : List Str := ["_law_tape", "_law_spaces", "_law_kind", "_law_space", "_law_page", "_law_pages", "_law_source"]
theorem sc__law_call : FnScope ["_law_tape", "_law_spaces", "_law_kind", "_law_space", "_law_page", "_law_pages", "_law_source"] ["_law_tape", "_law_spaces"] (defScope s__law_call) := ⟨rfl, rfl, rfl, by decide +kernel, rfl, by decide +kernel, by decide +kernel⟩
theorem g__law_call (T : Facts Kt) : FnK Kt 2 "_law_call" 2 m__law_call := by
  obtain ⟨f, fd, h1, h2, F⟩ := T.d__law_call
  exact ⟨f, h1, h2, fn_at F sc__law_call (fun _ _ _ _ _ _ us hl => match us, hl with | [_, _], _ => rfl) fun cdv Ar outer s H E A => (ss_cons (ss_set 2 A (se_call A ((g__law_next T).mono (by decide)) (sa_cons (se_var 0) (sa_cons se_int sa_nil)) (len_cons (len_cons len_nil))))
    (ss_cons (ss_set 3 A (se_call A ((g__law_next T).mono (by decide)) (sa_cons (se_var 0) (sa_cons (se_var 1) sa_nil)) (len_cons (len_cons len_nil))))
    (ss_cons (ss_set 4 A (se_call A ((g__law_next T).mono (by decide)) (sa_cons (se_var 0) (sa_cons (se_ix A (se_tup (sa_cons se_int (sa_cons se_int sa_nil))) (se_div (se_call A ((g__law_next T).mono (by decide)) (sa_cons (se_var 0) (sa_cons se_int sa_nil)) (len_cons (len_cons len_nil))) se_int)) sa_nil)) (len_cons (len_cons len_nil))))
    (ss_cons (ss_set 5 A (se_add A se_int (se_call A ((g__law_next T).mono (by decide)) (sa_cons (se_var 0) (sa_cons (se_min A T.f_min (sa_cons se_int (sa_cons (se_sub se_int (se_var 4)) sa_nil))) sa_nil)) (len_cons (len_cons len_nil)))))
    (ss_cons (ss_if (st_cmp cm_lt (se_var 2) se_int) (ss_one (ss_ret (se_tup (sa_cons (se_str 7 (T.s rfl)) (sa_cons (se_var 3) (sa_cons (se_var 4) (sa_cons (se_call A ((g__law_next T).mono (by decide)) (sa_cons (se_var 0) (sa_cons se_int sa_nil)) (len_cons (len_cons len_nil))) (sa_cons (se_add A se_int (se_call A ((g__law_next T).mono (by decide)) (sa_cons (se_var 0) (sa_cons se_int sa_nil)) (len_cons (len_cons len_nil)))) sa_nil)))))))) ss_nil)
    (ss_cons (ss_if (st_cmp cm_lt (se_var 2) se_int) (ss_one (ss_ret (se_tup (sa_cons (se_str 3 (T.s rfl)) (sa_cons (se_var 3) (sa_cons (se_var 4) (sa_cons (se_call A ((g__law_next T).mono (by decide)) (sa_cons (se_var 0) (sa_cons se_int sa_nil)) (len_cons (len_cons len_nil))) sa_nil))))))) ss_nil)
    (ss_cons (ss_if (st_cmp (cm_eq A) (se_var 2) se_int) (ss_one (ss_ret (se_tup (sa_cons (se_str 8 (T.s rfl)) (sa_cons (se_var 3) (sa_cons (se_var 4) (sa_cons (se_call A ((g__law_next T).mono (by decide)) (sa_cons (se_var 0) (sa_cons se_int sa_nil)) (len_cons (len_cons len_nil))) (sa_cons (se_call A ((g__law_next T).mono (by decide)) (sa_cons (se_var 0) (sa_cons se_int sa_nil)) (len_cons (len_cons len_nil))) (sa_cons (se_add A se_int (se_call A ((g__law_next T).mono (by decide)) (sa_cons (se_var 0) (sa_cons se_int sa_nil)) (len_cons (len_cons len_nil)))) sa_nil))))))))) ss_nil)
    (ss_cons (ss_if (st_cmp cm_lt (se_var 2) se_int) (ss_cons (ss_set 6 A se_non)
    (ss_cons (ss_if (st_cmp (cm_eq A) (se_call A ((g__law_next T).mono (by decide)) (sa_cons (se_var 0) (sa_cons se_int sa_nil)) (len_cons (len_cons len_nil))) se_int) (ss_one (ss_set 6 A (se_tup (sa_cons (se_call A ((g__law_next T).mono (by decide)) (sa_cons (se_var 0) (sa_cons se_int sa_nil)) (len_cons (len_cons len_nil))) (sa_cons (se_call A ((g__law_next T).mono (by decide)) (sa_cons (se_var 0) (sa_cons (se_sub se_int (se_var 5)) sa_nil)) (len_cons (len_cons len_nil))) sa_nil))))) ss_nil)
    (ss_one (ss_ret (se_tup (sa_cons (se_str 12 (T.s rfl)) (sa_cons (se_var 3) (sa_cons (se_var 4) (sa_cons (se_var 5) (sa_cons (se_ix A (se_tup (sa_cons (se_str 1 (T.s rfl)) (sa_cons (se_str 1 (T.s rfl)) (sa_cons (se_str 0 (T.s rfl)) sa_nil)))) (se_call A ((g__law_next T).mono (by decide)) (sa_cons (se_var 0) (sa_cons se_int sa_nil)) (len_cons (len_cons len_nil)))) (sa_cons (se_var 6) sa_nil))))))))))) ss_nil)
    (ss_cons (ss_if (st_cmp (cm_eq A) (se_var 2) se_int) (ss_one (ss_ret (se_tup (sa_cons (se_str 5 (T.s rfl)) (sa_cons (se_var 3) (sa_cons (se_var 4) (sa_cons (se_var 5) sa_nil))))))) ss_nil)
    (ss_cons (ss_if (st_cmp (cm_eq A) (se_var 2) se_int) (ss_one (ss_ret (se_tup (sa_cons (se_str 4 (T.s rfl)) (sa_cons (se_var 3) (sa_cons (se_var 4) (sa_cons (se_var 5) (sa_cons (se_ix A (se_tup (sa_cons (se_str 0 (T.s rfl)) (sa_cons (se_str 1 (T.s rfl)) sa_nil))) (se_call A ((g__law_next T).mono (by decide)) (sa_cons (se_var 0) (sa_cons se_int sa_nil)) (len_cons (len_cons len_nil)))) sa_nil)))))))) ss_nil)
    (ss_cons (ss_if (st_cmp cm_lt (se_var 2) se_int) (ss_one (ss_ret (se_tup (sa_cons (se_str 6 (T.s rfl)) (sa_cons (se_var 3) sa_nil))))) ss_nil)
    (ss_cons (ss_if (st_cmp (cm_eq A) (se_var 2) se_int) (ss_one (ss_ret (se_ix A (se_tup (sa_cons (se_tup (sa_cons (se_str 2 (T.s rfl)) (sa_cons (se_var 3) sa_nil))) (sa_cons (se_tup (sa_cons (se_str 9 (T.s rfl)) sa_nil)) (sa_cons (se_tup (sa_cons (se_str 11 (T.s rfl)) (sa_cons (se_call A ((g__law_next T).mono (by decide)) (sa_cons (se_var 0) (sa_cons se_int sa_nil)) (len_cons (len_cons len_nil))) sa_nil))) sa_nil)))) (se_call A ((g__law_next T).mono (by decide)) (sa_cons (se_var 0) (sa_cons se_int sa_nil)) (len_cons (len_cons len_nil)))))) ss_nil)
    (ss_one (ss_ret (se_tup (sa_cons (se_str 10 (T.s rfl)) sa_nil))))))))))))))))⟩
abbrev NN_new_plain : List Str := []
theorem sc_new_plain : FnScope [] [] (defScope s_new_plain) := ⟨rfl, rfl, rfl, by decide +kernel, rfl, by decide +kernel, by decide +kernel⟩
theorem g_new_plain (T : Facts Kt) : FnK Kt 1 "new_plain" 0 m_new_plain := by
  obtain ⟨f, fd, h1, h2, F⟩ := T.d_new_plain
  exact ⟨f, h1, h2, fn_at F sc_new_plain (fun _ _ _ _ _ _ us hl => match us, hl with | [], _ => rfl) fun cdv Ar outer s H E A => (ss_one (ss_ret (se_disp (sp_cons (se_str 14 (T.s rfl)) (se_disp (sp_cons se_int (se_tup (sa_cons (se_dct0 false) (sa_cons (se_dct0 true) sa_nil))) sp_nil)) (sp_cons (se_str 13 (T.s rfl)) (se_dct0 true) sp_nil)))))⟩
abbrev NN__law_new : List Str := []
theorem sc__law_new : FnScope [] [] (defScope s__law_new) := ⟨rfl, rfl, rfl, by decide +kernel, rfl, by decide +kernel, by decide +kernel⟩
theorem g__law_new (T : Facts Kt) : FnK Kt 1 "_law_new" 0 m__law_new := by
  obtain ⟨f, fd, h1, h2, F⟩ := T.d__law_new
  exact ⟨f, h1, h2, fn_at F sc__law_new (fun _ _ _ _ _ _ us hl => match us, hl with | [], _ => rfl) fun cdv Ar outer s H E A => (ss_one (ss_ret (se_lst (sa_cons (se_disp (sp_cons se_int (se_tup (sa_cons (se_dct0 false) (sa_cons (se_dct0 true) sa_nil))) sp_nil)) (sa_cons (se_dct0 true) sa_nil)))))⟩
abbrev NN_law : List Str := ["_law_script", "_law_tape", "_law_plain", "_law_state", "_law_turn", "_law_call_here", "_law_before", "_law_told", "_law_after", "_law_space", "_law_page", "_law_table_here", "_law_place"]
theorem sc_law : FnScope ["_law_script", "_law_tape", "_law_plain", "_law_state", "_law_turn", "_law_call_here", "_law_before", "_law_told", "_law_after", "_law_space", "_law_page", "_law_table_here", "_law_place"] ["_law_script"] (defScope s_law) := ⟨rfl, rfl, rfl, by decide +kernel, rfl, by decide +kernel, by decide +kernel⟩
theorem law_ok (T : Facts Kt) {f : Addr} {fd : FuncData} (F : FunD Kt.K "law" "law" (defArgs s_law) (defBody s_law) (defScope s_law) [] [] f fd) : FnOk Kt.P Kt.w Kt.K Kt.mg Kt.base (L2.CX Kt.P Kt.w) 6 f fd ["_law_script"] (spM Kt 1 m_law) :=
  fn_ok F sc_law fun cdv Ar outer s H E A => (ss_cons (ss_set 1 A (se_lstO (sa_cons (se_list A T.f_list (sa_cons (se_var 0) sa_nil)) (sa_cons se_int (sa_cons se_int (sa_cons se_int sa_nil))))))
    (ss_cons (ss_set 2 A (se_call0 A ((g__law_new T).mono (by decide))))
    (ss_cons (ss_set 3 A (se_call0 A ((g_new_plain T).mono (by decide))))
    (ss_cons (ss_for (vs := [4]) A (si_rng1 A (se_ix A (se_tup (sa_cons se_int (sa_cons se_int (sa_cons se_int sa_nil)))) (se_call A ((g__law_next T).mono (by decide)) (sa_cons (se_var 1) (sa_cons se_int sa_nil)) (len_cons (len_cons len_nil)))) T.f_range) (sg_name 4 A.nd (by simp)) (ss_cons (ss_set 5 A (se_call A ((g__law_call T).mono (by decide)) (sa_cons (se_var 1) (sa_cons se_int sa_nil)) (len_cons (len_cons len_nil))))
    (ss_cons (ss_set 6 A (se_call A ((g__law_seen T).mono (by decide)) (sa_cons (se_var 3) sa_nil) (len_cons len_nil)))
    (ss_cons (ss_set 7 A (se_call A ((g_answer_of T).mono (by decide)) (sa_cons (se_var 3) (sa_cons (se_var 5) sa_nil)) (len_cons (len_cons len_nil))))
    (ss_cons (ss_set 8 A (se_call A ((g_after_call T).mono (by decide)) (sa_cons (se_var 3) (sa_cons (se_var 5) sa_nil)) (len_cons (len_cons len_nil))))
    (ss_cons (ss_if (PW.pt (sw_or (st_cmp (cm_neX A) (se_call A ((g__law_seen T).mono (by decide)) (sa_cons (se_var 3) sa_nil) (len_cons len_nil)) (se_var 6)) (sw_or (st_cmp (cm_ne A) (se_var 7) (se_call A ((g__law_does T).mono (by decide)) (sa_cons (se_var 2) (sa_cons (se_var 5) sa_nil)) (len_cons (len_cons len_nil)))) (sw_or1 (st_not (st_tru A (se_isi .tuple A T.f_isinstance T.f_tuple bt_tuple (se_var 7)))))))) (ss_one (ss_ret se_bl)) ss_nil)
    (ss_cons (ss_if (st_cmp (cm_neX A) (se_call A ((g__law_seen T).mono (by decide)) (sa_cons (se_var 8) sa_nil) (len_cons len_nil)) (se_call A ((g__law_shows T).mono (by decide)) (sa_cons (se_var 2) sa_nil) (len_cons len_nil))) (ss_one (ss_ret se_bl)) ss_nil)
    (ss_cons (ss_lock (ss_for (vs := [9]) A (si_key (se_ix A (se_var 2) se_int)) (sg_name 9 A.nd (by simp)) (ss_one (ss_lock (ss_for (vs := [10]) A (si_key (se_ix A (se_ixC A (se_ix A (se_var 2) se_int) (se_var 9)) se_int)) (sg_name 10 A.nd (by simp)) (ss_cons (ss_asg (vs := [11, 12]) A (se_call A ((g__law_table T).mono (by decide)) (sa_cons (se_var 2) (sa_cons (se_var 9) (sa_cons (se_var 10) (sa_cons (se_mod (se_var 4) se_int) sa_nil)))) (len_cons (len_cons (len_cons (len_cons len_nil))))) (sg_tup 2 A (sgs_cons (sg_name 11 A.nd (by simp)) (sgs_cons (sg_name 12 A.nd (by simp)) sgs_nil))))
    (ss_one (ss_if (st_cmp (cm_ne A) (se_call A ((g_cell_of T).mono (by decide)) (sa_cons (se_var 8) (sa_cons (se_var 9) (sa_cons (se_var 10) (sa_cons (se_mod (se_var 4) se_int) sa_nil)))) (len_cons (len_cons (len_cons (len_cons len_nil))))) (se_dget A (se_var 11) (sa_cons (se_var 12) (sa_cons se_int sa_nil)))) (ss_one (ss_ret se_bl)) ss_nil))))))))
    (ss_one (ss_set 3 A (se_var 8)))))))))))
    (ss_one (ss_ret se_bl))))))
end
end Z

set_option Elab.async false
set_option linter.all false
set_option maxRecDepth 100000
namespace Z
open PySem L2 Y
/-! ### the law's tape -/
def Tp (g : G) (t : Nat) : Prop := ∃ (ns : List Int) (pos rest seed : Int), g[t]? = some (.lst [.lst (ns.map D.int), .int pos, .int rest, .int seed]) ∧ 0 ≤ pos ∧ 0 ≤ rest ∧ 0 ≤ seed ∧ seed < 2147483647
theorem Tp.len {g : G} {t : Nat} (T : Tp g t) : t < g.length := by
  obtain ⟨ns, pos, rest, seed, h, _⟩ := T
  exact (List.getElem?_eq_some_iff.mp h).1
theorem Tp.le {g g' : G} {t : Nat} (T : Tp g t) (h : g'[t]? = g[t]?) : Tp g' t := by
  obtain ⟨ns, pos, rest, seed, q, r⟩ := T
  exact ⟨ns, pos, rest, seed, h.trans q, r⟩
theorem Tp.app {g os : G} {t : Nat} (T : Tp g t) : Tp (g ++ os) t := T.le (List.getElem?_append_left T.len)
theorem ix4 {g : G} {t : Nat} {ds : List D} (h : g[t]? = some (.lst ds)) (i : Int) : ixD g (.ref t) (.int i) = atI ds i := by
  unfold ixD itD
  simp only [lsD_ref h]
theorem set4 {g : G} {t : Nat} {a b c d : D} (h : g[t]? = some (.lst [a, b, c, d])) {e : En} {m : EM} {y : D} {i : Nat} (he : e[0]? = some (some (.ref t))) (hm : m e g = .ok y g) (hi : i < 4) : sSub (vVar 0) (vC (.int (i : Int))) m e g = .nx e (g.set t (.lst ([a, b, c, d].set i y))) := by
  unfold sSub
  have a1 : vVar 0 e g = .ok (.ref t) g := by simp [he]
  have hix : ixN [a, b, c, d].length (i : Int) = some i := by
    match i, hi with
    | 0, _ => rfl
    | 1, _ => rfl
    | 2, _ => rfl
    | 3, _ => rfl
  simp only [hm, sBind, a1, vC_e, h, hix]
theorem next_ok {g : G} {t : Nat} (T : Tp g t) {n : Int} (h0 : 0 < n) (h1 : n < 1000) :
    ∃ v g', m__law_next [.ref t, .int n] g = .ok (.int v) g' ∧ 0 ≤ v ∧ v < n ∧ Tp g' t ∧ g'.length = g.length ∧ ∀ i, i ≠ t → g'[i]? = g[i]? := by
  obtain ⟨ns, pos, rest, seed, hg, p0, r0, s0, s1⟩ := T
  have tl := (List.getElem?_eq_some_iff.mp hg).1
  have out : ∀ (x : Ob) (i : Nat), i ≠ t → (g.set t x)[i]? = g[i]? := fun x i q => List.getElem?_set_ne (Ne.symm q)
  have out2 : ∀ (x y : Ob) (i : Nat), i ≠ t → ((g.set t x).set t y)[i]? = g[i]? := fun x y i q => by rw [List.getElem?_set_ne (Ne.symm q), List.getElem?_set_ne (Ne.symm q)]
  have self : ∀ x : Ob, (g.set t x)[t]? = some x := fun x => List.getElem?_set_self tl
  have dn : ∀ (g : G) (i : Int), divD g (.int i) (.int n) = some (.int (i / n)) := fun g i => divD_e h0 (by omega)
  have mn : ∀ (g : G) (i : Int), modD g (.int i) (.int n) = some (.int (i % n)) := fun g i => modD_e h0
  have start : m__law_next [.ref t, .int n] g = endM (b__law_next [some (.ref t), some (.int n), none, none] g) := rfl
  rw [start]
  unfold b__law_next c__law_next_6
  by_cases hr : 0 < rest
  · refine ⟨rest % n, g.set t (.lst [.lst (ns.map D.int), .int pos, .int (rest / n), .int seed]), ?_, Int.emod_nonneg _ (by omega), Int.emod_lt_of_pos _ h0, ⟨ns, pos, rest / n, seed, self _, p0, Int.ediv_nonneg r0 (by omega), s0, s1⟩, by simp, out _⟩
    have sb := set4 hg (e := [some (.ref t), some (.int n), some (.int rest), none]) (m := vOp divD (vVar 2) (vVar 1)) (y := .int (rest / n)) (i := 2) rfl (by simp [dn]) (by decide)
    simp only [Int.cast_ofNat_Int] at sb
    simp [ix4 hg, at2, hr, sb, mn, intD]
  · have r0' : rest = 0 := by omega
    subst r0'
    -- the cell
    have cell : ∃ (c pos' : Int) (g1 : G), 0 ≤ c ∧ 0 ≤ pos' ∧ g1[t]? = some (.lst [.lst (ns.map D.int), .int pos', .int 0, .int seed]) ∧ g1.length = g.length ∧ (∀ i, i ≠ t → g1[i]? = g[i]?) ∧
        c__law_next_4 [some (.ref t), some (.int n), some (.int 0), some (.int 0)] g = c__law_next_3 [some (.ref t), some (.int n), some (.int 0), some (.int c)] g1 := by
      by_cases hp : pos < ns.length
      · obtain ⟨z, hz, zm⟩ := atI_mem (ds := ns.map D.int) (i := pos) p0 (by simpa using hp)
        obtain ⟨w, _, rfl⟩ := List.mem_map.mp zm
        refine ⟨if w < 0 then -w else w, pos + 1, g.set t (.lst [.lst (ns.map D.int), .int (pos + 1), .int 0, .int seed]), by split <;> omega, by omega, self _, by simp, out _, ?_⟩
        have au : ∀ x, sAugI (vVar 0) (vC (.int 1)) (vC (.int 1)) [some (.ref t), some (.int n), some (.int 0), some (.int x)] g = .nx [some (.ref t), some (.int n), some (.int 0), some (.int x)] (g.set t (.lst [.lst (ns.map D.int), .int (pos + 1), .int 0, .int seed])) := by
          intro x
          unfold sAugI
          have i1 : ixN [D.lst (ns.map D.int), .int pos, .int 0, .int seed].length 1 = some 1 := rfl
          have rb : rB 1 = true := rfl
          simp only [vVar_e, List.getElem?_cons_zero, sBind, vC_e, hg, i1, rb, List.getElem?_cons_succ]
          rfl
        unfold c__law_next_4
        simp [ix4 hg, at0, at1, hp, hz, absD, au]
      · refine ⟨0, pos, g, Int.le_refl _, p0, hg, rfl, fun _ _ => rfl, ?_⟩
        unfold c__law_next_4
        simp [ix4 hg, at0, at1, hp]
    obtain ⟨c, pos', g1, c0, p0', hg1, l1, f1, hc⟩ := cell
    have tl1 := (List.getElem?_eq_some_iff.mp hg1).1
    have head : endM (sSeq (sAsg 2 (vOp ixD (vVar 0) (vC (.int 2)))) (sSeq (sIf (tOf (vOp gtD (vVar 2) (vC (.int 0)))) (sSeq (sSub (vVar 0) (vC (.int 2)) (vOp divD (vVar 2) (vVar 1))) (sRet (vOp modD (vCB intD (aCons (vVar 2) aNil)) (vVar 1)))) sNx) c__law_next_5) [some (.ref t), some (.int n), none, none] g) = endM (c__law_next_4 [some (.ref t), some (.int n), some (.int 0), some (.int 0)] g) := by
      unfold c__law_next_5
      simp [ix4 hg, at2]
    rw [head, hc]
    have pw : ∀ g : G, powD g (.int 10) (.int 18) = some (.int 1000000000000000000) := fun g => rfl
    unfold c__law_next_3
    by_cases hb : 1000000000000000000 ≤ c
    · refine ⟨c % n, g1.set t (.lst [.lst (ns.map D.int), .int pos', .int (c / n), .int seed]), ?_, Int.emod_nonneg _ (by omega), Int.emod_lt_of_pos _ h0, ⟨ns, pos', c / n, seed, List.getElem?_set_self tl1, p0', Int.ediv_nonneg c0 (by omega), s0, s1⟩, by simp [l1], fun i q => by rw [List.getElem?_set_ne (Ne.symm q)]; exact f1 i q⟩
      have sb := set4 hg1 (e := [some (.ref t), some (.int n), some (.int 0), some (.int c)]) (m := vOp divD (vVar 3) (vVar 1)) (y := .int (c / n)) (i := 2) rfl (by simp [dn]) (by decide)
      simp only [Int.cast_ofNat_Int] at sb
      have ge : ∀ g : G, geD g (.int c) (.int 1000000000000000000) = some (.bl true) := fun g => congrArg (fun b => some (D.bl b)) (decide_eq_true hb)
      simp [pw, ge, sb, mn, intD]
    · have ge : ∀ g : G, geD g (.int c) (.int 1000000000000000000) = some (.bl false) := fun g => congrArg (fun b => some (D.bl b)) (decide_eq_false hb)
      have k1 : mulD g1 (.int seed) (.int 48271) = some (.int (seed * 48271)) := mulD_r (by decide) (by decide)
      have k2 : mulD g1 (.int c) (.int 69621) = some (.int (c * 69621)) := mulD_r (by decide) (by decide)
      have k3 : modD g1 (.int (seed * 48271 + c * 69621 + 11)) (.int 2147483647) = some (.int ((seed * 48271 + c * 69621 + 11) % 2147483647)) := modD_e (by decide)
      have sb := set4 hg1 (e := [some (.ref t), some (.int n), some (.int 0), some (.int c)]) (m := vOp modD (vCB intD (aCons (vOp addD (vOp addD (vOp mulD (vOp ixD (vVar 0) (vC (.int 3))) (vC (.int 48271))) (vOp mulD (vVar 3) (vC (.int 69621)))) (vC (.int 11))) aNil)) (vC (.int 2147483647))) (y := .int ((seed * 48271 + c * 69621 + 11) % 2147483647)) (i := 3) rfl (by simp [ix4 hg1, at3, k1, k2, k3, intD]) (by decide)
      simp only [Int.cast_ofNat_Int] at sb
      have z0 := Int.emod_nonneg (seed * 48271 + c * 69621 + 11) (show (2147483647 : Int) ≠ 0 by decide)
      have z1 := Int.emod_lt_of_pos (seed * 48271 + c * 69621 + 11) (show (0 : Int) < 2147483647 by decide)
      generalize (seed * 48271 + c * 69621 + 11) % 2147483647 = z at sb z0 z1
      have hg2 : (g1.set t (.lst ([.lst (ns.map D.int), .int pos', .int 0, .int seed].set 3 (.int z))))[t]? = some (.lst [.lst (ns.map D.int), .int pos', .int 0, .int z]) := List.getElem?_set_self tl1
      generalize hG : g1.set t (.lst ([.lst (ns.map D.int), .int pos', .int 0, .int seed].set 3 (.int z))) = g2 at sb hg2
      have k4 : mulD g2 (.int z) (.int 16807) = some (.int (z * 16807)) := mulD_r (by decide) (by decide)
      have k5 : modD g2 (.int (z * 16807)) (.int 2147483647) = some (.int (z * 16807 % 2147483647)) := modD_e (by decide)
      have k6 : divD g2 (.int (z * 16807 % 2147483647)) (.int 7) = some (.int (z * 16807 % 2147483647 / 7)) := divD_e (by decide) (by decide)
      refine ⟨z * 16807 % 2147483647 / 7 % n, g2, ?_, Int.emod_nonneg _ (by omega), Int.emod_lt_of_pos _ h0, ⟨ns, pos', 0, z, hg2, p0', Int.le_refl _, z0, z1⟩, by rw [← hG]; simp [l1], fun i q => by rw [← hG, List.getElem?_set_ne (Ne.symm q)]; exact f1 i q⟩
      unfold c__law_next_2 c__law_next_1
      simp only [sSeq_e, sIf_e, tOf_e, vOp_e, vVar_e, vC_e, List.getElem?_cons_zero, List.getElem?_cons_succ, Res.bind, pw, oR_some, ge, bR_bl, cond_false, sBind, sNx_e, sb, sRet_e, vCB_e, aCons_e, aNil_e, ix4 hg2, at3, k4, k5, k6, intD, mn]
      rfl

/-! ### a step of the tape in an expression -/
structure Nxt (g g' : G) (t : Nat) : Prop where
  T : Tp g' t
  len : g'.length = g.length
  fr : ∀ i, i ≠ t → g'[i]? = g[i]?
theorem Nxt.refl {g : G} {t : Nat} (T : Tp g t) : Nxt g g t := ⟨T, rfl, fun _ _ => rfl⟩
theorem Nxt.trans {g g1 g2 : G} {t : Nat} (a : Nxt g g1 t) (b : Nxt g1 g2 t) : Nxt g g2 t := ⟨b.T, b.len.trans a.len, fun i h => (b.fr i h).trans (a.fr i h)⟩
theorem nx {g : G} {t i : Nat} (T : Tp g t) {e : En} {m : EM} {n : Int} (he : e[i]? = some (some (.ref t))) (hm : m e g = .ok (.int n) g) (h0 : 0 < n) (h1 : n < 1000) :
    ∃ v g', vCall m__law_next (aCons (vVar i) (aCons m aNil)) e g = .ok (.int v) g' ∧ 0 ≤ v ∧ v < n ∧ Nxt g g' t := by
  obtain ⟨v, g', h, a, b, T', l, f⟩ := next_ok T h0 h1
  refine ⟨v, g', ?_, a, b, T', l, f⟩
  simp [he, hm, h]

/-! ### the calls that are drawn -/
inductive OkCall (sp : Int) : List D → Prop
  | store (s p i v : Int) : 0 ≤ s → s < sp → 0 ≤ p → p < 8 → 0 ≤ i → i < 2 → 1 ≤ v → v < 10 → OkCall sp [.str 7, .int s, .int p, .int i, .int v]
  | load (s p i : Int) : 0 ≤ s → s < sp → 0 ≤ p → p < 8 → 0 ≤ i → i < 2 → OkCall sp [.str 3, .int s, .int p, .int i]
  | change (s p i a b : Int) : 0 ≤ s → s < sp → 0 ≤ p → p < 8 → 0 ≤ i → i < 2 → 0 ≤ a → a < 4 → 1 ≤ b → b < 10 → OkCall sp [.str 8, .int s, .int p, .int i, .int a, .int b]
  | map0 (s p n : Int) (r : Nat) : 0 ≤ s → s < sp → 0 ≤ p → 1 ≤ n → n ≤ 3 → p + n ≤ 8 → r < 2 → OkCall sp [.str 12, .int s, .int p, .int n, .str r, .non]
  | map1 (s p n : Int) (r : Nat) (f q : Int) : 0 ≤ s → s < sp → 0 ≤ p → 1 ≤ n → n ≤ 3 → p + n ≤ 8 → r < 2 → 0 ≤ f → f < 2 → 0 ≤ q → q + n ≤ 4 → OkCall sp [.str 12, .int s, .int p, .int n, .str r, .tup [.int f, .int q]]
  | unmap (s p n : Int) : 0 ≤ s → s < sp → 0 ≤ p → 1 ≤ n → n ≤ 3 → p + n ≤ 8 → OkCall sp [.str 5, .int s, .int p, .int n]
  | protect (s p n : Int) (r : Nat) : 0 ≤ s → s < sp → 0 ≤ p → 1 ≤ n → n ≤ 3 → p + n ≤ 8 → r < 2 → OkCall sp [.str 4, .int s, .int p, .int n, .str r]
  | fork (s : Int) : 0 ≤ s → s < sp → OkCall sp [.str 6, .int s]
  | end_ (s : Int) : 0 ≤ s → s < sp → OkCall sp [.str 2, .int s]
  | begin : OkCall sp [.str 9]
  | sync (f : Int) : 0 ≤ f → f < 2 → OkCall sp [.str 11, .int f]
  | evict : OkCall sp [.str 10]
theorem call_ok {g : G} {t : Nat} (T : Tp g t) {sp : Int} (p0 : 0 < sp) (p1 : sp < 100) : ∃ ds g', m__law_call [.ref t, .int sp] g = .ok (.tup ds) g' ∧ OkCall sp ds ∧ Nxt g g' t := by
  have start : m__law_call [.ref t, .int sp] g = endM (b__law_call [some (.ref t), some (.int sp), none, none, none, none, none] g) := rfl
  rw [start]
  obtain ⟨k, g1, a1, k0, k1, N1⟩ := nx (i := 0) T (e := [some (.ref t), some (.int sp), none, none, none, none, none]) (m := vC (.int 24)) rfl rfl (by decide) (by decide)
  obtain ⟨s, g2, a2, s0, s1, N2⟩ := nx (i := 0) N1.T (e := [some (.ref t), some (.int sp), some (.int k), none, none, none, none]) (m := vVar 1) rfl rfl p0 (by omega)
  obtain ⟨q, g3, a3, q0, q1, N3⟩ := nx (i := 0) N2.T (e := [some (.ref t), some (.int sp), some (.int k), some (.int s), none, none, none]) (m := vC (.int 4)) rfl rfl (by decide) (by decide)
  have hq : ∃ z : Int, (z = 3 ∨ z = 8) ∧ (vOp ixD (vTup (aCons (vC (.int 3)) (aCons (vC (.int 8)) aNil))) (vOp divD (vCall m__law_next (aCons (vVar 0) (aCons (vC (.int 4)) aNil))) (vC (.int 3)))) [some (.ref t), some (.int sp), some (.int k), some (.int s), none, none, none] g2 = .ok (.int z) g3 := by
    have d3 : divD g3 (.int q) (.int 3) = some (.int (q / 3)) := divD_e (by decide) (by decide)
    have h : q / 3 = 0 ∨ q / 3 = 1 := by omega
    rcases h with h | h
    · exact ⟨3, .inl rfl, by simp [-vCall_e, vTup_s, okL_s, a3, d3, h, at0]⟩
    · exact ⟨8, .inr rfl, by simp [-vCall_e, vTup_s, okL_s, a3, d3, h, at1]⟩
  obtain ⟨z, hz, aq⟩ := hq
  have hp : ∃ p g4, vCall m__law_next (aCons (vVar 0) (aCons (vOp ixD (vTup (aCons (vC (.int 3)) (aCons (vC (.int 8)) aNil))) (vOp divD (vCall m__law_next (aCons (vVar 0) (aCons (vC (.int 4)) aNil))) (vC (.int 3)))) aNil)) [some (.ref t), some (.int sp), some (.int k), some (.int s), none, none, none] g2 = .ok (.int p) g4 ∧ 0 ≤ p ∧ p < 8 ∧ Nxt g3 g4 t := by
    obtain ⟨p, g4, h, b0, b1, T4, l4, f4⟩ := next_ok N3.T (n := z) (by omega) (by omega)
    refine ⟨p, g4, ?_, b0, by omega, T4, l4, f4⟩
    simp only [vCall_e, aCons_e, aq, vVar_e, List.getElem?_cons_zero, Res.bind, aNil_e, h]
  obtain ⟨p, g4, a4, p2, p3, N4⟩ := hp
  have hm : ∃ z : Int, 0 < z ∧ z ≤ 3 ∧ p + z ≤ 8 ∧ (vCB minD (aCons (vC (.int 3)) (aCons (vOp subD (vC (.int 8)) (vVar 4)) aNil))) [some (.ref t), some (.int sp), some (.int k), some (.int s), some (.int p), none, none] g4 = .ok (.int z) g4 := by
    refine ⟨if 8 - p < 3 then 8 - p else 3, by split <;> omega, by split <;> omega, by split <;> omega, ?_⟩
    simp [minD]
  obtain ⟨z2, z0, z3, z8, am⟩ := hm
  obtain ⟨n, g5, a5, n0, n1, N5⟩ := nx (i := 0) N4.T (e := [some (.ref t), some (.int sp), some (.int k), some (.int s), some (.int p), none, none]) (m := vCB minD (aCons (vC (.int 3)) (aCons (vOp subD (vC (.int 8)) (vVar 4)) aNil))) rfl am z0 (by omega)
  have N : Nxt g g5 t := (((N1.trans N2).trans N3).trans N4).trans N5
  unfold b__law_call c__law_call_14 c__law_call_13 c__law_call_12
  simp only [sSeq_e, sAsg_e, a1, sBind, List.set, a2, a4, vOp_e, vC_e, a5, Res.bind, addD_int, oR_some]
  generalize hE : [some (D.ref t), some (D.int sp), some (D.int k), some (D.int s), some (D.int p), some (D.int (1 + n)), none] = e at *
  have e0 : e[0]? = some (some (.ref t)) := by rw [← hE]; rfl
  have e2 : vVar 2 e = fun g => Res.ok (.int k) g := by rw [← hE]; rfl
  have e3 : vVar 3 e = fun g => Res.ok (.int s) g := by rw [← hE]; rfl
  have e4 : vVar 4 e = fun g => Res.ok (.int p) g := by rw [← hE]; rfl
  have e5 : vVar 5 e = fun g => Res.ok (.int (1 + n)) g := by rw [← hE]; rfl
  unfold c__law_call_11
  have lt : ∀ (b : Int), tOf (vOp ltD (vVar 2) (vC (.int b))) e g5 = .ok (decide (k < b)) g5 := fun b => by simp only [tOf_e, vOp_e, e2, vC_e, Res.bind, icD, oR_some, bR_bl]
  have eq : ∀ (b : Int), tOf (vOp eqD (vVar 2) (vC (.int b))) e g5 = .ok (k == b) g5 := fun b => by simp only [tOf_e, vOp_e, e2, vC_e, Res.bind, eq_int, oR_some, bR_bl]
  have one : ∀ {g : G} {b : Int} (T : Tp g t), 0 < b → b < 1000 → ∃ v g', vCall m__law_next (aCons (vVar 0) (aCons (vC (.int b)) aNil)) e g = .ok (.int v) g' ∧ 0 ≤ v ∧ v < b ∧ Nxt g g' t := fun T h0 h1 => nx T e0 rfl h0 h1
  by_cases h6 : k < 6
  · obtain ⟨i, g6, b1, i0, i1, M1⟩ := one N5.T (b := 2) (by decide) (by decide)
    obtain ⟨v, g7, b2, v0, v1, M2⟩ := one M1.T (b := 9) (by decide) (by decide)
    refine ⟨_, g7, ?_, .store s p i (1 + v) s0 s1 p2 p3 i0 i1 (by omega) (by omega), (N.trans M1).trans M2⟩
    simp only [sSeq_e, sIf_e, lt, sBind, decide_eq_true h6, cond_true, sRet_e, vTup_s, aCons_e, vC_e, e3, e4, b1, vOp_e, b2, Res.bind, addD_int, oR_some, aNil_e, (show okL [D.str 7, .int s, .int p, .int i, .int (1 + v)].length = true from rfl), endM_rt]
  rw [sSeq_e, sIf_e, lt]
  simp only [sBind, decide_eq_false h6, cond_false, sNx_e]
  unfold c__law_call_10
  by_cases h11 : k < 11
  · obtain ⟨i, g6, b1, i0, i1, M1⟩ := one N5.T (b := 2) (by decide) (by decide)
    refine ⟨_, g6, ?_, .load s p i s0 s1 p2 p3 i0 i1, N.trans M1⟩
    simp only [sSeq_e, sIf_e, lt, sBind, decide_eq_true h11, cond_true, sRet_e, vTup_s, aCons_e, vC_e, e3, e4, b1, Res.bind, aNil_e, (show okL [D.str 3, .int s, .int p, .int i].length = true from rfl), endM_rt]
  rw [sSeq_e, sIf_e, lt]
  simp only [sBind, decide_eq_false h11, cond_false, sNx_e]
  unfold c__law_call_9
  by_cases h12 : k = 11
  · obtain ⟨i, g6, b1, i0, i1, M1⟩ := one N5.T (b := 2) (by decide) (by decide)
    obtain ⟨v, g7, b2, v0, v1, M2⟩ := one M1.T (b := 4) (by decide) (by decide)
    obtain ⟨w, g8, b3, w0, w1, M3⟩ := one M2.T (b := 9) (by decide) (by decide)
    refine ⟨_, g8, ?_, .change s p i v (1 + w) s0 s1 p2 p3 i0 i1 v0 v1 (by omega) (by omega), ((N.trans M1).trans M2).trans M3⟩
    simp only [sSeq_e, sIf_e, eq, sBind, beq_iff_eq.mpr h12, cond_true, sRet_e, vTup_s, aCons_e, vC_e, e3, e4, b1, vOp_e, b2, b3, Res.bind, addD_int, oR_some, aNil_e, (show okL [D.str 8, .int s, .int p, .int i, .int v, .int (1 + w)].length = true from rfl), endM_rt]
  rw [sSeq_e, sIf_e, eq]
  simp only [sBind, beq_eq_false_iff_ne.mpr h12, cond_false, sNx_e]
  unfold c__law_call_8
  by_cases h15 : k < 15
  · obtain ⟨c, g6, b1, i0, i1, M1⟩ : ∃ v g', vCall m__law_next (aCons (vVar 0) (aCons (vC (.int 3)) aNil)) (e.set 6 (some .non)) g5 = .ok (.int v) g' ∧ 0 ≤ v ∧ v < 3 ∧ Nxt g5 g' t := nx N5.T (by rw [List.getElem?_set_ne (by decide)]; exact e0) rfl (by decide) (by decide)
    have rgt : ∀ {e' : En} {g6 : G}, e'[0]? = some (some (.ref t)) → Tp g6 t → ∃ (v : Int) (r : Nat) (g7 : G), r < 2 ∧ vCall m__law_next (aCons (vVar 0) (aCons (vC (.int 3)) aNil)) e' g6 = .ok (.int v) g7 ∧ atI [D.str 1, .str 1, .str 0] v = some (.str r) ∧ Nxt g6 g7 t := by
      intro e' g6 h0 T6
      obtain ⟨v, g7, b2, v0, v1, M2⟩ := nx (i := 0) T6 (e := e') (m := vC (.int 3)) h0 rfl (by decide) (by decide)
      have hv : v = 0 ∨ v = 1 ∨ v = 2 := by omega
      rcases hv with rfl | rfl | rfl
      · exact ⟨0, 1, g7, by decide, b2, rfl, M2⟩
      · exact ⟨1, 1, g7, by decide, b2, rfl, M2⟩
      · exact ⟨2, 0, g7, by decide, b2, rfl, M2⟩
    by_cases hc : c = 0
    · subst hc
      obtain ⟨f, g7, b2, f0, f1, M2⟩ : ∃ v g', vCall m__law_next (aCons (vVar 0) (aCons (vC (.int 2)) aNil)) (e.set 6 (some .non)) g6 = .ok (.int v) g' ∧ 0 ≤ v ∧ v < 2 ∧ Nxt g6 g' t := nx M1.T (by rw [List.getElem?_set_ne (by decide)]; exact e0) rfl (by decide) (by decide)
      obtain ⟨x, g8, b3, x0, x1, M3⟩ : ∃ v g', vCall m__law_next (aCons (vVar 0) (aCons (vOp subD (vC (.int 5)) (vVar 5)) aNil)) (e.set 6 (some .non)) g7 = .ok (.int v) g' ∧ 0 ≤ v ∧ v < 5 - (1 + n) ∧ Nxt g7 g' t := nx M2.T (by rw [List.getElem?_set_ne (by decide)]; exact e0) (by rw [← hE]; rfl) (by omega) (by omega)
      obtain ⟨y, r, g9, r2, b4, hy, M4⟩ := rgt (e' := (e.set 6 (some .non)).set 6 (some (.tup [.int f, .int x]))) (by rw [List.getElem?_set_ne (by decide), List.getElem?_set_ne (by decide)]; exact e0) M3.T
      refine ⟨_, g9, ?_, .map1 s p (1 + n) r f x s0 s1 p2 (by omega) (by omega) (by omega) r2 f0 f1 x0 (by omega), (((N.trans M1).trans M2).trans M3).trans M4⟩
      unfold c__law_call_7 c__law_call_6
      have E3 : vVar 3 ((e.set 6 (some .non)).set 6 (some (.tup [.int f, .int x]))) = fun g => Res.ok (.int s) g := by rw [← hE]; rfl
      have E4 : vVar 4 ((e.set 6 (some .non)).set 6 (some (.tup [.int f, .int x]))) = fun g => Res.ok (.int p) g := by rw [← hE]; rfl
      have E5 : vVar 5 ((e.set 6 (some .non)).set 6 (some (.tup [.int f, .int x]))) = fun g => Res.ok (.int (1 + n)) g := by rw [← hE]; rfl
      have E6 : vVar 6 ((e.set 6 (some .non)).set 6 (some (.tup [.int f, .int x]))) = fun g => Res.ok (.tup [.int f, .int x]) g := by rw [← hE]; rfl
      rw [sSeq_e, sIf_e, lt]
      simp only [sSeq_e, sIf_e, sBind, decide_eq_true h15, cond_true, sRet_e, sAsg_e, vTup_s, aCons_e, vC_e, tOf_e, b1, vOp_e, b2, b3, b4, hy, ixD_tup, (show okL [D.str 1, .str 1, .str 0].length = true from rfl), E3, E4, E5, E6, Res.bind, eq_int, beq_self_eq_true, bR_bl, oR_some, aNil_e, (show okL [D.int f, .int x].length = true from rfl), (show okL [D.str 12, .int s, .int p, .int (1 + n), .str r, .tup [.int f, .int x]].length = true from rfl), endM_rt]
    · obtain ⟨y, r, g9, r2, b4, hy, M4⟩ := rgt (e' := e.set 6 (some .non)) (by rw [List.getElem?_set_ne (by decide)]; exact e0) M1.T
      refine ⟨_, g9, ?_, .map0 s p (1 + n) r s0 s1 p2 (by omega) (by omega) (by omega) r2, (N.trans M1).trans M4⟩
      unfold c__law_call_7 c__law_call_6
      have E3 : vVar 3 (e.set 6 (some .non)) = fun g => Res.ok (.int s) g := by rw [← hE]; rfl
      have E4 : vVar 4 (e.set 6 (some .non)) = fun g => Res.ok (.int p) g := by rw [← hE]; rfl
      have E5 : vVar 5 (e.set 6 (some .non)) = fun g => Res.ok (.int (1 + n)) g := by rw [← hE]; rfl
      have E6 : vVar 6 (e.set 6 (some .non)) = fun g => Res.ok .non g := by rw [← hE]; rfl
      rw [sSeq_e, sIf_e, lt]
      simp only [sSeq_e, sIf_e, sBind, decide_eq_true h15, cond_true, sRet_e, sAsg_e, vTup_s, aCons_e, vC_e, tOf_e, b1, vOp_e, b4, hy, ixD_tup, (show okL [D.str 1, .str 1, .str 0].length = true from rfl), E3, E4, E5, E6, Res.bind, eq_int, beq_eq_false_iff_ne.mpr hc, bR_bl, oR_some, aNil_e, cond_false, sNx_e, (show okL [D.str 12, .int s, .int p, .int (1 + n), .str r, .non].length = true from rfl), endM_rt]
  rw [sSeq_e, sIf_e, lt]
  simp only [sBind, decide_eq_false h15, cond_false, sNx_e]
  unfold c__law_call_5
  by_cases h16 : k = 15
  · refine ⟨_, g5, ?_, .unmap s p (1 + n) s0 s1 p2 (by omega) (by omega) (by omega), N⟩
    simp only [sSeq_e, sIf_e, eq, sBind, beq_iff_eq.mpr h16, cond_true, sRet_e, vTup_s, aCons_e, vC_e, e3, e4, e5, Res.bind, oR_some, aNil_e, (show okL [D.str 5, .int s, .int p, .int (1 + n)].length = true from rfl), endM_rt]
  rw [sSeq_e, sIf_e, eq]
  simp only [sBind, beq_eq_false_iff_ne.mpr h16, cond_false, sNx_e]
  unfold c__law_call_4
  by_cases h17 : k = 16
  · obtain ⟨v, g6, b1, v0, v1, M1⟩ := one N5.T (b := 2) (by decide) (by decide)
    have hv : v = 0 ∨ v = 1 := by omega
    have hr : ∃ r : Nat, r < 2 ∧ atI [D.str 0, .str 1] v = some (.str r) := by
      rcases hv with rfl | rfl
      · exact ⟨0, by decide, rfl⟩
      · exact ⟨1, by decide, rfl⟩
    obtain ⟨r, r2, hr⟩ := hr
    refine ⟨_, g6, ?_, .protect s p (1 + n) r s0 s1 p2 (by omega) (by omega) (by omega) r2, N.trans M1⟩
    simp only [sSeq_e, sIf_e, eq, sBind, beq_iff_eq.mpr h17, cond_true, sRet_e, vTup_s, aCons_e, vC_e, e3, e4, e5, vOp_e, b1, Res.bind, ixD_tup, hr, oR_some, aNil_e, (show okL [D.str 0, .str 1].length = true from rfl), (show okL [D.str 4, .int s, .int p, .int (1 + n), .str r].length = true from rfl), endM_rt]
  rw [sSeq_e, sIf_e, eq]
  simp only [sBind, beq_eq_false_iff_ne.mpr h17, cond_false, sNx_e]
  unfold c__law_call_3
  by_cases h19 : k < 19
  · refine ⟨_, g5, ?_, .fork s s0 s1, N⟩
    simp only [sSeq_e, sIf_e, lt, sBind, decide_eq_true h19, cond_true, sRet_e, vTup_s, aCons_e, vC_e, e3, Res.bind, aNil_e, (show okL [D.str 6, .int s].length = true from rfl), endM_rt]
  rw [sSeq_e, sIf_e, lt]
  simp only [sBind, decide_eq_false h19, cond_false, sNx_e]
  unfold c__law_call_2
  by_cases h20 : k = 19
  · obtain ⟨f, g6, b1, f0, f1, M1⟩ := one N5.T (b := 2) (by decide) (by decide)
    obtain ⟨w, g7, b2, w0, w1, M2⟩ := one M1.T (b := 3) (by decide) (by decide)
    have hw : ∃ ds, atI [D.tup [.str 2, .int s], .tup [.str 9], .tup [.str 11, .int f]] w = some (.tup ds) ∧ OkCall sp ds := by
      have h : w = 0 ∨ w = 1 ∨ w = 2 := by omega
      rcases h with rfl | rfl | rfl
      · exact ⟨_, rfl, .end_ s s0 s1⟩
      · exact ⟨_, rfl, .begin⟩
      · exact ⟨_, rfl, .sync f f0 f1⟩
    obtain ⟨ds, hw, oc⟩ := hw
    refine ⟨ds, g7, ?_, oc, (N.trans M1).trans M2⟩
    simp only [sSeq_e, sIf_e, eq, sBind, beq_iff_eq.mpr h20, cond_true, sRet_e, vTup_s, aCons_e, vC_e, e3, vOp_e, b1, b2, Res.bind, ixD_tup, hw, oR_some, aNil_e, (show okL [D.str 2, .int s].length = true from rfl), (show okL [D.str 9].length = true from rfl), (show okL [D.str 11, .int f].length = true from rfl), (show okL [D.tup [.str 2, .int s], .tup [.str 9], .tup [.str 11, .int f]].length = true from rfl), endM_rt]
  rw [sSeq_e, sIf_e, eq]
  simp only [sBind, beq_eq_false_iff_ne.mpr h20, cond_false, sNx_e]
  refine ⟨_, g5, ?_, .evict, N⟩
  unfold c__law_call_1
  simp only [sRet_e, vTup_s, aCons_e, vC_e, Res.bind, aNil_e, (show okL [D.str 10].length = true from rfl), sBind, endM_rt]

/-! ### tables with keys and values of any kind -/
structure Enc (κ ν : Type) where
  ek : κ → D
  ev : ν → D
  tk : Bool
  dk : ∀ a b, deq (ek a) (ek b) = true ↔ a = b
  key : ∀ a, isKey tk (ek a) = true
section
variable {κ ν : Type} [DecidableEq κ] (E : Enc κ ν)
def lkT : List (κ × ν) → κ → Option ν
  | [], _ => none
  | x :: ps, k => if x.1 = k then some x.2 else lkT ps k
theorem lkT_cons {x : κ × ν} {ps : List (κ × ν)} {k : κ} : lkT (x :: ps) k = if x.1 = k then some x.2 else lkT ps k := rfl
def putT (ps : List (κ × ν)) (k : κ) (v : ν) : List (κ × ν) := if (lkT ps k).isSome then ps.map fun x => if x.1 = k then (x.1, v) else x else ps ++ [(k, v)]
def delT (ps : List (κ × ν)) (k : κ) : List (κ × ν) := ps.filter fun x => !decide (x.1 = k)
def Enc.tb {κ ν : Type} (E : Enc κ ν) (ps : List (κ × ν)) : List (D × D) := ps.map fun p => (E.ek p.1, E.ev p.2)
def NdT {κ ν : Type} (ps : List (κ × ν)) : Prop := (ps.map Prod.fst).Nodup
theorem Enc.dkb (a b : κ) : deq (E.ek a) (E.ek b) = decide (a = b) := by
  rw [Bool.eq_iff_iff, E.dk, decide_eq_true_eq]
theorem tb_cons {x : κ × ν} {ps : List (κ × ν)} : E.tb (x :: ps) = (E.ek x.1, E.ev x.2) :: E.tb ps := rfl
theorem tb_len' {ps : List (κ × ν)} : (E.tb ps).length = ps.length := by simp [Enc.tb]
theorem lkp_T {ps : List (κ × ν)} {k : κ} : lkp (E.tb ps) (E.ek k) = (lkT ps k).map E.ev := by
  induction ps with
  | nil => rfl
  | cons x ps ih =>
    rw [tb_cons]
    unfold lkp lkT
    rw [E.dkb, ih]
    by_cases h : x.1 = k
    · rw [decide_eq_true h, if_pos h]; rfl
    · rw [decide_eq_false h, if_neg h]; rfl
theorem lkT_isSome {ps : List (κ × ν)} {k : κ} : (lkT ps k).isSome = true ↔ k ∈ ps.map Prod.fst := by
  induction ps with
  | nil => simp [lkT]
  | cons x ps ih =>
    unfold lkT
    rw [List.map_cons, List.mem_cons]
    by_cases h : x.1 = k
    · simp [h]
    · rw [if_neg h, ih]
      exact ⟨.inr, fun z => z.resolve_left fun e => h e.symm⟩
theorem lkT_none {ps : List (κ × ν)} {k : κ} : lkT ps k = none ↔ k ∉ ps.map Prod.fst := by
  rw [← lkT_isSome]
  cases lkT ps k <;> simp
theorem lkT_mem {ps : List (κ × ν)} (h : NdT ps) {x : κ × ν} (hx : x ∈ ps) : lkT ps x.1 = some x.2 := by
  induction ps with
  | nil => cases hx
  | cons y ps ih =>
    unfold lkT
    unfold NdT at h
    rw [List.map_cons, List.nodup_cons] at h
    rcases List.mem_cons.mp hx with rfl | hx
    · rw [if_pos rfl]
    · rw [if_neg (fun e => h.1 (by rw [e]; exact List.mem_map.mpr ⟨x, hx, rfl⟩))]
      exact ih h.2 hx
theorem mem_lkT {ps : List (κ × ν)} {k : κ} {v : ν} (h : lkT ps k = some v) : (k, v) ∈ ps := by
  induction ps with
  | nil => cases h
  | cons y ps ih =>
    unfold lkT at h
    by_cases c : y.1 = k
    · rw [if_pos c] at h
      cases h
      rw [← c]
      exact List.mem_cons_self
    · rw [if_neg c] at h
      exact List.mem_cons_of_mem _ (ih h)
theorem lkT_app {ps qs : List (κ × ν)} {k : κ} : lkT (ps ++ qs) k = (lkT ps k).or (lkT qs k) := by
  induction ps with
  | nil => simp [lkT]
  | cons x ps ih =>
    rw [List.cons_append, lkT_cons, lkT_cons, ih]
    by_cases h : x.1 = k
    · simp [h]
    · rw [if_neg h, if_neg h]
theorem any_T {ps : List (κ × ν)} {k : κ} : ((E.tb ps).any fun x => deq x.1 (E.ek k)) = (lkT ps k).isSome := by
  induction ps with
  | nil => rfl
  | cons x ps ih =>
    rw [tb_cons, List.any_cons, ih, E.dkb, lkT_cons]
    by_cases h : x.1 = k
    · simp [h]
    · simp [h]
theorem putp_T {ps : List (κ × ν)} {k : κ} {v : ν} : putp (E.tb ps) (E.ek k) (E.ev v) = E.tb (putT ps k v) := by
  unfold putp putT
  rw [any_T]
  cases (lkT ps k).isSome with
  | false => simp [Enc.tb]
  | true =>
    simp only [cond_true, if_true]
    unfold Enc.tb
    rw [List.map_map, List.map_map]
    apply List.map_congr_left
    intro x _
    simp only [Function.comp_apply, E.dkb]
    by_cases h : x.1 = k
    · simp [h]
    · rw [decide_eq_false h, if_neg h]
      rfl
theorem dropp_T {ps : List (κ × ν)} {k : κ} : dropp (E.tb ps) (E.ek k) = E.tb (delT ps k) := by
  unfold dropp delT Enc.tb
  rw [List.filter_map]
  congr 1
  apply List.filter_congr
  intro x _
  simp only [Function.comp_apply, E.dkb]
theorem put_keysT {ps : List (κ × ν)} {k : κ} {v : ν} : (putT ps k v).map Prod.fst = if (lkT ps k).isSome then ps.map Prod.fst else ps.map Prod.fst ++ [k] := by
  unfold putT
  split
  · rw [List.map_map]
    apply List.map_congr_left
    intro x _
    simp only [Function.comp_apply]
    split <;> rfl
  · simp
theorem put_ndT {ps : List (κ × ν)} (h : NdT ps) {k : κ} {v : ν} : NdT (putT ps k v) := by
  unfold NdT at h ⊢
  rw [put_keysT]
  split
  · exact h
  · rename_i hn
    rw [lkT_isSome] at hn
    rw [List.nodup_append]
    refine ⟨h, by simp, fun a ha b hb e => ?_⟩
    rw [List.mem_singleton] at hb
    subst hb
    subst e
    exact hn ha
theorem filter_ndT {ps : List (κ × ν)} (h : NdT ps) (c : κ × ν → Bool) : NdT (ps.filter c) := by
  unfold NdT List.Nodup at h ⊢
  rw [List.pairwise_map] at h ⊢
  exact h.filter _
theorem del_ndT {ps : List (κ × ν)} (h : NdT ps) {k : κ} : NdT (delT ps k) := filter_ndT h _
theorem lkT_map {k q : κ} {v : ν} : ∀ {ps : List (κ × ν)}, lkT (ps.map fun x => if x.1 = k then (x.1, v) else x) q = (lkT ps q).map fun w => if q = k then v else w
  | [] => rfl
  | x :: ps => by
    rw [List.map_cons]
    have ih := lkT_map (k := k) (q := q) (v := v) (ps := ps)
    unfold lkT
    rw [ih]
    by_cases h : x.1 = k
    · simp only [h, if_true]
      by_cases hq : k = q
      · simp [hq]
      · rw [if_neg hq, if_neg hq]
    · simp only [h, if_false]
      by_cases hx : x.1 = q
      · rw [if_pos hx, if_pos hx, Option.map_some, if_neg (fun e => h (hx.trans e))]
      · rw [if_neg hx, if_neg hx]
theorem lkT_put {ps : List (κ × ν)} {k q : κ} {v : ν} : lkT (putT ps k v) q = if q = k then some v else lkT ps q := by
  unfold putT
  split
  · rename_i hs
    rw [lkT_map]
    by_cases h : q = k
    · subst h
      rw [if_pos rfl]
      cases z : lkT ps q with
      | none => rw [z] at hs; cases hs
      | some w => simp
    · rw [if_neg h]
      cases lkT ps q with
      | none => rfl
      | some w => simp [h]
  · rename_i hs
    rw [lkT_app]
    have e : lkT [(k, v)] q = if q = k then some v else none := by
      unfold lkT
      by_cases h : q = k
      · simp [h]
      · rw [if_neg (Ne.symm h), if_neg h]; rfl
    rw [e]
    by_cases h : q = k
    · subst h
      have : lkT ps q = none := by
        cases z : lkT ps q with
        | none => rfl
        | some w => rw [z] at hs; simp at hs
      rw [this]; simp
    · simp [h]
theorem lkT_filter {c : κ → Bool} {q : κ} : ∀ {qs : List (κ × ν)}, lkT (qs.filter fun p => c p.1) q = if c q then lkT qs q else none
  | [] => by simp [lkT]
  | p :: qs => by
    rw [List.filter_cons]
    have ih := lkT_filter (c := c) (q := q) (qs := qs)
    by_cases h : p.1 = q
    · cases hc : c p.1 with
      | true =>
        rw [if_pos rfl]
        rw [h] at hc
        unfold lkT
        rw [if_pos h, if_pos h, hc, if_pos rfl]
      | false =>
        rw [if_neg Bool.false_ne_true]
        rw [h] at hc
        rw [ih, hc, if_neg Bool.false_ne_true, if_neg Bool.false_ne_true]
    · have e : lkT (p :: qs) q = lkT qs q := by
        show (if p.1 = q then some p.2 else lkT qs q) = _
        rw [if_neg h]
      rw [e, ← ih]
      cases c p.1 with
      | true =>
        rw [if_pos rfl]
        show (if p.1 = q then some p.2 else _) = _
        rw [if_neg h]
      | false => rw [if_neg Bool.false_ne_true]
theorem lkT_del {ps : List (κ × ν)} {k q : κ} : lkT (delT ps k) q = if q = k then none else lkT ps q := by
  unfold delT
  rw [lkT_filter (c := fun a => !decide (a = k))]
  by_cases h : q = k
  · simp [h]
  · simp [h]
theorem put_lenT {ps : List (κ × ν)} {k : κ} {v : ν} : (putT ps k v).length ≤ ps.length + 1 := by
  unfold putT
  split <;> simp
theorem del_lenT {ps : List (κ × ν)} {k : κ} : (delT ps k).length ≤ ps.length := List.length_filter_le _ _
theorem len_in {ps : List (κ × ν)} (h : NdT ps) {U : List κ} (hU : U.Nodup) (hin : ∀ x ∈ ps, x.1 ∈ U) : ps.length ≤ U.length := by
  have pm : (ps.map Prod.fst).Perm (U.filter fun p => decide (p ∈ ps.map Prod.fst)) := (List.perm_ext_iff_of_nodup h (hU.filter _)).mpr fun p => by
    rw [List.mem_filter, decide_eq_true_eq]
    refine ⟨fun hp => ⟨?_, hp⟩, fun hp => hp.2⟩
    obtain ⟨x, hx, rfl⟩ := List.mem_map.mp hp
    exact hin x hx
  have l1 := pm.length_eq
  have l2 := List.length_filter_le (fun p => decide (p ∈ ps.map Prod.fst)) U
  simp only [List.length_map] at l1
  omega
theorem same_len {ps qs : List (κ × ν)} (h1 : NdT ps) (h2 : NdT qs) (h : ∀ p, (lkT ps p).isSome = (lkT qs p).isSome) : ps.length = qs.length := by
  have : (ps.map Prod.fst).Perm (qs.map Prod.fst) := (List.perm_ext_iff_of_nodup h1 h2).mpr fun p => by rw [← lkT_isSome, ← lkT_isSome, h p]
  simpa using this.length_eq
theorem merge_T : ∀ (qs ps : List (κ × ν)), NdT (ps ++ qs) → mergep (E.tb ps) (E.tb qs) = E.tb (ps ++ qs)
  | [], ps, _ => by simp [mergep, Enc.tb]
  | p :: qs, ps, h => by
    have hn : lkT ps p.1 = none := by
      rw [lkT_none]
      intro hm
      unfold NdT at h
      rw [List.map_append, List.nodup_append] at h
      exact h.2.2 p.1 hm p.1 (by simp) rfl
    have e1 : putp (E.tb ps) (E.ek p.1) (E.ev p.2) = E.tb (ps ++ [p]) := by
      rw [putp_T]
      unfold putT
      rw [hn]
      simp
    have e2 : mergep (E.tb ps) (E.tb (p :: qs)) = mergep (E.tb (ps ++ [p])) (E.tb qs) := by
      show mergep (putp (E.tb ps) (E.ek p.1) (E.ev p.2)) (E.tb qs) = _
      rw [e1]
    rw [e2, merge_T qs (ps ++ [p]) (by simpa using h)]
    simp
/-! #### a table in the heap -/
variable {E}
theorem dcG_T {g : G} {l : Nat} {ps : List (κ × ν)} {k : κ} (h : (g[l]?).bind prsO = some (E.tk, E.tb ps)) : dcG g (.ref l) (E.ek k) = some ((lkT ps k).map E.ev) := by
  unfold dcG
  simp only [h, E.key, lkp_T]
theorem inC_T {g : G} {l : Nat} {ps : List (κ × ν)} {k : κ} {neg : Bool} (h : g[l]? = some (.dct E.tk (E.tb ps))) : inC neg g (E.ek k) (.ref l) = some (.bl ((lkT ps k).isSome != neg)) := by
  unfold inC
  rw [dcG_T (by rw [h]; rfl)]
  simp
theorem ixC_T {g : G} {l : Nat} {ps : List (κ × ν)} {k : κ} {v : ν} (h : (g[l]?).bind prsO = some (E.tk, E.tb ps)) (hv : lkT ps k = some v) : ixC g (.ref l) (E.ek k) = some (E.ev v) := by
  unfold ixC
  rw [dcG_T h, hv]
  rfl
theorem isDc_T {g : G} {l : Nat} {ps : List (κ × ν)} (h : g[l]? = some (.dct E.tk (E.tb ps))) : isDc g (.ref l) = true := by
  unfold isDc
  simp only [h, Option.bind_some, prsO, Option.isSome_some]
theorem get1_T {o m : EM} {e : En} {g : G} {l : Nat} {ps : List (κ × ν)} {k : κ} (ho : o e g = .ok (.ref l) g) (hm : m e g = .ok (E.ek k) g) (h : g[l]? = some (.dct E.tk (E.tb ps))) : vDGet o (aCons m aNil) e g = .ok (((lkT ps k).map E.ev).getD .non) g := by
  unfold vDGet
  simp only [ho, Res.bind, isDc_T h, aCons_e, hm, aNil_e, dcG_T (E := E) (g := g) (l := l) (ps := ps) (k := k) (by rw [h]; rfl)]
theorem get2_T {o m n : EM} {e : En} {g : G} {l : Nat} {ps : List (κ × ν)} {k : κ} {d : D} (ho : o e g = .ok (.ref l) g) (hm : m e g = .ok (E.ek k) g) (hn : n e g = .ok d g) (h : g[l]? = some (.dct E.tk (E.tb ps))) : vDGet o (aCons m (aCons n aNil)) e g = .ok (((lkT ps k).map E.ev).getD d) g := by
  unfold vDGet
  simp only [ho, Res.bind, isDc_T h, aCons_e, hm, hn, aNil_e, dcG_T (E := E) (g := g) (l := l) (ps := ps) (k := k) (by rw [h]; rfl)]
theorem sub_T {o i m : EM} {e : En} {g g1 : G} {l : Nat} {ps : List (κ × ν)} {k : κ} {v : ν} (hm : m e g = .ok (E.ev v) g1) (ho : o e g1 = .ok (.ref l) g1) (hi : i e g1 = .ok (E.ek k) g1) (h : g1[l]? = some (.dct E.tk (E.tb ps))) (hl : ps.length < 1000) : sSubC o i m e g = .nx e (g1.set l (.dct E.tk (E.tb (putT ps k v)))) := by
  unfold sSubC
  simp only [hm, sBind, ho, hi, h]
  simp only [E.key, Bool.true_and, show ltL (E.tb ps).length = true from ltL_of (by rw [tb_len']; omega), putp_T]
theorem pop2_T {o m n : EM} {e : En} {g : G} {l : Nat} {ps : List (κ × ν)} {k : κ} {d : D} (ho : o e g = .ok (.ref l) g) (hm : m e g = .ok (E.ek k) g) (hn : n e g = .ok d g) (h : g[l]? = some (.dct E.tk (E.tb ps))) : ∃ y, vDPopX o (aCons m (aCons n aNil)) e g = .ok y (g.set l (.dct E.tk (E.tb (delT ps k)))) := by
  unfold vDPopX
  simp only [ho, Res.bind, isDc_T h, aCons_e, hm, hn, aNil_e, h, E.key, lkp_T]
  cases z : lkT ps k with
  | some v => exact ⟨E.ev v, by simp only [Option.map_some, dropp_T]⟩
  | none =>
    have e1 : delT ps k = ps := by
      unfold delT
      rw [List.filter_eq_self]
      intro x hx
      have := lkT_none.mp z
      simp only [Bool.not_eq_true', decide_eq_false_iff_not]
      exact fun e => this (List.mem_map.mpr ⟨x, hx, e⟩)
    refine ⟨d, ?_⟩
    have ll := (List.getElem?_eq_some_iff.mp h).1
    have e2 : g[l] = .dct E.tk (E.tb ps) := (List.getElem?_eq_some_iff.mp h).2
    rw [e1, ← e2, List.set_getElem_self ll]
    rfl
theorem pop1_T {E : Enc Int ν} (ht : E.tk = false) (hk : ∀ a, E.ek a = .int a) {o m : EM} {e : En} {g : G} {l : Nat} {ps : List (Int × ν)} {k : Int} {v : ν} (ho : o e g = .ok (.ref l) g) (hm : m e g = .ok (.int k) g) (h : g[l]? = some (.dct E.tk (E.tb ps))) (hv : lkT ps k = some v) : vDPopX o (aCons m aNil) e g = .ok (E.ev v) (g.set l (.dct E.tk (E.tb (delT ps k)))) := by
  unfold vDPopX
  have e1 := lkp_T E (ps := ps) (k := k)
  rw [hv, hk] at e1
  have e2 := dropp_T E (ps := ps) (k := k)
  rw [hk] at e2
  simp only [ho, Res.bind, isDc_T h, aCons_e, hm, aNil_e, h, kyD, ht, e1, Option.map_some, e2]
theorem copy_T {m : EM} {e : En} {g : G} {l : Nat} {ps : List (κ × ν)} (hm : m e g = .ok (.ref l) g) (h : g[l]? = some (.dct E.tk (E.tb ps))) (hs : (!E.tk || keysS (E.tb ps)) = true) : vDctC (aCons m aNil) e g = .ok (.ref g.length) (g ++ [.dct E.tk (E.tb ps)]) := by
  have e1 : (g[l]?).bind prsO = some (E.tk, E.tb ps) := by rw [h]; rfl
  unfold vDctC
  simp only [aCons_e, hm, Res.bind, aNil_e, e1, hs]
/-! #### equal -/
theorem hits_T {f : D → D → Option Bool} {ps : List (κ × ν)} : ∀ {qs : List (κ × ν)}, (∀ x ∈ qs, ∃ y, lkT ps x.1 = some y ∧ f (E.ev x.2) (E.ev y) = some true) → hitsD f (E.tb ps) (E.tb qs) = some true
  | [], _ => rfl
  | x :: qs, h => by
    obtain ⟨y, hx, hf⟩ := h x List.mem_cons_self
    have ih := hits_T (f := f) (ps := ps) (qs := qs) fun y hy => h y (List.mem_cons_of_mem _ hy)
    rw [tb_cons]
    unfold hitsD
    simp only [lkp_T, hx, Option.map_some, hf, ih, Bool.and_self]
theorem eqG_T {n : Nat} {g : G} {l m : Nat} {ps qs : List (κ × ν)} (hl : g[l]? = some (.dct E.tk (E.tb qs))) (hm : g[m]? = some (.dct E.tk (E.tb ps))) (h1 : NdT ps) (h2 : NdT qs) (hs : ∀ p, (lkT ps p).isSome = (lkT qs p).isSome)
    (h : ∀ x ∈ qs, ∃ y, lkT ps x.1 = some y ∧ eqG n g (E.ev x.2) (E.ev y) = some true) : eqG (n + 1) g (.ref l) (.ref m) = some true := by
  unfold eqG
  by_cases e0 : l = m
  · have : (l == m) = true := by simpa using e0
    simp only [this]
  · have e3 : (l == m) = false := by simpa using e0
    have e1 : (g[l]?).bind prsO = some (E.tk, E.tb qs) := by rw [hl]; rfl
    have e2 : (g[m]?).bind prsO = some (E.tk, E.tb ps) := by rw [hm]; rfl
    have e4 : ((E.tb qs).length == (E.tb ps).length) = true := by
      rw [tb_len', tb_len', same_len h1 h2 hs]
      simp
    simp only [e3, e1, e2, beq_self_eq_true, e4, hits_T h]
end
theorem leaf_pure {g : G} {d : D} (h : pud 8 d = true) (hs : snap g d = d) : leafG g d d = some true := by
  unfold leafG
  rw [hs, h]
  simp only [Bool.and_self]
  rw [deq_refl 8 d h]
theorem eqG_int {n : Nat} {g : G} {i : Int} : eqG (n + 1) g (.int i) (.int i) = some true := by
  unfold eqG
  exact leaf_pure (by simp) rfl
theorem eqG_str {n : Nat} {g : G} {i : Nat} : eqG (n + 1) g (.str i) (.str i) = some true := by
  unfold eqG
  exact leaf_pure (by simp) rfl
theorem eqG_non {n : Nat} {g : G} : eqG (n + 1) g .non .non = some true := by
  unfold eqG
  exact leaf_pure (by simp) rfl
theorem eqG_tup2 {n : Nat} {g : G} {a b c d : D} (ha : eqG n g a c = some true) (hb : eqG n g b d = some true) : eqG (n + 1) g (.tup [a, b]) (.tup [c, d]) = some true := by
  show zipAll (eqG n g) [a, b] [c, d] = some true
  simp [zipAll, ha, hb]

/-! ### the plain machine, with functions as tables -/
abbrev Vl := Nat × Option (Int × Int)
structure Sp where
  pg : Int → Option Vl
  cl : Int × Int → Int
structure AS where
  sp : Int → Option Sp
  fl : Int × Int × Int → Int
def updF {α β : Type} [DecidableEq α] (f : α → β) (a : α) (b : β) : α → β := fun x => if x = a then b else f x
theorem updF_same {α β : Type} [DecidableEq α] {f : α → β} {a : α} {b : β} : updF f a b a = b := if_pos rfl
theorem updF_ne {α β : Type} [DecidableEq α] {f : α → β} {a x : α} {b : β} (h : x ≠ a) : updF f a b x = f x := if_neg h
def nz (i : Int) : Option Int := if i = 0 then none else some i
theorem nz_get {i : Int} : (nz i).getD 0 = i := by unfold nz; split <;> simp [*]
inductive Cl
  | store (s p i v : Int)
  | load (s p i : Int)
  | change (s p i a b : Int)
  | map (s p n : Int) (r : Nat) (c : Option (Int × Int))
  | unmap (s p n : Int)
  | protect (s p n : Int) (r : Nat)
  | fork (s : Int)
  | end_ (s : Int)
  | begin
  | sync (f : Int)
  | evict
def srcD : Option (Int × Int) → D
  | none => .non
  | some x => .tup [.int x.1, .int x.2]
def valD (v : Vl) : D := .tup [.str v.1, srcD v.2]
def Cl.d : Cl → List D
  | .store s p i v => [.str 7, .int s, .int p, .int i, .int v]
  | .load s p i => [.str 3, .int s, .int p, .int i]
  | .change s p i a b => [.str 8, .int s, .int p, .int i, .int a, .int b]
  | .map s p n r c => [.str 12, .int s, .int p, .int n, .str r, srcD c]
  | .unmap s p n => [.str 5, .int s, .int p, .int n]
  | .protect s p n r => [.str 4, .int s, .int p, .int n, .str r]
  | .fork s => [.str 6, .int s]
  | .end_ s => [.str 2, .int s]
  | .begin => [.str 9]
  | .sync f => [.str 11, .int f]
  | .evict => [.str 10]
def rngOk (p n : Int) : Prop := 0 ≤ p ∧ 1 ≤ n ∧ n ≤ 3 ∧ p + n ≤ 8
def srcOk (n : Int) : Option (Int × Int) → Prop
  | none => True
  | some x => 0 ≤ x.1 ∧ x.1 < 2 ∧ 0 ≤ x.2 ∧ x.2 + n ≤ 4
def spOk (s : Int) : Prop := 0 ≤ s ∧ s < 4
def celOk (p i : Int) : Prop := 0 ≤ p ∧ p < 8 ∧ 0 ≤ i ∧ i < 2
def Cl.ok : Cl → Prop
  | .store s p i v => spOk s ∧ celOk p i ∧ 1 ≤ v ∧ v < 10
  | .load s p i => spOk s ∧ celOk p i
  | .change s p i a b => spOk s ∧ celOk p i ∧ 0 ≤ a ∧ a < 4 ∧ 1 ≤ b ∧ b < 10
  | .map s p n r c => spOk s ∧ rngOk p n ∧ r < 2 ∧ srcOk n c
  | .unmap s p n => spOk s ∧ rngOk p n
  | .protect s p n r => spOk s ∧ rngOk p n ∧ r < 2
  | .fork s => spOk s
  | .end_ s => spOk s
  | .begin => True
  | .sync f => 0 ≤ f ∧ f < 2
  | .evict => True
theorem cl_of {ds : List D} (h : OkCall 4 ds) : ∃ c : Cl, c.d = ds ∧ c.ok := by
  cases h with
  | store s p i v a1 a2 a3 a4 a5 a6 a7 a8 => exact ⟨.store s p i v, rfl, ⟨a1, a2⟩, ⟨a3, a4, a5, a6⟩, a7, a8⟩
  | load s p i a1 a2 a3 a4 a5 a6 => exact ⟨.load s p i, rfl, ⟨a1, a2⟩, a3, a4, a5, a6⟩
  | change s p i a b a1 a2 a3 a4 a5 a6 a7 a8 a9 b1 => exact ⟨.change s p i a b, rfl, ⟨a1, a2⟩, ⟨a3, a4, a5, a6⟩, a7, a8, a9, b1⟩
  | map0 s p n r a1 a2 a3 a4 a5 a6 a7 => exact ⟨.map s p n r none, rfl, ⟨a1, a2⟩, ⟨a3, a4, a5, a6⟩, a7, trivial⟩
  | map1 s p n r f q a1 a2 a3 a4 a5 a6 a7 a8 a9 b1 b2 => exact ⟨.map s p n r (some (f, q)), rfl, ⟨a1, a2⟩, ⟨a3, a4, a5, a6⟩, a7, a8, a9, b1, b2⟩
  | unmap s p n a1 a2 a3 a4 a5 a6 => exact ⟨.unmap s p n, rfl, ⟨a1, a2⟩, a3, a4, a5, a6⟩
  | protect s p n r a1 a2 a3 a4 a5 a6 a7 => exact ⟨.protect s p n r, rfl, ⟨a1, a2⟩, ⟨a3, a4, a5, a6⟩, a7⟩
  | fork s a1 a2 => exact ⟨.fork s, rfl, a1, a2⟩
  | end_ s a1 a2 => exact ⟨.end_ s, rfl, a1, a2⟩
  | begin => exact ⟨.begin, rfl, trivial⟩
  | sync f a1 a2 => exact ⟨.sync f, rfl, a1, a2⟩
  | evict => exact ⟨.evict, rfl, trivial⟩
def cellA (A : AS) (S : Sp) (v : Vl) (p i : Int) : Int := match v.2 with
  | none => S.cl (p, i)
  | some x => A.fl (x.1, x.2, i)
def putA (A : AS) (s : Int) (S : Sp) (v : Vl) (p i x : Int) : AS := match v.2 with
  | none => ⟨updF A.sp s (some ⟨S.pg, updF S.cl (p, i) x⟩), A.fl⟩
  | some y => ⟨A.sp, updF A.fl (y.1, y.2, i) x⟩
def freshA (A : AS) : Option Int := ((List.range 4).find? fun (i : Nat) => (A.sp (i : Int)).isNone).map fun (i : Nat) => (i : Int)
def hasP (S : Sp) (p : Int) (n : Nat) : Bool := (List.range n).any fun (i : Nat) => (S.pg (p + (i : Int))).isSome
def mapPg (S : Sp) (p n : Int) (r : Nat) (c : Option (Int × Int)) : Int → Option Vl := fun q => if p ≤ q ∧ q < p + n then some (r, c.map fun x => (x.1, x.2 + (q - p))) else S.pg q
def proPg (S : Sp) (p n : Int) (r : Nat) : Int → Option Vl := fun q => if p ≤ q ∧ q < p + n then (S.pg q).map fun v => (r, v.2) else S.pg q
def cutSp (S : Sp) (p n : Int) : Sp := ⟨fun q => if p ≤ q ∧ q < p + n then none else S.pg q, fun k => if p ≤ k.1 ∧ k.1 < p + n then 0 else S.cl k⟩
def nilSp : Sp := ⟨fun _ => none, fun _ => 0⟩
def useA (A : AS) (s p : Int) (ld : Bool) : Nat ⊕ (Sp × Vl) := match A.sp s with
  | none => .inl 18
  | some S => (match S.pg p with
    | none => .inl 19
    | some v => bif !ld && v.1 == 0 then .inl 19 else .inr (S, v))
def ansA (A : AS) : Cl → Nat × D
  | .load s p i => (match useA A s p true with
    | .inl w => (w, .non)
    | .inr (S, v) => (15, .int (cellA A S v p i)))
  | .store s p i x => (match useA A s p false with
    | .inl w => (w, .non)
    | .inr (S, v) => (15, .non))
  | .change s p i a b => (match useA A s p false with
    | .inl w => (w, .non)
    | .inr (S, v) => (15, .bl (cellA A S v p i == a)))
  | .map s p n r c => (match A.sp s with
    | none => (18, .non)
    | some S => bif hasP S p n.toNat then (16, .non) else (15, .non))
  | .unmap s p n => (match A.sp s with
    | none => (18, .non)
    | some S => (15, .non))
  | .protect s p n r => (match A.sp s with
    | none => (18, .non)
    | some S => (15, .non))
  | .fork s => (match A.sp s with
    | none => (18, .non)
    | some S => (match freshA A with
      | none => (17, .non)
      | some x => (15, .int x)))
  | .end_ s => (match A.sp s with
    | none => (18, .non)
    | some S => (15, .non))
  | .begin => (match freshA A with
      | none => (17, .non)
      | some x => (15, .int x))
  | .sync f => (15, .non)
  | .evict => (15, .non)
def aftA (A : AS) : Cl → AS
  | .load s p i => A
  | .store s p i x => (match useA A s p false with
    | .inl w => A
    | .inr (S, v) => putA A s S v p i x)
  | .change s p i a b => (match useA A s p false with
    | .inl w => A
    | .inr (S, v) => bif cellA A S v p i == a then putA A s S v p i b else A)
  | .map s p n r c => (match A.sp s with
    | none => A
    | some S => bif hasP S p n.toNat then A else ⟨updF A.sp s (some ⟨mapPg S p n r c, S.cl⟩), A.fl⟩)
  | .unmap s p n => (match A.sp s with
    | none => A
    | some S => ⟨updF A.sp s (some (cutSp S p n)), A.fl⟩)
  | .protect s p n r => (match A.sp s with
    | none => A
    | some S => ⟨updF A.sp s (some ⟨proPg S p n r, S.cl⟩), A.fl⟩)
  | .fork s => (match A.sp s with
    | none => A
    | some S => (match freshA A with
      | none => A
      | some x => ⟨updF A.sp x (some S), A.fl⟩))
  | .end_ s => (match A.sp s with
    | none => A
    | some S => ⟨updF A.sp s none, A.fl⟩)
  | .begin => (match freshA A with
      | none => A
      | some x => ⟨updF A.sp x (some nilSp), A.fl⟩)
  | .sync f => A
  | .evict => A
/-! #### what is always so -/
structure OkSp (S : Sp) : Prop where
  pg : ∀ p v, S.pg p = some v → 0 ≤ p ∧ p < 8 ∧ v.1 < 2 ∧ srcOk 1 v.2
  cl : ∀ k, S.cl k ≠ 0 → 0 ≤ k.2 ∧ k.2 < 2 ∧ (S.pg k.1).isSome = true
structure OkAS (A : AS) : Prop where
  s4 : ∀ s S, A.sp s = some S → spOk s ∧ OkSp S
  fl : ∀ k, A.fl k ≠ 0 → 0 ≤ k.1 ∧ k.1 < 2 ∧ 0 ≤ k.2.1 ∧ k.2.1 < 4 ∧ 0 ≤ k.2.2 ∧ k.2.2 < 2
theorem OkAS.upd {A : AS} (h : OkAS A) {s : Int} {S : Sp} (hs : spOk s) (hS : OkSp S) : OkAS ⟨updF A.sp s (some S), A.fl⟩ := ⟨fun t T e => by
  by_cases c : t = s
  · subst c
    simp only [updF_same] at e
    cases e
    exact ⟨hs, hS⟩
  · simp only [updF_ne c] at e
    exact h.s4 t T e, h.fl⟩
theorem OkAS.del {A : AS} (h : OkAS A) {s : Int} : OkAS ⟨updF A.sp s none, A.fl⟩ := ⟨fun t T e => by
  by_cases c : t = s
  · subst c
    simp only [updF_same] at e
    cases e
  · simp only [updF_ne c] at e
    exact h.s4 t T e, h.fl⟩
theorem useA_r {A : AS} {s p : Int} {ld : Bool} {S : Sp} {v : Vl} (h : useA A s p ld = .inr (S, v)) : A.sp s = some S ∧ S.pg p = some v ∧ (!ld && v.1 == 0) = false := by
  unfold useA at h
  cases z : A.sp s with
  | none => rw [z] at h; cases h
  | some S' =>
    rw [z] at h
    simp only at h
    cases z2 : S'.pg p with
    | none => rw [z2] at h; cases h
    | some v' =>
      rw [z2] at h
      simp only at h
      cases z3 : (!ld && v'.1 == 0) with
      | true => rw [z3] at h; cases h
      | false =>
        rw [z3] at h
        cases h
        exact ⟨rfl, z2, z3⟩
theorem putA_ok {A : AS} (h : OkAS A) {s p i x : Int} {S : Sp} {v : Vl} (hS : A.sp s = some S) (hv : S.pg p = some v) (hc : celOk p i) : OkAS (putA A s S v p i x) := by
  obtain ⟨h1, h2⟩ := h.s4 s S hS
  unfold putA
  cases e : v.2 with
  | none =>
    refine h.upd h1 ⟨h2.pg, fun k hk => ?_⟩
    by_cases c : k = (p, i)
    · subst c
      exact ⟨hc.2.2.1, hc.2.2.2, by simp [hv]⟩
    · simp only [updF_ne c] at hk
      exact h2.cl k hk
  | some y =>
    refine ⟨h.s4, fun k hk => ?_⟩
    have hp := (h2.pg p v hv).2.2.2
    rw [e] at hp
    by_cases c : k = (y.1, y.2, i)
    · subst c
      unfold srcOk at hp
      exact ⟨hp.1, hp.2.1, hp.2.2.1, (by have := hp.2.2.2; show y.2 < 4; omega), hc.2.2.1, hc.2.2.2⟩
    · simp only [updF_ne c] at hk
      exact h.fl k hk
theorem fresh_ok {A : AS} {x : Int} (h : freshA A = some x) : spOk x ∧ A.sp x = none := by
  unfold freshA at h
  cases z : (List.range 4).find? fun (i : Nat) => (A.sp (i : Int)).isNone with
  | none => rw [z] at h; cases h
  | some i =>
    rw [z] at h
    cases h
    have h1 := List.find?_some z
    have h2 := List.mem_range.mp (List.mem_of_find?_eq_some z)
    exact ⟨⟨(by show (0 : Int) ≤ (i : Int); omega), (by show (i : Int) < 4; omega)⟩, by simpa using h1⟩
theorem aftA_ok {A : AS} (h : OkAS A) {c : Cl} (hc : c.ok) : OkAS (aftA A c) := by
  cases c with
  | load s p i => exact h
  | store s p i x =>
    unfold aftA
    simp only
    cases z : useA A s p false with
    | inl w => exact h
    | inr y => obtain ⟨a, b, _⟩ := useA_r z; exact putA_ok h a b hc.2.1
  | change s p i a b =>
    unfold aftA
    simp only
    cases z : useA A s p false with
    | inl w => exact h
    | inr y =>
      obtain ⟨a', b', _⟩ := useA_r z
      simp only
      cases cellA A y.1 y.2 p i == a with
      | true => exact putA_ok h a' b' hc.2.1
      | false => exact h
  | map s p n r c =>
    obtain ⟨c1, ⟨c2, c3, c4, c5⟩, c6, c7⟩ := hc
    unfold aftA
    simp only
    cases z : A.sp s with
    | none => exact h
    | some S =>
      simp only
      have o := (h.s4 s S z).2
      cases hasP S p n.toNat with
      | true => exact h
      | false =>
        refine h.upd c1 ⟨fun q v e => ?_, fun k hk => ?_⟩
        · unfold mapPg at e
          simp only at e
          split at e
          · cases e
            refine ⟨by omega, by omega, c6, ?_⟩
            cases c with
            | none => trivial
            | some x => unfold srcOk at c7; exact ⟨c7.1, c7.2.1, by have := c7.2.2.1; simp only; omega, by have := c7.2.2.2; simp only; omega⟩
          · exact o.pg q v e
        · obtain ⟨a, b, d⟩ := o.cl k hk
          refine ⟨a, b, ?_⟩
          unfold mapPg
          simp only
          split
          · rfl
          · exact d
  | unmap s p n =>
    unfold aftA
    simp only
    cases z : A.sp s with
    | none => exact h
    | some S =>
      have o := (h.s4 s S z).2
      refine h.upd hc.1 ⟨fun q v e => ?_, fun k hk => ?_⟩
      · unfold cutSp at e
        simp only at e
        split at e
        · cases e
        · exact o.pg q v e
      · unfold cutSp at hk ⊢
        simp only at hk ⊢
        split at hk
        · exact absurd rfl hk
        · rename_i hn
          rw [if_neg hn]
          exact o.cl k hk
  | protect s p n r =>
    unfold aftA
    simp only
    cases z : A.sp s with
    | none => exact h
    | some S =>
      have o := (h.s4 s S z).2
      refine h.upd hc.1 ⟨fun q v e => ?_, fun k hk => ?_⟩
      · unfold proPg at e
        simp only at e
        split at e
        · cases z2 : S.pg q with
          | none => rw [z2] at e; cases e
          | some w => rw [z2] at e; cases e; obtain ⟨a, b, _, d⟩ := o.pg q w z2; exact ⟨a, b, hc.2.2, d⟩
        · exact o.pg q v e
      · obtain ⟨a, b, d⟩ := o.cl k hk
        refine ⟨a, b, ?_⟩
        unfold proPg
        simp only
        split
        · simpa using d
        · exact d
  | fork s =>
    unfold aftA
    simp only
    cases z : A.sp s with
    | none => exact h
    | some S =>
      simp only
      cases z2 : freshA A with
      | none => exact h
      | some x => exact h.upd (fresh_ok z2).1 (h.s4 s S z).2
  | end_ s =>
    unfold aftA
    simp only
    cases z : A.sp s with
    | none => exact h
    | some S => exact h.del
  | begin =>
    unfold aftA
    simp only
    cases z2 : freshA A with
    | none => exact h
    | some x => exact h.upd (fresh_ok z2).1 ⟨(fun p v e => by cases e), fun k hk => absurd rfl hk⟩
  | sync f => exact h
  | evict => exact h

/-! ### the plain machine in the heap -/
theorem deqI (a b : Int) : deq (D.int a) (D.int b) = true ↔ a = b := by simp
def vlE : Enc Int Vl := ⟨.int, valD, false, deqI, fun _ => rfl⟩
def spE : Enc Int (Nat × Nat) := ⟨.int, fun x => .tup [.ref x.1, .ref x.2], false, deqI, fun _ => rfl⟩
def ceE : Enc (Int × Int) Int := ⟨fun k => .tup [.int k.1, .int k.2], .int, true, fun a b => by
  obtain ⟨a1, a2⟩ := a
  obtain ⟨b1, b2⟩ := b
  simp [deq, deqs], fun _ => rfl⟩
def flE : Enc (Int × Int × Int) Int := ⟨fun k => .tup [.int k.1, .int k.2.1, .int k.2.2], .int, true, fun a b => by
  obtain ⟨a1, a2, a3⟩ := a
  obtain ⟨b1, b2, b3⟩ := b
  simp [deq, deqs], fun _ => rfl⟩
structure SpR (g : G) (x : Nat × Nat) (P : List (Int × Vl)) (C : List ((Int × Int) × Int)) (S : Sp) : Prop where
  p : g[x.1]? = some (.dct false (vlE.tb P))
  c : g[x.2]? = some (.dct true (ceE.tb C))
  pn : NdT P
  cn : NdT C
  pk : ∀ q, lkT P q = S.pg q
  ck : ∀ k, lkT C k = nz (S.cl k)
structure Rep (g : G) (sp fl : Nat) (T : List (Int × Nat × Nat)) (A : AS) : Prop where
  t : g[sp]? = some (.dct false (spE.tb T))
  n : NdT T
  s : ∀ s x, lkT T s = some x → ∃ P C S, A.sp s = some S ∧ SpR g x P C S
  z : ∀ s, lkT T s = none → A.sp s = none
  f : ∃ F, g[fl]? = some (.dct true (flE.tb F)) ∧ NdT F ∧ ∀ k, lkT F k = nz (A.fl k)
def rg8 : List Int := [0, 1, 2, 3, 4, 5, 6, 7]
theorem mem8 {p : Int} (h0 : 0 ≤ p) (h1 : p < 8) : p ∈ rg8 := by
  have : p = 0 ∨ p = 1 ∨ p = 2 ∨ p = 3 ∨ p = 4 ∨ p = 5 ∨ p = 6 ∨ p = 7 := by omega
  rcases this with rfl | rfl | rfl | rfl | rfl | rfl | rfl | rfl <;> decide
def rg16 : List (Int × Int) := rg8.flatMap fun p => [(p, 0), (p, 1)]
theorem mem16 {p i : Int} (h0 : 0 ≤ p) (h1 : p < 8) (h2 : 0 ≤ i) (h3 : i < 2) : (p, i) ∈ rg16 := by
  refine List.mem_flatMap.mpr ⟨p, mem8 h0 h1, ?_⟩
  have : i = 0 ∨ i = 1 := by omega
  rcases this with rfl | rfl <;> simp
def rgF : List (Int × Int × Int) := rg16.map fun k => (k.1 / 4, k.1 % 4, k.2)
theorem memF {f q i : Int} (h0 : 0 ≤ f) (h1 : f < 2) (h2 : 0 ≤ q) (h3 : q < 4) (h4 : 0 ≤ i) (h5 : i < 2) : (f, q, i) ∈ rgF := by
  refine List.mem_map.mpr ⟨(4 * f + q, i), mem16 (by omega) (by omega) h4 h5, ?_⟩
  have e1 : (4 * f + q) / 4 = f := by omega
  have e2 : (4 * f + q) % 4 = q := by omega
  simp [e1, e2]
theorem nz_some {i v : Int} (h : nz i = some v) : i ≠ 0 ∧ v = i := by
  unfold nz at h
  split at h
  · cases h
  · cases h; exact ⟨‹_›, rfl⟩
section
variable {g : G} {sp fl : Nat} {T : List (Int × Nat × Nat)} {A : AS} {x : Nat × Nat} {P : List (Int × Vl)} {C : List ((Int × Int) × Int)} {S : Sp} {F : List ((Int × Int × Int) × Int)}
theorem SpR.lenP (h : SpR g x P C S) (o : OkSp S) : P.length ≤ 8 := len_in (U := rg8) h.pn (by decide) fun y hy => by
  have := lkT_mem h.pn hy
  rw [h.pk] at this
  obtain ⟨a, b, _⟩ := o.pg _ _ this
  exact mem8 a b
theorem SpR.keyC (h : SpR g x P C S) (o : OkSp S) {y : (Int × Int) × Int} (hy : y ∈ C) : celOk y.1.1 y.1.2 := by
  have := lkT_mem h.cn hy
  rw [h.ck] at this
  obtain ⟨a, _⟩ := nz_some this
  obtain ⟨b, c, d⟩ := o.cl _ a
  obtain ⟨v, hv⟩ := Option.isSome_iff_exists.mp d
  obtain ⟨p, q, _⟩ := o.pg _ _ hv
  exact ⟨p, q, b, c⟩
theorem SpR.lenC (h : SpR g x P C S) (o : OkSp S) : C.length ≤ 16 := len_in (U := rg16) h.cn (by decide) fun y hy => by
  obtain ⟨a, b, c, d⟩ := h.keyC o hy
  exact mem16 a b c d
theorem SpR.smC (h : SpR g x P C S) (o : OkSp S) : keysS (ceE.tb C) = true := by
  unfold keysS
  rw [List.all_eq_true]
  intro y hy
  obtain ⟨z, hz, rfl⟩ := List.mem_map.mp hy
  obtain ⟨a, b, c, d⟩ := h.keyC o hz
  show smallK (.tup [.int z.1.1, .int z.1.2]) = true
  unfold smallK
  simp [a, b, c, d]
theorem fl_key (o : OkAS A) (hn : NdT F) (hf : ∀ k, lkT F k = nz (A.fl k)) {y : (Int × Int × Int) × Int} (hy : y ∈ F) : 0 ≤ y.1.1 ∧ y.1.1 < 2 ∧ 0 ≤ y.1.2.1 ∧ y.1.2.1 < 4 ∧ 0 ≤ y.1.2.2 ∧ y.1.2.2 < 2 := by
  have := lkT_mem hn hy
  rw [hf] at this
  exact o.fl _ (nz_some this).1
theorem fl_len (o : OkAS A) (hn : NdT F) (hf : ∀ k, lkT F k = nz (A.fl k)) : F.length ≤ 16 := len_in (U := rgF) hn (by decide) fun y hy => by
  obtain ⟨a, b, c, d, e, f⟩ := fl_key o hn hf hy
  exact memF a b c d e f
theorem fl_sm (o : OkAS A) (hn : NdT F) (hf : ∀ k, lkT F k = nz (A.fl k)) : keysS (flE.tb F) = true := by
  unfold keysS
  rw [List.all_eq_true]
  intro y hy
  obtain ⟨z, hz, rfl⟩ := List.mem_map.mp hy
  obtain ⟨a, b, c, d, e, f⟩ := fl_key o hn hf hz
  show smallK (.tup [.int z.1.1, .int z.1.2.1, .int z.1.2.2]) = true
  unfold smallK
  simp [a, b, c, d, e, f]
theorem Rep.keyT (h : Rep g sp fl T A) (o : OkAS A) {y : Int × Nat × Nat} (hy : y ∈ T) : spOk y.1 := by
  obtain ⟨P, C, S, hS, _⟩ := h.s _ _ (lkT_mem h.n hy)
  exact (o.s4 _ _ hS).1
theorem Rep.lenT (h : Rep g sp fl T A) (o : OkAS A) : T.length ≤ 8 := len_in (U := rg8) h.n (by decide) fun y hy => by
  obtain ⟨a, b⟩ := h.keyT o hy
  exact mem8 a (by omega)
theorem Rep.has (h : Rep g sp fl T A) {s : Int} : (lkT T s).isSome = (A.sp s).isSome := by
  cases e : lkT T s with
  | none => rw [h.z s e]; rfl
  | some x => obtain ⟨P, C, S, hS, _⟩ := h.s s x e; rw [hS]; rfl
theorem Rep.of (h : Rep g sp fl T A) {s : Int} {S : Sp} (hS : A.sp s = some S) : ∃ x P C, lkT T s = some x ∧ SpR g x P C S := by
  cases e : lkT T s with
  | none => rw [h.z s e] at hS; cases hS
  | some x =>
    obtain ⟨P, C, S', hS', r⟩ := h.s s x e
    rw [hS] at hS'
    cases hS'
    exact ⟨x, P, C, rfl, r⟩
theorem SpR.le {g' : G} (h : SpR g x P C S) (h1 : g'[x.1]? = g[x.1]?) (h2 : g'[x.2]? = g[x.2]?) : SpR g' x P C S := ⟨h1.trans h.p, h2.trans h.c, h.pn, h.cn, h.pk, h.ck⟩
end
/-! #### nothing that was there changes -/
structure Fr (g g' : G) : Prop where
  len : g.length ≤ g'.length
  at_ : ∀ i, i < g.length → g'[i]? = g[i]?
theorem Fr.refl {g : G} : Fr g g := ⟨Nat.le_refl _, fun _ _ => rfl⟩
theorem Fr.trans {g g1 g2 : G} (a : Fr g g1) (b : Fr g1 g2) : Fr g g2 := ⟨Nat.le_trans a.len b.len, fun i h => (b.at_ i (Nat.lt_of_lt_of_le h a.len)).trans (a.at_ i h)⟩
theorem Fr.app {g os : G} : Fr g (g ++ os) := ⟨by simp, fun i h => List.getElem?_append_left h⟩
theorem Fr.set {g g' : G} (a : Fr g g') {l : Nat} (h : g.length ≤ l) {o : Ob} : Fr g (g'.set l o) := ⟨by simpa using a.len, fun i q => by rw [List.getElem?_set_ne (by omega)]; exact a.at_ i q⟩
theorem Fr.get {g g' : G} (a : Fr g g') {l : Nat} {o : Ob} (h : g[l]? = some o) : g'[l]? = some o := (a.at_ l (List.getElem?_eq_some_iff.mp h).1).trans h
theorem Fr.tp {g g' : G} (a : Fr g g') {t : Nat} (T : Tp g t) : Tp g' t := T.le (a.at_ t T.len)
section
variable {Q : Nat → Prop} {g g' : G} {sp fl st : Nat} {T : List (Int × Nat × Nat)} {A : AS} {x : Nat × Nat} {P : List (Int × Vl)} {C : List ((Int × Int) × Int)} {S : Sp} {F : List ((Int × Int × Int) × Int)}
theorem SpR.fr (h : SpR g x P C S) (f : Fr g g') : SpR g' x P C S := ⟨f.get h.p, f.get h.c, h.pn, h.cn, h.pk, h.ck⟩
theorem Rep.fr (h : Rep g sp fl T A) (f : Fr g g') : Rep g' sp fl T A := ⟨f.get h.t, h.n, fun s x e => by
  obtain ⟨P, C, S, hS, r⟩ := h.s s x e
  exact ⟨P, C, S, hS, r.fr f⟩, h.z, by
  obtain ⟨F, a, b, c⟩ := h.f
  exact ⟨F, f.get a, b, c⟩⟩
/-- a state of the program -/
structure StR (Q : Nat → Prop) (g : G) (st sp fl : Nat) (T : List (Int × Nat × Nat)) (A : AS) : Prop where
  hs : g[st]? = some (.dct false [(.str 14, .ref sp), (.str 13, .ref fl)])
  r : Rep g sp fl T A
  q : Q st ∧ Q sp ∧ Q fl
  qt : ∀ s x, lkT T s = some x → Q x.1 ∧ Q x.2
theorem StR.fr (h : StR Q g st sp fl T A) (f : Fr g g') : StR Q g' st sp fl T A := ⟨f.get h.hs, h.r.fr f, h.q, h.qt⟩
theorem StR.isp (h : StR Q g st sp fl T A) : ixC g (.ref st) (.str 14) = some (.ref sp) := by
  unfold ixC dcG
  simp only [h.hs, Option.bind_some, prsO, isKey, kyD, lkp]
  simp
theorem StR.ifl (h : StR Q g st sp fl T A) : ixC g (.ref st) (.str 13) = some (.ref fl) := by
  unfold ixC dcG
  simp only [h.hs, Option.bind_some, prsO, isKey, kyD, lkp]
  simp
theorem ix_tup {ds : List D} {i : Int} : ixD g (.tup ds) (.int i) = atI ds i := by rw [ixD_tup]
theorem StR.ispace (h : StR Q g st sp fl T A) {s : Int} {x : Nat × Nat} (e : lkT T s = some x) : ixC g (.ref sp) (.int s) = some (.tup [.ref x.1, .ref x.2]) := ixC_T (E := spE) (by rw [h.r.t]; rfl) e
theorem src_non (c : Option (Int × Int)) : nonD (srcD c) = c.isNone := by cases c <;> rfl
/-! #### the program's functions -/
theorem entry_run {κ ν : Type} [DecidableEq κ] {E : Enc κ ν} {l : Nat} {ps : List (κ × ν)} {k : κ} {v : ν} (h : g[l]? = some (.dct E.tk (E.tb ps))) (hs : (!E.tk || keysS (E.tb ps)) = true) (hl : ps.length < 900) :
    m_with_entry [.ref l, E.ek k, E.ev v] g = .ok (.ref g.length) (g ++ [.dct E.tk (E.tb (putT ps k v))]) := by
  have start : m_with_entry [.ref l, E.ek k, E.ev v] g = endM (b_with_entry [some (.ref l), some (E.ek k), some (E.ev v), none] g) := rfl
  rw [start]
  unfold b_with_entry c_with_entry_2 c_with_entry_1
  have cp := copy_T (E := E) (m := vVar 0) (e := [some (.ref l), some (E.ek k), some (E.ev v), none]) rfl h hs
  have sb := sub_T (E := E) (o := vVar 3) (i := vVar 1) (m := vVar 2) (e := [some (.ref l), some (E.ek k), some (E.ev v), some (.ref g.length)]) (g := g ++ [.dct E.tk (E.tb ps)]) (k := k) (v := v) rfl rfl rfl get_snoc' (by omega)
  simp only [sSeq_e, sAsg_e, cp, sBind, List.set, sb, set_snoc']
  rfl
theorem new_run (o : OkAS A) (h : StR Q g st sp fl T A) : m_new_space [.ref st] g = .ok (match freshA A with
    | none => .non
    | some x => .int x) g := by
  have hi : ∀ (i : Int), inC true g (.int i) (.ref sp) = some (.bl (A.sp i).isNone) := fun i => by
    rw [show D.int i = spE.ek i from rfl, inC_T (E := spE) h.r.t, h.r.has]
    cases A.sp i <;> rfl
  have start : m_new_space [.ref st] g = endM (b_new_space [some (.ref st), none] g) := rfl
  have im : ∀ e, iRng1 (vC (.int 4)) e g = .ok (.vals (rngL 0 4)) g := fun e => for_rng1 (n := 4) rfl (by decide) (by decide)
  have r4 : rngL 0 4 = [.int 0, .int 1, .int 2, .int 3] := rfl
  rw [start]
  unfold b_new_space
  have tt : ∀ i e1, e1 = some (D.int i) → tOf (vOp (inC true) (vVar 1) (vOp ixC (vVar 0) (vC (.str 14)))) [some (.ref st), e1] g = .ok (A.sp i).isNone g := fun i e1 he => by
    subst he
    simp [h.isp, hi]
  have lp : ∀ (xs : List Int) (e1 : Option D), ∃ y, loopL (gN 1) (sIf (tOf (vOp (inC true) (vVar 1) (vOp ixC (vVar 0) (vC (.str 14))))) (sRet (vVar 1)) sNx) (xs.map D.int) [some (.ref st), e1] g = (match xs.find? fun i => (A.sp i).isNone with
      | some x => .rt (.int x) g
      | none => .nx [some (.ref st), y] g) := by
    intro xs
    induction xs with
    | nil => intro e1; exact ⟨e1, rfl⟩
    | cons a xs ih =>
      intro e1
      obtain ⟨y, hy⟩ := ih (some (.int a))
      have one : loopL (gN 1) (sIf (tOf (vOp (inC true) (vVar 1) (vOp ixC (vVar 0) (vC (.str 14))))) (sRet (vVar 1)) sNx) (.int a :: xs.map D.int) [some (.ref st), e1] g = after ((sIf (tOf (vOp (inC true) (vVar 1) (vOp ixC (vVar 0) (vC (.str 14))))) (sRet (vVar 1)) sNx) [some (.ref st), some (.int a)] g) (loopL (gN 1) (sIf (tOf (vOp (inC true) (vVar 1) (vOp ixC (vVar 0) (vC (.str 14))))) (sRet (vVar 1)) sNx) (xs.map D.int)) := rfl
      refine ⟨y, ?_⟩
      rw [List.map_cons, one, List.find?_cons, sIf_e, tt a _ rfl]
      cases (A.sp a).isNone with
      | true => rfl
      | false => exact hy
  obtain ⟨y, hy⟩ := lp [0, 1, 2, 3] none
  have fr : freshA A = ([0, 1, 2, 3] : List Int).find? fun i => (A.sp i).isNone := by
    unfold freshA
    have e : ([0, 1, 2, 3] : List Int) = (List.range 4).map fun (i : Nat) => (i : Int) := rfl
    rw [e, List.find?_map]
    rfl
  rw [fr]
  simp only [sSeq_e, sFor_e, im, sBind, runS, r4]
  have hy' : loopL (gN 1) (sIf (tOf (vOp (inC true) (vVar 1) (vOp ixC (vVar 0) (vC (.str 14))))) (sRet (vVar 1)) sNx) [.int 0, .int 1, .int 2, .int 3] [some (.ref st), none] g = _ := hy
  rw [hy']
  cases ([0, 1, 2, 3] : List Int).find? fun i => (A.sp i).isNone with
  | none => rfl
  | some x => rfl
end

section
variable {Q : Nat → Prop} {g g' : G} {sp fl st : Nat} {T : List (Int × Nat × Nat)} {A : AS} {x : Nat × Nat} {P : List (Int × Vl)} {C : List ((Int × Int) × Int)} {S : Sp} {F : List ((Int × Int × Int) × Int)} {s p i : Int} {v : Vl}
theorem in_sp (h : Rep g sp fl T A) {neg : Bool} : inC neg g (.int s) (.ref sp) = some (.bl ((A.sp s).isSome != neg)) := by
  rw [show D.int s = spE.ek s from rfl, inC_T (E := spE) h.t, h.has]
theorem in_pg (h : SpR g x P C S) {neg : Bool} : inC neg g (.int p) (.ref x.1) = some (.bl ((S.pg p).isSome != neg)) := by
  rw [show D.int p = vlE.ek p from rfl, inC_T (E := vlE) h.p, h.pk]
theorem ix_sp (h : Rep g sp fl T A) (e : lkT T s = some x) : ixC g (.ref sp) (.int s) = some (.tup [.ref x.1, .ref x.2]) := ixC_T (E := spE) (by rw [h.t]; rfl) e
theorem ix_pg (h : SpR g x P C S) (e : S.pg p = some v) : ixC g (.ref x.1) (.int p) = some (valD v) := ixC_T (E := vlE) (by rw [h.p]; rfl) ((h.pk p).trans e)
theorem page_run (h : StR Q g st sp fl T A) : m_page_of [.ref st, .int s, .int p] g = .ok (match A.sp s with
    | none => .non
    | some S => ((S.pg p).map valD).getD .non) g := by
  have start : m_page_of [.ref st, .int s, .int p] g = endM (b_page_of [some (.ref st), some (.int s), some (.int p)] g) := rfl
  rw [start]
  unfold b_page_of
  simp only [sSeq_e, sIf_e, tOf_e, vOp_e, vVar_e, List.getElem?_cons_zero, List.getElem?_cons_succ, Res.bind, vC_e, h.isp, oR_some, in_sp h.r, bR_bl, sBind]
  cases z : A.sp s with
  | none => rfl
  | some S =>
    obtain ⟨x, P, C, e, r⟩ := h.r.of z
    have gt := get1_T (E := vlE) (o := vOp ixD (vOp ixC (vOp ixC (vVar 0) (vC (.str 14))) (vVar 1)) (vC (.int 0))) (m := vVar 2) (e := [some (.ref st), some (.int s), some (.int p)]) (g := g) (l := x.1) (ps := P) (k := p) (by
      simp only [vOp_e, vVar_e, List.getElem?_cons_zero, List.getElem?_cons_succ, Res.bind, vC_e, h.isp, oR_some, ix_sp h.r e, ixD_tup, at0]) rfl r.p
    simp only [Option.isSome_some, bne_self_eq_false, cond_false, sNx_e, sRet_e, gt, sBind, endM_rt, r.pk]
    rfl
theorem add_src {y : Int × Int} : addD g (srcD (some y)) (.tup [.int i]) = some (.tup [.int y.1, .int y.2, .int i]) := rfl
theorem vl1 : ixD g (valD v) (.int 1) = some (srcD v.2) := by unfold valD; rw [ixD_tup, at1]
theorem vl0 : ixD g (valD v) (.int 0) = some (.str v.1) := by unfold valD; rw [ixD_tup, at0]
theorem cell_run (h : StR Q g st sp fl T A) (hS : A.sp s = some S) (hv : S.pg p = some v) : m_cell_of [.ref st, .int s, .int p, .int i] g = .ok (.int (cellA A S v p i)) g := by
  obtain ⟨x, P, C, e, r⟩ := h.r.of hS
  obtain ⟨F, f1, f2, f3⟩ := h.r.f
  have start : m_cell_of [.ref st, .int s, .int p, .int i] g = endM (b_cell_of [some (.ref st), some (.int s), some (.int p), some (.int i), none, none, none] g) := rfl
  rw [start]
  unfold b_cell_of c_cell_of_3
  have tg : sTgt (vOp ixC (vOp ixC (vVar 0) (vC (.str 14))) (vVar 1)) (gT 2 (gsC (gN 4) (gsC (gN 5) gsN))) [some (.ref st), some (.int s), some (.int p), some (.int i), none, none, none] g = .nx [some (.ref st), some (.int s), some (.int p), some (.int i), some (.ref x.1), some (.ref x.2), none] g := by
    unfold sTgt
    simp only [vOp_e, vVar_e, List.getElem?_cons_zero, List.getElem?_cons_succ, Res.bind, vC_e, h.isp, oR_some, ix_sp h.r e, sBind]
    rfl
  simp only [sSeq_e, tg, sAsg_e, vOp_e, vVar_e, List.getElem?_cons_zero, List.getElem?_cons_succ, Res.bind, vC_e, ix_pg r hv, vl1, oR_some, sBind, List.set]
  unfold c_cell_of_2
  simp only [sSeq_e, sIf_e, tOf_e, vOp_e, vVar_e, List.getElem?_cons_zero, List.getElem?_cons_succ, Res.bind, vC_e, isN_e, src_non, oR_some, bR_bl, sBind]
  unfold cellA
  cases z : v.2 with
  | none =>
    have gt := get2_T (E := ceE) (o := vVar 5) (m := vTup (aCons (vVar 2) (aCons (vVar 3) aNil))) (n := vC (.int 0)) (e := [some (.ref st), some (.int s), some (.int p), some (.int i), some (.ref x.1), some (.ref x.2), some (srcD none)]) (g := g) (l := x.2) (ps := C) (k := (p, i)) (d := .int 0) rfl rfl rfl r.c
    simp only [Option.isNone_none, cond_true, sRet_e, gt, sBind, endM_rt, r.ck]
    unfold nz
    split <;> simp [*, ceE]
  | some y =>
    have gt := get2_T (E := flE) (o := vOp ixC (vVar 0) (vC (.str 13))) (m := vOp addD (vVar 6) (vTup (aCons (vVar 3) aNil))) (n := vC (.int 0)) (e := [some (.ref st), some (.int s), some (.int p), some (.int i), some (.ref x.1), some (.ref x.2), some (srcD (some y))]) (g := g) (l := fl) (ps := F) (k := (y.1, y.2, i)) (d := .int 0) (by
      simp only [vOp_e, vVar_e, List.getElem?_cons_zero, List.getElem?_cons_succ, Res.bind, vC_e, h.ifl, oR_some]) (by
      simp only [vOp_e, vVar_e, List.getElem?_cons_zero, List.getElem?_cons_succ, Res.bind, vTup_s, aCons_e, aNil_e, List.length_cons, List.length_nil, okL_s (show 0 + 1 < 1000 by decide), add_src, oR_some]
      rfl) rfl f1
    unfold c_cell_of_1
    simp only [Option.isNone_some, cond_false, sNx_e, sRet_e, gt, sBind, endM_rt, f3]
    unfold nz
    split <;> simp [*, flE]
theorem refusal_run (h : StR Q g st sp fl T A) {w : Nat} {r : List D} : m_use_refusal [.ref st, .tup (.str w :: .int s :: .int p :: r)] g = .ok (.str (match useA A s p (w == 3) with
    | .inl x => x
    | .inr _ => 20)) g := by
  have start : m_use_refusal [.ref st, .tup (.str w :: .int s :: .int p :: r)] g = endM (b_use_refusal [some (.ref st), some (.tup (.str w :: .int s :: .int p :: r)), none] g) := rfl
  rw [start]
  unfold b_use_refusal c_use_refusal_3
  simp only [sSeq_e, sIf_e, tOf_e, vOp_e, vVar_e, List.getElem?_cons_zero, List.getElem?_cons_succ, Res.bind, vC_e, ixD_tup, at1, at2, oR_some, h.isp, in_sp h.r, bR_bl, sBind]
  unfold useA
  cases z : A.sp s with
  | none => rfl
  | some S =>
    unfold c_use_refusal_2 c_use_refusal_1
    simp only [Option.isSome_some, bne_self_eq_false, cond_false, sNx_e, sSeq_e, sIf_e, tOr_e, tAnd_e, tOf_e, vOp_e, vVar_e, List.getElem?_cons_zero, List.getElem?_cons_succ, Res.bind, vC_e, isN_e, ixD_tup, at0, oR_some, bR_bl, ne_str, at1, at2, sAsg_e, vCall_e, aCons_e, aNil_e, page_run h, List.set, sBind, z]
    cases z2 : S.pg p with
    | none => rfl
    | some v =>
      have nd : nonD (valD v) = false := rfl
      simp only [Option.map_some, Option.getD_some, nd, oR_some, bR_bl, cond_false, Res.bind, vl0, eq_str]
      cases w == 3 with
      | true => rfl
      | false =>
        simp only [Bool.not_false, cond_true, bR_bl, Bool.true_and]
        cases v.1 == 0 with
        | true => rfl
        | false => rfl
end

section
variable {Q : Nat → Prop} {g g' : G} {sp fl st : Nat} {T : List (Int × Nat × Nat)} {A : AS} {x : Nat × Nat} {P : List (Int × Vl)} {C : List ((Int × Int) × Int)} {S : Sp} {F : List ((Int × Int × Int) × Int)} {s p i : Int} {v : Vl}
def ansD (a : Nat × D) : D := .tup [.str a.1, a.2]
theorem useA_l {ld : Bool} {w : Nat} (h : useA A s p ld = .inl w) : w = 18 ∨ w = 19 := by
  unfold useA at h
  cases z : A.sp s with
  | none => rw [z] at h; cases h; exact .inl rfl
  | some S =>
    rw [z] at h
    simp only at h
    cases z2 : S.pg p with
    | none => rw [z2] at h; cases h; exact .inr rfl
    | some v =>
      rw [z2] at h
      simp only at h
      cases z3 : (!ld && v.1 == 0) with
      | true => rw [z3] at h; cases h; exact .inr rfl
      | false => rw [z3] at h; cases h
theorem use_run (h : StR Q g st sp fl T A) {w : Nat} {r : List D} {a : D} (hr : (D.str w :: .int s :: .int p :: .int i :: r)[4]?.getD .non = a) :
    m_use_answer [.ref st, .tup (.str w :: .int s :: .int p :: .int i :: r)] g = (match useA A s p (w == 3) with
    | .inl x => .ok (.tup [.str x, .non]) g
    | .inr y => c_use_answer_3 [some (.ref st), some (.tup (.str w :: .int s :: .int p :: .int i :: r)), some (.str 20), some (.int (cellA A y.1 y.2 p i))] g |> endM) := by
  have start : m_use_answer [.ref st, .tup (.str w :: .int s :: .int p :: .int i :: r)] g = endM (b_use_answer [some (.ref st), some (.tup (.str w :: .int s :: .int p :: .int i :: r)), none, none] g) := rfl
  rw [start]
  unfold b_use_answer c_use_answer_5
  simp only [sSeq_e, sAsg_e, vCall_e, aCons_e, vVar_e, List.getElem?_cons_zero, List.getElem?_cons_succ, Res.bind, aNil_e, refusal_run h, sBind, List.set, sIf_e, tOf_e, vOp_e, vC_e, ne_str, oR_some, bR_bl]
  cases z : useA A s p (w == 3) with
  | inl x =>
    have hx := useA_l z
    have e1 : (!(x == 20)) = true := by rcases hx with rfl | rfl <;> rfl
    simp only [e1, cond_true]
    rfl
  | inr y =>
    obtain ⟨S, v⟩ := y
    obtain ⟨hS, hv, _⟩ := useA_r z
    have e1 : (!(20 == 20)) = false := by rfl
    unfold c_use_answer_4
    simp only [e1, cond_false, sNx_e, sSeq_e, sAsg_e, vCall_e, aCons_e, vVar_e, List.getElem?_cons_zero, List.getElem?_cons_succ, Res.bind, aNil_e, vOp_e, vC_e, ixD_tup, at1, at2, at3, oR_some, cell_run h hS hv, sBind, List.set]
theorem in_str3 {a b c k : Nat} : inD false g (.str k) (.tup [.str a, .str b, .str c]) = some (.bl (a == k || (b == k || c == k))) := by
  simp [inD, sqD, deq]
theorem in_str2 {a b k : Nat} : inD false g (.str k) (.tup [.str a, .str b]) = some (.bl (a == k || b == k)) := by
  simp [inD, sqD, deq]
theorem tup2 {a b : EM} {e : En} {d d' : D} (ha : a e g = .ok d g) (hb : b e g = .ok d' g) : vTup (aCons a (aCons b aNil)) e g = .ok (.tup [d, d']) g := by
  simp only [vTup_s, aCons_e, ha, hb, Res.bind, aNil_e, List.length_cons, List.length_nil, okL_s (show 0 + 1 + 1 < 1000 by decide)]
theorem has_run (r : SpR g x P C S) {e : En} {f n : Int} {a b : EM} {i j : Nat} (ha : a e g = .ok (.int f) g) (hb : b e g = .ok (.int (f + n)) g) (h0 : 0 ≤ f) (h1 : f ≤ 100) (h2 : 0 ≤ n) (h3 : n ≤ 100) (hi : e[i]? = some (some (.ref x.1))) (hj : j < e.length) (hij : i ≠ j) :
    vCB anyD (aCons (vLc [j] (iRng2 a b) (gN j) tYes (vOp (inC false) (vVar j) (vVar i))) aNil) e g = .ok (.bl (hasP S f n.toNat)) g := by
  have e1 : f + n - f = n := by omega
  have im : iRng2 a b e g = .ok (.vals (rngL f n.toNat)) g := by
    unfold Y.iRng2
    simp only [ha, Res.bind, hb, rB_of (show -1000000000 ≤ f by omega) (by omega), rB_of (show -1000000000 ≤ f + n by omega) (by omega), Bool.and_self, e1]
  have hl := lcR_pure (gm := gN j) (t := tYes) (m := vOp (inC false) (vVar j) (vVar i)) (e := e.set j none) (g := g) (s := .vals (rngL f n.toNat))
    (fun i : Nat => D.int (f + (i : Int))) (fun _ => true) (fun q : Nat => D.bl (S.pg (f + (q : Int))).isSome) (List.range n.toNat) rfl (okL_of (by simp; omega)) (fun q _ => ⟨_, rfl, rfl, fun _ => by
      have h3' : ((e.set j none).set j (some (D.int (f + (q : Int)))))[i]? = some (some (.ref x.1)) := by
        rw [List.getElem?_set_ne (Ne.symm hij), List.getElem?_set_ne (Ne.symm hij)]; exact hi
      have h13' : ((e.set j none).set j (some (D.int (f + (q : Int)))))[j]? = some (some (.int (f + (q : Int)))) := by
        rw [List.getElem?_set_self (by simpa using hj)]
      simp only [vOp_e, vVar_e, h13', h3', Res.bind, in_pg r, oR_some, Bool.bne_false]⟩)
  have e2 : ((List.range n.toNat).filter fun _ => true) = List.range n.toNat := by simp
  have e3 : (List.range n.toNat).map (fun q : Nat => D.bl (S.pg (f + (q : Int))).isSome) = ((List.range n.toNat).map fun q : Nat => (S.pg (f + (q : Int))).isSome).map D.bl := by rw [List.map_map]; rfl
  rw [e2, e3] at hl
  simp only [vCB_e, aCons_e, vLc_e, im, Res.bind, wipeE_cons, wipeE_nil, hl, aNil_e, anyD_e, oR_some]
  unfold hasP
  rw [List.any_map]
  rfl
theorem useL (h : StR Q g st sp fl T A) : m_use_answer [.ref st, .tup (Cl.load s p i).d] g = .ok (ansD (ansA A (.load s p i))) g := by
  have u := use_run h (s := s) (p := p) (i := i) (w := 3) (r := []) rfl
  rw [show (3 == 3) = true from rfl] at u
  refine Eq.trans u ?_
  unfold ansA
  simp only
  cases z : useA A s p true with
  | inl w => rfl
  | inr y =>
    unfold c_use_answer_3
    simp only [sSeq_e, sIf_e, tOf_e, vOp_e, vVar_e, List.getElem?_cons_zero, List.getElem?_cons_succ, Res.bind, vC_e, ixD_tup, at0, oR_some, eq_str, bR_bl, sBind, show (3 == 3) = true from rfl, cond_true, sRet_e]
    rfl
theorem useS {a : Int} (h : StR Q g st sp fl T A) : m_use_answer [.ref st, .tup (Cl.store s p i a).d] g = .ok (ansD (ansA A (.store s p i a))) g := by
  have u := use_run h (s := s) (p := p) (i := i) (w := 7) (r := [.int a]) rfl
  rw [show (7 == 3) = false from rfl] at u
  refine Eq.trans u ?_
  unfold ansA
  simp only
  cases z : useA A s p false with
  | inl w => rfl
  | inr y =>
    unfold c_use_answer_3 c_use_answer_2
    simp only [sSeq_e, sIf_e, tOf_e, vOp_e, vVar_e, List.getElem?_cons_zero, List.getElem?_cons_succ, Res.bind, vC_e, ixD_tup, at0, oR_some, eq_str, bR_bl, sBind, show (7 == 3) = false from rfl, show (7 == 7) = true from rfl, cond_true, cond_false, sNx_e, sRet_e]
    rfl
theorem useC {a b : Int} (h : StR Q g st sp fl T A) : m_use_answer [.ref st, .tup (Cl.change s p i a b).d] g = .ok (ansD (ansA A (.change s p i a b))) g := by
  have u := use_run h (s := s) (p := p) (i := i) (w := 8) (r := [.int a, .int b]) rfl
  rw [show (8 == 3) = false from rfl] at u
  refine Eq.trans u ?_
  unfold ansA
  simp only
  cases z : useA A s p false with
  | inl w => rfl
  | inr y =>
    unfold c_use_answer_3 c_use_answer_2 c_use_answer_1
    simp only [sSeq_e, sIf_e, tOf_e, vOp_e, vVar_e, List.getElem?_cons_zero, List.getElem?_cons_succ, Res.bind, vC_e, ixD_tup, at0, at4, oR_some, eq_str, eq_int, bR_bl, sBind, show (8 == 3) = false from rfl, show (8 == 7) = false from rfl, cond_true, cond_false, sNx_e, sRet_e, vTup_s, aCons_e, aNil_e, List.length_cons, List.length_nil, okL_s (show 0 + 1 + 1 < 1000 by decide), endM_rt]
    rfl
/-- the answer of a call -/
theorem answer_run (o : OkAS A) (h : StR Q g st sp fl T A) {c : Cl} (hc : c.ok) : m_answer_of [.ref st, .tup c.d] g = .ok (ansD (ansA A c)) g := by
  have start : m_answer_of [.ref st, .tup c.d] g = endM (b_answer_of [some (.ref st), some (.tup c.d), none, none, none, none] g) := rfl
  rw [start]
  unfold b_answer_of c_answer_of_8 c_answer_of_7 c_answer_of_6 c_answer_of_5 c_answer_of_4 c_answer_of_3 c_answer_of_2 c_answer_of_1
  have t3 : ∀ e g a b c, vTup (aCons (vC (.str a)) (aCons (vC (.str b)) (aCons (vC (.str c)) aNil))) e g = .ok (.tup [.str a, .str b, .str c]) g := fun _ _ _ _ _ => rfl
  have t2 : ∀ e g a b, vTup (aCons (vC (.str a)) (aCons (vC (.str b)) aNil)) e g = .ok (.tup [.str a, .str b]) g := fun _ _ _ _ => rfl
  have t1 : ∀ e g a, vTup (aCons (vC (.str a)) (aCons (vC .non) aNil)) e g = .ok (.tup [.str a, .non]) g := fun _ _ _ => rfl
  cases c with
  | load s p i =>
    have u := useL (s := s) (p := p) (i := i) h
    generalize hr : ansD (ansA A (.load s p i)) = res at u ⊢
    clear hr
    unfold Cl.d at u ⊢
    simp [t3, in_str3, at0, u]
  | store s p i a =>
    have u := useS (s := s) (p := p) (i := i) (a := a) h
    generalize hr : ansD (ansA A (.store s p i a)) = res at u ⊢
    clear hr
    unfold Cl.d at u ⊢
    simp [t3, in_str3, at0, u]
  | change s p i a b =>
    have u := useC (s := s) (p := p) (i := i) (a := a) (b := b) h
    generalize hr : ansD (ansA A (.change s p i a b)) = res at u ⊢
    clear hr
    unfold Cl.d at u ⊢
    simp [t3, in_str3, at0, u]
  | evict =>
    unfold Cl.d
    simp [t3, t2, t1, in_str3, in_str2, at0, ansA, ansD]
  | sync f =>
    unfold Cl.d
    simp [t3, t2, t1, in_str3, in_str2, at0, ansA, ansD]
  | begin =>
    unfold Cl.d
    simp [-vTup_e, t3, t2, t1, in_str3, in_str2, at0, ansA, ansD, ne_str, new_run o h]
    cases freshA A with
    | none => simp [t1]
    | some x => simp [vTup_s, okL_s]
  | fork s =>
    unfold Cl.d
    unfold ansA
    cases z : A.sp s with
    | none => simp [t3, t2, t1, in_str3, in_str2, at0, at1, ne_str, eq_str, h.isp, in_sp h.r, z, ansD]
    | some S =>
      have nr := new_run o h
      cases w : freshA A with
      | none =>
        rw [w] at nr
        simp [t3, t2, t1, in_str3, in_str2, at0, at1, ne_str, eq_str, h.isp, in_sp h.r, z, ansD, w, nr]
      | some x =>
        rw [w] at nr
        simp [t3, t2, t1, in_str3, in_str2, at0, at1, ne_str, eq_str, h.isp, in_sp h.r, z, ansD, w, nr, vTup_s, okL_s]
  | end_ s =>
    unfold Cl.d
    unfold ansA
    cases z : A.sp s with
    | none => simp [t3, t2, t1, in_str3, in_str2, at0, at1, ne_str, eq_str, h.isp, in_sp h.r, z, ansD]
    | some S => simp [t3, t2, t1, in_str3, in_str2, at0, at1, ne_str, eq_str, h.isp, in_sp h.r, z, ansD]
  | unmap s p n =>
    unfold Cl.d
    unfold ansA
    cases z : A.sp s with
    | none => simp [t3, t2, t1, in_str3, in_str2, at0, at1, ne_str, eq_str, h.isp, in_sp h.r, z, ansD]
    | some S => simp [t3, t2, t1, in_str3, in_str2, at0, at1, ne_str, eq_str, h.isp, in_sp h.r, z, ansD]
  | protect s p n r =>
    unfold Cl.d
    unfold ansA
    cases z : A.sp s with
    | none => simp [t3, t2, t1, in_str3, in_str2, at0, at1, ne_str, eq_str, h.isp, in_sp h.r, z, ansD]
    | some S => simp [t3, t2, t1, in_str3, in_str2, at0, at1, ne_str, eq_str, h.isp, in_sp h.r, z, ansD]
  | map s p n r q =>
    obtain ⟨_, ⟨c2, c3, c4, c5⟩, _⟩ := hc
    unfold Cl.d
    unfold ansA
    cases z : A.sp s with
    | none => simp [t3, t2, t1, in_str3, in_str2, at0, at1, ne_str, eq_str, h.isp, in_sp h.r, z, ansD]
    | some S =>
      obtain ⟨x, P, C, e, rr⟩ := h.r.of z
      have hr := has_run rr (e := [some (.ref st), some (.tup [.str 12, .int s, .int p, .int n, .str r, srcD q]), some (.str 12), none, some (.ref x.1), none]) (f := p) (n := n) (a := vOp ixD (vVar 1) (vC (.int 2))) (b := vOp addD (vOp ixD (vVar 1) (vC (.int 2))) (vOp ixD (vVar 1) (vC (.int 3)))) (i := 4) (j := 5) (by simp [at2]) (by simp [at2, at3]) c2 (by omega) (by omega) (by omega) rfl (Nat.le_refl 6) (by decide)
      simp [-vCB_e, -vLc_e, t3, t2, t1, in_str3, in_str2, at0, at1, ne_str, eq_str, h.isp, in_sp h.r, z, ix_sp h.r e, hr]
      cases hasP S p n.toNat with
      | true => simp [ansD, t1]
      | false => simp [ansD, t1]
end

section
variable {Q : Nat → Prop} {g g' g1 : G} {sp fl st : Nat} {T : List (Int × Nat × Nat)} {A : AS} {x : Nat × Nat} {P : List (Int × Vl)} {C : List ((Int × Int) × Int)} {S : Sp} {F : List ((Int × Int × Int) × Int)} {s p i : Int} {v : Vl}
theorem Rep.put (h : Rep g sp fl T A) (f : Fr g g') (hx : SpR g' x P C S) {sp' : Nat} (hs : g'[sp']? = some (.dct false (spE.tb (putT T s x)))) : Rep g' sp' fl (putT T s x) ⟨updF A.sp s (some S), A.fl⟩ := by
  refine ⟨hs, put_ndT h.n, fun t y e => ?_, fun t e => ?_, ?_⟩
  · rw [lkT_put] at e
    by_cases c : t = s
    · rw [if_pos c] at e
      cases e
      subst c
      exact ⟨P, C, S, updF_same, hx⟩
    · rw [if_neg c] at e
      obtain ⟨P', C', S', a, b⟩ := h.s t y e
      exact ⟨P', C', S', (updF_ne c).trans a, b.fr f⟩
  · rw [lkT_put] at e
    by_cases c : t = s
    · rw [if_pos c] at e; cases e
    · rw [if_neg c] at e
      exact (updF_ne c).trans (h.z t e)
  · obtain ⟨F, a, b, c⟩ := h.f
    exact ⟨F, f.get a, b, c⟩
theorem Rep.del (h : Rep g sp fl T A) (f : Fr g g') {sp' : Nat} (hs : g'[sp']? = some (.dct false (spE.tb (delT T s)))) : Rep g' sp' fl (delT T s) ⟨updF A.sp s none, A.fl⟩ := by
  refine ⟨hs, del_ndT h.n, fun t y e => ?_, fun t e => ?_, ?_⟩
  · rw [lkT_del] at e
    by_cases c : t = s
    · rw [if_pos c] at e
      cases e
    · rw [if_neg c] at e
      obtain ⟨P', C', S', a, b⟩ := h.s t y e
      exact ⟨P', C', S', (updF_ne c).trans a, b.fr f⟩
  · rw [lkT_del] at e
    by_cases c : t = s
    · subst c; exact updF_same
    · rw [if_neg c] at e
      exact (updF_ne c).trans (h.z t e)
  · obtain ⟨F, a, b, c⟩ := h.f
    exact ⟨F, f.get a, b, c⟩
theorem Rep.putF (h : Rep g sp fl T A) (f : Fr g g') (hF : NdT F) (hf : ∀ k, lkT F k = nz (A.fl k)) {fl' : Nat} {k : Int × Int × Int} {a : Int} (ha : a ≠ 0) (hs : g'[fl']? = some (.dct true (flE.tb (putT F k a)))) : Rep g' sp fl' T ⟨A.sp, updF A.fl k a⟩ := by
  refine ⟨f.get h.t, h.n, fun t y e => ?_, h.z, putT F k a, hs, put_ndT hF, fun q => ?_⟩
  · obtain ⟨P', C', S', a, b⟩ := h.s t y e
    exact ⟨P', C', S', a, b.fr f⟩
  · rw [lkT_put]
    by_cases c : q = k
    · rw [if_pos c, c]; simp only [updF_same]; unfold nz; rw [if_neg ha]
    · rw [if_neg c]; simp only [updF_ne c, hf]
theorem SpR.putC (r : SpR g x P C S) (f : Fr g g') {c' : Nat} {k : Int × Int} {a : Int} (ha : a ≠ 0) (hs : g'[c']? = some (.dct true (ceE.tb (putT C k a)))) : SpR g' (x.1, c') P (putT C k a) ⟨S.pg, updF S.cl k a⟩ :=
  ⟨f.get r.p, hs, r.pn, put_ndT r.cn, r.pk, fun q => by
    rw [lkT_put]
    by_cases c : q = k
    · rw [if_pos c, c]; simp only [updF_same]; unfold nz; rw [if_neg ha]
    · rw [if_neg c]; simp only [updF_ne c, r.ck]⟩
/-- a state that is made -/
theorem disp2 {ps : PM} {e : En} {a b : D} (hp : ps e (g ++ [.dct false []]) = .ok [(.str 14, a), (.str 13, b)] g1) (f : Fr (g ++ [.dct false []]) g1) :
    vDisp ps e g = .ok (.ref g.length) (g1.set g.length (.dct false [(.str 14, a), (.str 13, b)])) ∧ Fr g (g1.set g.length (.dct false [(.str 14, a), (.str 13, b)])) ∧ (g1.set g.length (.dct false [(.str 14, a), (.str 13, b)]))[g.length]? = some (.dct false [(.str 14, a), (.str 13, b)]) := by
  have h1 : g1[g.length]? = some (.dct false []) := f.get get_snoc'
  have mg : mergep [] [(D.str 14, a), (D.str 13, b)] = [(.str 14, a), (.str 13, b)] := by
    simp [mergep, putp, deq]
  refine ⟨?_, (Fr.app.trans f).set (Nat.le_refl _), List.getElem?_set_self (List.getElem?_eq_some_iff.mp h1).1⟩
  unfold vDisp
  rw [hp]
  simp only [Res.bind, h1, mg]
  rfl
/-- what a function of plain.py gives -/
def NewSt (Q : Nat → Prop) (g : G) (A : AS) (r : Res D) : Prop := ∃ st' g' sp' fl' T', r = .ok (.ref st') g' ∧ Fr g g' ∧ StR Q g' st' sp' fl' T' A
theorem NewSt.pre {A' : AS} {r : Res D} (f : Fr g g1) (h : NewSt Q g1 A' r) : NewSt Q g A' r := by
  obtain ⟨st', g', sp', fl', T', a, b, c⟩ := h
  exact ⟨st', g', sp', fl', T', a, f.trans b, c⟩
theorem space_run (o : OkAS A) (hQ : ∀ i, g.length ≤ i → Q i) (h : StR Q g st sp fl T A) (hx : SpR g x P C S) (qx : Q x.1 ∧ Q x.2) : NewSt Q g ⟨updF A.sp s (some S), A.fl⟩ (m_with_space [.ref st, .int s, .tup [.ref x.1, .ref x.2]] g) := by
  have start : m_with_space [.ref st, .int s, .tup [.ref x.1, .ref x.2]] g = endM (b_with_space [some (.ref st), some (.int s), some (.tup [.ref x.1, .ref x.2])] g) := rfl
  rw [start]
  have h' := h.fr (Fr.app (os := [.dct false []]))
  have en := entry_run (g := g ++ [Ob.dct false []]) (E := spE) (l := sp) (ps := T) (k := s) (v := x) h'.r.t rfl (by have := h.r.lenT o; omega)
  have h2 := h'.fr (Fr.app (os := [.dct spE.tk (spE.tb (putT T s x))]))
  have hp : (pCons (vC (.str 14)) (vCall m_with_entry (aCons (vOp ixC (vVar 0) (vC (.str 14))) (aCons (vVar 1) (aCons (vVar 2) aNil)))) (pCons (vC (.str 13)) (vOp ixC (vVar 0) (vC (.str 13))) pNil)) [some (.ref st), some (.int s), some (.tup [.ref x.1, .ref x.2])] (g ++ [.dct false []]) = .ok [(.str 14, .ref (g ++ [Ob.dct false []]).length), (.str 13, .ref fl)] ((g ++ [.dct false []]) ++ [.dct spE.tk (spE.tb (putT T s x))]) := by
    have en' : m_with_entry [.ref sp, .int s, .tup [.ref x.1, .ref x.2]] (g ++ [.dct false []]) = .ok (.ref (g ++ [Ob.dct false []]).length) ((g ++ [.dct false []]) ++ [.dct spE.tk (spE.tb (putT T s x))]) := en
    simp only [pCons, pNil]
    simp only [vC_e, Res.bind, vCall_e, aCons_e, vOp_e, vVar_e, List.getElem?_cons_zero, List.getElem?_cons_succ, h'.isp, oR_some, aNil_e, en', h2.ifl]
  obtain ⟨a1, a2, a3⟩ := disp2 hp Fr.app
  have hg1 : ∀ o : Ob, (((g ++ [Ob.dct false []]) ++ [Ob.dct spE.tk (spE.tb (putT T s x))]).set g.length o)[(g ++ [Ob.dct false []]).length]? = some (.dct false (spE.tb (putT T s x))) := fun o => by
    rw [List.getElem?_set_ne (by simp)]
    exact get_snoc'
  unfold b_with_space
  rw [sRet_e, a1]
  exact ⟨_, _, _, _, _, rfl, a2, a3, h.r.put a2 (hx.fr a2) (hg1 _), ⟨hQ _ (Nat.le_refl _), hQ _ (by simp), h.q.2.2⟩, fun t y e => by
    rw [lkT_put] at e
    by_cases c : t = s
    · rw [if_pos c] at e; cases e; exact qx
    · rw [if_neg c] at e; exact h.qt t y e⟩
theorem cellput_run (o : OkAS A) (hQ : ∀ i, g.length ≤ i → Q i) (h : StR Q g st sp fl T A) (hS : A.sp s = some S) (hv : S.pg p = some v) {a : Int} (ha : a ≠ 0) : NewSt Q g (putA A s S v p i a) (m_with_cell [.ref st, .int s, .int p, .int i, .int a] g) := by
  obtain ⟨x, P, C, e, r⟩ := h.r.of hS
  obtain ⟨F, f1, f2, f3⟩ := h.r.f
  have oS := (o.s4 s S hS).2
  have start : m_with_cell [.ref st, .int s, .int p, .int i, .int a] g = endM (b_with_cell [some (.ref st), some (.int s), some (.int p), some (.int i), some (.int a), none, none, none] g) := rfl
  rw [start]
  unfold b_with_cell c_with_cell_3
  have tg : sTgt (vOp ixC (vOp ixC (vVar 0) (vC (.str 14))) (vVar 1)) (gT 2 (gsC (gN 5) (gsC (gN 6) gsN))) [some (.ref st), some (.int s), some (.int p), some (.int i), some (.int a), none, none, none] g = .nx [some (.ref st), some (.int s), some (.int p), some (.int i), some (.int a), some (.ref x.1), some (.ref x.2), none] g := by
    unfold sTgt
    simp only [vOp_e, vVar_e, List.getElem?_cons_zero, List.getElem?_cons_succ, Res.bind, vC_e, h.isp, oR_some, ix_sp h.r e, sBind]
    rfl
  simp only [sSeq_e, tg, sAsg_e, vOp_e, vVar_e, List.getElem?_cons_zero, List.getElem?_cons_succ, Res.bind, vC_e, ix_pg r hv, vl1, oR_some, sBind, List.set]
  unfold c_with_cell_2
  simp only [sSeq_e, sIf_e, tOf_e, vOp_e, vVar_e, List.getElem?_cons_zero, List.getElem?_cons_succ, Res.bind, vC_e, isN_e, src_non, oR_some, bR_bl, sBind]
  unfold putA
  cases z : v.2 with
  | none =>
    have en : m_with_entry [.ref x.2, .tup [.int p, .int i], .int a] g = .ok (.ref g.length) (g ++ [.dct true (ceE.tb (putT C (p, i) a))]) := entry_run (g := g) (E := ceE) (l := x.2) (ps := C) (k := (p, i)) (v := a) r.c (r.smC oS) (by have := r.lenC oS; omega)
    have hx := r.putC (g' := g ++ [.dct true (ceE.tb (putT C (p, i) a))]) (k := (p, i)) (a := a) Fr.app (c' := g.length) ha get_snoc'
    have sr := space_run (s := s) o (fun i hi => hQ i (by simp at hi; omega)) (h.fr (Fr.app (os := [.dct true (ceE.tb (putT C (p, i) a))]))) hx ⟨(h.qt _ _ e).1, hQ _ (Nat.le_refl _)⟩
    simp only [Option.isNone_none, cond_true, sRet_e, vCall_e, aCons_e, vVar_e, List.getElem?_cons_zero, List.getElem?_cons_succ, Res.bind, aNil_e, vTup_s, List.length_cons, List.length_nil, okL_s (show 0 + 1 + 1 < 1000 by decide), en]
    obtain ⟨st', g', sp', fl', T', b1, b2, b3⟩ := sr
    simp only at b1
    rw [b1]
    exact ⟨st', g', sp', fl', T', rfl, Fr.app.trans b2, b3⟩
  | some y =>
    have h' := h.fr (Fr.app (os := [.dct false []]))
    have f1' : (g ++ [Ob.dct false []])[fl]? = some (.dct true (flE.tb F)) := (Fr.app (g := g)).get f1
    have en : m_with_entry [.ref fl, .tup [.int y.1, .int y.2, .int i], .int a] (g ++ [.dct false []]) = .ok (.ref (g ++ [Ob.dct false []]).length) ((g ++ [.dct false []]) ++ [.dct true (flE.tb (putT F (y.1, y.2, i) a))]) := entry_run (g := g ++ [Ob.dct false []]) (E := flE) (l := fl) (ps := F) (k := (y.1, y.2, i)) (v := a) f1' (fl_sm o f2 f3) (by have := fl_len o f2 f3; omega)
    have hp : (pCons (vC (.str 14)) (vOp ixC (vVar 0) (vC (.str 14))) (pCons (vC (.str 13)) (vCall m_with_entry (aCons (vOp ixC (vVar 0) (vC (.str 13))) (aCons (vOp addD (vVar 7) (vTup (aCons (vVar 3) aNil))) (aCons (vVar 4) aNil)))) pNil)) [some (.ref st), some (.int s), some (.int p), some (.int i), some (.int a), some (.ref x.1), some (.ref x.2), some (srcD (some y))] (g ++ [.dct false []]) = .ok [(.str 14, .ref sp), (.str 13, .ref (g ++ [Ob.dct false []]).length)] ((g ++ [.dct false []]) ++ [.dct true (flE.tb (putT F (y.1, y.2, i) a))]) := by
      have tp : ∀ e g, vTup (aCons (vVar 3) aNil) [some (.ref st), some (.int s), some (.int p), some (.int i), some (.int a), some (.ref x.1), some (.ref x.2), e] g = .ok (.tup [.int i]) g := fun _ _ => rfl
      simp only [pCons, pNil]
      simp only [vC_e, Res.bind, vCall_e, aCons_e, vOp_e, vVar_e, List.getElem?_cons_zero, List.getElem?_cons_succ, h'.isp, oR_some, aNil_e, h'.ifl, tp, add_src, en]
    obtain ⟨a1, a2, a3⟩ := disp2 hp Fr.app
    have hg1 : ∀ o : Ob, (((g ++ [Ob.dct false []]) ++ [Ob.dct true (flE.tb (putT F (y.1, y.2, i) a))]).set g.length o)[(g ++ [Ob.dct false []]).length]? = some (.dct true (flE.tb (putT F (y.1, y.2, i) a))) := fun o => by
      rw [List.getElem?_set_ne (by simp)]
      exact get_snoc'
    unfold c_with_cell_1
    simp only [Option.isNone_some, cond_false, sNx_e, sRet_e, a1]
    exact ⟨_, _, _, _, _, rfl, a2, a3, h.r.putF a2 f2 f3 ha (hg1 _), ⟨hQ _ (Nat.le_refl _), h.q.2.1, hQ _ (by simp)⟩, h.qt⟩
end

/-! #### comprehensions over a dict that is locked -/
theorem dcL_pure {α : Type} {gm : GM} {t : TM} {mk mv : EM} {e : En} {g : G} (c : α → D) (p : α → Bool) (f h : α → D) : ∀ (xs : List α), (∀ x ∈ xs, ∃ e', gm (c x) g e = some e' ∧ t e' g = .ok (p x) g ∧ (p x = true → mk e' g = .ok (f x) g ∧ mv e' g = .ok (h x) g)) → dcL gm t mk mv (xs.map c) e g = .ok ((xs.filter p).map fun x => (f x, h x)) g
  | [], _ => rfl
  | x :: xs, hh => by
    obtain ⟨e', h1, h2, h3⟩ := hh x List.mem_cons_self
    have ih := dcL_pure c p f h xs fun y hy => hh y (List.mem_cons_of_mem _ hy)
    rw [List.map_cons]
    unfold dcL
    rw [h1]
    simp only [h2, noX_ok, Res.bind]
    cases hp : p x with
    | true => simp [h3 hp, ih, hp]
    | false => simp [ih, hp]
section
variable {κ ν : Type} [DecidableEq κ] {E : Enc κ ν} {g : G} {l : Nat} {ps : List (κ × ν)} {e : En} {own : List Nat} {m mk mv : EM} {gm : GM} {t : TM} {c : κ × ν → Bool}
theorem dc_run (h : g[l]? = some (.dct E.tk (E.tb ps))) (hn : NdT ps) (hl : ps.length < 1000) (hm : ∀ g, m e g = .ok (.ref l) g)
    (hx : ∀ x ∈ ps, ∃ e', gm (E.ek x.1) (g.set l (.dctL E.tk (E.tb ps))) (wipeE e own) = some e' ∧ t e' (g.set l (.dctL E.tk (E.tb ps))) = .ok (c x) (g.set l (.dctL E.tk (E.tb ps))) ∧ (c x = true → mk e' (g.set l (.dctL E.tk (E.tb ps))) = .ok (E.ek x.1) (g.set l (.dctL E.tk (E.tb ps))) ∧ mv e' (g.set l (.dctL E.tk (E.tb ps))) = .ok (E.ev x.2) (g.set l (.dctL E.tk (E.tb ps))))) :
    vDc E.tk own (iKey m) gm t mk mv e (g.set l (.dctL E.tk (E.tb ps))) = .ok (.ref g.length) (g.set l (.dctL E.tk (E.tb ps)) ++ [.dct E.tk (E.tb (ps.filter c))]) := by
  have ll := (List.getElem?_eq_some_iff.mp h).1
  have hgl : (g.set l (.dctL E.tk (E.tb ps)))[l]? = some (.dctL E.tk (E.tb ps)) := List.getElem?_set_self ll
  have im : iKey m e (g.set l (.dctL E.tk (E.tb ps))) = .ok (.vals (ps.map fun p => E.ek p.1)) (g.set l (.dctL E.tk (E.tb ps))) := by
    unfold iKey
    simp only [hm, Res.bind, hgl]
    simp [Enc.tb, Function.comp_def]
  have d := dcL_pure (fun p : κ × ν => E.ek p.1) c (fun p => E.ek p.1) (fun p => E.ev p.2) ps hx
  have ky : ((ps.filter c).map fun x => (E.ek x.1, E.ev x.2)).all (fun p => isKey E.tk p.1) = true := by
    rw [List.all_eq_true]
    intro y hy
    obtain ⟨z, _, rfl⟩ := List.mem_map.mp hy
    exact E.key _
  have mg := merge_T E (ps.filter c) [] (by simpa using filter_ndT hn c)
  rw [List.nil_append] at mg
  have mg' : mergep [] ((ps.filter c).map fun x => (E.ek x.1, E.ev x.2)) = E.tb (ps.filter c) := mg
  unfold vDc
  simp only [im, Res.bind, List.length_map, okL_s (show ps.length < 1000 from hl), d, ky, mg', List.length_set]
theorem unlock (h : g[l]? = some (.dct E.tk (E.tb ps))) {o : Ob} : (g.set l (.dctL E.tk (E.tb ps)) ++ [o])[l]? = some (.dctL E.tk (E.tb ps)) ∧ (g.set l (.dctL E.tk (E.tb ps)) ++ [o]).set l (.dct E.tk (E.tb ps)) = g ++ [o] := by
  have ll := (List.getElem?_eq_some_iff.mp h).1
  have e1 : g[l] = .dct E.tk (E.tb ps) := (List.getElem?_eq_some_iff.mp h).2
  refine ⟨by rw [List.getElem?_append_left (by simpa using ll)]; exact List.getElem?_set_self ll, ?_⟩
  rw [List.set_append_left _ _ (by simpa using ll), List.set_set, ← e1, List.set_getElem_self ll]
theorem lockdc_run {i : Nat} (h : g[l]? = some (.dct E.tk (E.tb ps))) (hn : NdT ps) (hl : ps.length < 1000) (hi : e[i]? = some (some (.ref l)))
    (hx : ∀ x ∈ ps, ∃ e', gm (E.ek x.1) (g.set l (.dctL E.tk (E.tb ps))) (wipeE e own) = some e' ∧ t e' (g.set l (.dctL E.tk (E.tb ps))) = .ok (c x) (g.set l (.dctL E.tk (E.tb ps))) ∧ (c x = true → mk e' (g.set l (.dctL E.tk (E.tb ps))) = .ok (E.ek x.1) (g.set l (.dctL E.tk (E.tb ps))) ∧ mv e' (g.set l (.dctL E.tk (E.tb ps))) = .ok (E.ev x.2) (g.set l (.dctL E.tk (E.tb ps))))) :
    vLock (pkOf (vVar i)) (vDc E.tk own (iKey (vVar i)) gm t mk mv) e g = .ok (.ref g.length) (g ++ [.dct E.tk (E.tb (ps.filter c))]) := by
  have hm : ∀ g, vVar i e g = .ok (.ref l) g := fun g => by simp [hi]
  have pk : pkOf (vVar i) e g = some l := by unfold pkOf; rw [hm]
  have d := dc_run (m := vVar i) h hn hl hm hx
  obtain ⟨u1, u2⟩ := unlock (o := Ob.dct E.tk (E.tb (ps.filter c))) h
  unfold vLock
  simp only [pk, h, d, noX_ok, Res.bind, u1, u2]
end
section
variable {Q : Nat → Prop} {g g' g1 : G} {sp fl st : Nat} {T : List (Int × Nat × Nat)} {A : AS} {x : Nat × Nat} {P : List (Int × Vl)} {C : List ((Int × Int) × Int)} {S : Sp} {F : List ((Int × Int × Int) × Int)} {s p i n : Int} {v : Vl} {r : Nat}
theorem ix_ce {l : Nat} {k : Int × Int} {a : Int} (h : (g[l]?).bind prsO = some (true, ceE.tb C)) (e : lkT C k = some a) : ixC g (.ref l) (.tup [.int k.1, .int k.2]) = some (.int a) := ixC_T (E := ceE) h e
theorem ix_vl {l : Nat} (h : (g[l]?).bind prsO = some (false, vlE.tb P)) (e : lkT P p = some v) : ixC g (.ref l) (.int p) = some (valD v) := ixC_T (E := vlE) h e
theorem inR_e {i lo hi : Int} : inR true g (.int i) (.rng lo hi) = some (.bl (!decide (lo ≤ i ∧ i < hi))) := by
  unfold inR
  simp
theorem unmap_run (o : OkAS A) (hQ : ∀ i, g.length ≤ i → Q i) (h : StR Q g st sp fl T A) (hS : A.sp s = some S) : NewSt Q g ⟨updF A.sp s (some (cutSp S p n)), A.fl⟩ (m_unmapped [.ref st, .tup [.str 5, .int s, .int p, .int n]] g) := by
  obtain ⟨x, P, C, e, r⟩ := h.r.of hS
  have oS := (o.s4 s S hS).2
  have start : m_unmapped [.ref st, .tup [.str 5, .int s, .int p, .int n]] g = endM (b_unmapped [some (.ref st), some (.tup [.str 5, .int s, .int p, .int n]), none, none, none, none, none, none, none, none, none] g) := rfl
  rw [start]
  unfold b_unmapped c_unmapped_5
  have t1 : sTgt (vVar 1) (gT 4 (gsC (gN 2) (gsC (gN 3) (gsC (gN 4) (gsC (gN 5) gsN))))) [some (.ref st), some (.tup [.str 5, .int s, .int p, .int n]), none, none, none, none, none, none, none, none, none] g = .nx [some (.ref st), some (.tup [.str 5, .int s, .int p, .int n]), some (.str 5), some (.int s), some (.int p), some (.int n), none, none, none, none, none] g := rfl
  have t2 : sTgt (vOp ixC (vOp ixC (vVar 0) (vC (.str 14))) (vVar 3)) (gT 2 (gsC (gN 6) (gsC (gN 7) gsN))) [some (.ref st), some (.tup [.str 5, .int s, .int p, .int n]), some (.str 5), some (.int s), some (.int p), some (.int n), none, none, none, none, none] g = .nx [some (.ref st), some (.tup [.str 5, .int s, .int p, .int n]), some (.str 5), some (.int s), some (.int p), some (.int n), some (.ref x.1), some (.ref x.2), none, none, none] g := by
    unfold sTgt
    simp only [vOp_e, vVar_e, List.getElem?_cons_zero, List.getElem?_cons_succ, Res.bind, vC_e, h.isp, oR_some, ix_sp h.r e, sBind]
    rfl
  have rg : ∀ g e1 e2 e3 a b, vRng2 (aCons (vVar 4) (aCons (vOp addD (vVar 4) (vVar 5)) aNil)) [some (.ref st), some (.tup [.str 5, .int s, .int p, .int n]), some (.str 5), some (.int s), some (.int p), some (.int n), a, b, e1, e2, e3] g = .ok (.rng p (p + n)) g := fun g e1 e2 e3 a b => rfl
  unfold c_unmapped_4 c_unmapped_3 c_unmapped_2 c_unmapped_1
  have d1 := lockdc_run (E := vlE) (l := x.1) (ps := P) (g := g) (e := [some (.ref st), some (.tup [.str 5, .int s, .int p, .int n]), some (.str 5), some (.int s), some (.int p), some (.int n), some (.ref x.1), some (.ref x.2), some (.rng p (p + n)), none, none]) (own := [9]) (i := 6) (gm := gN 9) (t := tOf (vOp (inR true) (vVar 9) (vVar 8))) (mk := vVar 9) (mv := vOp ixC (vVar 6) (vVar 9)) (c := fun y => !decide (p ≤ y.1 ∧ y.1 < p + n)) r.p r.pn (by have := r.lenP oS; omega) rfl (fun y hy => ⟨_, rfl, by
      show tOf (vOp (inR true) (vVar 9) (vVar 8)) [some (.ref st), some (.tup [.str 5, .int s, .int p, .int n]), some (.str 5), some (.int s), some (.int p), some (.int n), some (.ref x.1), some (.ref x.2), some (.rng p (p + n)), some (.int y.1), none] _ = _
      simp only [tOf_e, vOp_e, vVar_e, List.getElem?_cons_zero, List.getElem?_cons_succ, Res.bind, inR_e, oR_some, bR_bl], fun _ => ⟨rfl, by
      show vOp ixC (vVar 6) (vVar 9) [some (.ref st), some (.tup [.str 5, .int s, .int p, .int n]), some (.str 5), some (.int s), some (.int p), some (.int n), some (.ref x.1), some (.ref x.2), some (.rng p (p + n)), some (.int y.1), none] _ = _
      have ix := ix_vl (g := g.set x.1 (.dctL vlE.tk (vlE.tb P))) (l := x.1) (P := P) (by rw [List.getElem?_set_self (List.getElem?_eq_some_iff.mp r.p).1]; rfl) (lkT_mem r.pn hy)
      simp only [vOp_e, vVar_e, List.getElem?_cons_zero, List.getElem?_cons_succ, Res.bind, ix, oR_some]
      rfl⟩⟩)
  have rc1 : (g ++ [Ob.dct false (vlE.tb (P.filter fun y => !decide (p ≤ y.1 ∧ y.1 < p + n)))])[x.2]? = some (.dct true (ceE.tb C)) := Fr.app.get r.c
  have d2 := lockdc_run (E := ceE) (l := x.2) (ps := C) (g := g ++ [Ob.dct false (vlE.tb (P.filter fun y => !decide (p ≤ y.1 ∧ y.1 < p + n)))]) (e := [some (.ref st), some (.tup [.str 5, .int s, .int p, .int n]), some (.str 5), some (.int s), some (.int p), some (.int n), some (.ref g.length), some (.ref x.2), some (.rng p (p + n)), none, none]) (own := [10]) (i := 7) (gm := gN 10) (t := tOf (vOp (inR true) (vOp ixD (vVar 10) (vC (.int 0))) (vVar 8))) (mk := vVar 10) (mv := vOp ixC (vVar 7) (vVar 10)) (c := fun y => !decide (p ≤ y.1.1 ∧ y.1.1 < p + n)) rc1 r.cn (by have := r.lenC oS; omega) rfl (fun y hy => ⟨_, rfl, by
      show tOf (vOp (inR true) (vOp ixD (vVar 10) (vC (.int 0))) (vVar 8)) [some (.ref st), some (.tup [.str 5, .int s, .int p, .int n]), some (.str 5), some (.int s), some (.int p), some (.int n), some (.ref g.length), some (.ref x.2), some (.rng p (p + n)), none, some (.tup [.int y.1.1, .int y.1.2])] _ = _
      simp only [tOf_e, vOp_e, vVar_e, List.getElem?_cons_zero, List.getElem?_cons_succ, Res.bind, vC_e, ixD_tup, at0, inR_e, oR_some, bR_bl], fun _ => ⟨rfl, by
      show vOp ixC (vVar 7) (vVar 10) [some (.ref st), some (.tup [.str 5, .int s, .int p, .int n]), some (.str 5), some (.int s), some (.int p), some (.int n), some (.ref g.length), some (.ref x.2), some (.rng p (p + n)), none, some (.tup [.int y.1.1, .int y.1.2])] _ = _
      have ix := ix_ce (g := (g ++ [Ob.dct false (vlE.tb (P.filter fun y => !decide (p ≤ y.1 ∧ y.1 < p + n)))]).set x.2 (.dctL ceE.tk (ceE.tb C))) (l := x.2) (C := C) (by rw [List.getElem?_set_self (List.getElem?_eq_some_iff.mp rc1).1]; rfl) (lkT_mem r.cn hy)
      simp only [vOp_e, vVar_e, List.getElem?_cons_zero, List.getElem?_cons_succ, Res.bind, ix, oR_some]
      rfl⟩⟩)
  have d1' : vLock (pkOf (vVar 6)) (vDc false [9] (iKey (vVar 6)) (gN 9) (tOf (vOp (inR true) (vVar 9) (vVar 8))) (vVar 9) (vOp ixC (vVar 6) (vVar 9))) [some (.ref st), some (.tup [.str 5, .int s, .int p, .int n]), some (.str 5), some (.int s), some (.int p), some (.int n), some (.ref x.1), some (.ref x.2), some (.rng p (p + n)), none, none] g = _ := d1
  have d2' : vLock (pkOf (vVar 7)) (vDc true [10] (iKey (vVar 7)) (gN 10) (tOf (vOp (inR true) (vOp ixD (vVar 10) (vC (.int 0))) (vVar 8))) (vVar 10) (vOp ixC (vVar 7) (vVar 10))) [some (.ref st), some (.tup [.str 5, .int s, .int p, .int n]), some (.str 5), some (.int s), some (.int p), some (.int n), some (.ref g.length), some (.ref x.2), some (.rng p (p + n)), none, none] (g ++ [Ob.dct vlE.tk (vlE.tb (P.filter fun y => !decide (p ≤ y.1 ∧ y.1 < p + n)))]) = _ := d2
  simp only [sSeq_e, t1, t2, sAsg_e, rg, sBind, List.set, d1', d2', sRet_e, vCall_e, aCons_e, vVar_e, List.getElem?_cons_zero, List.getElem?_cons_succ, Res.bind, aNil_e, vTup_s, List.length_cons, List.length_nil, okL_s (show 0 + 1 + 1 < 1000 by decide)]
  have f2 : Fr g ((g ++ [Ob.dct false (vlE.tb (P.filter fun y => !decide (p ≤ y.1 ∧ y.1 < p + n)))]) ++ [Ob.dct true (ceE.tb (C.filter fun y => !decide (p ≤ y.1.1 ∧ y.1.1 < p + n)))]) := Fr.app.trans Fr.app
  have hx : SpR ((g ++ [Ob.dct false (vlE.tb (P.filter fun y => !decide (p ≤ y.1 ∧ y.1 < p + n)))]) ++ [Ob.dct true (ceE.tb (C.filter fun y => !decide (p ≤ y.1.1 ∧ y.1.1 < p + n)))]) (g.length, (g ++ [Ob.dct false (vlE.tb (P.filter fun y => !decide (p ≤ y.1 ∧ y.1 < p + n)))]).length) (P.filter fun y => !decide (p ≤ y.1 ∧ y.1 < p + n)) (C.filter fun y => !decide (p ≤ y.1.1 ∧ y.1.1 < p + n)) (cutSp S p n) := by
    refine ⟨Fr.app.get get_snoc', get_snoc', filter_ndT r.pn _, filter_ndT r.cn _, fun q => ?_, fun k => ?_⟩
    · rw [lkT_filter (c := fun a => !decide (p ≤ a ∧ a < p + n)), r.pk]
      unfold cutSp
      by_cases c : p ≤ q ∧ q < p + n <;> simp [c]
    · rw [lkT_filter (c := fun a : Int × Int => !decide (p ≤ a.1 ∧ a.1 < p + n)), r.ck]
      unfold cutSp
      by_cases c : p ≤ k.1 ∧ k.1 < p + n <;> simp [c, nz]
  obtain ⟨st', g', sp', fl', T', b1, b2, b3⟩ := space_run (s := s) o (fun i hi => hQ i (Nat.le_trans f2.len hi)) (h.fr f2) hx ⟨hQ _ (Nat.le_refl _), hQ _ (by simp)⟩
  refine ⟨st', g', sp', fl', T', ?_, f2.trans b2, b3⟩
  simp only at b1
  exact Eq.trans (congrArg (fun r => endM (sBind r _ (fun d g1 => SR.rt d g1))) b1) rfl
end

theorem loop_nx {gm : GM} {b : SM} {lo : Int} {n : Nat} {e : En} {g : G} (P : Nat → En → G → Prop) (h0 : P 0 e g) (hs : ∀ j e g, j < n → P j e g → ∃ e' e2 g2, gm (.int (lo + (j : Int))) g e = some e' ∧ b e' g = .nx e2 g2 ∧ P (j + 1) e2 g2) : ∃ e' g', loopL gm b (rngL lo n) e g = .nx e' g' ∧ P n e' g' := by
  have := loop_rng (gm := gm) (b := b) (lo := lo) (Q := fun r => ∃ e' g', r = .nx e' g' ∧ P n e' g') P n 0 e g (fun j e g _ h2 h => by
    obtain ⟨e', e2, g2, a, c, d⟩ := hs j e g (by omega) h
    exact ⟨e', a, by rw [c]; exact d⟩) (fun e g h => ⟨e, g, rfl, by simpa using h⟩) h0
  simpa using this
theorem iRng2_ok {a b : EM} {e : En} {g : G} {f n : Int} (ha : a e g = .ok (.int f) g) (hb : b e g = .ok (.int (f + n)) g) (h0 : 0 ≤ f) (h1 : f ≤ 100) (h2 : 0 ≤ n) (h3 : n ≤ 100) : Y.iRng2 a b e g = .ok (.vals (rngL f n.toNat)) g := by
  have e1 : f + n - f = n := by omega
  unfold Y.iRng2
  simp only [ha, Res.bind, hb, rB_of (show -1000000000 ≤ f by omega) (by omega), rB_of (show -1000000000 ≤ f + n by omega) (by omega), Bool.and_self, e1]
def shf (c : Option (Int × Int)) (k : Int) : Option (Int × Int) := c.map fun x => (x.1, x.2 + k)
/-- the table with one part set -/
def proT (S : Sp) (p : Int) (r : Nat) (j : Nat) (q : Int) : Option Vl := if p ≤ q ∧ q < p + (j : Int) then (S.pg q).map fun v => (r, v.2) else S.pg q
def mapT (S : Sp) (p : Int) (r : Nat) (c : Option (Int × Int)) (j : Nat) (q : Int) : Option Vl := if p ≤ q ∧ q < p + (j : Int) then some (r, shf c (q - p)) else S.pg q
section
variable {Q : Nat → Prop} {g g' g1 : G} {sp fl st : Nat} {T : List (Int × Nat × Nat)} {A : AS} {x : Nat × Nat} {P : List (Int × Vl)} {C : List ((Int × Int) × Int)} {S : Sp} {F : List ((Int × Int × Int) × Int)} {s p i n : Int} {v : Vl} {r : Nat}
theorem two_tgt {k i j : Nat} {e : En} {a b : D} (h : vOp ixC (vOp ixC (vVar 0) (vC (.str 14))) (vVar k) e g = .ok (.tup [a, b]) g) : sTgt (vOp ixC (vOp ixC (vVar 0) (vC (.str 14))) (vVar k)) (gT 2 (gsC (gN i) (gsC (gN j) gsN))) e g = .nx ((e.set i (some a)).set j (some b)) g := by
  unfold sTgt
  rw [h]
  rfl
theorem protect_run (o : OkAS A) (hQ : ∀ i, g.length ≤ i → Q i) (h : StR Q g st sp fl T A) (hS : A.sp s = some S) (hr : rngOk p n) : NewSt Q g ⟨updF A.sp s (some ⟨proPg S p n r, S.cl⟩), A.fl⟩ (m_protected [.ref st, .tup [.str 4, .int s, .int p, .int n, .str r]] g) := by
  obtain ⟨x, P, C, e, rr⟩ := h.r.of hS
  have oS := (o.s4 s S hS).2
  obtain ⟨q1, q2, q3, q4⟩ := hr
  have start : m_protected [.ref st, .tup [.str 4, .int s, .int p, .int n, .str r]] g = endM (b_protected [some (.ref st), some (.tup [.str 4, .int s, .int p, .int n, .str r]), none, none, none, none, none, none, none, none, none] g) := rfl
  rw [start]
  unfold b_protected c_protected_4
  have t1 : sTgt (vVar 1) (gT 5 (gsC (gN 2) (gsC (gN 3) (gsC (gN 4) (gsC (gN 5) (gsC (gN 6) gsN)))))) [some (.ref st), some (.tup [.str 4, .int s, .int p, .int n, .str r]), none, none, none, none, none, none, none, none, none] g = .nx [some (.ref st), some (.tup [.str 4, .int s, .int p, .int n, .str r]), some (.str 4), some (.int s), some (.int p), some (.int n), some (.str r), none, none, none, none] g := rfl
  have t2 := two_tgt (g := g) (k := 3) (i := 7) (j := 8) (e := [some (.ref st), some (.tup [.str 4, .int s, .int p, .int n, .str r]), some (.str 4), some (.int s), some (.int p), some (.int n), some (.str r), none, none, none, none]) (a := .ref x.1) (b := .ref x.2) (by
    simp only [vOp_e, vVar_e, List.getElem?_cons_zero, List.getElem?_cons_succ, Res.bind, vC_e, h.isp, oR_some, ix_sp h.r e])
  have cp := copy_T (E := vlE) (m := vVar 7) (e := [some (.ref st), some (.tup [.str 4, .int s, .int p, .int n, .str r]), some (.str 4), some (.int s), some (.int p), some (.int n), some (.str r), some (.ref x.1), some (.ref x.2), none, none]) (g := g) (l := x.1) (ps := P) rfl rr.p rfl
  unfold c_protected_3 c_protected_2 c_protected_1
  have im := iRng2_ok (a := vVar 4) (b := vOp addD (vVar 4) (vVar 5)) (e := [some (.ref st), some (.tup [.str 4, .int s, .int p, .int n, .str r]), some (.str 4), some (.int s), some (.int p), some (.int n), some (.str r), some (.ref x.1), some (.ref x.2), some (.ref g.length), none]) (g := g ++ [Ob.dct vlE.tk (vlE.tb P)]) (f := p) (n := n) rfl rfl q1 (by omega) (by omega) (by omega)
  obtain ⟨e', g2, l1, P', y, he, hg2, hP, hk, hl⟩ := loop_nx (gm := gN 10) (b := sIf (tOf (vOp (inC false) (vVar 10) (vVar 7))) (sSubC (vVar 9) (vVar 10) (vTup (aCons (vVar 6) (aCons (vOp ixD (vOp ixC (vVar 7) (vVar 10)) (vC (.int 1))) aNil)))) sNx) (lo := p) (n := n.toNat) (e := [some (.ref st), some (.tup [.str 4, .int s, .int p, .int n, .str r]), some (.str 4), some (.int s), some (.int p), some (.int n), some (.str r), some (.ref x.1), some (.ref x.2), some (.ref g.length), none]) (g := g ++ [Ob.dct vlE.tk (vlE.tb P)])
    (fun j e g2 => ∃ (P' : List (Int × Vl)) (y : Option D), e = [some (.ref st), some (.tup [.str 4, .int s, .int p, .int n, .str r]), some (.str 4), some (.int s), some (.int p), some (.int n), some (.str r), some (.ref x.1), some (.ref x.2), some (.ref g.length), y] ∧ g2 = g ++ [Ob.dct vlE.tk (vlE.tb P')] ∧ NdT P' ∧ (∀ q, lkT P' q = proT S p r j q) ∧ P'.length ≤ 8 + j)
    ⟨P, none, rfl, rfl, rr.pn, fun q => by rw [rr.pk]; unfold proT; rw [if_neg (by omega)], by have := rr.lenP oS; omega⟩ (fun j e2 g2 hj ⟨P', y, he, hg2, hP, hk, hl⟩ => by
      subst he hg2
      have rr' := rr.fr (Fr.app (os := [Ob.dct vlE.tk (vlE.tb P')]))
      have ic := in_pg (p := p + (j : Int)) rr' (neg := false)
      have hstep : ∀ q, proT S p r (j + 1) q = if q = p + (j : Int) then (S.pg q).map fun v => (r, v.2) else proT S p r j q := fun q => by
        unfold proT
        by_cases c : q = p + (j : Int)
        · rw [if_pos c, if_pos (by omega)]
        · rw [if_neg c]
          by_cases c2 : p ≤ q ∧ q < p + (j : Int)
          · rw [if_pos c2, if_pos (by omega)]
          · rw [if_neg c2, if_neg (by omega)]
      cases z : S.pg (p + (j : Int)) with
      | none =>
        refine ⟨_, [some (.ref st), some (.tup [.str 4, .int s, .int p, .int n, .str r]), some (.str 4), some (.int s), some (.int p), some (.int n), some (.str r), some (.ref x.1), some (.ref x.2), some (.ref g.length), some (.int (p + (j : Int)))], g ++ [Ob.dct vlE.tk (vlE.tb P')], rfl, ?_, P', _, rfl, rfl, hP, fun q => ?_, by omega⟩
        · simp only [List.set, sIf_e, tOf_e, vOp_e, vVar_e, List.getElem?_cons_zero, List.getElem?_cons_succ, Res.bind, ic, z, oR_some, bR_bl, sBind]
          rfl
        · rw [hstep]
          by_cases c : q = p + (j : Int)
          · rw [if_pos c, hk, c, z]
            unfold proT
            rw [if_neg (by omega), z]
            rfl
          · rw [if_neg c, hk]
      | some w =>
        have ix := ix_pg rr' z
        have sb := sub_T (E := vlE) (o := vVar 9) (i := vVar 10) (m := vTup (aCons (vVar 6) (aCons (vOp ixD (vOp ixC (vVar 7) (vVar 10)) (vC (.int 1))) aNil))) (e := [some (.ref st), some (.tup [.str 4, .int s, .int p, .int n, .str r]), some (.str 4), some (.int s), some (.int p), some (.int n), some (.str r), some (.ref x.1), some (.ref x.2), some (.ref g.length), some (.int (p + (j : Int)))]) (g := g ++ [Ob.dct vlE.tk (vlE.tb P')]) (g1 := g ++ [Ob.dct vlE.tk (vlE.tb P')]) (l := g.length) (ps := P') (k := p + (j : Int)) (v := (r, w.2)) (by
          simp only [vTup_s, aCons_e, vOp_e, vVar_e, List.getElem?_cons_zero, List.getElem?_cons_succ, Res.bind, ix, vC_e, vl1, oR_some, aNil_e, List.length_cons, List.length_nil, okL_s (show 0 + 1 + 1 < 1000 by decide)]
          rfl) rfl rfl get_snoc' (by omega)
        refine ⟨_, [some (.ref st), some (.tup [.str 4, .int s, .int p, .int n, .str r]), some (.str 4), some (.int s), some (.int p), some (.int n), some (.str r), some (.ref x.1), some (.ref x.2), some (.ref g.length), some (.int (p + (j : Int)))], g ++ [Ob.dct vlE.tk (vlE.tb (putT P' (p + (j : Int)) (r, w.2)))], rfl, ?_, putT P' (p + (j : Int)) (r, w.2), _, rfl, rfl, put_ndT hP, fun q => ?_, by have := put_lenT (ps := P') (k := p + (j : Int)) (v := (r, w.2)); omega⟩
        · simp only [List.set, sIf_e, tOf_e, vOp_e, vVar_e, List.getElem?_cons_zero, List.getElem?_cons_succ, Res.bind, ic, z, oR_some, bR_bl, sBind, Option.isSome_some, Bool.bne_false, cond_true, sb, set_snoc']
        · rw [hstep, lkT_put]
          by_cases c : q = p + (j : Int)
          · rw [if_pos c, if_pos c, c, z]; rfl
          · rw [if_neg c, if_neg c, hk])
  subst he hg2
  have hx : SpR (g ++ [Ob.dct vlE.tk (vlE.tb P')]) (g.length, x.2) P' C ⟨proPg S p n r, S.cl⟩ := ⟨get_snoc', Fr.app.get rr.c, hP, rr.cn, fun q => by
    rw [hk]
    unfold proT proPg
    simp only [show ((n.toNat : Nat) : Int) = n from by omega], rr.ck⟩
  obtain ⟨st', g', sp', fl', T', b1, b2, b3⟩ := space_run (s := s) o (fun i hi => hQ i (by simp at hi; omega)) (h.fr (Fr.app (os := [Ob.dct vlE.tk (vlE.tb P')]))) hx ⟨hQ _ (Nat.le_refl _), (h.qt _ _ e).2⟩
  refine ⟨st', g', sp', fl', T', ?_, Fr.app.trans b2, b3⟩
  simp only [sSeq_e, t1, t2, sAsg_e, cp, sBind, List.set, sFor_e, im, runS, l1, sRet_e, vCall_e, aCons_e, vVar_e, List.getElem?_cons_zero, List.getElem?_cons_succ, Res.bind, aNil_e, vTup_s, List.length_cons, List.length_nil, okL_s (show 0 + 1 + 1 < 1000 by decide), b1]
  rfl
theorem map_run (o : OkAS A) (hQ : ∀ i, g.length ≤ i → Q i) (h : StR Q g st sp fl T A) (hS : A.sp s = some S) (hr : rngOk p n) {c : Option (Int × Int)} : NewSt Q g ⟨updF A.sp s (some ⟨mapPg S p n r c, S.cl⟩), A.fl⟩ (m_mapped [.ref st, .tup [.str 12, .int s, .int p, .int n, .str r, srcD c]] g) := by
  obtain ⟨x, P, C, e, rr⟩ := h.r.of hS
  have oS := (o.s4 s S hS).2
  obtain ⟨q1, q2, q3, q4⟩ := hr
  have start : m_mapped [.ref st, .tup [.str 12, .int s, .int p, .int n, .str r, srcD c]] g = endM (b_mapped [some (.ref st), some (.tup [.str 12, .int s, .int p, .int n, .str r, srcD c]), none, none, none, none, none, none, none, none, none, none] g) := rfl
  rw [start]
  unfold b_mapped c_mapped_6
  have t1 : sTgt (vVar 1) (gT 6 (gsC (gN 2) (gsC (gN 3) (gsC (gN 4) (gsC (gN 5) (gsC (gN 6) (gsC (gN 7) gsN))))))) [some (.ref st), some (.tup [.str 12, .int s, .int p, .int n, .str r, srcD c]), none, none, none, none, none, none, none, none, none, none] g = .nx [some (.ref st), some (.tup [.str 12, .int s, .int p, .int n, .str r, srcD c]), some (.str 12), some (.int s), some (.int p), some (.int n), some (.str r), some (srcD c), none, none, none, none] g := rfl
  have t2 := two_tgt (g := g) (k := 3) (i := 8) (j := 9) (e := [some (.ref st), some (.tup [.str 12, .int s, .int p, .int n, .str r, srcD c]), some (.str 12), some (.int s), some (.int p), some (.int n), some (.str r), some (srcD c), none, none, none, none]) (a := .ref x.1) (b := .ref x.2) (by
    simp only [vOp_e, vVar_e, List.getElem?_cons_zero, List.getElem?_cons_succ, Res.bind, vC_e, h.isp, oR_some, ix_sp h.r e])
  unfold c_mapped_5 c_mapped_1
  have im : iRng1 (vVar 5) [some (.ref st), some (.tup [.str 12, .int s, .int p, .int n, .str r, srcD c]), some (.str 12), some (.int s), some (.int p), some (.int n), some (.str r), some (srcD c), some (.ref x.1), some (.ref x.2), none, none] g = .ok (.vals (rngL 0 n.toNat)) g := for_rng1 (n := n) rfl (by omega) (by omega)
  obtain ⟨e', g2, l1, l, P', y, y2, he, hf, hg2, hP, hk, hl, ql⟩ := loop_nx (gm := gN 10) (b := c_mapped_4) (lo := 0) (n := n.toNat) (e := [some (.ref st), some (.tup [.str 12, .int s, .int p, .int n, .str r, srcD c]), some (.str 12), some (.int s), some (.int p), some (.int n), some (.str r), some (srcD c), some (.ref x.1), some (.ref x.2), none, none]) (g := g)
    (fun j e g2 => ∃ (l : Nat) (P' : List (Int × Vl)) (y y2 : Option D), e = [some (.ref st), some (.tup [.str 12, .int s, .int p, .int n, .str r, srcD c]), some (.str 12), some (.int s), some (.int p), some (.int n), some (.str r), some (srcD c), some (.ref l), some (.ref x.2), y, y2] ∧ Fr g g2 ∧ g2[l]? = some (.dct false (vlE.tb P')) ∧ NdT P' ∧ (∀ q, lkT P' q = mapT S p r c j q) ∧ P'.length ≤ 8 + j ∧ Q l)
    ⟨x.1, P, none, none, rfl, Fr.refl, rr.p, rr.pn, fun q => by rw [rr.pk]; unfold mapT; rw [if_neg (by omega)], (by have := rr.lenP oS; omega), (h.qt _ _ e).1⟩ (fun j e2 g2 hj ⟨l, P', y, y2, he, hf, hg2, hP, hk, hl, ql⟩ => by
      subst he
      have hstep : ∀ q, mapT S p r c (j + 1) q = if q = p + (j : Int) then some (r, shf c (j : Int)) else mapT S p r c j q := fun q => by
        unfold mapT
        by_cases c : q = p + (j : Int)
        · rw [if_pos c, if_pos (by omega), show q - p = (j : Int) by omega]
        · rw [if_neg c]
          by_cases c2 : p ≤ q ∧ q < p + (j : Int)
          · rw [if_pos c2, if_pos (by omega)]
          · rw [if_neg c2, if_neg (by omega)]
      have en : m_with_entry [.ref l, .int (p + (j : Int)), .tup [.str r, srcD (shf c (j : Int))]] g2 = .ok (.ref g2.length) (g2 ++ [Ob.dct false (vlE.tb (putT P' (p + (j : Int)) (r, shf c (j : Int))))]) := entry_run (g := g2) (E := vlE) (l := l) (ps := P') (k := p + (j : Int)) (v := (r, shf c (j : Int))) hg2 rfl (by omega)
      refine ⟨_, [some (.ref st), some (.tup [.str 12, .int s, .int p, .int n, .str r, srcD c]), some (.str 12), some (.int s), some (.int p), some (.int n), some (.str r), some (srcD c), some (.ref g2.length), some (.ref x.2), some (.int (j : Int)), some (srcD (shf c (j : Int)))], _, rfl, ?_, g2.length, putT P' (p + (j : Int)) (r, shf c (j : Int)), _, _, rfl, hf.trans Fr.app, get_snoc', put_ndT hP, fun q => ?_, (by have := put_lenT (ps := P') (k := p + (j : Int)) (v := (r, shf c (j : Int))); omega), hQ _ hf.len⟩
      · unfold c_mapped_4 c_mapped_3 c_mapped_2
        have z0 : (0 : Int) + (j : Int) = (j : Int) := by omega
        rw [z0]
        cases c with
        | none =>
          have en' : m_with_entry [.ref l, .int (p + (j : Int)), .tup [.str r, .non]] g2 = _ := en
          have nd : nonD (srcD none) = true := rfl
          simp only [List.set, sSeq_e, sAsg_e, vC_e, sBind, sIf_e, tOf_e, vOp_e, vVar_e, List.getElem?_cons_zero, List.getElem?_cons_succ, Res.bind, notN_e, nd, Bool.not_true, oR_some, bR_bl, cond_false, sNx_e, vCall_e, aCons_e, aNil_e, addD_int, vTup_s, List.length_cons, List.length_nil, okL_s (show 0 + 1 + 1 < 1000 by decide), en']
          rfl
        | some w =>
          have en' : m_with_entry [.ref l, .int (p + (j : Int)), .tup [.str r, .tup [.int w.1, .int (w.2 + (j : Int))]]] g2 = _ := en
          have nd : nonD (srcD (some w)) = false := rfl
          have i0 : ∀ g, ixD g (srcD (some w)) (.int 0) = some (.int w.1) := fun g => by unfold srcD; rw [ixD_tup, at0]
          have i1 : ∀ g, ixD g (srcD (some w)) (.int 1) = some (.int w.2) := fun g => by unfold srcD; rw [ixD_tup, at1]
          simp only [List.set, sSeq_e, sAsg_e, vC_e, sBind, sIf_e, tOf_e, vOp_e, vVar_e, List.getElem?_cons_zero, List.getElem?_cons_succ, Res.bind, notN_e, nd, Bool.not_false, oR_some, bR_bl, cond_true, sNx_e, vCall_e, aCons_e, aNil_e, addD_int, vTup_s, List.length_cons, List.length_nil, okL_s (show 0 + 1 + 1 < 1000 by decide), i0, i1, en']
          rfl
      · rw [hstep, lkT_put]
        by_cases c : q = p + (j : Int)
        · rw [if_pos c, if_pos c]
        · rw [if_neg c, if_neg c, hk])
  subst he
  have hx : SpR g2 (l, x.2) P' C ⟨mapPg S p n r c, S.cl⟩ := ⟨hg2, hf.get rr.c, hP, rr.cn, fun q => by
    rw [hk]
    unfold mapT mapPg shf
    simp only [show ((n.toNat : Nat) : Int) = n from by omega], rr.ck⟩
  obtain ⟨st', g', sp', fl', T', b1, b2, b3⟩ := space_run (s := s) o (fun i hi => hQ i (Nat.le_trans hf.len hi)) (h.fr hf) hx ⟨ql, (h.qt _ _ e).2⟩
  refine ⟨st', g', sp', fl', T', ?_, hf.trans b2, b3⟩
  simp only [sSeq_e, t1, t2, sBind, List.set, sFor_e, im, runS, l1, sRet_e, vCall_e, aCons_e, vVar_e, List.getElem?_cons_zero, List.getElem?_cons_succ, Res.bind, aNil_e, vTup_s, List.length_cons, List.length_nil, okL_s (show 0 + 1 + 1 < 1000 by decide), b1]
  rfl
end

section
variable {Q : Nat → Prop} {g g' g1 : G} {sp fl st : Nat} {T : List (Int × Nat × Nat)} {A : AS} {x : Nat × Nat} {P : List (Int × Vl)} {C : List ((Int × Int) × Int)} {S : Sp} {F : List ((Int × Int × Int) × Int)} {s p i n : Int} {v : Vl} {r : Nat}
theorem NewSt.same (h : StR Q g st sp fl T A) : NewSt Q g A (.ok (.ref st) g) := ⟨st, g, sp, fl, T, rfl, Fr.refl, h⟩
theorem spE_key {y : Int × Nat × Nat} : spE.ek y.1 = .int y.1 := rfl
/-- an end -/
theorem gone_run (o : OkAS A) (hQ : ∀ i, g.length ≤ i → Q i) (h : StR Q g st sp fl T A) {d : D} : NewSt Q g ⟨updF A.sp s none, A.fl⟩ (m_after_space [.ref st, .tup [.str 2, .int s], d] g) := by
  have start : m_after_space [.ref st, .tup [.str 2, .int s], d] g = endM (b_after_space [some (.ref st), some (.tup [.str 2, .int s]), some d, none, none, none, none] g) := rfl
  rw [start]
  unfold b_after_space c_after_space_5 c_after_space_4
  have l8 := h.r.lenT o
  have dc := dc_run (E := spE) (l := sp) (ps := T) (g := g) (e := [some (.ref st), some (.tup [.str 2, .int s]), some d, some (.ref sp), none, none, none]) (own := [6]) (m := vVar 3) (gm := gN 6) (t := tOf (vOp neD (vVar 6) (vOp ixD (vVar 1) (vC (.int 1))))) (mk := vVar 6) (mv := vOp ixC (vVar 3) (vVar 6)) (c := fun y => !decide (y.1 = s)) h.r.t h.r.n (by omega) (fun g => rfl) (fun y hy => ⟨_, rfl, by
      show tOf (vOp neD (vVar 6) (vOp ixD (vVar 1) (vC (.int 1)))) [some (.ref st), some (.tup [.str 2, .int s]), some d, some (.ref sp), none, none, some (.int y.1)] _ = _
      simp only [tOf_e, vOp_e, vVar_e, List.getElem?_cons_zero, List.getElem?_cons_succ, Res.bind, vC_e, ixD_tup, at1, oR_some, ne_int, bR_bl]
      rfl, fun _ => ⟨rfl, by
      show vOp ixC (vVar 3) (vVar 6) [some (.ref st), some (.tup [.str 2, .int s]), some d, some (.ref sp), none, none, some (.int y.1)] _ = _
      have ix : ixC (g.set sp (.dctL spE.tk (spE.tb T))) (.ref sp) (.int y.1) = some (spE.ev y.2) := ixC_T (E := spE) (by rw [List.getElem?_set_self (List.getElem?_eq_some_iff.mp h.r.t).1]; rfl) (lkT_mem h.r.n hy)
      simp only [vOp_e, vVar_e, List.getElem?_cons_zero, List.getElem?_cons_succ, Res.bind, ix, oR_some]⟩⟩)
  have dc' : vDc false [6] (iKey (vVar 3)) (gN 6) (tOf (vOp neD (vVar 6) (vOp ixD (vVar 1) (vC (.int 1))))) (vVar 6) (vOp ixC (vVar 3) (vVar 6)) [some (.ref st), some (.tup [.str 2, .int s]), some d, some (.ref sp), none, none, none] (g.set sp (.dctL false (spE.tb T))) = _ := dc
  obtain ⟨u1, u2⟩ := unlock (E := spE) (o := Ob.dct spE.tk (spE.tb (T.filter fun y => !decide (y.1 = s)))) h.r.t
  have h2 := h.fr (Fr.app (os := [Ob.dct spE.tk (spE.tb (T.filter fun y => !decide (y.1 = s)))]))
  have h3 := h2.fr (Fr.app (os := [Ob.dct false []]))
  have lock : sLock (pkOf (vVar 3)) (sAsg 4 (vDc false [6] (iKey (vVar 3)) (gN 6) (tOf (vOp neD (vVar 6) (vOp ixD (vVar 1) (vC (.int 1))))) (vVar 6) (vOp ixC (vVar 3) (vVar 6)))) [some (.ref st), some (.tup [.str 2, .int s]), some d, some (.ref sp), none, none, none] g = .nx [some (.ref st), some (.tup [.str 2, .int s]), some d, some (.ref sp), some (.ref g.length), none, none] (g ++ [Ob.dct spE.tk (spE.tb (T.filter fun y => !decide (y.1 = s)))]) := by
    have pk : pkOf (vVar 3) [some (.ref st), some (.tup [.str 2, .int s]), some d, some (.ref sp), none, none, none] g = some sp := rfl
    unfold sLock
    simp only [pk, h.r.t, sAsg_e, dc', sBind, List.set]
    unfold freeS
    simp only [u1, u2]
  have hp : (pCons (vC (.str 14)) (vVar 4) (pCons (vC (.str 13)) (vOp ixC (vVar 0) (vC (.str 13))) pNil)) [some (.ref st), some (.tup [.str 2, .int s]), some d, some (.ref sp), some (.ref g.length), none, none] ((g ++ [Ob.dct spE.tk (spE.tb (T.filter fun y => !decide (y.1 = s)))]) ++ [Ob.dct false []]) = .ok [(.str 14, .ref g.length), (.str 13, .ref fl)] ((g ++ [Ob.dct spE.tk (spE.tb (T.filter fun y => !decide (y.1 = s)))]) ++ [Ob.dct false []]) := by
    simp only [pCons, pNil]
    simp only [vC_e, Res.bind, vOp_e, vVar_e, List.getElem?_cons_zero, List.getElem?_cons_succ, h3.ifl, oR_some]
  obtain ⟨a1, a2, a3⟩ := disp2 hp Fr.refl
  simp only [sSeq_e, sIf_e, tOf_e, vOp_e, vVar_e, List.getElem?_cons_zero, List.getElem?_cons_succ, Res.bind, vC_e, ixD_tup, at0, eq_str, oR_some, bR_bl, sBind, show (2 == 2) = true from rfl, cond_true, sAsg_e, h.isp, List.set, lock, sRet_e, a1]
  exact ⟨_, _, _, _, _, rfl, Fr.app.trans a2, a3, h.r.del (Fr.app.trans a2) (a2.get get_snoc'), ⟨hQ _ (by simp), hQ _ (Nat.le_refl _), h.q.2.2⟩, fun t y e => by
    have e : lkT (delT T s) t = some y := e
    rw [lkT_del] at e
    split at e
    · cases e
    · exact h.qt t y e⟩
theorem begin_run (o : OkAS A) (hQ : ∀ i, g.length ≤ i → Q i) (h : StR Q g st sp fl T A) : NewSt Q g ⟨updF A.sp s (some nilSp), A.fl⟩ (m_after_space [.ref st, .tup [.str 9], .int s] g) := by
  have start : m_after_space [.ref st, .tup [.str 9], .int s] g = endM (b_after_space [some (.ref st), some (.tup [.str 9]), some (.int s), none, none, none, none] g) := rfl
  rw [start]
  unfold b_after_space c_after_space_3 c_after_space_2 c_after_space_1
  have hx : SpR ((g ++ [Ob.dct false []]) ++ [Ob.dct true []]) (g.length, (g ++ [Ob.dct false []]).length) [] [] nilSp := ⟨Fr.app.get get_snoc', get_snoc', List.nodup_nil, List.nodup_nil, fun q => rfl, fun q => rfl⟩
  have tp : vTup (aCons (vDct0 false) (aCons (vDct0 true) aNil)) [some (.ref st), some (.tup [.str 9]), some (.int s), none, none, none, none] g = .ok (.tup [.ref g.length, .ref (g ++ [Ob.dct false []]).length]) ((g ++ [Ob.dct false []]) ++ [Ob.dct true []]) := rfl
  obtain ⟨st', g', sp', fl', T', b1, b2, b3⟩ := space_run (s := s) o (fun i hi => hQ i (by simp at hi; omega)) (h.fr (Fr.app.trans Fr.app)) hx ⟨hQ _ (Nat.le_refl _), hQ _ (by simp)⟩
  refine ⟨st', g', sp', fl', T', ?_, (Fr.app.trans Fr.app).trans b2, b3⟩
  simp only [sSeq_e, sIf_e, tOf_e, vOp_e, vVar_e, List.getElem?_cons_zero, List.getElem?_cons_succ, Res.bind, vC_e, ixD_tup, at0, eq_str, oR_some, bR_bl, sBind, show (9 == 2) = false from rfl, show (9 == 6) = false from rfl, cond_false, sNx_e, sAsg_e, tp, List.set, sRet_e, vCall_e, aCons_e, aNil_e, b1, endM_rt]
theorem fork_run (o : OkAS A) (hQ : ∀ i, g.length ≤ i → Q i) (h : StR Q g st sp fl T A) (hS : A.sp s = some S) : NewSt Q g ⟨updF A.sp p (some S), A.fl⟩ (m_after_space [.ref st, .tup [.str 6, .int s], .int p] g) := by
  obtain ⟨x, P, C, e, rr⟩ := h.r.of hS
  have start : m_after_space [.ref st, .tup [.str 6, .int s], .int p] g = endM (b_after_space [some (.ref st), some (.tup [.str 6, .int s]), some (.int p), none, none, none, none] g) := rfl
  rw [start]
  unfold b_after_space c_after_space_3 c_after_space_2 c_after_space_1
  have f : Fr g ((g ++ [Ob.dct false []]) ++ [Ob.dct true []]) := Fr.app.trans Fr.app
  have h2 := h.fr f
  have tp : vTup (aCons (vDct0 false) (aCons (vDct0 true) aNil)) [some (.ref st), some (.tup [.str 6, .int s]), some (.int p), none, none, none, none] g = .ok (.tup [.ref g.length, .ref (g ++ [Ob.dct false []]).length]) ((g ++ [Ob.dct false []]) ++ [Ob.dct true []]) := rfl
  obtain ⟨st', g', sp', fl', T', b1, b2, b3⟩ := space_run (s := p) o (fun i hi => hQ i (Nat.le_trans f.len hi)) h2 (rr.fr f) (h.qt _ _ e)
  refine ⟨st', g', sp', fl', T', ?_, f.trans b2, b3⟩
  simp only [sSeq_e, sIf_e, tOf_e, vOp_e, vVar_e, List.getElem?_cons_zero, List.getElem?_cons_succ, Res.bind, vC_e, ixD_tup, at0, at1, eq_str, oR_some, bR_bl, sBind, show (6 == 2) = false from rfl, show (6 == 6) = true from rfl, cond_false, cond_true, sNx_e, sAsg_e, tp, List.set, h2.isp, ix_sp h2.r e, sRet_e, vCall_e, aCons_e, aNil_e, b1, endM_rt]
/-- the state behind a call -/
theorem after_run (o : OkAS A) (hQ : ∀ i, g.length ≤ i → Q i) (h : StR Q g st sp fl T A) {c : Cl} (hc : c.ok) : NewSt Q g (aftA A c) (m_after_call [.ref st, .tup c.d] g) := by
  have start : m_after_call [.ref st, .tup c.d] g = endM (b_after_call [some (.ref st), some (.tup c.d), none, none, none] g) := rfl
  have an := answer_run o h hc
  have t1 : sTgt (vCall m_answer_of (aCons (vVar 0) (aCons (vVar 1) aNil))) (gT 2 (gsC (gN 2) (gsC (gN 3) gsN))) [some (.ref st), some (.tup c.d), none, none, none] g = .nx [some (.ref st), some (.tup c.d), some (.str (ansA A c).1), some (ansA A c).2, none] g := by
    unfold sTgt
    simp only [vCall_e, aCons_e, vVar_e, List.getElem?_cons_zero, List.getElem?_cons_succ, Res.bind, aNil_e, an, sBind]
    rfl
  have kd : ∃ w r, c.d = .str w :: r := by cases c <;> exact ⟨_, _, rfl⟩
  obtain ⟨w, rs, hw⟩ := kd
  have kd1 : ixD g (.tup c.d) (.int 0) = some (.str w) := by rw [hw, ixD_tup, at0]
  have key : m_after_call [.ref st, .tup c.d] g = endM (c_after_call_6 [some (.ref st), some (.tup c.d), some (.str (ansA A c).1), some (ansA A c).2, some (.str w)] g) := by
    rw [start]
    unfold b_after_call c_after_call_7
    simp only [sSeq_e, t1, sAsg_e, vOp_e, vVar_e, List.getElem?_cons_zero, List.getElem?_cons_succ, Res.bind, vC_e, kd1, oR_some, sBind, List.set]
  have t2 : ∀ e g a b, vTup (aCons (vC (.str a)) (aCons (vC (.str b)) aNil)) e g = .ok (.tup [.str a, .str b]) g := fun _ _ _ _ => rfl
  have t3 : ∀ e g a b c, vTup (aCons (vC (.str a)) (aCons (vC (.str b)) (aCons (vC (.str c)) aNil))) e g = .ok (.tup [.str a, .str b, .str c]) g := fun _ _ _ _ _ => rfl
  have bad : (ansA A c).1 ≠ 15 → m_after_call [.ref st, .tup c.d] g = .ok (.ref st) g := fun hb => by
    rw [key]
    have e1 : ((ansA A c).1 == 15) = false := by simpa using hb
    unfold c_after_call_6
    simp only [sSeq_e, sIf_e, tOr_e, tOf_e, vOp_e, vVar_e, List.getElem?_cons_zero, List.getElem?_cons_succ, Res.bind, vC_e, ne_str, e1, Bool.not_false, oR_some, bR_bl, cond_true, sBind, sRet_e, endM_rt]
  have good : ∀ {k : Nat}, (ansA A c).1 = 15 → w = k → m_after_call [.ref st, .tup c.d] g = endM ((sSeq (sIf (tOf (vOp (inD false) (vVar 4) (vTup (aCons (vC (.str 10)) (aCons (vC (.str 11)) aNil))))) (sRet (vVar 0)) sNx) c_after_call_5) [some (.ref st), some (.tup c.d), some (.str 15), some (ansA A c).2, some (.str k)] g) := fun hb hk => by
    rw [key, hb, hk]
    unfold c_after_call_6
    simp only [sSeq_e, sIf_e, tOr_e, tOf_e, vOp_e, vVar_e, List.getElem?_cons_zero, List.getElem?_cons_succ, Res.bind, vC_e, ne_str, beq_self_eq_true, Bool.not_true, oR_some, bR_bl, cond_false, sBind, sRet_e, endM_rt]
  cases c with
  | evict =>
    have e0 : w = 10 := by cases hw; rfl
    rw [good rfl e0]
    refine NewSt.same h |> fun z => ?_
    have : endM ((sSeq (sIf (tOf (vOp (inD false) (vVar 4) (vTup (aCons (vC (.str 10)) (aCons (vC (.str 11)) aNil))))) (sRet (vVar 0)) sNx) c_after_call_5) [some (.ref st), some (.tup Cl.evict.d), some (.str 15), some (ansA A .evict).2, some (.str 10)] g) = .ok (.ref st) g := rfl
    rw [this]
    exact z
  | sync f =>
    have e0 : w = 11 := by cases hw; rfl
    rw [good rfl e0]
    have : endM ((sSeq (sIf (tOf (vOp (inD false) (vVar 4) (vTup (aCons (vC (.str 10)) (aCons (vC (.str 11)) aNil))))) (sRet (vVar 0)) sNx) c_after_call_5) [some (.ref st), some (.tup (Cl.sync f).d), some (.str 15), some (ansA A (.sync f)).2, some (.str 11)] g) = .ok (.ref st) g := rfl
    rw [this]
    exact NewSt.same h
  | load s p i =>
    have e0 : w = 3 := by cases hw; rfl
    by_cases hb : (ansA A (.load s p i)).1 = 15
    · rw [good hb e0]
      have : endM ((sSeq (sIf (tOf (vOp (inD false) (vVar 4) (vTup (aCons (vC (.str 10)) (aCons (vC (.str 11)) aNil))))) (sRet (vVar 0)) sNx) c_after_call_5) [some (.ref st), some (.tup (Cl.load s p i).d), some (.str 15), some (ansA A (.load s p i)).2, some (.str 3)] g) = .ok (.ref st) g := rfl
      rw [this]
      exact NewSt.same h
    · rw [bad hb]
      exact NewSt.same h
  | store s p i a =>
    have e0 : w = 7 := by cases hw; rfl
    have e2 : aftA A (.store s p i a) = (match useA A s p false with
      | .inl w => A
      | .inr (S, v) => putA A s S v p i a) := rfl
    have e3 : (ansA A (.store s p i a)).1 = (match useA A s p false with
      | .inl w => w
      | .inr (S, v) => 15) := by unfold ansA; simp only; cases useA A s p false <;> rfl
    rw [e2]
    cases z : useA A s p false with
    | inl w =>
      rw [z] at e3
      rw [bad (by rw [e3]; rcases useA_l z with rfl | rfl <;> decide)]
      exact NewSt.same h
    | inr y =>
      obtain ⟨S, v⟩ := y
      obtain ⟨hS, hv, _⟩ := useA_r z
      rw [z] at e3
      rw [good e3 e0]
      obtain ⟨st', g', sp', fl', T', b1, b2, b3⟩ := cellput_run (i := i) (a := a) o hQ h hS hv (by have := hc.2.2; omega)
      refine ⟨st', g', sp', fl', T', ?_, b2, b3⟩
      have au : m_after_use [.ref st, .tup (Cl.store s p i a).d] g = .ok (.ref st') g' := by
        have start : m_after_use [.ref st, .tup (Cl.store s p i a).d] g = endM (b_after_use [some (.ref st), some (.tup (Cl.store s p i a).d)] g) := rfl
        rw [start]
        unfold b_after_use Cl.d
        simp only [sSeq_e, sIf_e, tOf_e, vOp_e, vVar_e, List.getElem?_cons_zero, List.getElem?_cons_succ, Res.bind, vC_e, ixD_tup, at0, at1, at2, at3, at4, eq_str, oR_some, bR_bl, sBind, show (7 == 7) = true from rfl, cond_true, sRet_e, vCall_e, aCons_e, aNil_e, b1, endM_rt]
      unfold c_after_call_5
      simp only [sSeq_e, sIf_e, tOf_e, vOp_e, vVar_e, List.getElem?_cons_zero, List.getElem?_cons_succ, Res.bind, t2, t3, in_str2, in_str3, oR_some, bR_bl, sBind, show (10 == 7 || 11 == 7) = false from rfl, show (3 == 7 || (7 == 7 || 8 == 7)) = true from rfl, cond_false, cond_true, sNx_e, sRet_e, vCall_e, aCons_e, aNil_e, au, endM_rt]
  | change s p i a b =>
    have e0 : w = 8 := by cases hw; rfl
    have e2 : aftA A (.change s p i a b) = (match useA A s p false with
      | .inl w => A
      | .inr (S, v) => bif cellA A S v p i == a then putA A s S v p i b else A) := rfl
    have e3 : (ansA A (.change s p i a b)).1 = (match useA A s p false with
      | .inl w => w
      | .inr (S, v) => 15) := by unfold ansA; simp only; cases useA A s p false <;> rfl
    rw [e2]
    cases z : useA A s p false with
    | inl w =>
      rw [z] at e3
      rw [bad (by rw [e3]; rcases useA_l z with rfl | rfl <;> decide)]
      exact NewSt.same h
    | inr y =>
      obtain ⟨S, v⟩ := y
      obtain ⟨hS, hv, _⟩ := useA_r z
      rw [z] at e3
      rw [good e3 e0]
      have cr := cell_run (i := i) h hS hv
      simp only
      have au : NewSt Q g (bif cellA A S v p i == a then putA A s S v p i b else A) (m_after_use [.ref st, .tup (Cl.change s p i a b).d] g) := by
        have start : m_after_use [.ref st, .tup (Cl.change s p i a b).d] g = endM (b_after_use [some (.ref st), some (.tup (Cl.change s p i a b).d)] g) := rfl
        rw [start]
        unfold b_after_use Cl.d c_after_use_2 c_after_use_1
        simp only [sSeq_e, sIf_e, tAnd_e, tOf_e, vOp_e, vVar_e, List.getElem?_cons_zero, List.getElem?_cons_succ, Res.bind, vC_e, ixD_tup, at0, at1, at2, at3, at4, eq_str, eq_int, oR_some, bR_bl, sBind, show (8 == 7) = false from rfl, show (8 == 8) = true from rfl, cond_false, cond_true, sNx_e, sRet_e, vCall_e, aCons_e, aNil_e, cr]
        cases hz : cellA A S v p i == a with
        | false => exact NewSt.same h
        | true =>
          obtain ⟨st', g', sp', fl', T', b1, b2, b3⟩ := cellput_run (i := i) (a := b) o hQ h hS hv (by have := hc.2.2.2.2; omega)
          refine ⟨st', g', sp', fl', T', ?_, b2, b3⟩
          have a5 : atI [D.str 8, .int s, .int p, .int i, .int a, .int b] 5 = some (.int b) := rfl
          simp only [cond_true, a5, oR_some, Res.bind, b1, endM_rt]
      obtain ⟨st', g', sp', fl', T', b1, b2, b3⟩ := au
      refine ⟨st', g', sp', fl', T', ?_, b2, b3⟩
      unfold c_after_call_5
      simp only [sSeq_e, sIf_e, tOf_e, vOp_e, vVar_e, List.getElem?_cons_zero, List.getElem?_cons_succ, Res.bind, t2, t3, in_str2, in_str3, oR_some, bR_bl, sBind, show (10 == 8 || 11 == 8) = false from rfl, show (3 == 8 || (7 == 8 || 8 == 8)) = true from rfl, cond_false, cond_true, sNx_e, sRet_e, vCall_e, aCons_e, aNil_e, b1, endM_rt]
  | map s p n r q =>
    have e0 : w = 12 := by cases hw; rfl
    cases z : A.sp s with
    | none =>
      have e2 : aftA A (.map s p n r q) = A := by unfold aftA; simp only [z]
      rw [bad (by unfold ansA; simp only [z]; decide), e2]
      exact NewSt.same h
    | some S =>
      cases z2 : hasP S p n.toNat with
      | true =>
        have e2 : aftA A (.map s p n r q) = A := by unfold aftA; simp only [z, z2, cond_true]
        rw [bad (by unfold ansA; simp only [z, z2, cond_true]; decide), e2]
        exact NewSt.same h
      | false =>
        have e2 : aftA A (.map s p n r q) = ⟨updF A.sp s (some ⟨mapPg S p n r q, S.cl⟩), A.fl⟩ := by unfold aftA; simp only [z, z2, cond_false]
        rw [good (by unfold ansA; simp only [z, z2, cond_false]) e0, e2]
        obtain ⟨st', g', sp', fl', T', b1, b2, b3⟩ := map_run (r := r) (c := q) o hQ h z hc.2.1
        refine ⟨st', g', sp', fl', T', ?_, b2, b3⟩
        have b1' : m_mapped [.ref st, .tup (Cl.map s p n r q).d] g = .ok (.ref st') g' := b1
        unfold c_after_call_5 c_after_call_4
        simp only [sSeq_e, sIf_e, tOf_e, vOp_e, vVar_e, List.getElem?_cons_zero, List.getElem?_cons_succ, Res.bind, vC_e, t2, t3, in_str2, in_str3, eq_str, oR_some, bR_bl, sBind, show (10 == 12 || 11 == 12) = false from rfl, show (3 == 12 || (7 == 12 || 8 == 12)) = false from rfl, show (12 == 12) = true from rfl, cond_false, cond_true, sNx_e, sRet_e, vCall_e, aCons_e, aNil_e, b1', endM_rt]
  | unmap s p n =>
    have e0 : w = 5 := by cases hw; rfl
    cases z : A.sp s with
    | none =>
      have e2 : aftA A (.unmap s p n) = A := by unfold aftA; simp only [z]
      rw [bad (by unfold ansA; simp only [z]; decide), e2]
      exact NewSt.same h
    | some S =>
      have e2 : aftA A (.unmap s p n) = ⟨updF A.sp s (some (cutSp S p n)), A.fl⟩ := by unfold aftA; simp only [z]
      rw [good (by unfold ansA; simp only [z]) e0, e2]
      obtain ⟨st', g', sp', fl', T', b1, b2, b3⟩ := unmap_run (p := p) (n := n) o hQ h z
      refine ⟨st', g', sp', fl', T', ?_, b2, b3⟩
      have b1' : m_unmapped [.ref st, .tup (Cl.unmap s p n).d] g = .ok (.ref st') g' := b1
      unfold c_after_call_5 c_after_call_4 c_after_call_3
      simp only [sSeq_e, sIf_e, tOf_e, vOp_e, vVar_e, List.getElem?_cons_zero, List.getElem?_cons_succ, Res.bind, vC_e, t2, t3, in_str2, in_str3, eq_str, oR_some, bR_bl, sBind, show (10 == 5 || 11 == 5) = false from rfl, show (3 == 5 || (7 == 5 || 8 == 5)) = false from rfl, show (5 == 12) = false from rfl, show (5 == 5) = true from rfl, cond_false, cond_true, sNx_e, sRet_e, vCall_e, aCons_e, aNil_e, b1', endM_rt]
  | protect s p n r =>
    have e0 : w = 4 := by cases hw; rfl
    cases z : A.sp s with
    | none =>
      have e2 : aftA A (.protect s p n r) = A := by unfold aftA; simp only [z]
      rw [bad (by unfold ansA; simp only [z]; decide), e2]
      exact NewSt.same h
    | some S =>
      have e2 : aftA A (.protect s p n r) = ⟨updF A.sp s (some ⟨proPg S p n r, S.cl⟩), A.fl⟩ := by unfold aftA; simp only [z]
      rw [good (by unfold ansA; simp only [z]) e0, e2]
      obtain ⟨st', g', sp', fl', T', b1, b2, b3⟩ := protect_run (r := r) o hQ h z hc.2.1
      refine ⟨st', g', sp', fl', T', ?_, b2, b3⟩
      have b1' : m_protected [.ref st, .tup (Cl.protect s p n r).d] g = .ok (.ref st') g' := b1
      unfold c_after_call_5 c_after_call_4 c_after_call_3 c_after_call_2
      simp only [sSeq_e, sIf_e, tOf_e, vOp_e, vVar_e, List.getElem?_cons_zero, List.getElem?_cons_succ, Res.bind, vC_e, t2, t3, in_str2, in_str3, eq_str, oR_some, bR_bl, sBind, show (10 == 4 || 11 == 4) = false from rfl, show (3 == 4 || (7 == 4 || 8 == 4)) = false from rfl, show (4 == 12) = false from rfl, show (4 == 5) = false from rfl, show (4 == 4) = true from rfl, cond_false, cond_true, sNx_e, sRet_e, vCall_e, aCons_e, aNil_e, b1', endM_rt]
  | end_ s =>
    have e0 : w = 2 := by cases hw; rfl
    cases z : A.sp s with
    | none =>
      have e2 : aftA A (.end_ s) = A := by unfold aftA; simp only [z]
      rw [bad (by unfold ansA; simp only [z]; decide), e2]
      exact NewSt.same h
    | some S =>
      have e2 : aftA A (.end_ s) = ⟨updF A.sp s none, A.fl⟩ := by unfold aftA; simp only [z]
      rw [good (by unfold ansA; simp only [z]) e0, e2]
      obtain ⟨st', g', sp', fl', T', b1, b2, b3⟩ := gone_run (s := s) (d := (ansA A (.end_ s)).2) o hQ h
      refine ⟨st', g', sp', fl', T', ?_, b2, b3⟩
      have b1' : m_after_space [.ref st, .tup (Cl.end_ s).d, (ansA A (.end_ s)).2] g = .ok (.ref st') g' := b1
      unfold c_after_call_5 c_after_call_4 c_after_call_3 c_after_call_2 c_after_call_1
      simp only [sSeq_e, sIf_e, tOf_e, vOp_e, vVar_e, List.getElem?_cons_zero, List.getElem?_cons_succ, Res.bind, vC_e, t2, t3, in_str2, in_str3, eq_str, oR_some, bR_bl, sBind, show (10 == 2 || 11 == 2) = false from rfl, show (3 == 2 || (7 == 2 || 8 == 2)) = false from rfl, show (2 == 12) = false from rfl, show (2 == 5) = false from rfl, show (2 == 4) = false from rfl, cond_false, cond_true, sNx_e, sRet_e, vCall_e, aCons_e, aNil_e, b1', endM_rt]
  | fork s =>
    have e0 : w = 6 := by cases hw; rfl
    cases z : A.sp s with
    | none =>
      have e2 : aftA A (.fork s) = A := by unfold aftA; simp only [z]
      rw [bad (by unfold ansA; simp only [z]; decide), e2]
      exact NewSt.same h
    | some S =>
      cases z2 : freshA A with
      | none =>
        have e2 : aftA A (.fork s) = A := by unfold aftA; simp only [z, z2]
        rw [bad (by unfold ansA; simp only [z, z2]; decide), e2]
        exact NewSt.same h
      | some x =>
        have e2 : aftA A (.fork s) = ⟨updF A.sp x (some S), A.fl⟩ := by unfold aftA; simp only [z, z2]
        have e4 : ansA A (.fork s) = (15, .int x) := by unfold ansA; simp only [z, z2]
        rw [good (by rw [e4]) e0, e2, e4]
        obtain ⟨st', g', sp', fl', T', b1, b2, b3⟩ := fork_run (p := x) o hQ h z
        refine ⟨st', g', sp', fl', T', ?_, b2, b3⟩
        have b1' : m_after_space [.ref st, .tup (Cl.fork s).d, .int x] g = .ok (.ref st') g' := b1
        unfold c_after_call_5 c_after_call_4 c_after_call_3 c_after_call_2 c_after_call_1
        simp only [sSeq_e, sIf_e, tOf_e, vOp_e, vVar_e, List.getElem?_cons_zero, List.getElem?_cons_succ, Res.bind, vC_e, t2, t3, in_str2, in_str3, eq_str, oR_some, bR_bl, sBind, show (10 == 6 || 11 == 6) = false from rfl, show (3 == 6 || (7 == 6 || 8 == 6)) = false from rfl, show (6 == 12) = false from rfl, show (6 == 5) = false from rfl, show (6 == 4) = false from rfl, cond_false, cond_true, sNx_e, sRet_e, vCall_e, aCons_e, aNil_e, b1', endM_rt]
  | begin =>
    have e0 : w = 9 := by cases hw; rfl
    cases z2 : freshA A with
    | none =>
      have e2 : aftA A .begin = A := by unfold aftA; simp only [z2]
      rw [bad (by unfold ansA; simp only [z2]; decide), e2]
      exact NewSt.same h
    | some x =>
      have e2 : aftA A .begin = ⟨updF A.sp x (some nilSp), A.fl⟩ := by unfold aftA; simp only [z2]
      have e4 : ansA A .begin = (15, .int x) := by unfold ansA; simp only [z2]
      rw [good (by rw [e4]) e0, e2, e4]
      obtain ⟨st', g', sp', fl', T', b1, b2, b3⟩ := begin_run (s := x) o hQ h
      refine ⟨st', g', sp', fl', T', ?_, b2, b3⟩
      have b1' : m_after_space [.ref st, .tup Cl.begin.d, .int x] g = .ok (.ref st') g' := b1
      unfold c_after_call_5 c_after_call_4 c_after_call_3 c_after_call_2 c_after_call_1
      simp only [sSeq_e, sIf_e, tOf_e, vOp_e, vVar_e, List.getElem?_cons_zero, List.getElem?_cons_succ, Res.bind, vC_e, t2, t3, in_str2, in_str3, eq_str, oR_some, bR_bl, sBind, show (10 == 9 || 11 == 9) = false from rfl, show (3 == 9 || (7 == 9 || 8 == 9)) = false from rfl, show (9 == 12) = false from rfl, show (9 == 5) = false from rfl, show (9 == 4) = false from rfl, cond_false, cond_true, sNx_e, sRet_e, vCall_e, aCons_e, aNil_e, b1', endM_rt]
end

/-! ### what the law shows -/
theorem setback {g : G} {l : Nat} {o o' : Ob} (h : g[l]? = some o) : (g.set l o').set l o = g := by
  have ll := (List.getElem?_eq_some_iff.mp h).1
  have e1 : g[l] = o := (List.getElem?_eq_some_iff.mp h).2
  rw [List.set_set, ← e1, List.set_getElem_self ll]
section
variable {κ ν : Type} [DecidableEq κ] {E : Enc κ ν} {g : G} {l : Nat} {ps : List (κ × ν)} {e : En} {own : List Nat} {m mk mv : EM} {gm : GM} {t : TM} {c : κ × ν → Bool}
theorem lockls_run (h : g[l]? = some (.dct E.tk (E.tb ps))) (hl : ps.length < 1000) (hm : ∀ g, m e g = .ok (.ref l) g)
    (hx : ∀ x ∈ ps, ∃ e', gm (E.ek x.1) (g.set l (.dctL E.tk (E.tb ps))) (wipeE e own) = some e' ∧ t e' (g.set l (.dctL E.tk (E.tb ps))) = .ok (c x) (g.set l (.dctL E.tk (E.tb ps))) ∧ (c x = true → mk e' (g.set l (.dctL E.tk (E.tb ps))) = .ok (.tup [E.ek x.1, E.ev x.2]) (g.set l (.dctL E.tk (E.tb ps))))) :
    vLock (pkOf m) (vLc own (iKey m) gm t mk) e g = .ok (.lst ((ps.filter c).map fun x => .tup [E.ek x.1, E.ev x.2])) g := by
  have ll := (List.getElem?_eq_some_iff.mp h).1
  have hgl : (g.set l (.dctL E.tk (E.tb ps)))[l]? = some (.dctL E.tk (E.tb ps)) := List.getElem?_set_self ll
  have im : iKey m e (g.set l (.dctL E.tk (E.tb ps))) = .ok (.vals (ps.map fun p => E.ek p.1)) (g.set l (.dctL E.tk (E.tb ps))) := by
    unfold iKey
    simp only [hm, Res.bind, hgl]
    simp [Enc.tb, Function.comp_def]
  have d := lcR_pure (s := .vals (ps.map fun p => E.ek p.1)) (fun p : κ × ν => E.ek p.1) c (fun x => .tup [E.ek x.1, E.ev x.2]) ps rfl (okL_s hl) hx
  have pk : pkOf m e g = some l := by unfold pkOf; rw [hm]
  unfold vLock
  simp only [pk, h, vLc_e, im, Res.bind, d, noX_ok, hgl, setback h]
theorem prsT_T : ∀ (ps : List (κ × ν)), E.tk = true → prsT (ps.map fun x => .tup [E.ek x.1, E.ev x.2]) = some (E.tb ps)
  | [], _ => rfl
  | x :: ps, h => by
    have k := E.key x.1
    rw [h] at k
    rw [List.map_cons]
    unfold prsT
    simp only [k, prsT_T ps h]
    rfl
theorem dctT_run {a : EM} (hn : NdT ps) (ht : E.tk = true) (ha : a e g = .ok (.lst (ps.map fun x => .tup [E.ek x.1, E.ev x.2])) g) : vDctT (aCons a aNil) e g = .ok (.ref g.length) (g ++ [.dct E.tk (E.tb ps)]) := by
  have mg := merge_T E ps [] (by simpa using hn)
  rw [List.nil_append] at mg
  have mg' : mergep [] (E.tb ps) = E.tb ps := mg
  unfold vDctT
  simp only [aCons_e, ha, Res.bind, aNil_e, lsD_lst, prsT_T ps ht, mg', ht]
end
section
variable {Q : Nat → Prop} {g g' g1 : G} {sp fl st : Nat} {T : List (Int × Nat × Nat)} {A : AS} {x : Nat × Nat} {P : List (Int × Vl)} {C : List ((Int × Int) × Int)} {S : Sp} {F : List ((Int × Int × Int) × Int)} {s p i n : Int} {v : Vl} {r : Nat}
theorem Rep.ne (h : Rep g sp fl T A) (e : lkT T s = some x) : x.1 ≠ sp ∧ x.2 ≠ sp := by
  obtain ⟨P, C, S, _, r⟩ := h.s s x e
  constructor
  · intro c
    have := r.p
    rw [c, h.t] at this
    cases T with
    | nil => cases e
    | cons y T =>
      cases P with
      | nil => injection this with this; injection this with _ this; cases this
      | cons z P =>
        injection this with this
        injection this with _ this
        rw [tb_cons, tb_cons] at this
        injection this with this _
        injection this with _ this
        injection this with this
        injection this with this _
        cases this
  · intro c
    have := r.c
    rw [c, h.t] at this
    injection this with this
    injection this with this _
    cases this
theorem Rep.nf (h : Rep g sp fl T A) : fl ≠ sp := by
  intro c
  obtain ⟨F, f, _⟩ := h.f
  rw [c, h.t] at f
  injection f with this
  injection this with this _
  cases this
def lpD (sp fl : Nat) : D := .lst [.ref sp, .ref fl]
theorem lp0 : ixD g (lpD sp fl) (.int 0) = some (.ref sp) := by
  unfold lpD ixD itD
  simp [at0]
theorem lp1 : ixD g (lpD sp fl) (.int 1) = some (.ref fl) := by
  unfold lpD ixD itD
  simp [at1]
theorem nzf {k : Int × Int} {a : Int} (hc : ∀ k, lkT C k = nz (S.cl k)) (hn : NdT C) (hm : (k, a) ∈ C) : a ≠ 0 := by
  have := lkT_mem hn hm
  simp only at this
  rw [hc] at this
  have z := nz_some this
  rw [z.2]
  exact z.1
theorem flt_all {α : Type} {c : α → Bool} {l : List α} (h : ∀ x ∈ l, c x = true) : l.filter c = l := List.filter_eq_self.mpr h
def shE (lp : Option D) (L : Nat) (y2 y3 y4 y5 y6 : Option D) : En := [lp, some (.ref L), y2, y3, y4, y5, y6]
theorem shows_body (oS : OkSp S) {gl : G} (hsp : (gl[sp]?).bind prsO = some (false, spE.tb T)) (e : lkT T s = some x) (rr : SpR gl x P C S) {N : List (Int × Nat × Nat)} {L : Nat} (hL : gl[L]? = some (.dct false (spE.tb N))) (hl : N.length < 500) {y3 y4 y6 : Option D} :
    c__law_shows_3 (shE (some (lpD sp fl)) L (some (.int s)) y3 y4 none y6) gl = .nx (shE (some (lpD sp fl)) L (some (.int s)) (some (.ref x.1)) (some (.ref x.2)) none y6) (((gl ++ [Ob.dct false (vlE.tb P)]) ++ [Ob.dct true (ceE.tb C)]).set L (.dct false (spE.tb (putT N s (gl.length, gl.length + 1))))) := by
  have ix : ixC gl (.ref sp) (.int s) = some (.tup [.ref x.1, .ref x.2]) := ixC_T (E := spE) hsp e
  have t1 : sTgt (vOp ixC (vOp ixD (vVar 0) (vC (.int 0))) (vVar 2)) (gT 2 (gsC (gN 3) (gsC (gN 4) gsN))) (shE (some (lpD sp fl)) L (some (.int s)) y3 y4 none y6) gl = .nx (shE (some (lpD sp fl)) L (some (.int s)) (some (.ref x.1)) (some (.ref x.2)) none y6) gl := by
    unfold sTgt shE
    simp only [vOp_e, vVar_e, List.getElem?_cons_zero, List.getElem?_cons_succ, Res.bind, vC_e, lp0, oR_some, ix, sBind]
    rfl
  have cp := copy_T (E := vlE) (m := vVar 3) (e := shE (some (lpD sp fl)) L (some (.int s)) (some (.ref x.1)) (some (.ref x.2)) none y6) (g := gl) (l := x.1) (ps := P) rfl rr.p rfl
  have rc : (gl ++ [Ob.dct false (vlE.tb P)])[x.2]? = some (.dct true (ceE.tb C)) := Fr.app.get rr.c
  have lk := lockls_run (E := ceE) (g := gl ++ [Ob.dct false (vlE.tb P)]) (l := x.2) (ps := C) (e := shE (some (lpD sp fl)) L (some (.int s)) (some (.ref x.1)) (some (.ref x.2)) none y6) (own := [6]) (m := vVar 4) (gm := gN 6) (t := tOf (vOp neD (vOp ixC (vVar 4) (vVar 6)) (vC (.int 0)))) (mk := vTup (aCons (vVar 6) (aCons (vOp ixC (vVar 4) (vVar 6)) aNil))) (c := fun y => !(y.2 == 0)) rc (by have := rr.lenC oS; omega) (fun g => rfl) (fun y hy => by
    have ix := ix_ce (g := (gl ++ [Ob.dct false (vlE.tb P)]).set x.2 (.dctL ceE.tk (ceE.tb C))) (l := x.2) (C := C) (by rw [List.getElem?_set_self (List.getElem?_eq_some_iff.mp rc).1]; rfl) (lkT_mem rr.cn hy)
    have ix' : ixC ((gl ++ [Ob.dct false (vlE.tb P)]).set x.2 (.dctL ceE.tk (ceE.tb C))) (.ref x.2) (ceE.ek y.1) = some (.int y.2) := ix
    refine ⟨shE (some (lpD sp fl)) L (some (.int s)) (some (.ref x.1)) (some (.ref x.2)) none (some (ceE.ek y.1)), rfl, ?_, fun _ => ?_⟩
    · unfold shE
      simp only [tOf_e, vOp_e, vVar_e, List.getElem?_cons_zero, List.getElem?_cons_succ, Res.bind, ix', oR_some, vC_e, ne_int, bR_bl]
    · unfold shE
      simp only [vTup_s, aCons_e, vOp_e, vVar_e, List.getElem?_cons_zero, List.getElem?_cons_succ, Res.bind, ix', oR_some, aNil_e, List.length_cons, List.length_nil, okL_s (show 0 + 1 + 1 < 1000 by decide)]
      rfl)
  rw [flt_all (fun y hy => by have := nzf rr.ck rr.cn hy; simpa using this)] at lk
  have dt := dctT_run (E := ceE) (g := gl ++ [Ob.dct false (vlE.tb P)]) rr.cn rfl lk
  have ll := (List.getElem?_eq_some_iff.mp hL).1
  have tp : vTup (aCons (vDctC (aCons (vVar 3) aNil)) (aCons (vDctT (aCons (vLock (pkOf (vVar 4)) (vLc [6] (iKey (vVar 4)) (gN 6) (tOf (vOp neD (vOp ixC (vVar 4) (vVar 6)) (vC (.int 0)))) (vTup (aCons (vVar 6) (aCons (vOp ixC (vVar 4) (vVar 6)) aNil))))) aNil)) aNil)) (shE (some (lpD sp fl)) L (some (.int s)) (some (.ref x.1)) (some (.ref x.2)) none y6) gl = .ok (spE.ev (gl.length, gl.length + 1)) ((gl ++ [Ob.dct false (vlE.tb P)]) ++ [Ob.dct true (ceE.tb C)]) := by
    have dt' : vDctT (aCons (vLock (pkOf (vVar 4)) (vLc [6] (iKey (vVar 4)) (gN 6) (tOf (vOp neD (vOp ixC (vVar 4) (vVar 6)) (vC (.int 0)))) (vTup (aCons (vVar 6) (aCons (vOp ixC (vVar 4) (vVar 6)) aNil))))) aNil) (shE (some (lpD sp fl)) L (some (.int s)) (some (.ref x.1)) (some (.ref x.2)) none y6) (gl ++ [Ob.dct vlE.tk (vlE.tb P)]) = _ := dt
    simp only [vTup_s, aCons_e, cp, Res.bind, dt', aNil_e, List.length_cons, List.length_nil, okL_s (show 0 + 1 + 1 < 1000 by decide), List.length_append]
    rfl
  have sb := sub_T (E := spE) (o := vVar 1) (i := vVar 2) (e := shE (some (lpD sp fl)) L (some (.int s)) (some (.ref x.1)) (some (.ref x.2)) none y6) (g := gl) (g1 := (gl ++ [Ob.dct false (vlE.tb P)]) ++ [Ob.dct true (ceE.tb C)]) (l := L) (ps := N) (k := s) (v := (gl.length, gl.length + 1)) tp rfl rfl ((Fr.app.trans Fr.app).get hL) (by omega)
  unfold c__law_shows_3
  rw [sSeq_e, t1]
  exact sb
end

section
variable {Q : Nat → Prop} {g g' g1 : G} {sp fl st : Nat} {T : List (Int × Nat × Nat)} {A : AS} {x : Nat × Nat} {P : List (Int × Vl)} {C : List ((Int × Int) × Int)} {S : Sp} {F : List ((Int × Int × Int) × Int)} {s p i n : Int} {v : Vl} {r : Nat}
structure ShI (g0 : G) (sp : Nat) (T : List (Int × Nat × Nat)) (A : AS) (L : Nat) (D1 : List Int) (N : List (Int × Nat × Nat)) (gl : G) : Prop where
  len : g0.length ≤ gl.length
  fr : ∀ i, i < g0.length → i ≠ L → gl[i]? = g0[i]?
  hL : gl[L]? = some (.dct false (spE.tb N))
  nd : NdT N
  ks : ∀ s, (lkT N s).isSome = true ↔ s ∈ D1
  en : ∀ s x, lkT N s = some x → L < x.1 ∧ L < x.2 ∧ ∃ P C S, A.sp s = some S ∧ SpR gl x P C S
  nl : N.length ≤ D1.length
theorem shows_loop (o : OkAS A) {g0 : G} {L : Nat} (hLl : L < g0.length) (hsp : g0[sp]? = some (.dctL false (spE.tb T))) (hsL : sp < L) (rp : ∀ s x, lkT T s = some x → x.1 < L ∧ x.2 < L ∧ ∃ P C S, A.sp s = some S ∧ SpR g0 x P C S) (hn : NdT T) :
    ∀ (T2 : List (Int × Nat × Nat)) (D1 : List Int) (N : List (Int × Nat × Nat)) (gl : G) (y2 y3 y4 y6 : Option D), (∀ y ∈ T2, y ∈ T) → D1.length + T2.length < 400 → ShI g0 sp T A L D1 N gl →
    ∃ N' gl' y2' y3' y4', loopL (gN 2) c__law_shows_3 (T2.map fun y => .int y.1) (shE (some (lpD sp fl)) L y2 y3 y4 none y6) gl = .nx (shE (some (lpD sp fl)) L y2' y3' y4' none y6) gl' ∧ ShI g0 sp T A L (D1 ++ T2.map Prod.fst) N' gl'
  | [], D1, N, gl, y2, y3, y4, y6, _, _, I => ⟨N, gl, y2, y3, y4, rfl, by simpa using I⟩
  | t :: T2, D1, N, gl, y2, y3, y4, y6, hT, hlen, I => by
    have et := lkT_mem hn (hT t List.mem_cons_self)
    obtain ⟨x1, x2, P, C, S, hS, rr⟩ := rp _ _ et
    have rr' : SpR gl t.2 P C S := rr.le (I.fr _ (by omega) (by omega)) (I.fr _ (by omega) (by omega))
    have hsp' : gl[sp]? = some (.dctL false (spE.tb T)) := (I.fr sp (by omega) (by omega)).trans hsp
    have hl := I.nl
    have bd := shows_body (fl := fl) (o.s4 _ _ hS).2 (gl := gl) (sp := sp) (T := T) (s := t.1) (by rw [hsp']; rfl) et rr' I.hL (by rw [List.length_cons] at hlen; omega) (y3 := y3) (y4 := y4) (y6 := y6)
    have one : loopL (gN 2) c__law_shows_3 ((t :: T2).map fun y => D.int y.1) (shE (some (lpD sp fl)) L y2 y3 y4 none y6) gl = after (c__law_shows_3 (shE (some (lpD sp fl)) L (some (.int t.1)) y3 y4 none y6) gl) (loopL (gN 2) c__law_shows_3 (T2.map fun y => D.int y.1)) := rfl
    have lL : L < gl.length := (List.getElem?_eq_some_iff.mp I.hL).1
    have ah : ∀ i, i ≠ L → i < gl.length → (((gl ++ [Ob.dct false (vlE.tb P)]) ++ [Ob.dct true (ceE.tb C)]).set L (.dct false (spE.tb (putT N t.1 (gl.length, gl.length + 1)))))[i]? = gl[i]? := fun i h1 h2 => by
      rw [List.getElem?_set_ne (Ne.symm h1), List.append_assoc, List.getElem?_append_left h2]
    have a1 : (((gl ++ [Ob.dct false (vlE.tb P)]) ++ [Ob.dct true (ceE.tb C)]).set L (.dct false (spE.tb (putT N t.1 (gl.length, gl.length + 1)))))[gl.length]? = some (.dct false (vlE.tb P)) := by
      rw [List.getElem?_set_ne (by omega), List.append_assoc, List.getElem?_append_right (Nat.le_refl _)]
      simp
    have a2 : (((gl ++ [Ob.dct false (vlE.tb P)]) ++ [Ob.dct true (ceE.tb C)]).set L (.dct false (spE.tb (putT N t.1 (gl.length, gl.length + 1)))))[gl.length + 1]? = some (.dct true (ceE.tb C)) := by
      rw [List.getElem?_set_ne (by omega), List.getElem?_append_right (by simp)]
      simp
    obtain ⟨N', gl', y2', y3', y4', h1, h2⟩ := shows_loop o hLl hsp hsL rp hn T2 (D1 ++ [t.1]) (putT N t.1 (gl.length, gl.length + 1)) _ (some (.int t.1)) (some (.ref t.2.1)) (some (.ref t.2.2)) y6 (fun y hy => hT y (List.mem_cons_of_mem _ hy)) (by rw [List.length_cons] at hlen; simp; omega) (show ShI g0 sp T A L (D1 ++ [t.1]) (putT N t.1 (gl.length, gl.length + 1)) (((gl ++ [Ob.dct false (vlE.tb P)]) ++ [Ob.dct true (ceE.tb C)]).set L (.dct false (spE.tb (putT N t.1 (gl.length, gl.length + 1))))) from
      ⟨by have := I.len; simp; omega, fun i h1 h2 => (ah i h2 (by have := I.len; omega)).trans (I.fr i h1 h2), List.getElem?_set_self (by simp; omega), put_ndT I.nd, fun s => by
        rw [lkT_put, List.mem_append, List.mem_singleton, ← I.ks s]
        by_cases c : s = t.1
        · simp [c]
        · simp [c], fun s y e => by
        rw [lkT_put] at e
        by_cases c : s = t.1
        · rw [if_pos c] at e
          cases e
          subst c
          exact ⟨lL, by show L < gl.length + 1; omega, P, C, S, hS, a1, a2, rr.pn, rr.cn, rr.pk, rr.ck⟩
        · rw [if_neg c] at e
          obtain ⟨b1, b2, P', C', S', b3, b4⟩ := I.en s y e
          exact ⟨b1, b2, P', C', S', b3, b4.le (ah _ (by omega) (List.getElem?_eq_some_iff.mp b4.p).1) (ah _ (by omega) (List.getElem?_eq_some_iff.mp b4.c).1)⟩, by
        have := put_lenT (ps := N) (k := t.1) (v := (gl.length, gl.length + 1))
        have := I.nl
        simp
        omega⟩)
    refine ⟨N', gl', y2', y3', y4', ?_, by simpa using h2⟩
    rw [one, bd]
    exact h1
theorem shows_run (o : OkAS A) (h : Rep g sp fl T A) : ∃ st' g' sp' fl' T', m__law_shows [lpD sp fl] g = .ok (.ref st') g' ∧ Fr g g' ∧ g.length ≤ st' ∧ StR (fun _ => True) g' st' sp' fl' T' A := by
  have start : m__law_shows [lpD sp fl] g = endM (b__law_shows [some (lpD sp fl), none, none, none, none, none, none] g) := rfl
  rw [start]
  unfold b__law_shows c__law_shows_4
  have dz : ∀ e, vDct0 false e g = .ok (.ref g.length) (g ++ [Ob.dct false []]) := fun e => rfl
  have h1 := h.fr (Fr.app (os := [Ob.dct false []]))
  have lsp : sp < g.length := (List.getElem?_eq_some_iff.mp h.t).1
  have g0sp : ((g ++ [Ob.dct false []]).set sp (.dctL false (spE.tb T)))[sp]? = some (.dctL false (spE.tb T)) := List.getElem?_set_self (by simp; omega)
  have g0ne : ∀ i, i ≠ sp → ((g ++ [Ob.dct false []]).set sp (.dctL false (spE.tb T)))[i]? = (g ++ [Ob.dct false []])[i]? := fun i hi => List.getElem?_set_ne (Ne.symm hi)
  obtain ⟨N, gl, y2, y3, y4, l1, I⟩ := shows_loop (fl := fl) o (g0 := (g ++ [Ob.dct false []]).set sp (.dctL false (spE.tb T))) (L := g.length) (by simp) g0sp lsp (fun s x e => by
    obtain ⟨P, C, S, hS, rr⟩ := h.s s x e
    obtain ⟨n1, n2⟩ := h.ne e
    exact ⟨(List.getElem?_eq_some_iff.mp rr.p).1, (List.getElem?_eq_some_iff.mp rr.c).1, P, C, S, hS, (rr.fr (Fr.app (os := [Ob.dct false []]))).le (g0ne _ n1) (g0ne _ n2)⟩) h.n T [] [] _ none none none none (fun y hy => hy) (by have := h.lenT o; simp; omega) (show ShI ((g ++ [Ob.dct false []]).set sp (.dctL false (spE.tb T))) sp T A g.length [] [] ((g ++ [Ob.dct false []]).set sp (.dctL false (spE.tb T))) from
    ⟨Nat.le_refl _, fun _ _ _ => rfl, (g0ne _ (by omega)).trans get_snoc', List.nodup_nil, (fun s => by simp [lkT]), (fun s x e => by cases e), Nat.le_refl _⟩)
  -- the lock
  have hgl : gl[sp]? = some (.dctL false (spE.tb T)) := (I.fr sp (by simp; omega) (by omega)).trans g0sp
  have lock : sLock (pkOf (vOp ixD (vVar 0) (vC (.int 0)))) (sFor (iKey (vOp ixD (vVar 0) (vC (.int 0)))) (gN 2) c__law_shows_3) [some (lpD sp fl), some (.ref g.length), none, none, none, none, none] (g ++ [Ob.dct false []]) = .nx [some (lpD sp fl), some (.ref g.length), y2, y3, y4, none, none] (gl.set sp (.dct false (spE.tb T))) := by
    have m0 : ∀ g', vOp ixD (vVar 0) (vC (.int 0)) [some (lpD sp fl), some (.ref g.length), none, none, none, none, none] g' = .ok (.ref sp) g' := fun g' => by
      simp only [vOp_e, vVar_e, List.getElem?_cons_zero, Res.bind, vC_e, lp0, oR_some]
    have pk : pkOf (vOp ixD (vVar 0) (vC (.int 0))) [some (lpD sp fl), some (.ref g.length), none, none, none, none, none] (g ++ [Ob.dct false []]) = some sp := by
      unfold pkOf; rw [m0]
    have im : iKey (vOp ixD (vVar 0) (vC (.int 0))) [some (lpD sp fl), some (.ref g.length), none, none, none, none, none] ((g ++ [Ob.dct false []]).set sp (.dctL false (spE.tb T))) = .ok (.vals (T.map fun y => D.int y.1)) ((g ++ [Ob.dct false []]).set sp (.dctL false (spE.tb T))) := by
      unfold iKey
      simp only [m0, Res.bind, g0sp]
      simp [Enc.tb, Function.comp_def, spE]
    have l1' : loopL (gN 2) c__law_shows_3 (T.map fun y => D.int y.1) [some (lpD sp fl), some (.ref g.length), none, none, none, none, none] ((g ++ [Ob.dct false []]).set sp (.dctL false (spE.tb T))) = _ := l1
    unfold sLock
    simp only [pk, h1.t, sFor_e, im, sBind, runS, l1']
    unfold freeS
    simp only [hgl]
    rfl
  -- what is there then
  have fr2 : Fr g (gl.set sp (.dct false (spE.tb T))) := ⟨by have := I.len; simp at this ⊢; omega, fun i hi => by
    by_cases c : i = sp
    · subst c
      rw [List.getElem?_set_self (by have := I.len; simp at this; omega), h.t]
    · rw [List.getElem?_set_ne (Ne.symm c), I.fr i (by simp; omega) (by omega), g0ne i c, List.getElem?_append_left hi]⟩
  obtain ⟨F, f1, f2, f3⟩ := (h.fr fr2).f
  have lk := lockls_run (E := flE) (g := gl.set sp (.dct false (spE.tb T))) (l := fl) (ps := F) (e := [some (lpD sp fl), some (.ref g.length), y2, y3, y4, none, none]) (own := [6]) (m := vOp ixD (vVar 0) (vC (.int 1))) (gm := gN 6) (t := tOf (vOp neD (vOp ixC (vOp ixD (vVar 0) (vC (.int 1))) (vVar 6)) (vC (.int 0)))) (mk := vTup (aCons (vVar 6) (aCons (vOp ixC (vOp ixD (vVar 0) (vC (.int 1))) (vVar 6)) aNil))) (c := fun y => !(y.2 == 0)) f1 (by have := fl_len o f2 f3; omega) (fun g => by
      simp only [vOp_e, vVar_e, List.getElem?_cons_zero, Res.bind, vC_e, lp1, oR_some]) (fun y hy => by
    have ix : ixC ((gl.set sp (.dct false (spE.tb T))).set fl (.dctL flE.tk (flE.tb F))) (.ref fl) (flE.ek y.1) = some (.int y.2) := ixC_T (E := flE) (by rw [List.getElem?_set_self (List.getElem?_eq_some_iff.mp f1).1]; rfl) (lkT_mem f2 hy)
    refine ⟨[some (lpD sp fl), some (.ref g.length), y2, y3, y4, none, some (flE.ek y.1)], rfl, ?_, fun _ => ?_⟩
    · simp only [tOf_e, vOp_e, vVar_e, List.getElem?_cons_zero, List.getElem?_cons_succ, Res.bind, vC_e, lp1, ix, oR_some, ne_int, bR_bl]
    · simp only [vTup_s, aCons_e, vOp_e, vVar_e, List.getElem?_cons_zero, List.getElem?_cons_succ, Res.bind, vC_e, lp1, ix, oR_some, aNil_e, List.length_cons, List.length_nil, okL_s (show 0 + 1 + 1 < 1000 by decide)]
      rfl)
  rw [flt_all (fun y hy => by
    have := lkT_mem f2 hy
    rw [f3] at this
    have z := nz_some this
    have : y.2 ≠ 0 := by rw [z.2]; exact z.1
    simpa using this)] at lk
  have dt := dctT_run (E := flE) (g := gl.set sp (.dct false (spE.tb T))) f2 rfl lk
  have hp : (pCons (vC (.str 14)) (vVar 1) (pCons (vC (.str 13)) (vVar 5) pNil)) [some (lpD sp fl), some (.ref g.length), y2, y3, y4, some (.ref (gl.set sp (.dct false (spE.tb T))).length), none] ((gl.set sp (.dct false (spE.tb T)) ++ [Ob.dct true (flE.tb F)]) ++ [Ob.dct false []]) = .ok [(.str 14, .ref g.length), (.str 13, .ref (gl.set sp (.dct false (spE.tb T))).length)] ((gl.set sp (.dct false (spE.tb T)) ++ [Ob.dct true (flE.tb F)]) ++ [Ob.dct false []]) := rfl
  obtain ⟨a1, a2, a3⟩ := disp2 hp Fr.refl
  have fr3 := fr2.trans (Fr.app (os := [Ob.dct true (flE.tb F)]))
  unfold c__law_shows_2 c__law_shows_1
  simp only [sSeq_e, sAsg_e, dz, sBind, List.set, lock, dt, sRet_e]
  have a1' : vDisp (pCons (vC (.str 14)) (vVar 1) (pCons (vC (.str 13)) (vVar 5) pNil)) [some (lpD sp fl), some (.ref g.length), y2, y3, y4, some (.ref (gl.set sp (.dct false (spE.tb T))).length), none] (gl.set sp (.dct false (spE.tb T)) ++ [Ob.dct flE.tk (flE.tb F)]) = _ := a1
  rw [a1']
  have gll : g.length < gl.length := (List.getElem?_eq_some_iff.mp I.hL).1
  have lift : ∀ i, g.length ≤ i → ∀ ob, gl[i]? = some ob → ((gl.set sp (.dct false (spE.tb T)) ++ [Ob.dct true (flE.tb F)]).set (gl.set sp (.dct false (spE.tb T)) ++ [Ob.dct true (flE.tb F)]).length (.dct false []))[i]? = some ob ∧ i < (gl.set sp (.dct false (spE.tb T)) ++ [Ob.dct true (flE.tb F)]).length := fun i hi ob ho => by
    have li := (List.getElem?_eq_some_iff.mp ho).1
    refine ⟨?_, by simp; omega⟩
    rw [List.getElem?_set_ne (by simp; omega), List.getElem?_append_left (by simp; omega), List.getElem?_set_ne (by omega)]
    exact ho
  have keep : ∀ i, g.length ≤ i → ∀ ob, gl[i]? = some ob → (((gl.set sp (.dct false (spE.tb T)) ++ [Ob.dct true (flE.tb F)]) ++ [Ob.dct false []]).set (gl.set sp (.dct false (spE.tb T)) ++ [Ob.dct true (flE.tb F)]).length (.dct false [(.str 14, .ref g.length), (.str 13, .ref (gl.set sp (.dct false (spE.tb T))).length)]))[i]? = some ob := fun i hi ob ho => by
    have li := (List.getElem?_eq_some_iff.mp ho).1
    have e1 : (gl.set sp (.dct false (spE.tb T)) ++ [Ob.dct true (flE.tb F)])[i]? = some ob := by
      rw [List.getElem?_append_left (by simp; omega), List.getElem?_set_ne (by omega)]
      exact ho
    exact a2.get e1
  refine ⟨_, _, g.length, (gl.set sp (.dct false (spE.tb T))).length, N, rfl, fr3.trans a2, by have := fr3.len; exact this, a3, ⟨keep _ (Nat.le_refl _) _ I.hL, I.nd, fun s x e => ?_, fun s e => ?_, F, ?_, f2, f3⟩, ⟨trivial, trivial, trivial⟩, fun _ _ _ => ⟨trivial, trivial⟩⟩
  · obtain ⟨b1, b2, P', C', S', b3, b4⟩ := I.en s x e
    exact ⟨P', C', S', b3, keep _ (by omega) _ b4.p, keep _ (by omega) _ b4.c, b4.pn, b4.cn, b4.pk, b4.ck⟩
  · have := I.ks s
    rw [e] at this
    refine h.z s ?_
    rw [lkT_none]
    intro hm
    have := this.mpr (by simpa using hm)
    cases this
  · exact a2.get (get_snoc')
theorem seen_run (o : OkAS A) (h : StR Q g st sp fl T A) : ∃ st' g' sp' fl' T', m__law_seen [.ref st] g = .ok (.ref st') g' ∧ Fr g g' ∧ g.length ≤ st' ∧ StR (fun _ => True) g' st' sp' fl' T' A := by
  obtain ⟨st', g', sp', fl', T', b1, b2⟩ := shows_run o h.r
  refine ⟨st', g', sp', fl', T', ?_, b2⟩
  have start : m__law_seen [.ref st] g = endM (b__law_seen [some (.ref st)] g) := rfl
  rw [start]
  unfold b__law_seen
  have b1' : m__law_shows [.lst [.ref sp, .ref fl]] g = .ok (.ref st') g' := b1
  simp only [sRet_e, vCall_e, aCons_e, vLst_s, vOp_e, vVar_e, List.getElem?_cons_zero, Res.bind, vC_e, h.isp, h.ifl, oR_some, aNil_e, List.length_cons, List.length_nil, okL_s (show 0 + 1 + 1 < 1000 by decide), b1', sBind, endM_rt]
/-! #### the same state twice -/
theorem eqG_srcT {m : Nat} {c : Option (Int × Int)} : eqG (m + 2) g (srcD c) (srcD c) = some true := by
  cases c with
  | none => exact eqG_non
  | some x => exact eqG_tup2 eqG_int eqG_int
theorem eqG_valT {m : Nat} {v : Vl} : eqG (m + 3) g (valD v) (valD v) = some true := eqG_tup2 eqG_str eqG_srcT
theorem eq_space {y : Nat × Nat} {P' : List (Int × Vl)} {C' : List ((Int × Int) × Int)} (h : SpR g x P C S) (h' : SpR g y P' C' S) : eqG 6 g (.tup [.ref x.1, .ref x.2]) (.tup [.ref y.1, .ref y.2]) = some true := by
  refine eqG_tup2 ?_ ?_
  · exact eqG_T (E := vlE) (n := 4) h.p h'.p h'.pn h.pn (fun q => by rw [h.pk, h'.pk]) fun z hz => by
      have e1 := lkT_mem h.pn hz
      exact ⟨z.2, by rw [h'.pk, ← h.pk]; exact e1, eqG_valT⟩
  · exact eqG_T (E := ceE) (n := 4) h.c h'.c h'.cn h.cn (fun q => by rw [h.ck, h'.ck]) fun z hz => by
      have e1 := lkT_mem h.cn hz
      exact ⟨z.2, by rw [h'.ck, ← h.ck]; exact e1, eqG_int⟩
theorem eq_state {Q' : Nat → Prop} {st' sp' fl' : Nat} {T' : List (Int × Nat × Nat)} (h : StR Q g st sp fl T A) (h' : StR Q' g st' sp' fl' T' A) (hne : st ≠ st') : eqX true g (.ref st) (.ref st') = some (.bl false) := by
  have e1 : (g[st]?).bind prsO = some (false, [(.str 14, .ref sp), (.str 13, .ref fl)]) := by rw [h.hs]; rfl
  have e2 : (g[st']?).bind prsO = some (false, [(.str 14, .ref sp'), (.str 13, .ref fl')]) := by rw [h'.hs]; rfl
  have e3 : (st == st') = false := by simpa using hne
  obtain ⟨F, f1, f2, f3⟩ := h.r.f
  obtain ⟨F', f1', f2', f3'⟩ := h'.r.f
  have a1 : eqG 7 g (.ref sp) (.ref sp') = some true := eqG_T (E := spE) (n := 6) h.r.t h'.r.t h'.r.n h.r.n (fun q => by rw [h.r.has, h'.r.has]) fun z hz => by
    obtain ⟨P, C, S, hS, rr⟩ := h.r.s _ _ (lkT_mem h.r.n hz)
    obtain ⟨y, P', C', ey, rr'⟩ := h'.r.of hS
    exact ⟨y, ey, eq_space rr rr'⟩
  have a2 : eqG 7 g (.ref fl) (.ref fl') = some true := eqG_T (E := flE) (n := 6) f1 f1' f2' f2 (fun q => by rw [f3, f3']) fun z hz => by
    have e1 := lkT_mem f2 hz
    exact ⟨z.2, by rw [f3', ← f3]; exact e1, eqG_int⟩
  unfold eqX
  simp only [e3, e1, e2]
  unfold eqG
  simp only [e3, e1, e2, beq_self_eq_true, List.length_cons, List.length_nil, hitsD, lkp]
  simp [a1, a2]
end

/-! ### the law's own dicts, which change -/
structure Sep (sp fl : Nat) (T : List (Int × Nat × Nat)) : Prop where
  sf : sp ≠ fl
  a : ∀ s x, lkT T s = some x → x.1 ≠ x.2 ∧ sp ≠ x.1 ∧ sp ≠ x.2 ∧ fl ≠ x.1 ∧ fl ≠ x.2
  b : ∀ s t x y, lkT T s = some x → lkT T t = some y → s ≠ t → x.1 ≠ y.1 ∧ x.1 ≠ y.2 ∧ x.2 ≠ y.1 ∧ x.2 ≠ y.2
def Own (sp fl : Nat) (T : List (Int × Nat × Nat)) (i : Nat) : Prop := i = sp ∨ i = fl ∨ ∃ s x, lkT T s = some x ∧ (i = x.1 ∨ i = x.2)
section
variable {Q : Nat → Prop} {g g' g1 : G} {sp fl st : Nat} {T T' : List (Int × Nat × Nat)} {A A' : AS} {x : Nat × Nat} {P : List (Int × Vl)} {C : List ((Int × Int) × Int)} {S S' : Sp} {F : List ((Int × Int × Int) × Int)} {s p i n : Int} {v : Vl} {r : Nat}
theorem Rep.own (h : Rep g sp fl T A) {i : Nat} (hi : Own sp fl T i) : i < g.length := by
  rcases hi with rfl | rfl | ⟨s, x, e, rfl | rfl⟩
  · exact (List.getElem?_eq_some_iff.mp h.t).1
  · obtain ⟨F, f, _⟩ := h.f
    exact (List.getElem?_eq_some_iff.mp f).1
  · obtain ⟨P, C, S, _, r⟩ := h.s s x e
    exact (List.getElem?_eq_some_iff.mp r.p).1
  · obtain ⟨P, C, S, _, r⟩ := h.s s x e
    exact (List.getElem?_eq_some_iff.mp r.c).1
/-- the dicts of one space change -/
theorem Rep.setSp (h : Rep g sp fl T A) (q : Sep sp fl T) (e : lkT T s = some x) {P' : List (Int × Vl)} {C' : List ((Int × Int) × Int)} (hg : ∀ i, i ≠ x.1 → i ≠ x.2 → g'[i]? = g[i]?) (hx : SpR g' x P' C' S') : Rep g' sp fl T ⟨updF A.sp s (some S'), A.fl⟩ := by
  obtain ⟨q1, q2, q3, q4, q5⟩ := q.a s x e
  refine ⟨(hg sp q2 q3).trans h.t, h.n, fun t y e' => ?_, fun t e' => ?_, ?_⟩
  · by_cases c : t = s
    · subst c
      rw [e] at e'
      cases e'
      exact ⟨P', C', S', updF_same, hx⟩
    · obtain ⟨P1, C1, S1, a, b⟩ := h.s t y e'
      obtain ⟨z1, z2, z3, z4⟩ := q.b t s y x e' e c
      exact ⟨P1, C1, S1, (updF_ne c).trans a, b.le (hg _ z1 z2) (hg _ z3 z4)⟩
  · have c : t ≠ s := fun c => by subst c; rw [e] at e'; cases e'
    exact (updF_ne c).trans (h.z t e')
  · obtain ⟨F, a, b, c⟩ := h.f
    exact ⟨F, (hg fl q4 q5).trans a, b, c⟩
theorem Rep.setFl (h : Rep g sp fl T A) (q : Sep sp fl T) {f' : Int × Int × Int → Int} {F' : List ((Int × Int × Int) × Int)} (hg : ∀ i, i ≠ fl → g'[i]? = g[i]?) (hf : g'[fl]? = some (.dct true (flE.tb F'))) (hn : NdT F') (hk : ∀ k, lkT F' k = nz (f' k)) : Rep g' sp fl T ⟨A.sp, f'⟩ :=
  ⟨(hg sp q.sf).trans h.t, h.n, fun t y e => by
    obtain ⟨P1, C1, S1, a, b⟩ := h.s t y e
    obtain ⟨_, _, _, z4, z5⟩ := q.a t y e
    exact ⟨P1, C1, S1, a, b.le (hg _ (Ne.symm z4)) (hg _ (Ne.symm z5))⟩, h.z, F', hf, hn, hk⟩
/-- a space more, or another one in its place -/
theorem Rep.setT (h : Rep g sp fl T A) (q : Sep sp fl T) (hg : ∀ i, i < g.length → i ≠ sp → g'[i]? = g[i]?) (hs : g'[sp]? = some (.dct false (spE.tb (putT T s x)))) {P' : List (Int × Vl)} {C' : List ((Int × Int) × Int)} (hx : SpR g' x P' C' S') : Rep g' sp fl (putT T s x) ⟨updF A.sp s (some S'), A.fl⟩ := by
  refine ⟨hs, put_ndT h.n, fun t y e' => ?_, fun t e' => ?_, ?_⟩
  · rw [lkT_put] at e'
    by_cases c : t = s
    · rw [if_pos c] at e'
      cases e'
      subst c
      exact ⟨P', C', S', updF_same, hx⟩
    · rw [if_neg c] at e'
      obtain ⟨P1, C1, S1, a, b⟩ := h.s t y e'
      obtain ⟨_, z2, z3, _⟩ := q.a t y e'
      exact ⟨P1, C1, S1, (updF_ne c).trans a, b.le (hg _ (List.getElem?_eq_some_iff.mp b.p).1 (Ne.symm z2)) (hg _ (List.getElem?_eq_some_iff.mp b.c).1 (Ne.symm z3))⟩
  · rw [lkT_put] at e'
    by_cases c : t = s
    · rw [if_pos c] at e'; cases e'
    · rw [if_neg c] at e'
      exact (updF_ne c).trans (h.z t e')
  · obtain ⟨F, a, b, c⟩ := h.f
    exact ⟨F, (hg fl (List.getElem?_eq_some_iff.mp a).1 (Ne.symm q.sf)).trans a, b, c⟩
theorem Sep.put (q : Sep sp fl T) (h : Rep g sp fl T A) (h1 : g.length ≤ x.1) (h2 : g.length ≤ x.2) (h3 : x.1 ≠ x.2) : Sep sp fl (putT T s x) := by
  have o := fun i hi => h.own (i := i) hi
  have osp := o sp (.inl rfl)
  have ofl := o fl (.inr (.inl rfl))
  refine ⟨q.sf, fun t y e => ?_, fun t u y z e1 e2 hne => ?_⟩
  · rw [lkT_put] at e
    by_cases c : t = s
    · rw [if_pos c] at e
      cases e
      exact ⟨h3, by omega, by omega, by omega, by omega⟩
    · rw [if_neg c] at e
      exact q.a t y e
  · rw [lkT_put] at e1 e2
    by_cases c : t = s
    · rw [if_pos c] at e1
      rw [if_neg (fun d => hne (c.trans d.symm))] at e2
      cases e1
      have o1 := o z.1 (.inr (.inr ⟨u, z, e2, .inl rfl⟩))
      have o2 := o z.2 (.inr (.inr ⟨u, z, e2, .inr rfl⟩))
      exact ⟨by omega, by omega, by omega, by omega⟩
    · rw [if_neg c] at e1
      by_cases c2 : u = s
      · rw [if_pos c2] at e2
        cases e2
        have o1 := o y.1 (.inr (.inr ⟨t, y, e1, .inl rfl⟩))
        have o2 := o y.2 (.inr (.inr ⟨t, y, e1, .inr rfl⟩))
        exact ⟨by omega, by omega, by omega, by omega⟩
      · rw [if_neg c2] at e2
        exact q.b t u y z e1 e2 hne
theorem Sep.del (q : Sep sp fl T) : Sep sp fl (delT T s) := by
  have lift : ∀ {t y}, lkT (delT T s) t = some y → lkT T t = some y := fun {t y} e => by
    rw [lkT_del] at e
    split at e
    · cases e
    · exact e
  exact ⟨q.sf, fun t y e => q.a t y (lift e), fun t u y z e1 e2 => q.b t u y z (lift e1) (lift e2)⟩
/-- what a function of the law gives: the dicts are changed where they are -/
def LawSt (g : G) (sp fl : Nat) (T : List (Int × Nat × Nat)) (A : AS) (d : D) (r : Res D) : Prop := ∃ g' T', r = .ok d g' ∧ g.length ≤ g'.length ∧ (∀ i, i < g.length → ¬ Own sp fl T i → g'[i]? = g[i]?) ∧ Rep g' sp fl T' A ∧ Sep sp fl T' ∧ ∀ i, Own sp fl T' i → Own sp fl T i ∨ g.length ≤ i
theorem LawSt.same (h : Rep g sp fl T A) (q : Sep sp fl T) {d : D} : LawSt g sp fl T A d (.ok d g) := ⟨g, T, rfl, Nat.le_refl _, fun _ _ _ => rfl, h, q, fun _ h => .inl h⟩
/-- where a cell lies -/
def tlR (x : Nat × Nat) (fl : Nat) (v : Vl) : Nat := match v.2 with
  | none => x.2
  | some _ => fl
def tlK (v : Vl) (p i : Int) : D := match v.2 with
  | none => .tup [.int p, .int i]
  | some y => .tup [.int y.1, .int y.2, .int i]
theorem table_run (h : Rep g sp fl T A) (e : lkT T s = some x) (r : SpR g x P C S) (hv : S.pg p = some v) : m__law_table [lpD sp fl, .int s, .int p, .int i] g = .ok (.tup [.ref (tlR x fl v), tlK v p i]) g := by
  have start : m__law_table [lpD sp fl, .int s, .int p, .int i] g = endM (b__law_table [some (lpD sp fl), some (.int s), some (.int p), some (.int i), none, none, none] g) := rfl
  rw [start]
  unfold b__law_table c__law_table_3
  have tg : sTgt (vOp ixC (vOp ixD (vVar 0) (vC (.int 0))) (vVar 1)) (gT 2 (gsC (gN 4) (gsC (gN 5) gsN))) [some (lpD sp fl), some (.int s), some (.int p), some (.int i), none, none, none] g = .nx [some (lpD sp fl), some (.int s), some (.int p), some (.int i), some (.ref x.1), some (.ref x.2), none] g := by
    unfold sTgt
    simp only [vOp_e, vVar_e, List.getElem?_cons_zero, List.getElem?_cons_succ, Res.bind, vC_e, lp0, oR_some, ix_sp h e, sBind]
    rfl
  simp only [sSeq_e, tg, sAsg_e, vOp_e, vVar_e, List.getElem?_cons_zero, List.getElem?_cons_succ, Res.bind, vC_e, ix_pg r hv, vl1, oR_some, sBind, List.set]
  unfold c__law_table_2
  simp only [sSeq_e, sIf_e, tOf_e, vOp_e, vVar_e, List.getElem?_cons_zero, List.getElem?_cons_succ, Res.bind, vC_e, isN_e, src_non, oR_some, bR_bl, sBind]
  unfold tlR tlK
  cases z : v.2 with
  | none => rfl
  | some y =>
    have i0 : ∀ g, ixD g (srcD (some y)) (.int 0) = some (.int y.1) := fun g => by unfold srcD; rw [ixD_tup, at0]
    have i1 : ∀ g, ixD g (srcD (some y)) (.int 1) = some (.int y.2) := fun g => by unfold srcD; rw [ixD_tup, at1]
    unfold c__law_table_1
    simp only [Option.isNone_some, cond_false, sNx_e, sRet_e, vTup_s, aCons_e, vOp_e, vVar_e, List.getElem?_cons_zero, List.getElem?_cons_succ, Res.bind, vC_e, lp1, i0, i1, oR_some, aNil_e, List.length_cons, List.length_nil, okL_s (show 0 + 1 + 1 < 1000 by decide), okL_s (show 0 + 1 + 1 + 1 < 1000 by decide), sBind, endM_rt]
theorem get_run (o : OkAS A) (h : Rep g sp fl T A) (e : lkT T s = some x) (r : SpR g x P C S) (hS : A.sp s = some S) {e' : En} {a b : Nat} (ha : e'[a]? = some (some (.ref (tlR x fl v)))) (hb : e'[b]? = some (some (tlK v p i))) : vDGet (vVar a) (aCons (vVar b) (aCons (vC (.int 0)) aNil)) e' g = .ok (.int (cellA A S v p i)) g := by
  unfold tlR at ha
  unfold tlK at hb
  unfold cellA
  cases z : v.2 with
  | none =>
    rw [z] at ha hb
    have gt := get2_T (E := ceE) (o := vVar a) (m := vVar b) (n := vC (.int 0)) (e := e') (g := g) (l := x.2) (ps := C) (k := (p, i)) (d := .int 0) (by simp [ha]) (by simp [hb]; rfl) rfl r.c
    rw [gt, r.ck]
    unfold nz
    simp only
    split <;> simp [*, ceE]
  | some y =>
    rw [z] at ha hb
    obtain ⟨F, f1, f2, f3⟩ := h.f
    have gt := get2_T (E := flE) (o := vVar a) (m := vVar b) (n := vC (.int 0)) (e := e') (g := g) (l := fl) (ps := F) (k := (y.1, y.2, i)) (d := .int 0) (by simp [ha]) (by simp [hb]; rfl) rfl f1
    rw [gt, f3]
    unfold nz
    simp only
    split <;> simp [*, flE]
/-- a cell is given a value -/
theorem lput_run (o : OkAS A) (h : Rep g sp fl T A) (q : Sep sp fl T) (e : lkT T s = some x) (r : SpR g x P C S) (hS : A.sp s = some S) {e' : En} {a b : Nat} {m : EM} {w : Int} (ha : e'[a]? = some (some (.ref (tlR x fl v)))) (hb : e'[b]? = some (some (tlK v p i))) (hm : m e' g = .ok (.int w) g) (hw : w ≠ 0) :
    ∃ g', sSubC (vVar a) (vVar b) m e' g = .nx e' g' ∧ ∀ d, LawSt g sp fl T (putA A s S v p i w) d (.ok d g') := by
  have oS := (o.s4 s S hS).2
  obtain ⟨q1, q2, q3, q4, q5⟩ := q.a s x e
  unfold tlR at ha
  unfold tlK at hb
  unfold putA
  cases z : v.2 with
  | none =>
    rw [z] at ha hb
    have sb := sub_T (E := ceE) (o := vVar a) (i := vVar b) (m := m) (e := e') (g := g) (g1 := g) (l := x.2) (ps := C) (k := (p, i)) (v := w) hm (by simp [ha]) (by simp [hb]; rfl) r.c (by have := r.lenC oS; omega)
    have l2 := (List.getElem?_eq_some_iff.mp r.c).1
    refine ⟨_, sb, fun d => ⟨_, T, rfl, by simp, fun i hi hn => ?_, ?_, q, fun i h => .inl h⟩⟩
    · exact List.getElem?_set_ne (fun c => hn (.inr (.inr ⟨s, x, e, .inr c.symm⟩)))
    · refine h.setSp q e (P' := P) (C' := putT C (p, i) w) (fun j h1 h2 => List.getElem?_set_ne (Ne.symm h2)) ⟨(List.getElem?_set_ne (Ne.symm q1)).trans r.p, List.getElem?_set_self l2, r.pn, put_ndT r.cn, r.pk, fun k => ?_⟩
      rw [lkT_put]
      by_cases c : k = (p, i)
      · rw [if_pos c, c]; simp only [updF_same]; unfold nz; rw [if_neg hw]
      · rw [if_neg c]; simp only [updF_ne c, r.ck]
  | some y =>
    rw [z] at ha hb
    obtain ⟨F, f1, f2, f3⟩ := h.f
    have sb := sub_T (E := flE) (o := vVar a) (i := vVar b) (m := m) (e := e') (g := g) (g1 := g) (l := fl) (ps := F) (k := (y.1, y.2, i)) (v := w) hm (by simp [ha]) (by simp [hb]; rfl) f1 (by have := fl_len o f2 f3; omega)
    have l2 := (List.getElem?_eq_some_iff.mp f1).1
    refine ⟨_, sb, fun d => ⟨_, T, rfl, by simp, fun i hi hn => ?_, ?_, q, fun i h => .inl h⟩⟩
    · exact List.getElem?_set_ne (fun c => hn (.inr (.inl c.symm)))
    · refine h.setFl q (fun j h1 => List.getElem?_set_ne (Ne.symm h1)) (List.getElem?_set_self l2) (put_ndT f2) fun k => ?_
      rw [lkT_put]
      by_cases c : k = (y.1, y.2, i)
      · rw [if_pos c, c]; simp only [updF_same]; unfold nz; rw [if_neg hw]
      · rw [if_neg c]; simp only [updF_ne c, f3]
theorem lcells_start (o : OkAS A) (h : Rep g sp fl T A) {w : Nat} {rs : List D} : m__law_cells [lpD sp fl, .tup (.str w :: .int s :: .int p :: .int i :: rs)] g = (match useA A s p (w == 3) with
    | .inl k => .ok (.tup [.str k, .non]) g
    | .inr y => (match lkT T s with
      | none => .stuck
      | some x => endM (c__law_cells_4 [some (lpD sp fl), some (.tup (.str w :: .int s :: .int p :: .int i :: rs)), some (.ref x.1), some (.ref (tlR x fl y.2)), some (tlK y.2 p i), some (.int (cellA A y.1 y.2 p i))] g))) := by
  have start : m__law_cells [lpD sp fl, .tup (.str w :: .int s :: .int p :: .int i :: rs)] g = endM (b__law_cells [some (lpD sp fl), some (.tup (.str w :: .int s :: .int p :: .int i :: rs)), none, none, none, none] g) := rfl
  rw [start]
  unfold b__law_cells useA
  have tp : ∀ e g a, vTup (aCons (vC (.str a)) (aCons (vC .non) aNil)) e g = .ok (.tup [.str a, .non]) g := fun _ _ _ => rfl
  cases z : A.sp s with
  | none =>
    simp only [sSeq_e, sIf_e, tOf_e, vOp_e, vVar_e, List.getElem?_cons_zero, List.getElem?_cons_succ, Res.bind, vC_e, ixD_tup, at1, oR_some, lp0, in_sp h, z, bR_bl, sBind]
    rfl
  | some S =>
    obtain ⟨x, P, C, e, r⟩ := h.of z
    unfold c__law_cells_8 c__law_cells_7
    simp only [sSeq_e, sIf_e, tOf_e, tOr_e, tAnd_e, vOp_e, vVar_e, List.getElem?_cons_zero, List.getElem?_cons_succ, Res.bind, vC_e, ixD_tup, at0, at1, at2, oR_some, lp0, in_sp h, z, Option.isSome_some, bne_self_eq_false, cond_false, sNx_e, bR_bl, sBind, sAsg_e, ix_sp h e, List.set, in_pg r, ne_str]
    cases z2 : S.pg p with
    | none => simp only [Option.isSome_none, Bool.false_bne, cond_true, sRet_e, tp, sBind, endM_rt]
    | some v =>
      simp only [Option.isSome_some, bne_self_eq_false, cond_false, ix_pg r z2, oR_some, Res.bind, vl0, eq_str, bR_bl]
      have c6 : c__law_cells_6 [some (lpD sp fl), some (.tup (.str w :: .int s :: .int p :: .int i :: rs)), some (.ref x.1), none, none, none] g = c__law_cells_4 [some (lpD sp fl), some (.tup (.str w :: .int s :: .int p :: .int i :: rs)), some (.ref x.1), some (.ref (tlR x fl v)), some (tlK v p i), some (.int (cellA A S v p i))] g := by
        have tb := table_run (i := i) h e r z2
        have tg : sTgt (vCall m__law_table (aCons (vVar 0) (aCons (vOp ixD (vVar 1) (vC (.int 1))) (aCons (vOp ixD (vVar 1) (vC (.int 2))) (aCons (vOp ixD (vVar 1) (vC (.int 3))) aNil))))) (gT 2 (gsC (gN 3) (gsC (gN 4) gsN))) [some (lpD sp fl), some (.tup (.str w :: .int s :: .int p :: .int i :: rs)), some (.ref x.1), none, none, none] g = .nx [some (lpD sp fl), some (.tup (.str w :: .int s :: .int p :: .int i :: rs)), some (.ref x.1), some (.ref (tlR x fl v)), some (tlK v p i), none] g := by
          unfold sTgt
          simp only [vCall_e, aCons_e, vOp_e, vVar_e, List.getElem?_cons_zero, List.getElem?_cons_succ, Res.bind, vC_e, ixD_tup, at1, at2, at3, oR_some, aNil_e, tb, sBind]
          rfl
        have gt := get_run (v := v) (p := p) (i := i) o h e r z (e' := [some (lpD sp fl), some (.tup (.str w :: .int s :: .int p :: .int i :: rs)), some (.ref x.1), some (.ref (tlR x fl v)), some (tlK v p i), none]) (a := 3) (b := 4) rfl rfl
        unfold c__law_cells_6 c__law_cells_5
        simp only [sSeq_e, tg, sAsg_e, gt, sBind, List.set]
      cases w == 3 with
      | true =>
        simp only [Bool.not_true, cond_false, Bool.false_and, sNx_e, e]
        rw [c6]
      | false =>
        simp only [Bool.not_false, cond_true, Bool.true_and, bR_bl]
        cases v.1 == 0 with
        | true => simp only [cond_true, sRet_e, tp, sBind, endM_rt]
        | false =>
          simp only [cond_false, sNx_e, e]
          rw [c6]
end

section
variable {Q : Nat → Prop} {g g' g1 : G} {sp fl st : Nat} {T T' : List (Int × Nat × Nat)} {A A' : AS} {x : Nat × Nat} {P : List (Int × Vl)} {C : List ((Int × Int) × Int)} {S S' : Sp} {F : List ((Int × Int × Int) × Int)} {s p i n : Int} {v : Vl} {r : Nat}
theorem lload (o : OkAS A) (h : Rep g sp fl T A) (q : Sep sp fl T) : LawSt g sp fl T (aftA A (.load s p i)) (ansD (ansA A (.load s p i))) (m__law_cells [lpD sp fl, .tup (Cl.load s p i).d] g) := by
  have st := lcells_start o h (s := s) (p := p) (i := i) (w := 3) (rs := [])
  have e1 : m__law_cells [lpD sp fl, .tup (Cl.load s p i).d] g = .ok (ansD (ansA A (.load s p i))) g := by
    refine Eq.trans st ?_
    rw [show (3 == 3) = true from rfl]
    unfold ansA
    simp only
    cases z : useA A s p true with
    | inl k => rfl
    | inr y =>
      obtain ⟨hS, hv, _⟩ := useA_r z
      obtain ⟨x, P, C, e, rr⟩ := h.of hS
      simp only [e]
      unfold c__law_cells_4
      simp only [sSeq_e, sIf_e, tOf_e, vOp_e, vVar_e, List.getElem?_cons_zero, List.getElem?_cons_succ, Res.bind, vC_e, ixD_tup, at0, oR_some, eq_str, bR_bl, sBind, show (3 == 3) = true from rfl, cond_true, sRet_e, vTup_s, aCons_e, aNil_e, List.length_cons, List.length_nil, okL_s (show 0 + 1 + 1 < 1000 by decide), endM_rt]
      rfl
  rw [e1]
  exact LawSt.same h q
theorem lstore (o : OkAS A) (h : Rep g sp fl T A) (q : Sep sp fl T) {a : Int} (ha : a ≠ 0) : LawSt g sp fl T (aftA A (.store s p i a)) (ansD (ansA A (.store s p i a))) (m__law_cells [lpD sp fl, .tup (Cl.store s p i a).d] g) := by
  have st := lcells_start o h (s := s) (p := p) (i := i) (w := 7) (rs := [.int a])
  rw [show (7 == 3) = false from rfl] at st
  have st' : m__law_cells [lpD sp fl, .tup (Cl.store s p i a).d] g = _ := st
  rw [st']
  unfold ansA aftA
  simp only
  cases z : useA A s p false with
  | inl k => exact LawSt.same h q
  | inr y =>
    obtain ⟨hS, hv, _⟩ := useA_r z
    obtain ⟨x, P, C, e, rr⟩ := h.of hS
    obtain ⟨g', h1, h2⟩ := lput_run (v := y.2) (p := p) (i := i) (w := a) o h q e rr hS (e' := [some (lpD sp fl), some (.tup [.str 7, .int s, .int p, .int i, .int a]), some (.ref x.1), some (.ref (tlR x fl y.2)), some (tlK y.2 p i), some (.int (cellA A y.1 y.2 p i))]) (a := 3) (b := 4) (m := vOp ixD (vVar 1) (vC (.int 4))) rfl rfl (by simp only [vOp_e, vVar_e, List.getElem?_cons_zero, List.getElem?_cons_succ, Res.bind, vC_e, ixD_tup, at4, oR_some]) ha
    have tp : ∀ e g a, vTup (aCons (vC (.str a)) (aCons (vC .non) aNil)) e g = .ok (.tup [.str a, .non]) g := fun _ _ _ => rfl
    have e2 : endM (c__law_cells_4 [some (lpD sp fl), some (.tup [.str 7, .int s, .int p, .int i, .int a]), some (.ref x.1), some (.ref (tlR x fl y.2)), some (tlK y.2 p i), some (.int (cellA A y.1 y.2 p i))] g) = .ok (.tup [.str 15, .non]) g' := by
      unfold c__law_cells_4 c__law_cells_3
      simp only [sSeq_e, sIf_e, tOf_e, vOp_e, vVar_e, List.getElem?_cons_zero, List.getElem?_cons_succ, Res.bind, vC_e, ixD_tup, at0, oR_some, eq_str, bR_bl, sBind, show (7 == 3) = false from rfl, show (7 == 7) = true from rfl, cond_false, cond_true, sNx_e]
      rw [h1]
      simp only [sRet_e, tp, sBind, endM_rt]
    simp only [e]
    rw [e2]
    exact h2 _
theorem lchange (o : OkAS A) (h : Rep g sp fl T A) (q : Sep sp fl T) {a b : Int} (hb : b ≠ 0) : LawSt g sp fl T (aftA A (.change s p i a b)) (ansD (ansA A (.change s p i a b))) (m__law_cells [lpD sp fl, .tup (Cl.change s p i a b).d] g) := by
  have st := lcells_start o h (s := s) (p := p) (i := i) (w := 8) (rs := [.int a, .int b])
  rw [show (8 == 3) = false from rfl] at st
  have st' : m__law_cells [lpD sp fl, .tup (Cl.change s p i a b).d] g = _ := st
  rw [st']
  unfold ansA aftA
  simp only
  cases z : useA A s p false with
  | inl k => exact LawSt.same h q
  | inr y =>
    obtain ⟨hS, hv, _⟩ := useA_r z
    obtain ⟨x, P, C, e, rr⟩ := h.of hS
    have a5 : atI [D.str 8, .int s, .int p, .int i, .int a, .int b] 5 = some (.int b) := rfl
    obtain ⟨g', h1, h2⟩ := lput_run (v := y.2) (p := p) (i := i) (w := b) o h q e rr hS (e' := [some (lpD sp fl), some (.tup [.str 8, .int s, .int p, .int i, .int a, .int b]), some (.ref x.1), some (.ref (tlR x fl y.2)), some (tlK y.2 p i), some (.int (cellA A y.1 y.2 p i))]) (a := 3) (b := 4) (m := vOp ixD (vVar 1) (vC (.int 5))) rfl rfl (by simp only [vOp_e, vVar_e, List.getElem?_cons_zero, List.getElem?_cons_succ, Res.bind, vC_e, ixD_tup, a5, oR_some]) hb
    have e2 : endM (c__law_cells_4 [some (lpD sp fl), some (.tup [.str 8, .int s, .int p, .int i, .int a, .int b]), some (.ref x.1), some (.ref (tlR x fl y.2)), some (tlK y.2 p i), some (.int (cellA A y.1 y.2 p i))] g) = .ok (.tup [.str 15, .bl (cellA A y.1 y.2 p i == a)]) (bif cellA A y.1 y.2 p i == a then g' else g) := by
      have c1 : ∀ g, c__law_cells_1 [some (lpD sp fl), some (.tup [.str 8, .int s, .int p, .int i, .int a, .int b]), some (.ref x.1), some (.ref (tlR x fl y.2)), some (tlK y.2 p i), some (.int (cellA A y.1 y.2 p i))] g = .rt (.tup [.str 15, .bl (cellA A y.1 y.2 p i == a)]) g := fun g => by
        unfold c__law_cells_1
        simp only [sRet_e, vTup_s, aCons_e, vOp_e, vVar_e, List.getElem?_cons_zero, List.getElem?_cons_succ, Res.bind, vC_e, ixD_tup, at4, eq_int, oR_some, aNil_e, List.length_cons, List.length_nil, okL_s (show 0 + 1 + 1 < 1000 by decide), sBind]
      unfold c__law_cells_4 c__law_cells_3 c__law_cells_2
      simp only [sSeq_e, sIf_e, tOf_e, vOp_e, vVar_e, List.getElem?_cons_zero, List.getElem?_cons_succ, Res.bind, vC_e, ixD_tup, at0, at4, oR_some, eq_str, eq_int, bR_bl, sBind, show (8 == 3) = false from rfl, show (8 == 7) = false from rfl, cond_false, cond_true, sNx_e]
      cases hz : cellA A y.1 y.2 p i == a with
      | false =>
        rw [hz] at c1
        simp only [cond_false, sNx_e, c1, endM_rt]
      | true =>
        rw [hz] at c1
        simp only [cond_true]
        rw [h1]
        simp only [c1, endM_rt]
    simp only [e]
    rw [e2]
    cases cellA A y.1 y.2 p i == a with
    | false => exact LawSt.same h q
    | true => exact h2 _
theorem fresh_head : (((List.range 4).filter fun (i : Nat) => (A.sp (i : Int)).isNone).map fun (i : Nat) => D.int (i : Int)) = match freshA A with
    | none => []
    | some y => .int y :: ((((List.range 4).filter fun (i : Nat) => (A.sp (i : Int)).isNone).map fun (i : Nat) => D.int (i : Int)).drop 1) := by
  unfold freshA
  rw [← List.head?_filter]
  cases (List.range 4).filter fun (i : Nat) => (A.sp (i : Int)).isNone with
  | nil => rfl
  | cons a l => rfl
theorem pud_ints (l : List Nat) : pud 8 (.lst (l.map fun (i : Nat) => D.int (i : Int))) = true := by
  rw [pud_lst]
  exact all_pud l fun i => by simp
/-- one space more -/
theorem born_set (o : OkAS A) (h : Rep g sp fl T A) (q : Sep sp fl T) {y : Int} {e : En} {m : EM} {P' : List (Int × Vl)} {C' : List ((Int × Int) × Int)} (he0 : e[0]? = some (some (lpD sp fl))) {ls : List D} (he2 : e[2]? = some (some (.lst (.int y :: ls))))
    (hm : m e g = .ok (.tup [.ref g.length, .ref (g.length + 1)]) ((g ++ [Ob.dct false (vlE.tb P')]) ++ [Ob.dct true (ceE.tb C')])) (hP : NdT P') (hC : NdT C') (pk : ∀ q, lkT P' q = S.pg q) (ck : ∀ k, lkT C' k = nz (S.cl k)) :
    ∃ g', sSubC (vOp ixD (vVar 0) (vC (.int 0))) (vOp ixD (vVar 2) (vC (.int 0))) m e g = .nx e g' ∧ Fr (g.set sp (.dct false (spE.tb (putT T y (g.length, g.length + 1))))) g' ∧ Rep g' sp fl (putT T y (g.length, g.length + 1)) ⟨updF A.sp y (some S), A.fl⟩ ∧ Sep sp fl (putT T y (g.length, g.length + 1)) := by
  have lsp := h.own (i := sp) (.inl rfl)
  have sb := sub_T (E := spE) (o := vOp ixD (vVar 0) (vC (.int 0))) (i := vOp ixD (vVar 2) (vC (.int 0))) (m := m) (e := e) (g := g) (g1 := (g ++ [Ob.dct false (vlE.tb P')]) ++ [Ob.dct true (ceE.tb C')]) (l := sp) (ps := T) (k := y) (v := (g.length, g.length + 1)) hm (by
    simp only [vOp_e, vVar_e, he0, Res.bind, vC_e, lp0, oR_some]) (by
    simp only [vOp_e, vVar_e, he2, Res.bind, vC_e]
    unfold ixD itD
    simp [at0, spE]) ((Fr.app.trans Fr.app).get h.t) (by have := h.lenT o; omega)
  refine ⟨_, sb, ⟨by simp, fun i hi => ?_⟩, ?_, q.put h (Nat.le_refl _) (by show g.length ≤ g.length + 1; omega) (by show g.length ≠ g.length + 1; omega)⟩
  · rw [List.length_set] at hi
    by_cases c : i = sp
    · subst c
      rw [List.getElem?_set_self (by simp; omega), List.getElem?_set_self hi]
      rfl
    · rw [List.getElem?_set_ne (Ne.symm c), List.getElem?_set_ne (Ne.symm c), List.append_assoc, List.getElem?_append_left hi]
  · refine h.setT q (fun i h1 h2 => ?_) (List.getElem?_set_self (by simp; omega)) (P' := P') (C' := C') ⟨?_, ?_, hP, hC, pk, ck⟩
    · rw [List.getElem?_set_ne (Ne.symm h2), List.append_assoc, List.getElem?_append_left h1]
    · show ((((g ++ [Ob.dct false (vlE.tb P')]) ++ [Ob.dct true (ceE.tb C')])).set sp _)[g.length]? = _
      rw [List.getElem?_set_ne (by omega), List.append_assoc, List.getElem?_append_right (Nat.le_refl _)]
      simp
    · show ((((g ++ [Ob.dct false (vlE.tb P')]) ++ [Ob.dct true (ceE.tb C')])).set sp _)[g.length + 1]? = _
      rw [List.getElem?_set_ne (by omega), List.getElem?_append_right (by simp)]
      simp
theorem own_put {y : Int} {a : Nat × Nat} {i : Nat} (h : Own sp fl (putT T y a) i) (h1 : g.length ≤ a.1) (h2 : g.length ≤ a.2) : Own sp fl T i ∨ g.length ≤ i := by
  rcases h with rfl | rfl | ⟨t, z, e, hz⟩
  · exact .inl (.inl rfl)
  · exact .inl (.inr (.inl rfl))
  · rw [lkT_put] at e
    by_cases c : t = y
    · rw [if_pos c] at e
      cases e
      rcases hz with rfl | rfl
      · exact .inr h1
      · exact .inr h2
    · rw [if_neg c] at e
      exact .inl (.inr (.inr ⟨t, z, e, hz⟩))
theorem fresh_list (h : Rep g sp fl T A) {c : Cl} {e1 e2 e3 : Option D} : vLc [5] (iRng1 (vC (.int 4))) (gN 5) (tOf (vOp (inC true) (vVar 5) (vOp ixD (vVar 0) (vC (.int 0))))) (vVar 5) [some (lpD sp fl), some (.tup c.d), e1, e2, e3, none] g = .ok (.lst (((List.range 4).filter fun (i : Nat) => (A.sp (i : Int)).isNone).map fun (i : Nat) => D.int (i : Int))) g := by
  have im : ∀ e, iRng1 (vC (.int 4)) e g = .ok (.vals (rngL 0 4)) g := fun e => for_rng1 (n := 4) rfl (by decide) (by decide)
  have r4 : rngL 0 4 = (List.range 4).map fun (i : Nat) => D.int (i : Int) := by
    unfold rngL
    apply List.map_congr_left
    intro i _
    congr 1
    omega
  have hl := lcR_pure (gm := gN 5) (t := tOf (vOp (inC true) (vVar 5) (vOp ixD (vVar 0) (vC (.int 0))))) (m := vVar 5) (e := [some (lpD sp fl), some (.tup c.d), e1, e2, e3, none]) (g := g) (s := .vals (rngL 0 4)) (fun i : Nat => D.int (i : Int)) (fun (i : Nat) => (A.sp (i : Int)).isNone) (fun (i : Nat) => D.int (i : Int)) (List.range 4) (by rw [r4]; rfl) (okL_of (by decide)) (fun i _ => ⟨_, rfl, by
    have ii := in_sp (s := (i : Int)) (neg := true) h
    show tOf (vOp (inC true) (vVar 5) (vOp ixD (vVar 0) (vC (.int 0)))) [some (lpD sp fl), some (.tup c.d), e1, e2, e3, some (.int (i : Int))] g = _
    simp only [tOf_e, vOp_e, vVar_e, List.getElem?_cons_zero, List.getElem?_cons_succ, Res.bind, vC_e, lp0, oR_some, ii, bR_bl]
    cases A.sp (i : Int) <;> rfl, fun _ => rfl⟩)
  simp only [vLc_e, im, Res.bind, wipeE_cons, wipeE_nil, List.set, hl]
theorem lborn_start (o : OkAS A) (h : Rep g sp fl T A) (q : Sep sp fl T) {c : Cl} : m__law_born [lpD sp fl, .tup c.d] g = (match freshA A with
    | none => .ok (.tup [.str 17, .non]) g
    | some y => endM (c__law_born_3 [some (lpD sp fl), some (.tup c.d), some (.lst (.int y :: ((((List.range 4).filter fun (i : Nat) => (A.sp (i : Int)).isNone).map fun (i : Nat) => D.int (i : Int)).drop 1))), none, none, none] g)) := by
  have start : m__law_born [lpD sp fl, .tup c.d] g = endM (b__law_born [some (lpD sp fl), some (.tup c.d), none, none, none, none] g) := rfl
  rw [start]
  unfold b__law_born c__law_born_4
  have fl' := fresh_list h (c := c) (e1 := none) (e2 := none) (e3 := none)
  have nil : ∀ e g, vLst aNil e g = .ok (.lst []) g := fun _ _ => rfl
  have tp : ∀ e g a, vTup (aCons (vC (.str a)) (aCons (vC .non) aNil)) e g = .ok (.tup [.str a, .non]) g := fun _ _ _ => rfl
  have hp := pud_ints ((List.range 4).filter fun (i : Nat) => (A.sp (i : Int)).isNone)
  have hf := fresh_head (A := A)
  simp only [sSeq_e, sAsg_e, fl', sBind, List.set, sIf_e, tOf_e, vOp_e, vVar_e, List.getElem?_cons_zero, List.getElem?_cons_succ, Res.bind, nil]
  generalize (((List.range 4).filter fun (i : Nat) => (A.sp (i : Int)).isNone).map fun (i : Nat) => D.int (i : Int)) = L at *
  have eq : eqD g (.lst L) (.lst []) = some (.bl (deqs L [])) := by
    have z : (pud 8 (snap g (.lst L)) && pud 8 (snap g (.lst []))) = true := by
      have : snap g (.lst L) = .lst L := rfl
      rw [this, hp]
      rfl
    rw [eqD_e z]
    show some (D.bl (deq (.lst L) (.lst []))) = _
    simp [deq]
  rw [eq]
  cases z : freshA A with
  | none =>
    rw [z] at hf
    rw [hf]
    rfl
  | some y =>
    rw [z] at hf
    simp only at hf
    rw [hf]
    rfl
theorem lbegin (o : OkAS A) (h : Rep g sp fl T A) (q : Sep sp fl T) : LawSt g sp fl T (aftA A .begin) (ansD (ansA A .begin)) (m__law_born [lpD sp fl, .tup Cl.begin.d] g) := by
  rw [lborn_start o h q]
  unfold ansA aftA
  simp only
  cases z : freshA A with
  | none => exact LawSt.same h q
  | some y =>
    simp only
    obtain ⟨g', h1, f1, h2, h3⟩ := born_set (S := nilSp) (P' := []) (C' := []) o h q (y := y) (e := [some (lpD sp fl), some (.tup Cl.begin.d), some (.lst (.int y :: ((((List.range 4).filter fun (i : Nat) => (A.sp (i : Int)).isNone).map fun (i : Nat) => D.int (i : Int)).drop 1))), none, none, none]) (m := vTup (aCons (vDct0 false) (aCons (vDct0 true) aNil))) rfl rfl (by
      have : vTup (aCons (vDct0 false) (aCons (vDct0 true) aNil)) [some (lpD sp fl), some (.tup Cl.begin.d), some (.lst (.int y :: ((((List.range 4).filter fun (i : Nat) => (A.sp (i : Int)).isNone).map fun (i : Nat) => D.int (i : Int)).drop 1))), none, none, none] g = .ok (.tup [.ref g.length, .ref (g ++ [Ob.dct false []]).length]) ((g ++ [Ob.dct false []]) ++ [Ob.dct true []]) := rfl
      rw [this, List.length_append]
      rfl) List.nodup_nil List.nodup_nil (fun _ => rfl) (fun _ => rfl)
    refine ⟨g', _, ?_, by have := f1.len; simpa using this, fun i hi hn => ?_, h2, h3, fun i hi => own_put hi (Nat.le_refl _) (by show g.length ≤ g.length + 1; omega)⟩
    · unfold c__law_born_3 c__law_born_2 c__law_born_1
      have tk : ixD g' (.tup Cl.begin.d) (.int 0) = some (.str 9) := rfl
      have t2 : ∀ l, ixD g' (.lst (.int y :: l)) (.int 0) = some (.int y) := fun l => by unfold ixD itD; simp [at0]
      simp only [sSeq_e, h1, sIf_e, tOf_e, vOp_e, vVar_e, List.getElem?_cons_zero, List.getElem?_cons_succ, Res.bind, vC_e, tk, oR_some, eq_str, bR_bl, show (9 == 6) = false from rfl, cond_false, sNx_e, sBind, sRet_e, vTup_s, aCons_e, aNil_e, t2, List.length_cons, List.length_nil, okL_s (show 0 + 1 + 1 < 1000 by decide), endM_rt]
      rfl
    · rw [f1.at_ i (by simpa using hi)]
      exact List.getElem?_set_ne (fun c => hn (.inl c.symm))
theorem putT2 {κ ν : Type} [DecidableEq κ] {ps : List (κ × ν)} {k : κ} {a b : ν} {q : κ} : lkT (putT (putT ps k a) k b) q = lkT (putT ps k b) q := by
  rw [lkT_put, lkT_put, lkT_put]
  split <;> rfl
theorem lfork (o : OkAS A) (h : Rep g sp fl T A) (q : Sep sp fl T) (hS : A.sp s = some S) : LawSt g sp fl T (aftA A (.fork s)) (ansD (ansA A (.fork s))) (m__law_born [lpD sp fl, .tup (Cl.fork s).d] g) := by
  rw [lborn_start o h q]
  unfold ansA aftA
  simp only [hS]
  cases z : freshA A with
  | none => exact LawSt.same h q
  | some y =>
    simp only
    have hy := fresh_ok z
    generalize hls : ((((List.range 4).filter fun (i : Nat) => (A.sp (i : Int)).isNone).map fun (i : Nat) => D.int (i : Int)).drop 1) = ls
    obtain ⟨g', h1, f1, h2, h3⟩ := born_set (S := nilSp) (P' := []) (C' := []) o h q (y := y) (e := [some (lpD sp fl), some (.tup (Cl.fork s).d), some (.lst (.int y :: ls)), none, none, none]) (m := vTup (aCons (vDct0 false) (aCons (vDct0 true) aNil))) rfl rfl (by
      have : vTup (aCons (vDct0 false) (aCons (vDct0 true) aNil)) [some (lpD sp fl), some (.tup (Cl.fork s).d), some (.lst (.int y :: ls)), none, none, none] g = .ok (.tup [.ref g.length, .ref (g ++ [Ob.dct false []]).length]) ((g ++ [Ob.dct false []]) ++ [Ob.dct true []]) := rfl
      rw [this, List.length_append]
      rfl) List.nodup_nil List.nodup_nil (fun _ => rfl) (fun _ => rfl)
    have hne : s ≠ y := fun c => by rw [c, hy.2] at hS; cases hS
    have hS' : updF A.sp y (some nilSp) s = some S := (updF_ne hne).trans hS
    have o' : OkAS ⟨updF A.sp y (some nilSp), A.fl⟩ := o.upd hy.1 ⟨(fun p v e => by cases e), fun k hk => absurd rfl hk⟩
    obtain ⟨x, P, C, e, rr⟩ := h2.of hS'
    have oS := (o.s4 s S hS).2
    have cp1 := copy_T (E := vlE) (m := vVar 3) (e := [some (lpD sp fl), some (.tup (Cl.fork s).d), some (.lst (.int y :: ls)), some (.ref x.1), some (.ref x.2), none]) (g := g') (l := x.1) (ps := P) rfl rr.p rfl
    have cp2 := copy_T (E := ceE) (m := vVar 4) (e := [some (lpD sp fl), some (.tup (Cl.fork s).d), some (.lst (.int y :: ls)), some (.ref x.1), some (.ref x.2), none]) (g := g' ++ [Ob.dct false (vlE.tb P)]) (l := x.2) (ps := C) rfl (Fr.app.get rr.c) (rr.smC oS)
    obtain ⟨g2, b1, b2, b3, b4⟩ := born_set (S := S) (P' := P) (C' := C) o' h2 h3 (y := y) (e := [some (lpD sp fl), some (.tup (Cl.fork s).d), some (.lst (.int y :: ls)), some (.ref x.1), some (.ref x.2), none]) (m := vTup (aCons (vDctC (aCons (vVar 3) aNil)) (aCons (vDctC (aCons (vVar 4) aNil)) aNil))) rfl rfl (by
      have cp2' : vDctC (aCons (vVar 4) aNil) [some (lpD sp fl), some (.tup (Cl.fork s).d), some (.lst (.int y :: ls)), some (.ref x.1), some (.ref x.2), none] (g' ++ [Ob.dct vlE.tk (vlE.tb P)]) = _ := cp2
      simp only [vTup_s, aCons_e, cp1, Res.bind, cp2', aNil_e, List.length_cons, List.length_nil, okL_s (show 0 + 1 + 1 < 1000 by decide), List.length_append]
      rfl) rr.pn rr.cn rr.pk rr.ck
    have ee : updF (updF A.sp y (some nilSp)) y (some S) = updF A.sp y (some S) := by
      funext t
      unfold updF
      split <;> rfl
    have b3' : Rep g2 sp fl (putT (putT T y (g.length, g.length + 1)) y (g'.length, g'.length + 1)) ⟨updF A.sp y (some S), A.fl⟩ := by
      have := b3
      simp only [ee] at this
      exact this
    have l1 : g.length ≤ g'.length := by have := f1.len; simpa using this
    have l2 : g'.length ≤ g2.length := by have := b2.len; simpa using this
    refine ⟨g2, _, ?_, by omega, fun i hi hn => ?_, b3', b4, fun i hi => ?_⟩
    · unfold c__law_born_3 c__law_born_2 c__law_born_1
      have tk : ixD g' (.tup (Cl.fork s).d) (.int 0) = some (.str 6) := rfl
      have tk1 : ixD g' (.tup (Cl.fork s).d) (.int 1) = some (.int s) := rfl
      have t2 : ∀ l, ixD g2 (.lst (.int y :: l)) (.int 0) = some (.int y) := fun l => by unfold ixD itD; simp [at0]
      have tg : sTgt (vOp ixC (vOp ixD (vVar 0) (vC (.int 0))) (vOp ixD (vVar 1) (vC (.int 1)))) (gT 2 (gsC (gN 3) (gsC (gN 4) gsN))) [some (lpD sp fl), some (.tup (Cl.fork s).d), some (.lst (.int y :: ls)), none, none, none] g' = .nx [some (lpD sp fl), some (.tup (Cl.fork s).d), some (.lst (.int y :: ls)), some (.ref x.1), some (.ref x.2), none] g' := by
        unfold sTgt
        simp only [vOp_e, vVar_e, List.getElem?_cons_zero, List.getElem?_cons_succ, Res.bind, vC_e, lp0, tk1, oR_some, ix_sp h2 e, sBind]
        rfl
      simp only [sSeq_e, h1, sIf_e, tOf_e, vOp_e, vVar_e, List.getElem?_cons_zero, List.getElem?_cons_succ, Res.bind, vC_e, tk, oR_some, eq_str, bR_bl, show (6 == 6) = true from rfl, cond_true, sBind]
      rw [tg]
      simp only []
      rw [b1]
      simp only [sRet_e, vTup_s, aCons_e, vOp_e, vVar_e, List.getElem?_cons_zero, List.getElem?_cons_succ, Res.bind, vC_e, oR_some, aNil_e, t2, List.length_cons, List.length_nil, okL_s (show 0 + 1 + 1 < 1000 by decide), sBind, endM_rt]
      rfl
    · rw [b2.at_ i (by simp; omega), List.getElem?_set_ne (fun c => hn (.inl c.symm)), f1.at_ i (by simpa using hi)]
      exact List.getElem?_set_ne (fun c => hn (.inl c.symm))
    · rcases own_put (g := g') hi (Nat.le_refl _) (by show g'.length ≤ g'.length + 1; omega) with z | z
      · exact own_put z (Nat.le_refl _) (by show g.length ≤ g.length + 1; omega)
      · exact .inr (by omega)
end

def hp (g : G) (x : Nat × Nat) (P : List (Int × Vl)) (C : List ((Int × Int) × Int)) : G := (g.set x.1 (.dct false (vlE.tb P))).set x.2 (.dct true (ceE.tb C))
def lbody : SM := (sIf (tOf (vOp eqD (vVar 2) (vC (.str 12)))) (sSeq (sAsg 7 (vOp ixD (vVar 1) (vC (.int 5)))) (sSubC (vVar 3) (vVar 6) (vTup (aCons (vOp ixD (vVar 1) (vC (.int 4))) (aCons (vIf (tOf (vOp isN (vVar 7) (vC .non))) (vC .non) (vTup (aCons (vOp ixD (vVar 7) (vC (.int 0))) (aCons (vOp subD (vOp addD (vOp ixD (vVar 7) (vC (.int 1))) (vVar 6)) (vOp ixD (vVar 1) (vC (.int 2)))) aNil)))) aNil))))) (sIf (tAnd (tOf (vOp (inC false) (vVar 6) (vVar 3))) (tOf (vOp eqD (vVar 2) (vC (.str 4))))) (sSubC (vVar 3) (vVar 6) (vTup (aCons (vOp ixD (vVar 1) (vC (.int 4))) (aCons (vOp ixD (vOp ixC (vVar 3) (vVar 6)) (vC (.int 1))) aNil)))) (sIf (tOf (vOp (inC false) (vVar 6) (vVar 3))) (sSeq (sDrop (vDPopX (vVar 3) (aCons (vVar 6) aNil))) c__law_does_3) sNx)))
theorem does4 : c__law_does_4 = sSeq (sFor (iLst (vVar 5)) (gN 6) lbody) c__law_does_1 := rfl
section
variable {Q : Nat → Prop} {g g' g1 : G} {sp fl st : Nat} {T T' : List (Int × Nat × Nat)} {A A' : AS} {x : Nat × Nat} {P P' : List (Int × Vl)} {C C' : List ((Int × Int) × Int)} {S S' : Sp} {F : List ((Int × Int × Int) × Int)} {s p i n : Int} {v : Vl} {r : Nat}
theorem hp_at (h1 : x.1 < g.length) (h2 : x.2 < g.length) (h : x.1 ≠ x.2) : (hp g x P C)[x.1]? = some (.dct false (vlE.tb P)) ∧ (hp g x P C)[x.2]? = some (.dct true (ceE.tb C)) := by
  unfold hp
  exact ⟨by rw [List.getElem?_set_ne (Ne.symm h), List.getElem?_set_self h1], by rw [List.getElem?_set_self (by simpa using h2)]⟩
theorem hp_s1 (h : x.1 ≠ x.2) : (hp g x P C).set x.1 (.dct false (vlE.tb P')) = hp g x P' C := by
  unfold hp
  rw [List.set_comm _ _ (Ne.symm h), List.set_set]
theorem hp_s2 : (hp g x P C).set x.2 (.dct true (ceE.tb C')) = hp g x P C' := by
  unfold hp
  rw [List.set_set]
theorem hp_0 (h : SpR g x P C S) : hp g x P C = g := by
  unfold hp
  have l1 := (List.getElem?_eq_some_iff.mp h.p).1
  have e1 : g[x.1] = .dct false (vlE.tb P) := (List.getElem?_eq_some_iff.mp h.p).2
  have l2 := (List.getElem?_eq_some_iff.mp h.c).1
  have e2 : g[x.2] = .dct true (ceE.tb C) := (List.getElem?_eq_some_iff.mp h.c).2
  rw [← e1, List.set_getElem_self l1, ← e2, List.set_getElem_self l2]
theorem hp_ne {i : Nat} (h1 : i ≠ x.1) (h2 : i ≠ x.2) : (hp g x P C)[i]? = g[i]? := by
  unfold hp
  rw [List.getElem?_set_ne (Ne.symm h2), List.getElem?_set_ne (Ne.symm h1)]
/-- the loop has ended -/
theorem lfin (h : Rep g sp fl T A) (q : Sep sp fl T) (e : lkT T s = some x) (r : SpR g x P C S) (hP : NdT P') (hC : NdT C') (pk : ∀ q, lkT P' q = S'.pg q) (ck : ∀ k, lkT C' k = nz (S'.cl k)) {d : D} : LawSt g sp fl T ⟨updF A.sp s (some S'), A.fl⟩ d (.ok d (hp g x P' C')) := by
  obtain ⟨q1, q2, q3, q4, q5⟩ := q.a s x e
  have l1 := (List.getElem?_eq_some_iff.mp r.p).1
  have l2 := (List.getElem?_eq_some_iff.mp r.c).1
  obtain ⟨a1, a2⟩ := hp_at (P := P') (C := C') l1 l2 q1
  exact ⟨_, T, rfl, by unfold hp; simp, fun i hi hn => hp_ne (fun c => hn (.inr (.inr ⟨s, x, e, .inl c⟩))) (fun c => hn (.inr (.inr ⟨s, x, e, .inr c⟩))), h.setSp q e (P' := P') (C' := C') (fun i b1 b2 => hp_ne b1 b2) ⟨a1, a2, hP, hC, pk, ck⟩, q, fun i hi => .inl hi⟩
abbrev lE (sp fl : Nat) (ds : List D) (k : Nat) (x : Nat × Nat) (w y6 y7 : Option D) : En := [some (lpD sp fl), some (.tup ds), some (.str k), some (.ref x.1), some (.ref x.2), w, y6, y7]
theorem lloop (q : Sep sp fl T) (e : lkT T s = some x) (r : SpR g x P C S) (o : OkSp S) {k : Nat} {ds : List D} {w : Option D} {m : Nat} (f : Nat → Int → Option Vl) (u : Nat → Int × Int → Option Int) (hm : m ≤ 8)
    (f0 : ∀ q, f 0 q = S.pg q) (u0 : ∀ k, u 0 k = nz (S.cl k))
    (step : ∀ (j : Nat) (P' : List (Int × Vl)) (C' : List ((Int × Int) × Int)) (y7 : Option D), j < m → NdT P' → NdT C' → P'.length < 100 → (∀ q, lkT P' q = f j q) → (∀ k, lkT C' k = u j k) → (hp g x P' C')[x.1]? = some (.dct false (vlE.tb P')) → (hp g x P' C')[x.2]? = some (.dct true (ceE.tb C')) →
      ∃ P2 C2 y7', lbody (lE sp fl ds k x w (some (.int (p + (j : Int)))) y7) (hp g x P' C') = .nx (lE sp fl ds k x w (some (.int (p + (j : Int)))) y7') (hp g x P2 C2) ∧ NdT P2 ∧ NdT C2 ∧ P2.length ≤ P'.length + 1 ∧ (∀ q, lkT P2 q = f (j + 1) q) ∧ (∀ k, lkT C2 k = u (j + 1) k)) :
    ∃ e' P2 C2, loopL (gN 6) lbody (rngL p m) (lE sp fl ds k x w none none) g = .nx e' (hp g x P2 C2) ∧ NdT P2 ∧ NdT C2 ∧ (∀ q, lkT P2 q = f m q) ∧ (∀ k, lkT C2 k = u m k) := by
  obtain ⟨q1, q2, q3, q4, q5⟩ := q.a s x e
  have l1 := (List.getElem?_eq_some_iff.mp r.p).1
  have l2 := (List.getElem?_eq_some_iff.mp r.c).1
  obtain ⟨e', g2, lp, P2, C2, y6, y7, _, rfl, a1, a2, _, a3, a4⟩ := loop_nx (gm := gN 6) (b := lbody) (lo := p) (n := m) (e := lE sp fl ds k x w none none) (g := g)
    (fun j e g2 => ∃ (P' : List (Int × Vl)) (C' : List ((Int × Int) × Int)) (y6 y7 : Option D), e = lE sp fl ds k x w y6 y7 ∧ g2 = hp g x P' C' ∧ NdT P' ∧ NdT C' ∧ P'.length ≤ 8 + j ∧ (∀ q, lkT P' q = f j q) ∧ ∀ k, lkT C' k = u j k)
    ⟨P, C, none, none, rfl, (hp_0 r).symm, r.pn, r.cn, by have := r.lenP o; omega, fun q => (r.pk q).trans (f0 q).symm, fun k => (r.ck k).trans (u0 k).symm⟩ (fun j e2 g2 hj ⟨P', C', y6, y7, he, hg, b1, b2, b3, b4, b5⟩ => by
      subst he hg
      obtain ⟨c1, c2⟩ := hp_at (P := P') (C := C') l1 l2 q1
      obtain ⟨P3, C3, y7', d1, d2, d3, d4, d5, d6⟩ := step j P' C' y7 hj b1 b2 (by omega) b4 b5 c1 c2
      exact ⟨_, _, _, rfl, d1, P3, C3, _, y7', rfl, rfl, d2, d3, by omega, d5, d6⟩)
  exact ⟨e', P2, C2, lp, a1, a2, a3, a4⟩
theorem stepF {f0 : Int → Option Vl} {j : Nat} {q : Int} {a : Option Vl} {c : Int → Option Vl} (hq : c q = a) : (if p ≤ q ∧ q < p + ((j + 1 : Nat) : Int) then c q else f0 q) = if q = p + (j : Int) ∧ p ≤ q then a else if p ≤ q ∧ q < p + (j : Int) then c q else f0 q := by
  by_cases h : q = p + (j : Int) ∧ p ≤ q
  · rw [if_pos h, if_pos (by omega), hq]
  · rw [if_neg h]
    by_cases h2 : p ≤ q ∧ q < p + (j : Int)
    · rw [if_pos h2, if_pos (by omega)]
    · rw [if_neg h2, if_neg (by omega)]
theorem lmap_loop (q : Sep sp fl T) (e : lkT T s = some x) (rr : SpR g x P C S) (o : OkSp S) (hr : rngOk p n) {c : Option (Int × Int)} {w : Option D} : ∃ e' P2 C2, loopL (gN 6) lbody (rngL p n.toNat) (lE sp fl (Cl.map s p n r c).d 12 x w none none) g = .nx e' (hp g x P2 C2) ∧ NdT P2 ∧ NdT C2 ∧ (∀ q, lkT P2 q = mapPg S p n r c q) ∧ (∀ k, lkT C2 k = nz (S.cl k)) := by
  obtain ⟨r1, r2, r3, r4⟩ := hr
  obtain ⟨q1, q2, q3, q4, q5⟩ := q.a s x e
  obtain ⟨e', P2, C2, a1, a2, a3, a4, a5⟩ := lloop (p := p) (m := n.toNat) (k := 12) (ds := (Cl.map s p n r c).d) (w := w) q e rr o (mapT S p r c) (fun _ k => nz (S.cl k)) (by omega) (fun q => by unfold mapT; rw [if_neg (by omega)]) (fun _ => rfl) (fun j P' C' y7 hj b1 b2 b3 b4 b5 b6 b7 => by
    have i4 : ∀ g, ixD g (.tup (Cl.map s p n r c).d) (.int 4) = some (.str r) := fun _ => rfl
    have i5 : ∀ g, ixD g (.tup (Cl.map s p n r c).d) (.int 5) = some (srcD c) := fun _ => rfl
    have i2 : ∀ g, ixD g (.tup (Cl.map s p n r c).d) (.int 2) = some (.int p) := fun _ => rfl
    have tp : vTup (aCons (vOp ixD (vVar 1) (vC (.int 4))) (aCons (vIf (tOf (vOp isN (vVar 7) (vC .non))) (vC .non) (vTup (aCons (vOp ixD (vVar 7) (vC (.int 0))) (aCons (vOp subD (vOp addD (vOp ixD (vVar 7) (vC (.int 1))) (vVar 6)) (vOp ixD (vVar 1) (vC (.int 2)))) aNil)))) aNil)) (lE sp fl (Cl.map s p n r c).d 12 x w (some (.int (p + (j : Int)))) (some (srcD c))) (hp g x P' C') = .ok (valD (r, shf c (j : Int))) (hp g x P' C') := by
      cases c with
      | none => rfl
      | some y =>
        have j0 : ∀ g, ixD g (srcD (some y)) (.int 0) = some (.int y.1) := fun g => by unfold srcD; rw [ixD_tup, at0]
        have j1 : ∀ g, ixD g (srcD (some y)) (.int 1) = some (.int y.2) := fun g => by unfold srcD; rw [ixD_tup, at1]
        have nd : nonD (srcD (some y)) = false := rfl
        have sd : ∀ g a b, subD g (.int a) (.int b) = some (.int (a - b)) := fun _ _ _ => rfl
        simp only [vTup_s, aCons_e, vOp_e, vVar_e, List.getElem?_cons_zero, List.getElem?_cons_succ, Res.bind, vC_e, i4, i2, oR_some, vIf_e, tOf_e, isN_e, nd, bR_bl, cond_false, j0, j1, addD_int, sd, aNil_e, List.length_cons, List.length_nil, okL_s (show 0 + 1 + 1 < 1000 by decide)]
        have : y.2 + (p + (j : Int)) - p = y.2 + (j : Int) := by omega
        rw [this]
        rfl
    have sb := sub_T (E := vlE) (o := vVar 3) (i := vVar 6) (e := lE sp fl (Cl.map s p n r c).d 12 x w (some (.int (p + (j : Int)))) (some (srcD c))) (g := hp g x P' C') (g1 := hp g x P' C') (l := x.1) (ps := P') (k := p + (j : Int)) (v := (r, shf c (j : Int))) tp rfl rfl b6 (by omega)
    refine ⟨putT P' (p + (j : Int)) (r, shf c (j : Int)), C', some (srcD c), ?_, put_ndT b1, b2, put_lenT, fun q => ?_, b5⟩
    · unfold lbody
      simp only [sIf_e, tOf_e, vOp_e, vVar_e, List.getElem?_cons_zero, List.getElem?_cons_succ, Res.bind, vC_e, eq_str, oR_some, bR_bl, sBind, show (12 == 12) = true from rfl, cond_true, sSeq_e, sAsg_e, i5, List.set]
      rw [show (vlE.tk) = false from rfl, hp_s1 q1] at sb
      exact sb
    · rw [lkT_put]
      unfold mapT
      by_cases z : q = p + (j : Int)
      · rw [if_pos z, if_pos (by omega), show q - p = (j : Int) by omega]
      · rw [if_neg z, b4]
        unfold mapT
        by_cases z2 : p ≤ q ∧ q < p + (j : Int)
        · rw [if_pos z2, if_pos (by omega)]
        · rw [if_neg z2, if_neg (by omega)])
  refine ⟨e', P2, C2, a1, a2, a3, fun q => ?_, a5⟩
  rw [a4]
  unfold mapT mapPg shf
  simp only [show ((n.toNat : Nat) : Int) = n from by omega]
theorem lpro_loop (q : Sep sp fl T) (e : lkT T s = some x) (rr : SpR g x P C S) (o : OkSp S) (hr : rngOk p n) {w : Option D} : ∃ e' P2 C2, loopL (gN 6) lbody (rngL p n.toNat) (lE sp fl (Cl.protect s p n r).d 4 x w none none) g = .nx e' (hp g x P2 C2) ∧ NdT P2 ∧ NdT C2 ∧ (∀ q, lkT P2 q = proPg S p n r q) ∧ (∀ k, lkT C2 k = nz (S.cl k)) := by
  obtain ⟨r1, r2, r3, r4⟩ := hr
  obtain ⟨q1, q2, q3, q4, q5⟩ := q.a s x e
  obtain ⟨e', P2, C2, a1, a2, a3, a4, a5⟩ := lloop (p := p) (m := n.toNat) (k := 4) (ds := (Cl.protect s p n r).d) (w := w) q e rr o (proT S p r) (fun _ k => nz (S.cl k)) (by omega) (fun q => by unfold proT; rw [if_neg (by omega)]) (fun _ => rfl) (fun j P' C' y7 hj b1 b2 b3 b4 b5 b6 b7 => by
    have i4 : ∀ g, ixD g (.tup (Cl.protect s p n r).d) (.int 4) = some (.str r) := fun _ => rfl
    have hj0 : lkT P' (p + (j : Int)) = S.pg (p + (j : Int)) := by rw [b4]; unfold proT; rw [if_neg (by omega)]
    have ic : inC false (hp g x P' C') (.int (p + (j : Int))) (.ref x.1) = some (.bl (S.pg (p + (j : Int))).isSome) := by
      rw [show D.int (p + (j : Int)) = vlE.ek (p + (j : Int)) from rfl, inC_T (E := vlE) b6, hj0, Bool.bne_false]
    have hstep : ∀ q, proT S p r (j + 1) q = if q = p + (j : Int) then (S.pg q).map fun v => (r, v.2) else proT S p r j q := fun q => by
      unfold proT
      by_cases c : q = p + (j : Int)
      · rw [if_pos c, if_pos (by omega)]
      · rw [if_neg c]
        by_cases c2 : p ≤ q ∧ q < p + (j : Int)
        · rw [if_pos c2, if_pos (by omega)]
        · rw [if_neg c2, if_neg (by omega)]
    cases z : S.pg (p + (j : Int)) with
    | none =>
      rw [z] at ic
      refine ⟨P', C', y7, ?_, b1, b2, Nat.le_succ _, fun q => ?_, b5⟩
      · unfold lbody
        simp only [sIf_e, tAnd_e, tOf_e, vOp_e, vVar_e, List.getElem?_cons_zero, List.getElem?_cons_succ, Res.bind, vC_e, eq_str, oR_some, bR_bl, sBind, show (4 == 12) = false from rfl, cond_false, ic, Option.isSome_none, sNx_e]
      · rw [hstep, b4]
        by_cases c : q = p + (j : Int)
        · rw [if_pos c, c, z]; unfold proT; rw [if_neg (by omega), z]; rfl
        · rw [if_neg c]
    | some v =>
      rw [z] at ic
      have ix : ixC (hp g x P' C') (.ref x.1) (.int (p + (j : Int))) = some (valD v) := ixC_T (E := vlE) (by rw [b6]; rfl) (hj0.trans z)
      have tp : vTup (aCons (vOp ixD (vVar 1) (vC (.int 4))) (aCons (vOp ixD (vOp ixC (vVar 3) (vVar 6)) (vC (.int 1))) aNil)) (lE sp fl (Cl.protect s p n r).d 4 x w (some (.int (p + (j : Int)))) y7) (hp g x P' C') = .ok (valD (r, v.2)) (hp g x P' C') := by
        simp only [vTup_s, aCons_e, vOp_e, vVar_e, List.getElem?_cons_zero, List.getElem?_cons_succ, Res.bind, vC_e, i4, oR_some, ix, vl1, aNil_e, List.length_cons, List.length_nil, okL_s (show 0 + 1 + 1 < 1000 by decide)]
        rfl
      have sb := sub_T (E := vlE) (o := vVar 3) (i := vVar 6) (e := lE sp fl (Cl.protect s p n r).d 4 x w (some (.int (p + (j : Int)))) y7) (g := hp g x P' C') (g1 := hp g x P' C') (l := x.1) (ps := P') (k := p + (j : Int)) (v := (r, v.2)) tp rfl rfl b6 (by omega)
      refine ⟨putT P' (p + (j : Int)) (r, v.2), C', y7, ?_, put_ndT b1, b2, put_lenT, fun q => ?_, b5⟩
      · unfold lbody
        simp only [sIf_e, tAnd_e, tOf_e, vOp_e, vVar_e, List.getElem?_cons_zero, List.getElem?_cons_succ, Res.bind, vC_e, eq_str, oR_some, bR_bl, sBind, show (4 == 12) = false from rfl, show (4 == 4) = true from rfl, cond_false, ic, Option.isSome_some, cond_true]
        rw [show (vlE.tk) = false from rfl, hp_s1 q1] at sb
        exact sb
      · rw [hstep, lkT_put, b4]
        by_cases c : q = p + (j : Int)
        · rw [if_pos c, if_pos c, c, z]; rfl
        · rw [if_neg c, if_neg c])
  refine ⟨e', P2, C2, a1, a2, a3, fun q => ?_, a5⟩
  rw [a4]
  unfold proT proPg
  simp only [show ((n.toNat : Nat) : Int) = n from by omega]
theorem lcut_loop (q : Sep sp fl T) (e : lkT T s = some x) (rr : SpR g x P C S) (o : OkSp S) (hr : rngOk p n) {w : Option D} : ∃ e' P2 C2, loopL (gN 6) lbody (rngL p n.toNat) (lE sp fl (Cl.unmap s p n).d 5 x w none none) g = .nx e' (hp g x P2 C2) ∧ NdT P2 ∧ NdT C2 ∧ (∀ q, lkT P2 q = (cutSp S p n).pg q) ∧ (∀ k, lkT C2 k = nz ((cutSp S p n).cl k)) := by
  obtain ⟨r1, r2, r3, r4⟩ := hr
  obtain ⟨q1, q2, q3, q4, q5⟩ := q.a s x e
  obtain ⟨e', P2, C2, a1, a2, a3, a4, a5⟩ := lloop (p := p) (m := n.toNat) (k := 5) (ds := (Cl.unmap s p n).d) (w := w) q e rr o (fun j q => if p ≤ q ∧ q < p + (j : Int) then none else S.pg q) (fun j k => if p ≤ k.1 ∧ k.1 < p + (j : Int) then none else nz (S.cl k)) (by omega) (fun q => by rw [if_neg (by omega)]) (fun k => by rw [if_neg (by omega)]) (fun j P' C' y7 hj b1 b2 b3 b4 b5 b6 b7 => by
    have hj0 : lkT P' (p + (j : Int)) = S.pg (p + (j : Int)) := by rw [b4]; rw [if_neg (by omega)]
    have ic : inC false (hp g x P' C') (.int (p + (j : Int))) (.ref x.1) = some (.bl (S.pg (p + (j : Int))).isSome) := by
      rw [show D.int (p + (j : Int)) = vlE.ek (p + (j : Int)) from rfl, inC_T (E := vlE) b6, hj0, Bool.bne_false]
    cases z : S.pg (p + (j : Int)) with
    | none =>
      rw [z] at ic
      refine ⟨P', C', y7, ?_, b1, b2, Nat.le_succ _, fun q => ?_, fun k => ?_⟩
      · unfold lbody
        simp only [sIf_e, tAnd_e, tOf_e, vOp_e, vVar_e, List.getElem?_cons_zero, List.getElem?_cons_succ, Res.bind, vC_e, eq_str, oR_some, bR_bl, sBind, show (5 == 12) = false from rfl, cond_false, ic, Option.isSome_none, sNx_e]
      · rw [b4]
        by_cases c : q = p + (j : Int)
        · rw [if_neg (by omega), if_pos (by omega), c, z]
        · by_cases c2 : p ≤ q ∧ q < p + (j : Int)
          · rw [if_pos c2, if_pos (by omega)]
          · rw [if_neg c2, if_neg (by omega)]
      · rw [b5]
        by_cases c : k.1 = p + (j : Int)
        · rw [if_neg (by omega), if_pos (by omega)]
          unfold nz
          by_cases c3 : S.cl k = 0
          · rw [if_pos c3]
          · have := (o.cl k c3).2.2
            rw [c, z] at this
            cases this
        · by_cases c2 : p ≤ k.1 ∧ k.1 < p + (j : Int)
          · rw [if_pos c2, if_pos (by omega)]
          · rw [if_neg c2, if_neg (by omega)]
    | some v =>
      rw [z] at ic
      have pp := pop1_T (E := vlE) rfl (fun _ => rfl) (o := vVar 3) (m := vVar 6) (e := lE sp fl (Cl.unmap s p n).d 5 x w (some (.int (p + (j : Int)))) y7) (g := hp g x P' C') (l := x.1) (ps := P') (k := p + (j : Int)) (v := v) rfl rfl b6 (hj0.trans z)
      rw [show (vlE.tk) = false from rfl, hp_s1 q1] at pp
      obtain ⟨c1, c2⟩ := hp_at (P := delT P' (p + (j : Int))) (C := C') (List.getElem?_eq_some_iff.mp rr.p).1 (List.getElem?_eq_some_iff.mp rr.c).1 q1
      obtain ⟨z1, p1⟩ := pop2_T (E := ceE) (o := vVar 4) (m := vTup (aCons (vVar 6) (aCons (vC (.int 0)) aNil))) (n := vC .non) (e := lE sp fl (Cl.unmap s p n).d 5 x w (some (.int (p + (j : Int)))) y7) (g := hp g x (delT P' (p + (j : Int))) C') (l := x.2) (ps := C') (k := (p + (j : Int), 0)) (d := .non) rfl rfl rfl c2
      rw [show (ceE.tk) = true from rfl, hp_s2] at p1
      obtain ⟨c3, c4⟩ := hp_at (P := delT P' (p + (j : Int))) (C := delT C' (p + (j : Int), 0)) (List.getElem?_eq_some_iff.mp rr.p).1 (List.getElem?_eq_some_iff.mp rr.c).1 q1
      obtain ⟨z2, p2⟩ := pop2_T (E := ceE) (o := vVar 4) (m := vTup (aCons (vVar 6) (aCons (vC (.int 1)) aNil))) (n := vC .non) (e := lE sp fl (Cl.unmap s p n).d 5 x w (some (.int (p + (j : Int)))) y7) (g := hp g x (delT P' (p + (j : Int))) (delT C' (p + (j : Int), 0))) (l := x.2) (ps := delT C' (p + (j : Int), 0)) (k := (p + (j : Int), 1)) (d := .non) rfl rfl rfl c4
      rw [show (ceE.tk) = true from rfl, hp_s2] at p2
      refine ⟨delT P' (p + (j : Int)), delT (delT C' (p + (j : Int), 0)) (p + (j : Int), 1), y7, ?_, del_ndT b1, del_ndT (del_ndT b2), by have := del_lenT (ps := P') (k := p + (j : Int)); omega, fun q => ?_, fun k => ?_⟩
      · unfold lbody c__law_does_3 c__law_does_2
        simp only [sIf_e, tAnd_e, tOf_e, vOp_e, vVar_e, List.getElem?_cons_zero, List.getElem?_cons_succ, Res.bind, vC_e, eq_str, oR_some, bR_bl, sBind, show (5 == 12) = false from rfl, show (5 == 4) = false from rfl, cond_false, ic, Option.isSome_some, cond_true, sSeq_e, sDrop_e]
        rw [pp]
        simp only [sBind]
        rw [p1]
        simp only [sBind]
        rw [p2]
      · rw [lkT_del, b4]
        by_cases c : q = p + (j : Int)
        · rw [if_pos c, if_pos (by omega)]
        · rw [if_neg c]
          by_cases c2 : p ≤ q ∧ q < p + (j : Int)
          · rw [if_pos c2, if_pos (by omega)]
          · rw [if_neg c2, if_neg (by omega)]
      · rw [lkT_del, lkT_del, b5]
        by_cases c : k.1 = p + (j : Int)
        · rw [if_pos (show p ≤ k.1 ∧ k.1 < p + ((j + 1 : Nat) : Int) by omega)]
          by_cases d1 : k = (p + (j : Int), 1)
          · rw [if_pos d1]
          · rw [if_neg d1]
            by_cases d0 : k = (p + (j : Int), 0)
            · rw [if_pos d0]
            · rw [if_neg d0, if_neg (by omega)]
              unfold nz
              by_cases c3 : S.cl k = 0
              · rw [if_pos c3]
              · obtain ⟨k0, k1, _⟩ := o.cl k c3
                exfalso
                have : k.2 = 0 ∨ k.2 = 1 := by omega
                rcases this with t | t
                · exact d0 (Prod.ext c t)
                · exact d1 (Prod.ext c t)
        · rw [if_neg (fun d => c (by rw [d])), if_neg (fun d => c (by rw [d]))]
          by_cases c2 : p ≤ k.1 ∧ k.1 < p + (j : Int)
          · rw [if_pos c2, if_pos (by omega)]
          · rw [if_neg c2, if_neg (by omega)])
  refine ⟨e', P2, C2, a1, a2, a3, fun q => ?_, fun k => ?_⟩
  · rw [a4]
    unfold cutSp
    simp only [show ((n.toNat : Nat) : Int) = n from by omega]
  · rw [a5]
    unfold cutSp
    simp only [show ((n.toNat : Nat) : Int) = n from by omega]
    by_cases c : p ≤ k.1 ∧ k.1 < p + n
    · rw [if_pos c, if_pos c]; rfl
    · rw [if_neg c, if_neg c]
end

section
variable {Q : Nat → Prop} {g g' g1 : G} {sp fl st : Nat} {T T' : List (Int × Nat × Nat)} {A A' : AS} {x : Nat × Nat} {P P' : List (Int × Vl)} {C C' : List ((Int × Int) × Int)} {S S' : Sp} {F : List ((Int × Int × Int) × Int)} {s p i n : Int} {v : Vl} {r : Nat}
theorem Rep.delM (h : Rep g sp fl T A) (q : Sep sp fl T) : Rep (g.set sp (.dct false (spE.tb (delT T s)))) sp fl (delT T s) ⟨updF A.sp s none, A.fl⟩ := by
  have lsp := h.own (i := sp) (.inl rfl)
  refine ⟨List.getElem?_set_self lsp, del_ndT h.n, fun t y e' => ?_, fun t e' => ?_, ?_⟩
  · rw [lkT_del] at e'
    by_cases c : t = s
    · rw [if_pos c] at e'; cases e'
    · rw [if_neg c] at e'
      obtain ⟨P1, C1, S1, a, b⟩ := h.s t y e'
      obtain ⟨_, z2, z3, _⟩ := q.a t y e'
      exact ⟨P1, C1, S1, (updF_ne c).trans a, b.le (List.getElem?_set_ne z2) (List.getElem?_set_ne z3)⟩
  · rw [lkT_del] at e'
    by_cases c : t = s
    · subst c; exact updF_same
    · rw [if_neg c] at e'
      exact (updF_ne c).trans (h.z t e')
  · obtain ⟨F, a, b, c⟩ := h.f
    exact ⟨F, (List.getElem?_set_ne q.sf).trans a, b, c⟩
theorem ltup {ds : List D} {w : Nat} {e2 e3 e4 e5 e6 e7 : Option D} (h0 : ixD g (.tup ds) (.int 0) = some (.str w)) : endM (b__law_does [some (lpD sp fl), some (.tup ds), e2, e3, e4, e5, e6, e7] g) = endM (c__law_does_12 [some (lpD sp fl), some (.tup ds), some (.str w), e3, e4, e5, e6, e7] g) := by
  unfold b__law_does
  simp only [sSeq_e, sAsg_e, vOp_e, vVar_e, List.getElem?_cons_zero, List.getElem?_cons_succ, Res.bind, vC_e, h0, oR_some, sBind, List.set]
theorem does_run (o : OkAS A) (h : Rep g sp fl T A) (q : Sep sp fl T) {c : Cl} (hc : c.ok) : LawSt g sp fl T (aftA A c) (ansD (ansA A c)) (m__law_does [lpD sp fl, .tup c.d] g) := by
  have start : m__law_does [lpD sp fl, .tup c.d] g = endM (b__law_does [some (lpD sp fl), some (.tup c.d), none, none, none, none, none, none] g) := rfl
  have kd : ∃ w r, c.d = .str w :: r := by cases c <;> exact ⟨_, _, rfl⟩
  obtain ⟨w, rs, hw⟩ := kd
  have kd1 : ixD g (.tup c.d) (.int 0) = some (.str w) := by rw [hw, ixD_tup, at0]
  rw [start, ltup kd1]
  have t2 : ∀ e g a b, vTup (aCons (vC (.str a)) (aCons (vC (.str b)) aNil)) e g = .ok (.tup [.str a, .str b]) g := fun _ _ _ _ => rfl
  have t3 : ∀ e g a b c, vTup (aCons (vC (.str a)) (aCons (vC (.str b)) (aCons (vC (.str c)) aNil))) e g = .ok (.tup [.str a, .str b, .str c]) g := fun _ _ _ _ _ => rfl
  have tp : ∀ e g a, vTup (aCons (vC (.str a)) (aCons (vC .non) aNil)) e g = .ok (.tup [.str a, .non]) g := fun _ _ _ => rfl
  -- the uses
  have use : ∀ k, (3 == k || (7 == k || 8 == k)) = true → endM (c__law_does_12 [some (lpD sp fl), some (.tup c.d), some (.str k), none, none, none, none, none] g) = m__law_cells [lpD sp fl, .tup c.d] g := fun k hk => by
    unfold c__law_does_12
    simp only [sSeq_e, sIf_e, tOf_e, vOp_e, vVar_e, List.getElem?_cons_zero, List.getElem?_cons_succ, Res.bind, t3, in_str3, hk, oR_some, bR_bl, sBind, cond_true, sRet_e, vCall_e, aCons_e, aNil_e]
    cases m__law_cells [lpD sp fl, .tup c.d] g <;> rfl
  have rest : ∀ k, (3 == k || (7 == k || 8 == k)) = false → (10 == k || 11 == k) = false → endM (c__law_does_12 [some (lpD sp fl), some (.tup c.d), some (.str k), none, none, none, none, none] g) = endM (c__law_does_10 [some (lpD sp fl), some (.tup c.d), some (.str k), none, none, none, none, none] g) := fun k hk hk2 => by
    unfold c__law_does_12 c__law_does_11
    simp only [sSeq_e, sIf_e, tOf_e, vOp_e, vVar_e, List.getElem?_cons_zero, List.getElem?_cons_succ, Res.bind, t3, t2, in_str3, in_str2, hk, hk2, oR_some, bR_bl, sBind, cond_false, sNx_e]
  have quiet : ∀ k, (3 == k || (7 == k || 8 == k)) = false → (10 == k || 11 == k) = true → endM (c__law_does_12 [some (lpD sp fl), some (.tup c.d), some (.str k), none, none, none, none, none] g) = .ok (.tup [.str 15, .non]) g := fun k hk hk2 => by
    unfold c__law_does_12 c__law_does_11
    simp only [sSeq_e, sIf_e, tOf_e, vOp_e, vVar_e, List.getElem?_cons_zero, List.getElem?_cons_succ, Res.bind, t3, t2, in_str3, in_str2, hk, hk2, oR_some, bR_bl, sBind, cond_false, cond_true, sNx_e, sRet_e, tp, endM_rt]
  -- a space that is not there, or is
  have gone : ∀ k s, (k == 9) = false → ixD g (.tup c.d) (.int 1) = some (.int s) → A.sp s = none → endM (c__law_does_10 [some (lpD sp fl), some (.tup c.d), some (.str k), none, none, none, none, none] g) = .ok (.tup [.str 18, .non]) g := fun k s hk h1 hs => by
    unfold c__law_does_10
    simp only [sSeq_e, sIf_e, tAnd_e, tOf_e, vOp_e, vVar_e, List.getElem?_cons_zero, List.getElem?_cons_succ, Res.bind, vC_e, ne_str, hk, h1, lp0, in_sp h, hs, oR_some, bR_bl, sBind, Bool.not_false, cond_true, Option.isSome_none, Bool.false_bne, sRet_e, tp, endM_rt]
  have there : ∀ k s S, (k == 9) = false → ixD g (.tup c.d) (.int 1) = some (.int s) → A.sp s = some S → endM (c__law_does_10 [some (lpD sp fl), some (.tup c.d), some (.str k), none, none, none, none, none] g) = endM (c__law_does_9 [some (lpD sp fl), some (.tup c.d), some (.str k), none, none, none, none, none] g) := fun k s S hk h1 hs => by
    unfold c__law_does_10
    simp only [sSeq_e, sIf_e, tAnd_e, tOf_e, vOp_e, vVar_e, List.getElem?_cons_zero, List.getElem?_cons_succ, Res.bind, vC_e, ne_str, hk, h1, lp0, in_sp h, hs, oR_some, bR_bl, sBind, Bool.not_false, cond_true, Option.isSome_some, bne_self_eq_false, cond_false, sNx_e]
  have born : ∀ k, (9 == k || 6 == k) = true → endM (c__law_does_9 [some (lpD sp fl), some (.tup c.d), some (.str k), none, none, none, none, none] g) = m__law_born [lpD sp fl, .tup c.d] g := fun k hk => by
    unfold c__law_does_9
    simp only [sSeq_e, sIf_e, tOf_e, vOp_e, vVar_e, List.getElem?_cons_zero, List.getElem?_cons_succ, Res.bind, t2, in_str2, hk, oR_some, bR_bl, sBind, cond_true, sRet_e, vCall_e, aCons_e, aNil_e]
    cases m__law_born [lpD sp fl, .tup c.d] g <;> rfl
  have notb : ∀ k, (9 == k || 6 == k) = false → endM (c__law_does_9 [some (lpD sp fl), some (.tup c.d), some (.str k), none, none, none, none, none] g) = endM (c__law_does_8 [some (lpD sp fl), some (.tup c.d), some (.str k), none, none, none, none, none] g) := fun k hk => by
    unfold c__law_does_9
    simp only [sSeq_e, sIf_e, tOf_e, vOp_e, vVar_e, List.getElem?_cons_zero, List.getElem?_cons_succ, Res.bind, t2, in_str2, hk, oR_some, bR_bl, sBind, cond_false, sNx_e]
  have wants : ∀ k s x P C S p n, (k == 2) = false → ixD g (.tup c.d) (.int 1) = some (.int s) → ixD g (.tup c.d) (.int 2) = some (.int p) → ixD g (.tup c.d) (.int 3) = some (.int n) → rngOk p n → A.sp s = some S → lkT T s = some x → SpR g x P C S → endM (c__law_does_8 [some (lpD sp fl), some (.tup c.d), some (.str k), none, none, none, none, none] g) = endM (c__law_does_5 (lE sp fl c.d k x (some (.lst (rngL p n.toNat))) none none) g) := fun k s x P C S p n hk h1 h2 h3 hr hS e rr => by
    obtain ⟨r1, r2, r3, r4⟩ := hr
    have tg : sTgt (vOp ixC (vOp ixD (vVar 0) (vC (.int 0))) (vOp ixD (vVar 1) (vC (.int 1)))) (gT 2 (gsC (gN 3) (gsC (gN 4) gsN))) [some (lpD sp fl), some (.tup c.d), some (.str k), none, none, none, none, none] g = .nx (lE sp fl c.d k x none none none) g := by
      unfold sTgt
      simp only [vOp_e, vVar_e, List.getElem?_cons_zero, List.getElem?_cons_succ, Res.bind, vC_e, lp0, h1, oR_some, ix_sp h e, sBind]
      rfl
    have wr : vLRg2 (vOp ixD (vVar 1) (vC (.int 2))) (vOp addD (vOp ixD (vVar 1) (vC (.int 2))) (vOp ixD (vVar 1) (vC (.int 3)))) (lE sp fl c.d k x none none none) g = .ok (.lst (rngL p n.toNat)) g := by
      unfold vLRg2
      have e1 : p + n - p = n := by omega
      simp only [vOp_e, vVar_e, List.getElem?_cons_zero, List.getElem?_cons_succ, Res.bind, vC_e, h2, h3, oR_some, addD_int, rgB_of (show -1000000 ≤ p by omega) (by omega) (show -1000000 ≤ p + n by omega) (by omega), e1]
    unfold c__law_does_8 c__law_does_7 c__law_does_6
    simp only [sSeq_e, sIf_e, tOf_e, vOp_e, vVar_e, List.getElem?_cons_zero, List.getElem?_cons_succ, Res.bind, vC_e, eq_str, hk, oR_some, bR_bl, sBind, cond_false, sNx_e]
    rw [tg]
    simp only [sAsg_e]
    rw [wr]
    rfl
  have fin : ∀ k w6, c__law_does_1 w6 k = .rt (.tup [.str 15, .non]) k := fun k w6 => by unfold c__law_does_1; simp only [sRet_e, tp, sBind]
  have loop : ∀ k x p n e' g2, loopL (gN 6) lbody (rngL p n) (lE sp fl c.d k x (some (.lst (rngL p n))) none none) g = .nx e' g2 → endM (c__law_does_4 (lE sp fl c.d k x (some (.lst (rngL p n))) none none) g) = .ok (.tup [.str 15, .non]) g2 := fun k x p n e' g2 hl => by
    rw [does4]
    have im : iLst (vVar 5) (lE sp fl c.d k x (some (.lst (rngL p n))) none none) g = .ok (.vals (rngL p n)) g := rfl
    simp only [sSeq_e, sFor_e, im, sBind, runS, hl, fin, endM_rt]
  have free : ∀ k x w5, (k == 12) = false → endM (c__law_does_5 (lE sp fl c.d k x w5 none none) g) = endM (c__law_does_4 (lE sp fl c.d k x w5 none none) g) := fun k x w5 hk => by
    unfold c__law_does_5
    simp only [sSeq_e, sIf_e, tAnd_e, tOf_e, vOp_e, vVar_e, List.getElem?_cons_zero, List.getElem?_cons_succ, Res.bind, vC_e, eq_str, hk, oR_some, bR_bl, sBind, cond_false, sNx_e]
  cases c with
  | load s p i =>
    have e0 : w = 3 := by cases hw; rfl
    rw [e0, use _ rfl]
    exact lload o h q
  | store s p i a =>
    have e0 : w = 7 := by cases hw; rfl
    rw [e0, use _ rfl]
    exact lstore o h q (by have := hc.2.2; omega)
  | change s p i a b =>
    have e0 : w = 8 := by cases hw; rfl
    rw [e0, use _ rfl]
    exact lchange o h q (by have := hc.2.2.2.2; omega)
  | evict =>
    have e0 : w = 10 := by cases hw; rfl
    rw [e0, quiet _ rfl rfl]
    exact LawSt.same h q
  | sync f =>
    have e0 : w = 11 := by cases hw; rfl
    rw [e0, quiet _ rfl rfl]
    exact LawSt.same h q
  | begin =>
    have e0 : w = 9 := by cases hw; rfl
    have c10 : endM (c__law_does_10 [some (lpD sp fl), some (.tup Cl.begin.d), some (.str 9), none, none, none, none, none] g) = endM (c__law_does_9 [some (lpD sp fl), some (.tup Cl.begin.d), some (.str 9), none, none, none, none, none] g) := by
      unfold c__law_does_10
      simp only [sSeq_e, sIf_e, tAnd_e, tOf_e, vOp_e, vVar_e, List.getElem?_cons_zero, List.getElem?_cons_succ, Res.bind, vC_e, ne_str, show (9 == 9) = true from rfl, oR_some, bR_bl, sBind, Bool.not_true, cond_false, sNx_e]
    rw [e0, rest _ rfl rfl, c10, born _ rfl]
    exact lbegin o h q
  | fork s =>
    have e0 : w = 6 := by cases hw; rfl
    cases z : A.sp s with
    | none =>
      rw [e0, rest _ rfl rfl, gone _ s rfl rfl z]
      have e2 : aftA A (.fork s) = A := by unfold aftA; simp only [z]
      have e3 : ansA A (.fork s) = (18, .non) := by unfold ansA; simp only [z]
      rw [e2, e3]
      exact LawSt.same h q
    | some S =>
      rw [e0, rest _ rfl rfl, there _ s S rfl rfl z, born _ rfl]
      exact lfork o h q z
  | end_ s =>
    have e0 : w = 2 := by cases hw; rfl
    cases z : A.sp s with
    | none =>
      rw [e0, rest _ rfl rfl, gone _ s rfl rfl z]
      have e2 : aftA A (.end_ s) = A := by unfold aftA; simp only [z]
      have e3 : ansA A (.end_ s) = (18, .non) := by unfold ansA; simp only [z]
      rw [e2, e3]
      exact LawSt.same h q
    | some S =>
      rw [e0, rest _ rfl rfl, there _ s S rfl rfl z, notb _ rfl]
      have e2 : aftA A (.end_ s) = ⟨updF A.sp s none, A.fl⟩ := by unfold aftA; simp only [z]
      have e3 : ansA A (.end_ s) = (15, .non) := by unfold ansA; simp only [z]
      rw [e2, e3]
      obtain ⟨x, P, C, e, rr⟩ := h.of z
      have pp := pop1_T (E := spE) rfl (fun _ => rfl) (o := vOp ixD (vVar 0) (vC (.int 0))) (m := vOp ixD (vVar 1) (vC (.int 1))) (e := [some (lpD sp fl), some (.tup (Cl.end_ s).d), some (.str 2), none, none, none, none, none]) (g := g) (l := sp) (ps := T) (k := s) (v := x) (by
        simp only [vOp_e, vVar_e, List.getElem?_cons_zero, List.getElem?_cons_succ, Res.bind, vC_e, lp0, oR_some]) rfl h.t e
      have fin2 : endM (c__law_does_8 [some (lpD sp fl), some (.tup (Cl.end_ s).d), some (.str 2), none, none, none, none, none] g) = .ok (.tup [.str 15, .non]) (g.set sp (.dct false (spE.tb (delT T s)))) := by
        unfold c__law_does_8
        simp only [sSeq_e, sIf_e, tOf_e, vOp_e, vVar_e, List.getElem?_cons_zero, List.getElem?_cons_succ, Res.bind, vC_e, eq_str, show (2 == 2) = true from rfl, oR_some, bR_bl, sBind, cond_true, sDrop_e]
        rw [pp]
        simp only [sBind, sRet_e, tp, endM_rt]
        rfl
      rw [fin2]
      refine ⟨_, delT T s, rfl, by simp, fun i hi hn => List.getElem?_set_ne (fun c => hn (.inl c.symm)), h.delM q, q.del, fun i hi => .inl ?_⟩
      rcases hi with rfl | rfl | ⟨t, y, e4, hy⟩
      · exact .inl rfl
      · exact .inr (.inl rfl)
      · rw [lkT_del] at e4
        split at e4
        · cases e4
        · exact .inr (.inr ⟨t, y, e4, hy⟩)
  | unmap s p n =>
    have e0 : w = 5 := by cases hw; rfl
    cases z : A.sp s with
    | none =>
      rw [e0, rest _ rfl rfl, gone _ s rfl rfl z]
      have e2 : aftA A (.unmap s p n) = A := by unfold aftA; simp only [z]
      have e3 : ansA A (.unmap s p n) = (18, .non) := by unfold ansA; simp only [z]
      rw [e2, e3]
      exact LawSt.same h q
    | some S =>
      obtain ⟨x, P, C, e, rr⟩ := h.of z
      have e2 : aftA A (.unmap s p n) = ⟨updF A.sp s (some (cutSp S p n)), A.fl⟩ := by unfold aftA; simp only [z]
      have e3 : ansA A (.unmap s p n) = (15, .non) := by unfold ansA; simp only [z]
      obtain ⟨e', P2, C2, a1, a2, a3, a4, a5⟩ := lcut_loop (w := some (.lst (rngL p n.toNat))) q e rr (o.s4 s S z).2 hc.2
      rw [e0, rest _ rfl rfl, there _ s S rfl rfl z, notb _ rfl, wants _ s x P C S p n rfl rfl rfl rfl hc.2 z e rr, free _ x _ rfl, loop _ x p n.toNat e' _ a1, e2, e3]
      exact lfin h q e rr a2 a3 a4 a5
  | protect s p n r =>
    have e0 : w = 4 := by cases hw; rfl
    cases z : A.sp s with
    | none =>
      rw [e0, rest _ rfl rfl, gone _ s rfl rfl z]
      have e2 : aftA A (.protect s p n r) = A := by unfold aftA; simp only [z]
      have e3 : ansA A (.protect s p n r) = (18, .non) := by unfold ansA; simp only [z]
      rw [e2, e3]
      exact LawSt.same h q
    | some S =>
      obtain ⟨x, P, C, e, rr⟩ := h.of z
      have e2 : aftA A (.protect s p n r) = ⟨updF A.sp s (some ⟨proPg S p n r, S.cl⟩), A.fl⟩ := by unfold aftA; simp only [z]
      have e3 : ansA A (.protect s p n r) = (15, .non) := by unfold ansA; simp only [z]
      obtain ⟨e', P2, C2, a1, a2, a3, a4, a5⟩ := lpro_loop (r := r) (w := some (.lst (rngL p n.toNat))) q e rr (o.s4 s S z).2 hc.2.1
      rw [e0, rest _ rfl rfl, there _ s S rfl rfl z, notb _ rfl, wants _ s x P C S p n rfl rfl rfl rfl hc.2.1 z e rr, free _ x _ rfl, loop _ x p n.toNat e' _ a1, e2, e3]
      exact lfin (S' := ⟨proPg S p n r, S.cl⟩) h q e rr a2 a3 a4 a5
  | map s p n r c =>
    have e0 : w = 12 := by cases hw; rfl
    cases z : A.sp s with
    | none =>
      rw [e0, rest _ rfl rfl, gone _ s rfl rfl z]
      have e2 : aftA A (.map s p n r c) = A := by unfold aftA; simp only [z]
      have e3 : ansA A (.map s p n r c) = (18, .non) := by unfold ansA; simp only [z]
      rw [e2, e3]
      exact LawSt.same h q
    | some S =>
      obtain ⟨x, P, C, e, rr⟩ := h.of z
      rw [e0, rest _ rfl rfl, there _ s S rfl rfl z, notb _ rfl, wants _ s x P C S p n rfl rfl rfl rfl hc.2.1 z e rr]
      -- the list of those that are taken
      have lc : vLc [6] (iLst (vVar 5)) (gN 6) (tOf (vOp (inC false) (vVar 6) (vVar 3))) (vVar 6) (lE sp fl (Cl.map s p n r c).d 12 x (some (.lst (rngL p n.toNat))) none none) g = .ok (.lst (((List.range n.toNat).filter fun (i : Nat) => (S.pg (p + (i : Int))).isSome).map fun (i : Nat) => D.int (p + (i : Int)))) g := by
        have im : iLst (vVar 5) (lE sp fl (Cl.map s p n r c).d 12 x (some (.lst (rngL p n.toNat))) none none) g = .ok (.vals (rngL p n.toNat)) g := rfl
        have hl := lcR_pure (gm := gN 6) (t := tOf (vOp (inC false) (vVar 6) (vVar 3))) (m := vVar 6) (e := lE sp fl (Cl.map s p n r c).d 12 x (some (.lst (rngL p n.toNat))) none none) (g := g) (s := .vals (rngL p n.toNat)) (fun i : Nat => D.int (p + (i : Int))) (fun (i : Nat) => (S.pg (p + (i : Int))).isSome) (fun (i : Nat) => D.int (p + (i : Int))) (List.range n.toNat) rfl (okL_of (by have := hc.2.1.2.2.1; simp; omega)) (fun i _ => ⟨lE sp fl (Cl.map s p n r c).d 12 x (some (.lst (rngL p n.toNat))) (some (.int (p + (i : Int)))) none, rfl, by
          have ii := in_pg (p := p + (i : Int)) (neg := false) rr
          simp only [tOf_e, vOp_e, vVar_e, List.getElem?_cons_zero, List.getElem?_cons_succ, Res.bind, ii, oR_some, bR_bl, Bool.bne_false], fun _ => rfl⟩)
        simp only [vLc_e, im, Res.bind, wipeE_cons, wipeE_nil, List.set, hl]
      have hp : decide ((0 : Int) < (((List.range n.toNat).filter fun (i : Nat) => (S.pg (p + (i : Int))).isSome).length : Int)) = hasP S p n.toNat := by
        unfold hasP
        rw [Bool.eq_iff_iff, decide_eq_true_eq, List.any_eq_true]
        constructor
        · intro hh
          have : 0 < ((List.range n.toNat).filter fun (i : Nat) => (S.pg (p + (i : Int))).isSome).length := by omega
          obtain ⟨y, hy⟩ := List.exists_mem_of_length_pos this
          exact ⟨y, (List.mem_filter.mp hy).1, (List.mem_filter.mp hy).2⟩
        · rintro ⟨y, h1, h2⟩
          have := List.length_pos_of_mem ((List.mem_filter (p := fun (i : Nat) => (S.pg (p + (i : Int))).isSome)).mpr ⟨h1, h2⟩)
          omega
      have c5 : endM (c__law_does_5 (lE sp fl (Cl.map s p n r c).d 12 x (some (.lst (rngL p n.toNat))) none none) g) = bif hasP S p n.toNat then .ok (.tup [.str 16, .non]) g else endM (c__law_does_4 (lE sp fl (Cl.map s p n r c).d 12 x (some (.lst (rngL p n.toNat))) none none) g) := by
        unfold c__law_does_5
        have ln : ∀ l : List Nat, lenD g [.lst (l.map fun (i : Nat) => D.int (p + (i : Int)))] = some (.int (l.length : Int)) := fun l => by simp
        simp only [sSeq_e, sIf_e, tAnd_e, tOf_e, vOp_e, vVar_e, List.getElem?_cons_zero, List.getElem?_cons_succ, Res.bind, vC_e, eq_str, show (12 == 12) = true from rfl, oR_some, bR_bl, sBind, cond_true, vCB_e, aCons_e, lc, aNil_e, ln, icD_int, hp]
        cases hasP S p n.toNat with
        | true => simp only [cond_true, sRet_e, tp, sBind, endM_rt]
        | false => simp only [cond_false, sNx_e]
      rw [c5]
      cases z2 : hasP S p n.toNat with
      | true =>
        have e2 : aftA A (.map s p n r c) = A := by unfold aftA; simp only [z, z2, cond_true]
        have e3 : ansA A (.map s p n r c) = (16, .non) := by unfold ansA; simp only [z, z2, cond_true]
        rw [e2, e3]
        exact LawSt.same h q
      | false =>
        have e2 : aftA A (.map s p n r c) = ⟨updF A.sp s (some ⟨mapPg S p n r c, S.cl⟩), A.fl⟩ := by unfold aftA; simp only [z, z2, cond_false]
        have e3 : ansA A (.map s p n r c) = (15, .non) := by unfold ansA; simp only [z, z2, cond_false]
        obtain ⟨e', P2, C2, a1, a2, a3, a4, a5⟩ := lmap_loop (r := r) (c := c) (w := some (.lst (rngL p n.toNat))) q e rr (o.s4 s S z).2 hc.2.1
        rw [cond_false, loop _ x p n.toNat e' _ a1, e2, e3]
        exact lfin (S' := ⟨mapPg S p n r c, S.cl⟩) h q e rr a2 a3 a4 a5
end

/-! ### a turn -/
def Dk (g g' : G) : Prop := ∀ (i : Nat) (k : Bool) (kvs : List (D × D)), g[i]? = some (Ob.dct k kvs) → g'[i]? = some (Ob.dct k kvs)
theorem Fr.dk {g g' : G} (f : Fr g g') : Dk g g' := fun _ _ _ h => f.get h
theorem Nxt.dk {g g' : G} {t : Nat} (T : Tp g t) (n : Nxt g g' t) : Dk g g' := fun i k kvs h => by
  have : i ≠ t := fun c => by
    obtain ⟨ns, pos, rest, seed, q, _⟩ := T
    rw [c, q] at h
    cases h
  exact (n.fr i this).trans h
section
variable {Q Q' : Nat → Prop} {g g' g1 : G} {sp fl st : Nat} {T T' : List (Int × Nat × Nat)} {A A' : AS} {x : Nat × Nat} {P P' : List (Int × Vl)} {C C' : List ((Int × Int) × Int)} {S S' : Sp} {F : List ((Int × Int × Int) × Int)} {s p i n : Int} {v : Vl} {r : Nat}
theorem Rep.dk (h : Rep g sp fl T A) (f : Dk g g') : Rep g' sp fl T A := ⟨f _ _ _ h.t, h.n, fun s x e => by
  obtain ⟨P, C, S, hS, r⟩ := h.s s x e
  exact ⟨P, C, S, hS, f _ _ _ r.p, f _ _ _ r.c, r.pn, r.cn, r.pk, r.ck⟩, h.z, by
  obtain ⟨F, a, b, c⟩ := h.f
  exact ⟨F, f _ _ _ a, b, c⟩⟩
theorem StR.dk (h : StR Q g st sp fl T A) (f : Dk g g') : StR Q g' st sp fl T A := ⟨f _ _ _ h.hs, h.r.dk f, h.q, h.qt⟩
theorem StR.mono (h : StR Q g st sp fl T A) (f : ∀ i, i < g.length → Q i → Q' i) : StR Q' g st sp fl T A := by
  have ob : ∀ {i : Nat} {o : Ob}, g[i]? = some o → i < g.length := fun h => (List.getElem?_eq_some_iff.mp h).1
  obtain ⟨F, f1, _⟩ := h.r.f
  refine ⟨h.hs, h.r, ⟨f _ (ob h.hs) h.q.1, f _ (ob h.r.t) h.q.2.1, f _ (ob f1) h.q.2.2⟩, fun s x e => ?_⟩
  obtain ⟨P, C, S, _, r⟩ := h.r.s s x e
  exact ⟨f _ (ob r.p) (h.qt s x e).1, f _ (ob r.c) (h.qt s x e).2⟩
/-- what others own changes -/
theorem StR.off (h : StR Q g st sp fl T A) (f : ∀ i, i < g.length → Q i → g'[i]? = g[i]?) : StR Q g' st sp fl T A := by
  have ob : ∀ {i : Nat} {o : Ob}, Q i → g[i]? = some o → g'[i]? = some o := fun q h => (f _ (List.getElem?_eq_some_iff.mp h).1 q).trans h
  obtain ⟨F, f1, f2, f3⟩ := h.r.f
  exact ⟨ob h.q.1 h.hs, ⟨ob h.q.2.1 h.r.t, h.r.n, fun s x e => by
    obtain ⟨P, C, S, hS, r⟩ := h.r.s s x e
    exact ⟨P, C, S, hS, ob (h.qt s x e).1 r.p, ob (h.qt s x e).2 r.c, r.pn, r.cn, r.pk, r.ck⟩, h.r.z, F, ob h.q.2.2 f1, f2, f3⟩, h.q, h.qt⟩
theorem ans_pud (A : AS) (c : Cl) : pud 8 (ansD (ansA A c)) = true := by
  have key : (ansA A c).2 = .non ∨ (∃ i, (ansA A c).2 = .int i) ∨ ∃ b, (ansA A c).2 = .bl b := by
    cases c with
    | load s p i => unfold ansA; simp only; cases useA A s p true with
      | inl w => exact .inl rfl
      | inr y => exact .inr (.inl ⟨_, rfl⟩)
    | store s p i a => unfold ansA; simp only; cases useA A s p false with
      | inl w => exact .inl rfl
      | inr y => exact .inl rfl
    | change s p i a b => unfold ansA; simp only; cases useA A s p false with
      | inl w => exact .inl rfl
      | inr y => exact .inr (.inr ⟨_, rfl⟩)
    | map s p n r q => unfold ansA; simp only; cases A.sp s with
      | none => exact .inl rfl
      | some S => simp only; cases hasP S p n.toNat <;> exact .inl rfl
    | unmap s p n => unfold ansA; simp only; cases A.sp s <;> exact .inl rfl
    | protect s p n r => unfold ansA; simp only; cases A.sp s <;> exact .inl rfl
    | end_ s => unfold ansA; simp only; cases A.sp s <;> exact .inl rfl
    | fork s => unfold ansA; simp only; cases A.sp s with
      | none => exact .inl rfl
      | some S => simp only; cases freshA A with
        | none => exact .inl rfl
        | some x => exact .inr (.inl ⟨_, rfl⟩)
    | begin => unfold ansA; simp only; cases freshA A with
      | none => exact .inl rfl
      | some x => exact .inr (.inl ⟨_, rfl⟩)
    | sync f => exact .inl rfl
    | evict => exact .inl rfl
  unfold ansD
  rcases key with h | ⟨i, h⟩ | ⟨b, h⟩ <;> rw [h] <;> simp
/-- the law's dicts, locked: a cell is looked up -/
theorem tableL {gl : G} (hsp : (gl[sp]?).bind prsO = some (false, spE.tb T)) (e : lkT T s = some x) (hpp : (gl[x.1]?).bind prsO = some (false, vlE.tb P)) (hv : lkT P p = some v) : m__law_table [lpD sp fl, .int s, .int p, .int i] gl = .ok (.tup [.ref (tlR x fl v), tlK v p i]) gl := by
  have ix : ixC gl (.ref sp) (.int s) = some (.tup [.ref x.1, .ref x.2]) := ixC_T (E := spE) hsp e
  have start : m__law_table [lpD sp fl, .int s, .int p, .int i] gl = endM (b__law_table [some (lpD sp fl), some (.int s), some (.int p), some (.int i), none, none, none] gl) := rfl
  rw [start]
  unfold b__law_table c__law_table_3
  have tg : sTgt (vOp ixC (vOp ixD (vVar 0) (vC (.int 0))) (vVar 1)) (gT 2 (gsC (gN 4) (gsC (gN 5) gsN))) [some (lpD sp fl), some (.int s), some (.int p), some (.int i), none, none, none] gl = .nx [some (lpD sp fl), some (.int s), some (.int p), some (.int i), some (.ref x.1), some (.ref x.2), none] gl := by
    unfold sTgt
    simp only [vOp_e, vVar_e, List.getElem?_cons_zero, List.getElem?_cons_succ, Res.bind, vC_e, lp0, oR_some, ix, sBind]
    rfl
  simp only [sSeq_e, tg, sAsg_e, vOp_e, vVar_e, List.getElem?_cons_zero, List.getElem?_cons_succ, Res.bind, vC_e, ix_vl hpp hv, vl1, oR_some, sBind, List.set]
  unfold c__law_table_2
  simp only [sSeq_e, sIf_e, tOf_e, vOp_e, vVar_e, List.getElem?_cons_zero, List.getElem?_cons_succ, Res.bind, vC_e, isN_e, src_non, oR_some, bR_bl, sBind]
  unfold tlR tlK
  cases z : v.2 with
  | none => rfl
  | some y =>
    have i0 : ∀ g, ixD g (srcD (some y)) (.int 0) = some (.int y.1) := fun g => by unfold srcD; rw [ixD_tup, at0]
    have i1 : ∀ g, ixD g (srcD (some y)) (.int 1) = some (.int y.2) := fun g => by unfold srcD; rw [ixD_tup, at1]
    unfold c__law_table_1
    simp only [Option.isNone_some, cond_false, sNx_e, sRet_e, vTup_s, aCons_e, vOp_e, vVar_e, List.getElem?_cons_zero, List.getElem?_cons_succ, Res.bind, vC_e, lp1, i0, i1, oR_some, aNil_e, List.length_cons, List.length_nil, okL_s (show 0 + 1 + 1 < 1000 by decide), okL_s (show 0 + 1 + 1 + 1 < 1000 by decide), sBind, endM_rt]
theorem getL {gl : G} (rc : gl[x.2]? = some (.dct true (ceE.tb C))) (ck : ∀ k, lkT C k = nz (S.cl k)) (rf : ∃ F, gl[fl]? = some (.dct true (flE.tb F)) ∧ ∀ k, lkT F k = nz (A.fl k)) {e' : En} {a b : Nat} (ha : e'[a]? = some (some (.ref (tlR x fl v)))) (hb : e'[b]? = some (some (tlK v p i))) : vDGet (vVar a) (aCons (vVar b) (aCons (vC (.int 0)) aNil)) e' gl = .ok (.int (cellA A S v p i)) gl := by
  unfold tlR at ha
  unfold tlK at hb
  unfold cellA
  cases z : v.2 with
  | none =>
    rw [z] at ha hb
    have gt := get2_T (E := ceE) (o := vVar a) (m := vVar b) (n := vC (.int 0)) (e := e') (g := gl) (l := x.2) (ps := C) (k := (p, i)) (d := .int 0) (by simp [ha]) (by simp [hb]; rfl) rfl rc
    rw [gt, ck]
    unfold nz
    simp only
    split <;> simp [*, ceE]
  | some y =>
    rw [z] at ha hb
    obtain ⟨F, f1, f3⟩ := rf
    have gt := get2_T (E := flE) (o := vVar a) (m := vVar b) (n := vC (.int 0)) (e := e') (g := gl) (l := fl) (ps := F) (k := (y.1, y.2, i)) (d := .int 0) (by simp [ha]) (by simp [hb]; rfl) rfl f1
    rw [gt, f3]
    unfold nz
    simp only
    split <;> simp [*, flE]
/-- the environment of the law -/
abbrev tE (a0 : Option D) (t sp fl : Nat) (x3 x4 x5 x6 x7 x8 x9 x10 x11 x12 : Option D) : En := [a0, some (.ref t), some (lpD sp fl), x3, x4, x5, x6, x7, x8, x9, x10, x11, x12]
variable {a0 x3 x5 x6 x7 x9 x10 x11 x12 : Option D} {t af sp' fl' : Nat} {j : Int}
/-- the pages of one space are looked at -/
theorem look_in {gl : G} (hsp : (gl[sp]?).bind prsO = some (false, spE.tb T)) (e : lkT T s = some x) (hpp : gl[x.1]? = some (.dctL false (vlE.tb P))) (hn : NdT P) (pk : ∀ q, lkT P q = S.pg q) (rc : gl[x.2]? = some (.dct true (ceE.tb C))) (ck : ∀ k, lkT C k = nz (S.cl k)) (rf : ∃ F, gl[fl]? = some (.dct true (flE.tb F)) ∧ ∀ k, lkT F k = nz (A.fl k))
    (h : StR Q gl af sp' fl' T' A) (hS : A.sp s = some S) : ∀ (P2 : List (Int × Vl)), (∀ y ∈ P2, y ∈ P) → ∀ x10 x11 x12, ∃ y10 y11 y12, loopL (gN 10) c_law_3 (P2.map fun y => .int y.1) (tE a0 t sp fl x3 (some (.int j)) x5 x6 x7 (some (.ref af)) (some (.int s)) x10 x11 x12) gl = .nx (tE a0 t sp fl x3 (some (.int j)) x5 x6 x7 (some (.ref af)) (some (.int s)) y10 y11 y12) gl
  | [], _, x10, x11, x12 => ⟨x10, x11, x12, rfl⟩
  | y :: P2, hP, x10, x11, x12 => by
    have ey := lkT_mem hn (hP y List.mem_cons_self)
    have hv : S.pg y.1 = some y.2 := (pk _).symm.trans ey
    have tb := tableL (i := j % 2) (fl := fl) hsp e (by rw [hpp]; rfl) ey
    have md : modD gl (.int j) (.int 2) = some (.int (j % 2)) := modD_e (by decide)
    have tg : sTgt (vCall m__law_table (aCons (vVar 2) (aCons (vVar 9) (aCons (vVar 10) (aCons (vOp modD (vVar 4) (vC (.int 2))) aNil))))) (gT 2 (gsC (gN 11) (gsC (gN 12) gsN))) (tE a0 t sp fl x3 (some (.int j)) x5 x6 x7 (some (.ref af)) (some (.int s)) (some (.int y.1)) x11 x12) gl = .nx (tE a0 t sp fl x3 (some (.int j)) x5 x6 x7 (some (.ref af)) (some (.int s)) (some (.int y.1)) (some (.ref (tlR x fl y.2))) (some (tlK y.2 y.1 (j % 2)))) gl := by
      unfold sTgt
      simp only [vCall_e, aCons_e, vOp_e, vVar_e, List.getElem?_cons_zero, List.getElem?_cons_succ, Res.bind, vC_e, md, oR_some, aNil_e, tb, sBind]
      rfl
    have cr := cell_run (i := j % 2) h hS hv
    have gt := getL (S := S) (A := A) (v := y.2) (p := y.1) (i := j % 2) rc ck rf (e' := tE a0 t sp fl x3 (some (.int j)) x5 x6 x7 (some (.ref af)) (some (.int s)) (some (.int y.1)) (some (.ref (tlR x fl y.2))) (some (tlK y.2 y.1 (j % 2)))) (a := 11) (b := 12) rfl rfl
    have body : c_law_3 (tE a0 t sp fl x3 (some (.int j)) x5 x6 x7 (some (.ref af)) (some (.int s)) (some (.int y.1)) x11 x12) gl = .nx (tE a0 t sp fl x3 (some (.int j)) x5 x6 x7 (some (.ref af)) (some (.int s)) (some (.int y.1)) (some (.ref (tlR x fl y.2))) (some (tlK y.2 y.1 (j % 2)))) gl := by
      have ci : ∀ k : Int, (!(k == k)) = false := fun k => by simp
      unfold c_law_3
      rw [sSeq_e, tg]
      simp only [sIf_e, tOf_e, vOp_e, vCall_e, aCons_e, vVar_e, List.getElem?_cons_zero, List.getElem?_cons_succ, Res.bind, vC_e, md, oR_some, aNil_e, cr, gt, ne_int, ci, bR_bl, sBind, cond_false, sNx_e]
    obtain ⟨y10, y11, y12, hl⟩ := look_in hsp e hpp hn pk rc ck rf h hS P2 (fun z hz => hP z (List.mem_cons_of_mem _ hz)) (some (.int y.1)) (some (.ref (tlR x fl y.2))) (some (tlK y.2 y.1 (j % 2)))
    have one : loopL (gN 10) c_law_3 ((y :: P2).map fun y => D.int y.1) (tE a0 t sp fl x3 (some (.int j)) x5 x6 x7 (some (.ref af)) (some (.int s)) x10 x11 x12) gl = after (c_law_3 (tE a0 t sp fl x3 (some (.int j)) x5 x6 x7 (some (.ref af)) (some (.int s)) (some (.int y.1)) x11 x12) gl) (loopL (gN 10) c_law_3 (P2.map fun y => D.int y.1)) := rfl
    refine ⟨y10, y11, y12, ?_⟩
    rw [one, body]
    exact hl
theorem lockfor {gm : GM} {b : SM} {m : EM} {l : Nat} {k : Bool} {kvs : List (D × D)} {e e2 : En} {gl : G} (h : gl[l]? = some (.dct k kvs)) (m1 : m e gl = .ok (.ref l) gl) (m2 : m e (gl.set l (.dctL k kvs)) = .ok (.ref l) (gl.set l (.dctL k kvs))) (hl : loopL gm b (kvs.map Prod.fst) e (gl.set l (.dctL k kvs)) = .nx e2 (gl.set l (.dctL k kvs))) :
    sLock (pkOf m) (sFor (iKey m) gm b) e gl = .nx e2 gl := by
  have ll := (List.getElem?_eq_some_iff.mp h).1
  have hgl : (gl.set l (.dctL k kvs))[l]? = some (.dctL k kvs) := List.getElem?_set_self ll
  have pk : pkOf m e gl = some l := by unfold pkOf; rw [m1]
  have im : iKey m e (gl.set l (.dctL k kvs)) = .ok (.vals (kvs.map Prod.fst)) (gl.set l (.dctL k kvs)) := by
    unfold iKey
    simp only [m2, Res.bind, hgl]
  unfold sLock
  simp only [pk, h, sFor_e, im, sBind, runS, hl]
  unfold freeS
  simp only [hgl, setback h]
def lookB : SM := (sLock (pkOf (vOp ixD (vOp ixC (vOp ixD (vVar 2) (vC (.int 0))) (vVar 9)) (vC (.int 0)))) (sFor (iKey (vOp ixD (vOp ixC (vOp ixD (vVar 2) (vC (.int 0))) (vVar 9)) (vC (.int 0)))) (gN 10) c_law_3))
theorem law4 : c_law_4 = sSeq (sLock (pkOf (vOp ixD (vVar 2) (vC (.int 0)))) (sFor (iKey (vOp ixD (vVar 2) (vC (.int 0)))) (gN 9) lookB)) c_law_2 := rfl
theorem look_out (h : Rep g sp fl T A) (q : Sep sp fl T) (hs : StR (fun i => ¬ Own sp fl T i) g af sp' fl' T' A) : ∀ (T2 : List (Int × Nat × Nat)), (∀ y ∈ T2, y ∈ T) → ∀ x9 x10 x11 x12, ∃ y9 y10 y11 y12, loopL (gN 9) lookB (T2.map fun y => .int y.1) (tE a0 t sp fl x3 (some (.int j)) x5 x6 x7 (some (.ref af)) x9 x10 x11 x12) (g.set sp (.dctL false (spE.tb T))) = .nx (tE a0 t sp fl x3 (some (.int j)) x5 x6 x7 (some (.ref af)) y9 y10 y11 y12) (g.set sp (.dctL false (spE.tb T)))
  | [], _, x9, x10, x11, x12 => ⟨x9, x10, x11, x12, rfl⟩
  | y :: T2, hT, x9, x10, x11, x12 => by
    have e := lkT_mem h.n (hT y List.mem_cons_self)
    obtain ⟨P, C, S, hS, rr⟩ := h.s _ _ e
    obtain ⟨q1, q2, q3, q4, q5⟩ := q.a _ _ e
    have lsp := h.own (i := sp) (.inl rfl)
    have gsp : (g.set sp (.dctL false (spE.tb T)))[sp]? = some (.dctL false (spE.tb T)) := List.getElem?_set_self lsp
    have g1 : (g.set sp (.dctL false (spE.tb T)))[y.2.1]? = some (.dct false (vlE.tb P)) := (List.getElem?_set_ne q2).trans rr.p
    have l1 := (List.getElem?_eq_some_iff.mp rr.p).1
    have hsp2 : ((g.set sp (.dctL false (spE.tb T))).set y.2.1 (.dctL false (vlE.tb P)))[sp]? = some (.dctL false (spE.tb T)) := (List.getElem?_set_ne (Ne.symm q2)).trans gsp
    have keep : ∀ i, i ≠ sp → i ≠ y.2.1 → ((g.set sp (.dctL false (spE.tb T))).set y.2.1 (.dctL false (vlE.tb P)))[i]? = g[i]? := fun i h1 h2 => by
      rw [List.getElem?_set_ne (Ne.symm h2), List.getElem?_set_ne (Ne.symm h1)]
    have hs' := hs.off (g' := (g.set sp (.dctL false (spE.tb T))).set y.2.1 (.dctL false (vlE.tb P))) (fun i _ hq => keep i (fun c => hq (.inl c)) (fun c => hq (.inr (.inr ⟨_, _, e, .inl c⟩))))
    obtain ⟨F, f1, f2, f3⟩ := h.f
    obtain ⟨y10, y11, y12, hl⟩ := look_in (a0 := a0) (x3 := x3) (x5 := x5) (x6 := x6) (x7 := x7) (t := t) (j := j) (sp := sp) (fl := fl) (by rw [hsp2]; rfl) e (List.getElem?_set_self (by simpa using l1)) rr.pn rr.pk ((keep _ (Ne.symm q3) (Ne.symm q1)).trans rr.c) rr.ck ⟨F, (keep _ (Ne.symm q.sf) q4).trans f1, f3⟩ hs' hS P (fun _ h => h) x10 x11 x12
    have m1 : ∀ gl : G, (gl[sp]?).bind prsO = some (false, spE.tb T) → vOp ixD (vOp ixC (vOp ixD (vVar 2) (vC (.int 0))) (vVar 9)) (vC (.int 0)) (tE a0 t sp fl x3 (some (.int j)) x5 x6 x7 (some (.ref af)) (some (.int y.1)) x10 x11 x12) gl = .ok (.ref y.2.1) gl := fun gl hgl => by
      have ix : ixC gl (.ref sp) (.int y.1) = some (.tup [.ref y.2.1, .ref y.2.2]) := ixC_T (E := spE) hgl e
      simp only [vOp_e, vVar_e, List.getElem?_cons_zero, List.getElem?_cons_succ, Res.bind, vC_e, lp0, oR_some, ix, ixD_tup, at0]
    have keys : (vlE.tb P).map Prod.fst = P.map fun y => D.int y.1 := by
      unfold Enc.tb
      rw [List.map_map]
      rfl
    have body : lookB (tE a0 t sp fl x3 (some (.int j)) x5 x6 x7 (some (.ref af)) (some (.int y.1)) x10 x11 x12) (g.set sp (.dctL false (spE.tb T))) = .nx (tE a0 t sp fl x3 (some (.int j)) x5 x6 x7 (some (.ref af)) (some (.int y.1)) y10 y11 y12) (g.set sp (.dctL false (spE.tb T))) := by
      unfold lookB
      exact lockfor g1 (m1 _ (by rw [gsp]; rfl)) (m1 _ (by rw [hsp2]; rfl)) (by rw [keys]; exact hl)
    obtain ⟨z9, z10, z11, z12, hl2⟩ := look_out h q hs T2 (fun z hz => hT z (List.mem_cons_of_mem _ hz)) (some (.int y.1)) y10 y11 y12
    have one : loopL (gN 9) lookB ((y :: T2).map fun y => D.int y.1) (tE a0 t sp fl x3 (some (.int j)) x5 x6 x7 (some (.ref af)) x9 x10 x11 x12) (g.set sp (.dctL false (spE.tb T))) = after (lookB (tE a0 t sp fl x3 (some (.int j)) x5 x6 x7 (some (.ref af)) (some (.int y.1)) x10 x11 x12) (g.set sp (.dctL false (spE.tb T)))) (loopL (gN 9) lookB (T2.map fun y => D.int y.1)) := rfl
    refine ⟨z9, z10, z11, z12, ?_⟩
    rw [one, body]
    exact hl2
/-- between two turns -/
def Bt (a0 : Option D) (t : Nat) (e : En) (g : G) : Prop := ∃ (sp fl st sp' fl' : Nat) (T T' : List (Int × Nat × Nat)) (A : AS) (x4 x5 x6 x7 x8 x9 x10 x11 x12 : Option D), e = tE a0 t sp fl (some (.ref st)) x4 x5 x6 x7 x8 x9 x10 x11 x12 ∧ OkAS A ∧ Rep g sp fl T A ∧ Sep sp fl T ∧ StR (fun i => ¬ Own sp fl T i) g st sp' fl' T' A ∧ Tp g t ∧ ¬ Own sp fl T t
theorem own_tp (h : Rep g sp fl T A) {t : Nat} (Tt : Tp g t) : ¬ Own sp fl T t := by
  obtain ⟨ns, pos, rest, seed, qq, _⟩ := Tt
  rintro (rfl | rfl | ⟨s, x, e, rfl | rfl⟩)
  · rw [h.t] at qq; cases qq
  · obtain ⟨F, f, _⟩ := h.f
    rw [f] at qq; cases qq
  · obtain ⟨P, C, S, _, r⟩ := h.s s x e
    rw [r.p] at qq; cases qq
  · obtain ⟨P, C, S, _, r⟩ := h.s s x e
    rw [r.c] at qq; cases qq
theorem turn_run {e : En} (B : Bt a0 t e g) : StepOK (c_law_10 (e.set 4 (some (.int j))) g) (Bt a0 t) (fun _ => False) := by
  obtain ⟨sp, fl, st, sp', fl', T, T', A, x4, x5, x6, x7, x8, x9, x10, x11, x12, rfl, o, h, q, hs, Tt, _⟩ := B
  -- the call
  obtain ⟨ds, g1, a1, ok, N1⟩ := call_ok (sp := 4) Tt (by decide) (by decide)
  obtain ⟨c, rfl, hc⟩ := cl_of ok
  have h1 := h.dk (Nxt.dk Tt N1)
  have hs1 := hs.dk (Nxt.dk Tt N1)
  -- what is seen before
  obtain ⟨b2, g2, sb2, fb2, Tb2, a2, f2, n2, hb2⟩ := seen_run o hs1
  have h2 := h1.fr f2
  have hs2 := hs1.fr f2
  -- the answer and the state behind
  have a3 := answer_run o hs2 hc
  have own2 := fun i hi => h2.own (i := i) hi
  obtain ⟨af, g3, sp3, fl3, T3, a4, f3, hs3⟩ := after_run o (fun i hi hn => absurd (own2 i hn) (by omega)) hs2 hc
  have h3 := h2.fr f3
  -- seen again
  obtain ⟨b4, g4, sb4, fb4, Tb4, a5, f4, n4, hb4⟩ := seen_run o (hs2.fr f3)
  have h4 := h3.fr f4
  have l2 : b2 < g2.length := (List.getElem?_eq_some_iff.mp hb2.hs).1
  have ne1 : b4 ≠ b2 := by have := f3.len; omega
  have eq1 := eq_state hb4 (hb2.fr (f3.trans f4)) ne1
  -- the law's own
  obtain ⟨g5, T5, a6, len5, off5, h5, q5, own5⟩ := does_run o h4 q hc
  have o5 := aftA_ok o hc
  have neq : neD g5 (ansD (ansA A c)) (ansD (ansA A c)) = some (.bl false) := ne_same rfl rfl (ans_pud A c)
  have hs5 := (((hs3.fr f4).mono (Q' := fun i => ¬ Own sp fl T i ∧ ¬ Own sp fl T5 i) (fun i hi hq => ⟨hq, fun hn => by
    rcases own5 i hn with z | z
    · exact hq z
    · omega⟩)).off (g' := g5) (fun i hi hq => off5 i hi hq.1)).mono (Q' := fun i => ¬ Own sp fl T5 i) (fun i _ hq => hq.2)
  have T5t : Tp g5 t := by
    have T4 : Tp g4 t := f4.tp (f3.tp (f2.tp N1.T))
    exact T4.le (off5 t T4.len (own_tp h4 T4))
  -- both are seen
  obtain ⟨b6, g6, sb6, fb6, Tb6, a7, f6, n6, hb6⟩ := seen_run o5 hs5
  obtain ⟨b7, g7, sb7, fb7, Tb7, a8, f7, n7, hb7⟩ := shows_run o5 (h5.fr f6)
  have l6 : b6 < g6.length := (List.getElem?_eq_some_iff.mp hb6.hs).1
  have eq2 := eq_state (hb6.fr f7) hb7 (by omega)
  have h7 := (h5.fr f6).fr f7
  have hs7 := (hs5.fr f6).fr f7
  have T7 : Tp g7 t := f7.tp (f6.tp T5t)
  obtain ⟨y9, y10, y11, y12, hl⟩ := look_out (a0 := a0) (x3 := some (.ref st)) (x5 := some (.tup c.d)) (x6 := some (.ref b2)) (x7 := some (ansD (ansA A c))) (t := t) (j := j) h7 q5 hs7 T5 (fun _ h => h) x9 x10 x11 x12
  have keys : (spE.tb T5).map Prod.fst = T5.map fun y => D.int y.1 := by
    unfold Enc.tb
    rw [List.map_map]
    rfl
  have m1 : ∀ gl : G, vOp ixD (vVar 2) (vC (.int 0)) (tE a0 t sp fl (some (.ref st)) (some (.int j)) (some (.tup c.d)) (some (.ref b2)) (some (ansD (ansA A c))) (some (.ref af)) x9 x10 x11 x12) gl = .ok (.ref sp) gl := fun gl => by
    simp only [vOp_e, vVar_e, List.getElem?_cons_zero, List.getElem?_cons_succ, Res.bind, vC_e, lp0, oR_some]
  have lock := lockfor (gm := gN 9) (b := lookB) (m := vOp ixD (vVar 2) (vC (.int 0))) h7.t (m1 _) (m1 _) (by rw [keys]; exact hl)
  have end4 : c_law_4 (tE a0 t sp fl (some (.ref st)) (some (.int j)) (some (.tup c.d)) (some (.ref b2)) (some (ansD (ansA A c))) (some (.ref af)) x9 x10 x11 x12) g7 = .nx (tE a0 t sp fl (some (.ref af)) (some (.int j)) (some (.tup c.d)) (some (.ref b2)) (some (ansD (ansA A c))) (some (.ref af)) y9 y10 y11 y12) g7 := by
    rw [law4, sSeq_e, lock]
    rfl
  have is : isiD .tuple g5 (ansD (ansA A c)) = some (.bl true) := rfl
  have fin : c_law_10 ((tE a0 t sp fl (some (.ref st)) x4 x5 x6 x7 x8 x9 x10 x11 x12).set 4 (some (.int j))) g = .nx (tE a0 t sp fl (some (.ref af)) (some (.int j)) (some (.tup c.d)) (some (.ref b2)) (some (ansD (ansA A c))) (some (.ref af)) y9 y10 y11 y12) g7 := by
    unfold c_law_10 c_law_9 c_law_8 c_law_7
    simp only [List.set, sSeq_e, sAsg_e, vCall_e, aCons_e, vVar_e, List.getElem?_cons_zero, List.getElem?_cons_succ, Res.bind, vC_e, aNil_e, a1, sBind, a2, a3, a4]
    unfold c_law_6
    simp only [sSeq_e, sIf_e, tOr_e, tOf_e, tNot_e, tTru_e, vOp_e, vUn_e, vCall_e, aCons_e, vVar_e, List.getElem?_cons_zero, List.getElem?_cons_succ, Res.bind, vC_e, aNil_e, a5, eq1, oR_some, bR_bl, cond_false, a6, neq, is, truD_bl, Bool.not_true, sBind, sNx_e]
    unfold c_law_5
    simp only [sSeq_e, sIf_e, tOf_e, vOp_e, vCall_e, aCons_e, vVar_e, List.getElem?_cons_zero, List.getElem?_cons_succ, Res.bind, vC_e, aNil_e, a7, a8, eq2, oR_some, bR_bl, cond_false, sBind, sNx_e]
    exact end4
  rw [fin]
  exact ⟨sp, fl, af, sp3, fl3, T5, T3, aftA A c, _, _, _, _, _, _, _, _, _, rfl, o5, h7, q5, hs7, T7, own_tp h7 T7⟩
end
def A0 : AS := ⟨updF (fun _ => none) 0 (some nilSp), fun _ => 0⟩
theorem A0_0 : A0.sp 0 = some nilSp := rfl
theorem A0_n {s : Int} (h : s ≠ 0) : A0.sp s = none := if_neg h
theorem ok0 : OkAS A0 := by
  refine ⟨fun s S e => ?_, fun k hk => absurd rfl hk⟩
  by_cases c : s = 0
  · subst c
    rw [A0_0] at e
    cases e
    exact ⟨⟨by decide, by decide⟩, (fun p v e => by cases e), fun k hk => absurd rfl hk⟩
  · rw [A0_n c] at e
    cases e
theorem rep0 {g : G} {sp fl a b : Nat} (h1 : g[sp]? = some (.dct false [(.int 0, .tup [.ref a, .ref b])])) (h2 : g[a]? = some (.dct false [])) (h3 : g[b]? = some (.dct true [])) (h4 : g[fl]? = some (.dct true [])) : Rep g sp fl [(0, (a, b))] A0 := by
  refine ⟨h1, by simp [NdT], fun s x e => ?_, fun s e => ?_, [], h4, List.nodup_nil, fun k => rfl⟩
  · rw [lkT_cons] at e
    by_cases c : (0 : Int) = s
    · rw [if_pos c] at e
      cases e
      subst c
      exact ⟨[], [], nilSp, A0_0, h2, h3, List.nodup_nil, List.nodup_nil, fun _ => rfl, fun _ => rfl⟩
    · rw [if_neg c] at e
      cases e
  · rw [lkT_cons] at e
    by_cases c : (0 : Int) = s
    · rw [if_pos c] at e; cases e
    · exact A0_n (Ne.symm c)
theorem look0 {a b : Nat} {s : Int} {x : Nat × Nat} (e : lkT [((0 : Int), (a, b))] s = some x) : x = (a, b) ∧ s = 0 := by
  rw [lkT_cons] at e
  by_cases c : (0 : Int) = s
  · rw [if_pos c] at e
    cases e
    exact ⟨rfl, c.symm⟩
  · rw [if_neg c] at e
    cases e
theorem wins : Wins m_law := by
  intro ns hn
  have start : m_law [.scr (ns.map D.int)] [] = endM (b_law [some (.scr (ns.map D.int)), none, none, none, none, none, none, none, none, none, none, none, none] []) := rfl
  rw [start]
  unfold b_law c_law_13 c_law_12 c_law_11
  have tp : vLstO (aCons (vCB listD (aCons (vVar 0) aNil)) (aCons (vC (.int 0)) (aCons (vC (.int 0)) (aCons (vC (.int 5)) aNil)))) [some (.scr (ns.map D.int)), none, none, none, none, none, none, none, none, none, none, none, none] [] = .ok (.ref 0) [.lst [.lst (ns.map D.int), .int 0, .int 0, .int 5]] := rfl
  have nw : m__law_new [] [.lst [.lst (ns.map D.int), .int 0, .int 0, .int 5]] = .ok (lpD 1 4) [.lst [.lst (ns.map D.int), .int 0, .int 0, .int 5], .dct false [(.int 0, .tup [.ref 2, .ref 3])], .dct false [], .dct true [], .dct true []] := rfl
  have pl : m_new_plain [] [.lst [.lst (ns.map D.int), .int 0, .int 0, .int 5], .dct false [(.int 0, .tup [.ref 2, .ref 3])], .dct false [], .dct true [], .dct true []] = .ok (.ref 5) [.lst [.lst (ns.map D.int), .int 0, .int 0, .int 5], .dct false [(.int 0, .tup [.ref 2, .ref 3])], .dct false [], .dct true [], .dct true [], .dct false [(.str 14, .ref 6), (.str 13, .ref 9)], .dct false [(.int 0, .tup [.ref 7, .ref 8])], .dct false [], .dct true [], .dct true []] := rfl
  generalize hg : ([.lst [.lst (ns.map D.int), .int 0, .int 0, .int 5], .dct false [(.int 0, .tup [.ref 2, .ref 3])], .dct false [], .dct true [], .dct true [], .dct false [(.str 14, .ref 6), (.str 13, .ref 9)], .dct false [(.int 0, .tup [.ref 7, .ref 8])], .dct false [], .dct true [], .dct true []] : G) = g at pl
  have T0 : Tp g 0 := ⟨ns, 0, 0, 5, by rw [← hg]; rfl, by decide, by decide, by decide, by decide⟩
  have r1 : Rep g 1 4 [(0, (2, 3))] A0 := rep0 (by rw [← hg]; rfl) (by rw [← hg]; rfl) (by rw [← hg]; rfl) (by rw [← hg]; rfl)
  have r2 : Rep g 6 9 [(0, (7, 8))] A0 := rep0 (by rw [← hg]; rfl) (by rw [← hg]; rfl) (by rw [← hg]; rfl) (by rw [← hg]; rfl)
  have sep : Sep 1 4 [((0 : Int), (2, 3))] := ⟨by decide, fun s x e => by obtain ⟨rfl, _⟩ := look0 e; decide, fun s t x y e1 e2 hne => by
    obtain ⟨_, rfl⟩ := look0 e1
    obtain ⟨_, rfl⟩ := look0 e2
    exact absurd rfl hne⟩
  have own : ∀ i, 5 ≤ i → ¬ Own 1 4 [((0 : Int), (2, 3))] i := fun i hi hn => by
    rcases hn with rfl | rfl | ⟨s, x, e, hx⟩
    · omega
    · omega
    · obtain ⟨rfl, _⟩ := look0 e
      rcases hx with rfl | rfl <;> simp at hi
  have st : StR (fun i => ¬ Own 1 4 [((0 : Int), (2, 3))] i) g 5 6 9 [(0, (7, 8))] A0 := ⟨by rw [← hg]; rfl, r2, ⟨own _ (by decide), own _ (by decide), own _ (by decide)⟩, fun s x e => by
    obtain ⟨rfl, _⟩ := look0 e
    exact ⟨own _ (by decide), own _ (by decide)⟩⟩
  obtain ⟨c, g1, a1, c0, c1, N1⟩ := nx (i := 1) T0 (e := [some (.scr (ns.map D.int)), some (.ref 0), some (lpD 1 4), some (.ref 5), none, none, none, none, none, none, none, none, none]) (m := vC (.int 3)) rfl rfl (by decide) (by decide)
  have im : ∃ n : Nat, iRng1 (vOp ixD (vTup (aCons (vC (.int 6)) (aCons (vC (.int 12)) (aCons (vC (.int 30)) aNil)))) (vCall m__law_next (aCons (vVar 1) (aCons (vC (.int 3)) aNil)))) [some (.scr (ns.map D.int)), some (.ref 0), some (lpD 1 4), some (.ref 5), none, none, none, none, none, none, none, none, none] g = .ok (.vals (rngL 0 n)) g1 := by
    have t3 : ∀ e g, vTup (aCons (vC (.int 6)) (aCons (vC (.int 12)) (aCons (vC (.int 30)) aNil))) e g = .ok (.tup [.int 6, .int 12, .int 30]) g := fun _ _ => rfl
    have hc : c = 0 ∨ c = 1 ∨ c = 2 := by omega
    rcases hc with rfl | rfl | rfl
    · exact ⟨6, for_rng1 (n := 6) (by simp only [vOp_e, t3, Res.bind, a1, ixD_tup, at0, oR_some]) (by decide) (by decide)⟩
    · exact ⟨12, for_rng1 (n := 12) (by simp only [vOp_e, t3, Res.bind, a1, ixD_tup, at1, oR_some]) (by decide) (by decide)⟩
    · exact ⟨30, for_rng1 (n := 30) (by simp only [vOp_e, t3, Res.bind, a1, ixD_tup, at2, oR_some]) (by decide) (by decide)⟩
  obtain ⟨n, im⟩ := im
  have d1 := Nxt.dk T0 N1
  have r1' := r1.dk d1
  have B0 : Bt (some (.scr (ns.map D.int))) 0 [some (.scr (ns.map D.int)), some (.ref 0), some (lpD 1 4), some (.ref 5), none, none, none, none, none, none, none, none, none] g1 := ⟨1, 4, 5, 6, 9, _, _, A0, _, _, _, _, _, _, _, _, _, rfl, ok0, r1', sep, st.dk d1, N1.T, own_tp r1' N1.T⟩
  simp only [sSeq_e, sAsg_e, tp, sBind, List.set, vCall_e, aNil_e, Res.bind, nw, pl]
  simp only [sFor_e, im, sBind, runS]
  have fin := for_rng (gm := gN 4) (b := c_law_10) (n := n) (Q := fun r => ∃ g', endM (match r with
      | .nx e' g' => c_law_1 e' g'
      | r => r) = .ok (.bl true) g') (e := [some (.scr (ns.map D.int)), some (.ref 0), some (lpD 1 4), some (.ref 5), none, none, none, none, none, none, none, none, none]) (g := g1)
    (fun j e g => Bt (some (.scr (ns.map D.int))) 0 e g) B0 ?_ ?_
  · exact fin
  · intro j e g hj B
    refine ⟨_, rfl, ?_⟩
    have := turn_run (j := (j : Int)) B
    cases h : c_law_10 (e.set 4 (some (.int (j : Int)))) g with
    | nx e' g' => rw [h] at this; exact this
    | ct e' g' => rw [h] at this; exact this
    | _ => rw [h] at this; exact this.elim
  · intro e g B
    unfold c_law_1
    exact ⟨g, by simp⟩

end Z

/-! ### the head (printed by gen.py) -/
namespace Z
open PySem PySem.Spec PyProof.Rows L2 Y
abbrev R : PySem.W.OpenRow := PySem.W.OpenLaw.row PySem.Challenge.rw_frametally_k15_plain_machine
def D__law_next : He.DefD := ⟨("_law_next", none), "_law_next", "_law_next", defArgs s__law_next, defBody s__law_next, defScope s__law_next, [], []⟩
def D_cell_of : He.DefD := ⟨("cell_of", none), "cell_of", "cell_of", defArgs s_cell_of, defBody s_cell_of, defScope s_cell_of, [], []⟩
def D__law_table : He.DefD := ⟨("_law_table", none), "_law_table", "_law_table", defArgs s__law_table, defBody s__law_table, defScope s__law_table, [], []⟩
def D__law_shows : He.DefD := ⟨("_law_shows", none), "_law_shows", "_law_shows", defArgs s__law_shows, defBody s__law_shows, defScope s__law_shows, [], []⟩
def D__law_seen : He.DefD := ⟨("_law_seen", none), "_law_seen", "_law_seen", defArgs s__law_seen, defBody s__law_seen, defScope s__law_seen, [], []⟩
def D__law_born : He.DefD := ⟨("_law_born", none), "_law_born", "_law_born", defArgs s__law_born, defBody s__law_born, defScope s__law_born, [], []⟩
def D__law_cells : He.DefD := ⟨("_law_cells", none), "_law_cells", "_law_cells", defArgs s__law_cells, defBody s__law_cells, defScope s__law_cells, [], []⟩
def D__law_does : He.DefD := ⟨("_law_does", none), "_law_does", "_law_does", defArgs s__law_does, defBody s__law_does, defScope s__law_does, [], []⟩
def D_with_entry : He.DefD := ⟨("with_entry", none), "with_entry", "with_entry", defArgs s_with_entry, defBody s_with_entry, defScope s_with_entry, [], []⟩
def D_with_space : He.DefD := ⟨("with_space", none), "with_space", "with_space", defArgs s_with_space, defBody s_with_space, defScope s_with_space, [], []⟩
def D_after_space : He.DefD := ⟨("after_space", none), "after_space", "after_space", defArgs s_after_space, defBody s_after_space, defScope s_after_space, [], []⟩
def D_protected : He.DefD := ⟨("protected", none), "protected", "protected", defArgs s_protected, defBody s_protected, defScope s_protected, [], []⟩
def D_unmapped : He.DefD := ⟨("unmapped", none), "unmapped", "unmapped", defArgs s_unmapped, defBody s_unmapped, defScope s_unmapped, [], []⟩
def D_mapped : He.DefD := ⟨("mapped", none), "mapped", "mapped", defArgs s_mapped, defBody s_mapped, defScope s_mapped, [], []⟩
def D_with_cell : He.DefD := ⟨("with_cell", none), "with_cell", "with_cell", defArgs s_with_cell, defBody s_with_cell, defScope s_with_cell, [], []⟩
def D_after_use : He.DefD := ⟨("after_use", none), "after_use", "after_use", defArgs s_after_use, defBody s_after_use, defScope s_after_use, [], []⟩
def D_new_space : He.DefD := ⟨("new_space", none), "new_space", "new_space", defArgs s_new_space, defBody s_new_space, defScope s_new_space, [], []⟩
def D_page_of : He.DefD := ⟨("page_of", none), "page_of", "page_of", defArgs s_page_of, defBody s_page_of, defScope s_page_of, [], []⟩
def D_use_refusal : He.DefD := ⟨("use_refusal", none), "use_refusal", "use_refusal", defArgs s_use_refusal, defBody s_use_refusal, defScope s_use_refusal, [], []⟩
def D_use_answer : He.DefD := ⟨("use_answer", none), "use_answer", "use_answer", defArgs s_use_answer, defBody s_use_answer, defScope s_use_answer, [], []⟩
def D_answer_of : He.DefD := ⟨("answer_of", none), "answer_of", "answer_of", defArgs s_answer_of, defBody s_answer_of, defScope s_answer_of, [], []⟩
def D_after_call : He.DefD := ⟨("after_call", none), "after_call", "after_call", defArgs s_after_call, defBody s_after_call, defScope s_after_call, [], []⟩
def D__law_call : He.DefD := ⟨("_law_call", none), "_law_call", "_law_call", defArgs s__law_call, defBody s__law_call, defScope s__law_call, [], []⟩
def D_new_plain : He.DefD := ⟨("new_plain", none), "new_plain", "new_plain", defArgs s_new_plain, defBody s_new_plain, defScope s_new_plain, [], []⟩
def D__law_new : He.DefD := ⟨("_law_new", none), "_law_new", "_law_new", defArgs s__law_new, defBody s__law_new, defScope s__law_new, [], []⟩
def D_law : He.DefD := ⟨("law", none), "law", "law", defArgs s_law, defBody s_law, defScope s_law, [], []⟩
def fn : List He.DefD := [D__law_next, D_cell_of, D__law_table, D__law_shows, D__law_seen, D__law_born, D__law_cells, D__law_does, D_with_entry, D_with_space, D_after_space, D_protected, D_unmapped, D_mapped, D_with_cell, D_after_use, D_new_space, D_page_of, D_use_refusal, D_use_answer, D_answer_of, D_after_call, D__law_call, D_new_plain, D__law_new, D_law]
def fa : List He.Fa := [.free "range", .free "int", .free "len", .free "abs", .free "dict", .free "isinstance", .free "tuple", .free "list", .free "any", .int "SPACES" (4), .free "min", .glo "_law_next", .glo "cell_of", .glo "_law_table", .glo "_law_shows", .glo "_law_seen", .glo "_law_born", .glo "_law_cells", .glo "_law_does", .glo "with_entry", .glo "with_space", .glo "after_space", .glo "protected", .glo "unmapped", .glo "mapped", .glo "with_cell", .glo "after_use", .glo "new_space", .glo "page_of", .glo "use_refusal"] ++ [.glo "use_answer", .glo "answer_of", .glo "after_call", .glo "_law_call", .glo "new_plain", .glo "_law_new", .glo "law"]
def loose : List PySem.Str := (["SPACES", "new_plain", "with_entry", "with_space", "page_of", "cell_of", "with_cell", "new_space", "use_refusal", "use_answer", "answer_of", "mapped", "unmapped", "protected", "after_use", "after_space", "after_call", "_law_next", "_law_call", "_law_new", "_law_copy", "_law_table", "_law_cells", "_law_born", "_law_does", "_law_shows", "_law_seen"] : List PySem.Str)
abbrev hk : PySem.W.Hook := He.hookD 4 fa fn
def ob (s : PySem.W.SharedT) : He.AlD := He.obsDG 4 fa fn (HandSHeadRun.getT s)
theorem ob_eq (s : PySem.W.SharedT) : ob s = hk.obs s.abs := He.obsDG_eq (HandSHeadRun.getT_eq s)
theorem run (w : World) : HandSHeadRun.RunEq R (PySem.W.view R.prog [29]) hk ob 4000 loose w := by
  intro os
  kernel_rfl
abbrev kit (P : Program) (w : World) (K : PySem.W.Frag) (mg : Str → Option Value) (base : Heap) : Kit := ⟨P, w, K, mg, base, TAB, [], [], tab_nd, tab_sk⟩
theorem facts {P : Program} {w : World} {K : PySem.W.Frag} {h base : Heap} {mg : Str → Option Value} (X : K.In h) (G : h.Ns mainGlobals mg) (c : He.SaysD fa fn K) :
    Facts (kit P w K mg base) := by
  exact {
    tb := rfl
    f_range := He.free_ok X G (c.fact 0 (f := .free "range") rfl)
    f_int := He.free_ok X G (c.fact 1 (f := .free "int") rfl)
    f_len := He.free_ok X G (c.fact 2 (f := .free "len") rfl)
    f_abs := He.free_ok X G (c.fact 3 (f := .free "abs") rfl)
    f_dict := He.free_ok X G (c.fact 4 (f := .free "dict") rfl)
    f_isinstance := He.free_ok X G (c.fact 5 (f := .free "isinstance") rfl)
    f_tuple := He.free_ok X G (c.fact 6 (f := .free "tuple") rfl)
    f_list := He.free_ok X G (c.fact 7 (f := .free "list") rfl)
    f_any := He.free_ok X G (c.fact 8 (f := .free "any") rfl)
    i_SPACES := He.int_ok X G (c.fact 9 (f := .int "SPACES" (4)) rfl)
    f_min := He.free_ok X G (c.fact 10 (f := .free "min") rfl)
    d__law_next := ⟨_, (c.def_ 0 (d := D__law_next) rfl).choose, He.glo_ok X G (c.fact 11 (f := .glo "_law_next") rfl), (c.def_ 0 (d := D__law_next) rfl).choose_spec.kp, (c.def_ 0 (d := D__law_next) rfl).choose_spec⟩
    d_cell_of := ⟨_, (c.def_ 1 (d := D_cell_of) rfl).choose, He.glo_ok X G (c.fact 12 (f := .glo "cell_of") rfl), (c.def_ 1 (d := D_cell_of) rfl).choose_spec.kp, (c.def_ 1 (d := D_cell_of) rfl).choose_spec⟩
    d__law_table := ⟨_, (c.def_ 2 (d := D__law_table) rfl).choose, He.glo_ok X G (c.fact 13 (f := .glo "_law_table") rfl), (c.def_ 2 (d := D__law_table) rfl).choose_spec.kp, (c.def_ 2 (d := D__law_table) rfl).choose_spec⟩
    d__law_shows := ⟨_, (c.def_ 3 (d := D__law_shows) rfl).choose, He.glo_ok X G (c.fact 14 (f := .glo "_law_shows") rfl), (c.def_ 3 (d := D__law_shows) rfl).choose_spec.kp, (c.def_ 3 (d := D__law_shows) rfl).choose_spec⟩
    d__law_seen := ⟨_, (c.def_ 4 (d := D__law_seen) rfl).choose, He.glo_ok X G (c.fact 15 (f := .glo "_law_seen") rfl), (c.def_ 4 (d := D__law_seen) rfl).choose_spec.kp, (c.def_ 4 (d := D__law_seen) rfl).choose_spec⟩
    d__law_born := ⟨_, (c.def_ 5 (d := D__law_born) rfl).choose, He.glo_ok X G (c.fact 16 (f := .glo "_law_born") rfl), (c.def_ 5 (d := D__law_born) rfl).choose_spec.kp, (c.def_ 5 (d := D__law_born) rfl).choose_spec⟩
    d__law_cells := ⟨_, (c.def_ 6 (d := D__law_cells) rfl).choose, He.glo_ok X G (c.fact 17 (f := .glo "_law_cells") rfl), (c.def_ 6 (d := D__law_cells) rfl).choose_spec.kp, (c.def_ 6 (d := D__law_cells) rfl).choose_spec⟩
    d__law_does := ⟨_, (c.def_ 7 (d := D__law_does) rfl).choose, He.glo_ok X G (c.fact 18 (f := .glo "_law_does") rfl), (c.def_ 7 (d := D__law_does) rfl).choose_spec.kp, (c.def_ 7 (d := D__law_does) rfl).choose_spec⟩
    d_with_entry := ⟨_, (c.def_ 8 (d := D_with_entry) rfl).choose, He.glo_ok X G (c.fact 19 (f := .glo "with_entry") rfl), (c.def_ 8 (d := D_with_entry) rfl).choose_spec.kp, (c.def_ 8 (d := D_with_entry) rfl).choose_spec⟩
    d_with_space := ⟨_, (c.def_ 9 (d := D_with_space) rfl).choose, He.glo_ok X G (c.fact 20 (f := .glo "with_space") rfl), (c.def_ 9 (d := D_with_space) rfl).choose_spec.kp, (c.def_ 9 (d := D_with_space) rfl).choose_spec⟩
    d_after_space := ⟨_, (c.def_ 10 (d := D_after_space) rfl).choose, He.glo_ok X G (c.fact 21 (f := .glo "after_space") rfl), (c.def_ 10 (d := D_after_space) rfl).choose_spec.kp, (c.def_ 10 (d := D_after_space) rfl).choose_spec⟩
    d_protected := ⟨_, (c.def_ 11 (d := D_protected) rfl).choose, He.glo_ok X G (c.fact 22 (f := .glo "protected") rfl), (c.def_ 11 (d := D_protected) rfl).choose_spec.kp, (c.def_ 11 (d := D_protected) rfl).choose_spec⟩
    d_unmapped := ⟨_, (c.def_ 12 (d := D_unmapped) rfl).choose, He.glo_ok X G (c.fact 23 (f := .glo "unmapped") rfl), (c.def_ 12 (d := D_unmapped) rfl).choose_spec.kp, (c.def_ 12 (d := D_unmapped) rfl).choose_spec⟩
    d_mapped := ⟨_, (c.def_ 13 (d := D_mapped) rfl).choose, He.glo_ok X G (c.fact 24 (f := .glo "mapped") rfl), (c.def_ 13 (d := D_mapped) rfl).choose_spec.kp, (c.def_ 13 (d := D_mapped) rfl).choose_spec⟩
    d_with_cell := ⟨_, (c.def_ 14 (d := D_with_cell) rfl).choose, He.glo_ok X G (c.fact 25 (f := .glo "with_cell") rfl), (c.def_ 14 (d := D_with_cell) rfl).choose_spec.kp, (c.def_ 14 (d := D_with_cell) rfl).choose_spec⟩
    d_after_use := ⟨_, (c.def_ 15 (d := D_after_use) rfl).choose, He.glo_ok X G (c.fact 26 (f := .glo "after_use") rfl), (c.def_ 15 (d := D_after_use) rfl).choose_spec.kp, (c.def_ 15 (d := D_after_use) rfl).choose_spec⟩
    d_new_space := ⟨_, (c.def_ 16 (d := D_new_space) rfl).choose, He.glo_ok X G (c.fact 27 (f := .glo "new_space") rfl), (c.def_ 16 (d := D_new_space) rfl).choose_spec.kp, (c.def_ 16 (d := D_new_space) rfl).choose_spec⟩
    d_page_of := ⟨_, (c.def_ 17 (d := D_page_of) rfl).choose, He.glo_ok X G (c.fact 28 (f := .glo "page_of") rfl), (c.def_ 17 (d := D_page_of) rfl).choose_spec.kp, (c.def_ 17 (d := D_page_of) rfl).choose_spec⟩
    d_use_refusal := ⟨_, (c.def_ 18 (d := D_use_refusal) rfl).choose, He.glo_ok X G (c.fact 29 (f := .glo "use_refusal") rfl), (c.def_ 18 (d := D_use_refusal) rfl).choose_spec.kp, (c.def_ 18 (d := D_use_refusal) rfl).choose_spec⟩
    d_use_answer := ⟨_, (c.def_ 19 (d := D_use_answer) rfl).choose, He.glo_ok X G (c.fact 30 (f := .glo "use_answer") rfl), (c.def_ 19 (d := D_use_answer) rfl).choose_spec.kp, (c.def_ 19 (d := D_use_answer) rfl).choose_spec⟩
    d_answer_of := ⟨_, (c.def_ 20 (d := D_answer_of) rfl).choose, He.glo_ok X G (c.fact 31 (f := .glo "answer_of") rfl), (c.def_ 20 (d := D_answer_of) rfl).choose_spec.kp, (c.def_ 20 (d := D_answer_of) rfl).choose_spec⟩
    d_after_call := ⟨_, (c.def_ 21 (d := D_after_call) rfl).choose, He.glo_ok X G (c.fact 32 (f := .glo "after_call") rfl), (c.def_ 21 (d := D_after_call) rfl).choose_spec.kp, (c.def_ 21 (d := D_after_call) rfl).choose_spec⟩
    d__law_call := ⟨_, (c.def_ 22 (d := D__law_call) rfl).choose, He.glo_ok X G (c.fact 33 (f := .glo "_law_call") rfl), (c.def_ 22 (d := D__law_call) rfl).choose_spec.kp, (c.def_ 22 (d := D__law_call) rfl).choose_spec⟩
    d_new_plain := ⟨_, (c.def_ 23 (d := D_new_plain) rfl).choose, He.glo_ok X G (c.fact 34 (f := .glo "new_plain") rfl), (c.def_ 23 (d := D_new_plain) rfl).choose_spec.kp, (c.def_ 23 (d := D_new_plain) rfl).choose_spec⟩
    d__law_new := ⟨_, (c.def_ 24 (d := D__law_new) rfl).choose, He.glo_ok X G (c.fact 35 (f := .glo "_law_new") rfl), (c.def_ 24 (d := D__law_new) rfl).choose_spec.kp, (c.def_ 24 (d := D__law_new) rfl).choose_spec⟩
    d_law := ⟨_, (c.def_ 25 (d := D_law) rfl).choose, He.glo_ok X G (c.fact 36 (f := .glo "law") rfl), (c.def_ 25 (d := D_law) rfl).choose_spec.kp, (c.def_ 25 (d := D_law) rfl).choose_spec⟩
  }
end Z
open PySem PySem.W PySem.Calls PyProof.Rows
set_option maxRecDepth 100000 in
set_option maxHeartbeats 0 in
theorem PySem.Challenge.cw_frametally_k15_plain_machine_holds : PySem.Challenge.rw_frametally_k15_plain_machine.Holds := by
  w_on; o_law
  refine HandSHeadRun.head_any (r := OpenLaw.row PySem.Challenge.rw_frametally_k15_plain_machine) (q := view (OpenLaw.row PySem.Challenge.rw_frametally_k15_plain_machine).prog [29]) (H := Z.hk) (ob := Z.ob) (M := 4000) (loose := Z.loose) (d := HandSHeadRun.topDef (OpenLaw.row PySem.Challenge.rw_frametally_k15_plain_machine).prog 29) (kwd := []) Z.ob_eq
    (by kernel_rfl) (fun s => by kernel_rfl) Z.run (by kernel_rfl) (by kernel_rfl) (by kernel_rfl) (by rfl) (by first | assumption | decide +kernel) (by decide +kernel) ⟨rfl, rfl, rfl, rfl, rfl, by decide +kernel⟩ ?hw ?hc
  case hw => w_witness2
  case hc =>
    refine Y.law_end (l := PySem.Challenge.rw_frametally_k15_plain_machine) (k := 6) (x := "_law_script") rfl (by kernel_rfl) ⟨rfl, by decide, by decide⟩ (by kernel_rfl) ?F
    intro w mg h Y G
    obtain ⟨K, KX, c⟩ := Y
    obtain ⟨f, fd, h1, h2, F⟩ := (Z.facts (P := (PySem.Challenge.rw_frametally_k15_plain_machine).prog) (w := w) (base := h) KX G c).d_law
    refine ⟨K, f, fd, Z.m_law, KX, h1, fun s v => L2.FunD.bindsA (ps := ["_law_script"]) F (fun _ _ _ _ _ _ us hl => match us, hl with | [_], _ => rfl) s [v] rfl, Z.wins, fun base KB GB => ?_⟩
    exact (Z.law_ok (Z.facts (P := (PySem.Challenge.rw_frametally_k15_plain_machine).prog) (w := w) (base := base) KX G c) F).imp (Y.law_sp (Kt := Z.kit (PySem.Challenge.rw_frametally_k15_plain_machine).prog w K mg base) rfl Z.wins)

