import PyProof.Rows.All
import Wide.All
import OpenK.AllK
import Wide.FinOn
import HandS.ForMost
import HandS.ForSpec
import HandS.CallSlots
import HandS.Lambda
import HandS.TupAny
import HandS.TupMul
import HandS.More
import HandS.Deep
import HandS.TupSets
import HandS.SortOrd
import HandS.Zip
import HandS.Rev
import HandS.IsInst
import HandS.WrittenGet
import HandS.DictTup
import HandS.DictComp
import KE.LtData
import KE.SortData
import KE.DataMinMax
import PyProof.ReprNest
import PyProof.ReprRoads
import PyProof.ReprBulk
import HandS.Style
import HandS.Star
import HandS.ExcOwn
import HandS.Finally
import HandS.EndOwn
import PySem.Challenge.RW_inkwalk_k01_points_lines_and_sides
set_option Elab.async false
set_option maxRecDepth 100000
set_option autoImplicit false
/-! Ink0: plain data over the hand layer: states of data, what a piece of text reckons as a total function over them. -/
namespace Ink
open PySem PySem.Spec PyProof.Rows L2

/-! ### data -/
inductive D where
  | non | bl (b : Bool) | int (i : Int) | str (x : Str)
  | lst (xs : List D) | tup (xs : List D) | dct (kvs : List (D × D))
  | bag | fn (x : Str)

def kD : Key → D
  | .inl i => .int i
  | .inr x => .str x
def tD (ks : List Key) : D := .tup (ks.map kD)

/-- the bag's state -/
structure Bag where
  p : Int
  s : Int
  k : Int
  cells : List Int

/-- an exception: its class, its own fields -/
structure Exn where
  cls : Str
  fields : List (Str × D)

inductive Res (σ α : Type) where
  | ok (a : α) (s : σ)
  | exn (e : Exn) (s : σ)
  | bad

abbrev M (α : Type) := Bag → Res Bag α

/-- a written dict with plain keys -/
def KDat (K : PySem.W.Frag) (w : World) (a : Addr) (kvs : List (Key × V)) : Prop :=
  ∃ (es : Array DictEntry) (n : Nat) (us : List (Key × Value)), K.lookup a = some ⟨.type "dict", none, .dict es n, #[]⟩ ∧ PySem.W.KeysLit w.params es.toList ∧ (a == sysModules) = false ∧ KV kvs us ∧ (∀ prog, Pairs (mixKind prog w) es.toList us) ∧ (us.map (·.1)).Nodup
/-- what is fixed: the written part, the module's names, where the bag lies -/
structure Gd where
  K : PySem.W.Frag
  mg : Str → Option Value
  b1 : Addr
  b2 : Addr
  gl : World
  tb : List (Addr × Str)

mutual
inductive DR (G : Gd) (F : Hp) : V → D → Prop
  | non : DR G F .non .non
  | bl (b : Bool) : DR G F (.bl b) (.bl b)
  | int (i : Int) : DR G F (.int i) (.int i)
  | str (x : Str) : DR G F (.str x) (.str x)
  | lst {a : Addr} {xs : List V} {ds : List D} : F a = some (.lst xs) → DRs G F xs ds → DR G F (.ref a) (.lst ds)
  | tup {a : Addr} {xs : List V} {ds : List D} : SqT G.K F a xs → DRs G F xs ds → DR G F (.ref a) (.tup ds)
  | dK {a : Addr} {kvs : List (Key × V)} {ks : List Key} {xs : List V} {ds : List D} : Rd F a (.dK kvs) → kvs = ks.zip xs → ks.length = xs.length → DRs G F xs ds → DR G F (.ref a) (.dct ((ks.map kD).zip ds))
  | dT {a : Addr} {kvs : List (List Key × V)} {ks : List (List Key)} {xs : List V} {ds : List D} : Rd F a (.dT kvs) → kvs = ks.zip xs → ks.length = xs.length → DRs G F xs ds → DR G F (.ref a) (.dct ((ks.map tD).zip ds))
  | kd {a : Addr} {kvs : List (Key × V)} {ks : List Key} {xs : List V} {ds : List D} : KDat G.K G.gl a kvs → kvs = ks.zip xs → ks.length = xs.length → DRs G F xs ds → DR G F (.ref a) (.dct ((ks.map kD).zip ds))
  | bag : DR G F (.ref G.b1) .bag
  | fn {x : Str} {a : Addr} : G.mg x = some (.ref a) → DR G F (.ref a) (.fn x)
inductive DRs (G : Gd) (F : Hp) : List V → List D → Prop
  | nil : DRs G F [] []
  | cons {v : V} {vs : List V} {d : D} {ds : List D} : DR G F v d → DRs G F vs ds → DRs G F (v :: vs) (d :: ds)
end

theorem same_seqT {K : PySem.W.Frag} {H H' : Hp} {a : Addr} {xs : List V} (e : Same H H') (h : SqT K H a xs) : SqT K H' a xs := by
  rcases h with (h | ⟨o, h⟩) | h
  · exact .inl (.inl (e _ _ h))
  · exact .inl (.inr ⟨o, e _ _ h⟩)
  · exact .inr h
theorem same_rd {H H' : Hp} {a : Addr} {u : HO} (e : Same H H') (h : Rd H a u) : Rd H' a u := by
  rcases h with h | ⟨o, h⟩
  · exact .inl (e _ _ h)
  · exact .inr ⟨o, e _ _ h⟩

section
variable {G : Gd} {F F' : Hp}
mutual
theorem DR.mono (e : Same F F') : ∀ {v : V} {d : D}, DR G F v d → DR G F' v d
  | _, _, .non => .non
  | _, _, .bl b => .bl b
  | _, _, .int i => .int i
  | _, _, .str x => .str x
  | _, _, .lst h t => .lst (e _ _ h) (DRs.mono e t)
  | _, _, .tup h t => .tup (same_seqT e h) (DRs.mono e t)
  | _, _, .dK h q l t => .dK (same_rd e h) q l (DRs.mono e t)
  | _, _, .dT h q l t => .dT (same_rd e h) q l (DRs.mono e t)
  | _, _, .kd h q l t => .kd h q l (DRs.mono e t)
  | _, _, .bag => .bag
  | _, _, .fn h => .fn h
theorem DRs.mono (e : Same F F') : ∀ {vs : List V} {ds : List D}, DRs G F vs ds → DRs G F' vs ds
  | _, _, .nil => .nil
  | _, _, .cons h t => .cons (DR.mono e h) (DRs.mono e t)
end
theorem DRs.len : ∀ {vs : List V} {ds : List D}, DRs G F vs ds → vs.length = ds.length
  | _, _, .nil => rfl
  | _, _, .cons _ t => by rw [List.length_cons, List.length_cons, DRs.len t]
theorem DRs.app : ∀ {vs ws : List V} {ds es : List D}, DRs G F vs ds → DRs G F ws es → DRs G F (vs ++ ws) (ds ++ es)
  | _, _, _, _, .nil, u => u
  | _, _, _, _, .cons h t, u => .cons h (DRs.app t u)
theorem DRs.get : ∀ {vs : List V} {ds : List D} {i : Nat} {d : D}, DRs G F vs ds → ds[i]? = some d → ∃ v, vs[i]? = some v ∧ DR G F v d
  | _, _, _, _, .nil, e => by simp at e
  | _, _, 0, _, .cons h _, e => by simp at e; subst e; exact ⟨_, rfl, h⟩
  | _, _, i + 1, d, .cons _ t, e => by
    obtain ⟨v, h1, h2⟩ := DRs.get (i := i) (d := d) t (by simpa using e)
    exact ⟨v, by simpa using h1, h2⟩
theorem DRs.getV : ∀ {vs : List V} {ds : List D} {i : Nat} {v : V}, DRs G F vs ds → vs[i]? = some v → ∃ d, ds[i]? = some d ∧ DR G F v d
  | _, _, _, _, .nil, e => by simp at e
  | _, _, 0, _, .cons h _, e => by simp at e; subst e; exact ⟨_, rfl, h⟩
  | _, _, i + 1, v, .cons _ t, e => by
    obtain ⟨d, h1, h2⟩ := DRs.getV (i := i) (v := v) t (by simpa using e)
    exact ⟨d, by simpa using h1, h2⟩
theorem DRs.take : ∀ {vs : List V} {ds : List D} (n : Nat), DRs G F vs ds → DRs G F (vs.take n) (ds.take n)
  | _, _, 0, _ => .nil
  | _, _, _ + 1, .nil => .nil
  | _, _, n + 1, .cons h t => .cons h (DRs.take n t)
theorem DRs.drop : ∀ {vs : List V} {ds : List D} (n : Nat), DRs G F vs ds → DRs G F (vs.drop n) (ds.drop n)
  | _, _, 0, r => r
  | _, _, _ + 1, .nil => .nil
  | _, _, n + 1, .cons _ t => DRs.drop n t
theorem DRs.rev {vs : List V} {ds : List D} (h : DRs G F vs ds) : DRs G F vs.reverse ds.reverse := by
  induction vs generalizing ds with
  | nil => cases h; exact .nil
  | cons v vs ih =>
    cases h with
    | cons h t =>
      rw [List.reverse_cons, List.reverse_cons]
      exact (ih t).app (.cons h .nil)
theorem DRs.rep {vs : List V} {ds : List D} (h : DRs G F vs ds) : ∀ k : Nat, DRs G F (List.replicate k vs).flatten (List.replicate k ds).flatten
  | 0 => .nil
  | k + 1 => by
    rw [List.replicate_succ, List.replicate_succ, List.flatten_cons, List.flatten_cons]
    exact h.app (DRs.rep h k)
theorem DRs.insertAt : ∀ {vs : List V} {ds : List D} {v : V} {d : D} (n : Nat), DRs G F vs ds → DR G F v d → DRs G F (vs.take n ++ v :: vs.drop n) (ds.take n ++ d :: ds.drop n) :=
  fun n h e => (h.take n).app (.cons e (h.drop n))
theorem DRs.ints : ∀ {vs : List V} {ns : List Int}, DRs G F vs (ns.map D.int) → vs = ns.map V.int
  | [], [], _ => rfl
  | [], _ :: _, h => by cases h
  | _ :: _, [], h => by cases h
  | _ :: vs, n :: ns, h => by
    cases h with
    | cons h t =>
      cases h
      rw [List.map_cons, ← DRs.ints t]
end

/-! ### the state of a def's frame -/
inductive SV where
  | no
  | dat (d : D)
  | own (xs : List D)
  | owk (kvs : List (Key × D))
  | owt (kvs : List (List Key × D))

structure AS where
  sl : List SV
  bag : Bag

abbrev Ex (α : Type) := AS → Res AS α

def BagR (G : Gd) (b : Bag) (H F : Hp) : Prop :=
  H G.b1 = some (.lst [.int b.p, .int b.s, .int b.k, .ref G.b2]) ∧ H G.b2 = some (.lst (b.cells.map V.int)) ∧ F G.b1 = none ∧ F G.b2 = none

/-- nothing lies there, or a table of code -/
def fr (H : Hp) (a : Addr) : Prop := ∀ o, H a = some o → ∃ ps, o = .tbl ps
theorem fr_none {H : Hp} {a : Addr} (h : H a = none) : fr H a := fun o e => by rw [h] at e; cases e
theorem fr.no {H : Hp} {a : Addr} {o : HO} (h : fr H a) (e : H a = some o) (n : ∀ ps, o ≠ .tbl ps) : False := by
  obtain ⟨ps, z⟩ := h o e
  exact n ps z
theorem fr_upd {H : Hp} {a q : Addr} {u : HO} (h : fr (upd H q u) a) (n : a ≠ q) : fr H a := fun o e => h o (by rw [upd_ne n]; exact e)
/-- what tables of code are made of -/
def isTab (o : HO) : Prop := (∃ ps, o = .tbl ps) ∨ ∃ f, o = .ext f
theorem tabs_of {H H' : Hp} (h : ∀ b o, H b = some o → isTab o → H' b = some o) (T : List (Addr × Str)) (t : LamX.Tabs T H) : LamX.Tabs T H' := fun p hp => by
  obtain ⟨ps, h1, h2, h3⟩ := t p hp
  refine ⟨ps, h _ _ h1 (.inl ⟨ps, rfl⟩), h2, fun pos cv hc => ?_⟩
  obtain ⟨c, e1, e2⟩ := h3 pos cv hc
  exact ⟨c, e1, h _ _ e2 (.inr ⟨_, rfl⟩)⟩
/-- all but the bag and tables of code stays -/
structure Grow (G : Gd) (H H' : Hp) : Prop where
  ext : ∀ a o, H a = some o → a ≠ G.b1 → a ≠ G.b2 → (∀ ps, o ≠ .tbl ps) → H' a = some o
  tabs : LamX.Tabs G.tb H → LamX.Tabs G.tb H'
theorem Grow.refl (G : Gd) (H : Hp) : Grow G H H := ⟨fun _ _ h _ _ _ => h, fun h => h⟩
theorem Grow.trans {G : Gd} {H H1 H2 : Hp} (a : Grow G H H1) (b : Grow G H1 H2) : Grow G H H2 := ⟨fun c o h n1 n2 n3 => b.ext c o (a.ext c o h n1 n2 n3) n1 n2 n3, fun h => b.tabs (a.tabs h)⟩
theorem Grow.of {G : Gd} {H H' : Hp} (e : Same H H') : Grow G H H' := ⟨fun _ _ h _ _ _ => e _ _ h, tabs_of (fun b o h _ => e b o h) _⟩
/-- an object that is no table of code is laid or written anew -/
theorem Grow.upd {G : Gd} {H0 H : Hp} {q : Addr} {o : HO} (g : Grow G H0 H) (h0 : fr H0 q) (hq : ∀ u, H q = some u → ¬ isTab u) : Grow G H0 (upd H q o) :=
  ⟨fun a u h n1 n2 n3 => by
    have : a ≠ q := fun e => by subst e; exact h0.no h n3
    rw [upd_ne this]; exact g.ext a u h n1 n2 n3, fun h => tabs_of (fun b u h1 h2 => by
    have : b ≠ q := fun e => by subst e; exact hq u h1 h2
    rw [upd_ne this]; exact h1) _ (g.tabs h)⟩
theorem tab_lst {xs : List V} : ¬ isTab (.lst xs) := fun h => by rcases h with ⟨_, h⟩ | ⟨_, h⟩ <;> cases h
theorem tab_dK {xs : List (Key × V)} : ¬ isTab (.dK xs) := fun h => by rcases h with ⟨_, h⟩ | ⟨_, h⟩ <;> cases h
theorem tab_dT {xs : List (List Key × V)} : ¬ isTab (.dT xs) := fun h => by rcases h with ⟨_, h⟩ | ⟨_, h⟩ <;> cases h

def ownAt : SV → Bool
  | .own _ => true
  | .owk _ => true
  | .owt _ => true
  | _ => false

/-- what a slot holds -/
def SlR (G : Gd) (H0 H F : Hp) (x : Option (Option V)) : SV → Prop
  | .no => True
  | .dat d => ∃ v, x = some (some v) ∧ DR G F v d
  | .own ds => ∃ a vs, x = some (some (.ref a)) ∧ H a = some (.lst vs) ∧ F a = none ∧ fr H0 a ∧ DRs G F vs ds
  | .owk kds => ∃ a vs, x = some (some (.ref a)) ∧ H a = some (.dK ((kds.map (·.1)).zip vs)) ∧ F a = none ∧ fr H0 a ∧ DRs G F vs (kds.map (·.2))
  | .owt kds => ∃ a vs, x = some (some (.ref a)) ∧ H a = some (.dT ((kds.map (·.1)).zip vs)) ∧ F a = none ∧ fr H0 a ∧ DRs G F vs (kds.map (·.2))

structure Rel (G : Gd) (H0 F0 : Hp) (s : AS) (σ : L2.St) (H F : Hp) : Prop where
  le : Same F H
  base : Same F0 F
  newF : ∀ a o, F a = some o → F0 a = some o ∨ fr H0 a ∨ ∃ xs, o = .tup xs
  grow : Grow G H0 H
  bag : BagR G s.bag H F
  len : s.sl.length = σ.length
  slot : ∀ (i : Nat) (x : SV), s.sl[i]? = some x → SlR G H0 H F (σ[i]?) x
  dist : ∀ (i j : Nat) (x y : SV) (a : Addr), s.sl[i]? = some x → s.sl[j]? = some y → ownAt x = true → ownAt y = true → σ[i]? = some (some (.ref a)) → σ[j]? = some (some (.ref a)) → i = j
  notbl : ∀ a ps, F a ≠ some (.tbl ps)
  bag0 : ¬ fr H0 G.b1 ∧ ¬ fr H0 G.b2
  kept : ∀ a, fr H a → fr H0 a

/-- an exception as it lies -/
def ExR (G : Gd) (e : Exn) (cls : Value) (d : Option Addr) (H F : Hp) : Prop :=
  ∃ C, G.mg e.cls = some (.ref C) ∧ cls = .ref C ∧ (match d with
    | none => e.fields = []
    | some a => ∃ fs : List (Str × V), H a = some (.xd fs) ∧ fs.map (·.1) = e.fields.map (·.1) ∧ DRs G F (fs.map (·.2)) (e.fields.map (·.2)))

/-- what is a frame's own behind was so ahead -/
def OwnLe (s' s : AS) : Prop := ∀ (i : Nat) (x : SV), s'.sl[i]? = some x → ownAt x = true → ∃ y, s.sl[i]? = some y ∧ ownAt y = true
theorem OwnLe.refl (s : AS) : OwnLe s s := fun _ x h o => ⟨x, h, o⟩
theorem OwnLe.trans {a b c : AS} (h : OwnLe a b) (k : OwnLe b c) : OwnLe a c := fun i x e o => by
  obtain ⟨y, e1, o1⟩ := h i x e o
  exact k i y e1 o1
/-- from one state to a later one, the frame's names as they are -/
structure Stp (G : Gd) (σ : L2.St) (s : AS) (H F : Hp) (s' : AS) (H' F' : Hp) : Prop where
  same : Same F F'
  grow : Grow G H H'
  kept : ∀ a, fr H' a → fr H a
  own : OwnLe s' s
  newF : ∀ a o, F' a = some o → F a = some o ∨ fr H a ∨ (∃ xs, o = .tup xs) ∨ ∃ (i : Nat) (x : SV), s.sl[i]? = some x ∧ ownAt x = true ∧ σ[i]? = some (some (.ref a))
theorem Stp.refl {G : Gd} {σ : L2.St} {s : AS} {H F : Hp} : Stp G σ s H F s H F := ⟨Same.refl _, Grow.refl _ _, fun _ h => h, OwnLe.refl _, fun _ _ h => .inl h⟩
theorem Stp.trans {G : Gd} {σ : L2.St} {s s1 s2 : AS} {H F H1 F1 H2 F2 : Hp} (a : Stp G σ s H F s1 H1 F1) (b : Stp G σ s1 H1 F1 s2 H2 F2) : Stp G σ s H F s2 H2 F2 where
  same := a.same.trans b.same
  grow := a.grow.trans b.grow
  kept := fun c h => a.kept c (b.kept c h)
  own := b.own.trans a.own
  newF := fun c o h => by
    rcases b.newF c o h with h | h | h | ⟨i, x, h1, h2, h3⟩
    · exact a.newF c o h
    · exact .inr (.inl (a.kept c h))
    · exact .inr (.inr (.inl h))
    · obtain ⟨y, e1, e2⟩ := a.own i x h1 h2
      exact .inr (.inr (.inr ⟨i, y, e1, e2, h3⟩))
theorem Stp.laid {G : Gd} {σ : L2.St} {s : AS} {H F : Hp} {q : Addr} {u : HO} (hq : H q = none) (hF : F q = none) : Stp G σ s H F s (upd H q u) (upd F q u) where
  same := fun b w z => by rw [upd_ne (ne_of_none z hF)]; exact z
  grow := Grow.of fun b w z => by rw [upd_ne (ne_of_none z hq)]; exact z
  kept := fun a h => by
    by_cases e : a = q
    · subst e; exact fr_none hq
    · exact fr_upd h e
  own := OwnLe.refl _
  newF := fun a o h => by
    by_cases e : a = q
    · subst e; exact .inr (.inl (fr_none hq))
    · rw [upd_ne e] at h; exact .inl h

/-- what follows a part that gives a; r tells how a lies -/
def KontX (G : Gd) (H0 F0 : Hp) (W : WX) (s : AS) (σ : L2.St) (H F : Hp) (e : Exn) (s' : AS) : Prop :=
  ∀ cls d H' F', Rel G H0 F0 s' σ H' F' → Stp G σ s H F s' H' F' → ExR G e cls d H' F' → W cls d σ H'
def OutG {α β : Type} (G : Gd) (H0 F0 : Hp) (W : WX) (r : Hp → Hp → β → α → Prop) (s : AS) (σ : L2.St) (H F : Hp) (Q : β → Hp → Prop) : Res AS α → Prop
  | .ok a s' => ∀ v H' F', Rel G H0 F0 s' σ H' F' → Stp G σ s H F s' H' F' → r H' F' v a → Q v H'
  | .exn e s' => KontX G H0 F0 W s σ H F e s'
  | .bad => False
def tG {α β : Type} (G : Gd) (H0 F0 : Hp) (W : WX) (r : Hp → Hp → β → α → Prop) (m : Ex α) (σ : L2.St) (H : Hp) (Q : β → Hp → Prop) : Prop :=
  ∃ s F, Rel G H0 F0 s σ H F ∧ OutG G H0 F0 W r s σ H F Q (m s)
/-- a value; values; a truth; a row that is read where it lies -/
abbrev rE (G : Gd) : Hp → Hp → V → D → Prop := fun _ F v d => DR G F v d
abbrev rA (G : Gd) : Hp → Hp → List V → List D → Prop := fun _ F v d => DRs G F v d
abbrev rT : Hp → Hp → Bool → Bool → Prop := fun _ _ a b => a = b
/-- a value that is known for good, or a list of the frame's own that is looked at -/
def rS (G : Gd) : Hp → Hp → V → D → Prop := fun H F v d => DR G F v d ∨ ∃ a vs ds, v = .ref a ∧ d = .lst ds ∧ H a = some (.lst vs) ∧ a ≠ G.b1 ∧ a ≠ G.b2 ∧ DRs G F vs ds
theorem rS.mono {G : Gd} {H F H' F' : Hp} {v : V} {d : D} (h : rS G H F v d) (f : Same F F') (g : Grow G H H') : rS G H' F' v d := by
  rcases h with h | ⟨a, vs, ds, h1, h2, h3, h4, h5, h6⟩
  · exact .inl (h.mono f)
  · exact .inr ⟨a, vs, ds, h1, h2, g.ext _ _ h3 h4 h5 (fun _ z => nomatch z), h4, h5, h6.mono f⟩
def D.isLst : D → Bool
  | .lst _ => true
  | _ => false
theorem rS.dr {G : Gd} {H F : Hp} {v : V} {d : D} (h : rS G H F v d) (n : d.isLst = false) : DR G F v d := by
  rcases h with h | ⟨a, vs, ds, h1, h2, h3, h4, h5, h6⟩
  · exact h
  · subst h2; cases n
theorem rS.lst {G : Gd} {H F : Hp} {v : V} {ds : List D} (h : rS G H F v (.lst ds)) (le : Same F H) : ∃ a vs, v = .ref a ∧ H a = some (.lst vs) ∧ DRs G F vs ds := by
  rcases h with h | ⟨a, vs, ds', h1, h2, h3, h4, h5, h6⟩
  · cases h with
    | lst h1 h2 => exact ⟨_, _, rfl, le _ _ h1, h2⟩
  · cases h2
    exact ⟨a, vs, h1, h3, h6⟩

/-- a statement -/
inductive Fl where
  | nx | bk | ct | rt (d : D)
def OutS (G : Gd) (H0 F0 : Hp) (W : WX) (F : Hp) (E : Ends) : Res AS Fl → Prop
  | .ok .nx s' => ∀ σ' H' F', Rel G H0 F0 s' σ' H' F' → Same F F' → E.nx σ' H'
  | .ok .bk s' => ∀ σ' H' F', Rel G H0 F0 s' σ' H' F' → Same F F' → E.bk σ' H'
  | .ok .ct s' => ∀ σ' H' F', Rel G H0 F0 s' σ' H' F' → Same F F' → E.ct σ' H'
  | .ok (.rt d) s' => ∀ v σ' H' F', Rel G H0 F0 s' σ' H' F' → Same F F' → DR G F' v d → E.rt v H'
  | .exn e s' => ∀ cls d σ' H' F', Rel G H0 F0 s' σ' H' F' → Same F F' → ExR G e cls d H' F' → W cls d σ' H'
  | .bad => False
theorem OutS.mono {G : Gd} {H0 F0 : Hp} {W : WX} {F F1 : Hp} {E : Ends} {r : Res AS Fl} (h : OutS G H0 F0 W F E r) (f : Same F F1) : OutS G H0 F0 W F1 E r := by
  cases r with
  | ok fl s' =>
    cases fl with
    | nx => exact fun σ' H' F' R a => h σ' H' F' R (f.trans a)
    | bk => exact fun σ' H' F' R a => h σ' H' F' R (f.trans a)
    | ct => exact fun σ' H' F' R a => h σ' H' F' R (f.trans a)
    | rt d => exact fun v σ' H' F' R a => h v σ' H' F' R (f.trans a)
  | exn e s' => exact fun cls d σ' H' F' R a => h cls d σ' H' F' R (f.trans a)
  | bad => exact h
def tS (G : Gd) (H0 F0 : Hp) (W : WX) (m : Ex Fl) : TS := fun E σ H => ∃ s F, Rel G H0 F0 s σ H F ∧ OutS G H0 F0 W F E (m s)

/-! ### weakening of readings -/
section
variable {X : Cx}
theorem PE.weak {e : Expr} {t t' : TE} (h : PE X e t) (i : ∀ σ H Q, t' σ H Q → t σ H Q) : PE X e t' := ⟨fun pins s σ H Q I hq => h.run pins s σ H Q I (i _ _ _ hq)⟩
theorem PA.weak {e : List Expr} {t t' : TA} (h : PA X e t) (i : ∀ σ H Q, t' σ H Q → t σ H Q) : PA X e t' := ⟨fun pos pins s σ H Q I hq => h.run pos pins s σ H Q I (i _ _ _ hq)⟩
theorem PT.weak {e : Expr} {t t' : TT} (h : PT X e t) (i : ∀ σ H Q, t' σ H Q → t σ H Q) : PT X e t' := ⟨fun pins s σ H Q I hq => h.run pins s σ H Q I (i _ _ _ hq)⟩
theorem PW.weak {e : Expr} {t t' : TT} (h : PW X e t) (i : ∀ σ H Q, t' σ H Q → t σ H Q) : PW X e t' := ⟨fun w pins s σ H Q I hq => h.run w pins s σ H Q I (i _ _ _ hq)⟩
theorem PS.weak {e : Stmt} {t t' : TS} (h : PS X e t) (i : ∀ E σ H, t' E σ H → t E σ H) : PS X e t' := ⟨fun pins s σ H E I hq => h.run pins s σ H E I (i _ _ _ hq)⟩
theorem PSs.weak {e : List Stmt} {t t' : TS} (h : PSs X e t) (i : ∀ E σ H, t' E σ H → t E σ H) : PSs X e t' := ⟨fun pins s σ H E I hq => h.run pins s σ H E I (i _ _ _ hq)⟩
end

/-! ### the monad -/
@[reducible] def bnd {σ α β : Type} (m : σ → Res σ α) (f : α → σ → Res σ β) : σ → Res σ β := fun s => match m s with
  | .ok a s' => f a s'
  | .exn e s' => .exn e s'
  | .bad => .bad
@[reducible] def ret {σ α : Type} (a : α) : σ → Res σ α := fun s => .ok a s
@[reducible] def opt {σ α : Type} (o : Option α) : σ → Res σ α := fun s => match o with
  | some a => .ok a s
  | none => .bad

/-- a part that only gives away -/
def Fz {α : Type} (m : Ex α) : Prop := ∀ s a s', m s = .ok a s' → OwnLe s' s
theorem Fz.bnd {α β : Type} {m : Ex α} {f : α → Ex β} (h : Fz m) (k : ∀ a, Fz (f a)) : Fz (bnd m f) := fun s b s' e => by
  unfold Ink.bnd at e
  cases q : m s with
  | ok a s1 => rw [q] at e; exact (k a s1 b s' e).trans (h s a s1 q)
  | exn _ _ => rw [q] at e; cases e
  | bad => rw [q] at e; cases e
theorem Fz.ret {α : Type} {a : α} : Fz (ret a) := fun s b s' e => by cases e; exact OwnLe.refl s
theorem Fz.opt {α : Type} {o : Option α} : Fz (opt o) := fun s b s' e => by
  cases o with
  | none => cases e
  | some a => cases e; exact OwnLe.refl s
theorem Fz.ite {α : Type} {c : Prop} [Decidable c] {m m' : Ex α} (h : Fz m) (h' : Fz m') : Fz (if c then m else m') := by
  by_cases q : c
  · rw [if_pos q]; exact h
  · rw [if_neg q]; exact h'
/-- a part that leaves the slots -/
theorem Fz.same {α : Type} {m : Ex α} (h : ∀ s a s', m s = .ok a s' → s'.sl = s.sl) : Fz m := fun s a s' e i x hx o => ⟨x, by rw [← h s a s' e]; exact hx, o⟩

section
variable {G : Gd} {H0 F0 : Hp} {W : WX} {s : AS} {σ : L2.St} {H F : Hp}

theorem KontX.mono {s1 : AS} {H1 F1 : Hp} {e : Exn} {s' : AS} (k : KontX G H0 F0 W s σ H F e s') (z : Stp G σ s H F s1 H1 F1) : KontX G H0 F0 W s1 σ H1 F1 e s' :=
  fun cls d H' F' R a x => k cls d H' F' R (z.trans a) x
theorem OutG.mono {α β : Type} {r : Hp → Hp → β → α → Prop} {s1 : AS} {H1 F1 : Hp} {Q : β → Hp → Prop} {o : Res AS α} (k : OutG G H0 F0 W r s σ H F Q o) (z : Stp G σ s H F s1 H1 F1) : OutG G H0 F0 W r s1 σ H1 F1 Q o := by
  cases o with
  | ok d s' => exact fun v H' F' R a x => k v H' F' R (z.trans a) x
  | exn e s' => exact KontX.mono k z
  | bad => exact k
theorem OutG.imp {α β : Type} {r : Hp → Hp → β → α → Prop} {Q Q' : β → Hp → Prop} {o : Res AS α} (k : OutG G H0 F0 W r s σ H F Q o) (i : ∀ v H', Q v H' → Q' v H') : OutG G H0 F0 W r s σ H F Q' o := by
  cases o with
  | ok d s' => exact fun v H' F' R a x => i _ _ (k v H' F' R a x)
  | exn e s' => exact k
  | bad => exact k
theorem OutG.imp' {α β : Type} {r r' : Hp → Hp → β → α → Prop} {Q : β → Hp → Prop} {o : Res AS α} (k : OutG G H0 F0 W r s σ H F Q o) (i : ∀ H F v a, r' H F v a → r H F v a) : OutG G H0 F0 W r' s σ H F Q o := by
  cases o with
  | ok d s' => exact fun v H' F' R a x => k v H' F' R a (i _ _ _ _ x)
  | exn e s' => exact k
  | bad => exact k
/-- the state is left as it is -/
theorem Rel.here {α β : Type} {r : Hp → Hp → β → α → Prop} {Q : β → Hp → Prop} {a : α} {v : β} (R : Rel G H0 F0 s σ H F) (k : OutG G H0 F0 W r s σ H F Q (.ok a s)) (h : r H F v a) : Q v H :=
  k v H F R Stp.refl h
/-- first m, then f -/
theorem bindK {α β α' β' : Type} {r : Hp → Hp → β → α → Prop} {r' : Hp → Hp → β' → α' → Prop} {m : Ex α} {f : α → Ex α'} {Q : β' → Hp → Prop} {Q' : β → Hp → Prop} (R : Rel G H0 F0 s σ H F) (o : OutG G H0 F0 W r' s σ H F Q (bnd m f s))
    (k : ∀ v H1 a s1 F1, Rel G H0 F0 s1 σ H1 F1 → Same F F1 → Grow G H H1 → r H1 F1 v a → OutG G H0 F0 W r' s1 σ H1 F1 Q (f a s1) → m s = .ok a s1 ∧ Stp G σ s H F s1 H1 F1 → Q' v H1) : tG G H0 F0 W r m σ H Q' := by
  refine ⟨s, F, R, ?_⟩
  unfold bnd at o
  cases e : m s with
  | ok a s1 =>
    rw [e] at o
    exact fun v H1 F1 R1 z1 h => k v H1 a s1 F1 R1 z1.same z1.grow h (OutG.mono o z1) ⟨e, z1⟩
  | exn x s1 =>
    rw [e] at o
    exact o
  | bad =>
    rw [e] at o
    exact o.elim
/-- the same ahead of a statement -/
theorem bindS {α β : Type} {r : Hp → Hp → β → α → Prop} {m : Ex α} {f : α → Ex Fl} {E : Ends} {Q' : β → Hp → Prop} (R : Rel G H0 F0 s σ H F) (o : OutS G H0 F0 W F E (bnd m f s))
    (k : ∀ v H1 a s1 F1, Rel G H0 F0 s1 σ H1 F1 → Same F F1 → Grow G H H1 → r H1 F1 v a → OutS G H0 F0 W F1 E (f a s1) → m s = .ok a s1 ∧ Stp G σ s H F s1 H1 F1 → Q' v H1) : tG G H0 F0 W r m σ H Q' := by
  refine ⟨s, F, R, ?_⟩
  unfold bnd at o
  cases e : m s with
  | ok a s1 =>
    rw [e] at o
    exact fun v H1 F1 R1 z1 h => k v H1 a s1 F1 R1 z1.same z1.grow h (OutS.mono o z1.same) ⟨e, z1⟩
  | exn x s1 =>
    rw [e] at o
    exact fun cls d H' F' R' z x => o cls d σ H' F' R' z.same x
  | bad =>
    rw [e] at o
    exact o.elim
theorem SlR.laid {x : Option (Option V)} {sv : SV} {H1 F1 : Hp} (h : SlR G H0 H F x sv) (f : Same F F1) (o : ∀ a, H a ≠ none → F a = none → ownAt sv = true → x = some (some (V.ref a)) → F1 a = none) (g : ∀ a u, H a = some u → F a = none → ownAt sv = true → x = some (some (V.ref a)) → H1 a = some u) : SlR G H0 H1 F1 x sv := by
  cases sv with
  | no => trivial
  | dat d => obtain ⟨v, e, h⟩ := h; exact ⟨v, e, h.mono f⟩
  | own ds => obtain ⟨a, vs, e, h1, h2, h3, h4⟩ := h; exact ⟨a, vs, e, g a _ h1 h2 rfl e, o a (by rw [h1]; simp) h2 rfl e, h3, h4.mono f⟩
  | owk ds => obtain ⟨a, vs, e, h1, h2, h3, h4⟩ := h; exact ⟨a, vs, e, g a _ h1 h2 rfl e, o a (by rw [h1]; simp) h2 rfl e, h3, h4.mono f⟩
  | owt ds => obtain ⟨a, vs, e, h1, h2, h3, h4⟩ := h; exact ⟨a, vs, e, g a _ h1 h2 rfl e, o a (by rw [h1]; simp) h2 rfl e, h3, h4.mono f⟩
/-- a new object, known for good -/
theorem Rel.laid {p : Addr} {o : HO} (R : Rel G H0 F0 s σ H F) (hp : H p = none) (ho : ∀ ps, o ≠ .tbl ps) : Rel G H0 F0 s σ (upd H p o) (upd F p o) where
  le := fun a u h => by
    by_cases e : a = p
    · subst e; rw [upd_same] at h ⊢; exact h
    · rw [upd_ne e] at h ⊢; exact R.le a u h
  base := fun a u h => by
    have h1 := R.base a u h
    have : a ≠ p := fun e => by subst e; rw [R.le _ _ h1] at hp; cases hp
    rw [upd_ne this]; exact h1
  newF := fun a u h => by
    by_cases e : a = p
    · subst e; exact .inr (.inl (R.kept a (fr_none hp)))
    · rw [upd_ne e] at h; exact R.newF a u h
  grow := R.grow.upd (R.kept p (fr_none hp)) (fun u h => by rw [hp] at h; cases h)
  bag := by
    obtain ⟨h1, h2, h3, h4⟩ := R.bag
    have n1 : G.b1 ≠ p := ne_of_none h1 hp
    have n2 : G.b2 ≠ p := ne_of_none h2 hp
    exact ⟨by rw [upd_ne n1]; exact h1, by rw [upd_ne n2]; exact h2, by rw [upd_ne n1]; exact h3, by rw [upd_ne n2]; exact h4⟩
  len := R.len
  slot := fun i x e => (R.slot i x e).laid (fun a u h => by
      have : a ≠ p := fun e => by subst e; rw [R.le _ _ h] at hp; cases hp
      rw [upd_ne this]; exact h) (fun a h1 h2 _ _ => by
      have : a ≠ p := fun e => h1 (by rw [e]; exact hp)
      rw [upd_ne this]; exact h2) (fun a u h1 _ _ _ => by
      rw [upd_ne (ne_of_none h1 hp)]; exact h1)
  dist := R.dist
  notbl := fun a ps h => by
    by_cases e : a = p
    · subst e; rw [upd_same] at h; exact ho ps (Option.some.inj h)
    · rw [upd_ne e] at h; exact R.notbl a ps h
  bag0 := R.bag0
  kept := fun a h => by
    by_cases e : a = p
    · subst e; exact R.kept _ (fr_none hp)
    · exact R.kept a (fr_upd h e)
end
end Ink

set_option Elab.async false
set_option maxRecDepth 100000
set_option autoImplicit false
/-! Ink1: rules for expressions over plain data. -/
namespace Ink
open PySem PySem.Spec PyProof.Rows L2

/-- what a derivation leans on: where the bag lies, the entry's heaps, the wish of exceptions -/
structure Pm where
  b1 : Addr
  b2 : Addr
  H0 : Hp
  F0 : Hp
  W : WX
  tb : List (Addr × Str)
abbrev GX (X : Cx) (p : Pm) : Gd := ⟨X.K, X.mg, p.b1, p.b2, X.w, p.tb⟩

def EE (X : Cx) (p : Pm) (e : Expr) (m : Ex D) : Prop := PE X e (tG (GX X p) p.H0 p.F0 p.W (rE (GX X p)) m) ∧ Fz m
def EA (X : Cx) (p : Pm) (es : List Expr) (m : Ex (List D)) : Prop := PA X es (tG (GX X p) p.H0 p.F0 p.W (rA (GX X p)) m) ∧ Fz m
/-- looked at, not kept -/
def EV (X : Cx) (p : Pm) (e : Expr) (m : Ex D) : Prop := PE X e (tG (GX X p) p.H0 p.F0 p.W (rS (GX X p)) m) ∧ Fz m
theorem EE.v {X : Cx} {p : Pm} {e : Expr} {m : Ex D} (h : EE X p e m) : EV X p e m :=
  ⟨PE.weak h.1 fun _ _ _ ⟨s, F, R, o⟩ => ⟨s, F, R, OutG.imp' o fun _ _ _ _ h => .inl h⟩, h.2⟩
def ET (X : Cx) (p : Pm) (e : Expr) (m : Ex Bool) : Prop := PT X e (tG (GX X p) p.H0 p.F0 p.W rT m) ∧ Fz m
def EW (X : Cx) (p : Pm) (e : Expr) (m : Ex Bool) : Prop := PW X e (tG (GX X p) p.H0 p.F0 p.W rT m) ∧ Fz m
def ES (X : Cx) (p : Pm) (st : Stmt) (m : Ex Fl) : Prop := PS X st (tS (GX X p) p.H0 p.F0 p.W m)
def EB (X : Cx) (p : Pm) (st : List Stmt) (m : Ex Fl) : Prop := PSs X st (tS (GX X p) p.H0 p.F0 p.W m)

section
variable {X : Cx} {p : Pm} {e a b c : Expr} {es : List Expr} {pos : Pos} {ma mb mc : Ex D}

/-! ### constants and names -/
theorem e_int {i : Int} {j : Nat} : EE X p (.Constant (.int i) j pos) (ret (.int i)) :=
  ⟨PE.weak pe_int fun _ _ _ ⟨_, _, R, o⟩ => R.here o (.int i), Fz.ret⟩
theorem e_str {x : Str} {j : Nat} : EE X p (.Constant (.str x) j pos) (ret (.str x)) :=
  ⟨PE.weak pe_str fun _ _ _ ⟨_, _, R, o⟩ => R.here o (.str x), Fz.ret⟩
theorem e_bl {k : Bool} {j : Nat} : EE X p (.Constant (.bool k) j pos) (ret (.bl k)) :=
  ⟨PE.weak pe_bl fun _ _ _ ⟨_, _, R, o⟩ => R.here o (.bl k), Fz.ret⟩
theorem e_non {j : Nat} : EE X p (.Constant .none j pos) (ret .non) :=
  ⟨PE.weak pe_non fun _ _ _ ⟨_, _, R, o⟩ => R.here o .non, Fz.ret⟩

def setSl (i : Nat) (x : SV) (s : AS) : AS := { s with sl := s.sl.set i x }
/-- a name is read: what is its own is given away -/
def fVar (i : Nat) : Ex D := fun s => match s.sl[i]? with
  | some (.dat d) => .ok d s
  | some (.own xs) => .ok (.lst xs) (setSl i (.dat (.lst xs)) s)
  | some (.owk kvs) => .ok (.dct (kvs.map fun q => (kD q.1, q.2))) (setSl i (.dat (.dct (kvs.map fun q => (kD q.1, q.2)))) s)
  | some (.owt kvs) => .ok (.dct (kvs.map fun q => (tD q.1, q.2))) (setSl i (.dat (.dct (kvs.map fun q => (tD q.1, q.2)))) s)
  | _ => .bad
/-- only what is not its own -/
def fVarD (i : Nat) : Ex D := fun s => match s.sl[i]? with
  | some (.dat d) => .ok d s
  | _ => .bad

theorem ownLe_set {i : Nat} {d : D} {s : AS} : OwnLe (setSl i (.dat d) s) s := fun j x h o => by
  have h' : (s.sl.set i (.dat d))[j]? = some x := h
  by_cases e : i = j
  · subst e
    by_cases hl : i < s.sl.length
    · rw [List.getElem?_set_self hl] at h'; cases h'; cases o
    · rw [List.getElem?_eq_none (by rw [List.length_set]; omega)] at h'; cases h'
  · rw [List.getElem?_set_ne e] at h'
    exact ⟨x, h', o⟩
theorem fz_varD (i : Nat) : Fz (fVarD i) := fun s a s' e => by
  unfold fVarD at e
  split at e <;> cases e
  exact OwnLe.refl s
theorem fz_var (i : Nat) : Fz (fVar i) := fun s a s' e => by
  unfold fVar at e
  split at e <;> cases e
  · exact OwnLe.refl s
  · exact ownLe_set
  · exact ownLe_set
  · exact ownLe_set
theorem e_varD (i : Nat) {x : Str} (hN : X.N[i]? = some x := by rfl) (hv : Vis X.env.scope x := by first | exact Or.inl rfl | exact Or.inr (Or.inl rfl) | exact Or.inr (Or.inr rfl)) (hd : (x == ("__debug__" : Str)) = false := by decide)
    (hcd : (x == ("__classdict__" : Str)) = false := by decide) : EE X p (.Name x pos) (fVarD i) := by
  refine ⟨?_, fz_varD i⟩
  refine PE.weak (pe_var (i := i) hN hv hd hcd) fun σ H Q ⟨s, F, R, o⟩ => ?_
  have hs := R.slot i
  unfold fVarD at o
  cases q : s.sl[i]? with
  | none => rw [q] at o; exact o.elim
  | some x =>
    have h := hs x q
    rw [q] at o
    cases x with
    | dat d =>
      obtain ⟨v, e, h⟩ := h
      exact ⟨v, e, R.here o h⟩
    | no => exact o.elim
    | own _ => exact o.elim
    | owk _ => exact o.elim
    | owt _ => exact o.elim

/-- an own thing is known for good from now on -/
theorem Rel.freeze {G : Gd} {H0 F0 H F : Hp} {s : AS} {σ : L2.St} {i : Nat} {x : SV} {a : Addr} {o : HO} {d : D} (R : Rel G H0 F0 s σ H F) (hi : s.sl[i]? = some x) (ho : ownAt x = true) (hσ : σ[i]? = some (some (.ref a)))
    (hH : H a = some o) (hF : F a = none) (h0 : fr H0 a) (hnt : ∀ ps, o ≠ .tbl ps) (hd : DR G (upd F a o) (.ref a) d) : Rel G H0 F0 (setSl i (.dat d) s) σ H (upd F a o) where
  le := fun b u h => by
    by_cases e : b = a
    · subst e; rw [upd_same] at h; rw [hH]; exact h
    · rw [upd_ne e] at h; exact R.le b u h
  base := fun b u h => by
    have h1 := R.base b u h
    have : b ≠ a := fun e => by subst e; rw [hF] at h1; cases h1
    rw [upd_ne this]; exact h1
  newF := fun b u h => by
    by_cases e : b = a
    · subst e; exact .inr (.inl h0)
    · rw [upd_ne e] at h; exact R.newF b u h
  grow := R.grow
  bag := by
    obtain ⟨h1, h2, h3, h4⟩ := R.bag
    have n1 : G.b1 ≠ a := fun e => R.bag0.1 (by rw [e]; exact h0)
    have n2 : G.b2 ≠ a := fun e => R.bag0.2 (by rw [e]; exact h0)
    exact ⟨h1, h2, by rw [upd_ne n1]; exact h3, by rw [upd_ne n2]; exact h4⟩
  len := by
    show (s.sl.set i _).length = _
    rw [List.length_set]; exact R.len
  slot := fun j y e => by
    have e' : (s.sl.set i (.dat d))[j]? = some y := e
    by_cases hj : i = j
    · subst hj
      have hlt : i < s.sl.length := (List.getElem?_eq_some_iff.mp hi).1
      rw [List.getElem?_set_self hlt] at e'
      cases e'
      exact ⟨.ref a, hσ, hd⟩
    · rw [List.getElem?_set_ne hj] at e'
      refine (R.slot j y e').laid (fun b u h => ?_) (fun b h1 h2 oy ex => ?_) (fun b u h1 _ _ _ => h1)
      · by_cases e : b = a
        · subst e; rw [hF] at h; cases h
        · rw [upd_ne e]; exact h
      · have : b ≠ a := fun e => hj (R.dist i j x y a hi e' ho oy hσ (by rw [← e]; exact ex))
        rw [upd_ne this]; exact h2
  dist := fun j k y z b hy hz oy oz h1 h2 => by
    have hy' : (s.sl.set i (.dat d))[j]? = some y := hy
    have hz' : (s.sl.set i (.dat d))[k]? = some z := hz
    have hlt : i < s.sl.length := (List.getElem?_eq_some_iff.mp hi).1
    have nj : i ≠ j := fun e => by
      subst e
      rw [List.getElem?_set_self hlt] at hy'
      cases hy'; cases oy
    have nk : i ≠ k := fun e => by
      subst e
      rw [List.getElem?_set_self hlt] at hz'
      cases hz'; cases oz
    rw [List.getElem?_set_ne nj] at hy'
    rw [List.getElem?_set_ne nk] at hz'
    exact R.dist j k y z b hy' hz' oy oz h1 h2
  notbl := fun b ps h => by
    by_cases e : b = a
    · subst e; rw [upd_same] at h; exact hnt ps (Option.some.inj h)
    · rw [upd_ne e] at h; exact R.notbl b ps h
  bag0 := R.bag0
  kept := R.kept

theorem Stp.frz {G : Gd} {σ : L2.St} {s : AS} {H F : Hp} {i : Nat} {x : SV} {a : Addr} {o : HO} {d : D} (hi : s.sl[i]? = some x) (ho : ownAt x = true) (hσ : σ[i]? = some (some (.ref a))) (hF : F a = none) : Stp G σ s H F (setSl i (.dat d) s) H (upd F a o) where
  same := fun b u z => by rw [upd_ne (ne_of_none z hF)]; exact z
  grow := Grow.refl _ _
  kept := fun _ h => h
  own := ownLe_set
  newF := fun b u h => by
    by_cases e : b = a
    · subst e; exact .inr (.inr (.inr ⟨i, x, hi, ho, hσ⟩))
    · rw [upd_ne e] at h; exact .inl h
theorem e_var (i : Nat) {x : Str} (hN : X.N[i]? = some x := by rfl) (hv : Vis X.env.scope x := by first | exact Or.inl rfl | exact Or.inr (Or.inl rfl) | exact Or.inr (Or.inr rfl)) (hd : (x == ("__debug__" : Str)) = false := by decide)
    (hcd : (x == ("__classdict__" : Str)) = false := by decide) : EE X p (.Name x pos) (fVar i) := by
  refine ⟨?_, fz_var i⟩
  refine PE.weak (pe_var (i := i) hN hv hd hcd) fun σ H Q ⟨s, F, R, o⟩ => ?_
  have hs := R.slot i
  unfold fVar at o
  cases q : s.sl[i]? with
  | none => rw [q] at o; exact o.elim
  | some x =>
    have h := hs x q
    rw [q] at o
    cases x with
    | dat d =>
      obtain ⟨v, e, h⟩ := h
      exact ⟨v, e, R.here o h⟩
    | no => exact o.elim
    | own ds =>
      obtain ⟨a, vs, e, h1, h2, h3, h4⟩ := h
      have f1 : Same F (upd F a (.lst vs)) := fun b u z => by rw [upd_ne (ne_of_none z h2)]; exact z
      have d1 : DR (GX X p) (upd F a (.lst vs)) (.ref a) (.lst ds) := .lst upd_same (h4.mono f1)
      exact ⟨.ref a, e, o (.ref a) H _ (R.freeze q rfl e h1 h2 h3 (fun _ z => nomatch z) d1) (Stp.frz q rfl e h2) d1⟩
    | owk kds =>
      obtain ⟨a, vs, e, h1, h2, h3, h4⟩ := h
      have f1 : Same F (upd F a (.dK ((kds.map (·.1)).zip vs))) := fun b u z => by rw [upd_ne (ne_of_none z h2)]; exact z
      have e1 : (((kds.map (·.1)).map kD).zip (kds.map (·.2))) = kds.map fun q => (kD q.1, q.2) := by
        rw [List.map_map, List.zip_map', ] <;> rfl
      have d1 : DR (GX X p) (upd F a (.dK ((kds.map (·.1)).zip vs))) (.ref a) (.dct (kds.map fun q => (kD q.1, q.2))) := by
        rw [← e1]
        exact .dK (.inl upd_same) rfl (by rw [h4.len, List.length_map, List.length_map]) (h4.mono f1)
      exact ⟨.ref a, e, o (.ref a) H _ (R.freeze q rfl e h1 h2 h3 (fun _ z => nomatch z) d1) (Stp.frz q rfl e h2) d1⟩
    | owt kds =>
      obtain ⟨a, vs, e, h1, h2, h3, h4⟩ := h
      have f1 : Same F (upd F a (.dT ((kds.map (·.1)).zip vs))) := fun b u z => by rw [upd_ne (ne_of_none z h2)]; exact z
      have e1 : (((kds.map (·.1)).map tD).zip (kds.map (·.2))) = kds.map fun q => (tD q.1, q.2) := by
        rw [List.map_map, List.zip_map', ] <;> rfl
      have d1 : DR (GX X p) (upd F a (.dT ((kds.map (·.1)).zip vs))) (.ref a) (.dct (kds.map fun q => (tD q.1, q.2))) := by
        rw [← e1]
        exact .dT (.inl upd_same) rfl (by rw [h4.len, List.length_map, List.length_map]) (h4.mono f1)
      exact ⟨.ref a, e, o (.ref a) H _ (R.freeze q rfl e h1 h2 h3 (fun _ z => nomatch z) d1) (Stp.frz q rfl e h2) d1⟩

/-- a name that is looked at -/
def fSee (i : Nat) : Ex D := fun s => match s.sl[i]? with
  | some (.dat d) => .ok d s
  | some (.own xs) => .ok (.lst xs) s
  | _ => .bad
theorem fz_see (i : Nat) : Fz (fSee i) := fun s a s' e => by
  unfold fSee at e
  split at e <;> cases e
  · exact OwnLe.refl s
  · exact OwnLe.refl s
theorem e_see (i : Nat) {x : Str} (hN : X.N[i]? = some x := by rfl) (hv : Vis X.env.scope x := by first | exact Or.inl rfl | exact Or.inr (Or.inl rfl) | exact Or.inr (Or.inr rfl)) (hd : (x == ("__debug__" : Str)) = false := by decide)
    (hcd : (x == ("__classdict__" : Str)) = false := by decide) : EV X p (.Name x pos) (fSee i) := by
  refine ⟨?_, fz_see i⟩
  refine PE.weak (pe_var (i := i) hN hv hd hcd) fun σ H Q ⟨s, F, R, o⟩ => ?_
  have hs := R.slot i
  unfold fSee at o
  cases q : s.sl[i]? with
  | none => rw [q] at o; exact o.elim
  | some x =>
    have h := hs x q
    rw [q] at o
    cases x with
    | dat d =>
      obtain ⟨v, e, h⟩ := h
      exact ⟨v, e, R.here o (.inl h)⟩
    | no => exact o.elim
    | own ds =>
      obtain ⟨a, vs, e, h1, h2, h3, h4⟩ := h
      exact ⟨.ref a, e, R.here o (.inr ⟨a, vs, ds, rfl, rfl, h1, fun e => R.bag0.1 (by rw [← e]; exact h3), fun e => R.bag0.2 (by rw [← e]; exact h3), h4⟩)⟩
    | owk _ => exact o.elim
    | owt _ => exact o.elim

/-! ### arguments, displays -/
def seqM : List (Ex D) → Ex (List D)
  | [] => ret []
  | m :: ms => bnd m fun d => bnd (seqM ms) fun ds => ret (d :: ds)
theorem seqM_len : ∀ {ms : List (Ex D)} {s s' : AS} {ds : List D}, seqM ms s = .ok ds s' → ds.length = ms.length
  | [], _, _, _, h => by cases h; rfl
  | m :: ms, s, s', ds, h => by
    unfold seqM bnd at h
    cases q : m s with
    | ok d s1 =>
      rw [q] at h
      dsimp only at h
      cases q2 : seqM ms s1 with
      | ok ds2 s2 =>
        rw [q2] at h
        cases h
        rw [List.length_cons, List.length_cons, seqM_len q2]
      | exn e s2 => rw [q2] at h; cases h
      | bad => rw [q2] at h; cases h
    | exn e s2 => rw [q] at h; cases h
    | bad => rw [q] at h; cases h
theorem ea_nil : EA X p [] (seqM []) := ⟨PA.weak pa_nil fun _ _ _ ⟨_, _, R, o⟩ => R.here o .nil, Fz.ret⟩
theorem ea_cons {ms : List (Ex D)} (h : EE X p e ma) (t : EA X p es (seqM ms)) (hs : starEach (e :: es) X.env = (false, eval e X.env) :: starEach es X.env := by rfl) : EA X p (e :: es) (seqM (ma :: ms)) := by
  refine ⟨?_, Fz.bnd h.2 fun _ => Fz.bnd t.2 fun _ => Fz.ret⟩
  refine PA.weak (pa_cons h.1 t.1 hs) fun σ H Q ⟨s, F, R, o⟩ => ?_
  refine bindK (r := rE (GX X p)) R o fun v H1 d s1 F1 R1 f1 g1 hd o1 _ => ?_
  exact bindK (r := rA (GX X p)) R1 o1 fun vs H2 ds s3 F3 R3 f3 g3 hds o3 _ => R3.here o3 (.cons (hd.mono f3) hds)

/-- a new object that is known for good -/
theorem Rel.new {G : Gd} {H0 F0 H F : Hp} {W : WX} {s : AS} {σ : L2.St} {q : Addr} {u : HO} {d : D} {Q : VK} (R : Rel G H0 F0 s σ H F) (o : OutG G H0 F0 W (rE G) s σ H F Q (.ok d s)) (hq : H q = none) (ho : ∀ ps, u ≠ .tbl ps)
    (hd : Same F (upd F q u) → DR G (upd F q u) (.ref q) d) : Q (.ref q) (upd H q u) := by
  have hF : F q = none := by
    cases e : F q with
    | none => rfl
    | some w => have := R.le _ _ e; rw [hq] at this; cases this
  have z : Stp G σ s H F s (upd H q u) (upd F q u) := Stp.laid hq hF
  exact o _ _ _ (R.laid hq ho) z (hd z.same)

theorem small_len {n : Nat} (h : n ≤ 1000) : n ≤ sizeLine := Nat.le_trans h (by decide)
def fTup (ms : List (Ex D)) : Ex D := bnd (seqM ms) fun ds => ret (.tup ds)
def fLst (ms : List (Ex D)) : Ex D := bnd (seqM ms) fun ds => ret (.lst ds)
theorem e_tup {ms : List (Ex D)} {k : Nat} (h : EA X p es (seqM ms)) (hl : ms.length ≤ 1000 := by decide) : EE X p (.Tuple es k pos) (fTup ms) := by
  refine ⟨?_, Fz.bnd h.2 fun _ => Fz.ret⟩
  refine PE.weak (pe_tup h.1) fun σ H Q ⟨s, F, R, o⟩ => ?_
  refine bindK (r := rA (GX X p)) R o fun vs H1 ds s1 F1 R1 f1 g1 hds o1 e1 => ?_
  have hn : vs.length ≤ 1000 := by rw [hds.len, seqM_len e1.1]; exact hl
  exact ⟨small_len hn, fun q hq => R1.new o1 hq (fun _ z => nomatch z) fun f => .tup (SqT.of upd_same) (hds.mono f)⟩
theorem e_lst {ms : List (Ex D)} (h : EA X p es (seqM ms)) (hl : ms.length ≤ 1000 := by decide) : EE X p (.List es pos) (fLst ms) := by
  refine ⟨?_, Fz.bnd h.2 fun _ => Fz.ret⟩
  refine PE.weak (pe_lst h.1) fun σ H Q ⟨s, F, R, o⟩ => ?_
  refine bindK (r := rA (GX X p)) R o fun vs H1 ds s1 F1 R1 f1 g1 hds o1 e1 => ?_
  have hn : vs.length ≤ 1000 := by rw [hds.len, seqM_len e1.1]; exact hl
  exact ⟨small_len hn, fun q hq => R1.new o1 hq (fun _ z => nomatch z) fun f => .lst upd_same (hds.mono f)⟩

/-! ### operators: by values -/
/-- a plain answer of two values -/
def rP (G : Gd) (g : D → D → Option D) : R2 := fun x y H Q => ∃ F d e z, Same F H ∧ rS G H F x d ∧ rS G H F y e ∧ g d e = some z ∧ ∀ v, DR G F v z → Q v H
def f2 (g : D → D → Option D) (ma mb : Ex D) : Ex D := bnd ma fun d => bnd mb fun e => opt (g d e)
theorem out_opt {G : Gd} {H0 F0 : Hp} {W : WX} {σ : L2.St} {H F : Hp} {Q : VK} {s : AS} {g : Option D} (o : OutG G H0 F0 W (rE G) s σ H F Q (opt g s)) : ∃ z, g = some z ∧ OutG G H0 F0 W (rE G) s σ H F Q (.ok z s) := by
  cases g with
  | none => exact o.elim
  | some z => exact ⟨z, rfl, o⟩
theorem e_bin {op : Operator} {g : D → D → Option D} (ho : OpR X (binaryOp op) (rP (GX X p) g)) (ha : EE X p a ma) (hb : EE X p b mb) : EE X p (.BinOp a op b pos) (f2 g ma mb) := by
  refine ⟨?_, Fz.bnd ha.2 fun _ => Fz.bnd hb.2 fun _ => Fz.opt⟩
  refine PE.weak (pe_op ho ha.1 hb.1) fun σ H Q ⟨s, F, R, o⟩ => ?_
  refine bindK (r := rE (GX X p)) R o fun v H1 d s1 F1 R1 f1 g1 hd o1 _ => ?_
  refine bindK (r := rE (GX X p)) R1 o1 fun w H2 e s2 F2 R2 f2 g2 he o2 _ => ?_
  obtain ⟨z, hz, o3⟩ := out_opt o2
  exact ⟨F2, d, e, z, R2.le, .inl (hd.mono f2), .inl he, hz, fun u hu => R2.here o3 hu⟩

def gI (f : Int → Int → Int) : D → D → Option D
  | .int i, .int j => some (.int (f i j))
  | _, _ => none
def gIC (c : Int → Int → Bool) (f : Int → Int → Int) : D → D → Option D
  | .int i, .int j => if c i j = true then some (.int (f i j)) else none
  | _, _ => none
theorem rI_of {G : Gd} {C : Int → Int → Prop} {c : Int → Int → Bool} {f : Int → Int → Int} (hc : ∀ i j, c i j = true → C i j) {x y : V} {H : Hp} {Q : VK} (h : rP G (gIC c f) x y H Q) : rI C (fun i j => .int (f i j)) x y H Q := by
  obtain ⟨F, d, e, z, le, hd, he, hz, k⟩ := h
  cases d <;> cases e <;> first
    | (unfold gIC at hz; cases hz; done)
    | skip
  rename_i i j
  unfold gIC at hz
  dsimp only at hz
  split at hz
  · rename_i hcc
    cases hz
    cases hd.dr rfl
    cases he.dr rfl
    exact ⟨i, j, rfl, rfl, hc _ _ hcc, k _ (.int _)⟩
  · cases hz
theorem rI0_of {G : Gd} {f : Int → Int → Int} {x y : V} {H : Hp} {Q : VK} (h : rP G (gI f) x y H Q) : rI0 (fun i j => .int (f i j)) x y H Q := by
  obtain ⟨F, d, e, z, le, hd, he, hz, k⟩ := h
  cases d <;> cases e <;> first
    | (unfold gI at hz; cases hz; done)
    | skip
  rename_i i j
  cases hz
  cases hd.dr rfl
  cases he.dr rfl
  exact ⟨i, j, rfl, rfl, k _ (.int _)⟩
theorem OpR.weak {f : Value → Value → Sem Value} {r r' : R2} (h : OpR X f r) (i : ∀ x y H Q, r' x y H Q → r x y H Q) : OpR X f r' :=
  fun pins s σ H x y v u Q I rx ry q => h pins s σ H x y v u Q I rx ry (i _ _ _ _ q)
def cMul (i j : Int) : Bool := decide (-(2 ^ 64) < i ∧ i < 2 ^ 64) || decide (-(2 ^ 64) < j ∧ j < 2 ^ 64)
def cNz (_ j : Int) : Bool := decide (j ≠ 0)
def cDiv (_ j : Int) : Bool := decide (j ≠ 0 ∧ j.natAbs < 1073741824)
def cPow (i j : Int) : Bool := decide (0 ≤ j ∧ j ≤ 1000000 ∧ i.natAbs < 2 ^ 64)
theorem o_sub : OpR X (binaryOp .Sub) (rP (GX X p) (gI (· - ·))) := OpR.weak op_sub fun _ _ _ _ h => rI0_of h
theorem o_addI : OpR X (binaryOp .Add) (rP (GX X p) (gI (· + ·))) := OpR.weak op_add fun _ _ _ _ h => rI0_of h
theorem o_mul : OpR X (binaryOp .Mult) (rP (GX X p) (gIC cMul (· * ·))) := OpR.weak op_mul fun _ _ _ _ h => rI_of (fun i j hc => by
  unfold cMul at hc
  simp only [Bool.or_eq_true, decide_eq_true_eq] at hc
  exact hc) h
theorem o_mod : OpR X (binaryOp .Mod) (rP (GX X p) (gIC cNz Int.fmod)) := OpR.weak op_modN fun _ _ _ _ h => rI_of (fun _ _ hc => of_decide_eq_true hc) h
theorem o_fdiv : OpR X (binaryOp .FloorDiv) (rP (GX X p) (gIC cDiv Int.fdiv)) := OpR.weak op_fdivN fun _ _ _ _ h => rI_of (C := CDivN) (fun i j hc => (of_decide_eq_true hc : j ≠ 0 ∧ j.natAbs < 1073741824)) h
theorem o_pow : OpR X (binaryOp .Pow) (rP (GX X p) (gIC cPow fun i j => i ^ j.toNat)) := OpR.weak op_pow fun _ _ _ _ h => rI_of (C := CPow) (fun i j hc => (of_decide_eq_true hc : 0 ≤ j ∧ j ≤ 1000000 ∧ i.natAbs < 2 ^ 64)) h

/-! ### comparisons -/
def gB (f : Int → Int → Bool) : D → D → Option D
  | .int i, .int j => some (.bl (f i j))
  | _, _ => none
theorem rB_of {G : Gd} {f : Int → Int → Bool} {x y : V} {H : Hp} {Q : VK} (h : rP G (gB f) x y H Q) : rI0 (fun i j => .bl (f i j)) x y H Q := by
  obtain ⟨F, d, e, z, le, hd, he, hz, k⟩ := h
  cases d <;> cases e <;> first
    | (unfold gB at hz; cases hz; done)
    | skip
  cases hz
  cases hd.dr rfl
  cases he.dr rfl
  exact ⟨_, _, rfl, rfl, k _ (.bl _)⟩
theorem o_lt : OpR X (compareOp .Lt) (rP (GX X p) (gB fun i j => decide (i < j))) := OpR.weak op_lt fun _ _ _ _ h => rB_of h
theorem o_le : OpR X (compareOp .LtE) (rP (GX X p) (gB fun i j => decide (i ≤ j))) := OpR.weak op_le fun _ _ _ _ h => rB_of h
theorem o_gt : OpR X (compareOp .Gt) (rP (GX X p) (gB fun i j => decide (j < i))) := OpR.weak op_gt fun _ _ _ _ h => rB_of h
theorem o_ge : OpR X (compareOp .GtE) (rP (GX X p) (gB fun i j => decide (j ≤ i))) := OpR.weak op_ge fun _ _ _ _ h => rB_of h

mutual
/-- a datum in the library's words -/
def D.py : D → Option PyData
  | .non => some .none
  | .bl b => some (.bool b)
  | .int i => some (.int i)
  | .str x => some (.str x)
  | .lst xs => (D.pys xs).map .list
  | .tup xs => (D.pys xs).map .tuple
  | _ => none
def D.pys : List D → Option (List PyData)
  | [] => some []
  | x :: xs => match D.py x, D.pys xs with
    | some y, some ys => some (y :: ys)
    | _, _ => none
end
mutual
theorem DR.dp {G : Gd} {F H : Hp} (le : Same F H) : ∀ {d : D} {v : V} {q : PyData}, DR G F v d → d.py = some q → Dp G.K H v q
  | .non, _, _, .non, h => by unfold D.py at h; cases h; exact .non
  | .bl _, _, _, .bl _, h => by unfold D.py at h; cases h; exact .bl _
  | .int _, _, _, .int _, h => by unfold D.py at h; cases h; exact .int _
  | .str _, _, _, .str _, h => by unfold D.py at h; cases h; exact .str _
  | .lst xs, _, _, .lst h1 h2, h => by
    unfold D.py at h
    cases e : D.pys xs with
    | none => rw [e] at h; cases h
    | some ys => rw [e] at h; cases h; exact .lst (SqL.of (le _ _ h1)) (DRs.dps le h2 e)
  | .tup xs, _, _, .tup h1 h2, h => by
    unfold D.py at h
    cases e : D.pys xs with
    | none => rw [e] at h; cases h
    | some ys => rw [e] at h; cases h; exact .tup (same_seqT le h1) (DRs.dps le h2 e)
theorem DRs.dps {G : Gd} {F H : Hp} (le : Same F H) : ∀ {ds : List D} {vs : List V} {qs : List PyData}, DRs G F vs ds → D.pys ds = some qs → DpAll G.K H vs qs
  | [], _, _, .nil, h => by unfold D.pys at h; cases h; exact .nil
  | d :: ds, _, _, .cons h1 h2, h => by
    unfold D.pys at h
    cases e1 : d.py with
    | none => rw [e1] at h; cases h
    | some y =>
      cases e2 : D.pys ds with
      | none => rw [e1, e2] at h; cases h
      | some ys => rw [e1, e2] at h; cases h; exact .cons (DR.dp le h1 e1) (DRs.dps le h2 e2)
end
theorem rS.dp {G : Gd} {F H : Hp} (le : Same F H) {d : D} {v : V} {q : PyData} (h : rS G H F v d) (e : d.py = some q) : Dp G.K H v q := by
  rcases h with h | ⟨a, vs, ds, rfl, rfl, h3, h4, h5, h6⟩
  · exact h.dp le e
  · unfold D.py at e
    cases e1 : D.pys ds with
    | none => rw [e1] at e; cases e
    | some ys => rw [e1] at e; cases e; exact .lst (SqL.of h3) (h6.dps le e1)
/-- == of data -/
def eqD (d e : D) : Option Bool := match d.py, e.py with
  | some x, some y => if SeqAt.shaped x = true ∧ SeqAt.shaped y = true then some (PyData.eqv x y) else none
  | _, _ => none
def gEq (d e : D) : Option D := (eqD d e).map D.bl
def gNe (d e : D) : Option D := (eqD d e).map fun b => D.bl (!b)
theorem eqD_of {d e : D} {b : Bool} (h : eqD d e = some b) : ∃ x y, d.py = some x ∧ e.py = some y ∧ SeqAt.shaped x = true ∧ SeqAt.shaped y = true ∧ b = PyData.eqv x y := by
  unfold eqD at h
  cases e1 : d.py with
  | none => rw [e1] at h; cases h
  | some x =>
    cases e2 : e.py with
    | none => rw [e1, e2] at h; cases h
    | some y =>
      rw [e1, e2] at h
      dsimp only at h
      split at h
      · rename_i hs
        cases h
        exact ⟨x, y, rfl, rfl, hs.1, hs.2, rfl⟩
      · cases h
theorem o_eq {k : Nat} (hr : Room k X.A) : OpR X (compareOp .Eq) (rP (GX X p) gEq) := OpR.weak (op_eqD hr.units) fun _ _ _ _ h => by
  obtain ⟨F, d, e, z, le, hd, he, hz, k⟩ := h
  obtain ⟨b, hb, rfl⟩ := Option.map_eq_some_iff.mp hz
  obtain ⟨x, y, h1, h2, h3, h4, rfl⟩ := eqD_of hb
  exact ⟨x, y, rS.dp le hd h1, rS.dp le he h2, h3, h4, k _ (.bl _)⟩
theorem o_ne {k : Nat} (hr : Room k X.A) : OpR X (compareOp .NotEq) (rP (GX X p) gNe) := OpR.weak (op_neD hr.units) fun _ _ _ _ h => by
  obtain ⟨F, d, e, z, le, hd, he, hz, k⟩ := h
  obtain ⟨b, hb, rfl⟩ := Option.map_eq_some_iff.mp hz
  obtain ⟨x, y, h1, h2, h3, h4, rfl⟩ := eqD_of hb
  exact ⟨x, y, rS.dp le hd h1, rS.dp le he h2, h3, h4, k _ (.bl _)⟩
def D.isNon : D → Bool
  | .non => true
  | _ => false
theorem rS.isNon {G : Gd} {H F : Hp} {v : V} {d : D} (h : rS G H F v d) : decide (v = .non) = d.isNon := by
  rcases h with h | ⟨a, vs, ds, rfl, rfl, h3, h4, h5, h6⟩
  · cases h <;> rfl
  · rfl
def gIs : D → D → Option D
  | d, .non => some (.bl d.isNon)
  | _, _ => none
def gIsN : D → D → Option D
  | d, .non => some (.bl (!d.isNon))
  | _, _ => none
theorem o_is : OpR X (compareOp .Is) (rP (GX X p) gIs) := OpR.weak op_isN fun _ _ _ _ h => by
  obtain ⟨F, d, e, z, le, hd, he, hz, k⟩ := h
  cases e <;> first
    | (unfold gIs at hz; cases hz; done)
    | skip
  unfold gIs at hz
  cases hz
  cases he.dr rfl
  exact ⟨rfl, by rw [hd.isNon]; exact k _ (.bl _)⟩
theorem o_isN : OpR X (compareOp .IsNot) (rP (GX X p) gIsN) := OpR.weak op_notN fun _ _ _ _ h => by
  obtain ⟨F, d, e, z, le, hd, he, hz, k⟩ := h
  cases e <;> first
    | (unfold gIsN at hz; cases hz; done)
    | skip
  unfold gIsN at hz
  cases hz
  cases he.dr rfl
  exact ⟨rfl, by rw [hd.isNon]; exact k _ (.bl _)⟩

/-! ### x in y, data of any depth -/
def anyEq (d : D) : List D → Option Bool
  | [] => some false
  | x :: xs => match eqD x d, anyEq d xs with
    | some a, some b => some (a || b)
    | _, _ => none
end
end Ink

set_option Elab.async false
set_option maxRecDepth 100000
set_option autoImplicit false
set_option linter.unusedVariables false
/-! Ink2: comparisons as values and tests, and, or, not, if, subscripts, calls. -/
namespace Ink
open PySem PySem.Spec PyProof.Rows L2
section
variable {X : Cx} {p : Pm} {e a b c : Expr} {es rest : List Expr} {pos : Pos} {ma mb mc : Ex D} {ta tb : Ex Bool}

def asB : D → Option Bool
  | .bl b => some b
  | _ => none
def fB (m : Ex D) : Ex Bool := bnd m fun d => opt (asB d)
theorem out_optT {α β : Type} {G : Gd} {H0 F0 : Hp} {W : WX} {r : Hp → Hp → β → α → Prop} {σ : L2.St} {H F : Hp} {Q : β → Hp → Prop} {s : AS} {g : Option α} (o : OutG G H0 F0 W r s σ H F Q (opt g s)) : ∃ z, g = some z ∧ OutG G H0 F0 W r s σ H F Q (.ok z s) := by
  cases g with
  | none => exact o.elim
  | some z => exact ⟨z, rfl, o⟩
theorem asB_some {d : D} {k : Bool} (h : asB d = some k) : d = .bl k := by
  cases d <;> first | (cases h; rfl) | (cases h)

/-! ### comparisons -/
theorem e_cmp {op : CmpOp} {g : D → D → Option D} (ho : OpR X (compareOp op) (rP (GX X p) g)) (ha : EV X p a ma) (hb : EV X p b mb) (hm : behindInMarks op b = false := by first | exact nomark _ | rfl) : EE X p (.Compare a [op] [b] pos) (f2 g ma mb) := by
  refine ⟨?_, Fz.bnd ha.2 fun _ => Fz.bnd hb.2 fun _ => Fz.opt⟩
  refine PE.weak (pe_cmpR ho ha.1 hb.1 hm) fun σ H Q ⟨s, F, R, o⟩ => ?_
  refine bindK (r := rS (GX X p)) R o fun v H1 d s1 F1 R1 f1 g1 hd o1 _ => ?_
  refine bindK (r := rS (GX X p)) R1 o1 fun w H2 e s2 F2 R2 f2 g2 he o2 _ => ?_
  obtain ⟨z, hz, o3⟩ := out_opt o2
  exact ⟨F2, d, e, z, R2.le, hd.mono f2 g2, he, hz, fun u hu => R2.here o3 hu⟩
theorem t_cmp {op : CmpOp} {g : D → D → Option D} (ho : OpR X (compareOp op) (rP (GX X p) g)) (ha : EV X p a ma) (hb : EV X p b mb) (hm : behindInMarks op b = false := by first | exact nomark _ | rfl) : ET X p (.Compare a [op] [b] pos) (fB (f2 g ma mb)) := by
  refine ⟨?_, Fz.bnd (Fz.bnd ha.2 fun _ => Fz.bnd hb.2 fun _ => Fz.opt) fun _ => Fz.opt⟩
  refine PT.weak (pt_cmpR ho ha.1 hb.1 hm) fun σ H Q ⟨s, F, R, o⟩ => ?_
  have h := bindK (r := rE (GX X p)) (Q' := fun (x : V) (H1 : Hp) => ∃ k, x = .bl k ∧ Q k H1) R o fun v H1 d s1 F1 R1 f1 g1 hd o1 _ => by
    obtain ⟨z, hz, o3⟩ := out_optT o1
    cases asB_some hz
    cases hd
    exact ⟨z, rfl, R1.here o3 rfl⟩
  obtain ⟨s0, F', R0, o0⟩ := h
  show tOp _ _ _ σ H _
  refine bindK (r := rS (GX X p)) R0 o0 fun v H1 d s1 F1 R1 f1 g1 hd o1 _ => ?_
  refine bindK (r := rS (GX X p)) R1 o1 fun w H2 e s2 F2 R2 f2 g2 he o2 _ => ?_
  obtain ⟨z, hz, o3⟩ := out_opt o2
  exact ⟨F2, d, e, z, R2.le, hd.mono f2 g2, he, hz, fun u hu => R2.here o3 hu⟩
/-- a op b op' c -/
def fChain (g g' : D → D → Option D) (ma mb mc : Ex D) : Ex D := bnd ma fun d => bnd mb fun e => bnd (opt (g d e)) fun z => bnd (opt (asB z)) fun k => if k = true then bnd mc fun f => opt (g' e f) else ret (.bl false)
theorem fz_chain {g g' : D → D → Option D} (ha : Fz ma) (hb : Fz mb) (hc : Fz mc) : Fz (fChain g g' ma mb mc) :=
  Fz.bnd ha fun _ => Fz.bnd hb fun _ => Fz.bnd Fz.opt fun _ => Fz.bnd Fz.opt fun _ => Fz.ite (Fz.bnd hc fun _ => Fz.opt) Fz.ret
theorem e_chain {op op' : CmpOp} {g g' : D → D → Option D} (ho : OpR X (compareOp op) (rP (GX X p) g)) (ho' : OpR X (compareOp op') (rP (GX X p) g')) (ha : EV X p a ma) (hb : EV X p b mb) (hc : EV X p c mc)
    (hm : lastMarks [op, op'] [b, c] = false := by with_unfolding_all rfl) : EE X p (.Compare a [op, op'] [b, c] pos) (fChain g g' ma mb mc) := by
  refine ⟨?_, fz_chain ha.2 hb.2 hc.2⟩
  refine PE.weak (pe_chain ho ho' ha.1 hb.1 hc.1 hm) fun σ H Q ⟨s, F, R, o⟩ => ?_
  refine bindK (r := rS (GX X p)) R o fun v H1 d s1 F1 R1 f1 g1 hd o1 _ => ?_
  refine bindK (r := rS (GX X p)) R1 o1 fun w H2 e s2 F2 R2 f2 g2 he o2 _ => ?_
  unfold bnd at o2
  cases hz : g d e with
  | none => rw [hz] at o2; exact o2.elim
  | some z =>
    rw [hz] at o2
    dsimp only [opt] at o2
    refine ⟨F2, d, e, z, R2.le, hd.mono f2 g2, he, hz, fun u hu => ?_⟩
    cases hk : asB z with
    | none => rw [hk] at o2; exact o2.elim
    | some k =>
      rw [hk] at o2
      dsimp only at o2
      cases asB_some hk
      cases hu
      refine ⟨k, rfl, ?_⟩
      cases k with
      | false => exact R2.here o2 (.bl false)
      | true =>
        refine bindK (r := rS (GX X p)) R2 o2 fun w3 H3 f s3 F3 R3 f3 g3 hf o3 _ => ?_
        obtain ⟨y, hy, o4⟩ := out_opt o3
        exact ⟨F3, e, f, y, R3.le, he.mono f3 g3, hf, hy, fun u hu => R3.here o4 hu⟩
theorem t_chain {op op' : CmpOp} {g g' : D → D → Option D} (ho : OpR X (compareOp op) (rP (GX X p) g)) (ho' : OpR X (compareOp op') (rP (GX X p) g')) (ha : EV X p a ma) (hb : EV X p b mb) (hc : EV X p c mc)
    (hm : lastMarks [op, op'] [b, c] = false := by with_unfolding_all rfl) : ET X p (.Compare a [op, op'] [b, c] pos) (fB (fChain g g' ma mb mc)) := by
  refine ⟨?_, Fz.bnd (fz_chain ha.2 hb.2 hc.2) fun _ => Fz.opt⟩
  refine PT.weak (pt_chain ho ho' ha.1 hb.1 hc.1 hm) fun σ H Q ⟨s, F, R, o⟩ => ?_
  have h := bindK (r := rE (GX X p)) (Q' := fun (x : V) (H1 : Hp) => ∃ k, x = .bl k ∧ Q k H1) R o fun v H1 d s1 F1 R1 f1 g1 hd o1 _ => by
    obtain ⟨z, hz, o3⟩ := out_optT o1
    cases asB_some hz
    cases hd
    exact ⟨z, rfl, R1.here o3 rfl⟩
  obtain ⟨s0, F', R0, o0⟩ := h
  show tChain _ _ _ _ _ σ H _
  refine bindK (r := rS (GX X p)) R0 o0 fun v H1 d s1 F1 R1 f1 g1 hd o1 _ => ?_
  refine bindK (r := rS (GX X p)) R1 o1 fun w H2 e s2 F2 R2 f2 g2 he o2 _ => ?_
  unfold bnd at o2
  cases hz : g d e with
  | none => rw [hz] at o2; exact o2.elim
  | some z =>
    rw [hz] at o2
    dsimp only [opt] at o2
    refine ⟨F2, d, e, z, R2.le, hd.mono f2 g2, he, hz, fun u hu => ?_⟩
    cases hk : asB z with
    | none => rw [hk] at o2; exact o2.elim
    | some k =>
      rw [hk] at o2
      dsimp only at o2
      cases asB_some hk
      cases hu
      refine ⟨k, rfl, ?_⟩
      cases k with
      | false => exact R2.here o2 (.bl false)
      | true =>
        refine bindK (r := rS (GX X p)) R2 o2 fun w3 H3 f s3 F3 R3 f3 g3 hf o3 _ => ?_
        obtain ⟨y, hy, o4⟩ := out_opt o3
        exact ⟨F3, e, f, y, R3.le, he.mono f3 g3, hf, hy, fun u hu => R3.here o4 hu⟩

/-! ### tests -/
theorem t_val (h : EE X p e ma) (he : ∀ whole, isTrue e X.env whole = (do let v ← whole; standAt e.pos; holding [v] (truthy v)) := by intro _; rfl) : ET X p e (fB ma) := by
  refine ⟨?_, Fz.bnd h.2 fun _ => Fz.opt⟩
  refine PT.weak (pt_val h.1 he) fun σ H Q ⟨s, F, R, o⟩ => ?_
  refine bindK (r := rE (GX X p)) R o fun v H1 d s1 F1 R1 f1 g1 hd o1 _ => ?_
  obtain ⟨z, hz, o3⟩ := out_optT o1
  cases asB_some hz
  cases hd
  exact ⟨z, rfl, R1.here o3 rfl⟩
def fAnd (ta tb : Ex Bool) : Ex Bool := bnd ta fun k => if k = true then tb else ret false
def fOr (ta tb : Ex Bool) : Ex Bool := bnd ta fun k => if k = true then ret true else tb
def fNot (ta : Ex Bool) : Ex Bool := bnd ta fun k => ret (!k)
theorem w_and1 (h : ET X p a ta) : EW X p (.BoolOp .And [a] pos) ta := ⟨pw_and1 h.1, h.2⟩
theorem w_or1 (h : ET X p a ta) : EW X p (.BoolOp .Or [a] pos) ta := ⟨pw_or1 h.1, h.2⟩
theorem w_and (ha : ET X p a ta) (hb : EW X p (.BoolOp .And (b :: rest) pos) tb) : EW X p (.BoolOp .And (a :: b :: rest) pos) (fAnd ta tb) := by
  refine ⟨?_, Fz.bnd ha.2 fun _ => Fz.ite hb.2 Fz.ret⟩
  refine PW.weak (pw_and ha.1 hb.1) fun σ H Q ⟨s, F, R, o⟩ => ?_
  refine bindK (r := rT) R o fun k H1 k' s1 F1 R1 f1 g1 hk o1 _ => ?_
  cases hk
  cases k with
  | false => exact iteF (R1.here o1 rfl)
  | true => exact iteT ⟨s1, F1, R1, o1⟩
theorem w_or (ha : ET X p a ta) (hb : EW X p (.BoolOp .Or (b :: rest) pos) tb) : EW X p (.BoolOp .Or (a :: b :: rest) pos) (fOr ta tb) := by
  refine ⟨?_, Fz.bnd ha.2 fun _ => Fz.ite Fz.ret hb.2⟩
  refine PW.weak (pw_or ha.1 hb.1) fun σ H Q ⟨s, F, R, o⟩ => ?_
  refine bindK (r := rT) R o fun k H1 k' s1 F1 R1 f1 g1 hk o1 _ => ?_
  cases hk
  cases k with
  | true => exact iteT (R1.here o1 rfl)
  | false => exact iteF ⟨s1, F1, R1, o1⟩
theorem t_w (h : EW X p e ta) : ET X p e ta := ⟨PW.pt h.1, h.2⟩
theorem t_not (ha : ET X p a ta) : ET X p (.UnaryOp .Not a pos) (fNot ta) := by
  refine ⟨?_, Fz.bnd ha.2 fun _ => Fz.ret⟩
  refine PT.weak (pt_not ha.1) fun σ H Q ⟨s, F, R, o⟩ => ?_
  refine bindK (r := rT) R o fun k H1 k' s1 F1 R1 f1 g1 hk o1 _ => ?_
  cases hk
  exact R1.here o1 rfl
/-- as values -/
def fAndV (ma mb : Ex D) : Ex D := bnd ma fun d => bnd (opt (asB d)) fun k => if k = true then mb else ret (.bl false)
def fOrV (ma mb : Ex D) : Ex D := bnd ma fun d => bnd (opt (asB d)) fun k => if k = true then ret (.bl true) else mb
def fNotV (ma : Ex D) : Ex D := bnd ma fun d => bnd (opt (asB d)) fun k => ret (.bl (!k))
theorem e_one {op : BoolOp} (h : EE X p a ma) : EE X p (.BoolOp op [a] pos) ma := ⟨pe_one h.1, h.2⟩
theorem e_and (ha : EE X p a ma) (hb : EE X p (.BoolOp .And (b :: rest) pos) mb) : EE X p (.BoolOp .And (a :: b :: rest) pos) (fAndV ma mb) := by
  refine ⟨?_, Fz.bnd ha.2 fun _ => Fz.bnd Fz.opt fun _ => Fz.ite hb.2 Fz.ret⟩
  refine PE.weak (pe_and ha.1 hb.1) fun σ H Q ⟨s, F, R, o⟩ => ?_
  refine bindK (r := rE (GX X p)) R o fun v H1 d s1 F1 R1 f1 g1 hd o1 _ => ?_
  unfold bnd at o1
  cases hk : asB d with
  | none => rw [hk] at o1; exact o1.elim
  | some k =>
    rw [hk] at o1
    cases asB_some hk
    cases hd
    refine ⟨k, rfl, ?_⟩
    cases k with
    | false => exact iteF (R1.here o1 (.bl false))
    | true => exact iteT ⟨s1, F1, R1, o1⟩
theorem e_or (ha : EE X p a ma) (hb : EE X p (.BoolOp .Or (b :: rest) pos) mb) : EE X p (.BoolOp .Or (a :: b :: rest) pos) (fOrV ma mb) := by
  refine ⟨?_, Fz.bnd ha.2 fun _ => Fz.bnd Fz.opt fun _ => Fz.ite Fz.ret hb.2⟩
  refine PE.weak (pe_or ha.1 hb.1) fun σ H Q ⟨s, F, R, o⟩ => ?_
  refine bindK (r := rE (GX X p)) R o fun v H1 d s1 F1 R1 f1 g1 hd o1 _ => ?_
  unfold bnd at o1
  cases hk : asB d with
  | none => rw [hk] at o1; exact o1.elim
  | some k =>
    rw [hk] at o1
    cases asB_some hk
    cases hd
    refine ⟨k, rfl, ?_⟩
    cases k with
    | true => exact iteT (R1.here o1 (.bl true))
    | false => exact iteF ⟨s1, F1, R1, o1⟩
theorem e_not (ha : EE X p a ma) : EE X p (.UnaryOp .Not a pos) (fNotV ma) := by
  refine ⟨?_, Fz.bnd ha.2 fun _ => Fz.bnd Fz.opt fun _ => Fz.ret⟩
  refine PE.weak (pe_not ha.1) fun σ H Q ⟨s, F, R, o⟩ => ?_
  refine bindK (r := rE (GX X p)) R o fun v H1 d s1 F1 R1 f1 g1 hd o1 _ => ?_
  unfold bnd at o1
  cases hk : asB d with
  | none => rw [hk] at o1; exact o1.elim
  | some k =>
    rw [hk] at o1
    cases asB_some hk
    cases hd
    exact ⟨k, rfl, R1.here o1 (.bl _)⟩
def fIf (t : Ex Bool) (ma mb : Ex D) : Ex D := bnd t fun k => if k = true then ma else mb
theorem e_if (hc : ET X p c ta) (ha : EE X p a ma) (hb : EE X p b mb) : EE X p (.IfExp c a b pos) (fIf ta ma mb) := by
  refine ⟨?_, Fz.bnd hc.2 fun _ => Fz.ite ha.2 hb.2⟩
  refine PE.weak (pe_ifExp hc.1 ha.1 hb.1) fun σ H Q ⟨s, F, R, o⟩ => ?_
  refine bindK (r := rT) R o fun k H1 k' s1 F1 R1 f1 g1 hk o1 _ => ?_
  cases hk
  cases k with
  | true => exact iteT ⟨s1, F1, R1, o1⟩
  | false => exact iteF ⟨s1, F1, R1, o1⟩
def gNeg : D → Option D
  | .int i => some (.int (-i))
  | _ => none
def f1 (g : D → Option D) (ma : Ex D) : Ex D := bnd ma fun d => opt (g d)
theorem e_neg (ha : EE X p a ma) : EE X p (.UnaryOp .USub a pos) (f1 gNeg ma) := by
  refine ⟨?_, Fz.bnd ha.2 fun _ => Fz.opt⟩
  refine PE.weak (pe_un un_neg ha.1) fun σ H Q ⟨s, F, R, o⟩ => ?_
  refine bindK (r := rE (GX X p)) R o fun v H1 d s1 F1 R1 f1 g1 hd o1 _ => ?_
  obtain ⟨z, hz, o3⟩ := out_opt o1
  cases d <;> first
    | (unfold gNeg at hz; cases hz; done)
    | skip
  cases hz
  cases hd
  exact ⟨_, rfl, R1.here o3 (.int _)⟩

/-! ### subscripts -/
def atD (xs : List D) (i : Int) : Option D := atI xs i
def gIx : D → D → Option D
  | .lst xs, .int i => atI xs i
  | .tup xs, .int i => atI xs i
  | _, _ => none
theorem DRs.at_ {G : Gd} {F : Hp} {vs : List V} {ds : List D} {i : Int} {d : D} (h : DRs G F vs ds) (e : atI ds i = some d) : ∃ v, atI vs i = some v ∧ DR G F v d := by
  unfold atI at e ⊢
  rw [h.len]
  cases q : ixN ds.length i with
  | none => rw [q] at e; cases e
  | some j =>
    rw [q] at e
    exact h.get e
theorem e_ix (ha : EV X p a ma) (hb : EE X p b mb) (hs : PlainIx b := by exact fun _ _ => rfl) : EE X p (.Subscript a b pos) (f2 gIx ma mb) := by
  refine ⟨?_, Fz.bnd ha.2 fun _ => Fz.bnd hb.2 fun _ => Fz.opt⟩
  refine PE.weak (pe_ix (ix_list.or ix_tup) ha.1 hb.1 hs) fun σ H Q ⟨s, F, R, o⟩ => ?_
  refine bindK (r := rS (GX X p)) R o fun v H1 d s1 F1 R1 f1 g1 hd o1 _ => ?_
  refine bindK (r := rE (GX X p)) R1 o1 fun w H2 e s2 F2 R2 f2 g2 he o2 _ => ?_
  obtain ⟨z, hz, o3⟩ := out_opt o2
  have hd := hd.mono f2 g2
  cases d <;> cases e <;> first
    | (unfold gIx at hz; cases hz; done)
    | skip
  · cases he
    obtain ⟨a, vs, rfl, h1, h2⟩ := hd.lst R2.le
    obtain ⟨u, e1, e2⟩ := h2.at_ hz
    exact .inl ⟨_, _, _, u, rfl, rfl, SqL.of h1, e1, R2.here o3 e2⟩
  · cases he
    cases hd.dr rfl with
    | tup h1 h2 =>
      obtain ⟨u, e1, e2⟩ := h2.at_ hz
      exact .inr ⟨_, _, _, u, rfl, rfl, same_seqT R2.le h1, e1, R2.here o3 e2⟩
/-- slices -/
def gCut (xs : List D) (lo hi : Option Int) : List D := (xs.drop (HT.sIx xs.length 0 lo)).take (HT.sIx xs.length xs.length hi - HT.sIx xs.length 0 lo)
theorem DRs.cut {G : Gd} {F : Hp} {vs : List V} {ds : List D} (h : DRs G F vs ds) (lo hi : Option Int) : DRs G F (cutV vs lo hi) (gCut ds lo hi) := by
  unfold cutV gCut
  rw [h.len]
  exact (h.drop _).take _
/-- an end of a slice -/
def EO (X : Cx) (p : Pm) (e : Option Expr) (m : Ex (Option Int)) : Prop := PO X e (tG (GX X p) p.H0 p.F0 p.W (fun _ _ (a b : Option Int) => a = b) m) ∧ Fz m
def asI : D → Option Int
  | .int i => some i
  | _ => none
theorem asI_some {d : D} {k : Int} (h : asI d = some k) : d = .int k := by
  cases d <;> first | (cases h; rfl) | (cases h)
def fEnd (m : Ex D) : Ex (Option Int) := bnd m fun d => bnd (opt (asI d)) fun i => ret (some i)
theorem PO.weak {e : Option Expr} {t t' : TO} (h : PO X e t) (i : ∀ σ H Q, t' σ H Q → t σ H Q) : PO X e t' := ⟨fun pins s σ H Q I hq => h.run pins s σ H Q I (i _ _ _ hq)⟩
theorem eo_none : EO X p none (ret none) := ⟨PO.weak po_none fun _ _ _ ⟨_, _, R, o⟩ => R.here o rfl, Fz.ret⟩
theorem eo_some (h : EE X p e ma) : EO X p (some e) (fEnd ma) := by
  refine ⟨?_, Fz.bnd h.2 fun _ => Fz.bnd Fz.opt fun _ => Fz.ret⟩
  refine PO.weak (po_some h.1) fun σ H Q ⟨s, F, R, o⟩ => ?_
  refine bindK (r := rE (GX X p)) R o fun v H1 d s1 F1 R1 f1 g1 hd o1 _ => ?_
  unfold bnd at o1
  cases hk : asI d with
  | none => rw [hk] at o1; exact o1.elim
  | some k =>
    rw [hk] at o1
    cases asI_some hk
    cases hd
    exact ⟨k, rfl, R1.here o1 rfl⟩
def fSl (ma : Ex D) (ml mh : Ex (Option Int)) : Ex D := bnd ma fun d => bnd ml fun l => bnd mh fun h => match d with
  | .lst xs => ret (.lst (gCut xs l h))
  | .tup xs => ret (.tup (gCut xs l h))
  | _ => opt none

theorem e_sl {lo hi : Option Expr} {ml mh : Ex (Option Int)} {p2 : Pos} (ha : EV X p a ma) (hl : EO X p lo ml) (hh : EO X p hi mh) : EE X p (.Subscript a (.Slice lo hi none p2) pos) (fSl ma ml mh) := by
  refine ⟨?_, Fz.bnd ha.2 fun d => Fz.bnd hl.2 fun _ => Fz.bnd hh.2 fun _ => by cases d <;> first | exact Fz.ret | exact Fz.opt⟩
  refine PE.weak (pe_slice (sl_list.or sl_tupA) ha.1 hl.1 hh.1) fun σ H Q ⟨s, F, R, o⟩ => ?_
  refine bindK (r := rS (GX X p)) R o fun v H1 d s1 F1 R1 f1 g1 hd o1 _ => ?_
  refine bindK (r := fun _ _ (a b : Option Int) => a = b) R1 o1 fun l H2 l' s2 F2 R2 f2 g2 hl o2 _ => ?_
  refine bindK (r := fun _ _ (a b : Option Int) => a = b) R2 o2 fun h H3 h' s3 F3 R3 f3 g3 hh o3 _ => ?_
  subst hl hh
  have hd := hd.mono (f2.trans f3) (g2.trans g3)
  cases d with
  | lst xs =>
    obtain ⟨a, vs, rfl, h1, h2⟩ := hd.lst R3.le
    exact .inl ⟨a, vs, rfl, SqL.of h1, fun q hq => R3.new o3 hq (fun _ z => nomatch z) fun f => .lst upd_same ((h2.cut l h).mono f)⟩
  | tup xs =>
    cases hd.dr rfl with
    | tup h1 h2 =>
      refine .inr ⟨_, _, rfl, same_seqT R3.le h1, fun z => ?_, fun _ q hq => R3.new o3 hq (fun _ z => nomatch z) fun f => .tup (SqT.of upd_same) ((h2.cut l h).mono f)⟩
      refine R3.here o3 (.tup h1 ?_)
      have e : gCut xs l h = xs := by
        rw [h2.len] at z
        unfold gCut
        rw [z.1, z.2, List.drop_zero, Nat.sub_zero, List.take_length]
      rw [e]
      exact h2
  | _ => exact o3.elim

/-! ### + -/
def addD : D → D → Ex D
  | .int i, .int j => ret (.int (i + j))
  | .lst xs, .lst ys => fun s => if xs.length + ys.length ≤ sizeLine then .ok (.lst (xs ++ ys)) s else .bad
  | .tup xs, .tup ys => fun s => if xs.length + ys.length ≤ sizeLine then .ok (.tup (xs ++ ys)) s else .bad
  | .str x, .str y => fun s => if x.length + y.length ≤ sizeLine then .ok (.str (x ++ y)) s else .bad
  | _, _ => opt none
def fAdd (ma mb : Ex D) : Ex D := bnd ma fun d => bnd mb fun e => addD d e
theorem DRs.nil_iff {G : Gd} {F : Hp} {vs : List V} {ds : List D} (h : DRs G F vs ds) : vs = [] ↔ ds = [] := by
  cases h <;> simp
theorem fz_addD (d e : D) : Fz (addD d e) := Fz.same fun s a s' h => by
  unfold addD at h
  split at h <;> first
    | (cases h; done)
    | (cases h; rfl)
    | (split at h <;> cases h; rfl)
theorem e_add (ha : EV X p a ma) (hb : EV X p b mb) : EE X p (.BinOp a .Add b pos) (fAdd ma mb) := by
  refine ⟨?_, Fz.bnd ha.2 fun d => Fz.bnd hb.2 fun e => fz_addD d e⟩
  refine PE.weak (pe_op ((op_add.or op_cat).or (op_catA.or op_add_str)) ha.1 hb.1) fun σ H Q ⟨s, F, R, o⟩ => ?_
  refine bindK (r := rS (GX X p)) R o fun v H1 d s1 F1 R1 f1 g1 hd o1 _ => ?_
  refine bindK (r := rS (GX X p)) R1 o1 fun w H2 e s2 F2 R2 f2 g2 he o2 _ => ?_
  have hd := hd.mono f2 g2
  cases d with
  | int i =>
    cases e with
    | int j =>
      cases hd.dr rfl
      cases he.dr rfl
      exact .inl (.inl ⟨i, j, rfl, rfl, R2.here o2 (.int _)⟩)
    | _ => exact o2.elim
  | lst xs =>
    cases e with
    | lst ys =>
      obtain ⟨a, vs, rfl, h1, h2⟩ := hd.lst R2.le
      obtain ⟨b, ws, rfl, h3, h4⟩ := he.lst R2.le
      unfold addD at o2
      dsimp only at o2
      split at o2
      · rename_i hz
        refine .inl (.inr ⟨a, b, vs, ws, rfl, rfl, h1, h3, by rw [h2.len, h4.len]; exact hz, fun q hq => R2.new o2 hq (fun _ z => nomatch z) fun f => .lst upd_same ((h2.app h4).mono f)⟩)
      · exact o2.elim
    | _ => exact o2.elim
  | tup xs =>
    cases e with
    | tup ys =>
      unfold addD at o2
      dsimp only at o2
      split at o2
      · rename_i hz
        cases hd.dr rfl with
        | tup h1 h2 =>
          cases he.dr rfl with
          | tup h3 h4 =>
            refine .inr (.inl ⟨_, _, _, _, rfl, rfl, same_seqT R2.le h1, same_seqT R2.le h3, by rw [h2.len, h4.len]; exact hz, fun z => ?_, fun _ z => ?_, fun _ _ q hq => R2.new o2 hq (fun _ z => nomatch z) fun f => .tup (SqT.of upd_same) ((h2.app h4).mono f)⟩)
            · have e1 : xs = [] := h2.nil_iff.mp z
              subst e1
              exact R2.here o2 (.tup h3 h4)
            · have e1 : ys = [] := h4.nil_iff.mp z
              subst e1
              rw [List.append_nil] at o2
              exact R2.here o2 (.tup h1 h2)
      · exact o2.elim
    | _ => exact o2.elim
  | str x =>
    cases e with
    | str y =>
      unfold addD at o2
      dsimp only at o2
      split at o2
      · rename_i hz
        cases hd.dr rfl
        cases he.dr rfl
        exact .inr (.inr ⟨_, _, rfl, rfl, hz, R2.here o2 (.str _)⟩)
      · exact o2.elim
    | _ => exact o2.elim
  | _ => exact o2.elim
/-- a list so many times, and products -/
def mulD : D → D → Ex D
  | .int i, .int j => opt (gIC cMul (· * ·) (.int i) (.int j))
  | .lst xs, .int k => fun s => if k < 2 ^ 62 ∧ -(2 ^ 62) < k ∧ xs.length * k.toNat ≤ sizeLine then .ok (.lst (List.replicate k.toNat xs).flatten) s else .bad
  | _, _ => opt none
def fMul (ma mb : Ex D) : Ex D := bnd ma fun d => bnd mb fun e => mulD d e
theorem fz_mulD (d e : D) : Fz (mulD d e) := by
  unfold mulD
  split
  · exact Fz.opt
  · refine Fz.same fun s a s' h => ?_
    split at h <;> cases h
    rfl
  · exact Fz.opt
theorem e_mul (ha : EV X p a ma) (hb : EE X p b mb) : EE X p (.BinOp a .Mult b pos) (fMul ma mb) := by
  refine ⟨?_, Fz.bnd ha.2 fun d => Fz.bnd hb.2 fun e => fz_mulD d e⟩
  refine PE.weak (pe_op (op_mul.or op_rep) ha.1 hb.1) fun σ H Q ⟨s, F, R, o⟩ => ?_
  refine bindK (r := rS (GX X p)) R o fun v H1 d s1 F1 R1 f1 g1 hd o1 _ => ?_
  refine bindK (r := rE (GX X p)) R1 o1 fun w H2 e s2 F2 R2 f2 g2 he o2 _ => ?_
  have hd := hd.mono f2 g2
  cases d with
  | int i =>
    cases e with
    | int j =>
      cases hd.dr rfl
      cases he
      obtain ⟨z, hz, o3⟩ := out_opt o2
      unfold gIC at hz
      dsimp only at hz
      split at hz
      · rename_i hc
        cases hz
        unfold cMul at hc
        simp only [Bool.or_eq_true, decide_eq_true_eq] at hc
        exact .inl ⟨i, j, rfl, rfl, hc, R2.here o3 (.int _)⟩
      · cases hz
    | _ => exact o2.elim
  | lst xs =>
    cases e with
    | int k =>
      obtain ⟨a, vs, rfl, h1, h2⟩ := hd.lst R2.le
      cases he
      unfold mulD at o2
      dsimp only at o2
      split at o2
      · rename_i hz
        refine .inr ⟨a, k, vs, rfl, rfl, h1, by omega, by omega, by rw [h2.len]; exact hz.2.2, fun q hq => R2.new o2 hq (fun _ z => nomatch z) fun f => .lst upd_same ((h2.rep _).mono f)⟩
      · exact o2.elim
    | _ => exact o2.elim
  | _ => exact o2.elim

/-! ### in -/
def inD (d : D) : D → Option Bool
  | .lst xs => match d.py, D.pys xs with
    | some x, some ys => if SeqAt.shaped x = true ∧ SeqAt.shaped (.list ys) = true then some (ys.any fun z => PyData.eqv z x) else none
    | _, _ => none
  | .tup xs => match d.py, D.pys xs with
    | some x, some ys => if SeqAt.shaped x = true ∧ SeqAt.shaped (.list ys) = true then some (ys.any fun z => PyData.eqv z x) else none
    | _, _ => none
  | _ => none
def gIn (d e : D) : Option D := (inD d e).map D.bl
def gNotIn (d e : D) : Option D := (inD d e).map fun b => D.bl (!b)
def rInT (K : PySem.W.Frag) (neg : Bool) : R2 := fun x y H Q => ∃ d ds, Dp K H x d ∧ Dp K H y (.tuple ds) ∧ SeqAt.shaped d = true ∧ SeqAt.shaped (.list ds) = true ∧ Q (.bl (if neg then !ds.any (fun z => PyData.eqv z d) else ds.any fun z => PyData.eqv z d)) H
theorem op_inT (hu : X.A.units + 65 < cLine) : OpR X (compareOp .In) (rInT X.K false) := by
  intro pins s σ H x y v u Q I rx ry h
  obtain ⟨d, ds, hd, he, sd, se, q⟩ := h
  obtain ⟨as, r1⟩ := Dp.reads I d x v hd rx
  obtain ⟨bs, r2⟩ := Dp.reads I _ y u he ry
  have hc : PyData.canLayAll0 ds = true := SeqAt.canLay_of_shaped se
  exact SeqAt.in_tuple_reads r2 r1 hc (SeqAt.canLay_of_shaped sd) (room_in_shaped sd hu) ⟨.bl _, H, I, rfl, q⟩
theorem op_notInT (hu : X.A.units + 65 < cLine) : OpR X (compareOp .NotIn) (rInT X.K true) := by
  intro pins s σ H x y v u Q I rx ry h
  obtain ⟨d, ds, hd, he, sd, se, q⟩ := h
  obtain ⟨as, r1⟩ := Dp.reads I d x v hd rx
  obtain ⟨bs, r2⟩ := Dp.reads I _ y u he ry
  have hc : PyData.canLayAll0 ds = true := SeqAt.canLay_of_shaped se
  exact SeqAt.notIn_tuple_reads r2 r1 hc (SeqAt.canLay_of_shaped sd) (room_in_shaped sd hu) ⟨.bl _, H, I, rfl, q⟩
theorem inD_of {d e : D} {b : Bool} (h : inD d e = some b) : ∃ x ys xs, d.py = some x ∧ D.pys xs = some ys ∧ (e = .lst xs ∨ e = .tup xs) ∧ SeqAt.shaped x = true ∧ SeqAt.shaped (.list ys) = true ∧ b = ys.any fun z => PyData.eqv z x := by
  cases e with
  | lst xs =>
    unfold inD at h
    dsimp only at h
    split at h
    · rename_i x ys e1 e2
      split at h
      · rename_i hs
        cases h
        exact ⟨x, ys, xs, e1, e2, .inl rfl, hs.1, hs.2, rfl⟩
      · cases h
    · cases h
  | tup xs =>
    unfold inD at h
    dsimp only at h
    split at h
    · rename_i x ys e1 e2
      split at h
      · rename_i hs
        cases h
        exact ⟨x, ys, xs, e1, e2, .inr rfl, hs.1, hs.2, rfl⟩
      · cases h
    · cases h
  | _ => cases h
theorem Room.u65 {k : Nat} {A : Around} (hr : Room k A) : A.units + 65 < cLine := by have := hr.un; omega
theorem o_in {k : Nat} (hr : Room k X.A) : OpR X (compareOp .In) (rP (GX X p) gIn) := OpR.weak ((op_inD (Room.u65 hr)).or (op_inT (Room.u65 hr))) fun _ _ _ _ h => by
  obtain ⟨F, d, e, z, le, hd, he, hz, k⟩ := h
  obtain ⟨b, hb, rfl⟩ := Option.map_eq_some_iff.mp hz
  obtain ⟨x, ys, xs, h1, h2, h3, h4, h5, rfl⟩ := inD_of hb
  rcases h3 with rfl | rfl
  · exact .inl ⟨x, ys, rS.dp le hd h1, rS.dp le he (by unfold D.py; rw [h2]; rfl), h4, h5, k _ (.bl _)⟩
  · exact .inr ⟨x, ys, rS.dp le hd h1, rS.dp le he (by unfold D.py; rw [h2]; rfl), h4, h5, k _ (.bl _)⟩
theorem o_notIn {k : Nat} (hr : Room k X.A) : OpR X (compareOp .NotIn) (rP (GX X p) gNotIn) := OpR.weak ((op_notInD (Room.u65 hr)).or (op_notInT (Room.u65 hr))) fun _ _ _ _ h => by
  obtain ⟨F, d, e, z, le, hd, he, hz, k⟩ := h
  obtain ⟨b, hb, rfl⟩ := Option.map_eq_some_iff.mp hz
  obtain ⟨x, ys, xs, h1, h2, h3, h4, h5, rfl⟩ := inD_of hb
  rcases h3 with rfl | rfl
  · exact .inl ⟨x, ys, rS.dp le hd h1, rS.dp le he (by unfold D.py; rw [h2]; rfl), h4, h5, k _ (.bl _)⟩
  · exact .inr ⟨x, ys, rS.dp le hd h1, rS.dp le he (by unfold D.py; rw [h2]; rfl), h4, h5, k _ (.bl _)⟩
end
end Ink

set_option Elab.async false
set_option maxRecDepth 100000
set_option autoImplicit false
set_option linter.unusedVariables false
/-! Ink3: defs: their promises by a total function of data; calls; statements; loops. -/
namespace Ink
open PySem PySem.Spec PyProof.Rows L2

/-- behind a call -/
structure Done (G : Gd) (H F : Hp) (bag' : Bag) (H' F' : Hp) : Prop where
  grow : Grow G H H'
  kept : ∀ a, fr H' a → fr H a
  same : Same F F'
  le : Same F' H'
  newF : ∀ a o, F' a = some o → F a = some o ∨ fr H a ∨ ∃ xs, o = .tup xs
  bag : BagR G bag' H' F'
  notbl : ∀ a ps, F' a ≠ some (.tbl ps)
/-- ahead of a call -/
structure Pre (G : Gd) (bag : Bag) (H F : Hp) : Prop where
  le : Same F H
  bag : BagR G bag H F
  notbl : ∀ a ps, F a ≠ some (.tbl ps)
def spM (K : PySem.W.Frag) (mg : Str → Option Value) (w : World) (n : Nat) (m : List D → M D) : Sp := fun vs H Q E =>
  vs.length = n ∧ ∃ (b1 b2 : Addr) (tb : List (Addr × Str)) (bag : Bag) (F : Hp) (ds : List D), Pre ⟨K, mg, b1, b2, w, tb⟩ bag H F ∧ DRs ⟨K, mg, b1, b2, w, tb⟩ F vs ds ∧ match m ds bag with
    | .ok d bag' => ∀ v H' F', Done ⟨K, mg, b1, b2, w, tb⟩ H F bag' H' F' → DR ⟨K, mg, b1, b2, w, tb⟩ F' v d → Q v H'
    | .exn e bag' => ∀ cls d H' F', Done ⟨K, mg, b1, b2, w, tb⟩ H F bag' H' F' → ExR ⟨K, mg, b1, b2, w, tb⟩ e cls d H' F' → E cls d H'
    | .bad => False

/-- a def's promise where no repr is under way -/
structure FnG (P : Program) (w : World) (K : PySem.W.Frag) (mg : Str → Option Value) (base : Heap) (g : Bool) (k : Nat) (f : Addr) (fd : FuncData) (ps : List Str) (sp : Sp) : Prop where
  len : ∀ vs H Q E, sp vs H Q E → vs.length = ps.length
  run : ∀ (A : Around) (outer : List Env) (s : Shared) (H : Hp) (args : Args) (us : List Value) (vs : List V) (Q : VK) (E : XK),
    Room k A → (g = true → A.guards = some []) → Env0 P w K mg base A outer s H → BindsTo s fd args (ps.zip us) → Vals vs us → sp vs H Q E →
      codeAny (model P w) A (.call (.ref f) args) (CR (L2.CX P w) outer P w H s Q E) s
structure Cal (P : Program) (w : World) (K : PySem.W.Frag) (mg : Str → Option Value) (base : Heap) (g : Bool) (k : Nat) (x : Str) (n : Nat) (m : List D → M D) : Prop where
  ex : ∃ (f : Addr) (fd : FuncData) (ps : List Str), FnG P w K mg base g k f fd ps (spM K mg w n m) ∧ mg x = some (.ref f) ∧ PySem.W.keepIn K (.ref f) = true ∧ Binds K fd ps []

/-- what a body leans on -/
structure Cw (X : Cx) (W : WX) (k : Nat) (g : Bool) : Prop where
  calm : X.calm = true
  nd : X.N.Nodup
  pass : ∀ σ, PassesAt (L2.CX X.prog X.w) X σ (WE W σ)
  room : Room k X.A
  gd : g = true → X.A.guards = some []
def wF : WX := fun _ _ _ _ => False
theorem Cw.blk {X : Cx} {W : WX} {k : Nat} {g : Bool} (C : Cw X W k g) (s : Shared) (H : Hp) (scope : Scope) (cenv : Env) (fp : List Addr) : Cw (X.blk s H scope cenv fp) wF k g :=
  ⟨C.calm, C.nd, fun σ pins H s e s' I c => by
    obtain ⟨_, _, _, _, _, _, _, _, _, _, _, _, z⟩ := c
    exact z.elim, C.room, C.gd⟩
theorem Cw.mono {X : Cx} {W : WX} {j k : Nat} {g g' : Bool} (C : Cw X W k g) (h : j ≤ k) (i : g' = true → g = true) : Cw X W j g' := ⟨C.calm, C.nd, C.pass, C.room.mono h, fun e => C.gd (i e)⟩

section
variable {G : Gd} {H0 F0 : Hp} {s : AS} {σ : L2.St} {H F : Hp}
theorem Done.stp {bag' : Bag} {H' F' : Hp} (d : Done G H F bag' H' F') : Stp G σ s H F { s with bag := bag' } H' F' :=
  ⟨d.same, d.grow, d.kept, OwnLe.refl _, fun a o h => by
    rcases d.newF a o h with h | h | h
    · exact .inl h
    · exact .inr (.inl h)
    · exact .inr (.inr (.inl h))⟩
theorem Rel.pre (R : Rel G H0 F0 s σ H F) : Pre G s.bag H F := ⟨R.le, R.bag, R.notbl⟩
theorem Rel.after {bag' : Bag} {H' F' : Hp} (R : Rel G H0 F0 s σ H F) (d : Done G H F bag' H' F') : Rel G H0 F0 { s with bag := bag' } σ H' F' where
  le := d.le
  base := R.base.trans d.same
  newF := fun a o h => by
    rcases d.newF a o h with h1 | h1 | h1
    · exact R.newF a o h1
    · exact .inr (.inl (R.kept a h1))
    · exact .inr (.inr h1)
  grow := R.grow.trans d.grow
  bag := d.bag
  len := R.len
  slot := fun i x e => by
    have h := R.slot i x e
    have stay : ∀ {a : Addr} {o : HO}, H a = some o → F a = none → fr H0 a → (∀ ps, o ≠ .tbl ps) → (∀ xs, o ≠ .tup xs) → H' a = some o ∧ F' a = none := fun {a o} h1 h2 h3 h4 h5 => by
      have n1 : a ≠ G.b1 := fun e => R.bag0.1 (by rw [← e]; exact h3)
      have n2 : a ≠ G.b2 := fun e => R.bag0.2 (by rw [← e]; exact h3)
      have e1 := d.grow.ext a o h1 n1 n2 h4
      refine ⟨e1, ?_⟩
      cases q : F' a with
      | none => rfl
      | some u =>
        rcases d.newF a u q with z | z | ⟨xs, z⟩
        · rw [h2] at z; cases z
        · exact (z.no h1 h4).elim
        · have := d.le a u q
          rw [e1] at this
          cases this
          exact absurd z (h5 xs)
    cases x with
    | no => trivial
    | dat dd => obtain ⟨v, e, h⟩ := h; exact ⟨v, e, h.mono d.same⟩
    | own ds =>
      obtain ⟨a, vs, e, h1, h2, h3, h4⟩ := h
      obtain ⟨q1, q2⟩ := stay h1 h2 h3 (fun _ z => nomatch z) (fun _ z => nomatch z)
      exact ⟨a, vs, e, q1, q2, h3, h4.mono d.same⟩
    | owk ds =>
      obtain ⟨a, vs, e, h1, h2, h3, h4⟩ := h
      obtain ⟨q1, q2⟩ := stay h1 h2 h3 (fun _ z => nomatch z) (fun _ z => nomatch z)
      exact ⟨a, vs, e, q1, q2, h3, h4.mono d.same⟩
    | owt ds =>
      obtain ⟨a, vs, e, h1, h2, h3, h4⟩ := h
      obtain ⟨q1, q2⟩ := stay h1 h2 h3 (fun _ z => nomatch z) (fun _ z => nomatch z)
      exact ⟨a, vs, e, q1, q2, h3, h4.mono d.same⟩
  dist := R.dist
  notbl := d.notbl
  bag0 := R.bag0
  kept := fun a h => R.kept a (d.kept a h)
theorem Rel.done (R : Rel G H0 F0 s σ H F) : Done G H0 F0 s.bag H F := ⟨R.grow, R.kept, R.base, R.le, R.newF, R.bag, R.notbl⟩
/-- the state at a def's entry -/
def as0 (N : Nat) (ds : List D) (bag : Bag) : AS := ⟨ds.map .dat ++ List.replicate (N - ds.length) .no, bag⟩
theorem Rel.entry {N : List Str} {vs : List V} {ds : List D} {bag : Bag} (P : Pre G bag H F) (h : DRs G F vs ds) (hn : vs.length ≤ N.length) : Rel G H F (as0 N.length ds bag) (L2.start N vs) H F where
  le := P.le
  base := Same.refl _
  newF := fun _ _ h => .inl h
  grow := Grow.refl _ _
  bag := P.bag
  len := by
    unfold as0 L2.start
    simp only [List.length_append, List.length_map, List.length_replicate, h.len]
  slot := fun i x e => by
    unfold as0 at e
    dsimp only at e
    by_cases hi : i < ds.length
    · rw [List.getElem?_append_left (by rw [List.length_map]; exact hi), List.getElem?_map] at e
      cases q : ds[i]? with
      | none => rw [q] at e; cases e
      | some d =>
        rw [q] at e
        cases e
        obtain ⟨v, e1, e2⟩ := h.get q
        refine ⟨v, ?_, e2⟩
        unfold L2.start
        rw [List.getElem?_append_left (by rw [List.length_map, h.len]; exact hi), List.getElem?_map, e1]
        rfl
    · rw [List.getElem?_append_right (by rw [List.length_map]; omega), List.getElem?_replicate] at e
      split at e
      · cases e; trivial
      · cases e
  dist := fun i j x y a h1 h2 o1 o2 => by
    have key : ∀ {i : Nat} {x : SV}, (as0 N.length ds bag).sl[i]? = some x → ownAt x = true → False := fun {i x} h1 o1 => by
      unfold as0 at h1
      dsimp only at h1
      by_cases hi : i < ds.length
      · rw [List.getElem?_append_left (by rw [List.length_map]; exact hi), List.getElem?_map] at h1
        cases q : ds[i]? with
        | none => rw [q] at h1; cases h1
        | some d => rw [q] at h1; cases h1; cases o1
      · rw [List.getElem?_append_right (by rw [List.length_map]; omega), List.getElem?_replicate] at h1
        split at h1
        · cases h1; cases o1
        · cases h1
    exact (key h1 o1).elim
  notbl := P.notbl
  bag0 := ⟨fun z => z.no P.bag.1 (fun _ h => nomatch h), fun z => z.no P.bag.2.1 (fun _ h => nomatch h)⟩
  kept := fun _ h => h
end

/-- what a body makes of its arguments -/
def runM (N : Nat) (m : Ex Fl) (ds : List D) : M D := fun bag => match m (as0 N ds bag) with
  | .ok (.rt d) s => .ok d s.bag
  | .ok .nx s => .ok .non s.bag
  | .exn e s => .exn e s.bag
  | _ => .bad

section
variable {P : Program} {w : World} {K : PySem.W.Frag} {mg : Str → Option Value} {base : Heap}
/-- the context of a def's body -/
abbrev cxD (P : Program) (w : World) (K : PySem.W.Frag) (mg : Str → Option Value) (base : Heap) (N : List Str) (qual : Str) (st : Stmt) (f : Addr) (cdv : Value) (A : Around) (outer : List Env) (s : Shared) (H : Hp) (E : XK) : Cx :=
  cxOf (L2.CX P w) P w K mg base N qual (defScope st) f cdv A outer s H E
abbrev wD (E : XK) : WX := fun cls d _ H => E cls d H
theorem fnG_of {g : Bool} {x : Str} {st : Stmt} {f : Addr} {fd : FuncData} {N ps : List Str} {k n : Nat} {m : Ex Fl} (F : Fun K x x st f fd) (S : FnScope N ps (defScope st)) (hn : ps.length = n) (hnN : n ≤ N.length)
    (hbody : ∀ (cdv : Value) (A : Around) (outer : List Env) (s : Shared) (H F0 : Hp) (E : XK) (b1 b2 : Addr) (tb : List (Addr × Str)), Cw (cxD P w K mg base N x st f cdv A outer s H E) (wD E) k g → Takes (cxD P w K mg base N x st f cdv A outer s H E) (wD E) →
      PassesOwn (model P w) (cxD P w K mg base N x st f cdv A outer s H E).A (cxD P w K mg base N x st f cdv A outer s H E).env (cxD P w K mg base N x st f cdv A outer s H E).xe →
      EB (cxD P w K mg base N x st f cdv A outer s H E) ⟨b1, b2, H, F0, wD E, tb⟩ (defBody st) m) : FnG P w K mg base g (k + 1) f fd ps (spM K mg w n (runM N.length m)) := by
  obtain ⟨⟨oc, od, kV, doc, pm, an, cdv, ct, osl, rfl, lk, hcd⟩, hkp⟩ := F
  refine ⟨fun vs H Q E h => h.1.trans hn.symm, fun A outer s H args us vs Q E hr hg e0 hb r hsp => ?_⟩
  obtain ⟨hl, b1, b2, tb, bag, F0, ds, pre, hd, ho⟩ := hsp
  refine LamX.run_ofS lk hcd S hr e0 hb r (hl.trans hn.symm) fun hr' => ?_
  have tk : Takes (cxD P w K mg base N x st f cdv A outer s H E) (wD E) := takes_of rfl rfl rfl rfl
  have C : Cw (cxD P w K mg base N x st f cdv A outer s H E) (wD E) k g := ⟨rfl, S.nd, passAt tk, hr', hg⟩
  refine ⟨_, hbody cdv A outer s H F0 E b1 b2 tb C tk (passes_of rfl), as0 N.length ds bag, F0, Rel.entry pre hd (by omega), ?_⟩
  unfold runM at ho
  cases q : m (as0 N.length ds bag) with
  | ok fl s1 =>
    rw [q] at ho
    cases fl with
    | nx => exact fun σ' H' F' R _ => ho .non H' F' R.done .non
    | bk => exact ho.elim
    | ct => exact ho.elim
    | rt d => exact fun v σ' H' F' R _ h => ho v H' F' R.done h
  | exn e s1 =>
    rw [q] at ho
    exact fun cls d σ' H' F' R _ h => ho cls d H' F' R.done h
  | bad =>
    rw [q] at ho
    exact ho.elim
theorem cal_of {g : Bool} {x : Str} {st : Stmt} {f : Addr} {fd : FuncData} {N ps : List Str} {k n : Nat} {m : Ex Fl} (F : Fun K x x st f fd) (hm : mg x = some (.ref f)) (hb : Binds K fd ps []) (S : FnScope N ps (defScope st)) (hn : ps.length = n) (hnN : n ≤ N.length)
    (hbody : ∀ (cdv : Value) (A : Around) (outer : List Env) (s : Shared) (H F0 : Hp) (E : XK) (b1 b2 : Addr) (tb : List (Addr × Str)), Cw (cxD P w K mg base N x st f cdv A outer s H E) (wD E) k g → Takes (cxD P w K mg base N x st f cdv A outer s H E) (wD E) →
      PassesOwn (model P w) (cxD P w K mg base N x st f cdv A outer s H E).A (cxD P w K mg base N x st f cdv A outer s H E).env (cxD P w K mg base N x st f cdv A outer s H E).xe →
      EB (cxD P w K mg base N x st f cdv A outer s H E) ⟨b1, b2, H, F0, wD E, tb⟩ (defBody st) m) : Cal P w K mg base g (k + 1) x n (runM N.length m) :=
  ⟨f, fd, ps, fnG_of F S hn hnN hbody, hm, F.kp, hb⟩
end

/-! ### calls -/
def lift (m : List D → M D) (ds : List D) : Ex D := fun s => match m ds s.bag with
  | .ok d b => .ok d { s with bag := b }
  | .exn e b => .exn e { s with bag := b }
  | .bad => .bad
def fCall (m : List D → M D) (ms : List (Ex D)) : Ex D := bnd (seqM ms) (lift m)
section
variable {X : Cx} {p : Pm} {e a b c : Expr} {es : List Expr} {pos cp : Pos} {ma mb : Ex D}
theorem fz_lift (m : List D → M D) (ds : List D) : Fz (lift m ds) := Fz.same fun s a s' h => by
  unfold lift at h
  split at h <;> cases h
  rfl
theorem run_fnG {g : Bool} {k n : Nat} {m : List D → M D} {f : Addr} {fd : FuncData} {ps : List Str} {W : WX} (Fn : FnG X.prog X.w X.K X.mg X.base g k f fd ps (spM X.K X.mg X.w n m)) (C : Cw X W k g) (hb : Binds X.K fd ps [])
    {pins : List (Addr × Obj)} {σ : L2.St} {H : Hp} {s : Shared} {Q : VK} {us : List Value} {vs : List V} (I : Inv X pins σ H s) (r : Vals vs us) (h : spM X.K X.mg X.w n m vs H Q (WE W σ)) : wpAny (model X.prog X.w) X.A (call (.ref f) us) (EP X pins σ Q) X.xe s := by
  have hl : us.length = ps.length := by rw [← r.length]; exact Fn.len _ _ _ _ h
  have b := hb s us I.kIn (by rw [List.append_nil]; exact hl)
  rw [List.append_nil] at b
  refine wpAny_call (codeAny_mono (Fn.run X.A X.stack s H ⟨us, []⟩ us vs Q (WE W σ) C.room C.gd I.env0 b r h) fun r s' hq => ?_)
  cases r with
  | error e => exact C.pass σ pins H s e s' I hq
  | ok fl =>
    cases fl with
    | ret u => exact I.after hq
    | next => exact hq.elim
    | brk => exact hq.elim
    | cont => exact hq.elim
theorem e_call {g g' : Bool} {j k n : Nat} {x : Str} {m : List D → M D} {ms : List (Ex D)} (c : Cal X.prog X.w X.K X.mg X.base g' j x n m) (C : Cw X p.W k g) (ha : EA X p (e :: es) (seqM ms)) (hj : j ≤ k := by decide) (hgg : g' = true → g = true := by decide) (hl : ms.length = n := by rfl) (hg : Gl X x := by rfl)
    (hdb : (x == ("__debug__" : Str)) = false := by decide) (he : starEach (e :: es) X.env = (false, eval e X.env) :: starEach es X.env := by rfl) (hpl : (backTo pos (starEach es X.env)).any (·.1) = false := by rfl) :
    EE X p (.Call (.Name x cp) (e :: es) [] pos) (fCall m ms) := by
  obtain ⟨f, fd, ps, Fn, hm, hk, hb⟩ := c.ex
  refine ⟨⟨fun pins s σ H Q I ⟨as, F, R, o⟩ => ?_⟩, Fz.bnd ha.2 fun ds => fz_lift m ds⟩
  refine wpAny_Call_Name_kw (ld_glob I hg hm ?_ hdb)
  have hq : tG (GX X p) p.H0 p.F0 p.W (rA (GX X p)) (seqM ms) σ H (fun vs H1 => spM X.K X.mg X.w n m vs H1 Q (WE p.W σ)) := bindK (r := rA (GX X p)) R o fun vs H1 ds s1 F1 R1 f1 g1 hds o1 e1 => by
    refine ⟨by rw [hds.len, seqM_len e1.1]; exact hl, p.b1, p.b2, p.tb, s1.bag, F1, ds, R1.pre, hds, ?_⟩
    unfold lift at o1
    cases q : m ds s1.bag with
    | ok d bag' =>
      rw [q] at o1
      exact fun v H' F' dn hd => o1 v H' F' (R1.after dn) dn.stp hd
    | exn x bag' =>
      rw [q] at o1
      exact fun cls d H' F' dn hx => o1 cls d H' F' (R1.after dn) dn.stp hx
    | bad => rw [q] at o1; exact o1
  refine PySem.W.callWith_K (h₀ := X.base) I.ok.mod.kin hk (thn (ha.1.run pos pins s σ H _ I hq) fun us s1 hh => ?_) he hpl
  obtain ⟨vs, H1, I1, r, q⟩ := hh
  exact ⟨I1.kIn, run_fnG Fn (C.mono hj hgg) hb I1 r q⟩
end

/-! ### statements -/
section
variable {X : Cx} {p : Pm} {e a b c : Expr} {st : Stmt} {sts body orelse : List Stmt} {pos : Pos} {ma mb : Ex D} {ta : Ex Bool} {m m' : Ex Fl}
def sSeq (m m' : Ex Fl) : Ex Fl := bnd m fun f => match f with
  | .nx => m'
  | f => ret f
theorem b_nil : EB X p [] (ret .nx) := PSs.weak pss_nil fun E σ H ⟨s, F, R, o⟩ => o σ H F R (Same.refl _)
theorem b_cons (h : ES X p st m) (t : EB X p sts m') : EB X p (st :: sts) (sSeq m m') := by
  refine PSs.weak (pss_cons h t) fun E σ H ⟨s, F, R, o⟩ => ⟨s, F, R, ?_⟩
  unfold sSeq bnd at o
  cases q : m s with
  | ok f s1 =>
    rw [q] at o
    cases f with
    | nx => exact fun σ' H' F' R' f' => ⟨s1, F', R', OutS.mono o f'⟩
    | bk => exact o
    | ct => exact o
    | rt d => exact o
  | exn x s1 => rw [q] at o; exact o
  | bad => rw [q] at o; exact o.elim
theorem b_one (h : ES X p st m) : EB X p [st] m := pss_one h
def sRet (m : Ex D) : Ex Fl := bnd m fun d => ret (.rt d)
theorem s_ret (h : EE X p e ma) : ES X p (.Return (some e) pos) (sRet ma) := by
  refine PS.weak (ps_ret h.1) fun E σ H ⟨s, F, R, o⟩ => ?_
  exact bindS (r := rE (GX X p)) R o fun v H1 d s1 F1 R1 f1 g1 hd o1 _ => o1 v σ H1 F1 R1 (Same.refl _) hd
theorem s_retN : ES X p (.Return none pos) (ret (.rt .non)) := PS.weak ps_retN fun E σ H ⟨s, F, R, o⟩ => o .non σ H F R (Same.refl _) .non
theorem s_pass : ES X p (.Pass pos) (ret .nx) := PS.weak ps_pass fun E σ H ⟨s, F, R, o⟩ => o σ H F R (Same.refl _)
theorem s_break : ES X p (.Break pos) (ret .bk) := PS.weak ps_break fun E σ H ⟨s, F, R, o⟩ => o σ H F R (Same.refl _)
theorem s_cont : ES X p (.Continue pos) (ret .ct) := PS.weak ps_continue fun E σ H ⟨s, F, R, o⟩ => o σ H F R (Same.refl _)
def sExpr (m : Ex D) : Ex Fl := bnd m fun _ => ret .nx
theorem s_expr (h : EE X p e ma) (hs : swapsWith e none pos.line X.env = pure false := by rfl) : ES X p (.Expr e pos) (sExpr ma) := by
  refine PS.weak (ps_expr h.1 hs) fun E σ H ⟨s, F, R, o⟩ => ?_
  exact bindS (r := rE (GX X p)) R o fun v H1 d s1 F1 R1 f1 g1 hd o1 _ => o1 σ H1 F1 R1 (Same.refl _)
def sIf (t : Ex Bool) (m m' : Ex Fl) : Ex Fl := bnd t fun k => if k = true then m else m'
theorem s_if (hc : ET X p c ta) (h : EB X p body m) (h' : EB X p orelse m') : ES X p (.If c body orelse pos) (sIf ta m m') := by
  refine PS.weak (ps_if hc.1 h h') fun E σ H ⟨s, F, R, o⟩ => ?_
  refine bindS (r := rT) R o fun k H1 k' s1 F1 R1 f1 g1 hk o1 _ => ?_
  cases hk
  cases k with
  | true => exact iteT ⟨s1, F1, R1, o1⟩
  | false => exact iteF ⟨s1, F1, R1, o1⟩
end
end Ink

set_option Elab.async false
set_option maxRecDepth 100000
set_option autoImplicit false
set_option linter.unusedVariables false
/-! Ink4: targets, assignments, loops over data. -/
namespace Ink
open PySem PySem.Spec PyProof.Rows L2

/-! ### targets -/
def OutU (G : Gd) (H0 F0 : Hp) (vs : List Nat) (σ : L2.St) (H F : Hp) (Q : L2.St → Hp → Prop) : Res AS Unit → Prop
  | .ok _ s' => ∀ σ', Rel G H0 F0 s' σ' H F → wipe σ' vs = wipe σ vs → Q σ' H
  | _ => False
def tU (G : Gd) (H0 F0 : Hp) (vs : List Nat) (g : D → Ex Unit) : TG := fun v σ H Q => ∃ d s F, Rel G H0 F0 s σ H F ∧ DR G F v d ∧ OutU G H0 F0 vs σ H F Q (g d s)
def tUs (G : Gd) (H0 F0 : Hp) (vs : List Nat) (g : List D → Ex Unit) : TGs := fun us σ H Q => ∃ ds s F, Rel G H0 F0 s σ H F ∧ DRs G F us ds ∧ OutU G H0 F0 vs σ H F Q (g ds s)
def EG (X : Cx) (p : Pm) (vs : List Nat) (tg : Expr) (g : D → Ex Unit) : Prop := PG X tg (tU (GX X p) p.H0 p.F0 vs g)
def EGs (X : Cx) (p : Pm) (vs : List Nat) (tg : List Expr) (g : List D → Ex Unit) : Prop := PGs X tg (tUs (GX X p) p.H0 p.F0 vs g)

theorem wipe_set {σ : L2.St} {i : Nat} {x : Option V} : ∀ {vs : List Nat}, i ∈ vs → wipe (σ.set i x) vs = wipe σ vs
  | v :: vs, h => by
    unfold wipe
    by_cases e : i = v
    · subst e
      by_cases h2 : i ∈ vs
      · rw [wipe_set h2]
      · rw [wipe_set_out h2, List.set_set]
    · have h2 : i ∈ vs := by
        rcases List.mem_cons.mp h with z | z
        · exact absurd z e
        · exact z
      rw [wipe_set h2]
where
  wipe_set_out {σ : L2.St} {i : Nat} {x : Option V} : ∀ {vs : List Nat}, i ∉ vs → wipe (σ.set i x) vs = (wipe σ vs).set i x
    | [], _ => rfl
    | v :: vs, h => by
      have h1 : i ≠ v := fun e => h (by rw [e]; exact List.mem_cons_self)
      have h2 : i ∉ vs := fun e => h (List.mem_cons_of_mem _ e)
      unfold wipe
      rw [wipe_set_out h2, List.set_comm _ _ h1]

section
variable {G : Gd} {H0 F0 : Hp} {s : AS} {σ : L2.St} {H F : Hp}
theorem Rel.store {i : Nat} {v : V} {d : D} (R : Rel G H0 F0 s σ H F) (h : DR G F v d) (hi : i < σ.length) : Rel G H0 F0 (setSl i (.dat d) s) (σ.set i (some v)) H F where
  le := R.le
  base := R.base
  newF := R.newF
  grow := R.grow
  bag := R.bag
  len := by
    show (s.sl.set i _).length = _
    rw [List.length_set, List.length_set]; exact R.len
  slot := fun j y e => by
    have e' : (s.sl.set i (.dat d))[j]? = some y := e
    by_cases hj : i = j
    · subst hj
      rw [List.getElem?_set_self (by rw [R.len]; exact hi)] at e'
      cases e'
      exact ⟨v, by rw [List.getElem?_set_self hi], h⟩
    · rw [List.getElem?_set_ne hj] at e' ⊢
      exact R.slot j y e'
  dist := fun j k y z b hy hz oy oz h1 h2 => by
    have hy' : (s.sl.set i (.dat d))[j]? = some y := hy
    have hz' : (s.sl.set i (.dat d))[k]? = some z := hz
    have hlt : i < s.sl.length := by rw [R.len]; exact hi
    have nj : i ≠ j := fun e => by
      subst e
      rw [List.getElem?_set_self hlt] at hy'
      cases hy'; cases oy
    have nk : i ≠ k := fun e => by
      subst e
      rw [List.getElem?_set_self hlt] at hz'
      cases hz'; cases oz
    rw [List.getElem?_set_ne nj] at hy' h1
    rw [List.getElem?_set_ne nk] at hz' h2
    exact R.dist j k y z b hy' hz' oy oz h1 h2
  notbl := R.notbl
  bag0 := R.bag0
  kept := R.kept
end

def gSet (i : Nat) (d : D) : Ex Unit := fun s => .ok () (setSl i (.dat d) s)
def gUn (n : Nat) (g : List D → Ex Unit) : D → Ex Unit
  | .tup ds => fun s => if ds.length = n then g ds s else .bad
  | _ => fun _ => .bad
def gsNil : List D → Ex Unit
  | [] => ret ()
  | _ => fun _ => .bad
def gsCons (g : D → Ex Unit) (gs : List D → Ex Unit) : List D → Ex Unit
  | d :: ds => bnd (g d) fun _ => gs ds
  | [] => fun _ => .bad
section
variable {X : Cx} {p : Pm} {e a b c : Expr} {es : List Expr} {st : Stmt} {sts body : List Stmt} {pos tp : Pos} {ma mb : Ex D} {m : Ex Fl} {vs : List Nat}
theorem g_name (i : Nat) {x : Str} (hN : X.N.Nodup) (hv : i ∈ vs) (hi : X.N[i]? = some x := by rfl) (hx : Loc X.env.scope x := by first | exact Or.inl rfl | exact Or.inr rfl)
    (hf : X.fn x = true ∨ X.env.scope.names.lookup x = some .local := by first | exact .inl rfl | exact .inr rfl) : EG X p vs (.Name x pos) (gSet i) := by
  refine ⟨fun pins s σ H v u Q I r ⟨d, as, F, R, hd, o⟩ => (pg_name hN hi hx hf).run pins s σ H v u Q I r ?_⟩
  have hl : i < σ.length := by rw [I.len]; exact (List.getElem?_eq_some_iff.mp hi).1
  exact o _ (R.store hd hl) (wipe_set hv)
theorem gs_nil : EGs X p vs [] gsNil := by
  refine ⟨fun pins s σ H us ws Q I r ⟨ds, as, F, R, hd, o⟩ => pgs_nil.run pins s σ H us ws Q I r ?_⟩
  cases ds with
  | nil => cases hd; exact ⟨rfl, o σ R rfl⟩
  | cons d ds => exact o.elim
theorem gs_cons {t : Expr} {ts : List Expr} {g : D → Ex Unit} {gs : List D → Ex Unit} (h : EG X p vs t g) (hs : EGs X p vs ts gs) (hst : (assignEach (t :: ts) X.env).map (·.2) = assign t X.env :: (assignEach ts X.env).map (·.2) := by rfl) : EGs X p vs (t :: ts) (gsCons g gs) := by
  refine ⟨fun pins s σ H us ws Q I r ⟨ds, as, F, R, hd, o⟩ => (pgs_cons h hs hst).run pins s σ H us ws Q I r ?_⟩
  cases ds with
  | nil => exact o.elim
  | cons d ds =>
    cases hd with
    | cons h1 h2 =>
      refine ⟨_, _, rfl, d, as, F, R, h1, ?_⟩
      unfold gsCons bnd at o
      dsimp only at o
      cases q : g d as with
      | ok _ s1 =>
        rw [q] at o
        intro σ' R' hw
        refine ⟨ds, s1, F, R', h2, ?_⟩
        dsimp only at o
        cases q2 : gs ds s1 with
        | ok _ s2 =>
          rw [q2] at o
          exact fun σ'' R'' hw' => o σ'' R'' (hw'.trans hw)
        | exn _ _ => rw [q2] at o; exact o.elim
        | bad => rw [q2] at o; exact o.elim
      | exn _ _ => rw [q] at o; exact o.elim
      | bad => rw [q] at o; exact o.elim
theorem g_tup {k n : Nat} {gs : List D → Ex Unit} (hc : X.calm = true) (h : EGs X p vs es gs) (hn : (assignEach es X.env).length = n := by rfl) (hst : (assignEach es X.env).findIdx? (·.1) = none := by rfl) : EG X p vs (.Tuple es k pos) (gUn n gs) := by
  refine ⟨fun pins s σ H v u Q I r ⟨d, as, F, R, hd, o⟩ => (pg_tup hc h hn hst).run pins s σ H v u Q I r ?_⟩
  cases d with
  | tup ds =>
    unfold gUn at o
    dsimp only at o
    split at o
    · rename_i hl
      cases hd with
      | tup h1 h2 => exact ⟨_, _, rfl, same_seqT R.le h1, by rw [h2.len]; exact hl, ds, as, F, R, h2, o⟩
    · exact o.elim
  | _ => exact o.elim

/-! ### assignments -/
def sSet (i : Nat) (m : Ex D) : Ex Fl := bnd m fun d => bnd (gSet i d) fun _ => ret .nx
theorem s_set (i : Nat) {x : Str} {pos' : Pos} (hN : X.N.Nodup) (he : EE X p e ma) (hi : X.N[i]? = some x := by rfl) (hx : Loc X.env.scope x := by first | exact Or.inl rfl | exact Or.inr rfl) (hs : swapsWith e (some (.Name x pos')) pos.line X.env = pure false := by rfl)
    (hf : X.fn x = true ∨ X.env.scope.names.lookup x = some .local := by first | exact .inl rfl | exact .inr rfl) : ES X p (.Assign [.Name x pos'] e pos) (sSet i ma) := by
  refine ⟨fun pins s σ H E I ⟨as, F, R, o⟩ => (ps_set hN hi hx he.1 hs hf).run pins s σ H E I ?_⟩
  have hl : i < σ.length := by rw [I.len]; exact (List.getElem?_eq_some_iff.mp hi).1
  refine bindS (r := rE (GX X p)) R o fun v H1 d s1 F1 R1 f1 g1 hd o1 _ => ?_
  exact o1 _ H1 F1 (R1.store hd hl) (Same.refl _)
def sAsg (g : D → Ex Unit) (m : Ex D) : Ex Fl := bnd m fun d => bnd (g d) fun _ => ret .nx
theorem OutU.s {G : Gd} {H0 F0 H F : Hp} {W : WX} {E : Ends} {σ : L2.St} {o : Res AS Unit} (h : OutS G H0 F0 W F E (match o with | .ok _ s' => .ok .nx s' | .exn e s' => .exn e s' | .bad => .bad)) (hne : ∀ e s', o ≠ .exn e s') : OutU G H0 F0 vs σ H F E.nx o := by
  cases o with
  | ok _ s' => exact fun σ' R _ => h σ' H F R (Same.refl _)
  | exn e s' => exact absurd rfl (hne e s')
  | bad => exact h
/-- a target that raises nothing -/
def Calm (g : D → Ex Unit) : Prop := ∀ d s e s', g d s ≠ .exn e s'
theorem calm_set (i : Nat) : Calm (gSet i) := fun _ _ _ _ z => nomatch z
theorem calm_un {n : Nat} {gs : List D → Ex Unit} (h : ∀ ds s e s', gs ds s ≠ .exn e s') : Calm (gUn n gs) := fun d s e s' z => by
  unfold gUn at z
  split at z
  · split at z
    · exact h _ _ _ _ z
    · cases z
  · cases z
theorem calm_nil : ∀ ds s e s', gsNil ds s ≠ .exn e s' := fun ds s e s' z => by
  cases ds <;> cases z
theorem calm_cons {g : D → Ex Unit} {gs : List D → Ex Unit} (h : Calm g) (h' : ∀ ds s e s', gs ds s ≠ .exn e s') : ∀ ds s e s', gsCons g gs ds s ≠ .exn e s' := fun ds s e s' z => by
  cases ds with
  | nil => cases z
  | cons d ds =>
    unfold gsCons bnd at z
    dsimp only at z
    cases q : g d s with
    | ok _ s1 => rw [q] at z; exact h' _ _ _ _ z
    | exn e1 s1 => exact h _ _ _ _ q
    | bad => rw [q] at z; cases z
theorem s_asg {tg : Expr} {g : D → Ex Unit} (he : EE X p e ma) (hg : EG X p vs tg g) (hn : Calm g) (hs : swapsWithSole [tg] e pos.line X.env = pure false := by rfl) (hw : swappedStores [tg] e X.env = pure none := by rfl) (h1 : (assignEach [tg] X.env).map (·.2) = [assign tg X.env] := by rfl) : ES X p (.Assign [tg] e pos) (sAsg g ma) := by
  refine PS.weak (ps_asg he.1 hg hs hw h1) fun E σ H ⟨s, F, R, o⟩ => ?_
  refine bindS (r := rE (GX X p)) R o fun v H1 d s1 F1 R1 f1 g1 hd o1 _ => ?_
  refine ⟨d, s1, F1, R1, hd, OutU.s (W := p.W) ?_ (hn d s1)⟩
  unfold bnd at o1
  cases q : g d s1 <;> rw [q] at o1 <;> exact o1

/-! ### what a loop walks -/
/-- the iterator J yields the data ds, as long as I holds -/
structure Yl (G : Gd) (J : It) (ds : List D) (F1 : Hp) : Prop where
  go : ∀ i H F, Same F1 F → Same F H → i < ds.length → J.go i H
  stop : ∀ i H F, Same F1 F → Same F H → ds.length ≤ i → J.stop i H
  yld : ∀ i H F x H', Same F1 F → Same F H → J.yld i H x H' → ∀ d, ds[i]? = some d → (H' = H ∧ DR G F x d) ∨ ∃ T o, H T = none ∧ H' = upd H T o ∧ (∀ ps, o ≠ .tbl ps) ∧ (∀ F', Same F F' → F' T = some o → DR G F' x d)
def rJ (G : Gd) : Hp → Hp → It → List D → Prop := fun _ F J ds => Yl G J ds F
theorem Yl.mono {G : Gd} {J : It} {ds : List D} {F1 F2 : Hp} (h : Yl G J ds F1) (f : Same F1 F2) : Yl G J ds F2 :=
  ⟨fun i H F a b => h.go i H F (f.trans a) b, fun i H F a b => h.stop i H F (f.trans a) b, fun i H F x H' a b => h.yld i H F x H' (f.trans a) b⟩
def EI (X : Cx) (p : Pm) (tg iter : Expr) (m : Ex (List D)) : Prop := PI X tg iter (tG (GX X p) p.H0 p.F0 p.W (rJ (GX X p)) m) ∧ Fz m
theorem PI.weak {tg iter : Expr} {t t' : TI} (h : PI X tg iter t) (i : ∀ σ H R, t' σ H R → t σ H R) : PI X tg iter t' := ⟨fun pins s σ H R I hq => h.run pins s σ H R I (i _ _ _ hq)⟩
theorem yl_list {G : Gd} {F1 : Hp} {a : Addr} {xs : List V} {ds : List D} (h : F1 a = some (.lst xs)) (hd : DRs G F1 xs ds) : Yl G (Itl G.K a) ds F1 where
  go := fun i H F e e' hi => ⟨xs, xs[i]'(by rw [hd.len]; exact hi), SqL.of (e' _ _ (e _ _ h)), by simp⟩
  stop := fun i H F e e' hi => ⟨xs, SqL.of (e' _ _ (e _ _ h)), by rw [hd.len]; exact hi⟩
  yld := fun i H F x H' e e' y d hdi => by
    obtain ⟨e1, y⟩ := y
    obtain ⟨v, e2, e3⟩ := hd.get hdi
    have := y xs (SqL.of (e' _ _ (e _ _ h)))
    rw [e2] at this
    cases this
    exact .inl ⟨e1, e3.mono e⟩
theorem yl_tup {G : Gd} {F1 : Hp} {a : Addr} {xs : List V} {ds : List D} (h : SqT G.K F1 a xs) (hd : DRs G F1 xs ds) : Yl G (Itt G.K a) ds F1 where
  go := fun i H F e e' hi => ⟨xs, xs[i]'(by rw [hd.len]; exact hi), same_seqT e' (same_seqT e h), by simp⟩
  stop := fun i H F e e' hi => ⟨xs, same_seqT e' (same_seqT e h), by rw [hd.len]; exact hi⟩
  yld := fun i H F x H' e e' y d hdi => by
    obtain ⟨e1, y⟩ := y
    obtain ⟨v, e2, e3⟩ := hd.get hdi
    have := y xs (same_seqT e' (same_seqT e h))
    rw [e2] at this
    cases this
    exact .inl ⟨e1, e3.mono e⟩
theorem yl_rng {G : Gd} {F1 : Hp} (lo : Int) (n : Nat) : Yl G (Itr lo n) ((List.range n).map fun i => D.int (lo + (i : Nat))) F1 where
  go := fun i H F _ _ hi => by show i < n; simpa using hi
  stop := fun i H F _ _ hi => by show n ≤ i; simpa using hi
  yld := fun i H F x H' _ _ y d hdi => by
    obtain ⟨e1, rfl⟩ := y
    rw [List.getElem?_map] at hdi
    cases q : (List.range n)[i]? with
    | none => rw [q] at hdi; cases hdi
    | some j =>
      rw [q] at hdi
      cases hdi
      have : i = j := by
        rw [List.getElem?_range] at q
        · exact Option.some.inj q
        · exact Classical.byContradiction fun h => by rw [List.getElem?_eq_none (by simpa using h)] at q; cases q
      subst this
      exact .inl ⟨e1, .int _⟩
def seqD : D → Option (List D)
  | .lst xs => some xs
  | .tup xs => some xs
  | _ => none
def lstD : D → Option (List D)
  | .lst xs => some xs
  | _ => none
def tupD : D → Option (List D)
  | .tup xs => some xs
  | _ => none
def fItL (m : Ex D) : Ex (List D) := bnd m fun d => opt (lstD d)
def fItT (m : Ex D) : Ex (List D) := bnd m fun d => opt (tupD d)
/-- a list, known for good, is walked -/
theorem i_list {tg : Expr} (h : EE X p e ma) : EI X p tg e (fItL ma) := by
  refine ⟨?_, Fz.bnd h.2 fun _ => Fz.opt⟩
  refine PI.weak (pi_list h.1) fun σ H R' ⟨s, F, R, o⟩ => ?_
  refine bindK (r := rE (GX X p)) R o fun v H1 d s1 F1 R1 f1 g1 hd o1 _ => ?_
  obtain ⟨z, hz, o2⟩ := out_optT o1
  cases d <;> first | (cases hz; done) | skip
  cases hz
  cases hd with
  | lst h1 h2 => exact ⟨_, rfl, ⟨_, SqL.of (R1.le _ _ h1)⟩, R1.here o2 (yl_list h1 h2)⟩
theorem i_tup {tg : Expr} (h : EE X p e ma) : EI X p tg e (fItT ma) := by
  refine ⟨?_, Fz.bnd h.2 fun _ => Fz.opt⟩
  refine PI.weak (pi_tup h.1) fun σ H R' ⟨s, F, R, o⟩ => ?_
  refine bindK (r := rE (GX X p)) R o fun v H1 d s1 F1 R1 f1 g1 hd o1 _ => ?_
  obtain ⟨z, hz, o2⟩ := out_optT o1
  cases d <;> first | (cases hz; done) | skip
  cases hz
  cases hd with
  | tup h1 h2 => exact ⟨_, rfl, ⟨_, same_seqT R1.le h1⟩, R1.here o2 (yl_tup h1 h2)⟩
def rngD (lo hi : Int) : Option (List D) := if -(2 ^ 62) ≤ lo ∧ lo < 2 ^ 62 ∧ -(2 ^ 62) ≤ hi ∧ hi < 2 ^ 62 then some ((List.range (hi - lo).toNat).map fun i => D.int (lo + (i : Nat))) else none
def fRng1 (m : Ex D) : Ex (List D) := bnd m fun d => bnd (opt (asI d)) fun i => opt (rngD 0 i)
def fRng2 (m m' : Ex D) : Ex (List D) := bnd m fun d => bnd m' fun d' => bnd (opt (asI d)) fun i => bnd (opt (asI d')) fun j => opt (rngD i j)
theorem i_rng1 {tg : Expr} {q : Pos} (hm : X.mg "range" = none) (h : EE X p a ma) (hg : Gl X "range" := by rfl) (hs : starEach [a] X.env = [(false, eval a X.env)] := by rfl) : EI X p tg (.Call (.Name "range" q) [a] [] pos) (fRng1 ma) := by
  refine ⟨?_, Fz.bnd h.2 fun _ => Fz.bnd Fz.opt fun _ => Fz.opt⟩
  refine PI.weak (pi_range1 hg hm (pa_cons h.1 pa_nil hs) hs) fun σ H R' ⟨s, F, R, o⟩ => ?_
  refine bindK (r := rE (GX X p)) R o fun v H1 d s1 F1 R1 f1 g1 hd o1 _ => ?_
  unfold bnd at o1
  cases hk : asI d with
  | none => rw [hk] at o1; exact o1.elim
  | some k =>
    rw [hk] at o1
    cases asI_some hk
    cases hd
    dsimp only [opt] at o1
    unfold rngD at o1
    by_cases hb : -(2 ^ 62) ≤ (0 : Int) ∧ (0 : Int) < 2 ^ 62 ∧ -(2 ^ 62) ≤ k ∧ k < 2 ^ 62
    · rw [if_pos hb] at o1
      refine ⟨k, rfl, hb.2.2.1, hb.2.2.2, R1.here o1 ?_⟩
      rw [Int.sub_zero]
      exact yl_rng 0 k.toNat
    · rw [if_neg hb] at o1; exact o1.elim
theorem i_rng2 {tg : Expr} {q : Pos} (hm : X.mg "range" = none) (h : EE X p a ma) (h' : EE X p b mb) (hg : Gl X "range" := by rfl) (hs : starEach [a, b] X.env = [(false, eval a X.env), (false, eval b X.env)] := by rfl) (hs2 : starEach [b] X.env = [(false, eval b X.env)] := by rfl) :
    EI X p tg (.Call (.Name "range" q) [a, b] [] pos) (fRng2 ma mb) := by
  refine ⟨?_, Fz.bnd h.2 fun _ => Fz.bnd h'.2 fun _ => Fz.bnd Fz.opt fun _ => Fz.bnd Fz.opt fun _ => Fz.opt⟩
  refine PI.weak (pi_range2 hg hm (pa_cons h.1 (pa_cons h'.1 pa_nil hs2) (by rw [hs, hs2])) hs hs2) fun σ H R' ⟨s, F, R, o⟩ => ?_
  refine bindK (r := rE (GX X p)) R o fun v H1 d s1 F1 R1 f1 g1 hd o1 _ => ?_
  refine bindK (r := rE (GX X p)) R1 o1 fun v2 H2 d2 s2 F2 R2 f2 g2 hd2 o2 _ => ?_
  unfold bnd at o2
  cases hk : asI d with
  | none => rw [hk] at o2; exact o2.elim
  | some k =>
    cases hk2 : asI d2 with
    | none => rw [hk, hk2] at o2; exact o2.elim
    | some k2 =>
      rw [hk, hk2] at o2
      cases asI_some hk
      cases asI_some hk2
      cases hd
      cases hd2
      dsimp only [opt] at o2
      unfold rngD at o2
      by_cases hb : -(2 ^ 62) ≤ k ∧ k < 2 ^ 62 ∧ -(2 ^ 62) ≤ k2 ∧ k2 < 2 ^ 62
      · rw [if_pos hb] at o2
        exact ⟨k, k2, rfl, hb, R2.here o2 (yl_rng k _)⟩
      · rw [if_neg hb] at o2; exact o2.elim

/-! ### for -/
def loopM (g : D → Ex Unit) (body : Ex Fl) : List D → Ex Fl
  | [] => ret .nx
  | d :: ds => bnd (g d) fun _ => bnd body fun f => match f with
    | .nx => loopM g body ds
    | .ct => loopM g body ds
    | .bk => ret .nx
    | .rt d => ret (.rt d)
def sFor (src : Ex (List D)) (g : D → Ex Unit) (body : Ex Fl) : Ex Fl := bnd src fun ds => loopM g body ds
theorem s_for {tg iter : Expr} {src : Ex (List D)} {g : D → Ex Unit} (hp : PassesOwn (model X.prog X.w) X.A X.env X.xe) (hc : X.calm = true) (hi : EI X p tg iter src) (hg : EG X p vs tg g) (hn : Calm g) (hb : EB X p body m) (hs : ∀ x, foldedSetIterable iter X.env x = pure x := by intro _; rfl) :
    ES X p (.For tg iter body [] pos) (sFor src g m) := by
  refine PS.weak (ps_for hp hc hi.1 hg hb hs) fun E σ H ⟨s, F, R, o⟩ => ?_
  refine bindS (r := rJ (GX X p)) R o fun J H1 ds s1 F1 R1 f1 g1 hJ o1 _ => ?_
  refine ⟨fun i m' σ' H' => m' = ds.length - i ∧ i ≤ ds.length ∧ ∃ s' F', Rel (GX X p) p.H0 p.F0 s' σ' H' F' ∧ Same F1 F' ∧ OutS (GX X p) p.H0 p.F0 p.W F' E (loopM g m (ds.drop i) s'), ⟨_, rfl, Nat.zero_le _, s1, F1, R1, Same.refl _, o1⟩, ?_⟩
  rintro i m' σ' H' ⟨rfl, hi', s', F', R', f', o'⟩
  by_cases hlt : i < ds.length
  · obtain ⟨d, hd⟩ : ∃ d, ds[i]? = some d := ⟨_, List.getElem?_eq_getElem hlt⟩
    have hdr : ds.drop i = d :: ds.drop (i + 1) := by
      rw [List.getElem?_eq_getElem hlt] at hd
      cases hd
      exact List.drop_eq_getElem_cons hlt
    rw [hdr] at o'
    refine .inr ⟨hJ.go i H' F' f' R'.le hlt, fun σ2 H2 => ∃ s2 F2, Rel (GX X p) p.H0 p.F0 s2 σ2 H2 F2 ∧ Same F1 F2 ∧ OutS (GX X p) p.H0 p.F0 p.W F2 E (loopM g m (ds.drop (i + 1)) s2), fun σ2 H2 ⟨s2, F2, R2, f2, o2⟩ => ⟨_, by omega, rfl, hlt, s2, F2, R2, f2, o2⟩, fun x H2 y => ?_⟩
    -- what is yielded, then the store, then the body
    have main : ∀ F2, Rel (GX X p) p.H0 p.F0 s' σ' H2 F2 → Same F' F2 → DR (GX X p) F2 x d → tU (GX X p) p.H0 p.F0 vs g x σ' H2 fun σ3 H3 => tS (GX X p) p.H0 p.F0 p.W m { E with nx := fun σ2 H2 => ∃ s2 F2, Rel (GX X p) p.H0 p.F0 s2 σ2 H2 F2 ∧ Same F1 F2 ∧ OutS (GX X p) p.H0 p.F0 p.W F2 E (loopM g m (ds.drop (i + 1)) s2), ct := fun σ2 H2 => ∃ s2 F2, Rel (GX X p) p.H0 p.F0 s2 σ2 H2 F2 ∧ Same F1 F2 ∧ OutS (GX X p) p.H0 p.F0 p.W F2 E (loopM g m (ds.drop (i + 1)) s2), bk := E.nx } σ3 H3 := by
      intro F2 R2 f2 hx
      refine ⟨d, s', F2, R2, hx, ?_⟩
      unfold loopM bnd at o'
      dsimp only at o'
      cases q : g d s' with
      | ok _ s3 =>
        rw [q] at o'
        intro σ3 R3 _
        refine ⟨s3, F2, R3, ?_⟩
        dsimp only at o'
        have f12 : Same F1 F2 := f'.trans f2
        cases q2 : m s3 with
        | ok fl s4 =>
          rw [q2] at o'
          cases fl with
          | nx => exact fun σ4 H4 F4 R4 f4 => ⟨s4, F4, R4, f12.trans f4, OutS.mono o' (f2.trans f4)⟩
          | ct => exact fun σ4 H4 F4 R4 f4 => ⟨s4, F4, R4, f12.trans f4, OutS.mono o' (f2.trans f4)⟩
          | bk => exact fun σ4 H4 F4 R4 f4 => o' σ4 H4 F4 R4 (f2.trans f4)
          | rt d => exact fun v σ4 H4 F4 R4 f4 h => o' v σ4 H4 F4 R4 (f2.trans f4) h
        | exn x s4 =>
          rw [q2] at o'
          exact fun cls dd σ4 H4 F4 R4 f4 h => o' cls dd σ4 H4 F4 R4 (f2.trans f4) h
        | bad => rw [q2] at o'; exact o'.elim
      | exn x s3 => exact absurd q (hn d s' x s3)
      | bad => rw [q] at o'; exact o'.elim
    rcases hJ.yld i H' F' x H2 f' R'.le y d hd with ⟨rfl, hx⟩ | ⟨T, u, hT, rfl, hnt, hx⟩
    · exact main F' R' (Same.refl _) hx
    · have fT : Same F' (upd F' T u) := fun b w z => by
        have : b ≠ T := fun e => by subst e; rw [R'.le _ _ z] at hT; cases hT
        rw [upd_ne this]; exact z
      exact main _ (R'.laid hT hnt) fT (hx _ fT upd_same)
  · have e : i = ds.length := by omega
    subst e
    rw [List.drop_length] at o'
    exact .inl ⟨hJ.stop _ H' F' f' R'.le (Nat.le_refl _), o' σ' H' F' R' (Same.refl _)⟩
end
end Ink

set_option Elab.async false
set_option maxRecDepth 100000
set_option autoImplicit false
set_option linter.unusedVariables false
/-! Ink5: comprehensions over data. -/
namespace Ink
open PySem PySem.Spec PyProof.Rows L2

def wipeS : List Nat → AS → AS
  | [], s => s
  | v :: vs, s => setSl v .no (wipeS vs s)
theorem wipeS_bag : ∀ (vs : List Nat) (s : AS), (wipeS vs s).bag = s.bag
  | [], _ => rfl
  | v :: vs, s => wipeS_bag vs s
theorem wipeS_len : ∀ (vs : List Nat) (s : AS), (wipeS vs s).sl.length = s.sl.length
  | [], _ => rfl
  | v :: vs, s => by
    show ((wipeS vs s).sl.set v .no).length = _
    rw [List.length_set, wipeS_len vs s]
def restL (l : List SV) : List Nat → List SV → List SV
  | [], l' => l'
  | v :: vs, l' => match l[v]? with
    | some x => (restL l vs l').set v x
    | none => restL l vs l'
theorem restL_len (l : List SV) : ∀ (vs : List Nat) (l' : List SV), (restL l vs l').length = l'.length
  | [], _ => rfl
  | v :: vs, l' => by
    unfold restL
    cases l[v]? with
    | some x => dsimp only; rw [List.length_set, restL_len l vs l']
    | none => exact restL_len l vs l'
theorem restL_get (l : List SV) : ∀ (vs : List Nat) (l' : List SV) (i : Nat) (x : SV), l.length = l'.length → (restL l vs l')[i]? = some x → (i ∈ vs ∧ l[i]? = some x) ∨ (i ∉ vs ∧ l'[i]? = some x)
  | [], l', i, x, _, h => .inr ⟨by simp, h⟩
  | v :: vs, l', i, x, hl, h => by
    unfold restL at h
    cases q : l[v]? with
    | none =>
      rw [q] at h
      dsimp only at h
      rcases restL_get l vs l' i x hl h with ⟨h1, h2⟩ | ⟨h1, h2⟩
      · exact .inl ⟨List.mem_cons_of_mem _ h1, h2⟩
      · refine .inr ⟨fun z => ?_, h2⟩
        rcases List.mem_cons.mp z with z | z
        · subst z
          have h3 := (List.getElem?_eq_some_iff.mp h2).1
          rw [List.getElem?_eq_getElem (by omega)] at q
          cases q
        · exact h1 z
    | some y =>
      rw [q] at h
      dsimp only at h
      by_cases e : v = i
      · subst e
        by_cases hv : v < (restL l vs l').length
        · rw [List.getElem?_set_self hv] at h
          cases h
          exact .inl ⟨List.mem_cons_self, q⟩
        · rw [List.getElem?_eq_none (by rw [List.length_set]; omega)] at h; cases h
      · rw [List.getElem?_set_ne e] at h
        rcases restL_get l vs l' i x hl h with ⟨h1, h2⟩ | ⟨h1, h2⟩
        · exact .inl ⟨List.mem_cons_of_mem _ h1, h2⟩
        · exact .inr ⟨fun z => by rcases List.mem_cons.mp z with z | z; exact e z.symm; exact h1 z, h2⟩
theorem restL_get' (l : List SV) : ∀ (vs : List Nat) (l' : List SV) (i : Nat) (x : SV), (restL l vs l')[i]? = some x → l[i]? = some x ∨ l'[i]? = some x
  | [], l', i, x, h => .inr h
  | v :: vs, l', i, x, h => by
    unfold restL at h
    cases q : l[v]? with
    | none => rw [q] at h; exact restL_get' l vs l' i x h
    | some y =>
      rw [q] at h
      dsimp only at h
      by_cases e : v = i
      · subst e
        by_cases hv : v < (restL l vs l').length
        · rw [List.getElem?_set_self hv] at h
          cases h
          exact .inl q
        · rw [List.getElem?_eq_none (by rw [List.length_set]; omega)] at h; cases h
      · rw [List.getElem?_set_ne e] at h
        exact restL_get' l vs l' i x h
/-- the comprehension's own names are as ahead again -/
def restS (vs : List Nat) (s s' : AS) : AS := ⟨restL s.sl vs s'.sl, s'.bag⟩
def okW (vs : List Nat) (s : AS) : Bool := vs.all fun v => match s.sl[v]? with
  | some x => !ownAt x
  | none => true
theorem okW_of {vs : List Nat} {s : AS} (h : okW vs s = true) {i : Nat} {x : SV} (hi : i ∈ vs) (e : s.sl[i]? = some x) : ownAt x = false := by
  have := List.all_eq_true.mp h i hi
  rw [e] at this
  simpa using this

section
variable {G : Gd} {H0 F0 : Hp} {s : AS} {σ : L2.St} {H F : Hp}
theorem Rel.drop1 {i : Nat} (R : Rel G H0 F0 s σ H F) : Rel G H0 F0 (setSl i .no s) (σ.set i none) H F where
  le := R.le
  base := R.base
  newF := R.newF
  grow := R.grow
  bag := R.bag
  len := by
    show (s.sl.set i _).length = _
    rw [List.length_set, List.length_set]; exact R.len
  slot := fun j y e => by
    have e' : (s.sl.set i .no)[j]? = some y := e
    by_cases hj : i = j
    · subst hj
      by_cases hl : i < s.sl.length
      · rw [List.getElem?_set_self hl] at e'
        cases e'
        trivial
      · rw [List.getElem?_eq_none (by rw [List.length_set]; omega)] at e'; cases e'
    · rw [List.getElem?_set_ne hj] at e' ⊢
      exact R.slot j y e'
  dist := fun j k y z b hy hz oy oz h1 h2 => by
    have key : ∀ {j : Nat} {y : SV}, (s.sl.set i .no)[j]? = some y → ownAt y = true → i ≠ j := fun {j y} h o e => by
      subst e
      by_cases hl : i < s.sl.length
      · rw [List.getElem?_set_self hl] at h; cases h; cases o
      · rw [List.getElem?_eq_none (by rw [List.length_set]; omega)] at h; cases h
    have nj := key hy oy
    have nk := key hz oz
    have hy' : (s.sl.set i .no)[j]? = some y := hy
    have hz' : (s.sl.set i .no)[k]? = some z := hz
    rw [List.getElem?_set_ne nj] at hy' h1
    rw [List.getElem?_set_ne nk] at hz' h2
    exact R.dist j k y z b hy' hz' oy oz h1 h2
  notbl := R.notbl
  bag0 := R.bag0
  kept := R.kept
theorem wipe_in {σ : L2.St} {i : Nat} : ∀ {vs : List Nat}, i ∈ vs → i < σ.length → (wipe σ vs)[i]? = some none
  | v :: vs, h, hl => by
    unfold wipe
    by_cases e : v = i
    · subst e
      rw [List.getElem?_set_self (by rw [wipe_length]; exact hl)]
    · rw [List.getElem?_set_ne e]
      rcases List.mem_cons.mp h with z | z
      · exact absurd z.symm e
      · exact wipe_in z hl
theorem wipe_wipe {σ : L2.St} {vs : List Nat} : wipe (wipe σ vs) vs = wipe σ vs := by
  refine List.ext_getElem? fun i => ?_
  by_cases h : i ∈ vs
  · by_cases hl : i < σ.length
    · rw [wipe_in h hl, wipe_in h (by rw [wipe_length]; exact hl)]
    · rw [List.getElem?_eq_none (by rw [wipe_length, wipe_length]; omega), List.getElem?_eq_none (by rw [wipe_length]; omega)]
  · rw [wipe_out h]
theorem Rel.wiped (R : Rel G H0 F0 s σ H F) : ∀ vs : List Nat, Rel G H0 F0 (wipeS vs s) (wipe σ vs) H F
  | [] => R
  | v :: vs => (R.wiped vs).drop1
theorem Rel.restored {vs : List Nat} {s' : AS} {H' F' : Hp} (R : Rel G H0 F0 s σ H F) (R' : Rel G H0 F0 s' (wipe σ vs) H' F') (f : Same F F') (hw : okW vs s = true) : Rel G H0 F0 (restS vs s s') σ H' F' where
  le := R'.le
  base := R'.base
  newF := R'.newF
  grow := R'.grow
  bag := R'.bag
  len := by
    show (restL s.sl vs s'.sl).length = _
    rw [restL_len, R'.len, wipe_length]
  slot := fun i x e => by
    have e' : (restL s.sl vs s'.sl)[i]? = some x := e
    rcases restL_get _ _ _ _ _ (by rw [R.len, R'.len, wipe_length]) e' with ⟨h1, h2⟩ | ⟨h1, h2⟩
    · have h := R.slot i x h2
      have n := okW_of hw h1 h2
      cases x with
      | no => trivial
      | dat d => obtain ⟨v, e, h⟩ := h; exact ⟨v, e, h.mono f⟩
      | own _ => cases n
      | owk _ => cases n
      | owt _ => cases n
    · have h := R'.slot i x h2
      rw [wipe_out h1] at h
      exact h
  dist := fun j k y z b hy hz oy oz h1 h2 => by
    have hy' : (restL s.sl vs s'.sl)[j]? = some y := hy
    have hz' : (restL s.sl vs s'.sl)[k]? = some z := hz
    rcases restL_get _ _ _ _ _ (by rw [R.len, R'.len, wipe_length]) hy' with ⟨a1, a2⟩ | ⟨a1, a2⟩
    · have n := okW_of hw a1 a2
      rw [oy] at n; cases n
    · rcases restL_get _ _ _ _ _ (by rw [R.len, R'.len, wipe_length]) hz' with ⟨b1, b2⟩ | ⟨b1, b2⟩
      · have n := okW_of hw b1 b2
        rw [oz] at n; cases n
      · exact R'.dist j k y z b a2 b2 oy oz (by rw [wipe_out a1]; exact h1) (by rw [wipe_out b1]; exact h2)
  notbl := R'.notbl
  bag0 := R'.bag0
  kept := R'.kept
/-- an object that no slot holds is laid, or is written anew -/
theorem Rel.side {q : Addr} {o : HO} (R : Rel G H0 F0 s σ H F) (hF : F q = none) (h0 : fr H0 q) (hT : ∀ u, H q = some u → ¬ isTab u) (hs : ∀ (i : Nat) (x : SV), s.sl[i]? = some x → ownAt x = true → σ[i]? ≠ some (some (.ref q))) : Rel G H0 F0 s σ (upd H q o) F where
  le := fun a u h => by
    have : a ≠ q := fun e => by subst e; rw [hF] at h; cases h
    rw [upd_ne this]; exact R.le a u h
  base := R.base
  newF := R.newF
  grow := R.grow.upd h0 hT
  bag := by
    obtain ⟨h1, h2, h3, h4⟩ := R.bag
    have n1 : G.b1 ≠ q := fun e => R.bag0.1 (by rw [e]; exact h0)
    have n2 : G.b2 ≠ q := fun e => R.bag0.2 (by rw [e]; exact h0)
    exact ⟨by rw [upd_ne n1]; exact h1, by rw [upd_ne n2]; exact h2, h3, h4⟩
  len := R.len
  slot := fun i x e => (R.slot i x e).laid (Same.refl _) (fun _ _ h _ _ => h) fun a u h _ ox ex => by
    have : a ≠ q := fun e2 => hs i x e ox (by rw [ex, e2])
    rw [upd_ne this]; exact h
  dist := R.dist
  notbl := R.notbl
  bag0 := R.bag0
  kept := fun a h => by
    by_cases e : a = q
    · subst e; exact h0
    · exact R.kept a (fr_upd h e)
/-- an object that no slot holds is known for good from now on -/
theorem Rel.known {q : Addr} {o : HO} (R : Rel G H0 F0 s σ H F) (hH : H q = some o) (hF : F q = none) (h0 : fr H0 q) (hnt : ∀ ps, o ≠ .tbl ps) (hs : ∀ (i : Nat) (x : SV), s.sl[i]? = some x → ownAt x = true → σ[i]? ≠ some (some (.ref q))) : Rel G H0 F0 s σ H (upd F q o) where
  le := fun b u h => by
    by_cases e : b = q
    · subst e; rw [upd_same] at h; rw [hH]; exact h
    · rw [upd_ne e] at h; exact R.le b u h
  base := fun b u h => by
    have h1 := R.base b u h
    have : b ≠ q := fun e => by subst e; rw [hF] at h1; cases h1
    rw [upd_ne this]; exact h1
  newF := fun b u h => by
    by_cases e : b = q
    · subst e; exact .inr (.inl h0)
    · rw [upd_ne e] at h; exact R.newF b u h
  grow := R.grow
  bag := by
    obtain ⟨h1, h2, h3, h4⟩ := R.bag
    have n1 : G.b1 ≠ q := fun e => R.bag0.1 (by rw [e]; exact h0)
    have n2 : G.b2 ≠ q := fun e => R.bag0.2 (by rw [e]; exact h0)
    exact ⟨h1, h2, by rw [upd_ne n1]; exact h3, by rw [upd_ne n2]; exact h4⟩
  len := R.len
  slot := fun i x e => (R.slot i x e).laid (fun b u h => by
      have : b ≠ q := fun e => by subst e; rw [hF] at h; cases h
      rw [upd_ne this]; exact h) (fun b h1 h2 ox ex => by
      have : b ≠ q := fun e2 => hs i x e ox (by rw [ex, e2])
      rw [upd_ne this]; exact h2) fun _ _ h _ _ _ => h
  dist := R.dist
  notbl := fun b ps h => by
    by_cases e : b = q
    · subst e; rw [upd_same] at h; exact hnt ps (Option.some.inj h)
    · rw [upd_ne e] at h; exact R.notbl b ps h
  bag0 := R.bag0
  kept := R.kept
theorem ownLe_wipe : ∀ (vs : List Nat) (s : AS), OwnLe (wipeS vs s) s
  | [], s => OwnLe.refl s
  | v :: vs, s => by
    refine OwnLe.trans (b := wipeS vs s) (fun j x h o => ?_) (ownLe_wipe vs s)
    have h' : ((wipeS vs s).sl.set v .no)[j]? = some x := h
    by_cases e : v = j
    · subst e
      by_cases hl : v < (wipeS vs s).sl.length
      · rw [List.getElem?_set_self hl] at h'; cases h'; cases o
      · rw [List.getElem?_eq_none (by rw [List.length_set]; omega)] at h'; cases h'
    · rw [List.getElem?_set_ne e] at h'
      exact ⟨x, h', o⟩
end

/-- one item: stored, tested, reckoned -/
def oneM (vs : List Nat) (g : D → Ex Unit) (t : Ex Bool) (me : Ex D) (d : D) : Ex (Option D) := fun s => match bnd (g d) (fun _ => bnd t fun k => if k = true then bnd me fun y => ret (some y) else ret none) s with
  | .ok o s' => .ok o (wipeS vs s')
  | .exn e s' => .exn e s'
  | .bad => .bad
def compM (vs : List Nat) (g : D → Ex Unit) (t : Ex Bool) (me : Ex D) : List D → Ex (List D)
  | [] => ret []
  | d :: ds => bnd (oneM vs g t me d) fun o => bnd (compM vs g t me ds) fun r => ret (o.toList ++ r)
def endM (vs : List Nat) (s : AS) : Res AS (List D) → Res AS D
  | .ok ys s' => .ok (.lst ys) (restS vs s s')
  | _ => .bad
def fLc (vs : List Nat) (src : Ex (List D)) (g : D → Ex Unit) (t : Ex Bool) (me : Ex D) : Ex D := bnd src fun ds => fun s =>
  if ds.length ≤ 16777216 ∧ okW vs s = true then endM vs s (compM vs g t me ds (wipeS vs s)) else .bad

def ETs (X : Cx) (p : Pm) (ifs : List Expr) (m : Ex Bool) : Prop := PTs X ifs (tG (GX X p) p.H0 p.F0 p.W rT m) ∧ Fz m
theorem PTs.weak {X : Cx} {e : List Expr} {t t' : TT} (h : PTs X e t) (i : ∀ σ H Q, t' σ H Q → t σ H Q) : PTs X e t' := ⟨fun pins s σ H Q I hq => h.run pins s σ H Q I (i _ _ _ hq)⟩
section
variable {X : Cx} {p : Pm} {c : Expr} {ta : Ex Bool}
theorem ts_nil : ETs X p [] (ret true) := ⟨PTs.weak pts_nil fun _ _ _ ⟨_, _, R, o⟩ => R.here o rfl, Fz.ret⟩
theorem ts_one (h : ET X p c ta) : ETs X p [c] ta := ⟨pts_one h.1, h.2⟩
end
abbrev pF (p : Pm) : Pm := { p with W := wF }

/-- what stays true of the slots that are a frame's own, through an item's store -/
def GFz (vs : List Nat) (g : D → Ex Unit) : Prop := ∀ d s s', g d s = .ok () s' → OwnLe s' s
theorem gfz_set {vs : List Nat} (i : Nat) : GFz vs (gSet i) := fun d s s' e => by cases e; exact ownLe_set
theorem gfz_un {vs : List Nat} {n : Nat} {gs : List D → Ex Unit} (h : ∀ ds s s', gs ds s = .ok () s' → OwnLe s' s) : GFz vs (gUn n gs) := fun d s s' e => by
  unfold gUn at e
  split at e
  · split at e
    · exact h _ _ _ e
    · cases e
  · cases e
theorem gfz_nil : ∀ ds s s', gsNil ds s = .ok () s' → OwnLe s' s := fun ds s s' e => by
  cases ds with
  | nil => cases e; exact OwnLe.refl s
  | cons _ _ => cases e
theorem gfz_cons {vs : List Nat} {g : D → Ex Unit} {gs : List D → Ex Unit} (h : GFz vs g) (h' : ∀ ds s s', gs ds s = .ok () s' → OwnLe s' s) : ∀ ds s s', gsCons g gs ds s = .ok () s' → OwnLe s' s := fun ds s s' e => by
  cases ds with
  | nil => cases e
  | cons d ds =>
    unfold gsCons bnd at e
    dsimp only at e
    cases q : g d s with
    | ok _ s1 => rw [q] at e; exact (h' _ _ _ e).trans (h _ _ _ q)
    | exn _ _ => rw [q] at e; cases e
    | bad => rw [q] at e; cases e

section
variable {X : Cx} {p : Pm} {pos : Pos}
theorem fz_one {vs : List Nat} {g : D → Ex Unit} {t : Ex Bool} {me : Ex D} (hg : GFz vs g) (ht : Fz t) (he : Fz me) (d : D) : Fz (oneM vs g t me d) := fun s a s' e => by
  unfold oneM at e
  cases q : bnd (g d) (fun _ => bnd t fun k => if k = true then bnd me fun y => ret (some y) else ret none) s with
  | ok o s1 =>
    rw [q] at e
    cases e
    refine OwnLe.trans (ownLe_wipe vs s1) ?_
    unfold bnd at q
    cases q2 : g d s with
    | ok _ s2 =>
      rw [q2] at q
      have : Fz (bnd t fun k => if k = true then bnd me fun y => ret (some y) else ret none) := Fz.bnd ht fun _ => Fz.ite (Fz.bnd he fun _ => Fz.ret) Fz.ret
      exact (this s2 a s1 q).trans (hg d s s2 q2)
    | exn _ _ => rw [q2] at q; cases q
    | bad => rw [q2] at q; cases q
  | exn _ _ => rw [q] at e; cases e
  | bad => rw [q] at e; cases e
theorem fz_comp {vs : List Nat} {g : D → Ex Unit} {t : Ex Bool} {me : Ex D} (hg : GFz vs g) (ht : Fz t) (he : Fz me) : ∀ ds, Fz (compM vs g t me ds)
  | [] => Fz.ret
  | d :: ds => Fz.bnd (fz_one hg ht he d) fun _ => Fz.bnd (fz_comp hg ht he ds) fun _ => Fz.ret
theorem ownLe_rest {vs : List Nat} {s s' : AS} (h : OwnLe s' s) : OwnLe (restS vs s s') s := fun i x e o => by
  have e' : (restL s.sl vs s'.sl)[i]? = some x := e
  rcases restL_get' _ _ _ _ _ e' with h2 | h2
  · exact ⟨x, h2, o⟩
  · exact h i x h2 o
theorem bnd_ok {α β : Type} {m : Ex α} {f : α → Ex β} {s s' : AS} {b : β} (h : bnd m f s = .ok b s') : ∃ a s1, m s = .ok a s1 ∧ f a s1 = .ok b s' := by
  unfold bnd at h
  cases q : m s with
  | ok a s1 => rw [q] at h; exact ⟨a, s1, rfl, h⟩
  | exn _ _ => rw [q] at h; cases h
  | bad => rw [q] at h; cases h
theorem oneM_ok {vs : List Nat} {g : D → Ex Unit} {t : Ex Bool} {me : Ex D} {d : D} {s s' : AS} {o : Option D} (h : oneM vs g t me d s = .ok o s') :
    ∃ s1 k s2, g d s = .ok () s1 ∧ t s1 = .ok k s2 ∧ ((k = true ∧ ∃ y s3, me s2 = .ok y s3 ∧ o = some y ∧ s' = wipeS vs s3) ∨ (k = false ∧ o = none ∧ s' = wipeS vs s2)) := by
  unfold oneM at h
  cases q : bnd (g d) (fun _ => bnd t fun k => if k = true then bnd me fun y => ret (some y) else ret none) s with
  | ok o1 s9 =>
    rw [q] at h
    cases h
    obtain ⟨_, s1, e1, e2⟩ := bnd_ok q
    obtain ⟨k, s2, e3, e4⟩ := bnd_ok e2
    cases k with
    | true =>
      rw [if_pos rfl] at e4
      obtain ⟨y, s3, e5, e6⟩ := bnd_ok e4
      cases e6
      exact ⟨s1, true, s2, e1, e3, .inl ⟨rfl, y, _, e5, rfl, rfl⟩⟩
    | false =>
      rw [if_neg Bool.false_ne_true] at e4
      cases e4
      exact ⟨s1, false, _, e1, e3, .inr ⟨rfl, rfl, rfl⟩⟩
  | exn _ _ => rw [q] at h; cases h
  | bad => rw [q] at h; cases h

/-- what holds behind an item -/
def CompNx (G : Gd) (H0 F0 : Hp) (vs : List Nat) (σ : L2.St) (s1 : AS) (F1 H1 : Hp) (q : Addr) (s4 : AS) (acc : List D) (n : Nat) (H2 : Hp) : Prop :=
  ∃ F2 accV, Rel G H0 F0 s4 (wipe σ vs) H2 F2 ∧ Stp G σ s1 H1 F1 s4 H2 F2 ∧ H2 q = some (.lst accV) ∧ F2 q = none ∧ DRs G F2 accV acc ∧ accV.length ≤ n
/-- what no slot holds and stood ahead is not given away -/
theorem Stp.hid {G : Gd} {σ : L2.St} {s s' : AS} {H F H' F' : Hp} {q : Addr} {xs : List V} (z : Stp G σ s H F s' H' F') (hH : H q = some (.lst xs)) (hF : F q = none) (le : Same F' H') (hH' : H' q = some (.lst xs)) (hs : ∀ (i : Nat) (x : SV), s.sl[i]? = some x → ownAt x = true → σ[i]? ≠ some (some (.ref q))) : F' q = none := by
  cases e : F' q with
  | none => rfl
  | some u =>
    rcases z.newF q u e with h | h | ⟨ys, h⟩ | ⟨i, x, h1, h2, h3⟩
    · rw [hF] at h; cases h
    · exact (h.no hH (fun _ z => nomatch z)).elim
    · have := le _ _ e
      rw [hH', h] at this
      cases this
    · exact absurd h3 (hs i x h1 h2)
/-- a comprehension's reading by the mirror -/
theorem lc_read {vs : List Nat} {src : Ex (List D)} {g : D → Ex Unit} {t : Ex Bool} {me : Ex D} (hgf : GFz vs g) (σ : L2.St) (H : Hp) (Q : VK) (h : tG (GX X p) p.H0 p.F0 p.W (rE (GX X p)) (fLc vs src g t me) σ H Q) :
    tLc (tG (GX X p) p.H0 p.F0 p.W (rJ (GX X p)) src) (tU (GX X p) p.H0 p.F0 vs g) (tG (GX X p) p.H0 p.F0 wF rT t) (tG (GX X p) p.H0 p.F0 wF (rE (GX X p)) me) vs σ H Q := by
  obtain ⟨s, F, R, o⟩ := h
  refine bindK (r := rJ (GX X p)) R o fun J H1 ds s1 F1 R1 f1 g1 hJ o1 _ => ?_
  intro D' hD
  split at o1
  case isFalse => exact o1.elim
  rename_i hh
  obtain ⟨hlen, hok⟩ := hh
  have hF1 : F1 D' = none := by
    cases q : F1 D' with
    | none => rfl
    | some u => have := R1.le _ _ q; rw [hD] at this; cases this
  have h0 : fr p.H0 D' := R1.kept _ (fr_none hD)
  have noslot : ∀ (s' : AS), OwnLe s' s1 → ∀ (i : Nat) (x : SV), s'.sl[i]? = some x → ownAt x = true → (wipe σ vs)[i]? ≠ some (some (.ref D')) := fun s' hle i x e ox e2 => by
    obtain ⟨y, e3, oy⟩ := hle i x e ox
    have h := R1.slot i y e3
    have e4 : σ[i]? = some (some (.ref D')) := (wipe_some e2).1
    cases y with
    | no => cases oy
    | dat _ => cases oy
    | own _ => obtain ⟨a, _, e5, h5, _⟩ := h; rw [e4] at e5; cases e5; rw [hD] at h5; cases h5
    | owk _ => obtain ⟨a, _, e5, h5, _⟩ := h; rw [e4] at e5; cases e5; rw [hD] at h5; cases h5
    | owt _ => obtain ⟨a, _, e5, h5, _⟩ := h; rw [e4] at e5; cases e5; rw [hD] at h5; cases h5
  refine ⟨fun i m' H' => m' = ds.length - i ∧ i ≤ ds.length ∧ ∃ s' F' acc accV, Rel (GX X p) p.H0 p.F0 s' (wipe σ vs) H' F' ∧ Stp (GX X p) σ s1 H1 F1 s' H' F' ∧ H' D' = some (.lst accV) ∧ F' D' = none ∧ DRs (GX X p) F' accV acc ∧ accV.length ≤ i ∧
    ∃ r s'', compM vs g t me (ds.drop i) s' = .ok r s'' ∧ ∀ v H9 F9, Rel (GX X p) p.H0 p.F0 (restS vs s1 s'') σ H9 F9 → Stp (GX X p) σ s1 H1 F1 (restS vs s1 s'') H9 F9 → DR (GX X p) F9 v (.lst (acc ++ r)) → Q v H9, ⟨_, rfl, Nat.zero_le _, ?_⟩, ?_⟩
  · have ow : OwnLe (wipeS vs s1) s1 := ownLe_wipe vs s1
    cases q : compM vs g t me ds (wipeS vs s1) with
    | ok r s'' =>
      rw [q] at o1
      refine ⟨wipeS vs s1, F1, [], [], (R1.wiped vs).side hF1 h0 (fun u h => by rw [hD] at h; cases h) (noslot _ ow), ⟨Same.refl _, Grow.of fun b w z => by rw [upd_ne (ne_of_none z hD)]; exact z, fun a h => ?_, ow, fun a o h => .inl h⟩, upd_same, hF1, .nil, Nat.le_refl _, r, s'', q, fun v H9 F9 R9 z9 d9 => o1 v H9 F9 R9 z9 d9⟩
      by_cases e : a = D'
      · rw [e]; exact fr_none hD
      · exact fr_upd h e
    | exn _ _ => rw [q] at o1; exact o1.elim
    | bad => rw [q] at o1; exact o1.elim
  · rintro i m' H' ⟨rfl, hi', s', F', acc, accV, R', z', hA, hFD, hacc, hai, r, s'', hr, k⟩
    have f' := z'.same
    have ow := z'.own
    by_cases hlt : i < ds.length
    · obtain ⟨d, hd⟩ : ∃ d, ds[i]? = some d := ⟨_, List.getElem?_eq_getElem hlt⟩
      have hdr : ds.drop i = d :: ds.drop (i + 1) := by
        rw [List.getElem?_eq_getElem hlt] at hd
        cases hd
        exact List.drop_eq_getElem_cons hlt
      rw [hdr] at hr
      unfold compM at hr
      obtain ⟨o2, s4, e1, e2⟩ := bnd_ok hr
      obtain ⟨r2, s5, e3, e4⟩ := bnd_ok e2
      cases e4
      obtain ⟨sa, kb, sb, ea, eb, ec⟩ := oneM_ok e1
      have owa : OwnLe sa s' := hgf _ _ _ ea
      refine .inr ⟨hJ.go i H' F' f' R'.le hlt, CompNx (GX X p) p.H0 p.F0 vs σ s1 F1 H1 D' s4 (acc ++ o2.toList) (i + 1),
        fun H2 ⟨F2, accV2, R2, z2, hA2, hF2, hacc2, hai2⟩ => ⟨_, by omega, rfl, hlt, s4, F2, _, accV2, R2, z2, hA2, hF2, hacc2, hai2, r2, _, e3, fun v H9 F9 R9 z9 d9 => k v H9 F9 R9 z9 (by rw [List.append_assoc] at d9; exact d9)⟩, fun x H2 y => ?_⟩
      have nb1 : D' ≠ p.b1 := fun e => R1.bag0.1 (by show fr p.H0 p.b1; rw [← e]; exact h0)
      have nb2 : D' ≠ p.b2 := fun e => R1.bag0.2 (by show fr p.H0 p.b2; rw [← e]; exact h0)
      have hH1D : ∀ {Ha Hb : Hp}, Grow (GX X p) Ha Hb → Ha D' = some (.lst accV) → Hb D' = some (.lst accV) := fun g e => g.ext _ _ e nb1 nb2 (fun _ z => nomatch z)
      -- a step within the block is a step of ours
      have lift : ∀ {σ2 : L2.St} {sx sy : AS} {Ha Fa Hb Fb : Hp}, wipe σ2 vs = wipe σ vs → OwnLe sx s' → (∀ (i : Nat) (x : SV), sx.sl[i]? = some x → ownAt x = true → i ∉ vs ∨ σ2[i]? = σ[i]?) → Stp (GX X p) σ2 sx Ha Fa sy Hb Fb → Stp (GX X p) σ sx Ha Fa sy Hb Fb := fun hw _ hx z => ⟨z.same, z.grow, z.kept, z.own, fun a o h => by
        rcases z.newF a o h with h | h | h | ⟨i, x, h1, h2, h3⟩
        · exact .inl h
        · exact .inr (.inl h)
        · exact .inr (.inr (.inl h))
        · refine .inr (.inr (.inr ⟨i, x, h1, h2, ?_⟩))
          rcases hx i x h1 h2 with z | z
          · rw [← wipe_out z, ← hw, wipe_out z]; exact h3
          · rw [← z]; exact h3⟩
      have main : ∀ F2, Rel (GX X p) p.H0 p.F0 s' (wipe σ vs) H2 F2 → Stp (GX X p) σ s1 H1 F1 s' H2 F2 → Same F' F2 → H2 D' = some (.lst accV) → F2 D' = none → DR (GX X p) F2 x d → tU (GX X p) p.H0 p.F0 vs g x (wipe σ vs) H2 fun σ2 H2 => wipe σ2 vs = wipe σ vs ∧ tG (GX X p) p.H0 p.F0 wF rT t σ2 H2 fun b H3 =>
          if b = true then tG (GX X p) p.H0 p.F0 wF (rE (GX X p)) me σ2 H3 fun y H4 => ∃ acc', H4 D' = some (.lst acc') ∧ acc'.length < sizeLine ∧ CompNx (GX X p) p.H0 p.F0 vs σ s1 F1 H1 D' s4 (acc ++ o2.toList) (i + 1) (upd H4 D' (.lst (acc' ++ [y])))
          else CompNx (GX X p) p.H0 p.F0 vs σ s1 F1 H1 D' s4 (acc ++ o2.toList) (i + 1) H3 := by
        intro F2 R2 z2 f2 hA2 hF2 hx
        refine ⟨d, s', F2, R2, hx, ?_⟩
        rw [ea]
        intro σ2 R3 hw
        have hww : wipe (wipe σ vs) vs = wipe σ vs := wipe_wipe
        rw [hww] at hw
        refine ⟨hw, sa, F2, R3, ?_⟩
        rw [eb]
        intro b H3 F3 R4 z4 hb
        subst hb
        have own_out : ∀ (sx : AS), OwnLe sx s' → ∀ (i : Nat) (x : SV), sx.sl[i]? = some x → ownAt x = true → i ∉ vs := fun sx hle i x h1 h2 hm => by
          obtain ⟨y, e1, e2⟩ := hle i x h1 h2
          have h := R2.slot i y e1
          have hl : i < σ.length := by
            have := (List.getElem?_eq_some_iff.mp e1).1
            rw [R2.len, wipe_length] at this
            exact this
          rw [wipe_in hm hl] at h
          cases y with
          | no => cases e2
          | dat _ => cases e2
          | own _ => obtain ⟨_, _, e, _⟩ := h; cases e
          | owk _ => obtain ⟨_, _, e, _⟩ := h; cases e
          | owt _ => obtain ⟨_, _, e, _⟩ := h; cases e
        have noslot2 : ∀ (sx : AS), OwnLe sx s' → ∀ (i : Nat) (x : SV), sx.sl[i]? = some x → ownAt x = true → σ2[i]? ≠ some (some (.ref D')) := fun sx hle i x h1 h2 => by
          have ho := own_out sx hle i x h1 h2
          have h3 := noslot sx (hle.trans ow) i x h1 h2
          rw [← wipe_out (σ := σ2) ho, hw]
          exact h3
        have hF3 : F3 D' = none := z4.hid hA2 hF2 R4.le (hH1D z4.grow hA2) (noslot2 sa owa)
        have z4' := lift hw owa (fun i x h1 h2 => .inl (own_out sa owa i x h1 h2)) z4
        have za : Stp (GX X p) σ s' H2 F2 sa H2 F2 := ⟨Same.refl _, Grow.refl _ _, fun _ h => h, owa, fun _ _ h => .inl h⟩
        have owb : OwnLe sb s' := z4.own.trans owa
        rcases ec with ⟨rfl, yv, s3, e5, rfl, rfl⟩ | ⟨rfl, rfl, rfl⟩
        · refine iteT ⟨sb, F3, R4, ?_⟩
          rw [e5]
          intro y' H4 F4 R5 z5 hy
          have hA4 : H4 D' = some (.lst accV) := hH1D (z4.grow.trans z5.grow) hA2
          have hF4 : F4 D' = none := z5.hid (hH1D z4.grow hA2) hF3 R5.le hA4 (noslot2 sb owb)
          have z5' := lift hw owb (fun i x h1 h2 => .inl (own_out sb owb i x h1 h2)) z5
          have zt := (z2.trans za).trans (z4'.trans z5')
          refine ⟨accV, hA4, by have := sizeLine_eq; omega, F4, accV ++ [y'], ?_, ⟨zt.same, zt.grow.upd (fr_none hD) (fun u h => by rw [hA4] at h; cases h; exact tab_lst), fun a h => ?_, (ownLe_wipe vs s3).trans zt.own, zt.newF⟩, upd_same, hF4, (hacc.mono (f2.trans (z4.same.trans z5.same))).app (.cons hy .nil), by rw [List.length_append]; exact Nat.add_le_add_right hai 1⟩
          · have R6 := R5.wiped vs
            rw [hw] at R6
            exact R6.side hF4 h0 (fun u h => by rw [hA4] at h; cases h; exact tab_lst) (noslot _ ((ownLe_wipe vs s3).trans zt.own))
          · by_cases e : a = D'
            · rw [e]; exact fr_none hD
            · exact zt.kept a (fr_upd h e)
        · have zt := (z2.trans za).trans z4'
          refine iteF ⟨F3, accV, ?_, ⟨zt.same, zt.grow, zt.kept, (ownLe_wipe vs _).trans zt.own, zt.newF⟩, hH1D z4.grow hA2, hF3, by
            have := hacc.mono (f2.trans z4.same)
            simpa using this, Nat.le_succ_of_le hai⟩
          have R6 := R4.wiped vs
          rw [hw] at R6
          exact R6
      rcases hJ.yld i H' F' x H2 f' R'.le y d hd with ⟨rfl, hx⟩ | ⟨T, u, hT, rfl, hnt, hx⟩
      · exact main F' R' z' (Same.refl _) hA hFD hx
      · have hFT : F' T = none := by
          cases e : F' T with
          | none => rfl
          | some w => have := R'.le _ _ e; rw [hT] at this; cases this
        have zT : Stp (GX X p) σ s' H' F' s' (upd H' T u) (upd F' T u) := Stp.laid hT hFT
        have nT : D' ≠ T := ne_of_none hA hT
        exact main _ (R'.laid hT hnt) (z'.trans zT) zT.same (by rw [upd_ne nT]; exact hA) (by rw [upd_ne nT]; exact hFD) (hx _ zT.same upd_same)
    · have e : i = ds.length := by omega
      subst e
      rw [List.drop_length] at hr
      cases hr
      refine .inl ⟨hJ.stop _ H' F' f' R'.le (Nat.le_refl _), ?_⟩
      have fD : Same F' (upd F' D' (.lst accV)) := fun b w z => by
        have : b ≠ D' := fun e => by subst e; rw [hFD] at z; cases z
        rw [upd_ne this]; exact z
      have RF : Rel (GX X p) p.H0 p.F0 s' (wipe σ vs) H' (upd F' D' (.lst accV)) := R'.known hA hFD h0 (fun _ z => nomatch z) (noslot s' ow)
      refine k _ H' (upd F' D' (.lst accV)) (R1.restored RF (f'.trans fD) hok) ⟨f'.trans fD, z'.grow, z'.kept, ownLe_rest ow, fun a o h => ?_⟩ (.lst upd_same (by rw [List.append_nil]; exact hacc.mono fD))
      by_cases e : a = D'
      · rw [e]; exact .inr (.inl (fr_none hD))
      · rw [upd_ne e] at h; exact z'.newF a o h
theorem e_lc {vs : List Nat} {elt tg iter : Expr} {ifs : List Expr} {scope : Scope} {own : List (Str × Nat)} {src : Ex (List D)} {g : D → Ex Unit} {t : Ex Bool} {me : Ex D} (hc : X.calm = true) (hN : X.N.Nodup) (hi : EI X p tg iter src) (ok : BlkOk X.N X.env.scope scope own) (hv : own.map (·.2) = vs)
    (hg : ∀ (s : Shared) (H : Hp) (C : Addr) (cl : List (Str × Addr)) (fp : List Addr), EG (X.blk s H scope (compEnvC scope cl C X.env) fp) (pF p) vs tg g) (hgn : Calm g) (hgf : GFz vs g)
    (ht : ∀ (s : Shared) (H : Hp) (C : Addr) (cl : List (Str × Addr)) (fp : List Addr), ETs (X.blk s H scope (compEnvC scope cl C X.env) fp) (pF p) ifs t)
    (he : ∀ (s : Shared) (H : Hp) (C : Addr) (cl : List (Str × Addr)) (fp : List Addr), EE (X.blk s H scope (compEnvC scope cl C X.env) fp) (pF p) elt me)
    (hs : ∀ x, foldedSetIterable iter X.env x = pure x := by intro _; rfl) :
    EE X p (.ListComp elt [⟨tg, iter, ifs, 0⟩] scope pos) (fLc vs src g t me) := by
  have hft : Fz t := (ht X.s_0 X.H_0 0 [] []).2
  have hfe : Fz me := (he X.s_0 X.H_0 0 [] []).2
  refine ⟨?_, ?_⟩
  · refine PE.weak (pe_lc (own := own) (g := tU (GX X p) p.H0 p.F0 vs g) (tt := tG (GX X p) p.H0 p.F0 wF rT t) (te := tG (GX X p) p.H0 p.F0 wF (rE (GX X p)) me) hc hN hi.1 ok (fun s H C cl fp => hg s H C cl fp) (fun s H C cl fp => (ht s H C cl fp).1) (fun s H C cl fp => (he s H C cl fp).1) hs) fun σ H Q h => by rw [hv]; exact lc_read hgf σ H Q h
  · refine Fz.bnd hi.2 fun ds s a s' e => ?_
    split at e
    · rename_i hh
      cases q : compM vs g t me ds (wipeS vs s) with
      | ok ys s1 =>
        rw [q] at e
        cases e
        exact ownLe_rest ((fz_comp hgf hft hfe ds _ _ _ q).trans (ownLe_wipe vs s))
      | exn _ _ => rw [q] at e; cases e
      | bad => rw [q] at e; cases e
    · cases e
theorem s_setLc {vs : List Nat} (i : Nat) {y : Str} {py spos : Pos} {elt tg iter : Expr} {ifs : List Expr} {scope : Scope} {own : List (Str × Nat)} {src : Ex (List D)} {g : D → Ex Unit} {t : Ex Bool} {me : Ex D} (hc : X.calm = true) (hN : X.N.Nodup) (hi : EI X p tg iter src) (ok : BlkOk X.N X.env.scope scope own) (hv : own.map (·.2) = vs)
    (hg : ∀ (s : Shared) (H : Hp) (C : Addr) (cl : List (Str × Addr)) (fp : List Addr), EG (X.blk s H scope (compEnvC scope cl C X.env) fp) (pF p) vs tg g) (hgn : Calm g) (hgf : GFz vs g)
    (ht : ∀ (s : Shared) (H : Hp) (C : Addr) (cl : List (Str × Addr)) (fp : List Addr), ETs (X.blk s H scope (compEnvC scope cl C X.env) fp) (pF p) ifs t)
    (he : ∀ (s : Shared) (H : Hp) (C : Addr) (cl : List (Str × Addr)) (fp : List Addr), EE (X.blk s H scope (compEnvC scope cl C X.env) fp) (pF p) elt me)
    (hsw : swapsWith (.ListComp elt [⟨tg, iter, ifs, 0⟩] scope pos) (some (.Name y py)) spos.line X.env = pure true) (hy : X.N[i]? = some y := by rfl) (hyl : X.env.scope.names.lookup y = some .local := by rfl) (hs : ∀ x, foldedSetIterable iter X.env x = pure x := by intro _; rfl) :
    ES X p (.Assign [.Name y py] (.ListComp elt [⟨tg, iter, ifs, 0⟩] scope pos) spos) (sSet i (fLc vs src g t me)) := by
  refine ⟨fun pins s σ H E I ⟨as, F, R, o⟩ => (ps_setLc (own := own) (g := tU (GX X p) p.H0 p.F0 vs g) (tt := tG (GX X p) p.H0 p.F0 wF rT t) (te := tG (GX X p) p.H0 p.F0 wF (rE (GX X p)) me) hc hN hy hyl hsw hi.1 ok (fun s H C cl fp => hg s H C cl fp) (fun s H C cl fp => (ht s H C cl fp).1) (fun s H C cl fp => (he s H C cl fp).1) hs).run pins s σ H E I ?_⟩
  have hl : i < σ.length := by rw [I.len]; exact (List.getElem?_eq_some_iff.mp hy).1
  show tLc _ _ _ _ _ σ H _
  rw [hv]
  refine lc_read hgf σ H _ (bindS (r := rE (GX X p)) R o fun v H1 d s1 F1 R1 f1 g1 hd o1 _ => ?_)
  exact o1 _ H1 F1 (R1.store hd hl) (Same.refl _)
end
end Ink

set_option Elab.async false
set_option maxRecDepth 100000
set_option autoImplicit false
set_option linter.unusedVariables false
/-! Ink6: built-in functions over data. -/
namespace Ink
open PySem PySem.Spec PyProof.Rows L2
section
variable {X : Cx} {p : Pm} {e a b c : Expr} {pos cp : Pos} {ma mb : Ex D}
/-- a built-in of one value -/
def BlR (X : Cx) (p : Pm) (f : Value) (g : D → Ex D) : Prop :=
  ∃ r : List V → Hp → VK → Prop, CallR X f r ∧ (∀ d, Fz (g d)) ∧ ∀ s σ H F v d Q, Rel (GX X p) p.H0 p.F0 s σ H F → rS (GX X p) H F v d → OutG (GX X p) p.H0 p.F0 p.W (rE (GX X p)) s σ H F Q (g d s) → r [v] H Q
theorem e_blt {id : String} {x : Str} {g : D → Ex D} (h : BlR X p (.builtin id) g) (hm : X.mg x = none) (hv : bootBuiltins x = some (.builtin id)) (ha : EV X p a ma) (hg : Gl X x := by rfl) (hn : x ≠ "__name__" := by decide) (hdb : (x == ("__debug__" : Str)) = false := by decide)
    (he : starEach [a] X.env = (false, eval a X.env) :: starEach [] X.env := by rfl) (hpl : (backTo pos (starEach [] X.env)).any (·.1) = false := by rfl) : EE X p (.Call (.Name x cp) [a] [] pos) (bnd ma g) := by
  obtain ⟨r, hc, hz, hr⟩ := h
  refine ⟨PE.weak (pe_callB hc hg hm hv (pa_cons ha.1 pa_nil he) hn hdb he hpl) fun σ H Q ⟨s, F, R, o⟩ => ?_, Fz.bnd ha.2 hz⟩
  exact bindK (r := rS (GX X p)) R o fun v H1 d s1 F1 R1 f1 g1 hd o1 _ => hr s1 σ H1 F1 v d Q R1 hd o1
theorem e_bty {T : String} {x : Str} {g : D → Ex D} (h : BlR X p (.type T) g) (hm : X.mg x = none) (hv : bootBuiltins x = some (.type T)) (ha : EV X p a ma) (hg : Gl X x := by rfl) (hn : x ≠ "__name__" := by decide) (hdb : (x == ("__debug__" : Str)) = false := by decide)
    (he : starEach [a] X.env = (false, eval a X.env) :: starEach [] X.env := by rfl) (hpl : (backTo pos (starEach [] X.env)).any (·.1) = false := by rfl) : EE X p (.Call (.Name x cp) [a] [] pos) (bnd ma g) := by
  obtain ⟨r, hc, hz, hr⟩ := h
  refine ⟨PE.weak (pe_callTy hc hg hm hv (pa_cons ha.1 pa_nil he) hn hdb he hpl) fun σ H Q ⟨s, F, R, o⟩ => ?_, Fz.bnd ha.2 hz⟩
  exact bindK (r := rS (GX X p)) R o fun v H1 d s1 F1 R1 f1 g1 hd o1 _ => hr s1 σ H1 F1 v d Q R1 hd o1
/-- of two values -/
def Bl2 (X : Cx) (p : Pm) (f : Value) (g : D → D → Ex D) : Prop :=
  ∃ r : List V → Hp → VK → Prop, CallR X f r ∧ (∀ d d', Fz (g d d')) ∧ ∀ s σ H F v v' d d' Q, Rel (GX X p) p.H0 p.F0 s σ H F → DR (GX X p) F v d → DR (GX X p) F v' d' → OutG (GX X p) p.H0 p.F0 p.W (rE (GX X p)) s σ H F Q (g d d' s) → r [v, v'] H Q
theorem e_blt2 {id : String} {x : Str} {g : D → D → Ex D} (h : Bl2 X p (.builtin id) g) (hm : X.mg x = none) (hv : bootBuiltins x = some (.builtin id)) (ha : EE X p a ma) (hb : EE X p b mb) (hg : Gl X x := by rfl) (hn : x ≠ "__name__" := by decide) (hdb : (x == ("__debug__" : Str)) = false := by decide)
    (he : starEach [a, b] X.env = (false, eval a X.env) :: starEach [b] X.env := by rfl) (he2 : starEach [b] X.env = (false, eval b X.env) :: starEach [] X.env := by rfl) (hpl : (backTo pos (starEach [b] X.env)).any (·.1) = false := by rfl) : EE X p (.Call (.Name x cp) [a, b] [] pos) (bnd ma fun d => bnd mb fun d' => g d d') := by
  obtain ⟨r, hc, hz, hr⟩ := h
  refine ⟨PE.weak (pe_callB hc hg hm hv (pa_cons ha.1 (pa_cons hb.1 pa_nil he2) he) hn hdb he hpl) fun σ H Q ⟨s, F, R, o⟩ => ?_, Fz.bnd ha.2 fun d => Fz.bnd hb.2 fun d' => hz d d'⟩
  refine bindK (r := rE (GX X p)) R o fun v H1 d s1 F1 R1 f1 g1 hd o1 _ => ?_
  exact bindK (r := rE (GX X p)) R1 o1 fun v' H2 d' s2 F2 R2 f2 g2 hd' o2 _ => hr s2 σ H2 F2 v v' d d' Q R2 (hd.mono f2) hd' o2

def gAbs : D → Option D
  | .int i => some (.int (if i < 0 then -i else i))
  | _ => none
theorem b_abs : BlR X p (.builtin "abs") (fun d => opt (gAbs d)) := ⟨_, call_abs, fun _ => Fz.opt, fun s σ H F v d Q R hd o => by
  obtain ⟨z, hz, o3⟩ := out_opt o
  cases d <;> first | (unfold gAbs at hz; cases hz; done) | skip
  cases hz
  cases hd.dr rfl
  exact ⟨_, rfl, R.here o3 (.int _)⟩⟩
def gInt : D → Option D
  | .int i => some (.int i)
  | .bl k => some (.int (if k then 1 else 0))
  | _ => none
theorem b_int : BlR X p (.type "int") (fun d => opt (gInt d)) := ⟨_, call_int1, fun _ => Fz.opt, fun s σ H F v d Q R hd o => by
  obtain ⟨z, hz, o3⟩ := out_opt o
  cases d <;> first | (unfold gInt at hz; cases hz; done) | skip
  · cases hz
    cases hd.dr rfl
    exact .inr ⟨_, rfl, R.here o3 (.int _)⟩
  · cases hz
    cases hd.dr rfl
    exact .inl ⟨_, rfl, R.here o3 (.int _)⟩⟩
def gLen : D → Option D
  | .lst xs => some (.int xs.length)
  | .tup xs => some (.int xs.length)
  | _ => none
theorem b_len : BlR X p (.builtin "len") (fun d => opt (gLen d)) := ⟨_, call_len_seq, fun _ => Fz.opt, fun s σ H F v d Q R hd o => by
  obtain ⟨z, hz, o3⟩ := out_opt o
  cases d <;> first | (unfold gLen at hz; cases hz; done) | skip
  · cases hz
    obtain ⟨a, vs, rfl, h1, h2⟩ := hd.lst R.le
    exact ⟨a, vs, rfl, .inl (SqL.of h1), R.here o3 (by rw [h2.len]; exact .int _)⟩
  · cases hz
    cases hd.dr rfl with
    | tup h1 h2 => exact ⟨_, _, rfl, .inr (same_seqT R.le h1), R.here o3 (by rw [h2.len]; exact .int _)⟩⟩
def gLst : D → Option D
  | .lst xs => some (.lst xs)
  | .tup xs => some (.lst xs)
  | _ => none
theorem b_list : BlR X p (.type "list") (fun d => opt (gLst d)) := ⟨_, call_list_of, fun _ => Fz.opt, fun s σ H F v d Q R hd o => by
  obtain ⟨z, hz, o3⟩ := out_opt o
  cases d <;> first | (unfold gLst at hz; cases hz; done) | skip
  · cases hz
    obtain ⟨a, vs, rfl, h1, h2⟩ := hd.lst R.le
    exact ⟨a, vs, rfl, .inl (SqL.of h1), fun q hq => R.new o3 hq (fun _ z => nomatch z) fun f => .lst upd_same (h2.mono f)⟩
  · cases hz
    cases hd.dr rfl with
    | tup h1 h2 => exact ⟨_, _, rfl, .inr (same_seqT R.le h1), fun q hq => R.new o3 hq (fun _ z => nomatch z) fun f => .lst upd_same (h2.mono f)⟩⟩
def gTpl : D → Option D
  | .lst xs => some (.tup xs)
  | .tup xs => some (.tup xs)
  | _ => none
theorem b_tuple : BlR X p (.type "tuple") (fun d => opt (gTpl d)) := ⟨_, call_tuple_of, fun _ => Fz.opt, fun s σ H F v d Q R hd o => by
  obtain ⟨z, hz, o3⟩ := out_opt o
  cases d <;> first | (unfold gTpl at hz; cases hz; done) | skip
  · cases hz
    obtain ⟨a, vs, rfl, h1, h2⟩ := hd.lst R.le
    exact ⟨a, vs, rfl, .inl ⟨SqL.of h1, fun q hq => R.new o3 hq (fun _ z => nomatch z) fun f => .tup (SqT.of upd_same) (h2.mono f)⟩⟩
  · cases hz
    cases hd.dr rfl with
    | tup h1 h2 => exact ⟨_, _, rfl, .inr ⟨same_seqT R.le h1, R.here o3 (.tup h1 h2)⟩⟩⟩
def blsOf : List D → Option (List Bool)
  | [] => some []
  | .bl b :: r => (blsOf r).map (b :: ·)
  | _ :: _ => none
theorem bls_dr {G : Gd} {F : Hp} : ∀ {vs : List V} {ds : List D} {bs : List Bool}, DRs G F vs ds → blsOf ds = some bs → vs = bs.map V.bl
  | _, [], _, .nil, h => by cases h; rfl
  | _, d :: ds, bs, .cons h t, e => by
    cases d <;> first | (unfold blsOf at e; cases e; done) | skip
    unfold blsOf at e
    cases q : blsOf ds with
    | none => rw [q] at e; cases e
    | some r =>
      rw [q] at e
      cases e
      cases h
      rw [bls_dr t q]; rfl
def gAny : D → Option D
  | .lst xs => (blsOf xs).map fun bs => .bl (bs.any id)
  | _ => none
def gAll : D → Option D
  | .lst xs => (blsOf xs).map fun bs => .bl (bs.all id)
  | _ => none
theorem b_any (hc : X.calm = true) : BlR X p (.builtin "any") (fun d => opt (gAny d)) := ⟨_, cr_any hc, fun _ => Fz.opt, fun s σ H F v d Q R hd o => by
  obtain ⟨z, hz, o3⟩ := out_opt o
  cases d <;> first | (unfold gAny at hz; cases hz; done) | skip
  obtain ⟨bs, hb, rfl⟩ := Option.map_eq_some_iff.mp hz
  obtain ⟨a, vs, rfl, h1, h2⟩ := hd.lst R.le
  cases bls_dr h2 hb
  exact ⟨a, bs, rfl, SqL.of h1, R.here o3 (.bl _)⟩⟩
theorem b_all (hc : X.calm = true) : BlR X p (.builtin "all") (fun d => opt (gAll d)) := ⟨_, cr_all hc, fun _ => Fz.opt, fun s σ H F v d Q R hd o => by
  obtain ⟨z, hz, o3⟩ := out_opt o
  cases d <;> first | (unfold gAll at hz; cases hz; done) | skip
  obtain ⟨bs, hb, rfl⟩ := Option.map_eq_some_iff.mp hz
  obtain ⟨a, vs, rfl, h1, h2⟩ := hd.lst R.le
  cases bls_dr h2 hb
  exact ⟨a, bs, rfl, SqL.of h1, R.here o3 (.bl _)⟩⟩
def gMin2 : D → D → Option D := gI fun i j => if j < i then j else i
def gMax2 : D → D → Option D := gI fun i j => if j > i then j else i
theorem b_min2 (hc : X.calm = true) : Bl2 X p (.builtin "min") (fun d d' => opt (gMin2 d d')) := ⟨_, call_min2 hc, fun _ _ => Fz.opt, fun s σ H F v v' d d' Q R hd hd' o => by
  obtain ⟨z, hz, o3⟩ := out_opt o
  cases d <;> cases d' <;> first | (unfold gMin2 gI at hz; cases hz; done) | skip
  cases hz
  cases hd
  cases hd'
  exact ⟨_, _, rfl, R.here o3 (.int _)⟩⟩
theorem b_max2 (hc : X.calm = true) : Bl2 X p (.builtin "max") (fun d d' => opt (gMax2 d d')) := ⟨_, call_max2 hc, fun _ _ => Fz.opt, fun s σ H F v v' d d' Q R hd hd' o => by
  obtain ⟨z, hz, o3⟩ := out_opt o
  cases d <;> cases d' <;> first | (unfold gMax2 gI at hz; cases hz; done) | skip
  cases hz
  cases hd
  cases hd'
  exact ⟨_, _, rfl, R.here o3 (.int _)⟩⟩
end
end Ink

set_option Elab.async false
set_option maxRecDepth 100000
set_option autoImplicit false
set_option linter.unusedVariables false
/-! Ink7: sorted, repr over data. -/
namespace Ink
open PySem PySem.Spec PyProof.Rows L2 PySem.W

def D.enc (d : D) : PyData := d.py.getD .none
theorem pys_map : ∀ {xs : List D} {ys : List PyData}, D.pys xs = some ys → ys = xs.map D.enc ∧ ∀ x ∈ xs, x.py = some x.enc
  | [], _, h => by unfold D.pys at h; cases h; exact ⟨rfl, fun _ h => nomatch h⟩
  | x :: xs, ys, h => by
    unfold D.pys at h
    cases e1 : x.py with
    | none => rw [e1] at h; cases h
    | some y =>
      cases e2 : D.pys xs with
      | none => rw [e1, e2] at h; cases h
      | some r =>
        rw [e1, e2] at h
        cases h
        obtain ⟨h1, h2⟩ := pys_map e2
        have e3 : x.enc = y := by unfold D.enc; rw [e1]; rfl
        refine ⟨by rw [h1, List.map_cons, e3], fun z hz => ?_⟩
        rcases List.mem_cons.mp hz with rfl | hz
        · rw [e3]; exact e1
        · exact h2 z hz

def tupNE : PyData → Bool
  | .tuple (_ :: _) => true
  | _ => false
def notTN : PyData → Bool
  | .tuple _ => false
  | .none => false
  | _ => true
def sortOk (ys : List PyData) : Bool := (ys.all fun d => ys.all fun e => alike d e) && (ys.all tupNE || ys.all notTN) && ys.all (fun d => decide (d.depth ≤ 64)) && decide (ys.length ≤ 16777216)
def sortD (xs : List D) : Option (List D) := match D.pys xs with
  | some ys => if sortOk ys = true then some (xs.mergeSort (dataLe false D.enc)) else none
  | none => none
theorem sortD_of {xs zs : List D} (h : sortD xs = some zs) : ∃ ys, D.pys xs = some ys ∧ sortOk ys = true ∧ zs = xs.mergeSort (dataLe false D.enc) := by
  unfold sortD at h
  split at h
  · rename_i ys e
    split at h
    · rename_i hs
      cases h
      exact ⟨ys, e, hs, rfl⟩
    · cases h
  · cases h
theorem sortable_of {ys : List PyData} (h : sortOk ys = true) : AllAlike ys ∧ Sortable ys ∧ (∀ d ∈ ys, d.depth ≤ 64) ∧ ys.length ≤ sizeLine := by
  unfold sortOk at h
  simp only [Bool.and_eq_true, Bool.or_eq_true, List.all_eq_true, decide_eq_true_eq] at h
  obtain ⟨⟨⟨h1, h2⟩, h3⟩, h4⟩ := h
  refine ⟨h1, ?_, h3, by rw [sizeLine_eq]; exact h4⟩
  rcases h2 with h2 | h2
  · refine .inl fun d hd => ?_
    have := h2 d hd
    unfold tupNE at this
    split at this
    · exact ⟨_, _, rfl⟩
    · cases this
  · refine .inr fun d hd => ?_
    have := h2 d hd
    unfold notTN at this
    split at this
    · cases this
    · cases this
    · rename_i h1 h2
      exact ⟨h2, h1⟩

section
variable {X : Cx} {p : Pm}
/-- values that stand for data -/
def StF (G : Gd) (F : Hp) (u : Value) (d : D) : Prop := ∃ v, RelV v u ∧ DR G F v d
theorem each_of {G : Gd} {F : Hp} : ∀ {vs : List V} {us : List Value} {ds : List D}, Vals vs us → DRs G F vs ds → EachIs (StF G F) us ds
  | _, _, _, .nil, .nil => .nil
  | _, _, _, .cons r t, .cons h s => .cons ⟨_, r, h⟩ (each_of t s)
theorem of_each {G : Gd} {F : Hp} : ∀ {us : List Value} {ds : List D}, EachIs (StF G F) us ds → ∃ vs, Vals vs us ∧ DRs G F vs ds
  | _, _, .nil => ⟨[], .nil, .nil⟩
  | _, _, .cons ⟨v, r, h⟩ t => by
    obtain ⟨vs, h1, h2⟩ := of_each t
    exact ⟨v :: vs, .cons r h1, .cons h h2⟩
theorem each_reads {pins : List (Addr × Obj)} {σ : L2.St} {H F : Hp} {s : Shared} {G : Gd} (I : Inv X pins σ H s) (hK : G.K = X.K) (le : Same F H) : ∀ {us : List Value} {ds : List D}, EachIs (StF G F) us ds → (∀ d ∈ ds, d.py = some d.enc) → EachIs (fun u d => ∃ as, Reads s.heap u d.enc as) us ds
  | _, _, .nil, _ => .nil
  | _, _, .cons ⟨v, r, h⟩ t, hp => .cons (Dp.reads I _ v _ (hK ▸ h.dp le (hp _ List.mem_cons_self)) r) (each_reads I hK le t fun d hd => hp d (List.mem_cons_of_mem _ hd))

def rSrt (G : Gd) : List V → Hp → VK → Prop := fun vs H Q => ∃ a xs F ds ys, vs = [.ref a] ∧ H a = some (.lst xs) ∧ Same F H ∧ DRs G F xs ds ∧ D.pys ds = some ys ∧ sortOk ys = true ∧
  ∀ ws q, DRs G F ws (ds.mergeSort (dataLe false D.enc)) → H q = none → Q (.ref q) (upd H q (.lst ws))
theorem cr_srt {k : Nat} {G : Gd} (hr : Room k X.A) (hK : G.K = X.K) : CallR X (.builtin "sorted") (rSrt G) := by
  intro pins s σ H vs us Q I r h
  obtain ⟨a, xs, F, ds, ys, rfl, ha, le, hd, hy, ho, q⟩ := h
  obtain ⟨u, rfl, ru⟩ := vals1 r
  obtain rfl : u = Value.ref a := ru
  obtain ⟨its, rv, hl, hz⟩ := I.list (SqL.of ha)
  obtain ⟨e1, e2⟩ := pys_map hy
  obtain ⟨s1, s2, s3, s4⟩ := sortable_of ho
  subst e1
  have hes := each_of rv hd
  refine sorted_data (R := StF G F) (enc := D.enc) (bs := ds) hl.isList hes (each_reads I hK le hes e2) s1 s2 (by rw [List.length_map] at s4; exact s4) (fun b hb => ?_) fun out hlen hout => ?_
  · have := s3 _ (List.mem_map.mpr ⟨b, hb, rfl⟩)
    have := hr.un
    omega
  · obtain ⟨ws, h1, h2⟩ := of_each hout
    obtain ⟨c, hc⟩ := sortedAll_at s.heap its out.toArray
    have hf : H (s.heap.objs.size + 1) = none := I.hok.fresh (Nat.le_succ _)
    refine ⟨.ref (s.heap.objs.size + 1), upd H (s.heap.objs.size + 1) (.lst ws), I.laid (t' := s.toks) (fun _ _ => sortedAll_old) (Nat.le_succ _) ⟨?_, out, c, h1, hc⟩, rfl, q ws _ h2 hf⟩
    rw [h1.length, hlen, ← hd.len]
    exact hz
def gSort : D → Option D
  | .lst xs => (sortD xs).map D.lst
  | _ => none
theorem b_sorted {k : Nat} (hr : Room k X.A) : BlR X p (.builtin "sorted") (fun d => opt (gSort d)) := ⟨_, cr_srt (G := GX X p) hr rfl, fun _ => Fz.opt, fun s σ H F v d Q R hd o => by
  obtain ⟨z, hz, o3⟩ := out_opt o
  cases d <;> first | (unfold gSort at hz; cases hz; done) | skip
  obtain ⟨zs, hs, rfl⟩ := Option.map_eq_some_iff.mp hz
  obtain ⟨ys, h1, h2, rfl⟩ := sortD_of hs
  obtain ⟨a, vs, rfl, h3, h4⟩ := hd.lst R.le
  exact ⟨a, vs, F, _, ys, rfl, h3, R.le, h4, h1, h2, fun ws q hw hq => R.new o3 hq (fun _ z => nomatch z) fun f => .lst upd_same (hw.mono f)⟩⟩

/-! ### repr of lists and tuples -/
def reprOk (q : PyData) : Bool := q.showable && SeqAt.shaped q && decide (q.shown.length ≤ sizeLine)
def gRepr (d : D) : Option D := match d with
  | .lst _ => match d.py with
    | some q => if reprOk q = true then some (.str q.shown) else none
    | none => none
  | .tup _ => match d.py with
    | some q => if reprOk q = true then some (.str q.shown) else none
    | none => none
  | _ => none
theorem gRepr_of {d z : D} (h : gRepr d = some z) : (d.isLst = true ∨ ∃ xs, d = .tup xs) ∧ ∃ q, d.py = some q ∧ reprOk q = true ∧ z = .str q.shown := by
  cases d <;> first | (cases h; done) | skip
  · unfold gRepr at h
    dsimp only at h
    split at h
    · rename_i q e
      split at h
      · rename_i hq; cases h; exact ⟨.inl rfl, q, e, hq, rfl⟩
      · cases h
    · cases h
  · unfold gRepr at h
    dsimp only at h
    split at h
    · rename_i q e
      split at h
      · rename_i hq; cases h; exact ⟨.inr ⟨_, rfl⟩, q, e, hq, rfl⟩
      · cases h
    · cases h
def rRepr (K : PySem.W.Frag) : List V → Hp → VK → Prop := fun vs H Q => ∃ a q, vs = [.ref a] ∧ Dp K H (.ref a) q ∧ reprOk q = true ∧ Q (.str q.shown) H
theorem cr_repr {k : Nat} (hr : Room k X.A) (hg : X.A.guards = some []) : CallR X (.builtin "repr") (rRepr X.K) := by
  intro pins s σ H vs us Q I r h
  obtain ⟨a, q, rfl, hd, ho, k⟩ := h
  obtain ⟨u, rfl, ru⟩ := vals1 r
  obtain ⟨as, hR⟩ := Dp.reads I q _ u hd ru
  obtain rfl : u = Value.ref a := ru
  unfold reprOk at ho
  simp only [Bool.and_eq_true, decide_eq_true_eq] at ho
  obtain ⟨⟨h1, h2⟩, h3⟩ := ho
  have h4 := SeqAt.depth_of_shaped h2
  have h5 := hr.un
  exact repr_of_reads' hR h1 (PyData.noDict_hsm (PyData.hasDict_of_canLay q (SeqAt.canLay_of_shaped h2))) hg (by omega) (fun _ _ e => e) (fun h' u tk kp => ⟨.str q.shown, H, I.kept kp, ⟨u, rfl⟩, k⟩) h3
theorem b_repr {k : Nat} (hr : Room k X.A) (hg : X.A.guards = some []) : BlR X p (.builtin "repr") (fun d => opt (gRepr d)) := ⟨_, cr_repr hr hg, fun _ => Fz.opt, fun s σ H F v d Q R hd o => by
  obtain ⟨z, hz, o3⟩ := out_opt o
  obtain ⟨h1, q, h2, h3, rfl⟩ := gRepr_of hz
  have h4 := rS.dp R.le hd h2
  have : ∃ a, v = .ref a := by
    rcases h1 with h1 | ⟨xs, rfl⟩
    · cases d <;> first | (cases h1; done) | skip
      obtain ⟨a, _, e, _⟩ := hd.lst R.le
      exact ⟨a, e⟩
    · cases hd.dr rfl with
      | tup _ _ => exact ⟨_, rfl⟩
  obtain ⟨a, rfl⟩ := this
  exact ⟨a, q, rfl, h4, h3, R.here o3 (.str _)⟩⟩
end
end Ink

set_option Elab.async false
set_option maxRecDepth 100000
set_option autoImplicit false
set_option linter.unusedVariables false
/-! Ink8: a frame's own lists: laid, written anew, in pairs. -/
namespace Ink
open PySem PySem.Spec PyProof.Rows L2

section
variable {G : Gd} {H0 F0 : Hp} {s : AS} {σ : L2.St} {H F : Hp}
theorem SlR.ownAddr {x : SV} {y : Option (Option V)} (h : SlR G H0 H F y x) (o : ownAt x = true) : ∃ a u, y = some (some (.ref a)) ∧ H a = some u ∧ F a = none ∧ fr H0 a ∧ ¬ isTab u := by
  cases x with
  | no => cases o
  | dat _ => cases o
  | own _ => obtain ⟨a, vs, e, h1, h2, h3, _⟩ := h; exact ⟨a, _, e, h1, h2, h3, tab_lst⟩
  | owk _ => obtain ⟨a, vs, e, h1, h2, h3, _⟩ := h; exact ⟨a, _, e, h1, h2, h3, tab_dK⟩
  | owt _ => obtain ⟨a, vs, e, h1, h2, h3, _⟩ := h; exact ⟨a, _, e, h1, h2, h3, tab_dT⟩
theorem Rel.noslot {p : Addr} (R : Rel G H0 F0 s σ H F) (h : fr H p) : ∀ (i : Nat) (x : SV), s.sl[i]? = some x → ownAt x = true → σ[i]? ≠ some (some (.ref p)) := fun i x e o z => by
  obtain ⟨a, u, e1, h1, _, _, nt⟩ := (R.slot i x e).ownAddr o
  rw [z] at e1; cases e1; exact h.no h1 (fun ps q => nt (.inl ⟨ps, q⟩))
/-- what a slot owns is written anew -/
theorem Rel.put {i : Nat} {x y : SV} {a : Addr} {o u : HO} (R : Rel G H0 F0 s σ H F) (hi : s.sl[i]? = some x) (ox : ownAt x = true) (hσ : σ[i]? = some (some (.ref a))) (hH : H a = some u) (hu : ¬ isTab u) (hF : F a = none) (h0 : fr H0 a)
    (hy : SlR G H0 (upd H a o) F (some (some (.ref a))) y) : Rel G H0 F0 (setSl i y s) σ (upd H a o) F where
  le := fun b w h => by
    have : b ≠ a := fun e => by subst e; rw [hF] at h; cases h
    rw [upd_ne this]; exact R.le b w h
  base := R.base
  newF := R.newF
  grow := R.grow.upd h0 (fun w h => by rw [hH] at h; cases h; exact hu)
  bag := by
    obtain ⟨h1, h2, h3, h4⟩ := R.bag
    have n1 : G.b1 ≠ a := fun e => R.bag0.1 (by rw [e]; exact h0)
    have n2 : G.b2 ≠ a := fun e => R.bag0.2 (by rw [e]; exact h0)
    exact ⟨by rw [upd_ne n1]; exact h1, by rw [upd_ne n2]; exact h2, h3, h4⟩
  len := by
    show (s.sl.set i _).length = _
    rw [List.length_set]; exact R.len
  slot := fun j z e => by
    have e' : (s.sl.set i y)[j]? = some z := e
    by_cases hj : i = j
    · subst hj
      rw [List.getElem?_set_self ((List.getElem?_eq_some_iff.mp hi).1)] at e'
      cases e'
      rw [hσ]; exact hy
    · rw [List.getElem?_set_ne hj] at e'
      refine (R.slot j z e').laid (Same.refl _) (fun _ _ h _ _ => h) fun b w h _ oz ez => ?_
      have : b ≠ a := fun e2 => hj (R.dist i j x z a hi e' ox oz hσ (by rw [ez, e2]))
      rw [upd_ne this]; exact h
  dist := fun j k z w b hz hw oz ow h1 h2 => by
    have back : ∀ {j : Nat} {z : SV}, (s.sl.set i y)[j]? = some z → ownAt z = true → ∃ z', s.sl[j]? = some z' ∧ ownAt z' = true := fun {j z} h o => by
      by_cases hj : i = j
      · subst hj; exact ⟨x, hi, ox⟩
      · rw [List.getElem?_set_ne hj] at h; exact ⟨z, h, o⟩
    obtain ⟨z', e1, o1⟩ := back hz oz
    obtain ⟨w', e2, o2⟩ := back hw ow
    exact R.dist j k z' w' b e1 e2 o1 o2 h1 h2
  notbl := R.notbl
  bag0 := R.bag0
  kept := fun b h => by
    by_cases e : b = a
    · subst e; exact h0
    · exact R.kept b (fr_upd h e)
/-- a slot is stored, own or not -/
theorem Rel.storeX {i : Nat} {v : V} {x : SV} (R : Rel G H0 F0 s σ H F) (h : SlR G H0 H F (some (some v)) x) (hn : ownAt x = true → ∀ (j : Nat) (y : SV), s.sl[j]? = some y → ownAt y = true → σ[j]? ≠ some (some v)) (hi : i < σ.length) : Rel G H0 F0 (setSl i x s) (σ.set i (some v)) H F where
  le := R.le
  base := R.base
  newF := R.newF
  grow := R.grow
  bag := R.bag
  len := by
    show (s.sl.set i _).length = _
    rw [List.length_set, List.length_set]; exact R.len
  slot := fun j y e => by
    have e' : (s.sl.set i x)[j]? = some y := e
    by_cases hj : i = j
    · subst hj
      rw [List.getElem?_set_self (by rw [R.len]; exact hi)] at e'
      cases e'
      rw [List.getElem?_set_self hi]; exact h
    · rw [List.getElem?_set_ne hj] at e' ⊢
      exact R.slot j y e'
  dist := fun j k y z b hy hz oy oz h1 h2 => by
    have hy' : (s.sl.set i x)[j]? = some y := hy
    have hz' : (s.sl.set i x)[k]? = some z := hz
    have hlt : i < s.sl.length := by rw [R.len]; exact hi
    by_cases hj : i = j
    · by_cases hk : i = k
      · rw [← hj, ← hk]
      · subst hj
        rw [List.getElem?_set_self hlt] at hy'
        cases hy'
        rw [List.getElem?_set_self hi] at h1
        cases h1
        rw [List.getElem?_set_ne hk] at hz' h2
        exact absurd h2 (hn oy k z hz' oz)
    · by_cases hk : i = k
      · subst hk
        rw [List.getElem?_set_self hlt] at hz'
        cases hz'
        rw [List.getElem?_set_self hi] at h2
        cases h2
        rw [List.getElem?_set_ne hj] at hy' h1
        exact absurd h1 (hn oz j y hy' oy)
      · rw [List.getElem?_set_ne hj] at hy' h1
        rw [List.getElem?_set_ne hk] at hz' h2
        exact R.dist j k y z b hy' hz' oy oz h1 h2
  notbl := R.notbl
  bag0 := R.bag0
  kept := R.kept
end

/-- a value to be stored: known for good, or new and no one's -/
def rN (G : Gd) (H0 Hs : Hp) : Hp → Hp → V → SV → Prop := fun H F v x => SlR G H0 H F (some (some v)) x ∧ (ownAt x = true → ∃ a, v = .ref a ∧ fr Hs a)
def EM (X : Cx) (p : Pm) (e : Expr) (m : Ex SV) : Prop := PE X e (fun σ H Q => tG (GX X p) p.H0 p.F0 p.W (rN (GX X p) p.H0 H) m σ H Q) ∧ Fz m
section
variable {X : Cx} {p : Pm} {e a b c : Expr} {es : List Expr} {st : Stmt} {sts body : List Stmt} {pos tp : Pos} {ma mb : Ex D} {m : Ex Fl} {vs : List Nat}
def mDat (m : Ex D) : Ex SV := bnd m fun d => ret (.dat d)
def mOwn (ms : List (Ex D)) : Ex SV := bnd (seqM ms) fun ds => ret (.own ds)
theorem m_dat (h : EE X p e ma) : EM X p e (mDat ma) := by
  refine ⟨PE.weak h.1 fun σ H Q ⟨s, F, R, o⟩ => ?_, Fz.bnd h.2 fun _ => Fz.ret⟩
  exact bindK (r := rE (GX X p)) R o fun v H1 d s1 F1 R1 f1 g1 hd o1 _ => R1.here o1 ⟨⟨v, rfl, hd⟩, fun z => nomatch z⟩
theorem m_own {ms : List (Ex D)} (h : EA X p es (seqM ms)) (hl : ms.length ≤ 1000 := by decide) : EM X p (.List es pos) (mOwn ms) := by
  refine ⟨?_, Fz.bnd h.2 fun _ => Fz.ret⟩
  refine PE.weak (pe_lst h.1) fun σ H Q ⟨s, F, R, o⟩ => ?_
  refine bindK (r := rA (GX X p)) R o fun vs H1 ds s1 F1 R1 f1 g1 hds o1 e1 => ?_
  have hn : vs.length ≤ 1000 := by rw [hds.len, seqM_len e1.1]; exact hl
  refine ⟨small_len hn, fun q hq => ?_⟩
  have hF : F1 q = none := by
    cases e : F1 q with
    | none => rfl
    | some u => rw [R1.le _ _ e] at hq; cases hq
  have no : ∀ u, H1 q = some u → ¬ isTab u := fun u h => by rw [hq] at h; cases h
  refine o1 _ _ F1 (R1.side hF (R1.kept q (fr_none hq)) no (R1.noslot (fr_none hq))) ⟨Same.refl _, (Grow.refl _ _).upd (fr_none hq) no, fun a h => ?_, OwnLe.refl _, fun _ _ h => .inl h⟩ ⟨⟨q, vs, rfl, upd_same, hF, R1.kept q (fr_none hq), hds⟩, fun _ => ⟨q, rfl, e1.2.kept q (fr_none hq)⟩⟩
  by_cases e : a = q
  · rw [e]; exact fr_none hq
  · exact fr_upd h e
/-- name = e, own or not -/
def sPut (i : Nat) (m : Ex SV) : Ex Fl := bnd m fun x s => .ok .nx (setSl i x s)
theorem free_of {s s1 : AS} {σ : L2.St} {H F H1 F1 : Hp} {v : V} {x : SV} {G : Gd} {H0 F0 : Hp} (R : Rel G H0 F0 s σ H F) (z : OwnLe s1 s) (h : rN G H0 H H1 F1 v x) : ownAt x = true → ∀ (j : Nat) (y : SV), s1.sl[j]? = some y → ownAt y = true → σ[j]? ≠ some (some v) := fun ox j y hy oy e => by
  obtain ⟨a, rfl, ha⟩ := h.2 ox
  obtain ⟨y', hy', oy'⟩ := z j y hy oy
  exact R.noslot ha j y' hy' oy' e
theorem s_put (i : Nat) {x : Str} {pos' : Pos} {mx : Ex SV} (hN : X.N.Nodup) (he : EM X p e mx) (hi : X.N[i]? = some x := by rfl) (hx : Loc X.env.scope x := by first | exact Or.inl rfl | exact Or.inr rfl) (hs : swapsWith e (some (.Name x pos')) pos.line X.env = pure false := by rfl)
    (hf : X.fn x = true ∨ X.env.scope.names.lookup x = some .local := by first | exact .inl rfl | exact .inr rfl) : ES X p (.Assign [.Name x pos'] e pos) (sPut i mx) := by
  refine ⟨fun pins s σ H E I ⟨as, F, R, o⟩ => (ps_set hN hi hx he.1 hs hf).run pins s σ H E I ?_⟩
  have hl : i < σ.length := by rw [I.len]; exact (List.getElem?_eq_some_iff.mp hi).1
  refine bindS (r := rN (GX X p) p.H0 H) R o fun v H1 d s1 F1 R1 f1 g1 hd o1 e1 => ?_
  exact o1 _ H1 F1 (R1.storeX hd.1 (free_of R e1.2.own hd) hl) (Same.refl _)
/-- a, b = x, y -/
def sPar (i j : Nat) (m m' : Ex SV) : Ex Fl := bnd m fun x => bnd m' fun y s => .ok .nx (setSl j y (setSl i x s))
theorem rN.later {G : Gd} {H0 F0 Hs H F H' F' : Hp} {s s' : AS} {σ : L2.St} {v : V} {x : SV} (h : rN G H0 Hs H F v x) (R : Rel G H0 F0 s σ H F) (R' : Rel G H0 F0 s' σ H' F') (z : Stp G σ s H F s' H' F') (hn : ownAt x = true → ∀ (j : Nat) (y : SV), s.sl[j]? = some y → ownAt y = true → σ[j]? ≠ some (some v)) (ho : ∀ ds, x = .own ds ∨ ∃ d, x = .dat d ∨ ownAt x = false) : True := trivial
def isDO : SV → Bool
  | .dat _ => true
  | .own _ => true
  | _ => false
theorem SlR.later {G : Gd} {H0 F0 H F H' F' : Hp} {s s' : AS} {σ : L2.St} {v : V} {x : SV} (h : SlR G H0 H F (some (some v)) x) (hk : isDO x = true) (R : Rel G H0 F0 s σ H F) (R' : Rel G H0 F0 s' σ H' F') (z : Stp G σ s H F s' H' F') (hn : ownAt x = true → ∀ (j : Nat) (y : SV), s.sl[j]? = some y → ownAt y = true → σ[j]? ≠ some (some v)) :
    SlR G H0 H' F' (some (some v)) x := by
  cases x with
  | dat d => obtain ⟨w, e, h⟩ := h; exact ⟨w, e, h.mono z.same⟩
  | own ds =>
    obtain ⟨a, ws, e, h1, h2, h3, h4⟩ := h
    cases e
    have n1 : a ≠ G.b1 := fun e => R.bag0.1 (by rw [← e]; exact h3)
    have n2 : a ≠ G.b2 := fun e => R.bag0.2 (by rw [← e]; exact h3)
    have h1' := z.grow.ext a _ h1 n1 n2 (fun _ z => nomatch z)
    exact ⟨a, ws, rfl, h1', z.hid h1 h2 R'.le h1' (hn rfl), h3, h4.mono z.same⟩
  | _ => cases hk
theorem s_par (i j : Nat) {x y : Str} {px py pt : Pos} {kt k2 pt2} {mx my : Ex SV} (hc : X.calm = true) (hN : X.N.Nodup) (ha : EM X p a mx) (hb : EM X p b my) (hd : ∀ s x s', mx s = .ok x s' → isDO x = true) (hij : i ≠ j := by decide) (hi : X.N[i]? = some x := by rfl) (hj : X.N[j]? = some y := by rfl)
    (hx : X.env.scope.names.lookup x = some .local := by rfl) (hy : X.env.scope.names.lookup y = some .local := by rfl)
    (hw : swappedStores [.Tuple [.Name x px, .Name y py] kt pt] (.Tuple [a, b] k2 pt2) X.env = pure (some [x, y]) := by rfl)
    (hs : swapsWithSole [.Tuple [.Name x px, .Name y py] kt pt] (.Tuple [a, b] k2 pt2) pos.line X.env = pure false := by rfl)
    (h1 : starEach [a, b] X.env = (false, eval a X.env) :: starEach [b] X.env := by rfl) (h2 : starEach [b] X.env = [(false, eval b X.env)] := by rfl) :
    ES X p (.Assign [.Tuple [.Name x px, .Name y py] kt pt] (.Tuple [a, b] k2 pt2) pos) (sPar i j mx my) := by
  refine ⟨fun pins s σ H E I ⟨as, F, R, o⟩ => (ps_par hc hN hi hj hij hx hy (pa_cons ha.1 (pa_cons hb.1 pa_nil h2) h1) hw hs).run pins s σ H E I ?_⟩
  have hl : i < σ.length := by rw [I.len]; exact (List.getElem?_eq_some_iff.mp hi).1
  have hl' : j < σ.length := by rw [I.len]; exact (List.getElem?_eq_some_iff.mp hj).1
  refine bindS (r := rN (GX X p) p.H0 H) R o fun v H1 x s1 F1 R1 f1 g1 hv o1 e1 => ?_
  refine bindS (r := rN (GX X p) p.H0 H1) R1 o1 fun w H2 y s2 F2 R2 f2 g2 hw o2 e2 => ?_
  refine ⟨v, w, rfl, ?_⟩
  have fr1 := free_of R e1.2.own hv
  have fr1' := free_of R (e2.2.own.trans e1.2.own) hv
  have fr2 := free_of R1 e2.2.own hw
  have hv2 := hv.1.later (hd _ _ _ e1.1) R1 R2 e2.2 fr1
  have Ra := R2.storeX (i := i) hv2 fr1' hl
  refine o2 _ H2 F2 (Ra.storeX hw.1 (fun oy k z hz oz e => ?_) (by rw [List.length_set]; exact hl')) (Same.refl _)
  have hz' : (s2.sl.set i x)[k]? = some z := hz
  by_cases hk : i = k
  · subst hk
    have hlt : i < s2.sl.length := by rw [R2.len]; exact hl
    rw [List.getElem?_set_self hlt] at hz'
    cases hz'
    rw [List.getElem?_set_self hl] at e
    cases e
    obtain ⟨q, rfl, hq⟩ := hw.2 oy
    obtain ⟨a', u, ee, h1, _, _, nt⟩ := hv.1.ownAddr oz
    cases ee
    exact hq.no h1 (fun ps q => nt (.inl ⟨ps, q⟩))
  · rw [List.getElem?_set_ne hk] at hz' e
    exact fr2 oy k z hz' oz e
theorem do_dat {m : Ex D} : ∀ s x s', mDat m s = .ok x s' → isDO x = true := fun s x s' h => by
  unfold mDat bnd at h
  split at h <;> cases h
  rfl
theorem do_own {ms : List (Ex D)} : ∀ s x s', mOwn ms s = .ok x s' → isDO x = true := fun s x s' h => by
  unfold mOwn bnd at h
  split at h <;> cases h
  rfl
/-- a, b, c = x, y, z, all known for good -/
def sPar3 (i j k : Nat) (ms : List (Ex D)) : Ex Fl := bnd (seqM ms) fun ds s => match ds with
  | [x, y, z] => .ok .nx (setSl k (.dat z) (setSl j (.dat y) (setSl i (.dat x) s)))
  | _ => .bad
theorem s_par3 (i j l : Nat) {x y z : Str} {px py pz pt : Pos} {kt k2 pt2} {ms : List (Ex D)} (hc : X.calm = true) (hN : X.N.Nodup) (ha : EA X p [a, b, c] (seqM ms)) (hij : i ≠ j := by decide) (hil : i ≠ l := by decide) (hjl : j ≠ l := by decide) (hi : X.N[i]? = some x := by rfl) (hj : X.N[j]? = some y := by rfl) (hl : X.N[l]? = some z := by rfl)
    (hx : X.env.scope.names.lookup x = some .local := by rfl) (hy : X.env.scope.names.lookup y = some .local := by rfl) (hz : X.env.scope.names.lookup z = some .local := by rfl)
    (hw : swappedStores [.Tuple [.Name x px, .Name y py, .Name z pz] kt pt] (.Tuple [a, b, c] k2 pt2) X.env = pure (some [x, y, z]) := by rfl)
    (hs : swapsWithSole [.Tuple [.Name x px, .Name y py, .Name z pz] kt pt] (.Tuple [a, b, c] k2 pt2) pos.line X.env = pure false := by rfl) :
    ES X p (.Assign [.Tuple [.Name x px, .Name y py, .Name z pz] kt pt] (.Tuple [a, b, c] k2 pt2) pos) (sPar3 i j l ms) := by
  refine ⟨fun pins s σ H E I ⟨as, F, R, o⟩ => (ps_par3 hc hN hi hj hl hij hil hjl hx hy hz ha.1 hw hs).run pins s σ H E I ?_⟩
  have h1 : i < σ.length := by rw [I.len]; exact (List.getElem?_eq_some_iff.mp hi).1
  have h2 : j < σ.length := by rw [I.len]; exact (List.getElem?_eq_some_iff.mp hj).1
  have h3 : l < σ.length := by rw [I.len]; exact (List.getElem?_eq_some_iff.mp hl).1
  refine bindS (r := rA (GX X p)) R o fun vs H1 ds s1 F1 R1 f1 g1 hv o1 e1 => ?_
  cases hv with
  | nil => exact o1.elim
  | cons q1 t1 =>
    cases t1 with
    | nil => exact o1.elim
    | cons q2 t2 =>
      cases t2 with
      | nil => exact o1.elim
      | cons q3 t3 =>
        cases t3 with
        | cons _ _ => exact o1.elim
        | nil => exact ⟨_, _, _, rfl, o1 _ H1 F1 (((R1.store q1 h1).store q2 (by rw [List.length_set]; exact h2)).store q3 (by rw [List.length_set, List.length_set]; exact h3)) (Same.refl _)⟩

/-! ### an own list is written anew -/
def sMut (i : Nat) (ms : List (Ex D)) (u : List D → List D → Option (List D)) : Ex Fl := fun s => match s.sl[i]? with
  | some (.own _) => bnd (seqM ms) (fun ds s => match s.sl[i]? with
    | some (.own xs) => match u xs ds with
      | some ys => .ok .nx (setSl i (.own ys) s)
      | none => .bad
    | _ => .bad) s
  | _ => .bad
def uApp (xs : List D) : List D → Option (List D)
  | [d] => if xs.length < sizeLine then some (xs ++ [d]) else none
  | _ => none
def uExt (xs : List D) : List D → Option (List D)
  | [.lst ys] => if xs.length + ys.length ≤ sizeLine then some (xs ++ ys) else none
  | _ => none
def uIns (xs : List D) : List D → Option (List D)
  | [.int i, d] => if xs.length < sizeLine ∧ 0 ≤ i ∧ i < 2 ^ 63 then some (xs.take i.toNat ++ [d] ++ xs.drop i.toNat) else none
  | _ => none
/-- what a method makes of an own list -/
def MutR (X : Cx) (p : Pm) (r : V → List V → Hp → VK → Prop) (u : List D → List D → Option (List D)) : Prop :=
  ∀ (a : Addr) (ws vs : List V) (xs ds ys : List D) (H F : Hp) (Q : VK), H a = some (.lst ws) → DRs (GX X p) F ws xs → DRs (GX X p) F vs ds → Same F H → u xs ds = some ys → (∀ ws', DRs (GX X p) F ws' ys → Q .non (upd H a (.lst ws'))) → r (.ref a) vs H Q
theorem mut_app : MutR X p rAppend uApp := fun a ws vs xs ds ys H F Q hH hx hd le hu k => by
  unfold uApp at hu
  split at hu
  · split at hu <;> cases hu
    rename_i hz
    cases hd with
    | cons h t => cases t; exact ⟨a, ws, _, rfl, rfl, hH, by rw [hx.len]; exact hz, k _ (hx.app (.cons h .nil))⟩
  · cases hu
theorem mut_ext : MutR X p rExtend uExt := fun a ws vs xs ds ys H F Q hH hx hd le hu k => by
  unfold uExt at hu
  split at hu
  · split at hu <;> cases hu
    rename_i hz
    cases hd with
    | cons h t =>
      cases t
      cases h with
      | lst h1 h2 => exact ⟨a, _, ws, _, rfl, rfl, hH, le _ _ h1, by rw [hx.len, h2.len]; exact hz, k _ (hx.app h2)⟩
  · cases hu
theorem s_mut (i : Nat) {x name : Str} {id : String} {r : V → List V → Hp → VK → Prop} {u : List D → List D → Option (List D)} {p1 p2 cpos : Pos} {ms : List (Ex D)} (hm : MtR X id r) (hr : MutR X p r u) (slot : Slot "list" name id) (hty : typeOf (.builtin id) = pure (.type "method_descriptor")) (ha : EA X p (e :: es) (seqM ms))
    (hN : X.N[i]? = some x := by rfl) (hv : Vis X.env.scope x := by first | exact Or.inl rfl | exact Or.inr (Or.inl rfl) | exact Or.inr (Or.inr rfl)) (hd : (x == ("__debug__" : Str)) = false := by decide)
    (hcd : (x == ("__classdict__" : Str)) = false := by decide) (hbase : attributeBase (.Name x p1) name X.env (eval (.Name x p1) X.env) = eval (.Name x p1) X.env := by rfl)
    (hfew : ((backTo cpos (starEach (e :: es) X.env)).all (fun x => !x.1) && (backToKw cpos (keywordEach [] X.env)).all (fun x => x.1.isSome)
      && decide ((e :: es).length + ([] : List Keyword).length + (if ([] : List Keyword).isEmpty then 0 else 1) < 30)) = true := by rfl)
    (hline : (p2.endLine == cpos.line) = true := by rfl) (hs : starEach (e :: es) X.env = (false, eval e X.env) :: starEach es X.env := by rfl) (hplain : (backTo cpos (starEach es X.env)).any (·.1) = false := by rfl)
    (hsw : swapsWith (.Call (.Attribute (.Name x p1) name p2) (e :: es) [] cpos) none pos.line X.env = pure false := by rfl) :
    ES X p (.Expr (.Call (.Attribute (.Name x p1) name p2) (e :: es) [] cpos) pos) (sMut i ms u) := by
  refine PS.weak (ps_expr (pe_bm F.plainAttrs_list slot hty hm (pe_var (i := i) hN hv hd hcd) ha.1 hbase hfew hline hs hplain) hsw) fun E σ H ⟨s, F, R, o⟩ => ?_
  unfold sMut at o
  cases q : s.sl[i]? with
  | none => rw [q] at o; exact o.elim
  | some x0 =>
    rw [q] at o
    cases x0 with
    | own xs0 =>
      dsimp only at o
      obtain ⟨a, ws, e, h1, h2, h3, h4⟩ := R.slot i _ q
      refine ⟨.ref a, e, Or.inl ⟨rfl, _, Or.inl (Or.inl h1)⟩, ?_⟩
      refine bindS (r := rA (GX X p)) R o fun vs H1 ds s1 F1 R1 f1 g1 hds o1 e1 => ?_
      cases q1 : s1.sl[i]? with
      | none => rw [q1] at o1; exact o1.elim
      | some x1 =>
        rw [q1] at o1
        cases x1 with
        | own xs =>
          dsimp only at o1
          obtain ⟨a', ws', e', k1, k2, k3, k4⟩ := R1.slot i _ q1
          rw [e] at e'
          cases e'
          cases q2 : u xs ds with
          | none => rw [q2] at o1; exact o1.elim
          | some ys =>
            rw [q2] at o1
            exact hr a ws' vs xs ds ys H1 F1 _ k1 k4 hds R1.le q2 fun ws2 hw => o1 σ _ F1 (R1.put (y := .own ys) q1 rfl e k1 tab_lst k2 k3 ⟨a, ws2, rfl, upd_same, k2, k3, hw⟩) (Same.refl _)
        | _ => exact o1.elim
    | _ => exact o.elim
abbrev rIns : V → List V → Hp → VK → Prop := fun x vs H Q => ∃ (l : Addr) (xs : List V) (i : Int) (y : V), x = .ref l ∧ vs = [.int i, y] ∧ H l = some (.lst xs) ∧ xs.length < sizeLine ∧ 0 ≤ i ∧ i < 2 ^ 63 ∧ Q .non (upd H l (.lst (xs.take i.toNat ++ [y] ++ xs.drop i.toNat)))
theorem mut_ins : MutR X p rIns uIns := fun a ws vs xs ds ys H F Q hH hx hd le hu k => by
  unfold uIns at hu
  split at hu
  · split at hu <;> cases hu
    rename_i hz
    cases hd with
    | cons h t =>
      cases t with
      | cons h' t' =>
        cases t'
        cases h
        exact ⟨a, ws, _, _, rfl, rfl, hH, by rw [hx.len]; exact hz.1, hz.2.1, hz.2.2, k _ (((hx.take _).app (.cons h' .nil)).app (hx.drop _))⟩
  · cases hu
end
end Ink

set_option Elab.async false
set_option maxRecDepth 100000
set_option autoImplicit false
set_option linter.unusedVariables false
/-! Ink9: globals, isinstance, min of two, dict displays, walks over texts and pairs, raise, lambdas heard. -/
namespace Ink
open PySem PySem.Spec PyProof.Rows L2 PySem.W

section
variable {X : Cx} {p : Pm} {e a b c : Expr} {es : List Expr} {st : Stmt} {sts body : List Stmt} {pos tp : Pos} {ma mb : Ex D} {m : Ex Fl} {vs : List Nat}

/-! ### globals -/
theorem e_glob {x : Str} {d : D} {q : Addr} (hm : X.mg x = some (.ref q)) (hd : ∀ F : Hp, DR (GX X p) F (.ref q) d) (hg : Gl X x := by rfl) (hdb : (x == ("__debug__" : Str)) = false := by decide) : EE X p (.Name x pos) (ret d) :=
  ⟨PE.weak (pe_glob hg hm (v := .ref q) rfl hdb) fun σ H Q ⟨s, F, R, o'⟩ => R.here o' (hd F), Fz.ret⟩

/-! ### isinstance -/
def tyN : D → Option String
  | .non => some "NoneType"
  | .bl _ => some "bool"
  | .int _ => some "int"
  | .str _ => some "str"
  | .lst _ => some "list"
  | .tup _ => some "tuple"
  | _ => none
theorem tyX_of {G : Gd} {H F : Hp} {v : V} {d : D} {t : String} (le : Same F H) (h : rS G H F v d) (e : tyN d = some t) : TyX G.K H v (.type t) := by
  cases d <;> first | (cases e; done) | skip
  all_goals cases e
  · cases h.dr rfl; exact .base .non
  · cases h.dr rfl; exact .base (.bl _)
  · cases h.dr rfl; exact .base (.int _)
  · cases h.dr rfl; exact .base (.str _)
  · obtain ⟨a, vs, rfl, h1, _⟩ := h.lst le
    exact .base (.lst h1)
  · cases h.dr rfl with
    | tup h1 _ =>
      rcases same_seqT le h1 with (h | ⟨o, h⟩) | ⟨o, its, n, hk, hcl, _⟩
      · exact .base (.tup h)
      · exact .fTuple h
      · exact .kTuple hk hcl
def gIsi (T : String) (d : D) : Option D := (tyN d).bind fun t => (kitB t T).map D.bl
theorem e_isi {T : String} {y : Str} {p1 p2 : Pos} (hT : bootBuiltins y = some (.type T)) (hmy : X.mg y = none) (hm : X.mg "isinstance" = none) (ha : EV X p a ma) (hg : Gl X "isinstance" := by rfl) (hgy : Gl X y := by rfl) (hny : y ≠ "__name__" := by decide) (hdby : (y == ("__debug__" : Str)) = false := by decide)
    (hs : starEach [a, .Name y p2] X.env = (false, eval a X.env) :: starEach [.Name y p2] X.env := by rfl) (hs2 : starEach [.Name y p2] X.env = [(false, eval (.Name y p2) X.env)] := by rfl) (hpl : (backTo pos (starEach [.Name y p2] X.env)).any (·.1) = false := by rfl) :
    EE X p (.Call (.Name "isinstance" p1) [a, .Name y p2] [] pos) (bnd ma fun d => opt (gIsi T d)) := by
  refine ⟨?_, Fz.bnd ha.2 fun _ => Fz.opt⟩
  refine PE.weak (pe_callB call_isi hg hm boot_isinstance (pa_cons ha.1 (pa_cons (pe_bltn hgy hmy hT (v := .ty T) rfl hny hdby) pa_nil hs2) hs) (by decide) (by decide) hs hpl) fun σ H Q ⟨s, F, R, o⟩ => ?_
  refine bindK (r := rS (GX X p)) R o fun v H1 d s1 F1 R1 f1 g1 hd o1 _ => ?_
  obtain ⟨z, hz, o3⟩ := out_opt o1
  unfold gIsi at hz
  obtain ⟨t, h1, h2⟩ := Option.bind_eq_some_iff.mp hz
  obtain ⟨r, h3, rfl⟩ := Option.map_eq_some_iff.mp h2
  exact ⟨v, .ty T, .type t, .type T, r, rfl, .ty T, tyX_of R1.le hd h1, kit_ty h3, R1.here o3 (.bl _)⟩

/-! ### min of two things -/
theorem call_min_pair {prog : Program} {w : World} {A : Around} {E : Value → Shared → Prop} {s : Shared} {u v : Value} {x y : PyData} {as bs : List Addr} {Q : Value → Shared → Prop} (hh : A.handled = none) (r1 : Reads s.heap u x as) (r2 : Reads s.heap v y bs)
    (ha : alike x y = true ∧ alike y x = true ∧ alike x x = true ∧ alike y y = true) (hn : x ≠ .none ∧ y ≠ .none) (hu : A.units + 1 + (max x.depth y.depth) < cLine)
    (h : ∀ h' tk, (∀ b o, s.heap.get? b = some o → h'.get? b = some o) → Q (if dataLt y x = true then v else u) { s with heap := h', toks := tk }) : wpAny (model prog w) A (call (.builtin "min") [u, v]) Q E s := by
  have hname : (toString "min" ++ toString ".loop" : String) = "min.loop" := by decide
  refine call_function_tree F.kind_min F.plain_min F.entry_min (F.args_min2 _ _) ?_
  show wpAny _ A.in1 (Builtin.Builtins.bindParams "min" ["key", "default"] 0 ⟨[], []⟩ >>= _) _ _ s
  refine wpAny_bind (wpAny_of_eq (show Builtin.Builtins.bindParams "min" ["key", "default"] 0 ⟨[], []⟩ = pure [none, none] from rfl) ?_)
  show wpAny _ A.in1 (newTuple [u, v] >>= _) _ _ s
  refine wpAny_bind (wpAny_newObj_type ?_)
  have hT : (s.heap.push { cls := .type "tuple", data := .seq #[u, v] }).IsTuple s.heap.objs.size #[u, v] := ⟨_, Heap.get?_push_size _ rfl, rfl, 0, rfl⟩
  have old1 : ∀ b o, s.heap.get? b = some o → (s.heap.push { cls := .type "tuple", data := .seq #[u, v] }).get? b = some o := fun b o e => Heap.get?_push_of_some _ e
  refine wpAny_bind (iter_tupleW (A := A.in1) hh hT fun s₂ e2 W st hfp hw hk => ?_)
  refine wpAny_bind (wpAny_newObj_type ?_)
  have hSf : s₂.heap.objs.size ∉ [(s.heap.push { cls := .type "tuple", data := .seq #[u, v] }).objs.size, s.heap.objs.size] := fun hm => Nat.lt_irrefl _ (hfp _ hm)
  have hr : ReadsAll (s.heap.push { cls := .type "tuple", data := .seq #[u, v] }) (#[u, v] : Array Value).toList [x, y] (as ++ (bs ++ [])) := .cons (reads_keeps old1 r1) (.cons (reads_keeps old1 r2) .nil)
  have al : AlikeAll [x, y] := by
    refine ⟨fun i hi j hj => ?_, fun i hi => ?_⟩
    · simp only [List.mem_cons, List.not_mem_nil, or_false] at hi hj
      rcases hi with rfl | rfl <;> rcases hj with rfl | rfl
      · exact ha.2.2.1
      · exact ha.1
      · exact ha.2.1
      · exact ha.2.2.2
    · simp only [List.mem_cons, List.not_mem_nil, or_false] at hi
      rcases hi with rfl | rfl
      · exact hn.1
      · exact hn.2
  have hu2 : A.in1.units + PyData.depthAll [x, y] < cLine := by
    show A.units + 1 + PyData.depthAll [x, y] < cLine
    have : PyData.depthAll [x, y] ≤ max x.depth y.depth := by
      simp only [PyData.depthAll]; omega
    omega
  rw [hname]
  refine wpAny_pure ⟨plainId_quiet F.plain_min_loop _, codeAny_min_loop_firstH W (s.heap.push { cls := .type "tuple", data := .seq #[u, v] }) hw _ (cmpIn_lt (A := A.in1) (s := { s with heap := s.heap.push { cls := .type "tuple", data := .seq #[u, v] } }) hr al hu2) s₂.heap.objs.size hSf (fresh_in hk) _ (by show 0 < 2; decide) (fun b o e => Heap.get?_push_of_some _ (hk b o e)) (W.frame 0 s₂ _ s₂.toks st (Nat.le_refl _) fun b _ o e => Heap.get?_push_of_some _ e) (Heap.get?_push_size _ rfl) fun v' s' hP hm => ?_⟩
  obtain ⟨h', tk, e3, hk'⟩ := moved_old e2 rfl (Moved.drop_new (tk := s₂.toks) hm (Nat.le_refl _))
  have e4 : s' = { s with heap := h', toks := tk } := e3
  rw [e4]
  have := h h' tk fun b o e => hk' b o (old1 b o e)
  have hv : v' = if dataLt y x = true then v else u := by
    have hP' : (#[u, v] : Array Value)[argBest (fun i j => dataLt ([x, y].getD i .none) ([x, y].getD j .none)) 1]? = some v' := hP
    by_cases hb : dataLt y x = true
    · have e : argBest (fun i j => dataLt ([x, y].getD i .none) ([x, y].getD j .none)) 1 = 1 := by simp [argBest, hb]
      rw [e] at hP'
      rw [if_pos hb]
      simpa using hP'.symm
    · have e : argBest (fun i j => dataLt ([x, y].getD i .none) ([x, y].getD j .none)) 1 = 0 := by simp [argBest, hb]
      rw [e] at hP'
      rw [if_neg hb]
      simpa using hP'.symm
  rw [hv]; exact this
def minOk (x y : PyData) : Bool := alike x y && alike y x && alike x x && alike y y && tupNE x && tupNE y && decide (x.depth ≤ 64) && decide (y.depth ≤ 64)
def gMinD (d e : D) : Option D := match d.py, e.py with
  | some x, some y => if minOk x y = true then some (if dataLt y x = true then e else d) else none
  | _, _ => none
theorem b_minD {k : Nat} (hc : X.calm = true) (hr : Room k X.A) : Bl2 X p (.builtin "min") (fun d d' => opt (gMinD d d')) := by
  refine ⟨fun xs H Q => ∃ v v' x y, xs = [v, v'] ∧ Dp X.K H v x ∧ Dp X.K H v' y ∧ minOk x y = true ∧ Q (if dataLt y x = true then v' else v) H, ?_, fun _ _ => Fz.opt, fun s σ H F v v' d d' Q R hd hd' o => ?_⟩
  · intro pins s σ H xs us Q I r h
    obtain ⟨v, v', x, y, rfl, h1, h2, ho, q⟩ := h
    obtain ⟨u, u', rfl, r1, r2⟩ := vals2 r
    obtain ⟨as, R1⟩ := Dp.reads I x _ u h1 r1
    obtain ⟨bs, R2⟩ := Dp.reads I y _ u' h2 r2
    unfold minOk at ho
    simp only [Bool.and_eq_true, decide_eq_true_eq] at ho
    obtain ⟨⟨⟨⟨⟨⟨⟨a1, a2⟩, a3⟩, a4⟩, n1⟩, n2⟩, d1⟩, d2⟩ := ho
    have := hr.un
    refine call_min_pair (I.ok.hd hc) R1 R2 ⟨a1, a2, a3, a4⟩ ⟨fun e => (by rw [e] at n1; cases n1), fun e => (by rw [e] at n2; cases n2)⟩ (by omega) fun h' tk k => ⟨_, H, I.kept k, ?_, q⟩
    by_cases hb : dataLt y x = true
    · rw [if_pos hb, if_pos hb]; exact r2
    · rw [if_neg hb, if_neg hb]; exact r1
  · obtain ⟨z, hz, o3⟩ := out_opt o
    unfold gMinD at hz
    cases e1 : d.py with
    | none => rw [e1] at hz; cases hz
    | some x =>
      cases e2 : d'.py with
      | none => rw [e1, e2] at hz; cases hz
      | some y =>
        rw [e1, e2] at hz
        dsimp only at hz
        split at hz
        · rename_i hok
          cases hz
          refine ⟨v, v', x, y, rfl, rS.dp R.le (.inl hd) e1, rS.dp R.le (.inl hd') e2, hok, ?_⟩
          by_cases hb : dataLt y x = true
          · rw [if_pos hb] at o3 ⊢; exact R.here o3 hd'
          · rw [if_neg hb] at o3 ⊢; exact R.here o3 hd
        · cases hz

/-! ### dicts with plain keys -/
def keyI : D → Option Key
  | .int i => some (.inl i)
  | .str x => some (.inr x)
  | _ => none
def dGetK (kvs : List (D × D)) (k : Key) : Option D := (kvs.find? fun q => decide (keyI q.1 = some k)).map (·.2)
theorem keyI_kD (k : Key) : keyI (kD k) = some k := by cases k <;> rfl
theorem kV_of {G : Gd} {F : Hp} {v : V} {d : D} {k : Key} (h : DR G F v d) (e : keyI d = some k) : v = kV k := by
  cases h <;> cases e <;> rfl
theorem dGetK_val {G : Gd} {F : Hp} {k : Key} : ∀ {ks : List Key} {xs : List V} {ds : List D}, ks.length = xs.length → DRs G F xs ds →
    (∀ d, dGetK ((ks.map kD).zip ds) k = some d → ∃ v, valV (ks.zip xs) k = some v ∧ DR G F v d) ∧ (dGetK ((ks.map kD).zip ds) k = none → valV (ks.zip xs) k = none)
  | [], xs, ds, hl, _ => ⟨fun d h => by simp [dGetK] at h, fun _ => by simp [valV]⟩
  | _ :: _, [], _, hl, _ => by simp at hl
  | q :: ks, x :: xs, _, hl, .cons (d := d0) (ds := ds) h t => by
    have ih := dGetK_val (k := k) (ks := ks) (by simpa using hl) t
    by_cases e : q = k
    · subst e
      refine ⟨fun d hd => ⟨x, by simp [valV], ?_⟩, fun hn => ?_⟩
      · simp [dGetK, keyI_kD] at hd
        subst hd; exact h
      · simp [dGetK, keyI_kD] at hn
    · have n1 : keyI (kD q) ≠ some k := by rw [keyI_kD]; exact fun z => e (Option.some.inj z)
      have a1 : dGetK (((q :: ks).map kD).zip (d0 :: ds)) k = dGetK ((ks.map kD).zip ds) k := by simp [dGetK, n1]
      have a2 : valV ((q :: ks).zip (x :: xs)) k = valV (ks.zip xs) k := by
        show valV ((q, x) :: ks.zip xs) k = _
        exact valV_neg e
      rw [a1, a2]; exact ih
def dctK : D → Option (List (D × D))
  | .dct kvs => if kvs ≠ [] ∧ kvs.all (fun q => (keyI q.1).isSome) = true then some kvs else none
  | _ => none
theorem dctK_of {G : Gd} {F : Hp} {v : V} {d : D} {kvs : List (D × D)} (h : DR G F v d) (e : dctK d = some kvs) : ∃ (a : Addr) (ks : List Key) (xs : List V) (ds : List D), v = .ref a ∧ (Rd F a (.dK (ks.zip xs)) ∨ KDat G.K G.gl a (ks.zip xs)) ∧ ks.length = xs.length ∧ DRs G F xs ds ∧ kvs = (ks.map kD).zip ds := by
  unfold dctK at e
  cases h with
  | dK h1 h2 h3 h4 =>
    dsimp only at e
    split at e
    · cases e
      subst h2
      exact ⟨_, _, _, _, rfl, .inl h1, h3, h4, rfl⟩
    · cases e
  | kd h1 h2 h3 h4 =>
    dsimp only at e
    split at e
    · cases e
      subst h2
      exact ⟨_, _, _, _, rfl, .inr h1, h3, h4, rfl⟩
    · cases e
  | @dT a kvs ks xs ds h1 h2 h3 h4 =>
    dsimp only at e
    split at e
    · rename_i hh
      cases e
      exfalso
      cases ks with
      | nil => exact hh.1 rfl
      | cons k ks =>
        cases ds with
        | nil => exact hh.1 (by simp)
        | cons d ds =>
          have := hh.2
          simp [tD, keyI] at this
    · cases e
  | _ => cases e
def gDGet (d e : D) : Option D := (dctK d).bind fun kvs => (keyI e).bind fun k => dGetK kvs k
/-- at a, in H or in the written part, a dict with plain keys -/
def RdK (K : PySem.W.Frag) (w : World) (H : Hp) (a : Addr) (kvs : List (Key × V)) : Prop := Rd H a (.dK kvs) ∨ KDat K w a kvs
theorem RdK.of {pins : List (Addr × Obj)} {σ : L2.St} {H : Hp} {s : Shared} {a : Addr} {kvs : List (Key × V)} (I : Inv X pins σ H s) (h : RdK X.K X.w H a kvs) : (a == sysModules) = false ∧ ∃ us, KV kvs us ∧ s.heap.DictOf (mixKind X.prog X.w) a us := by
  rcases h with h | ⟨es, n, us, h1, h2, h3, h4, h5, h6⟩
  · obtain ⟨_, h1, h2⟩ := dk_rd I.hok h
    exact ⟨h1, h2⟩
  · refine ⟨h3, us, h4, _, es, n, I.kIn _ _ h1, ⟨rfl, rfl, rfl⟩, rfl, fun e he => ?_, h5 _, h6⟩
    obtain ⟨x, t, e1, e2⟩ := h2.all e (Array.mem_toList_iff.mpr he)
    exact ⟨.inr x, by rw [e1]; exact strKind_is X.prog X.w x t, e2⟩
/-- by values, a dict with plain keys -/
def rDk (K : PySem.W.Frag) (w : World) (f : List (Key × V) → Key → V → Prop) : R2 := fun x y H Q => ∃ a kvs k v, x = .ref a ∧ y = kV k ∧ RdK K w H a kvs ∧ f kvs k v ∧ Q v H
theorem ix_dgt : IxR X (rDk X.K X.w fun kvs k v => valV kvs k = some v) := by
  intro value slice pins s σ H x y v u Q I rx ry h hs
  obtain ⟨a, kvs, k, w, rfl, rfl, hr, hv, q⟩ := h
  obtain rfl : v = Value.ref a := rx
  obtain ⟨lo, us, rel, dd⟩ := hr.of I
  obtain ⟨u', hu, ru⟩ := RelO.some_of (v := w) (o := valueAt us k) (by rw [← hv]; exact rel.val k)
  exact tail_any dd.typeIs slot_dict_getitem.lookup (wpAny_getItem_of (kV_is ry) dd.mapOf hu ⟨w, H, I.tok _, ru, q⟩) hs
theorem e_dget (ha : EE X p a ma) (hb : EE X p b mb) (hs : PlainIx b := by exact fun _ _ => rfl) : EE X p (.Subscript a b pos) (f2 gDGet ma mb) := by
  refine ⟨?_, Fz.bnd ha.2 fun _ => Fz.bnd hb.2 fun _ => Fz.opt⟩
  refine PE.weak (pe_ix ix_dgt ha.1 hb.1 hs) fun σ H Q ⟨s, F, R, o⟩ => ?_
  refine bindK (r := rE (GX X p)) R o fun v H1 d s1 F1 R1 f1 g1 hd o1 _ => ?_
  refine bindK (r := rE (GX X p)) R1 o1 fun w H2 e s2 F2 R2 f2 g2 he o2 _ => ?_
  obtain ⟨z, hz, o3⟩ := out_opt o2
  unfold gDGet at hz
  obtain ⟨kvs, h1, hz⟩ := Option.bind_eq_some_iff.mp hz
  obtain ⟨k', h2, hz⟩ := Option.bind_eq_some_iff.mp hz
  obtain ⟨q, ks, xs, ds, rfl, q1, q2, q3, rfl⟩ := dctK_of (hd.mono f2) h1
  obtain ⟨u, e1, e2⟩ := (dGetK_val q2 q3).1 z hz
  exact ⟨q, _, k', u, rfl, kV_of he h2, q1.imp (same_rd R2.le) id, e1, R2.here o3 e2⟩
def inDct (d e : D) : Option Bool := (dctK e).bind fun kvs => (keyI d).bind fun k => some (dGetK kvs k).isSome
def gInD2 (d e : D) : Option D := (inDct d e).map D.bl
def gNotInD2 (d e : D) : Option D := (inDct d e).map fun b => D.bl (!b)
theorem inDct_of {G : Gd} {H F : Hp} {v w : V} {d e : D} {r : Bool} (le : Same F H) (hd : DR G F v d) (he : DR G F w e) (h : inDct d e = some r) : ∃ a kvs k, w = .ref a ∧ v = kV k ∧ RdK G.K G.gl H a kvs ∧ (valV kvs k).isSome = r := by
  unfold inDct at h
  obtain ⟨kvs, h1, hz⟩ := Option.bind_eq_some_iff.mp h
  obtain ⟨k', h2, hz⟩ := Option.bind_eq_some_iff.mp hz
  obtain ⟨q, ks, xs, ds, rfl, q1, q2, q3, rfl⟩ := dctK_of he h1
  have hk := dGetK_val (k := k') q2 q3
  refine ⟨q, _, k', rfl, kV_of hd h2, q1.imp (same_rd le) id, ?_⟩
  cases e1 : dGetK ((ks.map kD).zip ds) k' with
  | none =>
    rw [e1] at hz; cases hz
    rw [hk.2 e1]; rfl
  | some u =>
    rw [e1] at hz; cases hz
    obtain ⟨x, e3, _⟩ := hk.1 u e1
    rw [e3]; rfl
def rDkIn (K : PySem.W.Frag) (w : World) (neg : Bool) : R2 := fun x y H Q => ∃ a kvs k, y = .ref a ∧ x = kV k ∧ RdK K w H a kvs ∧ Q (.bl (if neg then !(valV kvs k).isSome else (valV kvs k).isSome)) H
theorem op_dIn : OpR X (compareOp .In) (rDkIn X.K X.w false) := by
  intro pins s σ H x y v u Q I rx ry h
  obtain ⟨a, kvs, k, rfl, rfl, hr, q⟩ := h
  obtain rfl : u = Value.ref a := ry
  obtain ⟨lo, us, rel, dd⟩ := hr.of I
  refine wpAny_in_of (kV_is rx) lo dd.mapOf ⟨.bl (valV kvs k).isSome, H, I.tok _, ?_, q⟩
  rw [(rel.val k).isSome_eq]; rfl
theorem op_dNotIn : OpR X (compareOp .NotIn) (rDkIn X.K X.w true) := by
  intro pins s σ H x y v u Q I rx ry h
  obtain ⟨a, kvs, k, rfl, rfl, hr, q⟩ := h
  obtain rfl : u = Value.ref a := ry
  obtain ⟨lo, us, rel, dd⟩ := hr.of I
  refine wpAny_notIn_of (kV_is rx) lo dd.mapOf ⟨.bl (!(valV kvs k).isSome), H, I.tok _, ?_, q⟩
  rw [(rel.val k).isSome_eq]; rfl
theorem DR.dctE {d : D} {kvs : List (D × D)} (h : dctK d = some kvs) : d.isLst = false := by
  cases d <;> first | rfl | (cases h)
theorem key_lst {d : D} {k : Key} (h : keyI d = some k) : d.isLst = false := by
  cases d <;> first | rfl | (cases h)
theorem inDct_lst {d e : D} {r : Bool} (h : inDct d e = some r) : d.isLst = false ∧ e.isLst = false := by
  unfold inDct at h
  obtain ⟨kvs, h1, hz⟩ := Option.bind_eq_some_iff.mp h
  obtain ⟨k', h2, hz⟩ := Option.bind_eq_some_iff.mp hz
  exact ⟨key_lst h2, DR.dctE h1⟩
theorem o_inG : OpR X (compareOp .In) (rP (GX X p) gInD2) := OpR.weak op_dIn fun _ _ _ _ h => by
  obtain ⟨F, d, e, z, le, hd, he, hz, q⟩ := h
  obtain ⟨r, hb, rfl⟩ := Option.map_eq_some_iff.mp hz
  obtain ⟨l1, l2⟩ := inDct_lst hb
  obtain ⟨a, kvs, k, h1, h2, h3, h4⟩ := inDct_of le (hd.dr l1) (he.dr l2) hb
  exact ⟨a, kvs, k, h1, h2, h3, q _ (by rw [← h4]; exact .bl _)⟩
theorem o_notInG : OpR X (compareOp .NotIn) (rP (GX X p) gNotInD2) := OpR.weak op_dNotIn fun _ _ _ _ h => by
  obtain ⟨F, d, e, z, le, hd, he, hz, q⟩ := h
  obtain ⟨r, hb, rfl⟩ := Option.map_eq_some_iff.mp hz
  obtain ⟨l1, l2⟩ := inDct_lst hb
  obtain ⟨a, kvs, k, h1, h2, h3, h4⟩ := inDct_of le (hd.dr l1) (he.dr l2) hb
  exact ⟨a, kvs, k, h1, h2, h3, q _ (by rw [← h4]; exact .bl _)⟩

/-! ### a display of plain keys -/
def mergeS : List Str → List V → List (Key × V) := fun ks vs => (ks.map Sum.inr).zip vs
theorem putK_new {kvs : List (Key × V)} {k : Key} {v : V} (h : k ∉ kvs.map (·.1)) : putK kvs k v = kvs ++ [(k, v)] := by
  unfold putK
  rw [if_neg]
  intro z
  obtain ⟨q, h1, h2⟩ := List.any_eq_true.mp z
  exact h (List.mem_map.mpr ⟨q, h1, of_decide_eq_true h2⟩)
theorem mergeK_nodup : ∀ (more acc : List (Key × V)), ((acc ++ more).map (·.1)).Nodup → mergeK acc more = acc ++ more
  | [], acc, _ => by simp [mergeK]
  | q :: more, acc, h => by
    have hn : q.1 ∉ acc.map (·.1) := by
      rw [List.map_append, List.map_cons] at h
      have := (List.nodup_append.mp h).2.2
      exact fun z => this _ z _ List.mem_cons_self rfl
    have h2 : (((acc ++ [q]) ++ more).map (·.1)).Nodup := by rw [List.append_assoc]; exact h
    show mergeK (putK acc q.1 q.2) more = _
    rw [putK_new hn, mergeK_nodup more (acc ++ [q]) h2, List.append_assoc]
    rfl
/-- the values of a display, while its dict is under way -/
inductive EPs (X : Cx) (p : Pm) (pos : Pos) : List (Option Expr) → List Expr → List Str → List (Ex D) → Prop where
  | nil : EPs X p pos [] [] [] []
  | cons {k : Str} {j : Nat} {kp : Pos} {e : Expr} {ks : List (Option Expr)} {es : List Expr} {xs : List Str} {ms : List (Ex D)} {m : Ex D} : EE X p e m → EPs X p pos ks es xs ms → EPs X p pos (some (.Constant (.str k) j kp) :: ks) (e :: es) (k :: xs) (m :: ms)
theorem fz_seq : ∀ {ms : List (Ex D)}, (∀ m ∈ ms, Fz m) → Fz (seqM ms)
  | [], _ => Fz.ret
  | m :: ms, h => Fz.bnd (h m List.mem_cons_self) fun _ => Fz.bnd (fz_seq fun m' hm => h m' (List.mem_cons_of_mem _ hm)) fun _ => Fz.ret
def fDisp (ks : List Str) (ms : List (Ex D)) : Ex D := bnd (seqM ms) fun ds => ret (.dct ((ks.map D.str).zip ds))
/-- a pending object that no slot holds -/
structure Pend (G : Gd) (H0 : Hp) (s : AS) (σ : L2.St) (H F : Hp) (q : Addr) (o : HO) : Prop where
  at_ : H q = some o
  out : F q = none
  old : fr H0 q
  no : ∀ (i : Nat) (x : SV), s.sl[i]? = some x → ownAt x = true → σ[i]? ≠ some (some (.ref q))
theorem Stp.hid2 {G : Gd} {H0 F0 : Hp} {σ : L2.St} {s s' : AS} {H F H' F' : Hp} {q : Addr} {o : HO} (z : Stp G σ s H F s' H' F') (R : Rel G H0 F0 s σ H F) (R' : Rel G H0 F0 s' σ H' F') (h : Pend G H0 s σ H F q o) (n1 : ∀ ps, o ≠ .tbl ps) (n2 : ∀ xs, o ≠ .tup xs) : Pend G H0 s' σ H' F' q o := by
  have b1 : q ≠ G.b1 := fun e => R.bag0.1 (by rw [← e]; exact h.old)
  have b2 : q ≠ G.b2 := fun e => R.bag0.2 (by rw [← e]; exact h.old)
  have hH' := z.grow.ext q o h.at_ b1 b2 n1
  refine ⟨hH', ?_, h.old, fun i x h1 h2 => ?_⟩
  · cases e : F' q with
    | none => rfl
    | some u =>
      rcases z.newF q u e with h5 | h5 | ⟨ys, h5⟩ | ⟨i, x, h1, h2, h3⟩
      · rw [h.out] at h5; cases h5
      · exact (h5.no h.at_ n1).elim
      · have := R'.le _ _ e
        rw [hH', h5] at this
        cases this
        exact absurd rfl (n2 ys)
      · exact absurd h3 (h.no i x h1 h2)
  · obtain ⟨y, e1, e2⟩ := z.own i x h1 h2
    exact h.no i y e1 e2
theorem Rel.newPend {G : Gd} {H0 F0 H F : Hp} {s : AS} {σ : L2.St} {q : Addr} {o : HO} (R : Rel G H0 F0 s σ H F) (hq : H q = none) : Rel G H0 F0 s σ (upd H q o) F ∧ Pend G H0 s σ (upd H q o) F q o ∧ Stp G σ s H F s (upd H q o) F := by
  have hF : F q = none := by
    cases e : F q with
    | none => rfl
    | some u => rw [R.le _ _ e] at hq; cases hq
  have no : ∀ u, H q = some u → ¬ isTab u := fun u h => by rw [hq] at h; cases h
  refine ⟨R.side hF (R.kept q (fr_none hq)) no (R.noslot (fr_none hq)), ⟨upd_same, hF, R.kept q (fr_none hq), R.noslot (fr_none hq)⟩, ⟨Same.refl _, (Grow.refl _ _).upd (fr_none hq) no, fun a h => ?_, OwnLe.refl _, fun _ _ h => .inl h⟩⟩
  by_cases e : a = q
  · rw [e]; exact fr_none hq
  · exact fr_upd h e
theorem eps_len {ks : List (Option Expr)} {vs : List Expr} {xs : List Str} {ms : List (Ex D)} (h : EPs X p pos ks vs xs ms) : ks.length = vs.length ∧ xs.length = ms.length ∧ ks.length = xs.length ∧ ks.all (·.isSome) = true ∧ ∀ m ∈ ms, Fz m := by
  induction h with
  | nil => exact ⟨rfl, rfl, rfl, rfl, fun _ z => nomatch z⟩
  | cons h t ih =>
    obtain ⟨a, b, c, d, e⟩ := ih
    refine ⟨by simp [a], by simp [b], by simp [c], by simpa using d, fun m hm => ?_⟩
    rcases List.mem_cons.mp hm with rfl | hm
    · exact h.2
    · exact e m hm
theorem bnd_assoc {α β γ : Type} {m : Ex α} {f : α → Ex β} {g : β → Ex γ} : bnd (bnd m f) g = bnd m fun a => bnd (f a) g := by
  funext s
  unfold bnd
  cases m s <;> rfl
/-- the pairs are reckoned; k gets the values -/
theorem eps_run {ks : List (Option Expr)} {vs : List Expr} {xs : List Str} {ms : List (Ex D)} (h : EPs X p pos ks vs xs ms) :
    ∃ trs : List (TE × TE), PPs X pos ks vs trs ∧ ∀ (σ : L2.St) (H F : Hp) (s : AS) (Q : List (V × V) → Hp → Prop) (G' : List D → Ex D) (QQ : VK), Rel (GX X p) p.H0 p.F0 s σ H F → OutG (GX X p) p.H0 p.F0 p.W (rE (GX X p)) s σ H F QQ (bnd (seqM ms) G' s) →
      (∀ ws H1 ds s1 F1, Rel (GX X p) p.H0 p.F0 s1 σ H1 F1 → DRs (GX X p) F1 ws ds → OutG (GX X p) p.H0 p.F0 p.W (rE (GX X p)) s1 σ H1 F1 QQ (G' ds s1) → Stp (GX X p) σ s H F s1 H1 F1 → ds.length = ms.length → seqM ms s = .ok ds s1 → Q ((xs.map V.str).zip ws) H1) → tPairs trs σ H Q := by
  induction h with
  | nil => exact ⟨[], pps_nil, fun σ H F s Q G' QQ R o k => k [] H [] s F R .nil o Stp.refl rfl rfl⟩
  | @cons kk j kp e ks es xs ms m h t ih =>
    obtain ⟨trs, h1, h2⟩ := ih
    refine ⟨_, pps_cons pe_str h.1 h1, fun σ H F s Q G' QQ R o k => ?_⟩
    show tG _ _ _ _ _ m σ H _
    have o' : OutG (GX X p) p.H0 p.F0 p.W (rE (GX X p)) s σ H F QQ (bnd m (fun d => bnd (seqM ms) fun ds => G' (d :: ds)) s) := by
      have : bnd (seqM (m :: ms)) G' s = bnd m (fun d => bnd (seqM ms) fun ds => G' (d :: ds)) s := by
        show bnd (bnd m fun d => bnd (seqM ms) fun ds => ret (d :: ds)) G' s = _
        rw [bnd_assoc]
        congr 1
        funext d
        rw [bnd_assoc]
      rw [← this]; exact o
    refine bindK (r := rE (GX X p)) R o' fun v H1 d s1 F1 R1 f1 g1 hd o1 e1 => ?_
    exact h2 σ H1 F1 s1 _ (fun ds => G' (d :: ds)) QQ R1 o1 fun ws H2 ds s2 F2 R2 hds o2 z2 hl hq => k (v :: ws) H2 (d :: ds) s2 F2 R2 (.cons (hd.mono z2.same) hds) o2 (e1.2.trans z2) (by simp [hl]) (by unfold seqM bnd; rw [e1.1]; dsimp only; rw [hq])
theorem zip_kV {xs : List Str} {ws : List V} : (xs.map V.str).zip ws = ((xs.map Sum.inr).zip ws).map (fun kv : Key × V => (kV kv.1, kv.2)) := by
  induction xs generalizing ws with
  | nil => rfl
  | cons x xs ih =>
    cases ws with
    | nil => rfl
    | cons w ws => simp only [List.map_cons, List.zip_cons_cons, ih]; rfl
theorem e_disp {ks : List (Option Expr)} {vs : List Expr} {xs : List Str} {ms : List (Ex D)} (h : EPs X p pos ks vs xs ms) (hnd : xs.Nodup := by decide) (h0 : ks ≠ [] := by simp) (h15 : ms.length ≤ 15 := by decide) : EE X p (.Dict ks vs pos) (fDisp xs ms) := by
  obtain ⟨l1, l2, l3, l4, l5⟩ := eps_len h
  obtain ⟨trs, h1, h2⟩ := eps_run h
  refine ⟨PE.weak (pe_disp h1 l4 l1 h0 (by omega)) fun σ H Q ⟨s, F, R, o⟩ => ?_, Fz.bnd (fz_seq l5) fun _ => Fz.ret⟩
  intro q hq
  obtain ⟨R1, P1, z1⟩ := R.newPend (o := .dK []) hq
  refine h2 σ _ F s _ _ Q R1 (OutG.mono o z1) fun ws H2 ds s2 F2 R2 hds o2 z2 hl hsq => ?_
  have P2 := z2.hid2 R1 R2 P1 (fun _ z => nomatch z) (fun _ z => nomatch z)
  have lw : xs.length = ws.length := by rw [hds.len, hl]; exact l2
  refine ⟨P2.at_, (xs.map Sum.inr).zip ws, zip_kV, by rw [List.length_zip, List.length_map]; omega, ?_⟩
  have hmk : mergeK [] ((xs.map Sum.inr).zip ws) = (xs.map Sum.inr).zip ws := by
    have := mergeK_nodup ((xs.map Sum.inr).zip ws) [] (by
      rw [List.nil_append, List.map_fst_zip (by rw [List.length_map]; omega)]
      exact List.Pairwise.map _ (fun _ _ z w => z (Sum.inr.inj w)) hnd)
    rw [List.nil_append] at this
    exact this
  rw [hmk]
  have nt : ∀ u, H2 q = some u → ¬ isTab u := fun u hu => by rw [P2.at_] at hu; cases hu; exact tab_dK
  have R3 := (R2.side (o := .dK ((xs.map Sum.inr).zip ws)) P2.out P2.old nt P2.no).known upd_same P2.out P2.old (fun _ z => nomatch z) P2.no
  have f3 : Same F2 (upd F2 q (.dK ((xs.map Sum.inr).zip ws))) := fun b w z => by
    have : b ≠ q := fun e => by subst e; rw [P2.out] at z; cases z
    rw [upd_ne this]; exact z
  have zz := z1.trans z2
  unfold fDisp bnd at o
  rw [hsq] at o
  refine o _ _ _ R3 ⟨zz.same.trans f3, zz.grow.upd (fr_none hq) nt, fun a ha => ?_, zz.own, fun a u hu => ?_⟩ ?_
  · by_cases e : a = q
    · rw [e]; exact fr_none hq
    · exact zz.kept a (fr_upd ha e)
  · by_cases e : a = q
    · rw [e]; exact .inr (.inl (fr_none hq))
    · rw [upd_ne e] at hu; exact zz.newF a u hu
  · have e : xs.map D.str = (xs.map Sum.inr : List Key).map kD := by rw [List.map_map]; rfl
    rw [e]
    exact .dK (.inl upd_same) rfl (by rw [List.length_map]; exact lw) (hds.mono f3)
end
end Ink

set_option Elab.async false
set_option maxRecDepth 100000
set_option autoImplicit false
set_option linter.unusedVariables false
/-! Ink10: stars, texts and pairs walked, sorted keys, raise, lambdas heard. -/
namespace Ink
open PySem PySem.Spec PyProof.Rows L2 PySem.W StX

section
variable {X : Cx} {p : Pm} {e a b c : Expr} {es : List Expr} {st : Stmt} {sts body : List Stmt} {pos tp : Pos} {ma mb : Ex D} {m : Ex Fl} {vs : List Nat} {mm : Ex (List D)}

/-! ### stars -/
def fStar (ma : Ex D) (mm : Ex (List D)) : Ex (List D) := bnd ma fun d => bnd (opt (seqD d)) fun xs => bnd mm fun ds => ret (xs ++ ds)
theorem ea_star {q : Pos} (ha : EE X p e ma) (h : EA X p es mm) (hs : starEach (.Starred e q :: es) X.env = (true, eval e X.env) :: starEach es X.env := by rfl) : EA X p (.Starred e q :: es) (fStar ma mm) := by
  refine ⟨PA.weak (pa_star ha.1 h.1 hs) fun σ H Q ⟨s, F, R, o⟩ => ?_, Fz.bnd ha.2 fun _ => Fz.bnd Fz.opt fun _ => Fz.bnd h.2 fun _ => Fz.ret⟩
  refine bindK (r := rE (GX X p)) R o fun v H1 d s1 F1 R1 f1 g1 hd o1 _ => ?_
  unfold bnd at o1
  cases hq : seqD d with
  | none => rw [hq] at o1; exact o1.elim
  | some xs =>
    rw [hq] at o1
    dsimp only [opt] at o1
    have key : ∃ q vs, v = V.ref q ∧ (SqT X.K H1 q vs ∨ SqL X.K H1 q vs) ∧ DRs (GX X p) F1 vs xs := by
      cases d <;> first | (cases hq; done) | skip
      · cases hq
        cases hd with
        | lst h1 h2 => exact ⟨_, _, rfl, .inr (SqL.of (R1.le _ _ h1)), h2⟩
      · cases hq
        cases hd with
        | tup h1 h2 => exact ⟨_, _, rfl, .inl (same_seqT R1.le h1), h2⟩
    obtain ⟨q, vs, rfl, h1, h2⟩ := key
    refine ⟨q, vs, rfl, h1, ?_⟩
    exact bindK (r := rA (GX X p)) R1 o1 fun ws H2 ds s2 F2 R2 f2 g2 hds o2 _ => R2.here o2 ((h2.mono f2).app hds)
def fTupG (m : Ex (List D)) : Ex D := bnd m fun ds => if ds.length ≤ 1000 then ret (.tup ds) else fun _ => .bad
theorem fz_bad {α : Type} : Fz (fun _ => Res.bad : Ex α) := fun _ _ _ h => nomatch h
theorem e_tupG {x1 : Nat} (h : EA X p es mm) : EE X p (.Tuple es x1 pos) (fTupG mm) := by
  refine ⟨PE.weak (pe_tup h.1) fun σ H Q ⟨s, F, R, o⟩ => ?_, Fz.bnd h.2 fun _ => Fz.ite Fz.ret fz_bad⟩
  refine bindK (r := rA (GX X p)) R o fun vs H1 ds s1 F1 R1 f1 g1 hds o1 e1 => ?_
  by_cases hl : ds.length ≤ 1000
  · rw [if_pos hl] at o1
    exact ⟨small_len (by rw [hds.len]; exact hl), fun q hq => R1.new o1 hq (fun _ z => nomatch z) fun f => .tup (SqT.of upd_same) (hds.mono f)⟩
  · rw [if_neg hl] at o1; exact o1.elim

/-! ### a text walked -/
def chD (x : Str) : List D := x.cps.toList.map fun c => D.str ⟨#[c]⟩
theorem yl_str {G : Gd} {F1 : Hp} (x : Str) : Yl G (Its x) (chD x) F1 where
  go := fun i H F _ _ hi => by show i < x.cps.size; simpa [chD] using hi
  stop := fun i H F _ _ hi => by show x.cps.size ≤ i; simpa [chD] using hi
  yld := fun i H F y H' _ _ h d hd => by
    obtain ⟨e1, c, hc, rfl⟩ := h
    unfold chD at hd
    rw [List.getElem?_map, Array.getElem?_toList, hc] at hd
    cases hd
    exact .inl ⟨e1, .str _⟩
def strD : D → Option (List D)
  | .str x => some (chD x)
  | _ => none
def fItS (m : Ex D) : Ex (List D) := bnd m fun d => opt (strD d)
theorem i_str {tg : Expr} (h : EE X p e ma) : EI X p tg e (fItS ma) := by
  refine ⟨?_, Fz.bnd h.2 fun _ => Fz.opt⟩
  refine PI.weak (pi_str h.1) fun σ H R' ⟨s, F, R, o⟩ => ?_
  refine bindK (r := rE (GX X p)) R o fun v H1 d s1 F1 R1 f1 g1 hd o1 _ => ?_
  obtain ⟨z, hz, o2⟩ := out_optT o1
  cases d <;> first | (cases hz; done) | skip
  cases hz
  cases hd
  exact ⟨_, rfl, R1.here o2 (yl_str _)⟩

/-! ### a list, a tuple or a text walked -/
def iAny (K : PySem.W.Frag) (te : TE) : TI := fun σ H R => te σ H fun v H1 => (∃ a xs, v = .ref a ∧ SqL K H1 a xs ∧ R (Itl K a) H1) ∨ (∃ a xs, v = .ref a ∧ SqT K H1 a xs ∧ R (Itt K a) H1) ∨ ∃ x, v = .str x ∧ R (Its x) H1
theorem pi_any {tg : Expr} {te : TE} (h : PE X e te) : PI X tg e (iAny X.K te) := by
  refine ⟨fun pins s σ H R I hh => thn (h.run pins s σ H _ I hh) fun v s1 hq => ?_⟩
  obtain ⟨y, H1, I1, r1, hq⟩ := hq
  have fresh : ∀ b, b ∈ [s1.heap.objs.size] → FpOk X pins H1 b := fun b hb => by
    obtain rfl : b = s1.heap.objs.size := by simpa using hb
    exact I1.fpOk (Nat.le_refl _) (I1.hok.fresh (Nat.le_refl _))
  rcases hq with ⟨q, xs, rfl, hs, k⟩ | ⟨q, xs, rfl, hs, k⟩ | ⟨x, rfl, k⟩
  · obtain rfl : v = Value.ref q := r1
    obtain ⟨its, rv, pl, hz⟩ := I1.list hs
    exact wpAny_pyIter_list pl.isList ⟨s1.heap.objs.size, [s1.heap.objs.size], _, _, H1, rfl, I1.kept (t' := s1.toks) (fun b o e => Heap.get?_push_of_some _ e), turn_list q _, ⟨_, Heap.get?_push_size _ rfl, rfl, rfl⟩, fresh, k⟩
  · obtain rfl : v = Value.ref q := r1
    obtain ⟨its, rv, pl, hz⟩ := I1.tuple hs
    exact wpAny_pyIter_tuple (show s1.heap.IsTuple q its.toArray from pl) ⟨s1.heap.objs.size, [s1.heap.objs.size], _, _, H1, rfl, I1.kept (t' := s1.toks) (fun b o e => Heap.get?_push_of_some _ e), turn_tuple q _, ⟨_, Heap.get?_push_size _ rfl, rfl, rfl⟩, fresh, k⟩
  · obtain ⟨t, rfl⟩ := r1
    by_cases ha : x.cps.all (· < 128) = true
    · exact wpAny_pyIter_ascii ha (pi_one (tk := s1.toks) I1 _ (turn_str _ x t "str_ascii_iterator" (.inl rfl)) ⟨_, Heap.get?_push_size _ rfl, rfl, rfl⟩ k)
    · exact wpAny_pyIter_wide (by simpa using ha) (pi_one (tk := s1.toks) I1 _ (turn_str _ x t "str_iterator" (.inr rfl)) ⟨_, Heap.get?_push_size _ rfl, rfl, rfl⟩ k)
def itD : D → Option (List D)
  | .lst xs => some xs
  | .tup xs => some xs
  | .str x => some (chD x)
  | _ => none
def fIt (m : Ex D) : Ex (List D) := bnd m fun d => opt (itD d)
theorem i_any {tg : Expr} (h : EE X p e ma) : EI X p tg e (fIt ma) := by
  refine ⟨?_, Fz.bnd h.2 fun _ => Fz.opt⟩
  refine PI.weak (pi_any h.1) fun σ H R' ⟨s, F, R, o⟩ => ?_
  refine bindK (r := rE (GX X p)) R o fun v H1 d s1 F1 R1 f1 g1 hd o1 _ => ?_
  obtain ⟨z, hz, o2⟩ := out_optT o1
  cases d <;> first | (cases hz; done) | skip
  · cases hz
    cases hd
    exact .inr (.inr ⟨_, rfl, R1.here o2 (yl_str _)⟩)
  · cases hz
    cases hd with
    | lst h1 h2 => exact .inl ⟨_, _, rfl, SqL.of (R1.le _ _ h1), R1.here o2 (yl_list h1 h2)⟩
  · cases hz
    cases hd with
    | tup h1 h2 => exact .inr (.inl ⟨_, _, rfl, same_seqT R1.le h1, R1.here o2 (yl_tup h1 h2)⟩)

/-! ### pairs of two lists -/
def zipD (xs ys : List D) : List D := List.zipWith (fun x y => D.tup [x, y]) xs ys
theorem yl_zip {G : Gd} {F1 : Hp} {q r : Addr} {vs ws : List V} {xs ys : List D} (h1 : F1 q = some (.lst vs)) (h2 : F1 r = some (.lst ws)) (d1 : DRs G F1 vs xs) (d2 : DRs G F1 ws ys) : Yl G (Itz G.K q r) (zipD xs ys) F1 where
  go := fun i H F e e' hi => by
    unfold zipD at hi
    rw [List.length_zipWith] at hi
    have l1 := d1.len
    have l2 := d2.len
    exact ⟨vs, ws, vs[i]'(by omega), ws[i]'(by omega), SqL.of (e' _ _ (e _ _ h1)), SqL.of (e' _ _ (e _ _ h2)), by simp, by simp⟩
  stop := fun i H F e e' hi => by
    unfold zipD at hi
    rw [List.length_zipWith] at hi
    have l1 := d1.len
    have l2 := d2.len
    exact ⟨vs, ws, SqL.of (e' _ _ (e _ _ h1)), SqL.of (e' _ _ (e _ _ h2)), by omega⟩
  yld := fun i H F z H' e e' h d hd => by
    obtain ⟨T, x, y, rfl, hT, rfl, k1, k2⟩ := h
    have a1 := k1 vs (SqL.of (e' _ _ (e _ _ h1)))
    have a2 := k2 ws (SqL.of (e' _ _ (e _ _ h2)))
    obtain ⟨dx, b1, c1⟩ := d1.getV a1
    obtain ⟨dy, b2, c2⟩ := d2.getV a2
    unfold zipD at hd
    rw [List.getElem?_zipWith, b1, b2] at hd
    cases hd
    exact .inr ⟨T, _, hT, rfl, (fun _ z => nomatch z), fun F' f h => .tup (SqT.of h) (.cons (c1.mono (e.trans f)) (.cons (c2.mono (e.trans f)) .nil))⟩
def fZip (ma mb : Ex D) : Ex (List D) := bnd ma fun d => bnd mb fun e => bnd (opt (lstD d)) fun xs => bnd (opt (lstD e)) fun ys => ret (zipD xs ys)
theorem i_zip {es : List Expr} {kk : Nat} {tpos q : Pos} (hm : X.mg "zip" = none) (ha : EE X p a ma) (hb : EE X p b mb) (hg : Gl X "zip" := by rfl)
    (hs : starEach [a, b] X.env = (false, eval a X.env) :: starEach [b] X.env := by rfl) (hs2 : starEach [b] X.env = [(false, eval b X.env)] := by rfl) (hpl : (backTo pos (starEach [b] X.env)).any (·.1) = false := by rfl) : EI X p (.Tuple es kk tpos) (.Call (.Name "zip" q) [a, b] [] pos) (fZip ma mb) := by
  refine ⟨?_, Fz.bnd ha.2 fun _ => Fz.bnd hb.2 fun _ => Fz.bnd Fz.opt fun _ => Fz.bnd Fz.opt fun _ => Fz.ret⟩
  refine PI.weak (pi_zip hg hm (pa_cons ha.1 (pa_cons hb.1 pa_nil hs2) hs) hs hpl) fun σ H R' ⟨s, F, R, o⟩ => ?_
  refine bindK (r := rE (GX X p)) R o fun v H1 d s1 F1 R1 f1 g1 hd o1 _ => ?_
  refine bindK (r := rE (GX X p)) R1 o1 fun w H2 e s2 F2 R2 f2 g2 he o2 _ => ?_
  unfold bnd at o2
  cases h1 : lstD d with
  | none => rw [h1] at o2; exact o2.elim
  | some xs =>
    cases h2 : lstD e with
    | none => rw [h1, h2] at o2; exact o2.elim
    | some ys =>
      rw [h1, h2] at o2
      cases d <;> first | (cases h1; done) | skip
      cases e <;> first | (cases h2; done) | skip
      cases h1; cases h2
      cases hd.mono f2 with
      | lst q1 q2 =>
        cases he with
        | lst q3 q4 => exact ⟨_, _, _, _, rfl, SqL.of (R2.le _ _ q1), SqL.of (R2.le _ _ q3), R2.here o2 (yl_zip q1 q3 q2 q4)⟩

/-! ### the keys of a dict, sorted -/
def gSortK (ks zs : List Str) (d : D) : Option D := (dctK d).bind fun kvs => if kvs.map (fun q => keyI q.1) = ks.map (fun x => some (Sum.inr x)) then some (.lst (zs.map D.str)) else none
theorem strs_dr {G : Gd} {F : Hp} : ∀ zs : List Str, DRs G F (zs.map V.str) (zs.map D.str)
  | [] => .nil
  | z :: zs => .cons (.str z) (strs_dr zs)
theorem sorted_rdk (hcalm : X.calm = true) : CallR X (.builtin "sorted") (fun xs H Q => ∃ (q : Addr) (kvs : List (Key × V)) (ks : List Str), xs = [.ref q] ∧ RdK X.K X.w H q kvs ∧ kvs.map (·.1) = ks.map Sum.inr ∧ ks.length < 64 ∧ ∀ ys r, ys.Perm ks → sortedS ys = true → H r = none → Q (.ref r) (upd H r (.lst (ys.map V.str)))) := by
  intro pins s σ H xs ws Q I rr hh
  obtain ⟨q, kvs, ks, rfl, hrd, hkeys, hlt, k⟩ := hh
  obtain ⟨w0, rfl, rw0⟩ := vals1 rr
  obtain rfl : w0 = Value.ref q := rw0
  obtain ⟨nosys, us, kv, dof⟩ := hrd.of I
  obtain ⟨ep, dat⟩ := dof.dictAt
  have names : us.map (·.1) = ks.map Sum.inr := kv.keys.symm.trans hkeys
  have len : us.length = ks.length := by
    simpa only [List.length_map] using congrArg List.length names
  have small : us.length ≤ sizeLine := by rw [len, sizeLine_eq]; omega
  refine Calls.call_function_entry kind_sorted plain_sorted entry_sorted (args_sorted1 _) ?_
  unfold Builtin.«sorted»
  refine wpAny_bind (m := checkCount "sorted" 1 1 _) (wpAny_pure ?_)
  refine wpAny_bind (kdu_collect (A := X.A.in1) (kdl_dict (knd := mixKind X.prog X.w) (kvs := us) (ep := ep) nosys) (I.ok.hd hcalm) dat small fun hA tk got keep its => ?_)
  have gotLen : got.toList.length = ks.length := by rw [Array.length_toList, its.1, len]
  have texts : StrsAre got.toList ks := strs_at gotLen fun j v at_ => by
    obtain ⟨k1, x1, p1, p2⟩ := its.2 j v (by rw [← Array.getElem?_toList]; exact at_)
    have p3 : (us.map (·.1))[j]? = some k1 := by rw [List.getElem?_map, p1]; rfl
    rw [names, List.getElem?_map] at p3
    cases p4 : ks[j]? with
    | none => rw [p4] at p3; cases p3
    | some y =>
      rw [p4] at p3
      obtain rfl : Sum.inr y = k1 := Option.some.inj p3
      obtain ⟨t, ev⟩ := Value.isStrOf_shape (x := y) (v := v) p2
      exact ⟨y, t, rfl, ev⟩
  have J : Inv X pins σ H { s with heap := hA, toks := tk } := I.kept keep
  refine wpAny_bind (wpAny_newList ?_ (by rw [gotLen, sizeLine_eq]; omega))
  have hNew : (hA.push (seqObj "list" got.toList.toArray 0)).get? hA.objs.size = some (seqObj "list" got.toList.toArray 0) := Heap.get?_push_size _ rfl
  show wpAny _ _ _ _ _ { s with heap := hA.push (seqObj "list" got.toList.toArray 0), toks := tk }
  refine wpAny_bind (wpAny_holding (wpAny_call_entry slot_list_sort ⟨_, hNew, rfl⟩ entry_list_sort
    (list_sort_treeK strKind_oneLt (s := { s with heap := hA.push (seqObj "list" got.toList.toArray 0), toks := tk }) hNew texts.keysOf (fun v₁ v₂ rest e => keyKind_strs (by rw [← e]; exact texts)) (by rw [gotLen]; exact hlt) fun st' perm srt => ⟨_, rfl, ?_⟩)
    (args_list_sort _)))
  obtain ⟨ys, g1, g2, g3⟩ := sorted_out_str texts perm srt
  obtain ⟨c9, h9⟩ := sortedHeap_at (vs := got.toList) (out := (arrOf st').map (·.2)) hNew
  have fits : (ys.map V.str).length ≤ sizeLine := by
    rw [List.length_map, g2.length_eq]
    exact Nat.le_trans (Nat.le_of_lt hlt) (by decide)
  refine wpAny_pure ⟨_, rfl, .ref hA.objs.size, upd H hA.objs.size (.lst (ys.map V.str)), J.laid (t' := tk) (fun b u e => ?_) (Nat.le_refl _)
    (show ObjOk X.prog X.w _ _ _ (.lst (ys.map V.str)) from ⟨fits, ((arrOf st').map (·.2)).toList, c9, vals_of_strs g1, by rw [Array.toArray_toList]; exact h9⟩), rfl, k ys _ g2 g3 (J.hok.fresh (Nat.le_refl _))⟩
  have less : b < hA.objs.size := Heap.lt_size e
  rw [sortedHeap_old (Nat.ne_of_lt less) (by rw [size_push']; exact Nat.lt_succ_of_lt less)]
  exact Heap.get?_push_of_some _ e
theorem b_sortK (ks zs : List Str) (hc : X.calm = true) (hl : ks.length < 64) (hu : ∀ ys : List Str, ys.Perm ks → sortedS ys = true → ys = zs) : BlR X p (.builtin "sorted") (fun d => opt (gSortK ks zs d)) := ⟨_, sorted_rdk hc, fun _ => Fz.opt, fun s σ H F v d Q R hd o => by
  obtain ⟨z, hz, o3⟩ := out_opt o
  unfold gSortK at hz
  obtain ⟨kvs, h1, hz⟩ := Option.bind_eq_some_iff.mp hz
  split at hz
  · rename_i hk
    cases hz
    obtain ⟨q, ks', xs, ds, rfl, q1, q2, q3, rfl⟩ := dctK_of (hd.dr (DR.dctE h1)) h1
    have hks : ks' = ks.map Sum.inr := by
      have e1 : ((ks'.map kD).zip ds).map (fun q => keyI q.1) = ks'.map some := by
        have : ((ks'.map kD).zip ds).map (fun q => keyI q.1) = (((ks'.map kD).zip ds).map (·.1)).map keyI := by rw [List.map_map]; rfl
        rw [this, List.map_fst_zip (by rw [List.length_map, q2, q3.len]; exact Nat.le_refl _), List.map_map]
        exact List.map_congr_left fun k _ => keyI_kD k
      rw [e1] at hk
      have e2 : ks'.map some = (ks.map Sum.inr).map some := by rw [hk, List.map_map]; rfl
      exact List.map_inj_right (fun _ _ h => Option.some.inj h) |>.mp e2
    subst hks
    refine ⟨q, _, ks, rfl, q1.imp (same_rd R.le) id, List.map_fst_zip (by rw [q2]; exact Nat.le_refl _), hl, fun ys r hp hs hr => ?_⟩
    rw [hu ys hp hs]
    exact R.new o3 hr (fun _ z => nomatch z) fun f => .lst upd_same (strs_dr zs)
  · cases hz⟩
def goesK : List Str := ["e", "n", "w", "s"]
def goesS : List Str := ["e", "n", "s", "w"]
theorem goes_sorted : ∀ ys : List Str, ys.Perm goesK → sortedS ys = true → ys = goesS := by
  intro ys hp hs
  have hl := hp.length_eq
  match ys, hl with
  | [a, b, c, d], _ =>
    have ha := hp.mem_iff.mp (show a ∈ [a, b, c, d] by simp)
    have hb := hp.mem_iff.mp (show b ∈ [a, b, c, d] by simp)
    have hc := hp.mem_iff.mp (show c ∈ [a, b, c, d] by simp)
    have hd := hp.mem_iff.mp (show d ∈ [a, b, c, d] by simp)
    have key : ∀ a ∈ goesK, ∀ b ∈ goesK, ∀ c ∈ goesK, ∀ d ∈ goesK, sortedS [a, b, c, d] = true → List.isPerm [a, b, c, d] goesK = true → [a, b, c, d] = goesS := by decide +kernel
    exact key a ha b hb c hc d hd hs (List.isPerm_iff.mpr hp)

/-! ### raise -/
def sRaise (nm : Str) : Ex Fl := fun s => .exn ⟨nm, []⟩ s
theorem pmk_own0 {C : Addr} {bmB : List Value} {B newId initId : String} {x : Str} {p : Pos} (F : ExcBaseFacts B newId initId bmB) (q : PySem.W.excIn X.K C bmB newId = true) (gC : X.mg x = some (.ref C)) (kC : PySem.W.keepIn X.K (.ref C) = true) (r : Raises X (.ref C)) (hg : Gl X x)
    (hdb : (x == ("__debug__" : Str)) = false := by decide) : PMk X (.Call (.Name x p) [] [] pos) (fun _ H Q => Q (.ref C) none H) := by
  intro pins s σ H Q I h
  refine wpAny_Call_Name_kw (ld_glob I hg gC ?_ hdb)
  refine PySem.W.callWith_K0 I.kIn kC ?_
  obtain ⟨bm, N, nm, qn, bs, hdct, sn, sub, ab, col, dd, k0, k1, k2, k3, k5, mN, hC, hN, hni, T⟩ := exc_obj I.kIn q
  exact wpAny_call_exc_subT F T hC hN hni (fun h' e hm => mk_of I hm r h (I.hok.gone hm.new)) (by show 0 ≤ sizeLine; omega)
theorem s_raise {x : Str} {C : Addr} {bmB : List Value} {B newId initId : String} {q1 q2 : Pos} (hc : X.calm = true) (tk : Takes X p.W) (F : ExcBaseFacts B newId initId bmB) (q : PySem.W.excIn X.K C bmB newId = true) (gC : X.mg x = some (.ref C)) (kC : PySem.W.keepIn X.K (.ref C) = true) (r : Raises X (.ref C)) (hg : Gl X x := by rfl)
    (hdb : (x == ("__debug__" : Str)) = false := by decide) : ES X p (.Raise (some (.Call (.Name x q1) [] [] q2)) none pos) (sRaise x) := by
  refine PS.weak (ps_raise hc tk (pmk_own0 F q gC kC r hg hdb)) fun E σ H ⟨s, F, R, o⟩ => ?_
  exact o _ none σ H F R (Same.refl _) ⟨C, gC, rfl, rfl⟩

/-! ### a lambda, heard -/
def cutS (s s1 : AS) : AS := ⟨List.zipWith (fun x y => if ownAt y = true ∧ ownAt x = false then .no else y) s.sl s1.sl, s1.bag⟩
theorem zip_cut : ∀ {l l1 : List SV}, l.length = l1.length → (∀ (i : Nat) (x : SV), l1[i]? = some x → ownAt x = true → ∃ y, l[i]? = some y ∧ ownAt y = true) → List.zipWith (fun x y => if ownAt y = true ∧ ownAt x = false then SV.no else y) l l1 = l1
  | [], [], _, _ => rfl
  | [], _ :: _, h, _ => by simp at h
  | _ :: _, [], h, _ => by simp at h
  | x :: l, y :: l1, h, k => by
    rw [List.zipWith_cons_cons, zip_cut (by simpa using h) fun i z hz oz => k (i + 1) z (by simpa using hz) oz]
    rw [if_neg]
    rintro ⟨h1, h2⟩
    obtain ⟨z, e1, e2⟩ := k 0 y rfl h1
    cases e1
    rw [h2] at e2; cases e2
theorem cut_eq {s s1 : AS} (hl : s.sl.length = s1.sl.length) (h : OwnLe s1 s) : cutS s s1 = s1 := by
  unfold cutS
  rw [zip_cut hl h]
theorem cut_own (s s1 : AS) : OwnLe (cutS s s1) s := fun i x h o => by
  have h' : (List.zipWith (fun x y => if ownAt y = true ∧ ownAt x = false then SV.no else y) s.sl s1.sl)[i]? = some x := h
  rw [List.getElem?_zipWith] at h'
  cases e1 : s.sl[i]? with
  | none => rw [e1] at h'; cases h'
  | some y =>
    cases e2 : s1.sl[i]? with
    | none => rw [e1, e2] at h'; cases h'
    | some z =>
      rw [e1, e2] at h'
      dsimp only at h'
      split at h'
      · cases h'; cases o
      · rename_i hn
        cases h'
        refine ⟨y, rfl, ?_⟩
        cases q : ownAt y with
        | true => rfl
        | false => exact absurd ⟨o, q⟩ hn
def fHeard (told nothing nm : Str) (m : Ex D) : Ex D := fun s => match m s with
  | .ok d s' => .ok (.tup [.str told, d]) s'
  | .exn e s' => if e.cls = nm then .ok (.tup [.str nothing]) (cutS s s') else .bad
  | .bad => .bad
theorem cw_lam {k : Nat} {scope : Scope} {A : Around} {outer : List Env} {s : Shared} {H : Hp} {E : XK} {f c' : Addr} {W : WX} {k' : Nat} {g : Bool} (C : Cw X W k' g) (hr : Room k (A.deeper (LamX.lamEnv X scope s.heap.objs.size f c'))) : Cw (LamX.lamCx X A outer s H E scope f c') (wD E) k false :=
  ⟨rfl, C.nd, passAt (takes_of rfl rfl rfl rfl), hr, fun z => nomatch z⟩
def TTheard (K : PySem.W.Frag) (CS : Addr) (told nothing : Str) : (XK → Hp → VK → Prop) → Hp → VK → Prop := fun tl H Q =>
  tl (fun cls _ H' => ∃ r, PySem.W.exmOne K cls (.ref CS) = some r ∧ (r = true → [V.str nothing].length ≤ sizeLine ∧ ∀ q, H' q = none → Q (.ref q) (upd H' q (.tup [.str nothing]))) ∧ (r = false → False)) H (fun v H1 => [V.str told, v].length ≤ sizeLine ∧ ∀ q, H1 q = none → Q (.ref q) (upd H1 q (.tup [.str told, v])))
theorem heard_gives {Ng : List Str} {x a e q told nothing : Str} {sg : Scope} {g CS : Addr} {cdg : Value} {j j2 k1 k2 : Nat} {p1 p2 p3 p4 p5 p6 p7 p8 p9 p10 p11 : Pos} (hge : sg.names.lookup e = some .globalImplicit) (hme : X.mg e = some (.ref CS)) (hde : (e == ("__debug__" : Str)) = false) (h0 : ∀ f : Addr, (L2.start Ng [V.ref f])[0]? = some (some (V.ref f))) :
    LamX.GivesTo X Ng x sg g cdg [.Try [.Return (some (.Tuple [.Constant (.str told) j p9, .Call (.Name a p1) [] [] p2] k1 p10)) p3] [.ExceptHandler (some (.Name e p4)) none [.Return (some (.Tuple [.Constant (.str nothing) j2 p5] k2 p11)) p6] p7] [] [] p8] a q (TTheard X.K CS told nothing) := by
  intro f c' s H Q tl act hc h
  have hgl : Gl (cxOf C8.CX0 X.prog X.w X.K X.mg X.base Ng x sg g cdg X.A X.stack s H C8.E0).nox e := hge
  refine ⟨_, pss_one (ps_try_only (X := (cxOf C8.CX0 X.prog X.w X.K X.mg X.base Ng x sg g cdg X.A X.stack s H C8.E0).nox) (c := .ref CS)
      (tb := fun W D σ H => ∃ Ech : XK, (∀ cls d σ' H', Ech cls d H' → W cls d σ' H') ∧ σ[0]? = some (some (.ref f)) ∧ H c' = some (LamX.CodeO c' q) ∧ tl Ech H (fun v H1 => [V.str told, v].length ≤ sizeLine ∧ ∀ q, H1 q = none → D.rt (.ref q) (upd H1 q (.tup [.str told, v]))))
      rfl rfl ⟨hgl, hde, .inl hme⟩ LamX.takes0 (fun W pn xe tk _ => ?_) (fun a oe cls d pn _ _ => pss_one (ps_ret (pe_tup (pa_cons pe_str pa_nil))))), ?_⟩
  · refine ⟨fun pins s' σ H' D I h' => ?_⟩
    obtain ⟨Ech, hW, h1, h2, h3⟩ := h'
    have hp := act W pn xe Ech p1 p2 tk hW
    have hq := pss_one (ps_ret (pos := p3) (pe_tup (x1 := k1) (pos := p10) (pa_cons (pe_str (x := told) (j := j) (pos := p9)) (pa_cons hp pa_nil))))
    exact hq.run pins s' σ H' D I ⟨h1, h2, h3⟩
  · exact ⟨fun cls _ H' => ∃ r, PySem.W.exmOne X.K cls (.ref CS) = some r ∧ (r = true → [V.str nothing].length ≤ sizeLine ∧ ∀ q, H' q = none → Q (.ref q) (upd H' q (.tup [.str nothing]))) ∧ (r = false → False), fun cls d σ' H' ⟨r, e1, e2, e3⟩ => ⟨r, e1, fun hr a _ => e2 hr, fun hr => e3 hr⟩, h0 f, hc, h⟩

/-- all but the tables of code stays: the state is as it was -/
theorem Grow.extN {G : Gd} {H H1 : Hp} (e : LamX.ExtN H H1) (t : LamX.Tabs G.tb H1) : Grow G H H1 := ⟨fun a o h _ _ n => e a o h n, fun _ => t⟩
theorem fr_extN {H H1 : Hp} {a : Addr} (e : LamX.ExtN H H1) (h : fr H1 a) : fr H a := fun o ho => by
  refine Classical.byContradiction fun n => ?_
  exact n (h o (e a o ho fun ps z => n ⟨ps, z⟩))
theorem Rel.extN {G : Gd} {H0 F0 H F H1 : Hp} {s : AS} {σ : L2.St} (R : Rel G H0 F0 s σ H F) (e : LamX.ExtN H H1) (t : LamX.Tabs G.tb H1) : Rel G H0 F0 s σ H1 F where
  le := fun a o h => e a o (R.le a o h) fun ps z => R.notbl a ps (by rw [h, z])
  base := R.base
  newF := R.newF
  grow := R.grow.trans (Grow.extN e t)
  bag := by
    obtain ⟨h1, h2, h3, h4⟩ := R.bag
    exact ⟨e _ _ h1 (fun _ z => nomatch z), e _ _ h2 (fun _ z => nomatch z), h3, h4⟩
  len := R.len
  slot := fun i x h => (R.slot i x h).laid (Same.refl _) (fun _ _ h _ _ => h) fun a u h1 _ o ex => by
    obtain ⟨a', u', e1, e2, _, _, nt⟩ := (R.slot i x h).ownAddr o
    rw [ex] at e1
    cases e1
    rw [h1] at e2
    cases e2
    exact e a u h1 fun ps z => nt (.inl ⟨ps, z⟩)
  dist := R.dist
  notbl := R.notbl
  bag0 := R.bag0
  kept := fun a h => R.kept a (fr_extN e h)
theorem Stp.extN {G : Gd} {σ : L2.St} {s : AS} {H F H1 : Hp} (e : LamX.ExtN H H1) (t : LamX.Tabs G.tb H1) : Stp G σ s H F s H1 F := ⟨Same.refl _, Grow.extN e t, fun _ h => fr_extN e h, OwnLe.refl _, fun _ _ h => .inl h⟩
theorem e_heard {k kk : Nat} {gb : Bool} {x a told nothing nm : Str} {g CS c P : Addr} {fd : FuncData} {sth : Stmt} {Ng : List Str} {params : Arguments} {lbody : Expr} {scope : Scope} {lpos q0 : Pos} (C : Cw X p.W kk gb)
    (Fh : Fun X.K x x sth g fd) (hm : X.mg x = some (.ref g)) (hb : L2.Binds X.K fd [a] []) (Sg : FnScope Ng [a] (defScope sth)) (hNg : Ng[0]? = some a) (hva : Vis (defScope sth) a)
    (hG : ∀ cdg, LamX.GivesTo X Ng x (defScope sth) g cdg (defBody sth) a (X.env.qual ++ "<lambda>") (TTheard X.K CS told nothing))
    (hCS : X.mg nm = some (.ref CS)) (hEx : PySem.W.exmOne X.K (.ref CS) (.ref CS) = some true)
    (TB : LamX.TabB X.base X.mg c P) (hcode : X.env.code = .ref c) (hmT : (P, X.env.qual ++ "<lambda>") ∈ p.tb) (hu : ∀ r ∈ p.tb, r.1 = P → r.2 = X.env.qual ++ "<lambda>") (hT0 : LamX.Tabs p.tb p.H0) (hk : k + 2 ≤ kk) (L : LamX.LamS X.env.scope scope)
    (hbody : ∀ (A : Around) (outer : List Env) (s : Shared) (H : Hp) (E : XK) (f c' : Addr), Room k (A.deeper (LamX.lamEnv X scope s.heap.objs.size f c')) → EE (LamX.lamCx X A outer s H E scope f c') { p with W := wD E } lbody ma)
    (hbind : ∀ (q : Str) (cl : List (Str × Addr)) (pm cv ctv : Value), bindArgs (PySem.W.kla_fn "<lambda>" q params lbody scope cl pm cv ctv) ⟨[], []⟩ = pure [] := by intros; rfl) (hdef : defaultsOf params X.env = ([], []) := by rfl) (hg : Gl X x := by rfl)
    (hdb : (x == ("__debug__" : Str)) = false := by decide) (hd : (a == ("__debug__" : Str)) = false := by decide) (hcd : (a == ("__classdict__" : Str)) = false := by decide) :
    EE X p (.Call (.Name x q0) [.Lambda params lbody scope lpos] [] pos) (fHeard told nothing nm ma) := by
  have hz : Fz ma := (hbody (X.A.deeper X.env) [] X.s_0 X.H_0 (fun _ _ _ => True) 0 0 (((C.room.mono hk).deeper _).deeper _)).2
  obtain ⟨⟨oc, od, kV, doc, pm, an, cdv, ct, osl, rfl, lk, hcg⟩, hkp⟩ := Fh
  refine ⟨PE.weak (LamX.pe_lamcall hg hm hkp lk hcg hb Sg hNg hva (hG _) TB hcode hmT hu (C.room.mono hk) L hdef hbind (t := fun E => tG (GX X p) p.H0 p.F0 (wD E) (rE (GX X p)) ma) (fun A outer s H E f c' hr => (hbody A outer s H E f c' hr).1) hdb hd hcd) fun σ H Q ⟨s, F, R, o⟩ => ?_, fun s d s' e => ?_⟩
  · refine ⟨R.grow.tabs hT0, fun H1 eN hT1 => ?_⟩
    have R1 := R.extN (G := GX X p) eN hT1
    have z1 : Stp (GX X p) σ s H F s H1 F := Stp.extN eN hT1
    refine ⟨s, F, R1, ?_⟩
    unfold fHeard at o
    have lay : ∀ {s' : AS} {H' F' : Hp} {q : Addr} {vs : List V} {ds : List D}, Rel (GX X p) p.H0 p.F0 s' σ H' F' → Stp (GX X p) σ s H1 F s' H' F' → H' q = none → DRs (GX X p) F' vs ds → OutG (GX X p) p.H0 p.F0 p.W (rE (GX X p)) s σ H F Q (.ok (.tup ds) s') → Q (.ref q) (upd H' q (.tup vs)) := fun {s' H' F' q vs ds} R' z hq hds o => by
      have hF : F' q = none := by
        cases e : F' q with
        | none => rfl
        | some u => rw [R'.le _ _ e] at hq; cases hq
      have zl : Stp (GX X p) σ s' H' F' s' (upd H' q (.tup vs)) (upd F' q (.tup vs)) := Stp.laid hq hF
      exact o _ _ _ (R'.laid hq (fun _ z => nomatch z)) (z1.trans (z.trans zl)) (.tup (SqT.of upd_same) (hds.mono zl.same))
    cases q : ma s with
    | ok d s' =>
      rw [q] at o
      exact fun v H' F' R' z hd => ⟨by rw [sizeLine_eq]; simp, fun r hr => lay R' z hr (.cons (.str told) (.cons hd .nil)) o⟩
    | exn e s' =>
      rw [q] at o
      dsimp only at o
      intro cls d H' F' R' z hx
      obtain ⟨C', hC, rfl, _⟩ := hx
      by_cases he : e.cls = nm
      · rw [if_pos he] at o
        have hC : X.mg e.cls = some (.ref C') := hC
        rw [he, hCS] at hC
        cases hC
        rw [cut_eq (by rw [R.len, R'.len]) z.own] at o
        exact ⟨true, hEx, fun _ => ⟨by rw [sizeLine_eq]; simp, fun r hr => lay R' z hr (.cons (.str nothing) .nil) o⟩, fun z => nomatch z⟩
      · rw [if_neg he] at o; exact o.elim
    | bad => rw [q] at o; exact o.elim
  · unfold fHeard at e
    cases q : ma s with
    | ok d' s1 => rw [q] at e; cases e; exact hz s d' _ q
    | exn x s1 =>
      rw [q] at e
      dsimp only at e
      split at e
      · cases e; exact cut_own s s1
      · cases e
    | bad => rw [q] at e; cases e
end
end Ink

set_option Elab.async false
set_option maxRecDepth 100000
set_option autoImplicit false
set_option linter.unusedVariables false
/-! Ink11: comprehensions of two clauses. -/
namespace Ink
open PySem PySem.Spec PyProof.Rows L2

theorem wipe_sub {σ : L2.St} {vs vs1 : List Nat} (h : ∀ i ∈ vs1, i ∈ vs) : wipe (wipe σ vs1) vs = wipe σ vs := by
  refine List.ext_getElem? fun i => ?_
  by_cases hi : i ∈ vs
  · by_cases hl : i < σ.length
    · rw [wipe_in hi (by rw [wipe_length]; exact hl), wipe_in hi hl]
    · rw [List.getElem?_eq_none (by rw [wipe_length, wipe_length]; omega), List.getElem?_eq_none (by rw [wipe_length]; omega)]
  · rw [wipe_out hi, wipe_out hi, wipe_out fun z => hi (h i z)]

/-- a comprehension under way: the list at q is hidden, holds acc -/
structure CQ (G : Gd) (H0 F0 : Hp) (σ : L2.St) (vs : List Nat) (s1 : AS) (H1 F1 : Hp) (q : Addr) (s' : AS) (σa : L2.St) (H' F' : Hp) (acc : List D) : Prop where
  rel : Rel G H0 F0 s' σa H' F'
  stp : Stp G σ s1 H1 F1 s' H' F'
  vw : ∀ i, i ∉ vs → σa[i]? = σ[i]?
  out : ∀ (i : Nat) (x : SV), s'.sl[i]? = some x → ownAt x = true → i ∉ vs
  pend : ∃ accV, Pend G H0 s' σa H' F' q (.lst accV) ∧ DRs G F' accV acc
section
variable {G : Gd} {H0 F0 : Hp} {σ : L2.St} {vs : List Nat} {s1 : AS} {H1 F1 : Hp} {q : Addr} {s' : AS} {σa : L2.St} {H' F' : Hp} {acc : List D}
theorem liftS {σ σa : L2.St} {vs : List Nat} {sx sy : AS} {Ha Fa Hb Fb : Hp} (vw : ∀ i, i ∉ vs → σa[i]? = σ[i]?) (out : ∀ (i : Nat) (x : SV), sx.sl[i]? = some x → ownAt x = true → i ∉ vs) (z : Stp G σa sx Ha Fa sy Hb Fb) : Stp G σ sx Ha Fa sy Hb Fb :=
  ⟨z.same, z.grow, z.kept, z.own, fun a o h => by
    rcases z.newF a o h with h | h | h | ⟨i, x, h1, h2, h3⟩
    · exact .inl h
    · exact .inr (.inl h)
    · exact .inr (.inr (.inl h))
    · exact .inr (.inr (.inr ⟨i, x, h1, h2, by rw [← vw i (out i x h1 h2)]; exact h3⟩))⟩
theorem out_mono {sx sy : AS} (out : ∀ (i : Nat) (x : SV), sx.sl[i]? = some x → ownAt x = true → i ∉ vs) (h : OwnLe sy sx) : ∀ (i : Nat) (x : SV), sy.sl[i]? = some x → ownAt x = true → i ∉ vs := fun i x e o => by
  obtain ⟨y, e1, e2⟩ := h i x e o
  exact out i y e1 e2
theorem CQ.step {sy : AS} {Hb Fb : Hp} (c : CQ G H0 F0 σ vs s1 H1 F1 q s' σa H' F' acc) (R : Rel G H0 F0 sy σa Hb Fb) (z : Stp G σa s' H' F' sy Hb Fb) : CQ G H0 F0 σ vs s1 H1 F1 q sy σa Hb Fb acc := by
  obtain ⟨accV, hp, hd⟩ := c.pend
  exact ⟨R, c.stp.trans (liftS c.vw c.out z), c.vw, out_mono c.out z.own, accV, z.hid2 c.rel R hp (fun _ z => nomatch z) (fun _ z => nomatch z), hd.mono z.same⟩
theorem CQ.move {sy : AS} {σb : L2.St} (c : CQ G H0 F0 σ vs s1 H1 F1 q s' σa H' F' acc) (R : Rel G H0 F0 sy σb H' F') (o : OwnLe sy s') (vw : ∀ i, i ∉ vs → σb[i]? = σ[i]?) : CQ G H0 F0 σ vs s1 H1 F1 q sy σb H' F' acc := by
  obtain ⟨accV, hp, hd⟩ := c.pend
  refine ⟨R, c.stp.trans ⟨Same.refl _, Grow.refl _ _, fun _ h => h, o, fun _ _ h => .inl h⟩, vw, out_mono c.out o, accV, ⟨hp.at_, hp.out, hp.old, fun i x h1 h2 e => ?_⟩, hd⟩
  obtain ⟨y, e1, e2⟩ := o i x h1 h2
  have hi := c.out i y e1 e2
  exact hp.no i y e1 e2 (by rw [c.vw i hi, ← vw i hi]; exact e)
theorem CQ.app {accV : List V} {y : V} {d : D} (c : CQ G H0 F0 σ vs s1 H1 F1 q s' σa H' F' acc) (h1 : H1 q = none) (ha : H' q = some (.lst accV)) (hd : DR G F' y d) : CQ G H0 F0 σ vs s1 H1 F1 q s' σa (upd H' q (.lst (accV ++ [y]))) F' (acc ++ [d]) := by
  obtain ⟨accV', hp, hds⟩ := c.pend
  have : accV' = accV := by
    have := hp.at_
    rw [ha] at this
    cases this; rfl
  subst this
  have nt : ∀ u, H' q = some u → ¬ isTab u := fun u h => by rw [hp.at_] at h; cases h; exact tab_lst
  refine ⟨c.rel.side hp.out hp.old nt hp.no, ⟨c.stp.same, c.stp.grow.upd (fr_none h1) nt, fun a h => ?_, c.stp.own, c.stp.newF⟩, c.vw, c.out, _, ⟨upd_same, hp.out, hp.old, hp.no⟩, hds.app (.cons hd .nil)⟩
  by_cases e : a = q
  · rw [e]; exact fr_none h1
  · exact c.stp.kept a (fr_upd h e)
theorem CQ.lay {T : Addr} {u : HO} (c : CQ G H0 F0 σ vs s1 H1 F1 q s' σa H' F' acc) (hT : H' T = none) (hn : ∀ ps, u ≠ .tbl ps) : CQ G H0 F0 σ vs s1 H1 F1 q s' σa (upd H' T u) (upd F' T u) acc ∧ Same F' (upd F' T u) := by
  have hF : F' T = none := by
    cases e : F' T with
    | none => rfl
    | some w => have := c.rel.le _ _ e; rw [hT] at this; cases this
  have z : Stp G σa s' H' F' s' (upd H' T u) (upd F' T u) := Stp.laid hT hF
  exact ⟨c.step (c.rel.laid hT hn) z, z.same⟩
end

def innM (vs1 : List Nat) (src1 : Ex (List D)) (g1 : D → Ex Unit) (t1 : Ex Bool) (me : Ex D) : Ex (List D) := bnd src1 fun ds1 s => compM vs1 g1 t1 me ds1 (wipeS vs1 s)
def one2 (vs : List Nat) (g : D → Ex Unit) (t : Ex Bool) (inn : Ex (List D)) (d : D) : Ex (List D) := fun s => match bnd (g d) (fun _ => bnd t fun k => if k = true then inn else ret []) s with
  | .ok o s' => .ok o (wipeS vs s')
  | _ => .bad
def comp2 (vs : List Nat) (g : D → Ex Unit) (t : Ex Bool) (inn : Ex (List D)) : List D → Ex (List D)
  | [] => ret []
  | d :: ds => bnd (one2 vs g t inn d) fun xs => bnd (comp2 vs g t inn ds) fun ys => ret (xs ++ ys)
def fLc2 (vs : List Nat) (src : Ex (List D)) (g : D → Ex Unit) (t : Ex Bool) (vs1 : List Nat) (src1 : Ex (List D)) (g1 : D → Ex Unit) (t1 : Ex Bool) (me : Ex D) : Ex D := bnd src fun ds s => if okW vs s = true then match comp2 vs g t (innM vs1 src1 g1 t1 me) ds (wipeS vs s) with
    | .ok ys s1 => if ys.length ≤ 16777216 then .ok (.lst ys) (restS vs s s1) else .bad
    | _ => .bad
  else .bad
section
variable {X : Cx} {p : Pm} {pos : Pos}
theorem one2_ok {vs : List Nat} {g : D → Ex Unit} {t : Ex Bool} {inn : Ex (List D)} {d : D} {s s' : AS} {o : List D} (h : one2 vs g t inn d s = .ok o s') :
    ∃ sa k sb, g d s = .ok () sa ∧ t sa = .ok k sb ∧ ((k = true ∧ ∃ sc, inn sb = .ok o sc ∧ s' = wipeS vs sc) ∨ (k = false ∧ o = [] ∧ s' = wipeS vs sb)) := by
  unfold one2 at h
  cases q : bnd (g d) (fun _ => bnd t fun k => if k = true then inn else ret []) s with
  | ok o1 s9 =>
    rw [q] at h
    cases h
    obtain ⟨_, sa, e1, e2⟩ := bnd_ok q
    obtain ⟨k, sb, e3, e4⟩ := bnd_ok e2
    cases k with
    | true => rw [if_pos rfl] at e4; exact ⟨sa, true, sb, e1, e3, .inl ⟨rfl, s9, e4, rfl⟩⟩
    | false => rw [if_neg Bool.false_ne_true] at e4; cases e4; exact ⟨sa, false, _, e1, e3, .inr ⟨rfl, rfl, rfl⟩⟩
  | exn _ _ => rw [q] at h; cases h
  | bad => rw [q] at h; cases h
theorem fz_inn {vs1 : List Nat} {src1 : Ex (List D)} {g1 : D → Ex Unit} {t1 : Ex Bool} {me : Ex D} (h1 : Fz src1) (h2 : GFz vs1 g1) (h3 : Fz t1) (h4 : Fz me) : Fz (innM vs1 src1 g1 t1 me) := fun s a s' e => by
  unfold innM at e
  obtain ⟨ds, s1, e1, e2⟩ := bnd_ok e
  exact ((fz_comp h2 h3 h4 ds _ _ _ e2).trans (ownLe_wipe _ _)).trans (h1 _ _ _ e1)
theorem fz_one2 {vs : List Nat} {g : D → Ex Unit} {t : Ex Bool} {inn : Ex (List D)} (hg : GFz vs g) (ht : Fz t) (hi : Fz inn) (d : D) : Fz (one2 vs g t inn d) := fun s a s' e => by
  obtain ⟨sa, k, sb, e1, e2, h⟩ := one2_ok e
  have o := (ht _ _ _ e2).trans (hg _ _ _ e1)
  rcases h with ⟨_, sc, e3, rfl⟩ | ⟨_, _, rfl⟩
  · exact (ownLe_wipe _ _).trans ((hi _ _ _ e3).trans o)
  · exact (ownLe_wipe _ _).trans o
theorem fz_comp2 {vs : List Nat} {g : D → Ex Unit} {t : Ex Bool} {inn : Ex (List D)} (hg : GFz vs g) (ht : Fz t) (hi : Fz inn) : ∀ ds, Fz (comp2 vs g t inn ds)
  | [] => Fz.ret
  | d :: ds => Fz.bnd (fz_one2 hg ht hi d) fun _ => Fz.bnd (fz_comp2 hg ht hi ds) fun _ => Fz.ret
theorem drop_get {ds : List D} {i : Nat} (h : i < ds.length) : ∃ d, ds[i]? = some d ∧ ds.drop i = d :: ds.drop (i + 1) := ⟨ds[i], List.getElem?_eq_getElem h, List.drop_eq_getElem_cons h⟩
theorem e_lc2 {vs vs1 : List Nat} {elt tg iter tg1 iter1 : Expr} {ifs ifs1 : List Expr} {scope : Scope} {own : List (Str × Nat)} {src src1 : Ex (List D)} {g g1 : D → Ex Unit} {t t1 : Ex Bool} {me : Ex D} (hc : X.calm = true) (hN : X.N.Nodup) (hi : EI X p tg iter src) (ok : BlkOk X.N X.env.scope scope own) (hv : own.map (·.2) = vs) (hv1 : ∀ i ∈ vs1, i ∈ vs)
    (hg : ∀ (s : Shared) (H : Hp) (C : Addr) (cl : List (Str × Addr)) (fp : List Addr), EG (X.blk s H scope (compEnvC scope cl C X.env) fp) (pF p) vs tg g) (hgn : Calm g) (hgf : GFz vs g)
    (ht : ∀ (s : Shared) (H : Hp) (C : Addr) (cl : List (Str × Addr)) (fp : List Addr), ETs (X.blk s H scope (compEnvC scope cl C X.env) fp) (pF p) ifs t)
    (hi1 : ∀ (s : Shared) (H : Hp) (C : Addr) (cl : List (Str × Addr)) (fp : List Addr), EI (X.blk s H scope (compEnvC scope cl C X.env) fp) (pF p) tg1 iter1 src1)
    (hg1 : ∀ (s : Shared) (H : Hp) (C : Addr) (cl : List (Str × Addr)) (fp : List Addr), EG (X.blk s H scope (compEnvC scope cl C X.env) fp) (pF p) vs1 tg1 g1) (hgn1 : Calm g1) (hgf1 : GFz vs1 g1)
    (ht1 : ∀ (s : Shared) (H : Hp) (C : Addr) (cl : List (Str × Addr)) (fp : List Addr), ETs (X.blk s H scope (compEnvC scope cl C X.env) fp) (pF p) ifs1 t1)
    (he : ∀ (s : Shared) (H : Hp) (C : Addr) (cl : List (Str × Addr)) (fp : List Addr), EE (X.blk s H scope (compEnvC scope cl C X.env) fp) (pF p) elt me)
    (hs : ∀ x, foldedSetIterable iter X.env x = pure x := by intro _; rfl) (hs1 : ∀ env x, foldedSetIterable iter1 env x = pure x := by intro _ _; rfl) :
    EE X p (.ListComp elt [⟨tg, iter, ifs, 0⟩, ⟨tg1, iter1, ifs1, 0⟩] scope pos) (fLc2 vs src g t vs1 src1 g1 t1 me) := by
  have hft : Fz t := (ht X.s_0 X.H_0 0 [] []).2
  have hft1 : Fz t1 := (ht1 X.s_0 X.H_0 0 [] []).2
  have hfe : Fz me := (he X.s_0 X.H_0 0 [] []).2
  have hfi : Fz src1 := (hi1 X.s_0 X.H_0 0 [] []).2
  have hfn : Fz (innM vs1 src1 g1 t1 me) := fz_inn hfi hgf1 hft1 hfe
  refine ⟨?_, Fz.bnd hi.2 fun ds s a s' e => ?_⟩
  · refine PE.weak (pe_lc2 (own := own) (vs1 := vs1) (g := tU (GX X p) p.H0 p.F0 vs g) (tt := tG (GX X p) p.H0 p.F0 wF rT t) (wi1 := tG (GX X p) p.H0 p.F0 wF (rJ (GX X p)) src1) (g1 := tU (GX X p) p.H0 p.F0 vs1 g1) (tt1 := tG (GX X p) p.H0 p.F0 wF rT t1) (te := tG (GX X p) p.H0 p.F0 wF (rE (GX X p)) me) hc hN hi.1 ok (by rw [hv]; exact hv1)
      (fun s H C cl fp => hg s H C cl fp) (fun s H C cl fp => (ht s H C cl fp).1) (fun s H C cl fp => (hi1 s H C cl fp).1) (fun s H C cl fp => hg1 s H C cl fp) (fun s H C cl fp => (ht1 s H C cl fp).1) (fun s H C cl fp => (he s H C cl fp).1) hs hs1) fun σ H Q ⟨s, F, R, o⟩ => ?_
    rw [hv]
    refine bindK (r := rJ (GX X p)) R o fun J H1 ds s1 F1 R1 f1 z1 hJ o1 _ => ?_
    intro D' hD
    split at o1
    case isFalse => exact o1.elim
    rename_i hok
    cases hr0 : comp2 vs g t (innM vs1 src1 g1 t1 me) ds (wipeS vs s1) with
    | exn _ _ => rw [hr0] at o1; exact o1.elim
    | bad => rw [hr0] at o1; exact o1.elim
    | ok r0 s00 =>
    rw [hr0] at o1
    dsimp only at o1
    split at o1
    case isFalse => exact o1.elim
    rename_i hlen
    have c0 : CQ (GX X p) p.H0 p.F0 σ vs s1 H1 F1 D' (wipeS vs s1) (wipe σ vs) (upd H1 D' (.lst [])) F1 [] := by
      obtain ⟨Ra, Pa, za⟩ := R1.newPend (o := .lst []) hD
      have Rw := R1.wiped vs
      obtain ⟨Rb, Pb, zb⟩ := Rw.newPend (o := .lst []) hD
      refine ⟨Rb, ⟨za.same, za.grow, za.kept, ownLe_wipe vs s1, za.newF⟩, fun i hi => wipe_out hi, fun i x h1 h2 hm => ?_, [], Pb, .nil⟩
      have h := Rw.slot i x h1
      have hl : i < σ.length := by
        have := (List.getElem?_eq_some_iff.mp h1).1
        rw [Rw.len, wipe_length] at this
        exact this
      obtain ⟨a, u, e, _⟩ := h.ownAddr h2
      rw [wipe_in hm hl] at e
      cases e
    refine ⟨fun i m' H' => m' = ds.length - i ∧ i ≤ ds.length ∧ ∃ s' F' acc, CQ (GX X p) p.H0 p.F0 σ vs s1 H1 F1 D' s' (wipe σ vs) H' F' acc ∧ ∃ r, comp2 vs g t (innM vs1 src1 g1 t1 me) (ds.drop i) s' = .ok r s00 ∧ acc ++ r = r0, ⟨_, rfl, Nat.zero_le _, _, F1, [], c0, r0, hr0, rfl⟩, ?_⟩
    rintro i m' H' ⟨rfl, hi', s', F', acc, c, r, hr, hacc⟩
    by_cases hlt : i < ds.length
    · obtain ⟨d, hd, hdr⟩ := drop_get hlt
      rw [hdr] at hr
      unfold comp2 at hr
      obtain ⟨xs, s4, e1, e2⟩ := bnd_ok hr
      obtain ⟨r2, s5, e3, e4⟩ := bnd_ok e2
      cases e4
      obtain ⟨sa, kb, sb, ea, eb, ec⟩ := one2_ok e1
      refine .inr ⟨hJ.go i H' F' c.stp.same c.rel.le hlt, fun H2 => ∃ F2, CQ (GX X p) p.H0 p.F0 σ vs s1 H1 F1 D' s4 (wipe σ vs) H2 F2 (acc ++ xs), fun H2 ⟨F2, c2⟩ => ⟨_, by omega, rfl, hlt, s4, F2, _, c2, r2, e3, by rw [List.append_assoc]; exact hacc⟩, fun x H2 y => ?_⟩
      have main : ∀ F2, CQ (GX X p) p.H0 p.F0 σ vs s1 H1 F1 D' s' (wipe σ vs) H2 F2 acc → DR (GX X p) F2 x d → tU (GX X p) p.H0 p.F0 vs g x (wipe σ vs) H2 fun σ2 H2 => wipe σ2 vs = wipe σ vs ∧ tG (GX X p) p.H0 p.F0 wF rT t σ2 H2 fun b H3 =>
          if b = true then tG (GX X p) p.H0 p.F0 wF (rJ (GX X p)) src1 σ2 H3 fun J1 H4 => ∃ W1 : Nat → Nat → Hp → Prop, (∃ m, W1 0 m H4) ∧ ∀ j k H, W1 j k H →
            (J1.stop j H ∧ ∃ F2, CQ (GX X p) p.H0 p.F0 σ vs s1 H1 F1 D' s4 (wipe σ vs) H F2 (acc ++ xs)) ∨ (J1.go j H ∧ ∃ Nx1 : Hp → Prop, (∀ H', Nx1 H' → ∃ k', k' < k ∧ W1 (j + 1) k' H') ∧ ∀ x H', J1.yld j H x H' → tU (GX X p) p.H0 p.F0 vs1 g1 x (wipe σ2 vs1) H' fun σ3 H5 => wipe σ3 vs1 = wipe σ2 vs1 ∧ tG (GX X p) p.H0 p.F0 wF rT t1 σ3 H5 fun b H6 =>
              if b = true then tG (GX X p) p.H0 p.F0 wF (rE (GX X p)) me σ3 H6 fun y H7 => ∃ acc, H7 D' = some (.lst acc) ∧ acc.length < sizeLine ∧ Nx1 (upd H7 D' (.lst (acc ++ [y]))) else Nx1 H6)
          else ∃ F2, CQ (GX X p) p.H0 p.F0 σ vs s1 H1 F1 D' s4 (wipe σ vs) H3 F2 (acc ++ xs) := by
        intro F2 c2 hx
        refine ⟨d, s', F2, c2.rel, hx, ?_⟩
        rw [ea]
        intro σ2 R3 hw
        rw [wipe_wipe] at hw
        have vw2 : ∀ i, i ∉ vs → σ2[i]? = σ[i]? := fun i h => by rw [← wipe_out (σ := σ2) h, hw, wipe_out h]
        have c3 := c2.move R3 (hgf _ _ _ ea) vw2
        refine ⟨hw, sa, F2, R3, ?_⟩
        rw [eb]
        intro b H3 F3 R4 z4 hb
        subst hb
        have c4 := c3.step R4 z4
        rcases ec with ⟨rfl, sc, ein, rfl⟩ | ⟨rfl, rfl, rfl⟩
        · unfold innM at ein
          obtain ⟨ds1, sd, es, ecm⟩ := bnd_ok ein
          refine iteT ⟨sb, F3, R4, ?_⟩
          rw [es]
          intro J1 H4 F4 R5 z5 hJ1
          have c5 := c4.step R5 z5
          have vwi : ∀ i, i ∉ vs → (wipe σ2 vs1)[i]? = σ[i]? := fun i h => by rw [wipe_out fun z => h (hv1 i z), vw2 i h]
          have c6 := c5.move (R5.wiped vs1) (ownLe_wipe vs1 sd) vwi
          refine ⟨fun j k H => k = ds1.length - j ∧ j ≤ ds1.length ∧ ∃ s' F' acc1, CQ (GX X p) p.H0 p.F0 σ vs s1 H1 F1 D' s' (wipe σ2 vs1) H F' acc1 ∧ Same F4 F' ∧ ∃ r1, compM vs1 g1 t1 me (ds1.drop j) s' = .ok r1 sc ∧ acc1 ++ r1 = acc ++ xs, ⟨_, rfl, Nat.zero_le _, _, F4, acc, c6, Same.refl _, xs, ecm, rfl⟩, ?_⟩
          rintro j k H9 ⟨rfl, hj', s9, F9, acc1, c9, f9, r1, hr1, hacc1⟩
          by_cases hltj : j < ds1.length
          · obtain ⟨d1, hd1, hdr1⟩ := drop_get hltj
            rw [hdr1] at hr1
            unfold compM at hr1
            obtain ⟨o2, s10, q1, q2⟩ := bnd_ok hr1
            obtain ⟨r3, s11, q3, q4⟩ := bnd_ok q2
            cases q4
            obtain ⟨sx, kx, sy, qa, qb, qc⟩ := oneM_ok q1
            refine .inr ⟨hJ1.go j H9 F9 f9 c9.rel.le hltj, fun H2 => ∃ F2, CQ (GX X p) p.H0 p.F0 σ vs s1 H1 F1 D' s10 (wipe σ2 vs1) H2 F2 (acc1 ++ o2.toList) ∧ Same F4 F2, fun H2 ⟨F2, c2, f2⟩ => ⟨_, by omega, rfl, hltj, s10, F2, _, c2, f2, r3, q3, by rw [List.append_assoc]; exact hacc1⟩, fun x1 H10 y1 => ?_⟩
            have main1 : ∀ F10, CQ (GX X p) p.H0 p.F0 σ vs s1 H1 F1 D' s9 (wipe σ2 vs1) H10 F10 acc1 → Same F4 F10 → DR (GX X p) F10 x1 d1 → tU (GX X p) p.H0 p.F0 vs1 g1 x1 (wipe σ2 vs1) H10 fun σ3 H5 => wipe σ3 vs1 = wipe σ2 vs1 ∧ tG (GX X p) p.H0 p.F0 wF rT t1 σ3 H5 fun b H6 =>
                if b = true then tG (GX X p) p.H0 p.F0 wF (rE (GX X p)) me σ3 H6 fun y H7 => ∃ acc, H7 D' = some (.lst acc) ∧ acc.length < sizeLine ∧ ∃ F2, CQ (GX X p) p.H0 p.F0 σ vs s1 H1 F1 D' s10 (wipe σ2 vs1) (upd H7 D' (.lst (acc ++ [y]))) F2 (acc1 ++ o2.toList) ∧ Same F4 F2
                else ∃ F2, CQ (GX X p) p.H0 p.F0 σ vs s1 H1 F1 D' s10 (wipe σ2 vs1) H6 F2 (acc1 ++ o2.toList) ∧ Same F4 F2 := by
              intro F10 c10 f10 hx1
              refine ⟨d1, s9, F10, c10.rel, hx1, ?_⟩
              rw [qa]
              intro σ3 R11 hw3
              rw [wipe_wipe] at hw3
              have vw3 : ∀ i, i ∉ vs → σ3[i]? = σ[i]? := fun i h => by
                have hn : i ∉ vs1 := fun z => h (hv1 i z)
                rw [← wipe_out (σ := σ3) hn, hw3, wipe_out hn, vw2 i h]
              have c11 := c10.move R11 (hgf1 _ _ _ qa) vw3
              refine ⟨hw3, sx, F10, R11, ?_⟩
              rw [qb]
              intro b1 H12 F12 R12 z12 hb1
              subst hb1
              have c12 := c11.step R12 z12
              have fin : ∀ {sz : AS} {H F : Hp} {ac : List D}, CQ (GX X p) p.H0 p.F0 σ vs s1 H1 F1 D' sz σ3 H F ac → CQ (GX X p) p.H0 p.F0 σ vs s1 H1 F1 D' (wipeS vs1 sz) (wipe σ2 vs1) H F ac := fun {sz H F ac} cz => by
                have Rz := cz.rel.wiped vs1
                rw [hw3] at Rz
                exact cz.move Rz (ownLe_wipe vs1 sz) vwi
              rcases qc with ⟨rfl, yv, s13, q5, rfl, rfl⟩ | ⟨rfl, rfl, rfl⟩
              · refine iteT ⟨sy, F12, R12, ?_⟩
                rw [q5]
                intro y' H13 F13 R13 z13 hy
                have c13 := c12.step R13 z13
                obtain ⟨accV, hp, hds⟩ := c13.pend
                refine ⟨accV, hp.at_, ?_, F13, fin (c13.app hD hp.at_ hy), f10.trans (z12.same.trans z13.same)⟩
                have hl1 := hds.len
                have hl2 := congrArg List.length hacc1
                have hl3 := congrArg List.length hacc
                have := sizeLine_eq
                simp only [List.length_append, List.length_cons, Option.toList_some, List.length_nil] at hl2 hl3
                omega
              · refine iteF ⟨F12, ?_, f10.trans z12.same⟩
                have := fin c12
                simpa using this
            rcases hJ1.yld j H9 F9 x1 H10 f9 c9.rel.le y1 d1 hd1 with ⟨rfl, hx1⟩ | ⟨T, u, hT, rfl, hnt, hx1⟩
            · exact main1 F9 c9 f9 hx1
            · obtain ⟨cT, fT⟩ := c9.lay hT hnt
              exact main1 _ cT (f9.trans fT) (hx1 _ fT upd_same)
          · have e : j = ds1.length := by omega
            subst e
            rw [List.drop_length] at hr1
            cases hr1
            refine .inl ⟨hJ1.stop _ H9 F9 f9 c9.rel.le (Nat.le_refl _), F9, ?_⟩
            have Rz := c9.rel.wiped vs
            rw [wipe_sub hv1, hw] at Rz
            have := c9.move Rz (ownLe_wipe vs _) (fun i hi => wipe_out hi)
            rw [← hacc1, List.append_nil]
            exact this
        · refine iteF ⟨F3, ?_⟩
          have Rz := R4.wiped vs
          rw [hw] at Rz
          have := c4.move Rz (ownLe_wipe vs _) (fun i hi => wipe_out hi)
          simpa using this
      rcases hJ.yld i H' F' x H2 c.stp.same c.rel.le y d hd with ⟨rfl, hx⟩ | ⟨T, u, hT, rfl, hnt, hx⟩
      · exact main F' c hx
      · obtain ⟨cT, fT⟩ := c.lay hT hnt
        exact main _ cT (hx _ fT upd_same)
    · have e : i = ds.length := by omega
      subst e
      rw [List.drop_length] at hr
      cases hr
      refine .inl ⟨hJ.stop _ H' F' c.stp.same c.rel.le (Nat.le_refl _), ?_⟩
      obtain ⟨accV, hp, hds⟩ := c.pend
      have fD : Same F' (upd F' D' (.lst accV)) := fun b w z => by
        have : b ≠ D' := fun e => by subst e; rw [hp.out] at z; cases z
        rw [upd_ne this]; exact z
      have RF := c.rel.known hp.at_ hp.out hp.old (fun _ z => nomatch z) hp.no
      refine o1 _ H' (upd F' D' (.lst accV)) (R1.restored RF (c.stp.same.trans fD) hok) ⟨c.stp.same.trans fD, c.stp.grow, c.stp.kept, ownLe_rest c.stp.own, fun a o h => ?_⟩ (.lst upd_same (by rw [← hacc, List.append_nil]; exact hds.mono fD))
      by_cases e : a = D'
      · rw [e]; exact .inr (.inl (fr_none hD))
      · rw [upd_ne e] at h; exact c.stp.newF a o h
  · split at e
    · cases q : comp2 vs g t (innM vs1 src1 g1 t1 me) ds (wipeS vs s) with
      | ok ys s1 =>
        rw [q] at e
        dsimp only at e
        split at e
        · cases e
          exact ownLe_rest ((fz_comp2 hgf hft hfn ds _ _ _ q).trans (ownLe_wipe vs s))
        · cases e
      | exn _ _ => rw [q] at e; cases e
      | bad => rw [q] at e; cases e
    · cases e
end
end Ink

set_option Elab.async false
set_option maxRecDepth 100000
set_option autoImplicit false
set_option linter.unusedVariables false
/-! Ink12: the law's bag. -/
namespace Ink
open PySem PySem.Spec PyProof.Rows L2 PySem.W

section
variable {G : Gd} {H0 F0 : Hp} {s : AS} {σ : L2.St} {H F : Hp}
theorem Rel.bagSet {b : Bag} (R : Rel G H0 F0 s σ H F) (hk : b.cells = s.bag.cells) : Rel G H0 F0 { s with bag := b } σ (upd H G.b1 (.lst [.int b.p, .int b.s, .int b.k, .ref G.b2])) F where
  le := fun a u h => by
    have : a ≠ G.b1 := fun e => by subst e; rw [R.bag.2.2.1] at h; cases h
    rw [upd_ne this]; exact R.le a u h
  base := R.base
  newF := R.newF
  grow := ⟨fun a u h n1 n2 n3 => by rw [upd_ne n1]; exact R.grow.ext a u h n1 n2 n3, fun h => tabs_of (fun a u h1 h2 => by
    have : a ≠ G.b1 := fun e => by
      subst e
      rw [R.bag.1] at h1
      cases h1
      exact tab_lst h2
    rw [upd_ne this]; exact h1) _ (R.grow.tabs h)⟩
  bag := by
    obtain ⟨h1, h2, h3, h4⟩ := R.bag
    have n : G.b2 ≠ G.b1 := fun e => by
      rw [e, h1] at h2
      have := congrArg (fun o => match o with | some (HO.lst xs) => xs.getD 3 .non | _ => .non) h2
      simp only [List.getD_cons_succ, List.getD_cons_zero] at this
      have h : ∀ (l : List Int) (i : Nat), (l.map V.int).getD i .non ≠ .ref G.b2 := fun l i z => by
        rw [List.getD_eq_getElem?_getD, List.getElem?_map] at z
        cases q : l[i]? with
        | none => rw [q] at z; cases z
        | some _ => rw [q] at z; cases z
      exact h _ _ this.symm
    exact ⟨upd_same, by rw [upd_ne n, hk]; exact h2, h3, h4⟩
  len := R.len
  slot := fun i x e => (R.slot i x e).laid (Same.refl _) (fun _ _ h _ _ => h) fun a u h _ o ex => by
    obtain ⟨a', u', e1, _, _, h0, _⟩ := (R.slot i x e).ownAddr o
    rw [ex] at e1
    cases e1
    have : a ≠ G.b1 := fun e => R.bag0.1 (by rw [← e]; exact h0)
    rw [upd_ne this]; exact h
  dist := R.dist
  notbl := R.notbl
  bag0 := R.bag0
  kept := fun a h => by
    by_cases e : a = G.b1
    · subst e; exact (h.no upd_same (fun _ z => nomatch z)).elim
    · exact R.kept a (fr_upd h e)
end
def bagAt (b : Bag) : Nat → Option Int
  | 0 => some b.p
  | 1 => some b.s
  | 2 => some b.k
  | _ => none
def bagPut (b : Bag) (j : Nat) (v : Int) : Option Bag := match j with
  | 0 => some { b with p := v }
  | 1 => some { b with s := v }
  | 2 => some { b with k := v }
  | _ => none
def isBag : Option SV → Bool
  | some (.dat .bag) => true
  | _ => false
theorem isBag_of {o : Option SV} (h : isBag o = true) : o = some (.dat .bag) := by
  unfold isBag at h
  split at h
  · rfl
  · cases h
section
variable {X : Cx} {p : Pm} {e a b c : Expr} {pos : Pos} {ma mb : Ex D}
theorem bag_slot {s : AS} {σ : L2.St} {H F : Hp} {i : Nat} (R : Rel (GX X p) p.H0 p.F0 s σ H F) (h : isBag s.sl[i]? = true) : σ[i]? = some (some (.ref p.b1)) := by
  obtain ⟨v, e, hd⟩ := R.slot i _ (isBag_of h)
  cases hd
  exact e
theorem bag_at {l : List V} {b : Bag} {j : Nat} {v : Int} {q : Addr} (hl : l = [.int b.p, .int b.s, .int b.k, .ref q]) (h : bagAt b j = some v) : atI l (j : Int) = some (.int v) := by
  subst hl
  refine atI_nat ?_
  match j, h with
  | 0, h => cases h; rfl
  | 1, h => cases h; rfl
  | 2, h => cases h; rfl
def fBag (i j : Nat) : Ex D := fun s => if isBag s.sl[i]? = true then match bagAt s.bag j with
    | some v => .ok (.int v) s
    | none => .bad
  else .bad
theorem fz_bag (i j : Nat) : Fz (fBag i j) := fun s a s' e => by
  unfold fBag at e
  split at e
  · split at e <;> cases e
    exact OwnLe.refl s
  · cases e
theorem e_bag (i j : Nat) {x : Str} {q1 q2 : Pos} {jj : Nat} {jc : Int} (hj : jc = (j : Int) := by rfl) (hN : X.N[i]? = some x := by rfl) (hv : Vis X.env.scope x := by first | exact Or.inl rfl | exact Or.inr (Or.inl rfl) | exact Or.inr (Or.inr rfl)) (hd : (x == ("__debug__" : Str)) = false := by decide)
    (hcd : (x == ("__classdict__" : Str)) = false := by decide) : EE X p (.Subscript (.Name x q1) (.Constant (.int jc) jj q2) pos) (fBag i j) := by
  subst hj
  refine ⟨PE.weak (pe_ix ix_list (pe_var (i := i) hN hv hd hcd) pe_int (fun _ _ => rfl)) fun σ H Q ⟨s, F, R, o⟩ => ?_, fz_bag i j⟩
  unfold fBag at o
  split at o
  · rename_i hb
    cases hq : bagAt s.bag j with
    | none => rw [hq] at o; exact o.elim
    | some v =>
      rw [hq] at o
      exact ⟨_, bag_slot R hb, p.b1, _, _, .int v, rfl, rfl, SqL.of R.bag.1, bag_at rfl hq, R.here o (.int v)⟩
  · exact o.elim
def fBagCut (i : Nat) : Ex D := fun s => if isBag s.sl[i]? = true then .ok (.lst (gCut (s.bag.cells.map D.int) (some s.bag.k) none)) s else .bad
theorem ints_dr {G : Gd} {F : Hp} : ∀ ns : List Int, DRs G F (ns.map V.int) (ns.map D.int)
  | [] => .nil
  | n :: ns => .cons (.int n) (ints_dr ns)
theorem e_bagCut (i : Nat) {x : Str} {q1 q2 q3 q4 q5 q6 q7 : Pos} {j3 j2 : Nat} (hN : X.N[i]? = some x := by rfl) (hv : Vis X.env.scope x := by first | exact Or.inl rfl | exact Or.inr (Or.inl rfl) | exact Or.inr (Or.inr rfl)) (hd : (x == ("__debug__" : Str)) = false := by decide)
    (hcd : (x == ("__classdict__" : Str)) = false := by decide) : EE X p (.Subscript (.Subscript (.Name x q1) (.Constant (.int 3) j3 q2) q3) (.Slice (some (.Subscript (.Name x q4) (.Constant (.int 2) j2 q5) q6)) none none q7) pos) (fBagCut i) := by
  refine ⟨PE.weak (pe_slice sl_list (pe_ix ix_list (pe_var (i := i) hN hv hd hcd) pe_int (fun _ _ => rfl)) (po_some (pe_ix ix_list (pe_var (i := i) hN hv hd hcd) pe_int (fun _ _ => rfl))) po_none) fun σ H Q ⟨s, F, R, o⟩ => ?_, fun s a s' e => ?_⟩
  · unfold fBagCut at o
    split at o
    · rename_i hb
      have hs := bag_slot R hb
      refine ⟨_, hs, p.b1, _, _, .ref p.b2, rfl, rfl, SqL.of R.bag.1, atI_nat (j := 3) rfl, _, hs, p.b1, _, _, .int s.bag.k, rfl, rfl, SqL.of R.bag.1, atI_nat (j := 2) rfl, s.bag.k, rfl, p.b2, _, rfl, SqL.of R.bag.2.1, fun q hq => ?_⟩
      exact R.new o hq (fun _ z => nomatch z) fun f => .lst upd_same ((ints_dr _).cut _ _)
    · exact o.elim
  · unfold fBagCut at e
    split at e <;> cases e
    exact OwnLe.refl s
def sBag (i j : Nat) (m : Ex D) : Ex Fl := bnd m fun d s => if isBag s.sl[i]? = true then match d with
    | .int v => match bagPut s.bag j v with
      | some b => .ok .nx { s with bag := b }
      | none => .bad
    | _ => .bad
  else .bad
theorem bag_put {b b' : Bag} {j : Nat} {v : Int} {q : Addr} (h : bagPut b j v = some b') : b'.cells = b.cells ∧ ixN 4 (j : Int) = some j ∧ ([.int b.p, .int b.s, .int b.k, .ref q] : List V).set j (.int v) = [.int b'.p, .int b'.s, .int b'.k, .ref q] := by
  match j, h with
  | 0, h => cases h; exact ⟨rfl, rfl, rfl⟩
  | 1, h => cases h; exact ⟨rfl, rfl, rfl⟩
  | 2, h => cases h; exact ⟨rfl, rfl, rfl⟩
theorem s_bag (i j : Nat) {x : Str} {q1 q2 q3 : Pos} {jj : Nat} {jc : Int} (he : EE X p e ma) (hj : jc = (j : Int) := by rfl) (hN : X.N[i]? = some x := by rfl) (hv : Vis X.env.scope x := by first | exact Or.inl rfl | exact Or.inr (Or.inl rfl) | exact Or.inr (Or.inr rfl)) (hd : (x == ("__debug__" : Str)) = false := by decide)
    (hcd : (x == ("__classdict__" : Str)) = false := by decide) (hs : swapsWithSole [.Subscript (.Name x q1) (.Constant (.int jc) jj q2) q3] e pos.line X.env = pure false := by rfl) (hw : swappedStores [.Subscript (.Name x q1) (.Constant (.int jc) jj q2) q3] e X.env = pure none := by rfl)
    (h1 : (assignEach [.Subscript (.Name x q1) (.Constant (.int jc) jj q2) q3] X.env).map (·.2) = [assign (.Subscript (.Name x q1) (.Constant (.int jc) jj q2) q3) X.env] := by rfl) : ES X p (.Assign [.Subscript (.Name x q1) (.Constant (.int jc) jj q2) q3] e pos) (sBag i j ma) := by
  subst hj
  refine PS.weak (ps_asg he.1 (pg_sub (pe_var (i := i) hN hv hd hcd) pe_int set_list) hs hw h1) fun E σ H ⟨s, F, R, o⟩ => ?_
  refine bindS (r := rE (GX X p)) R o fun v H1 d s1 F1 R1 f1 g1 hd o1 _ => ?_
  split at o1
  · rename_i hb
    cases d with
    | int w =>
      cases hd
      dsimp only at o1
      cases hq : bagPut s1.bag j w with
      | none => rw [hq] at o1; exact o1.elim
      | some b' =>
        rw [hq] at o1
        obtain ⟨k1, k2, k3⟩ := bag_put (q := p.b2) hq
        refine ⟨_, bag_slot R1 hb, p.b1, _, (j : Int), j, rfl, rfl, R1.bag.1, k2, ?_⟩
        have R2 := R1.bagSet k1
        have : ([.int s1.bag.p, .int s1.bag.s, .int s1.bag.k, .ref p.b2] : List V).set j (.int w) = [.int b'.p, .int b'.s, .int b'.k, .ref p.b2] := k3
        show E.nx σ (upd H1 p.b1 (.lst (([.int s1.bag.p, .int s1.bag.s, .int s1.bag.k, .ref p.b2] : List V).set j (.int w))))
        rw [this]
        exact o1 σ _ F1 R2 (Same.refl _)
    | _ => exact o1.elim
  · exact o1.elim
theorem get_bag : PGet X (fun x y H Q => ∃ q xs j v, x = .ref q ∧ y = .int ((j : Nat) : Int) ∧ H q = some (.lst xs) ∧ xs[j]? = some v ∧ xs.length < 2 ^ 60 ∧ Q v H) := by
  intro pins s σ H o i ov iv Q I ro ri h
  obtain ⟨q, xs, j, v, rfl, rfl, hq, hj, hlen, k⟩ := h
  cases ro
  obtain ⟨t, rfl⟩ := ri
  obtain ⟨its, r, pl, hz⟩ := I.list (SqL.of hq)
  obtain ⟨w, ew, rw'⟩ := r.get hj
  have hl := r.length
  have hjl := (List.getElem?_eq_some_iff.mp hj).1
  exact wpAny_getItem_list pl.isList (by omega) (by omega) (by simpa using ew) ⟨v, H, I, rw', k⟩
def sBagAug (i j : Nat) (n : Int) : Ex Fl := fun s => if isBag s.sl[i]? = true then match bagAt s.bag j with
    | some v => match bagPut s.bag j (v + n) with
      | some b => .ok .nx { s with bag := b }
      | none => .bad
    | none => .bad
  else .bad
theorem s_bagAug (i j : Nat) {n : Int} {x : Str} {q1 q2 q3 q4 : Pos} {jj k4 : Nat} {jc : Int} (hj : jc = (j : Int) := by rfl) (hN : X.N[i]? = some x := by rfl) (hv : Vis X.env.scope x := by first | exact Or.inl rfl | exact Or.inr (Or.inl rfl) | exact Or.inr (Or.inr rfl)) (hd : (x == ("__debug__" : Str)) = false := by decide)
    (hcd : (x == ("__classdict__" : Str)) = false := by decide) : ES X p (.AugAssign (.Subscript (.Name x q1) (.Constant (.int jc) jj q2) q3) .Add (.Constant (.int n) k4 q4) pos) (sBagAug i j n) := by
  subst hj
  refine PS.weak (ps_augS (pe_var (i := i) hN hv hd hcd) pe_int get_bag pe_int ip_add set_list) fun E σ H ⟨s, F, R, o⟩ => ?_
  unfold sBagAug at o
  split at o
  · rename_i hb
    cases hq : bagAt s.bag j with
    | none => rw [hq] at o; exact o.elim
    | some v =>
      rw [hq] at o
      dsimp only at o
      cases hq2 : bagPut s.bag j (v + n) with
      | none => rw [hq2] at o; exact o.elim
      | some b' =>
        rw [hq2] at o
        obtain ⟨k1, k2, k3⟩ := bag_put (q := p.b2) hq2
        have e1 : ([.int s.bag.p, .int s.bag.s, .int s.bag.k, .ref p.b2] : List V)[j]? = some (.int v) := by
          match j, hq with
          | 0, h => cases h; rfl
          | 1, h => cases h; rfl
          | 2, h => cases h; rfl
        refine ⟨_, bag_slot R hb, p.b1, _, j, .int v, rfl, rfl, R.bag.1, e1, by show 4 < 2 ^ 60; decide, v, n, rfl, rfl, p.b1, _, (j : Int), j, rfl, rfl, R.bag.1, k2, ?_⟩
        show E.nx σ (upd H p.b1 (.lst (([.int s.bag.p, .int s.bag.s, .int s.bag.k, .ref p.b2] : List V).set j (.int (v + n)))))
        rw [k3]
        exact o σ _ F (R.bagSet k1) (Same.refl _)
  · exact o.elim
end
end Ink

set_option Elab.async false
set_option maxRecDepth 100000
set_option autoImplicit false
set_option linter.unusedVariables false
/-! Ink13: a law's end, its guards known; written dicts allowed. -/
namespace Ink
open PySem PySem.Spec PyProof.Rows L2

/-- what the heap of a law's begin tells: the script alone (unless it is written), the tables of code -/
def begH (K : PySem.W.Frag) (tabs : List Addr) (a : Addr) (vs : List Value) (ns : List Int) : Hp := fun b =>
  if b ∈ tabs then some (.tbl #[]) else if b = a ∧ K.lookup a = none then some (.frz { cls := .type "list", data := .seq vs.toArray } (.lst (ns.map V.int))) else none
section
variable {P : Program} {w : World} {K : PySem.W.Frag} {mg mb : Str → Option Value} {k : Nat} {fa a : Addr} {cs : List (Addr × Addr)} {fd : FuncData} {x : Str} {sp : Sp} {t₁ : Shared} {vs : List Value} {ns : List Int}
theorem end_law (hin : K.In t₁.heap) (hglob : t₁.heap.Ns mainGlobals mg) (hblt : t₁.heap.Ns builtinsNs mb) (hboot : ∀ x : Str, x ≠ "__name__" → mb x = bootBuiltins x) (hnl : t₁.heap.NoLimit) (hgens : t₁.gens = #[])
    (emp : ∀ c ∈ cs, t₁.heap.get? c.2 = some { cls := .none, data := .fields #[] }) (unw : ∀ c ∈ cs, K.lookup c.2 = none) (hd : ∀ c ∈ cs, PySem.W.CodeHd t₁.heap c.1 c.2)
    (hmod : ∃ (bm : Addr) (ob : Obj), mg "__builtins__" = some (.ref bm) ∧ bm ≠ builtinsNs ∧ t₁.heap.get? bm = some ob ∧ ob.cls = .type "module" ∧ ob.dict = some builtinsNs ∧ ob.data = .plain)
    (hscr : t₁.heap.get? a = some { cls := .type "list", data := .seq vs.toArray }) (hints : IntsAre vs ns) (hlen : ns.length ≤ sizeLine) (room : Room k callerA)
    (pr : ∀ base : Heap, K.In base → base.Ns mainGlobals mg → (∀ c ∈ cs, LamX.TabB base mg c.1 c.2) → FnG P w K mg base true k fa fd [x] sp) (bind : ∀ (s : Shared) (u : Value), BindsTo s fd ⟨[u], []⟩ [(x, u)])
    (good : ∀ H : Hp, (∀ c ∈ cs, H c.2 = some (.tbl #[])) → SqL K H a (ns.map V.int) → sp [.ref a] H (fun v _ => v = .bl true) fun _ _ _ => False) :
    codeAny (model P w) callerA (.call (.ref fa) ⟨[.ref a], []⟩) (fun r s' => r = .ok (.ret (.bool true)) ∧ OldK t₁.heap s'.heap ∧ s'.os = t₁.os ∧ AllBare s'.gens) t₁ := by
  obtain ⟨H, rfl⟩ : ∃ H, H = begH K (cs.map (·.2)) a vs ns := ⟨_, rfl⟩
  let tabs := cs.map (·.2)
  have vals : Vals (ns.map V.int) vs := vals_ints hints
  have vlen : vs.length = ns.length := hints.length
  have inT : ∀ c ∈ cs, c.2 ∈ tabs := fun c hc => List.mem_map_of_mem hc
  have atT : ∀ b ∈ tabs, t₁.heap.get? b = some { cls := .none, data := .fields #[] } := fun b hb => by
    obtain ⟨c, hc, rfl⟩ := List.mem_map.mp hb
    exact emp c hc
  have aOut : a ∉ tabs := fun z => by
    have e := atT a z
    rw [hscr] at e
    have z' : Data.seq vs.toArray _ = Data.fields #[] := congrArg Obj.data (Option.some.inj e)
    cases z'
  have HT : ∀ b ∈ tabs, begH K tabs a vs ns b = some (.tbl #[]) := fun b hb => if_pos hb
  have HA : K.lookup a = none → begH K tabs a vs ns a = some (.frz { cls := .type "list", data := .seq vs.toArray } (.lst (ns.map V.int))) := fun h => (if_neg aOut).trans (if_pos ⟨rfl, h⟩)
  have HN : ∀ b, begH K tabs a vs ns b ≠ none → b ∈ tabs ∨ (b = a ∧ K.lookup a = none) := fun b h => by
    by_cases h1 : b ∈ tabs
    · exact .inl h1
    · by_cases h2 : b = a ∧ K.lookup a = none
      · exact .inr h2
      · exact absurd ((if_neg h1).trans (if_neg h2)) h
  -- what is hidden is a list or an empty table
  have free : ∀ {b : Addr} {o : Obj}, t₁.heap.get? b = some o → (∀ l n, o.data ≠ .seq l n) → o.data ≠ .fields #[] → begH K tabs a vs ns b = none := fun {b o} e n1 n2 => Classical.byContradiction fun h => by
    rcases HN b h with z | ⟨rfl, _⟩
    · rw [atT b z] at e; cases e; exact n2 rfl
    · rw [hscr] at e; cases e; exact n1 _ _ rfl
  have spaces : ∀ {b : Addr} {m : Str → Option Value}, t₁.heap.Ns b m → (hidT t₁.heap (begH K tabs a vs ns)).Ns b m := fun {b m} ⟨o, es, ep, e, d, r⟩ =>
    ⟨o, es, ep, hidT_get e (free e (fun l n z => by rw [d] at z; cases z) fun z => by rw [d] at z; cases z), d, r⟩
  have written : K.In (hidT t₁.heap (begH K tabs a vs ns)) := fun b o e => hidT_get (hin b o e) (Classical.byContradiction fun h => by
    rcases HN b h with z | ⟨rfl, z⟩
    · obtain ⟨c, hc, rfl⟩ := List.mem_map.mp z
      rw [unw c hc] at e; cases e
    · rw [z] at e; cases e)
  have md : L2.Mod K mg (hidT t₁.heap (begH K tabs a vs ns)) := ⟨written, spaces hglob, ⟨mb, spaces hblt, hboot⟩, by obtain ⟨mc, h1, h2⟩ := hnl; exact ⟨mc, spaces h1, h2⟩⟩
  have tb : ∀ c ∈ cs, LamX.TabB (hidT t₁.heap (begH K tabs a vs ns)) mg c.1 c.2 := fun c hc => by
    have e2 := emp c hc
    refine ⟨?_, ?_, fun z => ?_⟩
    · obtain ⟨o, us, f1, f2, f3, f4, f5, f6, f7, e1, r1, r2, r3, r4, r5, r6, r7, r8, ne⟩ := hd c hc
      exact ⟨o, us, f1, f2, f3, f4, f5, f6, f7, hidT_get e1 (free e1 (fun l n z => by rw [r2] at z; cases z) fun z => by rw [r2] at z; cases z; simp at r3), r1, r2, r3, r4, r5, r6, r7, r8, ne⟩
    · obtain ⟨bm, ob, b1, b2, b3, b4, b5, b6⟩ := hmod
      have n1 : bm ≠ mainGlobals := fun q => by
        obtain ⟨o, es, ep, e, d, _⟩ := hglob
        rw [← q, b3] at e
        cases e
        rw [b6] at d; cases d
      have n2 : bm ≠ c.2 := fun q => by
        rw [q, e2] at b3
        cases b3; cases b6
      exact ⟨bm, ob, b1, b2, n1, n2, hidT_get b3 (free b3 (fun l n z => by rw [b6] at z; cases z) fun z => by rw [b6] at z; cases z), b4, b5, b6⟩
    · obtain ⟨o, es, ep, e, d, _⟩ := hglob
      rw [z, e2] at e
      cases e; cases d
  have hok : HOk P w (begH K tabs a vs ns) t₁.heap := fun b u e => by
    have hne : begH K tabs a vs ns b ≠ none := by rw [e]; simp
    rcases HN b hne with z | ⟨rfl, z⟩
    · rw [HT b z] at e
      cases e
      exact atT b z
    · rw [HA z] at e
      cases e
      exact ⟨hscr, by rw [List.length_map]; exact hlen, vs, _, vals, hscr⟩
  have seq : SqL K (begH K tabs a vs ns) a (ns.map V.int) := by
    cases q : K.lookup a with
    | none => exact .inl (.inr ⟨_, HA q⟩)
    | some o =>
      have e := hin a o q
      rw [hscr] at e
      cases e
      exact .inr ⟨_, vs.toArray, _, q, rfl, rfl, rfl, by rw [List.size_toArray, vlen]; exact hlen, by simpa using vals⟩
  have e0 : Env0 P w K mg (hidT t₁.heap (begH K tabs a vs ns)) callerA [] t₁ (begH K tabs a vs ns) :=
    ⟨rfl, md, fun b o e => of_hidT e, Nat.le_of_eq (hidT_size _ _), trivial, fun b hb => absurd (show b ∈ ([] : List Addr) from hb) (by simp), hok, .of_eq hgens⟩
  have run := (pr _ written (spaces hglob) tb).run callerA [] t₁ (begH K tabs a vs ns) ⟨[.ref a], []⟩ [.ref a] [.ref a] _ _ room (fun _ => rfl) e0 (bind t₁ (.ref a)) (.cons rfl .nil) (good _ (fun c hc => HT _ (inT c hc)) seq)
  refine codeAny_mono run fun r s' h => ?_
  cases r with
  | error e =>
    obtain ⟨_, _, _, _, _, _, _, _, _, _, _, _, z⟩ := h
    exact z.elim
  | ok fl =>
    cases fl with
    | next => exact False.elim h
    | brk => exact False.elim h
    | cont => exact False.elim h
    | ret u =>
      obtain ⟨v, H', sos, bare, un, hok', rel, q⟩ := h
      obtain rfl : v = .bl true := q
      obtain rfl : u = Value.bool true := rel
      have stay : ∀ b o, b ∉ tabs → t₁.heap.get? b = some o → s'.heap.get? b = some o := fun b o nb e => by
        cases hb : begH K tabs a vs ns b with
        | none => exact un.keep b o e hb (fun z => absurd (show b ∈ ([] : List Addr) from z) (by simp)) (by simp)
        | some u =>
          rcases HN b (by rw [hb]; simp) with z | ⟨rfl, z⟩
          · exact absurd z nb
          · have z1 := HA z
            have z2 := (hok' b _ (un.frzs b _ _ z1)).1
            rw [hscr] at e
            cases e
            exact z2
      have grew : ∀ c ∈ cs, ∃ more : Array Value, s'.heap.get? c.2 = some { cls := .none, data := .fields more } := fun c hc => by
        obtain ⟨more, z⟩ := un.tbls c.2 #[] (HT _ (inT c hc))
        exact ⟨_, hok' c.2 _ z⟩
      refine ⟨rfl, ⟨fun b o e => ?_, fun b o e => ?_⟩, sos, bare⟩
      · by_cases hb : b ∈ tabs
        · obtain ⟨c, hc, rfl⟩ := List.mem_map.mp hb
          obtain ⟨more, hm⟩ := grew c hc
          rw [emp c hc] at e
          cases e
          exact .inr (.inl ⟨((hd c hc).tab (emp c hc)).isCodeTable, rfl, #[], more, rfl, by rw [Array.empty_append]; exact hm⟩)
        · exact .inl (stay b o hb e)
      · by_cases hb : b ∈ tabs
        · obtain ⟨c, hc, rfl⟩ := List.mem_map.mp hb
          obtain ⟨more, hm⟩ := grew c hc
          exact ⟨_, hm⟩
        · exact ⟨o, stay b o hb e⟩
end
/-- the goal that the head leaves, from a law's promise -/
theorem walk_ink {l : PySem.W.OpenLaw} {n k : Nat} {q : Program} {loose : List Str} {XP : (Str → Option Value) → Heap → Prop} {YP : World → Heap → Prop} {d : DefRec} {K : Params → PySem.W.Frag} {x : Str}
    (hn : l.most = some n) (hn2 : n ≤ sizeLine) (hdf : d.params.defaults = []) (room : Room k callerA) (hY : ∀ (w : World) (h : Heap), YP w h → (K w.params).In h)
    (F : ∀ (w : World) (mg : Str → Option Value) (fa : Addr) (h : Heap), YP w h → (K w.params).In h → h.Ns mainGlobals mg → mg d.name = some (.ref fa) →
      ∃ (fd : FuncData) (cs : List (Addr × Addr)) (sp : Sp), (∀ c ∈ cs, h.get? c.2 = some { cls := .none, data := .fields #[] }) ∧ (∀ c ∈ cs, (K w.params).lookup c.2 = none) ∧ (∀ c ∈ cs, PySem.W.CodeHd h c.1 c.2) ∧ (∀ (s : Shared) (u : Value), BindsTo s fd ⟨[u], []⟩ [(x, u)]) ∧
        (∀ (H : Hp) (a : Addr) (ns : List Int), ns.length ≤ n → (∀ z ∈ ns, Builtin.Int.intBits z ≤ 1048576) → (∀ c ∈ cs, H c.2 = some (.tbl #[])) → SqL (K w.params) H a (ns.map V.int) → sp [.ref a] H (fun v _ => v = .bl true) fun _ _ _ => False) ∧
        ∀ base : Heap, (K w.params).In base → base.Ns mainGlobals mg → (∀ c ∈ cs, LamX.TabB base mg c.1 c.2) → FnG l.prog w (K w.params) mg base true k fa fd [x] sp) :
    PySem.W.WalkO q loose XP YP l.row.toRowW d [] (fun f vs => PySem.call f vs) := by
  refine Att.attach_callB hn hdf fun w s₀ t₁ mg mb fa o pm cd doc a vs ns G Y ho hd hcd hmg hobj hints hlen hbits hg => ?_
  obtain ⟨fd, cs, sp, h1, h2, h3, h4, h5, h6⟩ := F w mg fa _ Y (hY w _ Y) G.T.g hmg
  exact end_law (hY w _ Y) G.T.g G.T.b G.T.builtins G.T.nolimit hg h1 h2 h3 G.T.bmain hobj hints (Nat.le_trans hlen hn2) room h6 h4 fun H hH hS => h5 H a ns hlen hbits hH hS
end Ink

set_option Elab.async false
set_option maxRecDepth 100000
set_option autoImplicit false
set_option linter.unusedVariables false
/-! Ink14: _law_bag, a law's begin. -/
namespace Ink
open PySem PySem.Spec PyProof.Rows L2

def absI (i : Int) : Int := if i < 0 then -i else i
def cellsOf (ns : List Int) : List Int := (ns.take 63).map absI
theorem cut63 (ns : List Int) : cutV (ns.map V.int) none (some 63) = (ns.take 63).map V.int := by
  unfold cutV
  have e1 : HT.sIx (ns.map V.int).length 0 none = 0 := rfl
  rw [e1, List.drop_zero, List.length_map]
  have e2 : HT.sIx ns.length ns.length (some 63) = min 63 ns.length := by
    unfold HT.sIx
    simp
  rw [e2, Nat.sub_zero, ← List.map_take]
  congr 1
  by_cases h : 63 ≤ ns.length
  · rw [Nat.min_eq_left h]
  · rw [Nat.min_eq_right (by omega), List.take_of_length_le (Nat.le_refl _), List.take_of_length_le (by omega)]
def spBag (K : PySem.W.Frag) : Sp := fun vs H Q E => ∃ (a : Addr) (ns : List Int), vs = [.ref a] ∧ SqL K H a (ns.map V.int) ∧ ∀ (q1 q2 : Addr) (H' : Hp), H' q1 = some (.lst [.int 0, .int 1234567891, .int 0, .ref q2]) → H' q2 = some (.lst ((cellsOf ns).map V.int)) →
  H q1 = none → H q2 = none → Same H H' → (∀ b, H' b = none → H b = none) → Q (.ref q1) H'
section
variable {X : Cx}
theorem bag_lc (own : List (Str × Nat)) {elt : Expr} {q1 q2 q3 q4 q5 pos : Pos} {j1 : Nat} {scope : Scope} (hc : X.calm = true) (hN : X.N.Nodup) (h0 : X.N[0]? = some ("script" : Str)) (h1 : X.N[1]? = some ("cell" : Str)) (hv : Vis X.env.scope "script") (ok : BlkOk X.N X.env.scope scope own) (ho : own = [(Str.ofString "cell", 1)])
    (hm : X.mg "abs" = none) (hg : ∀ (s : Shared) (H : Hp) (C : Addr) (cl : List (Str × Addr)) (fp : List Addr), PG (X.blk s H scope (compEnvC scope cl C X.env) fp) (.Name "cell" q1) (gName 1))
    (he : ∀ (s : Shared) (H : Hp) (C : Addr) (cl : List (Str × Addr)) (fp : List Addr), PE (X.blk s H scope (compEnvC scope cl C X.env) fp) elt (tCB (fun xs H Q => ∃ i, xs = [.int i] ∧ Q (.int (if i < 0 then -i else i)) H) (tCons (tVar 1) tNil))) :
    PE X (.ListComp elt [⟨.Name "cell" q1, .Subscript (.Name "script" q2) (.Slice none (some (.Constant (.int 63) j1 q3)) none q4) q5, [], 0⟩] scope pos)
      (fun σ H Q => ∃ (a : Addr) (ns : List Int), σ[0]? = some (some (.ref a)) ∧ 1 < σ.length ∧ SqL X.K H a (ns.map V.int) ∧ ∀ (q : Addr) (H' : Hp), H' q = some (.lst ((cellsOf ns).map V.int)) → H q = none → Same H H' → (∀ b, H' b = none → H b = none) → Q (.ref q) H') := by
  subst ho
  refine PE.weak (pe_lc hc hN (pi_list (pe_slice sl_list (pe_var (i := 0) h0 hv) po_none (po_some pe_int))) ok hg (fun _ _ _ _ _ => pts_nil) he (by intro _; rfl)) fun σ H Q ⟨a, ns, hs, hl1, hq, k⟩ => ?_
  refine ⟨.ref a, hs, 63, rfl, a, _, rfl, hq, fun r hr => ⟨r, rfl, ⟨_, SqL.of upd_same⟩, fun D hD => ?_⟩⟩
  rw [cut63] at hD ⊢
  have nDr : D ≠ r := fun e => by rw [e, upd_same] at hD; cases hD
  have hD0 : H D = none := by rw [upd_ne nDr] at hD; exact hD
  have hlen : ((ns.take 63).map V.int).length ≤ 63 := by rw [List.length_map, List.length_take]; omega
  refine ⟨fun i m H' => m = ((ns.take 63)).length - i ∧ i ≤ (ns.take 63).length ∧ H' = upd (upd H r (.lst ((ns.take 63).map V.int))) D (.lst (((ns.take 63).take i).map (fun n => V.int (absI n)))), ⟨_, rfl, Nat.zero_le _, rfl⟩, ?_⟩
  rintro i m H' ⟨rfl, hi, rfl⟩
  have hr1 : (upd (upd H r (.lst ((ns.take 63).map V.int))) D (.lst (((ns.take 63).take i).map (fun n => V.int (absI n))))) r = some (.lst ((ns.take 63).map V.int)) := by rw [upd_ne nDr.symm, upd_same]
  by_cases hlt : i < (ns.take 63).length
  · refine .inr ⟨⟨_, _, SqL.of hr1, by rw [List.getElem?_map, List.getElem?_eq_getElem hlt]; rfl⟩, fun H' => H' = upd (upd H r (.lst ((ns.take 63).map V.int))) D (.lst (((ns.take 63).take (i + 1)).map (fun n => V.int (absI n)))), fun H' e => ⟨_, by omega, rfl, hlt, e⟩, fun x H' y => ?_⟩
    obtain ⟨rfl, y⟩ := y
    have e2 := y _ (SqL.of hr1)
    rw [List.getElem?_map, List.getElem?_eq_getElem hlt] at e2
    cases e2
    have hw : wipe ((wipe σ [1]).set 1 (some (V.int (ns.take 63)[i]))) [1] = wipe σ [1] := by
      show ((σ.set 1 none).set 1 (some (V.int (ns.take 63)[i]))).set 1 none = σ.set 1 none
      rw [List.set_set, List.set_set]
    refine ⟨hw, ?_⟩
    unfold tYes
    dsimp only
    rw [if_pos rfl]
    refine ⟨V.int (ns.take 63)[i], ?_, (ns.take 63)[i], rfl, _, upd_same, ?_, ?_⟩
    · show ((σ.set 1 none).set 1 (some (V.int (ns.take 63)[i])))[1]? = _
      rw [List.getElem?_set_self (by rw [List.length_set]; exact hl1)]
    · rw [List.length_map, List.length_take, sizeLine_eq]
      rw [List.length_map] at hlen
      omega
    · show upd (upd _ D _) D _ = upd _ D _
      rw [upd_upd]
      congr 2
      rw [← List.take_append_getElem hlt, List.map_append]
      rfl
  · have e : i = (ns.take 63).length := by omega
    subst e
    refine .inl ⟨⟨_, SqL.of hr1, by rw [List.length_map]; exact Nat.le_refl _⟩, ?_⟩
    refine k D _ (by rw [upd_same, List.take_length]; unfold cellsOf; rw [List.map_map]; rfl) hD0 (fun b u e => ?_) (fun b e => ?_)
    · rw [upd_ne (ne_of_none e hD0), upd_ne (ne_of_none e hr)]; exact e
    · by_cases h1 : b = D
      · rw [h1]; exact hD0
      · rw [upd_ne h1] at e
        by_cases h2 : b = r
        · rw [h2]; exact hr
        · rw [upd_ne h2] at e; exact e
end

/-! ### the law's first step, then the rest -/
/-- behind bag = _law_bag(script): the state of the frame -/
def asL (N : Nat) (j : Nat) (ns : List Int) : AS := ⟨(List.replicate N SV.no).set j (.dat .bag), ⟨0, 1234567891, 0, cellsOf ns⟩⟩
theorem Rel.begin {K : PySem.W.Frag} {mg : Str → Option Value} {w : World} {q1 q2 : Addr} {tb : List (Addr × Str)} {H' : Hp} {ns : List Int} {σ : L2.St} {N j : Nat} (hN : σ.length = N) (hj : j < N) (h1 : H' q1 = some (.lst [.int 0, .int 1234567891, .int 0, .ref q2])) (h2 : H' q2 = some (.lst ((cellsOf ns).map V.int))) :
    Rel ⟨K, mg, q1, q2, w, tb⟩ H' (fun _ => none) (asL N j ns) (σ.set j (some (.ref q1))) H' (fun _ => none) where
  le := fun _ _ h => nomatch h
  base := fun _ _ h => nomatch h
  newF := fun _ _ h => nomatch h
  grow := Grow.refl _ _
  bag := ⟨h1, h2, rfl, rfl⟩
  len := by
    show ((List.replicate N SV.no).set j _).length = _
    rw [List.length_set, List.length_set, List.length_replicate, hN]
  slot := fun i x e => by
    have e' : ((List.replicate N SV.no).set j (.dat .bag))[i]? = some x := e
    by_cases hi : j = i
    · subst hi
      rw [List.getElem?_set_self (by rw [List.length_replicate]; exact hj)] at e'
      cases e'
      exact ⟨.ref q1, by rw [List.getElem?_set_self (by rw [hN]; exact hj)], .bag⟩
    · rw [List.getElem?_set_ne hi, List.getElem?_replicate] at e'
      split at e' <;> cases e'
      trivial
  dist := fun i k x y a hx hy ox oy _ _ => by
    have key : ∀ {i : Nat} {x : SV}, ((List.replicate N SV.no).set j (.dat .bag))[i]? = some x → ownAt x = true → False := fun {i x} e o => by
      by_cases hi : j = i
      · subst hi
        rw [List.getElem?_set_self (by rw [List.length_replicate]; exact hj)] at e
        cases e; cases o
      · rw [List.getElem?_set_ne hi, List.getElem?_replicate] at e
        split at e <;> cases e
        cases o
    exact (key hx ox).elim
  notbl := fun _ _ h => nomatch h
  bag0 := ⟨fun z => z.no h1 (fun _ h => nomatch h), fun z => z.no h2 (fun _ h => nomatch h)⟩
  kept := fun _ h => h
section
variable {X : Cx}
theorem b_law {T : List (Addr × Str)} {k kk : Nat} {f : Addr} {fd : FuncData} {rest : List Stmt} {q1 q2 q3 q4 q5 : Pos} {m : Ex Fl} {N : Nat} (j : Nat) {bagN : Str}
    (Fn : FnG X.prog X.w X.K X.mg X.base false k f fd ["script"] (spBag X.K)) (C : Cw X (fun _ _ _ _ => False) kk true) (hk : k ≤ kk) (hb : L2.Binds X.K fd ["script"] []) (hm : X.mg "_law_bag" = some (.ref f)) (hkp : PySem.W.keepIn X.K (.ref f) = true) (hNl : X.N.length = N) (hj : X.N[j]? = some bagN) (h0 : X.N[0]? = some ("script" : Str)) (hs0 : Vis X.env.scope "script")
    (hx : Loc X.env.scope bagN) (hfn : X.fn bagN = true ∨ X.env.scope.names.lookup bagN = some .local) (hg : Gl X "_law_bag")
    (hrest : ∀ (b1 b2 : Addr) (H0 : Hp), LamX.Tabs T H0 → EB X ⟨b1, b2, H0, fun _ => none, wF, T⟩ rest m) (hs : swapsWith (.Call (.Name "_law_bag" q1) [.Name "script" q2] [] q3) (some (.Name bagN q4)) q5.line X.env = pure false)
    (hst : starEach [.Name "script" q2] X.env = (false, eval (.Name "script" q2) X.env) :: starEach [] X.env := by rfl) (hpl : (backTo q3 (starEach [] X.env)).any (·.1) = false := by rfl) :
    PSs X (.Assign [.Name bagN q4] (.Call (.Name "_law_bag" q1) [.Name "script" q2] [] q3) q5 :: rest) (fun E σ H => ∃ (a : Addr) (ns : List Int), σ[0]? = some (some (.ref a)) ∧ σ.length = N ∧ SqL X.K H a (ns.map V.int) ∧ LamX.Tabs T H ∧ ∃ s, m (asL N j ns) = .ok (.rt (.bl true)) s ∧ ∀ H', E.rt (.bl true) H') := by
  have hcall : PE X (.Call (.Name "_law_bag" q1) [.Name "script" q2] [] q3) (fun σ H Q => ∃ a, σ[0]? = some (some (.ref a)) ∧ spBag X.K [.ref a] H Q fun _ _ _ => False) := by
    refine ⟨fun pins s σ H Q I ⟨a, hs, h⟩ => ?_⟩
    refine wpAny_Call_Name_kw (ld_glob I hg hm ?_ (by decide))
    refine PySem.W.callWith_K (h₀ := X.base) I.ok.mod.kin hkp (thn ((pa_cons (pe_var (pos := q2) (i := 0) h0 hs0) pa_nil hst).run q3 pins s σ H (fun vs H1 => vs = [.ref a] ∧ H1 = H) I ⟨.ref a, hs, rfl, rfl⟩) fun us s1 ⟨vs, H1, I1, r, e1, e2⟩ => ?_) hst hpl
    subst e1 e2
    have hl : us.length = (["script"] : List Str).length := by rw [← r.length]; rfl
    have b := hb s1 us I1.kIn (by rw [List.append_nil]; exact hl)
    rw [List.append_nil] at b
    refine ⟨I1.kIn, wpAny_call (codeAny_mono (Fn.run X.A X.stack s1 H1 ⟨us, []⟩ us [.ref a] Q (fun _ _ _ => False) (C.room.mono hk) (fun z => nomatch z) I1.env0 b r h) fun r s' hq => ?_)⟩
    cases r with
    | error e => exact C.pass σ pins H1 s1 e s' I1 hq
    | ok fl =>
      cases fl with
      | ret u => exact I1.after hq
      | next => exact hq.elim
      | brk => exact hq.elim
      | cont => exact hq.elim
  have hall : PSs X rest (fun E σ H => ∃ p : Pm, p.tb = T ∧ p.W = wF ∧ p.F0 = (fun _ => none) ∧ LamX.Tabs T p.H0 ∧ tS (GX X p) p.H0 p.F0 p.W m E σ H) := by
    refine ⟨fun pins s σ H E I ⟨p, e1, e2, e3, hT, h⟩ => ?_⟩
    obtain ⟨b1, b2, H0, F0, W, tb⟩ := p
    dsimp only at e1 e2 e3 hT
    subst e1 e2 e3
    exact (hrest b1 b2 H0 hT).run pins s σ H E I h
  refine PSs.weak (pss_cons (ps_set C.nd hj hx hcall hs hfn) hall) fun E σ H ⟨a, ns, h1, h2, h3, h4, s, h5, h6⟩ => ?_
  refine ⟨a, h1, a, ns, rfl, h3, fun r1 r2 H' e1 e2 n1 n2 sm kp => ?_⟩
  have hjN : j < N := by rw [← hNl]; exact (List.getElem?_eq_some_iff.mp hj).1
  refine ⟨⟨r1, r2, H', fun _ => none, wF, T⟩, rfl, rfl, rfl, h4.ext sm, asL N j ns, fun _ => none, Rel.begin h2 hjN e1 e2, ?_⟩
  rw [h5]
  intro v σ' H9 F9 R9 f9 hd
  cases hd
  exact h6 H9
end
end Ink

set_option Elab.async false
set_option maxRecDepth 100000
set_option autoImplicit false
set_option linter.unusedVariables false
set_option maxHeartbeats 4000000
namespace Ink.K01
open PySem PySem.Spec PyProof.Rows L2 PySem.W StX
def dGOES : D := .dct [(.str "e", .tup [.int 1, .int 0]), (.str "n", .tup [.int 0, .int 1]), (.str "w", .tup [.int (-1), .int 0]), (.str "s", .tup [.int 0, .int (-1)])]

def top (i : Nat) : Stmt := PySem.Challenge.pw_inkwalk_k01_points_lines_and_sides.main.body.getD i (.Pass ⟨0, 0, 0, 0⟩)
abbrev st_is_number : Stmt := top 5
def N_is_number : List Str := ["thing"]
theorem sc_is_number : FnScope N_is_number ["thing"] (defScope st_is_number) := ⟨rfl, rfl, rfl, by decide +kernel, rfl, by decide +kernel, by decide +kernel⟩
abbrev st_is_index : Stmt := top 6
def N_is_index : List Str := ["thing"]
theorem sc_is_index : FnScope N_is_index ["thing"] (defScope st_is_index) := ⟨rfl, rfl, rfl, by decide +kernel, rfl, by decide +kernel, by decide +kernel⟩
abbrev st_is_sized : Stmt := top 7
def N_is_sized : List Str := ["thing", "many"]
theorem sc_is_sized : FnScope N_is_sized ["thing", "many"] (defScope st_is_sized) := ⟨rfl, rfl, rfl, by decide +kernel, rfl, by decide +kernel, by decide +kernel⟩
abbrev st_is_couple : Stmt := top 8
def N_is_couple : List Str := ["thing"]
theorem sc_is_couple : FnScope N_is_couple ["thing"] (defScope st_is_couple) := ⟨rfl, rfl, rfl, by decide +kernel, rfl, by decide +kernel, by decide +kernel⟩
abbrev st_is_point : Stmt := top 9
def N_is_point : List Str := ["sheet", "thing"]
theorem sc_is_point : FnScope N_is_point ["sheet", "thing"] (defScope st_is_point) := ⟨rfl, rfl, rfl, by decide +kernel, rfl, by decide +kernel, by decide +kernel⟩
abbrev st_points : Stmt := top 12
def N_points : List Str := ["sheet", "x", "y"]
theorem sc_points : FnScope N_points ["sheet"] (defScope st_points) := ⟨rfl, rfl, rfl, by decide +kernel, rfl, by decide +kernel, by decide +kernel⟩
abbrev st_lines_of : Stmt := top 13
def N_lines_of : List Str := ["sheet", "found", "x", "y"]
theorem sc_lines_of : FnScope N_lines_of ["sheet"] (defScope st_lines_of) := ⟨rfl, rfl, rfl, by decide +kernel, rfl, by decide +kernel, by decide +kernel⟩
abbrev st_ends_of : Stmt := top 14
def N_ends_of : List Str := ["line", "x", "y", "way"]
theorem sc_ends_of : FnScope N_ends_of ["line"] (defScope st_ends_of) := ⟨rfl, rfl, rfl, by decide +kernel, rfl, by decide +kernel, by decide +kernel⟩
abbrev st_moved : Stmt := top 15
def N_moved : List Str := ["sheet", "point", "side", "there"]
theorem sc_moved : FnScope N_moved ["sheet", "point", "side"] (defScope st_moved) := ⟨rfl, rfl, rfl, by decide +kernel, rfl, by decide +kernel, by decide +kernel⟩
abbrev st_distance : Stmt := top 16
def N_distance : List Str := ["one", "other"]
theorem sc_distance : FnScope N_distance ["one", "other"] (defScope st_distance) := ⟨rfl, rfl, rfl, by decide +kernel, rfl, by decide +kernel, by decide +kernel⟩
abbrev st_line_between : Stmt := top 17
def N_line_between : List Str := ["one", "other", "least"]
theorem sc_line_between : FnScope N_line_between ["one", "other"] (defScope st_line_between) := ⟨rfl, rfl, rfl, by decide +kernel, rfl, by decide +kernel, by decide +kernel⟩
abbrev st_side_between : Stmt := top 18
def N_side_between : List Str := ["one", "other", "side"]
theorem sc_side_between : FnScope N_side_between ["one", "other"] (defScope st_side_between) := ⟨rfl, rfl, rfl, by decide +kernel, rfl, by decide +kernel, by decide +kernel⟩
abbrev st_neighbours : Stmt := top 19
def N_neighbours : List Str := ["sheet", "point", "rows", "side", "there"]
theorem sc_neighbours : FnScope N_neighbours ["sheet", "point"] (defScope st_neighbours) := ⟨rfl, rfl, rfl, by decide +kernel, rfl, by decide +kernel, by decide +kernel⟩
abbrev st_is_at_rim : Stmt := top 20
def N_is_at_rim : List Str := ["sheet", "point", "side"]
theorem sc_is_at_rim : FnScope N_is_at_rim ["sheet", "point", "side"] (defScope st_is_at_rim) := ⟨rfl, rfl, rfl, by decide +kernel, rfl, by decide +kernel, by decide +kernel⟩
abbrev st_straight_way : Stmt := top 21
def N_straight_way : List Str := ["one", "other", "across", "along"]
theorem sc_straight_way : FnScope N_straight_way ["one", "other"] (defScope st_straight_way) := ⟨rfl, rfl, rfl, by decide +kernel, rfl, by decide +kernel, by decide +kernel⟩
abbrev st_walked : Stmt := top 22
def N_walked : List Str := ["sheet", "point", "sides", "found", "side", "there"]
theorem sc_walked : FnScope N_walked ["sheet", "point", "sides"] (defScope st_walked) := ⟨rfl, rfl, rfl, by decide +kernel, rfl, by decide +kernel, by decide +kernel⟩
abbrev st_lines_walked : Stmt := top 23
def N_lines_walked : List Str := ["sheet", "point", "sides", "rows", "one", "other"]
theorem sc_lines_walked : FnScope N_lines_walked ["sheet", "point", "sides"] (defScope st_lines_walked) := ⟨rfl, rfl, rfl, by decide +kernel, rfl, by decide +kernel, by decide +kernel⟩
abbrev st__law_bag : Stmt := top 25
def N__law_bag : List Str := ["script", "cell"]
theorem sc__law_bag : FnScope N__law_bag ["script"] (defScope st__law_bag) := ⟨rfl, rfl, rfl, by decide +kernel, rfl, by decide +kernel, by decide +kernel⟩
abbrev st__law_take : Stmt := top 26
def N__law_take : List Str := ["bag", "many", "cell", "stirred", "value", "begin", "second"]
theorem sc__law_take : FnScope N__law_take ["bag", "many"] (defScope st__law_take) := ⟨rfl, rfl, rfl, by decide +kernel, rfl, by decide +kernel, by decide +kernel⟩
abbrev st__law_some : Stmt := top 27
def N__law_some : List Str := ["bag", "things"]
theorem sc__law_some : FnScope N__law_some ["bag", "things"] (defScope st__law_some) := ⟨rfl, rfl, rfl, by decide +kernel, rfl, by decide +kernel, by decide +kernel⟩
abbrev st__law_mixed : Stmt := top 28
def N__law_mixed : List Str := ["bag", "things", "found", "thing"]
theorem sc__law_mixed : FnScope N__law_mixed ["bag", "things"] (defScope st__law_mixed) := ⟨rfl, rfl, rfl, by decide +kernel, rfl, by decide +kernel, by decide +kernel⟩
abbrev st__law_alike : Stmt := top 29
def N__law_alike : List Str := ["found", "due"]
theorem sc__law_alike : FnScope N__law_alike ["found", "due"] (defScope st__law_alike) := ⟨rfl, rfl, rfl, by decide +kernel, rfl, by decide +kernel, by decide +kernel⟩
abbrev st__law_points : Stmt := top 30
def N__law_points : List Str := ["sheet", "found", "x", "y"]
theorem sc__law_points : FnScope N__law_points ["sheet"] (defScope st__law_points) := ⟨rfl, rfl, rfl, by decide +kernel, rfl, by decide +kernel, by decide +kernel⟩
abbrev st__law_ends : Stmt := top 31
def N__law_ends : List Str := ["line", "x", "y", "way"]
theorem sc__law_ends : FnScope N__law_ends ["line"] (defScope st__law_ends) := ⟨rfl, rfl, rfl, by decide +kernel, rfl, by decide +kernel, by decide +kernel⟩
abbrev st__law_on : Stmt := top 32
def N__law_on : List Str := ["sheet", "point"]
theorem sc__law_on : FnScope N__law_on ["sheet", "point"] (defScope st__law_on) := ⟨rfl, rfl, rfl, by decide +kernel, rfl, by decide +kernel, by decide +kernel⟩
abbrev st__law_lines_of : Stmt := top 33
def N__law_lines_of : List Str := ["sheet", "found", "x", "y", "way"]
theorem sc__law_lines_of : FnScope N__law_lines_of ["sheet"] (defScope st__law_lines_of) := ⟨rfl, rfl, rfl, by decide +kernel, rfl, by decide +kernel, by decide +kernel⟩
abbrev st__law_beside : Stmt := top 34
def N__law_beside : List Str := ["point", "side", "x", "y"]
theorem sc__law_beside : FnScope N__law_beside ["point", "side"] (defScope st__law_beside) := ⟨rfl, rfl, rfl, by decide +kernel, rfl, by decide +kernel, by decide +kernel⟩
abbrev st__law_line : Stmt := top 35
def N__law_line : List Str := ["one", "other", "least"]
theorem sc__law_line : FnScope N__law_line ["one", "other"] (defScope st__law_line) := ⟨rfl, rfl, rfl, by decide +kernel, rfl, by decide +kernel, by decide +kernel⟩
abbrev st__law_straight : Stmt := top 36
def N__law_straight : List Str := ["one", "other", "across", "along"]
theorem sc__law_straight : FnScope N__law_straight ["one", "other"] (defScope st__law_straight) := ⟨rfl, rfl, rfl, by decide +kernel, rfl, by decide +kernel, by decide +kernel⟩
abbrev st__law_walk : Stmt := top 37
def N__law_walk : List Str := ["sheet", "point", "plot", "spots", "lines", "side", "pen", "there"]
theorem sc__law_walk : FnScope N__law_walk ["sheet", "point", "plot"] (defScope st__law_walk) := ⟨rfl, rfl, rfl, by decide +kernel, rfl, by decide +kernel, by decide +kernel⟩
abbrev st__law_heard : Stmt := top 38
def N__law_heard : List Str := ["act"]
theorem sc__law_heard : FnScope N__law_heard ["act"] (defScope st__law_heard) := ⟨rfl, rfl, rfl, by decide +kernel, rfl, by decide +kernel, by decide +kernel⟩
abbrev st_law : Stmt := top 39
def N_law : List Str := ["script", "bag", "lap", "sheet", "every", "lines", "line", "one", "other", "away", "ends", "side", "heard", "near", "found", "due", "there", "sides", "turn", "walk", "row", "straight", "odd", "bad"]
theorem sc_law : FnScope N_law ["script"] (defScope st_law) := ⟨rfl, rfl, rfl, by decide +kernel, rfl, by decide +kernel, by decide +kernel⟩
theorem bootabs : bootBuiltins "abs" = some (.builtin "abs") := by first | exact boot_abs | decide +kernel
theorem bootbool : bootBuiltins "bool" = some (.type "bool") := by first | exact boot_bool | decide +kernel
theorem bootint : bootBuiltins "int" = some (.type "int") := by first | exact boot_int | decide +kernel
theorem bootlen : bootBuiltins "len" = some (.builtin "len") := by first | exact boot_len | decide +kernel
theorem bootlist : bootBuiltins "list" = some (.type "list") := by first | exact boot_list | decide +kernel
theorem bootmin : bootBuiltins "min" = some (.builtin "min") := by first | exact boot_min | decide +kernel
theorem bootrepr : bootBuiltins "repr" = some (.builtin "repr") := by first | exact boot_repr | decide +kernel
theorem bootsorted : bootBuiltins "sorted" = some (.builtin "sorted") := by first | exact boot_sorted | decide +kernel
theorem boottuple : bootBuiltins "tuple" = some (.type "tuple") := by first | exact boot_tuple | decide +kernel
/-- the built-ins are as they were, the written dict -/
structure Bs (K : PySem.W.Frag) (mg : Str → Option Value) (w : World) (aGOES : Addr) : Prop where
  n_abs : mg "abs" = none
  n_bool : mg "bool" = none
  n_int : mg "int" = none
  n_isinstance : mg "isinstance" = none
  n_len : mg "len" = none
  n_list : mg "list" = none
  n_min : mg "min" = none
  n_range : mg "range" = none
  n_repr : mg "repr" = none
  n_sorted : mg "sorted" = none
  n_tuple : mg "tuple" = none
  n_zip : mg "zip" = none
  gGOES : mg "GOES" = some (.ref aGOES)
  dGOES : ∀ b1 b2 tb F, DR ⟨K, mg, b1, b2, w, tb⟩ F (.ref aGOES) dGOES
/-- the error's class, the def that hears -/
structure Lh (K : PySem.W.Frag) (mg : Str → Option Value) (fH CS : Addr) (fdH : FuncData) : Prop where
  fn : Fun K "_law_heard" "_law_heard" st__law_heard fH fdH
  ld : mg "_law_heard" = some (.ref fH)
  bi : L2.Binds K fdH ["act"] []
  cs : mg "Nothing" = some (.ref CS)
  ex : PySem.W.exmOne K (.ref CS) (.ref CS) = some true
  eq : PySem.W.excIn K CS [.type "ValueError", .type "Exception", .type "BaseException", .type "object"] "ValueError.__new__" = true
  kc : PySem.W.keepIn K (.ref CS) = true
  sb : PySem.W.subIn K (.ref CS) (.type "BaseException") = some true
  ty : PySem.W.typeIn K (.ref CS) = some (.type "type")
section
variable {P : Program} {w : World} {K : PySem.W.Frag} {mg : Str → Option Value} {base : Heap} {aGOES fH CS : Addr} {fdH : FuncData}

def m_is_number : Ex Fl := (sRet (fAndV (bnd (fSee 0) fun d => opt (gIsi "int" d)) (fNotV (bnd (fSee 0) fun d => opt (gIsi "bool" d)))))
def M_is_number : List D → M D := runM 1 m_is_number
theorem cal_is_number {f : Addr} {fd : FuncData} (B : Bs K mg w aGOES) (L : Lh K mg fH CS fdH) (Fn : Fun K "is_number" "is_number" st_is_number f fd) (hm : mg "is_number" = some (.ref f)) (hb : L2.Binds K fd ["thing"] []) : Cal P w K mg base false 1 "is_number" 1 M_is_number := by
  refine cal_of (k := 0) (N := N_is_number) Fn hm hb sc_is_number rfl (by decide) fun cdv A outer s H F0 E b1 b2 tb C tk po => ?_
  exact (b_one (s_ret (e_and (e_isi bootint B.n_int B.n_isinstance (e_see 0)) (e_one (e_not (e_isi bootbool B.n_bool B.n_isinstance (e_see 0)))))))

def m_is_index : Ex Fl := (sRet (fAndV (fCall M_is_number [(fVar 0)]) (f2 (gB fun i j => decide (j ≤ i)) (fSee 0) (ret (.int 0)))))
def M_is_index : List D → M D := runM 1 m_is_index
theorem cal_is_index {f : Addr} {fd : FuncData} (B : Bs K mg w aGOES) (L : Lh K mg fH CS fdH) (Fn : Fun K "is_index" "is_index" st_is_index f fd) (hm : mg "is_index" = some (.ref f)) (hb : L2.Binds K fd ["thing"] []) (c_is_number : Cal P w K mg base false 1 "is_number" 1 M_is_number) : Cal P w K mg base false 2 "is_index" 1 M_is_index := by
  refine cal_of (k := 1) (N := N_is_index) Fn hm hb sc_is_index rfl (by decide) fun cdv A outer s H F0 E b1 b2 tb C tk po => ?_
  exact (b_one (s_ret (e_and (e_call c_is_number C (ea_cons (e_var 0) ea_nil)) (e_one (e_cmp o_ge (e_see 0) (EE.v e_int))))))

def m_is_sized : Ex Fl := (sRet (fAndV (bnd (fSee 0) fun d => opt (gIsi "tuple" d)) (f2 gEq (bnd (fSee 0) fun d => opt (gLen d)) (fSee 1))))
def M_is_sized : List D → M D := runM 2 m_is_sized
theorem cal_is_sized {f : Addr} {fd : FuncData} (B : Bs K mg w aGOES) (L : Lh K mg fH CS fdH) (Fn : Fun K "is_sized" "is_sized" st_is_sized f fd) (hm : mg "is_sized" = some (.ref f)) (hb : L2.Binds K fd ["thing", "many"] []) : Cal P w K mg base false 1 "is_sized" 2 M_is_sized := by
  refine cal_of (k := 0) (N := N_is_sized) Fn hm hb sc_is_sized rfl (by decide) fun cdv A outer s H F0 E b1 b2 tb C tk po => ?_
  exact (b_one (s_ret (e_and (e_isi boottuple B.n_tuple B.n_isinstance (e_see 0)) (e_one (e_cmp (o_eq C.room) (EE.v (e_blt b_len B.n_len bootlen (e_see 0))) (e_see 1))))))

def m_is_couple : Ex Fl := (sRet (fAndV (fCall M_is_sized [(fVar 0), (ret (.int 2))]) (fAndV (fCall M_is_index [(f2 gIx (fSee 0) (ret (.int 0)))]) (fCall M_is_index [(f2 gIx (fSee 0) (ret (.int 1)))]))))
def M_is_couple : List D → M D := runM 1 m_is_couple
theorem cal_is_couple {f : Addr} {fd : FuncData} (B : Bs K mg w aGOES) (L : Lh K mg fH CS fdH) (Fn : Fun K "is_couple" "is_couple" st_is_couple f fd) (hm : mg "is_couple" = some (.ref f)) (hb : L2.Binds K fd ["thing"] []) (c_is_index : Cal P w K mg base false 2 "is_index" 1 M_is_index) (c_is_sized : Cal P w K mg base false 1 "is_sized" 2 M_is_sized) : Cal P w K mg base false 3 "is_couple" 1 M_is_couple := by
  refine cal_of (k := 2) (N := N_is_couple) Fn hm hb sc_is_couple rfl (by decide) fun cdv A outer s H F0 E b1 b2 tb C tk po => ?_
  exact (b_one (s_ret (e_and (e_call c_is_sized C (ea_cons (e_var 0) (ea_cons e_int ea_nil))) (e_and (e_call c_is_index C (ea_cons (e_ix (e_see 0) e_int) ea_nil)) (e_one (e_call c_is_index C (ea_cons (e_ix (e_see 0) e_int) ea_nil)))))))

def m_is_point : Ex Fl := (sRet (fAndV (fCall M_is_couple [(fVar 1)]) (fAndV (f2 (gB fun i j => decide (i ≤ j)) (f2 gIx (fSee 1) (ret (.int 0))) (f2 gIx (fSee 0) (ret (.int 0)))) (f2 (gB fun i j => decide (i ≤ j)) (f2 gIx (fSee 1) (ret (.int 1))) (f2 gIx (fSee 0) (ret (.int 1)))))))
def M_is_point : List D → M D := runM 2 m_is_point
theorem cal_is_point {f : Addr} {fd : FuncData} (B : Bs K mg w aGOES) (L : Lh K mg fH CS fdH) (Fn : Fun K "is_point" "is_point" st_is_point f fd) (hm : mg "is_point" = some (.ref f)) (hb : L2.Binds K fd ["sheet", "thing"] []) (c_is_couple : Cal P w K mg base false 3 "is_couple" 1 M_is_couple) : Cal P w K mg base false 4 "is_point" 2 M_is_point := by
  refine cal_of (k := 3) (N := N_is_point) Fn hm hb sc_is_point rfl (by decide) fun cdv A outer s H F0 E b1 b2 tb C tk po => ?_
  exact (b_one (s_ret (e_and (e_call c_is_couple C (ea_cons (e_var 1) ea_nil)) (e_and (e_cmp o_le (EE.v (e_ix (e_see 1) e_int)) (EE.v (e_ix (e_see 0) e_int))) (e_one (e_cmp o_le (EE.v (e_ix (e_see 1) e_int)) (EE.v (e_ix (e_see 0) e_int))))))))

def m_points : Ex Fl := (sRet (fLc2 [1, 2] (fRng1 (fAdd (f2 gIx (fSee 0) (ret (.int 0))) (ret (.int 1)))) (gSet 1) (ret true) [2] (fRng1 (fAdd (f2 gIx (fSee 0) (ret (.int 1))) (ret (.int 1)))) (gSet 2) (ret true) (fTup [(fVar 1), (fVar 2)])))
def M_points : List D → M D := runM 3 m_points
theorem cal_points {f : Addr} {fd : FuncData} (B : Bs K mg w aGOES) (L : Lh K mg fH CS fdH) (Fn : Fun K "points" "points" st_points f fd) (hm : mg "points" = some (.ref f)) (hb : L2.Binds K fd ["sheet"] []) : Cal P w K mg base false 1 "points" 1 M_points := by
  refine cal_of (k := 0) (N := N_points) Fn hm hb sc_points rfl (by decide) fun cdv A outer s H F0 E b1 b2 tb C tk po => ?_
  exact (b_one (s_ret (e_lc2 (vs := [1, 2]) (vs1 := [2]) C.calm C.nd (i_rng1 B.n_range (e_add (EE.v (e_ix (e_see 0) e_int)) (EE.v e_int))) (blkOk_by (N := N_points) (sc := defScope st_points) (own := [("x", 1), ("y", 2)]) (by decide +kernel)) rfl (by decide) (fun s H cc cl fp => (g_name 1 (C.blk s H _ (compEnvC _ cl cc _) fp).nd (by decide))) (calm_set 1) (gfz_set (vs := []) 1) (fun s H cc cl fp => ts_nil) (fun s H cc cl fp => (i_rng1 B.n_range (e_add (EE.v (e_ix (e_see 0) e_int)) (EE.v e_int)))) (fun s H cc cl fp => (g_name 2 (C.blk s H _ (compEnvC _ cl cc _) fp).nd (by decide))) (calm_set 2) (gfz_set (vs := []) 2) (fun s H cc cl fp => ts_nil) (fun s H cc cl fp => (e_tup (ea_cons (e_var 1) (ea_cons (e_var 2) ea_nil)))))))

def m_lines_of : Ex Fl := (sSeq (sSet 1 (fLc [2, 3] (fIt (fCall M_points [(fVar 0)])) (gUn 2 (gsCons (gSet 2) (gsCons (gSet 3) gsNil))) (fB (f2 (gB fun i j => decide (i < j)) (fSee 2) (f2 gIx (fSee 0) (ret (.int 0))))) (fTup [(fVar 2), (fVar 3), (ret (.int 0))])))
  (sRet (bnd (fAdd (fSee 1) (fLc [2, 3] (fIt (fCall M_points [(fVar 0)])) (gUn 2 (gsCons (gSet 2) (gsCons (gSet 3) gsNil))) (fB (f2 (gB fun i j => decide (i < j)) (fSee 3) (f2 gIx (fSee 0) (ret (.int 1))))) (fTup [(fVar 2), (fVar 3), (ret (.int 1))]))) fun d => opt (gSort d))))
def M_lines_of : List D → M D := runM 4 m_lines_of
theorem cal_lines_of {f : Addr} {fd : FuncData} (B : Bs K mg w aGOES) (L : Lh K mg fH CS fdH) (Fn : Fun K "lines_of" "lines_of" st_lines_of f fd) (hm : mg "lines_of" = some (.ref f)) (hb : L2.Binds K fd ["sheet"] []) (c_points : Cal P w K mg base false 1 "points" 1 M_points) : Cal P w K mg base false 2 "lines_of" 1 M_lines_of := by
  refine cal_of (k := 1) (N := N_lines_of) Fn hm hb sc_lines_of rfl (by decide) fun cdv A outer s H F0 E b1 b2 tb C tk po => ?_
  exact (b_cons (s_setLc 1 (vs := [2, 3]) C.calm C.nd (i_any (e_call c_points C (ea_cons (e_var 0) ea_nil))) (blkOk_by (N := N_lines_of) (sc := defScope st_lines_of) (own := [("x", 2), ("y", 3)]) (by decide +kernel)) rfl (fun s H cc cl fp => (g_tup (C.blk s H _ (compEnvC _ cl cc _) fp).calm (gs_cons (g_name 2 (C.blk s H _ (compEnvC _ cl cc _) fp).nd (by decide)) (gs_cons (g_name 3 (C.blk s H _ (compEnvC _ cl cc _) fp).nd (by decide)) gs_nil)))) (calm_un (calm_cons (calm_set 2) (calm_cons (calm_set 3) calm_nil))) (gfz_un (gfz_cons (vs := []) (gfz_set (vs := []) 2) (gfz_cons (vs := []) (gfz_set (vs := []) 3) gfz_nil))) (fun s H cc cl fp => (ts_one (t_cmp o_lt (e_see 2) (EE.v (e_ix (e_see 0) e_int))))) (fun s H cc cl fp => (e_tup (ea_cons (e_var 2) (ea_cons (e_var 3) (ea_cons e_int ea_nil))))) (sw_true rfl rfl rfl (by decide +kernel)))
    (b_one (s_ret (e_blt (b_sorted C.room) B.n_sorted bootsorted (EE.v (e_add (e_see 1) (EE.v (e_lc (vs := [2, 3]) C.calm C.nd (i_any (e_call c_points C (ea_cons (e_var 0) ea_nil))) (blkOk_by (N := N_lines_of) (sc := defScope st_lines_of) (own := [("x", 2), ("y", 3)]) (by decide +kernel)) rfl (fun s H cc cl fp => (g_tup (C.blk s H _ (compEnvC _ cl cc _) fp).calm (gs_cons (g_name 2 (C.blk s H _ (compEnvC _ cl cc _) fp).nd (by decide)) (gs_cons (g_name 3 (C.blk s H _ (compEnvC _ cl cc _) fp).nd (by decide)) gs_nil)))) (calm_un (calm_cons (calm_set 2) (calm_cons (calm_set 3) calm_nil))) (gfz_un (gfz_cons (vs := []) (gfz_set (vs := []) 2) (gfz_cons (vs := []) (gfz_set (vs := []) 3) gfz_nil))) (fun s H cc cl fp => (ts_one (t_cmp o_lt (e_see 3) (EE.v (e_ix (e_see 0) e_int))))) (fun s H cc cl fp => (e_tup (ea_cons (e_var 2) (ea_cons (e_var 3) (ea_cons e_int ea_nil)))))))))))))

def m_ends_of : Ex Fl := (sSeq (sAsg (gUn 3 (gsCons (gSet 1) (gsCons (gSet 2) (gsCons (gSet 3) gsNil)))) (fVar 0))
  (sRet (fTup [(fTup [(fVar 1), (fVar 2)]), (fIf (fB (f2 gEq (fSee 3) (ret (.int 0)))) (fTup [(fAdd (fSee 1) (ret (.int 1))), (fVar 2)]) (fTup [(fVar 1), (fAdd (fSee 2) (ret (.int 1)))]))])))
def M_ends_of : List D → M D := runM 4 m_ends_of
theorem cal_ends_of {f : Addr} {fd : FuncData} (B : Bs K mg w aGOES) (L : Lh K mg fH CS fdH) (Fn : Fun K "ends_of" "ends_of" st_ends_of f fd) (hm : mg "ends_of" = some (.ref f)) (hb : L2.Binds K fd ["line"] []) : Cal P w K mg base false 1 "ends_of" 1 M_ends_of := by
  refine cal_of (k := 0) (N := N_ends_of) Fn hm hb sc_ends_of rfl (by decide) fun cdv A outer s H F0 E b1 b2 tb C tk po => ?_
  exact (b_cons (s_asg (vs := [1, 2, 3]) (e_var 0) (g_tup C.calm (gs_cons (g_name 1 C.nd (by decide)) (gs_cons (g_name 2 C.nd (by decide)) (gs_cons (g_name 3 C.nd (by decide)) gs_nil)))) (calm_un (calm_cons (calm_set 1) (calm_cons (calm_set 2) (calm_cons (calm_set 3) calm_nil)))))
    (b_one (s_ret (e_tup (ea_cons (e_tup (ea_cons (e_var 1) (ea_cons (e_var 2) ea_nil))) (ea_cons (e_if (t_cmp (o_eq C.room) (e_see 3) (EE.v e_int)) (e_tup (ea_cons (e_add (e_see 1) (EE.v e_int)) (ea_cons (e_var 2) ea_nil))) (e_tup (ea_cons (e_var 1) (ea_cons (e_add (e_see 2) (EE.v e_int)) ea_nil)))) ea_nil))))))

def m_moved : Ex Fl := (sSeq (sIf (fOr (fNot (fB (fCall M_is_point [(fVar 0), (fVar 1)]))) (fB (f2 gNotInD2 (fSee 2) (ret dGOES)))) (sRaise "Nothing") (ret .nx))
  (sSeq (sSet 3 (fTup [(fAdd (f2 gIx (fSee 1) (ret (.int 0))) (f2 gIx (f2 gDGet (ret dGOES) (fVar 2)) (ret (.int 0)))), (fAdd (f2 gIx (fSee 1) (ret (.int 1))) (f2 gIx (f2 gDGet (ret dGOES) (fVar 2)) (ret (.int 1))))]))
  (sRet (fIf (fB (fCall M_is_point [(fVar 0), (fVar 3)])) (fVar 3) (ret .non)))))
def M_moved : List D → M D := runM 4 m_moved
theorem cal_moved {f : Addr} {fd : FuncData} (B : Bs K mg w aGOES) (L : Lh K mg fH CS fdH) (Fn : Fun K "moved" "moved" st_moved f fd) (hm : mg "moved" = some (.ref f)) (hb : L2.Binds K fd ["sheet", "point", "side"] []) (c_is_point : Cal P w K mg base false 4 "is_point" 2 M_is_point) : Cal P w K mg base false 5 "moved" 3 M_moved := by
  refine cal_of (k := 4) (N := N_moved) Fn hm hb sc_moved rfl (by decide) fun cdv A outer s H F0 E b1 b2 tb C tk po => ?_
  exact (b_cons (s_if (t_w (w_or (t_not (t_val (e_call c_is_point C (ea_cons (e_var 0) (ea_cons (e_var 1) ea_nil))))) (w_or1 (t_cmp o_notInG (e_see 2) (EE.v (e_glob B.gGOES (fun F => B.dGOES _ _ _ F))))))) (b_one (s_raise C.calm tk PySem.F.excBase_ValueError L.eq L.cs L.kc (raises_own L.sb L.ty))) b_nil)
    (b_cons (s_set 3 C.nd (e_tup (ea_cons (e_add (EE.v (e_ix (e_see 1) e_int)) (EE.v (e_ix (EE.v (e_dget (e_glob B.gGOES (fun F => B.dGOES _ _ _ F)) (e_var 2))) e_int))) (ea_cons (e_add (EE.v (e_ix (e_see 1) e_int)) (EE.v (e_ix (EE.v (e_dget (e_glob B.gGOES (fun F => B.dGOES _ _ _ F)) (e_var 2))) e_int))) ea_nil))))
    (b_one (s_ret (e_if (t_val (e_call c_is_point C (ea_cons (e_var 0) (ea_cons (e_var 3) ea_nil)))) (e_var 3) e_non)))))

def m_distance : Ex Fl := (sRet (fAdd (bnd (f2 (gI (· - ·)) (f2 gIx (fSee 0) (ret (.int 0))) (f2 gIx (fSee 1) (ret (.int 0)))) fun d => opt (gAbs d)) (bnd (f2 (gI (· - ·)) (f2 gIx (fSee 0) (ret (.int 1))) (f2 gIx (fSee 1) (ret (.int 1)))) fun d => opt (gAbs d))))
def M_distance : List D → M D := runM 2 m_distance
theorem cal_distance {f : Addr} {fd : FuncData} (B : Bs K mg w aGOES) (L : Lh K mg fH CS fdH) (Fn : Fun K "distance" "distance" st_distance f fd) (hm : mg "distance" = some (.ref f)) (hb : L2.Binds K fd ["one", "other"] []) : Cal P w K mg base false 1 "distance" 2 M_distance := by
  refine cal_of (k := 0) (N := N_distance) Fn hm hb sc_distance rfl (by decide) fun cdv A outer s H F0 E b1 b2 tb C tk po => ?_
  exact (b_one (s_ret (e_add (EE.v (e_blt b_abs B.n_abs bootabs (EE.v (e_bin o_sub (e_ix (e_see 0) e_int) (e_ix (e_see 1) e_int))))) (EE.v (e_blt b_abs B.n_abs bootabs (EE.v (e_bin o_sub (e_ix (e_see 0) e_int) (e_ix (e_see 1) e_int))))))))

def m_line_between : Ex Fl := (sSeq (sIf (fB (f2 gNe (fCall M_distance [(fVar 0), (fVar 1)]) (ret (.int 1)))) (sRaise "Nothing") (ret .nx))
  (sSeq (sSet 2 (bnd (fVar 0) fun d => bnd (fVar 1) fun d' => opt (gMinD d d')))
  (sRet (fTupG (fStar (fVar 2) (seqM [(fIf (fB (f2 gEq (f2 gIx (fSee 0) (ret (.int 1))) (f2 gIx (fSee 1) (ret (.int 1))))) (ret (.int 0)) (ret (.int 1)))]))))))
def M_line_between : List D → M D := runM 3 m_line_between
theorem cal_line_between {f : Addr} {fd : FuncData} (B : Bs K mg w aGOES) (L : Lh K mg fH CS fdH) (Fn : Fun K "line_between" "line_between" st_line_between f fd) (hm : mg "line_between" = some (.ref f)) (hb : L2.Binds K fd ["one", "other"] []) (c_distance : Cal P w K mg base false 1 "distance" 2 M_distance) : Cal P w K mg base false 2 "line_between" 2 M_line_between := by
  refine cal_of (k := 1) (N := N_line_between) Fn hm hb sc_line_between rfl (by decide) fun cdv A outer s H F0 E b1 b2 tb C tk po => ?_
  exact (b_cons (s_if (t_cmp (o_ne C.room) (EE.v (e_call c_distance C (ea_cons (e_var 0) (ea_cons (e_var 1) ea_nil)))) (EE.v e_int)) (b_one (s_raise C.calm tk PySem.F.excBase_ValueError L.eq L.cs L.kc (raises_own L.sb L.ty))) b_nil)
    (b_cons (s_set 2 C.nd (e_blt2 (b_minD C.calm C.room) B.n_min bootmin (e_var 0) (e_var 1)))
    (b_one (s_ret (e_tupG (ea_star (e_var 2) (ea_cons (e_if (t_cmp (o_eq C.room) (EE.v (e_ix (e_see 0) e_int)) (EE.v (e_ix (e_see 1) e_int))) e_int e_int) ea_nil)))))))

def m_side_between : Ex Fl := (sSeq (sFor (fIt (bnd (ret dGOES) fun d => opt (gSortK goesK goesS d))) (gSet 2) (sIf (fB (f2 gEq (fTup [(fAdd (f2 gIx (fSee 0) (ret (.int 0))) (f2 gIx (f2 gDGet (ret dGOES) (fVar 2)) (ret (.int 0)))), (fAdd (f2 gIx (fSee 0) (ret (.int 1))) (f2 gIx (f2 gDGet (ret dGOES) (fVar 2)) (ret (.int 1))))]) (fSee 1))) (sRet (fVar 2)) (ret .nx)))
  (sRaise "Nothing"))
def M_side_between : List D → M D := runM 3 m_side_between
theorem cal_side_between {f : Addr} {fd : FuncData} (B : Bs K mg w aGOES) (L : Lh K mg fH CS fdH) (Fn : Fun K "side_between" "side_between" st_side_between f fd) (hm : mg "side_between" = some (.ref f)) (hb : L2.Binds K fd ["one", "other"] []) : Cal P w K mg base false 1 "side_between" 2 M_side_between := by
  refine cal_of (k := 0) (N := N_side_between) Fn hm hb sc_side_between rfl (by decide) fun cdv A outer s H F0 E b1 b2 tb C tk po => ?_
  exact (b_cons (s_for (vs := [2]) po C.calm (i_any (e_blt (b_sortK goesK goesS C.calm (by decide) goes_sorted) B.n_sorted bootsorted (EE.v (e_glob B.gGOES (fun F => B.dGOES _ _ _ F))))) (g_name 2 C.nd (by decide)) (calm_set 2) (b_one (s_if (t_cmp (o_eq C.room) (EE.v (e_tup (ea_cons (e_add (EE.v (e_ix (e_see 0) e_int)) (EE.v (e_ix (EE.v (e_dget (e_glob B.gGOES (fun F => B.dGOES _ _ _ F)) (e_var 2))) e_int))) (ea_cons (e_add (EE.v (e_ix (e_see 0) e_int)) (EE.v (e_ix (EE.v (e_dget (e_glob B.gGOES (fun F => B.dGOES _ _ _ F)) (e_var 2))) e_int))) ea_nil)))) (e_see 1)) (b_one (s_ret (e_var 2))) b_nil)))
    (b_one (s_raise C.calm tk PySem.F.excBase_ValueError L.eq L.cs L.kc (raises_own L.sb L.ty))))

def m_neighbours : Ex Fl := (sSeq (sSet 2 (fLc [3] (fIt (bnd (ret dGOES) fun d => opt (gSortK goesK goesS d))) (gSet 3) (ret true) (fTup [(fVar 3), (fCall M_moved [(fVar 0), (fVar 1), (fVar 3)])])))
  (sRet (fLc [3, 4] (fIt (fVar 2)) (gUn 2 (gsCons (gSet 3) (gsCons (gSet 4) gsNil))) (fB (f2 gIsN (fSee 4) (ret .non))) (fTup [(fVar 3), (fVar 4)]))))
def M_neighbours : List D → M D := runM 5 m_neighbours
theorem cal_neighbours {f : Addr} {fd : FuncData} (B : Bs K mg w aGOES) (L : Lh K mg fH CS fdH) (Fn : Fun K "neighbours" "neighbours" st_neighbours f fd) (hm : mg "neighbours" = some (.ref f)) (hb : L2.Binds K fd ["sheet", "point"] []) (c_moved : Cal P w K mg base false 5 "moved" 3 M_moved) : Cal P w K mg base false 6 "neighbours" 2 M_neighbours := by
  refine cal_of (k := 5) (N := N_neighbours) Fn hm hb sc_neighbours rfl (by decide) fun cdv A outer s H F0 E b1 b2 tb C tk po => ?_
  exact (b_cons (s_setLc 2 (vs := [3]) C.calm C.nd (i_any (e_blt (b_sortK goesK goesS C.calm (by decide) goes_sorted) B.n_sorted bootsorted (EE.v (e_glob B.gGOES (fun F => B.dGOES _ _ _ F))))) (blkOk_by (N := N_neighbours) (sc := defScope st_neighbours) (own := [("side", 3)]) (by decide +kernel)) rfl (fun s H cc cl fp => (g_name 3 (C.blk s H _ (compEnvC _ cl cc _) fp).nd (by decide))) (calm_set 3) (gfz_set (vs := []) 3) (fun s H cc cl fp => ts_nil) (fun s H cc cl fp => (e_tup (ea_cons (e_var 3) (ea_cons (e_call c_moved (C.blk s H _ (compEnvC _ cl cc _) fp) (ea_cons (e_var 0) (ea_cons (e_var 1) (ea_cons (e_var 3) ea_nil)))) ea_nil)))) (sw_true rfl rfl rfl (by decide +kernel)))
    (b_one (s_ret (e_lc (vs := [3, 4]) C.calm C.nd (i_any (e_var 2)) (blkOk_by (N := N_neighbours) (sc := defScope st_neighbours) (own := [("side", 3), ("there", 4)]) (by decide +kernel)) rfl (fun s H cc cl fp => (g_tup (C.blk s H _ (compEnvC _ cl cc _) fp).calm (gs_cons (g_name 3 (C.blk s H _ (compEnvC _ cl cc _) fp).nd (by decide)) (gs_cons (g_name 4 (C.blk s H _ (compEnvC _ cl cc _) fp).nd (by decide)) gs_nil)))) (calm_un (calm_cons (calm_set 3) (calm_cons (calm_set 4) calm_nil))) (gfz_un (gfz_cons (vs := []) (gfz_set (vs := []) 3) (gfz_cons (vs := []) (gfz_set (vs := []) 4) gfz_nil))) (fun s H cc cl fp => (ts_one (t_cmp o_isN (e_see 4) (EE.v e_non)))) (fun s H cc cl fp => (e_tup (ea_cons (e_var 3) (ea_cons (e_var 4) ea_nil))))))))

def m_is_at_rim : Ex Fl := (sRet (f2 gIs (fCall M_moved [(fVar 0), (fVar 1), (fVar 2)]) (ret .non)))
def M_is_at_rim : List D → M D := runM 3 m_is_at_rim
theorem cal_is_at_rim {f : Addr} {fd : FuncData} (B : Bs K mg w aGOES) (L : Lh K mg fH CS fdH) (Fn : Fun K "is_at_rim" "is_at_rim" st_is_at_rim f fd) (hm : mg "is_at_rim" = some (.ref f)) (hb : L2.Binds K fd ["sheet", "point", "side"] []) (c_moved : Cal P w K mg base false 5 "moved" 3 M_moved) : Cal P w K mg base false 6 "is_at_rim" 3 M_is_at_rim := by
  refine cal_of (k := 5) (N := N_is_at_rim) Fn hm hb sc_is_at_rim rfl (by decide) fun cdv A outer s H F0 E b1 b2 tb C tk po => ?_
  exact (b_one (s_ret (e_cmp o_is (EE.v (e_call c_moved C (ea_cons (e_var 0) (ea_cons (e_var 1) (ea_cons (e_var 2) ea_nil))))) (EE.v e_non))))

def m_straight_way : Ex Fl := (sSeq (sSet 2 (fIf (fB (f2 (gB fun i j => decide (j < i)) (f2 gIx (fSee 1) (ret (.int 0))) (f2 gIx (fSee 0) (ret (.int 0))))) (ret (.str "e")) (ret (.str "w"))))
  (sSeq (sSet 3 (fIf (fB (f2 (gB fun i j => decide (j < i)) (f2 gIx (fSee 1) (ret (.int 1))) (f2 gIx (fSee 0) (ret (.int 1))))) (ret (.str "n")) (ret (.str "s"))))
  (sRet (fAdd (fMul (fLst [(fVar 2)]) (bnd (f2 (gI (· - ·)) (f2 gIx (fSee 1) (ret (.int 0))) (f2 gIx (fSee 0) (ret (.int 0)))) fun d => opt (gAbs d))) (fMul (fLst [(fVar 3)]) (bnd (f2 (gI (· - ·)) (f2 gIx (fSee 1) (ret (.int 1))) (f2 gIx (fSee 0) (ret (.int 1)))) fun d => opt (gAbs d)))))))
def M_straight_way : List D → M D := runM 4 m_straight_way
theorem cal_straight_way {f : Addr} {fd : FuncData} (B : Bs K mg w aGOES) (L : Lh K mg fH CS fdH) (Fn : Fun K "straight_way" "straight_way" st_straight_way f fd) (hm : mg "straight_way" = some (.ref f)) (hb : L2.Binds K fd ["one", "other"] []) : Cal P w K mg base false 1 "straight_way" 2 M_straight_way := by
  refine cal_of (k := 0) (N := N_straight_way) Fn hm hb sc_straight_way rfl (by decide) fun cdv A outer s H F0 E b1 b2 tb C tk po => ?_
  exact (b_cons (s_set 2 C.nd (e_if (t_cmp o_gt (EE.v (e_ix (e_see 1) e_int)) (EE.v (e_ix (e_see 0) e_int))) e_str e_str))
    (b_cons (s_set 3 C.nd (e_if (t_cmp o_gt (EE.v (e_ix (e_see 1) e_int)) (EE.v (e_ix (e_see 0) e_int))) e_str e_str))
    (b_one (s_ret (e_add (EE.v (e_mul (EE.v (e_lst (ea_cons (e_var 2) ea_nil))) (e_blt b_abs B.n_abs bootabs (EE.v (e_bin o_sub (e_ix (e_see 1) e_int) (e_ix (e_see 0) e_int)))))) (EE.v (e_mul (EE.v (e_lst (ea_cons (e_var 3) ea_nil))) (e_blt b_abs B.n_abs bootabs (EE.v (e_bin o_sub (e_ix (e_see 1) e_int) (e_ix (e_see 0) e_int)))))))))))

def m_walked : Ex Fl := (sSeq (sPut 3 (mOwn [(fVar 1)]))
  (sSeq (sFor (fIt (fVar 2)) (gSet 4) (sSeq (sSet 5 (fCall M_moved [(fVar 0), (f2 gIx (fSee 3) (f1 gNeg (ret (.int 1)))), (fVar 4)]))
  (sSeq (sIf (fB (f2 gIs (fSee 5) (ret .non))) (sRaise "Nothing") (ret .nx))
  (sMut 3 [(fVar 5)] uApp))))
  (sRet (fVar 3))))
def M_walked : List D → M D := runM 6 m_walked
theorem cal_walked {f : Addr} {fd : FuncData} (B : Bs K mg w aGOES) (L : Lh K mg fH CS fdH) (Fn : Fun K "walked" "walked" st_walked f fd) (hm : mg "walked" = some (.ref f)) (hb : L2.Binds K fd ["sheet", "point", "sides"] []) (c_moved : Cal P w K mg base false 5 "moved" 3 M_moved) : Cal P w K mg base false 6 "walked" 3 M_walked := by
  refine cal_of (k := 5) (N := N_walked) Fn hm hb sc_walked rfl (by decide) fun cdv A outer s H F0 E b1 b2 tb C tk po => ?_
  exact (b_cons (s_put 3 C.nd (m_own (ea_cons (e_var 1) ea_nil)))
    (b_cons (s_for (vs := [4]) po C.calm (i_any (e_var 2)) (g_name 4 C.nd (by decide)) (calm_set 4) (b_cons (s_set 5 C.nd (e_call c_moved C (ea_cons (e_var 0) (ea_cons (e_ix (e_see 3) (e_neg e_int)) (ea_cons (e_var 4) ea_nil)))))
    (b_cons (s_if (t_cmp o_is (e_see 5) (EE.v e_non)) (b_one (s_raise C.calm tk PySem.F.excBase_ValueError L.eq L.cs L.kc (raises_own L.sb L.ty))) b_nil)
    (b_one (s_mut 3 mt_append mut_app F.slot_list_append F.type_list_append (ea_cons (e_var 5) ea_nil))))))
    (b_one (s_ret (e_var 3)))))

def m_lines_walked : Ex Fl := (sSeq (sSet 3 (fCall M_walked [(fVar 0), (fVar 1), (fVar 2)]))
  (sRet (fLc [4, 5] (fZip (fVar 3) (fSl (fSee 3) (fEnd (ret (.int 1))) (ret none))) (gUn 2 (gsCons (gSet 4) (gsCons (gSet 5) gsNil))) (ret true) (fCall M_line_between [(fVar 4), (fVar 5)]))))
def M_lines_walked : List D → M D := runM 6 m_lines_walked
theorem cal_lines_walked {f : Addr} {fd : FuncData} (B : Bs K mg w aGOES) (L : Lh K mg fH CS fdH) (Fn : Fun K "lines_walked" "lines_walked" st_lines_walked f fd) (hm : mg "lines_walked" = some (.ref f)) (hb : L2.Binds K fd ["sheet", "point", "sides"] []) (c_line_between : Cal P w K mg base false 2 "line_between" 2 M_line_between) (c_walked : Cal P w K mg base false 6 "walked" 3 M_walked) : Cal P w K mg base false 7 "lines_walked" 3 M_lines_walked := by
  refine cal_of (k := 6) (N := N_lines_walked) Fn hm hb sc_lines_walked rfl (by decide) fun cdv A outer s H F0 E b1 b2 tb C tk po => ?_
  exact (b_cons (s_set 3 C.nd (e_call c_walked C (ea_cons (e_var 0) (ea_cons (e_var 1) (ea_cons (e_var 2) ea_nil)))))
    (b_one (s_ret (e_lc (vs := [4, 5]) C.calm C.nd (i_zip B.n_zip (e_var 3) (e_sl (e_see 3) (eo_some e_int) eo_none)) (blkOk_by (N := N_lines_walked) (sc := defScope st_lines_walked) (own := [("one", 4), ("other", 5)]) (by decide +kernel)) rfl (fun s H cc cl fp => (g_tup (C.blk s H _ (compEnvC _ cl cc _) fp).calm (gs_cons (g_name 4 (C.blk s H _ (compEnvC _ cl cc _) fp).nd (by decide)) (gs_cons (g_name 5 (C.blk s H _ (compEnvC _ cl cc _) fp).nd (by decide)) gs_nil)))) (calm_un (calm_cons (calm_set 4) (calm_cons (calm_set 5) calm_nil))) (gfz_un (gfz_cons (vs := []) (gfz_set (vs := []) 4) (gfz_cons (vs := []) (gfz_set (vs := []) 5) gfz_nil))) (fun s H cc cl fp => ts_nil) (fun s H cc cl fp => (e_call c_line_between (C.blk s H _ (compEnvC _ cl cc _) fp) (ea_cons (e_var 4) (ea_cons (e_var 5) ea_nil))))))))

def m__law_take : Ex Fl := (sSeq (sIf (fB (f2 gEq (fBag 0 0) (ret (.int 0)))) (sSeq (sSet 2 (f2 gIx (fAdd (fBagCut 0) (fLst [(ret (.int 0))])) (ret (.int 0))))
  (sSeq (sBagAug 0 2 1)
  (sSeq (sIf (fB (f2 (gB fun i j => decide (j ≤ i)) (fSee 2) (f2 (gIC cPow fun i j => i ^ j.toNat) (ret (.int 10)) (ret (.int 18))))) (sBag 0 0 (fVar 2)) (ret .nx))
  (sSeq (sSet 3 (fAdd (fAdd (fMul (fBag 0 1) (ret (.int 48271))) (f2 (gIC cNz Int.fmod) (bnd (fSee 2) fun d => opt (gInt d)) (ret (.int 2147483647)))) (fMul (ret (.int 7919)) (fBag 0 2))))
  (sBag 0 1 (f2 (gIC cNz Int.fmod) (bnd (fSee 3) fun d => opt (gInt d)) (ret (.int 2147483647)))))))) (ret .nx))
  (sSeq (sIf (fB (f2 (gB fun i j => decide (j < i)) (fBag 0 0) (ret (.int 0)))) (sSeq (sSet 4 (f2 (gIC cNz Int.fmod) (bnd (fBag 0 0) fun d => opt (gInt d)) (fVar 1)))
  (sSeq (sBag 0 0 (f2 (gIC cDiv Int.fdiv) (bnd (fBag 0 0) fun d => opt (gInt d)) (fVar 1)))
  (sRet (fVar 4)))) (ret .nx))
  (sSeq (sSet 5 (f2 (gIC cNz Int.fmod) (bnd (fMul (fAdd (fBag 0 1) (ret (.int 1))) (ret (.int 39373))) fun d => opt (gInt d)) (ret (.int 1000000007))))
  (sSeq (sSet 6 (f2 (gIC cNz Int.fmod) (bnd (fMul (f2 (gIC cNz Int.fmod) (bnd (fMul (fSee 5) (fVar 5)) fun d => opt (gInt d)) (ret (.int 998244353))) (ret (.int 30011))) fun d => opt (gInt d)) (ret (.int 998244353))))
  (sRet (f2 (gIC cNz Int.fmod) (bnd (f2 (gIC cDiv Int.fdiv) (fVar 6) (ret (.int 7))) fun d => opt (gInt d)) (fVar 1)))))))
def M__law_take : List D → M D := runM 7 m__law_take
theorem cal__law_take {f : Addr} {fd : FuncData} (B : Bs K mg w aGOES) (L : Lh K mg fH CS fdH) (Fn : Fun K "_law_take" "_law_take" st__law_take f fd) (hm : mg "_law_take" = some (.ref f)) (hb : L2.Binds K fd ["bag", "many"] []) : Cal P w K mg base false 1 "_law_take" 2 M__law_take := by
  refine cal_of (k := 0) (N := N__law_take) Fn hm hb sc__law_take rfl (by decide) fun cdv A outer s H F0 E b1 b2 tb C tk po => ?_
  exact (b_cons (s_if (t_cmp (o_eq C.room) (EE.v (e_bag 0 0)) (EE.v e_int)) (b_cons (s_set 2 C.nd (e_ix (EE.v (e_add (EE.v (e_bagCut 0)) (EE.v (e_lst (ea_cons e_int ea_nil))))) e_int))
    (b_cons (s_bagAug 0 2)
    (b_cons (s_if (t_cmp o_ge (e_see 2) (EE.v (e_bin o_pow e_int e_int))) (b_one (s_bag 0 0 (e_var 2))) b_nil)
    (b_cons (s_set 3 C.nd (e_add (EE.v (e_add (EE.v (e_mul (EE.v (e_bag 0 1)) e_int)) (EE.v (e_bin o_mod (e_bty b_int B.n_int bootint (e_see 2)) e_int)))) (EE.v (e_mul (EE.v e_int) (e_bag 0 2)))))
    (b_one (s_bag 0 1 (e_bin o_mod (e_bty b_int B.n_int bootint (e_see 3)) e_int))))))) b_nil)
    (b_cons (s_if (t_cmp o_gt (EE.v (e_bag 0 0)) (EE.v e_int)) (b_cons (s_set 4 C.nd (e_bin o_mod (e_bty b_int B.n_int bootint (EE.v (e_bag 0 0))) (e_var 1)))
    (b_cons (s_bag 0 0 (e_bin o_fdiv (e_bty b_int B.n_int bootint (EE.v (e_bag 0 0))) (e_var 1)))
    (b_one (s_ret (e_var 4))))) b_nil)
    (b_cons (s_set 5 C.nd (e_bin o_mod (e_bty b_int B.n_int bootint (EE.v (e_mul (EE.v (e_add (EE.v (e_bag 0 1)) (EE.v e_int))) e_int))) e_int))
    (b_cons (s_set 6 C.nd (e_bin o_mod (e_bty b_int B.n_int bootint (EE.v (e_mul (EE.v (e_bin o_mod (e_bty b_int B.n_int bootint (EE.v (e_mul (e_see 5) (e_var 5)))) e_int)) e_int))) e_int))
    (b_one (s_ret (e_bin o_mod (e_bty b_int B.n_int bootint (EE.v (e_bin o_fdiv (e_var 6) e_int))) (e_var 1))))))))

def m__law_some : Ex Fl := (sRet (f2 gIx (fSee 1) (fCall M__law_take [(fVar 0), (bnd (fSee 1) fun d => opt (gLen d))])))
def M__law_some : List D → M D := runM 2 m__law_some
theorem cal__law_some {f : Addr} {fd : FuncData} (B : Bs K mg w aGOES) (L : Lh K mg fH CS fdH) (Fn : Fun K "_law_some" "_law_some" st__law_some f fd) (hm : mg "_law_some" = some (.ref f)) (hb : L2.Binds K fd ["bag", "things"] []) (c__law_take : Cal P w K mg base false 1 "_law_take" 2 M__law_take) : Cal P w K mg base false 2 "_law_some" 2 M__law_some := by
  refine cal_of (k := 1) (N := N__law_some) Fn hm hb sc__law_some rfl (by decide) fun cdv A outer s H F0 E b1 b2 tb C tk po => ?_
  exact (b_one (s_ret (e_ix (e_see 1) (e_call c__law_take C (ea_cons (e_var 0) (ea_cons (e_blt b_len B.n_len bootlen (e_see 1)) ea_nil))))))

def m__law_mixed : Ex Fl := (sSeq (sPut 2 (mOwn []))
  (sSeq (sFor (fIt (fVar 1)) (gSet 3) (sMut 2 [(fCall M__law_take [(fVar 0), (fAdd (bnd (fSee 2) fun d => opt (gLen d)) (ret (.int 1)))]), (fVar 3)] uIns))
  (sRet (fVar 2))))
def M__law_mixed : List D → M D := runM 4 m__law_mixed
theorem cal__law_mixed {f : Addr} {fd : FuncData} (B : Bs K mg w aGOES) (L : Lh K mg fH CS fdH) (Fn : Fun K "_law_mixed" "_law_mixed" st__law_mixed f fd) (hm : mg "_law_mixed" = some (.ref f)) (hb : L2.Binds K fd ["bag", "things"] []) (c__law_take : Cal P w K mg base false 1 "_law_take" 2 M__law_take) : Cal P w K mg base false 2 "_law_mixed" 2 M__law_mixed := by
  refine cal_of (k := 1) (N := N__law_mixed) Fn hm hb sc__law_mixed rfl (by decide) fun cdv A outer s H F0 E b1 b2 tb C tk po => ?_
  exact (b_cons (s_put 2 C.nd (m_own ea_nil))
    (b_cons (s_for (vs := [3]) po C.calm (i_any (e_var 1)) (g_name 3 C.nd (by decide)) (calm_set 3) (b_one (s_mut 2 mt_insert mut_ins F.slot_list_insert F.type_list_insert (ea_cons (e_call c__law_take C (ea_cons (e_var 0) (ea_cons (e_add (EE.v (e_blt b_len B.n_len bootlen (e_see 2))) (EE.v e_int)) ea_nil))) (ea_cons (e_var 3) ea_nil)))))
    (b_one (s_ret (e_var 2)))))

def m__law_alike : Ex Fl := (sRet (fAndV (f2 gEq (bnd (fSee 0) fun d => opt (gRepr d)) (bnd (fSee 1) fun d => opt (gRepr d))) (f2 gEq (fSee 0) (fSee 1))))
def M__law_alike : List D → M D := runM 2 m__law_alike
theorem cal__law_alike {f : Addr} {fd : FuncData} (B : Bs K mg w aGOES) (L : Lh K mg fH CS fdH) (Fn : Fun K "_law_alike" "_law_alike" st__law_alike f fd) (hm : mg "_law_alike" = some (.ref f)) (hb : L2.Binds K fd ["found", "due"] []) : Cal P w K mg base true 1 "_law_alike" 2 M__law_alike := by
  refine cal_of (k := 0) (N := N__law_alike) Fn hm hb sc__law_alike rfl (by decide) fun cdv A outer s H F0 E b1 b2 tb C tk po => ?_
  exact (b_one (s_ret (e_and (e_cmp (o_eq C.room) (EE.v (e_blt (b_repr C.room (C.gd rfl)) B.n_repr bootrepr (e_see 0))) (EE.v (e_blt (b_repr C.room (C.gd rfl)) B.n_repr bootrepr (e_see 1)))) (e_one (e_cmp (o_eq C.room) (e_see 0) (e_see 1))))))

def m__law_points : Ex Fl := (sSeq (sPut 1 (mOwn []))
  (sSeq (sFor (fRng1 (fAdd (f2 gIx (fSee 0) (ret (.int 0))) (ret (.int 1)))) (gSet 2) (sMut 1 [(fLc [3] (fRng1 (fAdd (f2 gIx (fSee 0) (ret (.int 1))) (ret (.int 1)))) (gSet 3) (ret true) (fTup [(fVar 2), (fVar 3)]))] uExt))
  (sRet (fVar 1))))
def M__law_points : List D → M D := runM 4 m__law_points
theorem cal__law_points {f : Addr} {fd : FuncData} (B : Bs K mg w aGOES) (L : Lh K mg fH CS fdH) (Fn : Fun K "_law_points" "_law_points" st__law_points f fd) (hm : mg "_law_points" = some (.ref f)) (hb : L2.Binds K fd ["sheet"] []) : Cal P w K mg base false 1 "_law_points" 1 M__law_points := by
  refine cal_of (k := 0) (N := N__law_points) Fn hm hb sc__law_points rfl (by decide) fun cdv A outer s H F0 E b1 b2 tb C tk po => ?_
  exact (b_cons (s_put 1 C.nd (m_own ea_nil))
    (b_cons (s_for (vs := [2]) po C.calm (i_rng1 B.n_range (e_add (EE.v (e_ix (e_see 0) e_int)) (EE.v e_int))) (g_name 2 C.nd (by decide)) (calm_set 2) (b_one (s_mut 1 mt_extend mut_ext F.slot_list_extend F.type_list_extend (ea_cons (e_lc (vs := [3]) C.calm C.nd (i_rng1 B.n_range (e_add (EE.v (e_ix (e_see 0) e_int)) (EE.v e_int))) (blkOk_by (N := N__law_points) (sc := defScope st__law_points) (own := [("y", 3)]) (by decide +kernel)) rfl (fun s H cc cl fp => (g_name 3 (C.blk s H _ (compEnvC _ cl cc _) fp).nd (by decide))) (calm_set 3) (gfz_set (vs := []) 3) (fun s H cc cl fp => ts_nil) (fun s H cc cl fp => (e_tup (ea_cons (e_var 2) (ea_cons (e_var 3) ea_nil))))) ea_nil))))
    (b_one (s_ret (e_var 1)))))

def m__law_ends : Ex Fl := (sSeq (sAsg (gUn 3 (gsCons (gSet 1) (gsCons (gSet 2) (gsCons (gSet 3) gsNil)))) (fVar 0))
  (sRet (fTup [(fTup [(fVar 1), (fVar 2)]), (fTup [(f2 (gI (· - ·)) (fAdd (fSee 1) (ret (.int 1))) (fVar 3)), (fAdd (fSee 2) (fSee 3))])])))
def M__law_ends : List D → M D := runM 4 m__law_ends
theorem cal__law_ends {f : Addr} {fd : FuncData} (B : Bs K mg w aGOES) (L : Lh K mg fH CS fdH) (Fn : Fun K "_law_ends" "_law_ends" st__law_ends f fd) (hm : mg "_law_ends" = some (.ref f)) (hb : L2.Binds K fd ["line"] []) : Cal P w K mg base false 1 "_law_ends" 1 M__law_ends := by
  refine cal_of (k := 0) (N := N__law_ends) Fn hm hb sc__law_ends rfl (by decide) fun cdv A outer s H F0 E b1 b2 tb C tk po => ?_
  exact (b_cons (s_asg (vs := [1, 2, 3]) (e_var 0) (g_tup C.calm (gs_cons (g_name 1 C.nd (by decide)) (gs_cons (g_name 2 C.nd (by decide)) (gs_cons (g_name 3 C.nd (by decide)) gs_nil)))) (calm_un (calm_cons (calm_set 1) (calm_cons (calm_set 2) (calm_cons (calm_set 3) calm_nil)))))
    (b_one (s_ret (e_tup (ea_cons (e_tup (ea_cons (e_var 1) (ea_cons (e_var 2) ea_nil))) (ea_cons (e_tup (ea_cons (e_bin o_sub (e_add (e_see 1) (EE.v e_int)) (e_var 3)) (ea_cons (e_add (e_see 2) (e_see 3)) ea_nil))) ea_nil))))))

def m__law_on : Ex Fl := (sRet (fAndV (fChain (gB fun i j => decide (i ≤ j)) (gB fun i j => decide (i ≤ j)) (ret (.int 0)) (f2 gIx (fSee 1) (ret (.int 0))) (f2 gIx (fSee 0) (ret (.int 0)))) (fChain (gB fun i j => decide (i ≤ j)) (gB fun i j => decide (i ≤ j)) (ret (.int 0)) (f2 gIx (fSee 1) (ret (.int 1))) (f2 gIx (fSee 0) (ret (.int 1))))))
def M__law_on : List D → M D := runM 2 m__law_on
theorem cal__law_on {f : Addr} {fd : FuncData} (B : Bs K mg w aGOES) (L : Lh K mg fH CS fdH) (Fn : Fun K "_law_on" "_law_on" st__law_on f fd) (hm : mg "_law_on" = some (.ref f)) (hb : L2.Binds K fd ["sheet", "point"] []) : Cal P w K mg base false 1 "_law_on" 2 M__law_on := by
  refine cal_of (k := 0) (N := N__law_on) Fn hm hb sc__law_on rfl (by decide) fun cdv A outer s H F0 E b1 b2 tb C tk po => ?_
  exact (b_one (s_ret (e_and (e_chain o_le o_le (EE.v e_int) (EE.v (e_ix (e_see 1) e_int)) (EE.v (e_ix (e_see 0) e_int))) (e_one (e_chain o_le o_le (EE.v e_int) (EE.v (e_ix (e_see 1) e_int)) (EE.v (e_ix (e_see 0) e_int)))))))

def m__law_lines_of : Ex Fl := (sSeq (sPut 1 (mOwn []))
  (sSeq (sFor (fIt (fCall M__law_points [(fVar 0)])) (gUn 2 (gsCons (gSet 2) (gsCons (gSet 3) gsNil))) (sMut 1 [(fLc [4] (fIt (fTup [(ret (.int 0)), (ret (.int 1))])) (gSet 4) (fB (fCall M__law_on [(fVar 0), (f2 gIx (fCall M__law_ends [(fTup [(fVar 2), (fVar 3), (fVar 4)])]) (ret (.int 1)))])) (fTup [(fVar 2), (fVar 3), (fVar 4)]))] uExt))
  (sRet (bnd (fSee 1) fun d => opt (gSort d)))))
def M__law_lines_of : List D → M D := runM 5 m__law_lines_of
theorem cal__law_lines_of {f : Addr} {fd : FuncData} (B : Bs K mg w aGOES) (L : Lh K mg fH CS fdH) (Fn : Fun K "_law_lines_of" "_law_lines_of" st__law_lines_of f fd) (hm : mg "_law_lines_of" = some (.ref f)) (hb : L2.Binds K fd ["sheet"] []) (c__law_ends : Cal P w K mg base false 1 "_law_ends" 1 M__law_ends) (c__law_on : Cal P w K mg base false 1 "_law_on" 2 M__law_on) (c__law_points : Cal P w K mg base false 1 "_law_points" 1 M__law_points) : Cal P w K mg base false 2 "_law_lines_of" 1 M__law_lines_of := by
  refine cal_of (k := 1) (N := N__law_lines_of) Fn hm hb sc__law_lines_of rfl (by decide) fun cdv A outer s H F0 E b1 b2 tb C tk po => ?_
  exact (b_cons (s_put 1 C.nd (m_own ea_nil))
    (b_cons (s_for (vs := [2, 3]) po C.calm (i_any (e_call c__law_points C (ea_cons (e_var 0) ea_nil))) (g_tup C.calm (gs_cons (g_name 2 C.nd (by decide)) (gs_cons (g_name 3 C.nd (by decide)) gs_nil))) (calm_un (calm_cons (calm_set 2) (calm_cons (calm_set 3) calm_nil))) (b_one (s_mut 1 mt_extend mut_ext F.slot_list_extend F.type_list_extend (ea_cons (e_lc (vs := [4]) C.calm C.nd (i_any (e_tup (ea_cons e_int (ea_cons e_int ea_nil)))) (blkOk_by (N := N__law_lines_of) (sc := defScope st__law_lines_of) (own := [("way", 4)]) (by decide +kernel)) rfl (fun s H cc cl fp => (g_name 4 (C.blk s H _ (compEnvC _ cl cc _) fp).nd (by decide))) (calm_set 4) (gfz_set (vs := []) 4) (fun s H cc cl fp => (ts_one (t_val (e_call c__law_on (C.blk s H _ (compEnvC _ cl cc _) fp) (ea_cons (e_var 0) (ea_cons (e_ix (EE.v (e_call c__law_ends (C.blk s H _ (compEnvC _ cl cc _) fp) (ea_cons (e_tup (ea_cons (e_var 2) (ea_cons (e_var 3) (ea_cons (e_var 4) ea_nil)))) ea_nil))) e_int) ea_nil)))))) (fun s H cc cl fp => (e_tup (ea_cons (e_var 2) (ea_cons (e_var 3) (ea_cons (e_var 4) ea_nil)))))) ea_nil))))
    (b_one (s_ret (e_blt (b_sorted C.room) B.n_sorted bootsorted (e_see 1))))))

def m__law_beside : Ex Fl := (sSeq (sAsg (gUn 2 (gsCons (gSet 2) (gsCons (gSet 3) gsNil))) (f2 gDGet (fDisp ["e", "n", "w", "s"] [(fTup [(ret (.int 1)), (ret (.int 0))]), (fTup [(ret (.int 0)), (ret (.int 1))]), (fTup [(f1 gNeg (ret (.int 1))), (ret (.int 0))]), (fTup [(ret (.int 0)), (f1 gNeg (ret (.int 1)))])]) (fVar 1)))
  (sRet (fTup [(fAdd (f2 gIx (fSee 0) (ret (.int 0))) (fSee 2)), (fAdd (f2 gIx (fSee 0) (ret (.int 1))) (fSee 3))])))
def M__law_beside : List D → M D := runM 4 m__law_beside
theorem cal__law_beside {f : Addr} {fd : FuncData} (B : Bs K mg w aGOES) (L : Lh K mg fH CS fdH) (Fn : Fun K "_law_beside" "_law_beside" st__law_beside f fd) (hm : mg "_law_beside" = some (.ref f)) (hb : L2.Binds K fd ["point", "side"] []) : Cal P w K mg base false 1 "_law_beside" 2 M__law_beside := by
  refine cal_of (k := 0) (N := N__law_beside) Fn hm hb sc__law_beside rfl (by decide) fun cdv A outer s H F0 E b1 b2 tb C tk po => ?_
  exact (b_cons (s_asg (vs := [2, 3]) (e_dget (e_disp (EPs.cons (e_tup (ea_cons e_int (ea_cons e_int ea_nil))) (EPs.cons (e_tup (ea_cons e_int (ea_cons e_int ea_nil))) (EPs.cons (e_tup (ea_cons (e_neg e_int) (ea_cons e_int ea_nil))) (EPs.cons (e_tup (ea_cons e_int (ea_cons (e_neg e_int) ea_nil))) EPs.nil))))) (e_var 1)) (g_tup C.calm (gs_cons (g_name 2 C.nd (by decide)) (gs_cons (g_name 3 C.nd (by decide)) gs_nil))) (calm_un (calm_cons (calm_set 2) (calm_cons (calm_set 3) calm_nil))))
    (b_one (s_ret (e_tup (ea_cons (e_add (EE.v (e_ix (e_see 0) e_int)) (e_see 2)) (ea_cons (e_add (EE.v (e_ix (e_see 0) e_int)) (e_see 3)) ea_nil))))))

def m__law_line : Ex Fl := (sSeq (sSet 2 (bnd (fVar 0) fun d => bnd (fVar 1) fun d' => opt (gMinD d d')))
  (sRet (fAdd (fSee 2) (fTup [(bnd (f2 gEq (f2 gIx (fSee 0) (ret (.int 0))) (f2 gIx (fSee 1) (ret (.int 0)))) fun d => opt (gInt d))]))))
def M__law_line : List D → M D := runM 3 m__law_line
theorem cal__law_line {f : Addr} {fd : FuncData} (B : Bs K mg w aGOES) (L : Lh K mg fH CS fdH) (Fn : Fun K "_law_line" "_law_line" st__law_line f fd) (hm : mg "_law_line" = some (.ref f)) (hb : L2.Binds K fd ["one", "other"] []) : Cal P w K mg base false 1 "_law_line" 2 M__law_line := by
  refine cal_of (k := 0) (N := N__law_line) Fn hm hb sc__law_line rfl (by decide) fun cdv A outer s H F0 E b1 b2 tb C tk po => ?_
  exact (b_cons (s_set 2 C.nd (e_blt2 (b_minD C.calm C.room) B.n_min bootmin (e_var 0) (e_var 1)))
    (b_one (s_ret (e_add (e_see 2) (EE.v (e_tup (ea_cons (e_bty b_int B.n_int bootint (EE.v (e_cmp (o_eq C.room) (EE.v (e_ix (e_see 0) e_int)) (EE.v (e_ix (e_see 1) e_int))))) ea_nil)))))))

def m__law_straight : Ex Fl := (sSeq (sPar 2 3 (mDat (f2 (gI (· - ·)) (f2 gIx (fSee 1) (ret (.int 0))) (f2 gIx (fSee 0) (ret (.int 0))))) (mDat (f2 (gI (· - ·)) (f2 gIx (fSee 1) (ret (.int 1))) (f2 gIx (fSee 0) (ret (.int 1))))))
  (sRet (fAdd (fMul (fLst [(fIf (fB (f2 (gB fun i j => decide (j < i)) (fSee 2) (ret (.int 0)))) (ret (.str "e")) (ret (.str "w")))]) (bnd (fSee 2) fun d => opt (gAbs d))) (fMul (fLst [(fIf (fB (f2 (gB fun i j => decide (j < i)) (fSee 3) (ret (.int 0)))) (ret (.str "n")) (ret (.str "s")))]) (bnd (fSee 3) fun d => opt (gAbs d))))))
def M__law_straight : List D → M D := runM 4 m__law_straight
theorem cal__law_straight {f : Addr} {fd : FuncData} (B : Bs K mg w aGOES) (L : Lh K mg fH CS fdH) (Fn : Fun K "_law_straight" "_law_straight" st__law_straight f fd) (hm : mg "_law_straight" = some (.ref f)) (hb : L2.Binds K fd ["one", "other"] []) : Cal P w K mg base false 1 "_law_straight" 2 M__law_straight := by
  refine cal_of (k := 0) (N := N__law_straight) Fn hm hb sc__law_straight rfl (by decide) fun cdv A outer s H F0 E b1 b2 tb C tk po => ?_
  exact (b_cons (s_par 2 3 C.calm C.nd (m_dat (e_bin o_sub (e_ix (e_see 1) e_int) (e_ix (e_see 0) e_int))) (m_dat (e_bin o_sub (e_ix (e_see 1) e_int) (e_ix (e_see 0) e_int))) do_dat)
    (b_one (s_ret (e_add (EE.v (e_mul (EE.v (e_lst (ea_cons (e_if (t_cmp o_gt (e_see 2) (EE.v e_int)) e_str e_str) ea_nil))) (e_blt b_abs B.n_abs bootabs (e_see 2)))) (EE.v (e_mul (EE.v (e_lst (ea_cons (e_if (t_cmp o_gt (e_see 3) (EE.v e_int)) e_str e_str) ea_nil))) (e_blt b_abs B.n_abs bootabs (e_see 3))))))))

def m__law_walk : Ex Fl := (sSeq (sPar 3 4 (mOwn [(fVar 1)]) (mOwn []))
  (sSeq (sFor (fIt (fVar 2)) (gUn 2 (gsCons (gSet 5) (gsCons (gSet 6) gsNil))) (sSeq (sSet 7 (fCall M__law_beside [(f2 gIx (fSee 3) (f1 gNeg (ret (.int 1)))), (fVar 5)]))
  (sSeq (sIf (fNot (fB (fCall M__law_on [(fVar 0), (fVar 7)]))) (sRet (ret .non)) (ret .nx))
  (sSeq (sMut 4 [(fCall M__law_line [(f2 gIx (fSee 3) (f1 gNeg (ret (.int 1)))), (fVar 7)])] uApp)
  (sMut 3 [(fVar 7)] uApp)))))
  (sRet (fTup [(fVar 3), (fVar 4)]))))
def M__law_walk : List D → M D := runM 8 m__law_walk
theorem cal__law_walk {f : Addr} {fd : FuncData} (B : Bs K mg w aGOES) (L : Lh K mg fH CS fdH) (Fn : Fun K "_law_walk" "_law_walk" st__law_walk f fd) (hm : mg "_law_walk" = some (.ref f)) (hb : L2.Binds K fd ["sheet", "point", "plot"] []) (c__law_beside : Cal P w K mg base false 1 "_law_beside" 2 M__law_beside) (c__law_line : Cal P w K mg base false 1 "_law_line" 2 M__law_line) (c__law_on : Cal P w K mg base false 1 "_law_on" 2 M__law_on) : Cal P w K mg base false 2 "_law_walk" 3 M__law_walk := by
  refine cal_of (k := 1) (N := N__law_walk) Fn hm hb sc__law_walk rfl (by decide) fun cdv A outer s H F0 E b1 b2 tb C tk po => ?_
  exact (b_cons (s_par 3 4 C.calm C.nd (m_own (ea_cons (e_var 1) ea_nil)) (m_own ea_nil) do_own)
    (b_cons (s_for (vs := [5, 6]) po C.calm (i_any (e_var 2)) (g_tup C.calm (gs_cons (g_name 5 C.nd (by decide)) (gs_cons (g_name 6 C.nd (by decide)) gs_nil))) (calm_un (calm_cons (calm_set 5) (calm_cons (calm_set 6) calm_nil))) (b_cons (s_set 7 C.nd (e_call c__law_beside C (ea_cons (e_ix (e_see 3) (e_neg e_int)) (ea_cons (e_var 5) ea_nil))))
    (b_cons (s_if (t_not (t_val (e_call c__law_on C (ea_cons (e_var 0) (ea_cons (e_var 7) ea_nil))))) (b_one (s_ret e_non)) b_nil)
    (b_cons (s_mut 4 mt_append mut_app F.slot_list_append F.type_list_append (ea_cons (e_call c__law_line C (ea_cons (e_ix (e_see 3) (e_neg e_int)) (ea_cons (e_var 7) ea_nil))) ea_nil))
    (b_one (s_mut 3 mt_append mut_app F.slot_list_append F.type_list_append (ea_cons (e_var 7) ea_nil)))))))
    (b_one (s_ret (e_tup (ea_cons (e_var 3) (ea_cons (e_var 4) ea_nil)))))))

def m_law : Ex Fl := (sSeq (sFor (fRng1 (ret (.int 6))) (gSet 2) (sSeq (sSet 3 (fTup [(fAdd (ret (.int 1)) (fCall M__law_take [(fVar 1), (ret (.int 5))])), (fAdd (ret (.int 1)) (fCall M__law_take [(fVar 1), (ret (.int 5))]))]))
  (sSeq (sPar 4 5 (mDat (fCall M__law_points [(fVar 3)])) (mDat (fCall M__law_lines_of [(fVar 3)])))
  (sSeq (sIf (fNot (fB (fCall M__law_alike [(fLst [(fCall M_points [(fVar 3)]), (fCall M_lines_of [(fVar 3)]), (fLc [6] (fIt (fVar 5)) (gSet 6) (ret true) (fCall M_ends_of [(fVar 6)]))]), (fLst [(fVar 4), (fVar 5), (fLc [6] (fIt (fVar 5)) (gSet 6) (ret true) (fCall M__law_ends [(fVar 6)]))])]))) (sRet (ret (.bl false))) (ret .nx))
  (sSeq (sAsg (gUn 3 (gsCons (gSet 7) (gsCons (gSet 8) (gsCons (gSet 6) gsNil)))) (fTup [(fCall M__law_some [(fVar 1), (fVar 4)]), (fCall M__law_some [(fVar 1), (fVar 4)]), (fCall M__law_some [(fVar 1), (fVar 5)])]))
  (sSeq (sSet 9 (fAdd (bnd (f2 (gI (· - ·)) (f2 gIx (fSee 7) (ret (.int 0))) (f2 gIx (fSee 8) (ret (.int 0)))) fun d => opt (gAbs d)) (bnd (f2 (gI (· - ·)) (f2 gIx (fSee 7) (ret (.int 1))) (f2 gIx (fSee 8) (ret (.int 1)))) fun d => opt (gAbs d))))
  (sSeq (sSet 10 (fCall M__law_mixed [(fVar 1), (bnd (fCall M__law_ends [(fVar 6)]) fun d => opt (gLst d))]))
  (sSeq (sSet 11 (f2 gIx (fLc [11] (fIt (ret (.str "ensw"))) (gSet 11) (fB (f2 gEq (fCall M__law_beside [(f2 gIx (fSee 10) (ret (.int 0))), (fVar 11)]) (f2 gIx (fSee 10) (ret (.int 1))))) (fVar 11)) (ret (.int 0))))
  (sSeq (sIf (fNot (fB (fCall M__law_alike [(fLst [(fCall M_distance [(fVar 7), (fVar 8)]), (fCall M_line_between [(f2 gIx (fSee 10) (ret (.int 0))), (f2 gIx (fSee 10) (ret (.int 1)))]), (fCall M_side_between [(f2 gIx (fSee 10) (ret (.int 0))), (f2 gIx (fSee 10) (ret (.int 1)))]), (fCall M_straight_way [(fVar 7), (fVar 8)])]), (fLst [(fVar 9), (fVar 6), (fVar 11), (fCall M__law_straight [(fVar 7), (fVar 8)])])]))) (sRet (ret (.bl false))) (ret .nx))
  (sSeq (sPut 12 (mOwn [(fHeard "told" "nothing" "Nothing" (fCall M_line_between [(fVar 7), (fVar 8)]))]))
  (sSeq (sMut 12 [(fHeard "told" "nothing" "Nothing" (fCall M_side_between [(fVar 7), (fVar 8)]))] uApp)
  (sSeq (sIf (fAnd (fB (f2 gNe (fSee 9) (ret (.int 1)))) (fB (f2 gNe (fSee 12) (fMul (fLst [(fTup [(ret (.str "nothing"))])]) (ret (.int 2)))))) (sRet (ret (.bl false))) (ret .nx))
  (sSeq (sSet 13 (fLc [11] (fIt (ret (.str "ensw"))) (gSet 11) (ret true) (fTup [(fVar 11), (fCall M__law_beside [(fVar 7), (fVar 11)])])))
  (sSeq (sSet 14 (fLst [(fLc [11] (fIt (ret (.str "ensw"))) (gSet 11) (ret true) (fCall M_moved [(fVar 3), (fVar 7), (fVar 11)])), (fLc [11] (fIt (ret (.str "ensw"))) (gSet 11) (ret true) (fCall M_is_at_rim [(fVar 3), (fVar 7), (fVar 11)])), (fCall M_neighbours [(fVar 3), (fVar 7)])]))
  (sSeq (sSet 15 (fLst [(fLc [11, 16] (fIt (fVar 13)) (gUn 2 (gsCons (gSet 11) (gsCons (gSet 16) gsNil))) (ret true) (fIf (fB (fCall M__law_on [(fVar 3), (fVar 16)])) (fVar 16) (ret .non))), (fLc [11, 16] (fIt (fVar 13)) (gUn 2 (gsCons (gSet 11) (gsCons (gSet 16) gsNil))) (ret true) (fNotV (fCall M__law_on [(fVar 3), (fVar 16)])))]))
  (sSeq (sIf (fNot (fB (fCall M__law_alike [(fVar 14), (fAdd (fSee 15) (fLst [(fLc [11, 16] (fIt (fVar 13)) (gUn 2 (gsCons (gSet 11) (gsCons (gSet 16) gsNil))) (fB (fCall M__law_on [(fVar 3), (fVar 16)])) (fTup [(fVar 11), (fVar 16)]))]))]))) (sRet (ret (.bl false))) (ret .nx))
  (sSeq (sSet 17 (fLc [18] (fRng1 (fCall M__law_take [(fVar 1), (ret (.int 8))])) (gSet 18) (ret true) (fCall M__law_some [(fVar 1), (fLst [(ret (.str "e")), (ret (.str "n")), (ret (.str "s")), (ret (.str "w"))])])))
  (sSeq (sSet 19 (fCall M__law_walk [(fVar 3), (fVar 7), (fLc [11] (fIt (fVar 17)) (gSet 11) (ret true) (fTup [(fVar 11), (ret (.bl true))]))]))
  (sSeq (sPut 12 (mOwn [(fHeard "told" "nothing" "Nothing" (fCall M_walked [(fVar 3), (fVar 7), (fVar 17)]))]))
  (sSeq (sMut 12 [(fHeard "told" "nothing" "Nothing" (fCall M_lines_walked [(fVar 3), (fVar 7), (fVar 17)]))] uApp)
  (sSeq (sIf (fNot (fB (fCall M__law_alike [(fVar 12), (fIf (fB (f2 gIsN (fSee 19) (ret .non))) (fLc [20] (fIt (fVar 19)) (gSet 20) (ret true) (fTup [(ret (.str "told")), (fVar 20)])) (fMul (fLst [(fTup [(ret (.str "nothing"))])]) (ret (.int 2))))]))) (sRet (ret (.bl false))) (ret .nx))
  (sSeq (sSet 21 (fCall M__law_walk [(fVar 3), (fVar 7), (fLc [11] (fIt (fCall M__law_straight [(fVar 7), (fVar 8)])) (gSet 11) (ret true) (fTup [(fVar 11), (ret (.bl true))]))]))
  (sSeq (sIf (fOr (fB (f2 gNe (fCall M_walked [(fVar 3), (fVar 7), (fCall M_straight_way [(fVar 7), (fVar 8)])]) (f2 gIx (fSee 21) (ret (.int 0))))) (fOr (fB (f2 gNe (f2 gIx (f2 gIx (fSee 21) (ret (.int 0))) (f1 gNeg (ret (.int 1)))) (fSee 8))) (fB (f2 gNe (bnd (f2 gIx (fSee 21) (ret (.int 1))) fun d => opt (gLen d)) (fSee 9))))) (sRet (ret (.bl false))) (ret .nx))
  (sSeq (sAsg (gUn 2 (gsCons (gSet 22) (gsCons (gSet 23) gsNil))) (fTup [(fCall M__law_some [(fVar 1), (fLst [(fTup [(fAdd (f2 gIx (fSee 3) (ret (.int 0))) (ret (.int 1))), (ret (.int 0))]), (fTup [(ret (.int 0)), (fAdd (f2 gIx (fSee 3) (ret (.int 1))) (ret (.int 1)))]), (fTup [(f1 gNeg (ret (.int 1))), (ret (.int 0))]), (ret .non), (fTup [(ret (.int 0))]), (fLst [(ret (.int 0)), (ret (.int 0))]), (fTup [(ret (.bl true)), (ret (.int 0))])])]), (fCall M__law_some [(fVar 1), (fLst [(ret (.str "x")), (ret (.str "")), (ret (.str "E")), (ret (.str "ne"))])])]))
  (sSeq (sPut 12 (mOwn [(fHeard "told" "nothing" "Nothing" (fCall M_moved [(fVar 3), (fVar 22), (ret (.str "e"))]))]))
  (sSeq (sMut 12 [(fHeard "told" "nothing" "Nothing" (fCall M_moved [(fVar 3), (fVar 7), (fVar 23)]))] uApp)
  (sSeq (sMut 12 [(fHeard "told" "nothing" "Nothing" (fCall M_is_at_rim [(fVar 3), (fVar 22), (ret (.str "n"))]))] uApp)
  (sIf (fB (f2 gNe (fSee 12) (fMul (fLst [(fTup [(ret (.str "nothing"))])]) (ret (.int 3))))) (sRet (ret (.bl false))) (ret .nx)))))))))))))))))))))))))))))
  (sRet (ret (.bl true))))


theorem bag_fn {f : Addr} {fd : FuncData} (B : Bs K mg w aGOES) (Fn : Fun K "_law_bag" "_law_bag" st__law_bag f fd) : FnG P w K mg base false 1 f fd ["script"] (spBag K) := by
  obtain ⟨⟨oc, od, kV, doc, pm, an, cdv, ct, osl, rfl, lk, hcd⟩, hkp⟩ := Fn
  refine ⟨fun vs H Q E h => by obtain ⟨a, ns, rfl, _⟩ := h; rfl, fun A outer s H args us vs Q E hr hg e0 hb r hsp => ?_⟩
  obtain ⟨a, ns, rfl, hq, k⟩ := hsp
  refine LamX.run_ofS lk hcd sc__law_bag hr e0 hb r rfl fun hr' => ⟨_, pss_one (ps_ret (pe_lst (pa_cons pe_int (pa_cons pe_int (pa_cons pe_int (pa_cons (bag_lc [(Str.ofString "cell", 1)] rfl sc__law_bag.nd rfl rfl (Or.inl rfl) (blkOk_by (N := N__law_bag) (sc := defScope st__law_bag) (own := [("cell", 1)]) (by decide +kernel)) rfl B.n_abs (fun _ _ _ _ _ => pg_name (i := 1) sc__law_bag.nd rfl (Or.inl rfl)) (fun _ _ _ _ _ => pe_callB call_abs rfl B.n_abs bootabs (pa_cons (pe_var (i := 1) rfl (Or.inl rfl)) pa_nil))) pa_nil)))))), ?_⟩
  refine ⟨a, ns, rfl, (by show 1 < 2; decide), hq, fun q2 H' e2 n2 sm kp => ⟨(by show 4 ≤ sizeLine; rw [sizeLine_eq]; omega), fun q1 h1 => ?_⟩⟩
  have ne : q2 ≠ q1 := fun z => by rw [z, h1] at e2; cases e2
  exact k q1 q2 _ upd_same (by rw [upd_ne ne]; exact e2) (kp q1 h1) n2 (fun b u e => by rw [upd_ne (ne_of_none (sm b u e) h1)]; exact sm b u e) fun b e => by
    by_cases z : b = q1
    · rw [z]; exact kp q1 h1
    · rw [upd_ne z] at e; exact kp b e
def spLaw (K : PySem.W.Frag) (tP : Addr) : Sp := fun vs H Q E => ∃ (a : Addr) (ns : List Int), vs = [.ref a] ∧ SqL K H a (ns.map V.int) ∧ H tP = some (.tbl #[]) ∧ (∃ s, m_law (asL N_law.length 1 ns) = .ok (.rt (.bl true)) s) ∧ ∀ H', Q (.bl true) H'
theorem law_rest {X : Cx} {p : Pm} {tP c : Addr} (hX : X.N = N_law) (hS : X.env.scope = defScope st_law) : True := trivial
theorem law_fn {fa fb tP c : Addr} {fdb : FuncData} {oc kV doc pm ct : Value} {od an : Option Addr} {osl : Array (Option Value)} (B : Bs K mg w aGOES) (L : Lh K mg fH CS fdH)
    (lk : K.lookup fa = some ⟨oc, od, .func (PySem.W.fnOf "law" "law" (defArgs st_law) (defBody st_law) (defScope st_law) .none kV doc pm an (.ref c) ct), osl⟩) (hcd : PySem.W.codeIn K (.ref c) "law" = true)
    (Fb : Fun K "_law_bag" "_law_bag" st__law_bag fb fdb) (hbm : mg "_law_bag" = some (.ref fb)) (hbb : L2.Binds K fdb ["script"] []) (TB : LamX.TabB base mg c tP) (c__law_alike : Cal P w K mg base true 1 "_law_alike" 2 M__law_alike) (c__law_beside : Cal P w K mg base false 1 "_law_beside" 2 M__law_beside) (c__law_ends : Cal P w K mg base false 1 "_law_ends" 1 M__law_ends) (c__law_lines_of : Cal P w K mg base false 2 "_law_lines_of" 1 M__law_lines_of) (c__law_mixed : Cal P w K mg base false 2 "_law_mixed" 2 M__law_mixed) (c__law_on : Cal P w K mg base false 1 "_law_on" 2 M__law_on) (c__law_points : Cal P w K mg base false 1 "_law_points" 1 M__law_points) (c__law_some : Cal P w K mg base false 2 "_law_some" 2 M__law_some) (c__law_straight : Cal P w K mg base false 1 "_law_straight" 2 M__law_straight) (c__law_take : Cal P w K mg base false 1 "_law_take" 2 M__law_take) (c__law_walk : Cal P w K mg base false 2 "_law_walk" 3 M__law_walk) (c_distance : Cal P w K mg base false 1 "distance" 2 M_distance) (c_ends_of : Cal P w K mg base false 1 "ends_of" 1 M_ends_of) (c_is_at_rim : Cal P w K mg base false 6 "is_at_rim" 3 M_is_at_rim) (c_line_between : Cal P w K mg base false 2 "line_between" 2 M_line_between) (c_lines_of : Cal P w K mg base false 2 "lines_of" 1 M_lines_of) (c_lines_walked : Cal P w K mg base false 7 "lines_walked" 3 M_lines_walked) (c_moved : Cal P w K mg base false 5 "moved" 3 M_moved) (c_neighbours : Cal P w K mg base false 6 "neighbours" 2 M_neighbours) (c_points : Cal P w K mg base false 1 "points" 1 M_points) (c_side_between : Cal P w K mg base false 1 "side_between" 2 M_side_between) (c_straight_way : Cal P w K mg base false 1 "straight_way" 2 M_straight_way) (c_walked : Cal P w K mg base false 6 "walked" 3 M_walked) :
    FnG P w K mg base true 10 fa (PySem.W.fnOf "law" "law" (defArgs st_law) (defBody st_law) (defScope st_law) .none kV doc pm an (.ref c) ct) ["script"] (spLaw K tP) := by
  refine ⟨fun vs H Q E h => by obtain ⟨a, ns, rfl, _⟩ := h; rfl, fun A outer s H args us vs Q E hr hg e0 hb r hsp => ?_⟩
  obtain ⟨a, ns, rfl, hq, ht, ⟨s9, hm⟩, k⟩ := hsp
  refine LamX.run_ofS lk hcd sc_law hr e0 hb r rfl fun hr' => ?_
  have C : Cw (cxD P w K mg base N_law "law" st_law fa (.ref c) A outer s H E) wF 9 true := ⟨rfl, sc_law.nd, passAt LamX.takes0, hr', fun _ => hg rfl⟩
  have po : PassesOwn (model P w) (cxD P w K mg base N_law "law" st_law fa (.ref c) A outer s H E).A (cxD P w K mg base N_law "law" st_law fa (.ref c) A outer s H E).env (cxD P w K mg base N_law "law" st_law fa (.ref c) A outer s H E).xe := passes_of rfl
  have hcode : (cxD P w K mg base N_law "law" st_law fa (.ref c) A outer s H E).env.code = .ref c := rfl
  have hmT : (tP, (cxD P w K mg base N_law "law" st_law fa (.ref c) A outer s H E).env.qual ++ "<lambda>") ∈ [(tP, (cxD P w K mg base N_law "law" st_law fa (.ref c) A outer s H E).env.qual ++ "<lambda>")] := List.mem_singleton_self _
  have hu : ∀ r ∈ [(tP, (cxD P w K mg base N_law "law" st_law fa (.ref c) A outer s H E).env.qual ++ "<lambda>")], r.1 = tP → r.2 = (cxD P w K mg base N_law "law" st_law fa (.ref c) A outer s H E).env.qual ++ "<lambda>" := fun r hr _ => by rw [List.mem_singleton.mp hr]
  refine ⟨_, b_law (X := cxD P w K mg base N_law "law" st_law fa (.ref c) A outer s H E) (T := [(tP, (cxD P w K mg base N_law "law" st_law fa (.ref c) A outer s H E).env.qual ++ "<lambda>")]) (m := m_law) (N := N_law.length) 1 (bag_fn B Fb) C (by decide) hbb hbm Fb.kp rfl rfl rfl (Or.inl rfl) (by first | exact Or.inl rfl | exact Or.inr rfl) (.inl rfl) rfl (fun b1 b2 H0 hT0 => ?_) rfl, a, ns, rfl, rfl, hq, fun q hq' => by rw [List.mem_singleton.mp hq']; exact LamX.TabS.nil ht, s9, hm, k⟩
  exact (b_cons (s_for (vs := [2]) po C.calm (i_rng1 B.n_range e_int) (g_name 2 C.nd (by decide)) (calm_set 2) (b_cons (s_set 3 C.nd (e_tup (ea_cons (e_add (EE.v e_int) (EE.v (e_call c__law_take C (ea_cons (e_var 1) (ea_cons e_int ea_nil))))) (ea_cons (e_add (EE.v e_int) (EE.v (e_call c__law_take C (ea_cons (e_var 1) (ea_cons e_int ea_nil))))) ea_nil))))
    (b_cons (s_par 4 5 C.calm C.nd (m_dat (e_call c__law_points C (ea_cons (e_var 3) ea_nil))) (m_dat (e_call c__law_lines_of C (ea_cons (e_var 3) ea_nil))) do_dat)
    (b_cons (s_if (t_not (t_val (e_call c__law_alike C (ea_cons (e_lst (ea_cons (e_call c_points C (ea_cons (e_var 3) ea_nil)) (ea_cons (e_call c_lines_of C (ea_cons (e_var 3) ea_nil)) (ea_cons (e_lc (vs := [6]) C.calm C.nd (i_any (e_var 5)) (blkOk_by (N := N_law) (sc := defScope st_law) (own := [("line", 6)]) (by decide +kernel)) rfl (fun s H cc cl fp => (g_name 6 (C.blk s H _ (compEnvC _ cl cc _) fp).nd (by decide))) (calm_set 6) (gfz_set (vs := []) 6) (fun s H cc cl fp => ts_nil) (fun s H cc cl fp => (e_call c_ends_of (C.blk s H _ (compEnvC _ cl cc _) fp) (ea_cons (e_var 6) ea_nil)))) ea_nil)))) (ea_cons (e_lst (ea_cons (e_var 4) (ea_cons (e_var 5) (ea_cons (e_lc (vs := [6]) C.calm C.nd (i_any (e_var 5)) (blkOk_by (N := N_law) (sc := defScope st_law) (own := [("line", 6)]) (by decide +kernel)) rfl (fun s H cc cl fp => (g_name 6 (C.blk s H _ (compEnvC _ cl cc _) fp).nd (by decide))) (calm_set 6) (gfz_set (vs := []) 6) (fun s H cc cl fp => ts_nil) (fun s H cc cl fp => (e_call c__law_ends (C.blk s H _ (compEnvC _ cl cc _) fp) (ea_cons (e_var 6) ea_nil)))) ea_nil)))) ea_nil))))) (b_one (s_ret e_bl)) b_nil)
    (b_cons (s_asg (vs := [7, 8, 6]) (e_tup (ea_cons (e_call c__law_some C (ea_cons (e_var 1) (ea_cons (e_var 4) ea_nil))) (ea_cons (e_call c__law_some C (ea_cons (e_var 1) (ea_cons (e_var 4) ea_nil))) (ea_cons (e_call c__law_some C (ea_cons (e_var 1) (ea_cons (e_var 5) ea_nil))) ea_nil)))) (g_tup C.calm (gs_cons (g_name 7 C.nd (by decide)) (gs_cons (g_name 8 C.nd (by decide)) (gs_cons (g_name 6 C.nd (by decide)) gs_nil)))) (calm_un (calm_cons (calm_set 7) (calm_cons (calm_set 8) (calm_cons (calm_set 6) calm_nil)))))
    (b_cons (s_set 9 C.nd (e_add (EE.v (e_blt b_abs B.n_abs bootabs (EE.v (e_bin o_sub (e_ix (e_see 7) e_int) (e_ix (e_see 8) e_int))))) (EE.v (e_blt b_abs B.n_abs bootabs (EE.v (e_bin o_sub (e_ix (e_see 7) e_int) (e_ix (e_see 8) e_int)))))))
    (b_cons (s_set 10 C.nd (e_call c__law_mixed C (ea_cons (e_var 1) (ea_cons (e_bty b_list B.n_list bootlist (EE.v (e_call c__law_ends C (ea_cons (e_var 6) ea_nil)))) ea_nil))))
    (b_cons (s_set 11 C.nd (e_ix (EE.v (e_lc (vs := [11]) C.calm C.nd (i_any e_str) (blkOk_by (N := N_law) (sc := defScope st_law) (own := [("side", 11)]) (by decide +kernel)) rfl (fun s H cc cl fp => (g_name 11 (C.blk s H _ (compEnvC _ cl cc _) fp).nd (by decide))) (calm_set 11) (gfz_set (vs := []) 11) (fun s H cc cl fp => (ts_one (t_cmp (o_eq (C.blk s H _ (compEnvC _ cl cc _) fp).room) (EE.v (e_call c__law_beside (C.blk s H _ (compEnvC _ cl cc _) fp) (ea_cons (e_ix (e_see 10) e_int) (ea_cons (e_var 11) ea_nil)))) (EE.v (e_ix (e_see 10) e_int))))) (fun s H cc cl fp => (e_var 11)))) e_int))
    (b_cons (s_if (t_not (t_val (e_call c__law_alike C (ea_cons (e_lst (ea_cons (e_call c_distance C (ea_cons (e_var 7) (ea_cons (e_var 8) ea_nil))) (ea_cons (e_call c_line_between C (ea_cons (e_ix (e_see 10) e_int) (ea_cons (e_ix (e_see 10) e_int) ea_nil))) (ea_cons (e_call c_side_between C (ea_cons (e_ix (e_see 10) e_int) (ea_cons (e_ix (e_see 10) e_int) ea_nil))) (ea_cons (e_call c_straight_way C (ea_cons (e_var 7) (ea_cons (e_var 8) ea_nil))) ea_nil))))) (ea_cons (e_lst (ea_cons (e_var 9) (ea_cons (e_var 6) (ea_cons (e_var 11) (ea_cons (e_call c__law_straight C (ea_cons (e_var 7) (ea_cons (e_var 8) ea_nil))) ea_nil))))) ea_nil))))) (b_one (s_ret e_bl)) b_nil)
    (b_cons (s_put 12 C.nd (m_own (ea_cons (e_heard C L.fn L.ld L.bi sc__law_heard rfl (Or.inl rfl) (fun _ => heard_gives rfl L.cs (by decide) (fun _ => rfl)) L.cs L.ex TB hcode hmT hu hT0 (k := 7) (by decide) (LamX.lamS_by (sc := defScope st_law) (by decide +kernel)) (fun A outer s H E f c' hr => (e_call c_line_between (cw_lam C hr) (ea_cons (e_var 7) (ea_cons (e_var 8) ea_nil))))) ea_nil)))
    (b_cons (s_mut 12 mt_append mut_app F.slot_list_append F.type_list_append (ea_cons (e_heard C L.fn L.ld L.bi sc__law_heard rfl (Or.inl rfl) (fun _ => heard_gives rfl L.cs (by decide) (fun _ => rfl)) L.cs L.ex TB hcode hmT hu hT0 (k := 7) (by decide) (LamX.lamS_by (sc := defScope st_law) (by decide +kernel)) (fun A outer s H E f c' hr => (e_call c_side_between (cw_lam C hr) (ea_cons (e_var 7) (ea_cons (e_var 8) ea_nil))))) ea_nil))
    (b_cons (s_if (t_w (w_and (t_cmp (o_ne C.room) (e_see 9) (EE.v e_int)) (w_and1 (t_cmp (o_ne C.room) (e_see 12) (EE.v (e_mul (EE.v (e_lst (ea_cons (e_tup (ea_cons e_str ea_nil)) ea_nil))) e_int)))))) (b_one (s_ret e_bl)) b_nil)
    (b_cons (s_setLc 13 (vs := [11]) C.calm C.nd (i_any e_str) (blkOk_by (N := N_law) (sc := defScope st_law) (own := [("side", 11)]) (by decide +kernel)) rfl (fun s H cc cl fp => (g_name 11 (C.blk s H _ (compEnvC _ cl cc _) fp).nd (by decide))) (calm_set 11) (gfz_set (vs := []) 11) (fun s H cc cl fp => ts_nil) (fun s H cc cl fp => (e_tup (ea_cons (e_var 11) (ea_cons (e_call c__law_beside (C.blk s H _ (compEnvC _ cl cc _) fp) (ea_cons (e_var 7) (ea_cons (e_var 11) ea_nil))) ea_nil)))) (sw_true rfl rfl rfl (by decide +kernel)))
    (b_cons (s_set 14 C.nd (e_lst (ea_cons (e_lc (vs := [11]) C.calm C.nd (i_any e_str) (blkOk_by (N := N_law) (sc := defScope st_law) (own := [("side", 11)]) (by decide +kernel)) rfl (fun s H cc cl fp => (g_name 11 (C.blk s H _ (compEnvC _ cl cc _) fp).nd (by decide))) (calm_set 11) (gfz_set (vs := []) 11) (fun s H cc cl fp => ts_nil) (fun s H cc cl fp => (e_call c_moved (C.blk s H _ (compEnvC _ cl cc _) fp) (ea_cons (e_var 3) (ea_cons (e_var 7) (ea_cons (e_var 11) ea_nil)))))) (ea_cons (e_lc (vs := [11]) C.calm C.nd (i_any e_str) (blkOk_by (N := N_law) (sc := defScope st_law) (own := [("side", 11)]) (by decide +kernel)) rfl (fun s H cc cl fp => (g_name 11 (C.blk s H _ (compEnvC _ cl cc _) fp).nd (by decide))) (calm_set 11) (gfz_set (vs := []) 11) (fun s H cc cl fp => ts_nil) (fun s H cc cl fp => (e_call c_is_at_rim (C.blk s H _ (compEnvC _ cl cc _) fp) (ea_cons (e_var 3) (ea_cons (e_var 7) (ea_cons (e_var 11) ea_nil)))))) (ea_cons (e_call c_neighbours C (ea_cons (e_var 3) (ea_cons (e_var 7) ea_nil))) ea_nil)))))
    (b_cons (s_set 15 C.nd (e_lst (ea_cons (e_lc (vs := [11, 16]) C.calm C.nd (i_any (e_var 13)) (blkOk_by (N := N_law) (sc := defScope st_law) (own := [("side", 11), ("there", 16)]) (by decide +kernel)) rfl (fun s H cc cl fp => (g_tup (C.blk s H _ (compEnvC _ cl cc _) fp).calm (gs_cons (g_name 11 (C.blk s H _ (compEnvC _ cl cc _) fp).nd (by decide)) (gs_cons (g_name 16 (C.blk s H _ (compEnvC _ cl cc _) fp).nd (by decide)) gs_nil)))) (calm_un (calm_cons (calm_set 11) (calm_cons (calm_set 16) calm_nil))) (gfz_un (gfz_cons (vs := []) (gfz_set (vs := []) 11) (gfz_cons (vs := []) (gfz_set (vs := []) 16) gfz_nil))) (fun s H cc cl fp => ts_nil) (fun s H cc cl fp => (e_if (t_val (e_call c__law_on (C.blk s H _ (compEnvC _ cl cc _) fp) (ea_cons (e_var 3) (ea_cons (e_var 16) ea_nil)))) (e_var 16) e_non))) (ea_cons (e_lc (vs := [11, 16]) C.calm C.nd (i_any (e_var 13)) (blkOk_by (N := N_law) (sc := defScope st_law) (own := [("side", 11), ("there", 16)]) (by decide +kernel)) rfl (fun s H cc cl fp => (g_tup (C.blk s H _ (compEnvC _ cl cc _) fp).calm (gs_cons (g_name 11 (C.blk s H _ (compEnvC _ cl cc _) fp).nd (by decide)) (gs_cons (g_name 16 (C.blk s H _ (compEnvC _ cl cc _) fp).nd (by decide)) gs_nil)))) (calm_un (calm_cons (calm_set 11) (calm_cons (calm_set 16) calm_nil))) (gfz_un (gfz_cons (vs := []) (gfz_set (vs := []) 11) (gfz_cons (vs := []) (gfz_set (vs := []) 16) gfz_nil))) (fun s H cc cl fp => ts_nil) (fun s H cc cl fp => (e_not (e_call c__law_on (C.blk s H _ (compEnvC _ cl cc _) fp) (ea_cons (e_var 3) (ea_cons (e_var 16) ea_nil)))))) ea_nil))))
    (b_cons (s_if (t_not (t_val (e_call c__law_alike C (ea_cons (e_var 14) (ea_cons (e_add (e_see 15) (EE.v (e_lst (ea_cons (e_lc (vs := [11, 16]) C.calm C.nd (i_any (e_var 13)) (blkOk_by (N := N_law) (sc := defScope st_law) (own := [("side", 11), ("there", 16)]) (by decide +kernel)) rfl (fun s H cc cl fp => (g_tup (C.blk s H _ (compEnvC _ cl cc _) fp).calm (gs_cons (g_name 11 (C.blk s H _ (compEnvC _ cl cc _) fp).nd (by decide)) (gs_cons (g_name 16 (C.blk s H _ (compEnvC _ cl cc _) fp).nd (by decide)) gs_nil)))) (calm_un (calm_cons (calm_set 11) (calm_cons (calm_set 16) calm_nil))) (gfz_un (gfz_cons (vs := []) (gfz_set (vs := []) 11) (gfz_cons (vs := []) (gfz_set (vs := []) 16) gfz_nil))) (fun s H cc cl fp => (ts_one (t_val (e_call c__law_on (C.blk s H _ (compEnvC _ cl cc _) fp) (ea_cons (e_var 3) (ea_cons (e_var 16) ea_nil)))))) (fun s H cc cl fp => (e_tup (ea_cons (e_var 11) (ea_cons (e_var 16) ea_nil))))) ea_nil)))) ea_nil))))) (b_one (s_ret e_bl)) b_nil)
    (b_cons (s_set 17 C.nd (e_lc (vs := [18]) C.calm C.nd (i_rng1 B.n_range (e_call c__law_take C (ea_cons (e_var 1) (ea_cons e_int ea_nil)))) (blkOk_by (N := N_law) (sc := defScope st_law) (own := [("turn", 18)]) (by decide +kernel)) rfl (fun s H cc cl fp => (g_name 18 (C.blk s H _ (compEnvC _ cl cc _) fp).nd (by decide))) (calm_set 18) (gfz_set (vs := []) 18) (fun s H cc cl fp => ts_nil) (fun s H cc cl fp => (e_call c__law_some (C.blk s H _ (compEnvC _ cl cc _) fp) (ea_cons (e_var 1) (ea_cons (e_lst (ea_cons e_str (ea_cons e_str (ea_cons e_str (ea_cons e_str ea_nil))))) ea_nil))))))
    (b_cons (s_set 19 C.nd (e_call c__law_walk C (ea_cons (e_var 3) (ea_cons (e_var 7) (ea_cons (e_lc (vs := [11]) C.calm C.nd (i_any (e_var 17)) (blkOk_by (N := N_law) (sc := defScope st_law) (own := [("side", 11)]) (by decide +kernel)) rfl (fun s H cc cl fp => (g_name 11 (C.blk s H _ (compEnvC _ cl cc _) fp).nd (by decide))) (calm_set 11) (gfz_set (vs := []) 11) (fun s H cc cl fp => ts_nil) (fun s H cc cl fp => (e_tup (ea_cons (e_var 11) (ea_cons e_bl ea_nil))))) ea_nil)))))
    (b_cons (s_put 12 C.nd (m_own (ea_cons (e_heard C L.fn L.ld L.bi sc__law_heard rfl (Or.inl rfl) (fun _ => heard_gives rfl L.cs (by decide) (fun _ => rfl)) L.cs L.ex TB hcode hmT hu hT0 (k := 7) (by decide) (LamX.lamS_by (sc := defScope st_law) (by decide +kernel)) (fun A outer s H E f c' hr => (e_call c_walked (cw_lam C hr) (ea_cons (e_var 3) (ea_cons (e_var 7) (ea_cons (e_var 17) ea_nil)))))) ea_nil)))
    (b_cons (s_mut 12 mt_append mut_app F.slot_list_append F.type_list_append (ea_cons (e_heard C L.fn L.ld L.bi sc__law_heard rfl (Or.inl rfl) (fun _ => heard_gives rfl L.cs (by decide) (fun _ => rfl)) L.cs L.ex TB hcode hmT hu hT0 (k := 7) (by decide) (LamX.lamS_by (sc := defScope st_law) (by decide +kernel)) (fun A outer s H E f c' hr => (e_call c_lines_walked (cw_lam C hr) (ea_cons (e_var 3) (ea_cons (e_var 7) (ea_cons (e_var 17) ea_nil)))))) ea_nil))
    (b_cons (s_if (t_not (t_val (e_call c__law_alike C (ea_cons (e_var 12) (ea_cons (e_if (t_cmp o_isN (e_see 19) (EE.v e_non)) (e_lc (vs := [20]) C.calm C.nd (i_any (e_var 19)) (blkOk_by (N := N_law) (sc := defScope st_law) (own := [("row", 20)]) (by decide +kernel)) rfl (fun s H cc cl fp => (g_name 20 (C.blk s H _ (compEnvC _ cl cc _) fp).nd (by decide))) (calm_set 20) (gfz_set (vs := []) 20) (fun s H cc cl fp => ts_nil) (fun s H cc cl fp => (e_tup (ea_cons e_str (ea_cons (e_var 20) ea_nil))))) (e_mul (EE.v (e_lst (ea_cons (e_tup (ea_cons e_str ea_nil)) ea_nil))) e_int)) ea_nil))))) (b_one (s_ret e_bl)) b_nil)
    (b_cons (s_set 21 C.nd (e_call c__law_walk C (ea_cons (e_var 3) (ea_cons (e_var 7) (ea_cons (e_lc (vs := [11]) C.calm C.nd (i_any (e_call c__law_straight C (ea_cons (e_var 7) (ea_cons (e_var 8) ea_nil)))) (blkOk_by (N := N_law) (sc := defScope st_law) (own := [("side", 11)]) (by decide +kernel)) rfl (fun s H cc cl fp => (g_name 11 (C.blk s H _ (compEnvC _ cl cc _) fp).nd (by decide))) (calm_set 11) (gfz_set (vs := []) 11) (fun s H cc cl fp => ts_nil) (fun s H cc cl fp => (e_tup (ea_cons (e_var 11) (ea_cons e_bl ea_nil))))) ea_nil)))))
    (b_cons (s_if (t_w (w_or (t_cmp (o_ne C.room) (EE.v (e_call c_walked C (ea_cons (e_var 3) (ea_cons (e_var 7) (ea_cons (e_call c_straight_way C (ea_cons (e_var 7) (ea_cons (e_var 8) ea_nil))) ea_nil))))) (EE.v (e_ix (e_see 21) e_int))) (w_or (t_cmp (o_ne C.room) (EE.v (e_ix (EE.v (e_ix (e_see 21) e_int)) (e_neg e_int))) (e_see 8)) (w_or1 (t_cmp (o_ne C.room) (EE.v (e_blt b_len B.n_len bootlen (EE.v (e_ix (e_see 21) e_int)))) (e_see 9)))))) (b_one (s_ret e_bl)) b_nil)
    (b_cons (s_asg (vs := [22, 23]) (e_tup (ea_cons (e_call c__law_some C (ea_cons (e_var 1) (ea_cons (e_lst (ea_cons (e_tup (ea_cons (e_add (EE.v (e_ix (e_see 3) e_int)) (EE.v e_int)) (ea_cons e_int ea_nil))) (ea_cons (e_tup (ea_cons e_int (ea_cons (e_add (EE.v (e_ix (e_see 3) e_int)) (EE.v e_int)) ea_nil))) (ea_cons (e_tup (ea_cons (e_neg e_int) (ea_cons e_int ea_nil))) (ea_cons e_non (ea_cons (e_tup (ea_cons e_int ea_nil)) (ea_cons (e_lst (ea_cons e_int (ea_cons e_int ea_nil))) (ea_cons (e_tup (ea_cons e_bl (ea_cons e_int ea_nil))) ea_nil)))))))) ea_nil))) (ea_cons (e_call c__law_some C (ea_cons (e_var 1) (ea_cons (e_lst (ea_cons e_str (ea_cons e_str (ea_cons e_str (ea_cons e_str ea_nil))))) ea_nil))) ea_nil))) (g_tup C.calm (gs_cons (g_name 22 C.nd (by decide)) (gs_cons (g_name 23 C.nd (by decide)) gs_nil))) (calm_un (calm_cons (calm_set 22) (calm_cons (calm_set 23) calm_nil))))
    (b_cons (s_put 12 C.nd (m_own (ea_cons (e_heard C L.fn L.ld L.bi sc__law_heard rfl (Or.inl rfl) (fun _ => heard_gives rfl L.cs (by decide) (fun _ => rfl)) L.cs L.ex TB hcode hmT hu hT0 (k := 7) (by decide) (LamX.lamS_by (sc := defScope st_law) (by decide +kernel)) (fun A outer s H E f c' hr => (e_call c_moved (cw_lam C hr) (ea_cons (e_var 3) (ea_cons (e_var 22) (ea_cons e_str ea_nil)))))) ea_nil)))
    (b_cons (s_mut 12 mt_append mut_app F.slot_list_append F.type_list_append (ea_cons (e_heard C L.fn L.ld L.bi sc__law_heard rfl (Or.inl rfl) (fun _ => heard_gives rfl L.cs (by decide) (fun _ => rfl)) L.cs L.ex TB hcode hmT hu hT0 (k := 7) (by decide) (LamX.lamS_by (sc := defScope st_law) (by decide +kernel)) (fun A outer s H E f c' hr => (e_call c_moved (cw_lam C hr) (ea_cons (e_var 3) (ea_cons (e_var 7) (ea_cons (e_var 23) ea_nil)))))) ea_nil))
    (b_cons (s_mut 12 mt_append mut_app F.slot_list_append F.type_list_append (ea_cons (e_heard C L.fn L.ld L.bi sc__law_heard rfl (Or.inl rfl) (fun _ => heard_gives rfl L.cs (by decide) (fun _ => rfl)) L.cs L.ex TB hcode hmT hu hT0 (k := 7) (by decide) (LamX.lamS_by (sc := defScope st_law) (by decide +kernel)) (fun A outer s H E f c' hr => (e_call c_is_at_rim (cw_lam C hr) (ea_cons (e_var 3) (ea_cons (e_var 22) (ea_cons e_str ea_nil)))))) ea_nil))
    (b_one (s_if (t_cmp (o_ne C.room) (e_see 12) (EE.v (e_mul (EE.v (e_lst (ea_cons (e_tup (ea_cons e_str ea_nil)) ea_nil))) e_int))) (b_one (s_ret e_bl)) b_nil)))))))))))))))))))))))))))))
    (b_one (s_ret e_bl)))

end
end Ink.K01

set_option Elab.async false
set_option maxRecDepth 100000
set_option autoImplicit false
set_option linter.unusedVariables false
/-! K01M1: plain facts: data that has a short text, sorting, loops of plain steps. -/
namespace Ink
open PySem PySem.W PyProof.Rows

/-! ### data with a short text -/
theorem listText_len (ts : List Str) : (listText ts).length ≤ 2 + piled ts := by
  cases ts with
  | nil => decide
  | cons t r =>
    have h := textFrom_length_pos r 1 (("[" : Str) ++ (if (0 : Nat) > 0 then ", " else "" : String) ++ t) (Nat.succ_pos 0)
    have e : ((("[" : Str) ++ (if (0 : Nat) > 0 then ", " else "" : String) ++ t)).length = 1 + t.length := by
      rw [strLen_append, strLen_append]; rfl
    have hX : (listText (t :: r)).length = (textFrom 1 (("[" : Str) ++ (if (0 : Nat) > 0 then ", " else "" : String) ++ t) r).length + 1 := by
      show (textFrom 0 "[" (t :: r) ++ "]").length = _
      rw [strLen_append]; rfl
    rw [hX, h, e, piled_cons]; omega
theorem tupleText_len (ts : List Str) : (tupleText ts).length ≤ 3 + piled ts := by
  unfold tupleText
  rw [strLen_append, strLen_append]
  have e1 : ((("(" : String) : Str)).length = 1 := rfl
  have e3 : (((if ts.length == 1 then ",)" else ")" : String) : Str)).length ≤ 2 := by split <;> decide
  rw [e1]
  by_cases h : ts = []
  · subst h
    show 1 + 0 + _ ≤ _
    omega
  · have := join_length_add ts h
    omega
theorem sok_app (a b : Str) : PyData.strOk (a ++ b) = (PyData.strOk a && PyData.strOk b) := by
  show (a.cps ++ b.cps).all _ = _
  rw [Array.all_append]; rfl
theorem sokE : PyData.strOk (Str.ofString "") = true := by decide +kernel
theorem sokN : PyData.strOk Str.empty = true := by decide +kernel
theorem sokC : PyData.strOk (Str.ofString ", ") = true := by decide +kernel
theorem sok1 : PyData.strOk (Str.ofString "[") = true := by decide +kernel
theorem sok2 : PyData.strOk (Str.ofString "]") = true := by decide +kernel
theorem sok3 : PyData.strOk (Str.ofString "(") = true := by decide +kernel
theorem sok4 : PyData.strOk (Str.ofString ")") = true := by decide +kernel
theorem sok5 : PyData.strOk (Str.ofString ",)") = true := by decide +kernel
theorem textFrom_ok : ∀ (ts : List Str) (k : Nat) (acc : Str), PyData.strOk acc = true → (∀ t ∈ ts, PyData.strOk t = true) → PyData.strOk (textFrom k acc ts) = true
  | [], _, _, h, _ => h
  | t :: r, k, acc, h, hs => by
    refine textFrom_ok r (k + 1) (acc ++ (if k > 0 then ", " else "" : String) ++ t) ?_ fun t ht => hs t (List.mem_cons_of_mem _ ht)
    rw [sok_app, sok_app, h, hs t List.mem_cons_self]
    split
    · rw [sokC]; rfl
    · rw [sokE]; rfl
theorem listText_ok {ts : List Str} (h : ∀ t ∈ ts, PyData.strOk t = true) : PyData.strOk (listText ts) = true := by
  unfold listText
  rw [sok_app, textFrom_ok ts 0 _ sok1 h, sok2]; rfl
theorem join_ok : ∀ {ts : List Str}, (∀ t ∈ ts, PyData.strOk t = true) → PyData.strOk (Str.join ", " ts) = true
  | [], _ => sokN
  | [x], h => h x List.mem_cons_self
  | x :: y :: r, h => by
    show PyData.strOk (x ++ ", " ++ Str.join ", " (y :: r)) = true
    rw [sok_app, sok_app, h x List.mem_cons_self, join_ok fun t ht => h t (List.mem_cons_of_mem _ ht), sokC]; rfl
theorem tupleText_ok {ts : List Str} (h : ∀ t ∈ ts, PyData.strOk t = true) : PyData.strOk (tupleText ts) = true := by
  unfold tupleText
  rw [sok_app, sok_app, join_ok h, sok3]
  split
  · rw [sok5]; rfl
  · rw [sok4]; rfl
/-- d reads as data that can be shown in at most wt signs -/
def OkW (d : D) (wt dep : Nat) : Prop := ∃ q, d.py = some q ∧ q.showable = true ∧ q.canLay0 = true ∧ q.depth ≤ dep ∧ q.shown.length ≤ wt ∧ PyData.strOk q.shown = true
theorem OkW.mono {d : D} {wt dep wt' dep' : Nat} (h : OkW d wt dep) (h1 : wt ≤ wt') (h2 : dep ≤ dep') : OkW d wt' dep' := by
  obtain ⟨q, a, b, c, e, f, g⟩ := h
  exact ⟨q, a, b, c, Nat.le_trans e h2, Nat.le_trans f h1, g⟩
theorem okNon : OkW .non 4 0 := ⟨.none, rfl, rfl, rfl, Nat.le_refl _, by decide +kernel, by decide +kernel⟩
theorem okBl (b : Bool) : OkW (.bl b) 5 0 := ⟨.bool b, rfl, rfl, rfl, Nat.le_refl _, by cases b <;> decide +kernel, by cases b <;> decide +kernel⟩
theorem okStr {x : Str} {wt : Nat} (h1 : (PyData.str x).canLay0 = true) (h2 : (PyData.str x).shown.length ≤ wt) (h3 : PyData.strOk (PyData.str x).shown = true) : OkW (.str x) wt 0 := ⟨.str x, rfl, rfl, h1, Nat.le_refl _, h2, h3⟩
theorem okInt {i : Int} (h1 : -40 ≤ i) (h2 : i ≤ 40) : OkW (.int i) 3 0 := by
  have key : ∀ n : Fin 81, (PyData.int ((n.1 : Int) - 40)).showable = true ∧ (PyData.int ((n.1 : Int) - 40)).shown.length ≤ 3 ∧ PyData.strOk (PyData.int ((n.1 : Int) - 40)).shown = true := by decide +kernel
  have := key ⟨(i + 40).toNat, by omega⟩
  have e : (((i + 40).toNat : Nat) : Int) - 40 = i := by omega
  simp only [e] at this
  exact ⟨.int i, rfl, this.1, rfl, Nat.le_refl _, this.2.1, this.2.2⟩
theorem okAll {wt dep : Nat} : ∀ {ds : List D}, (∀ d ∈ ds, OkW d wt dep) → ∃ qs, D.pys ds = some qs ∧ PyData.showableAll qs = true ∧ PyData.canLayAll0 qs = true ∧ PyData.depthAll qs ≤ dep ∧ piled (PyData.shownAll qs) ≤ ds.length * (wt + 2) ∧ ∀ t ∈ PyData.shownAll qs, PyData.strOk t = true
  | [], _ => ⟨[], rfl, rfl, rfl, Nat.zero_le _, Nat.zero_le _, fun _ h => nomatch h⟩
  | d :: ds, h => by
    obtain ⟨q, a1, a2, a3, a4, a5, a6⟩ := h d List.mem_cons_self
    obtain ⟨qs, b1, b2, b3, b4, b5, b6⟩ := okAll fun d hd => h d (List.mem_cons_of_mem _ hd)
    refine ⟨q :: qs, by unfold D.pys; rw [a1, b1], by unfold PyData.showableAll; rw [a2, b2]; rfl, by unfold PyData.canLayAll0; rw [a3, b3]; rfl, by unfold PyData.depthAll; omega, ?_, fun t ht => ?_⟩
    · unfold PyData.shownAll
      rw [piled_cons, List.length_cons, Nat.add_mul]
      omega
    · unfold PyData.shownAll at ht
      rcases List.mem_cons.mp ht with rfl | ht
      · exact a6
      · exact b6 t ht
theorem okLst {ds : List D} {wt dep : Nat} (h : ∀ d ∈ ds, OkW d wt dep) : OkW (.lst ds) (2 + ds.length * (wt + 2)) (dep + 1) := by
  obtain ⟨qs, b1, b2, b3, b4, b5, b6⟩ := okAll h
  refine ⟨.list qs, by unfold D.py; rw [b1]; rfl, b2, b3, Nat.succ_le_succ b4, ?_, by unfold PyData.shown; exact listText_ok b6⟩
  unfold PyData.shown
  have := listText_len (PyData.shownAll qs)
  omega
theorem okTup {ds : List D} {wt dep : Nat} (h : ∀ d ∈ ds, OkW d wt dep) : OkW (.tup ds) (3 + ds.length * (wt + 2)) (dep + 1) := by
  obtain ⟨qs, b1, b2, b3, b4, b5, b6⟩ := okAll h
  refine ⟨.tuple qs, by unfold D.py; rw [b1]; rfl, b2, b3, Nat.succ_le_succ b4, ?_, by unfold PyData.shown; exact tupleText_ok b6⟩
  unfold PyData.shown
  have := tupleText_len (PyData.shownAll qs)
  omega
theorem shaped_of {q : PyData} {dep : Nat} (h1 : q.canLay0 = true) (h2 : q.depth ≤ dep) (h3 : dep ≤ 64) : SeqAt.shaped q = true := by
  unfold SeqAt.shaped
  rw [h1, decide_eq_true (Nat.le_trans h2 h3)]; rfl
theorem eqD_self {d : D} {wt dep : Nat} (h : OkW d wt dep) (h3 : dep ≤ 64) : gEq d d = some (.bl true) := by
  obtain ⟨q, a1, a2, a3, a4, a5, a6⟩ := h
  have hs := shaped_of a3 a4 h3
  unfold gEq eqD
  rw [a1]
  dsimp only
  rw [if_pos ⟨hs, hs⟩, SeqAt.eqv_refl q a3]; rfl
theorem alike_self {d : D} {wt dep : Nat} (g : Bag) (h : OkW d wt dep) (hl : d.isLst = true) (h2 : wt ≤ 16777216) (h3 : dep ≤ 64) : K01.M__law_alike [d, d] g = .ok (.bl true) g := by
  have he := eqD_self h h3
  obtain ⟨q, a1, a2, a3, a4, a5, a6⟩ := h
  have hs := shaped_of a3 a4 h3
  have hr : reprOk q = true := by
    unfold reprOk
    rw [a2, hs, decide_eq_true (show q.shown.length ≤ sizeLine by rw [sizeLine_eq]; omega)]; rfl
  have hg : gRepr d = some (.str q.shown) := by
    cases d <;> first | (cases hl; done) | skip
    unfold gRepr
    dsimp only
    rw [a1]
    dsimp only
    rw [if_pos hr]
  have hss : gEq (.str q.shown) (.str q.shown) = some (.bl true) := by
    unfold gEq eqD
    have : SeqAt.shaped (.str q.shown) = true := shaped_of (dep := 0) a6 (Nat.le_refl _) (by omega)
    show (if SeqAt.shaped (.str q.shown) = true ∧ SeqAt.shaped (.str q.shown) = true then some (PyData.eqv (.str q.shown) (.str q.shown)) else none).map D.bl = _
    rw [if_pos ⟨this, this⟩, SeqAt.eqv_refl (.str q.shown) a6]; rfl
  unfold K01.M__law_alike K01.m__law_alike runM
  simp only [as0, sRet, fAndV, f2, bnd, fSee, opt, ret, List.map_cons, List.map_nil, List.length_cons, List.length_nil, List.cons_append, List.getElem?_cons_zero, List.getElem?_cons_succ, hg, hss, he, asB, if_true, AS.bag]
end Ink

set_option Elab.async false
set_option maxRecDepth 100000
set_option autoImplicit false
set_option linter.all false
namespace Ink.K01
open PySem PySem.W PyProof.Rows
theorem eqInt (i j : Int) : gEq (.int i) (.int j) = some (.bl (i == j)) := rfl
theorem cut_hd (cs : List Int) (k : Int) (hk : 0 ≤ k) : gIx (.lst (gCut (cs.map D.int) (some k) none ++ [.int 0])) (.int 0) = some (.int ((cs[k.toNat]?).getD 0)) := by
  have e : gCut (cs.map D.int) (some k) none = (cs.drop k.toNat).map D.int := by
    unfold gCut
    have h1 : HT.sIx (cs.map D.int).length 0 (some k) = min k.toNat cs.length := by
      unfold HT.sIx
      rw [List.length_map]
      simp only
      rw [if_neg (by omega)]
    have h2 : HT.sIx (cs.map D.int).length (cs.map D.int).length none = cs.length := by
      rw [HT.sIx_none, List.length_map]
    rw [h1, h2, ← List.map_drop, ← List.map_take]
    congr 1
    by_cases h : k.toNat ≤ cs.length
    · rw [Nat.min_eq_left h, List.take_of_length_le (by rw [List.length_drop]; omega)]
    · rw [Nat.min_eq_right (by omega), List.drop_length, List.take_nil, List.drop_eq_nil_of_le (by omega)]
  rw [e]
  have e2 : cs[k.toNat]? = (cs.drop k.toNat)[0]? := by rw [List.getElem?_drop]; rfl
  rw [e2]
  cases h : cs.drop k.toNat with
  | nil => rfl
  | cons c r =>
    show L2.atI (D.int c :: (r.map D.int ++ [D.int 0])) 0 = some (D.int c)
    unfold L2.atI L2.ixN
    rw [if_pos (by omega), if_pos (by simp; omega)]
    rfl
structure Good (g : Bag) : Prop where
  p : 0 ≤ g.p
  s : 0 ≤ g.s
  s2 : g.s < 2147483647
  k : 0 ≤ g.k
  c : ∀ c ∈ g.cells, 0 ≤ c
  len : g.cells.length ≤ 63
theorem pow18 : gIC cPow (fun i j => i ^ j.toNat) (.int 10) (.int 18) = some (.int 1000000000000000000) := by kernel_rfl
theorem fm (a n : Int) (hn : 0 < n) : 0 ≤ a.fmod n ∧ a.fmod n < n := ⟨Int.fmod_nonneg_of_pos _ hn, Int.fmod_lt_of_pos _ hn⟩
theorem take_ok (g : Bag) (n : Int) (hg : Good g) (hn : 0 < n) (hn2 : n < 1000) : ∃ v g', M__law_take [.bag, .int n] g = .ok (.int v) g' ∧ 0 ≤ v ∧ v < n ∧ Good g' := by
  have hn0 : n ≠ 0 := by omega
  have hn1 : n.natAbs < 1073741824 := by omega
  unfold M__law_take m__law_take runM
  by_cases hp : g.p = 0
  · have hc := cut_hd g.cells g.k hg.k
    have hc0 : 0 ≤ (g.cells[g.k.toNat]?).getD 0 := by
      cases h : g.cells[g.k.toNat]? with
      | none => exact Int.le_refl _
      | some c => exact hg.c c (List.mem_of_getElem? h)
    generalize hcc : (g.cells[g.k.toNat]?).getD 0 = c at hc hc0
    have hl : (gCut (g.cells.map D.int) (some g.k) none).length + 1 ≤ sizeLine := by
      unfold gCut
      rw [List.length_take, List.length_drop, List.length_map, sizeLine_eq]
      have := hg.len
      omega
    have m0 : cPow 10 18 = true := by decide
    have m1 : ∀ x : Int, cMul x 48271 = true := fun x => by unfold cMul; simp
    have m2 : ∀ x : Int, cMul 7919 x = true := fun x => by unfold cMul; simp
    have m3 : ∀ x : Int, cMul x 39373 = true := fun x => by unfold cMul; simp
    have m4 : ∀ x : Int, cMul x 30011 = true := fun x => by unfold cMul; simp
    generalize hst : (g.s * 48271 + c.fmod 2147483647 + 7919 * (g.k + 1)).fmod 2147483647 = st
    have hst1 := fm (g.s * 48271 + c.fmod 2147483647 + 7919 * (g.k + 1)) 2147483647 (by omega)
    rw [hst] at hst1
    by_cases hb : 1000000000000000000 ≤ c
    · have hcp : 0 < c := by omega
      refine ⟨c.fmod n, ⟨c.fdiv n, st, g.k + 1, g.cells⟩, ?_, (fm c n hn).1, (fm c n hn).2, ⟨Int.fdiv_nonneg hc0 (by omega), hst1.1, hst1.2, by have := hg.k; show 0 ≤ g.k + 1; omega, hg.c, hg.len⟩⟩
      simp [sSeq, sIf, fB, f2, bnd, fBag, as0, isBag, bagAt, ret, opt, eqInt, asB, hp, gB, sSet, gSet, setSl, gIC, cNz, cDiv, fVar, hn0, hn1, gInt, sBag, bagPut, sRet, List.replicate, fBagCut, fLst, seqM, hl, hc, sBagAug, fSee, m0, hb, fAdd, fMul, addD, mulD, m1, m2, gI, hst, hcp]
    · obtain ⟨b1, b2⟩ := fm ((st + 1) * 39373) 1000000007 (by omega)
      generalize hbeg : ((st + 1) * 39373).fmod 1000000007 = beg at b1 b2
      have m5 : cMul beg beg = true := by unfold cMul; rw [decide_eq_true (show -(2 ^ 64) < beg ∧ beg < 2 ^ 64 by omega)]; rfl
      refine ⟨_, ⟨0, st, g.k + 1, g.cells⟩, ?_, (fm ((((beg * beg).fmod 998244353 * 30011).fmod 998244353).fdiv 7) n hn).1, (fm _ n hn).2, ⟨Int.le_refl _, hst1.1, hst1.2, by have := hg.k; show 0 ≤ g.k + 1; omega, hg.c, hg.len⟩⟩
      simp [sSeq, sIf, fB, f2, bnd, fBag, as0, isBag, bagAt, ret, opt, eqInt, asB, hp, gB, sSet, gSet, setSl, gIC, cNz, cDiv, fVar, hn0, hn1, gInt, sBag, bagPut, sRet, List.replicate, fBagCut, fLst, seqM, hl, hc, sBagAug, fSee, m0, hb, fAdd, fMul, addD, mulD, m1, m2, m3, m4, m5, gI, hst, hbeg]
  · have hp2 : 0 < g.p := by have := hg.p; omega
    refine ⟨g.p.fmod n, { g with p := g.p.fdiv n }, ?_, (fm _ n hn).1, (fm _ n hn).2, ⟨Int.fdiv_nonneg hg.p (by omega), hg.s, hg.s2, hg.k, hg.c, hg.len⟩⟩
    simp [sSeq, sIf, fB, f2, bnd, fBag, as0, isBag, bagAt, ret, opt, eqInt, asB, hp, gB, hp2, sSet, gSet, setSl, gIC, cNz, cDiv, fVar, hn0, hn1, gInt, sBag, bagPut, sRet, List.replicate]
end Ink.K01

set_option Elab.async false
set_option maxRecDepth 1000000
set_option autoImplicit false
set_option linter.all false
namespace Ink.K01
open PySem PySem.W PyProof.Rows

/-! ### sorting -/
def le1 : D → D → Bool := dataLe false D.enc
theorem le1_trans (a b c : D) (h : le1 a b = true) (k : le1 b c = true) : le1 a c = true := by
  unfold le1 at *
  rw [dataLe_eq] at *
  simp only [cond_false, Bool.not_eq_true'] at *
  unfold dataLt at *
  cases e : lexLt itemOrd (keyToks c.enc) (keyToks a.enc) with
  | false => rfl
  | true =>
    cases e1 : lexLt itemOrd (keyToks a.enc) (keyToks b.enc) with
    | true =>
      have := lex_trans (O := itemOrd) _ _ _ e e1
      rw [this] at k; cases k
    | false =>
      have := lex_total (O := itemOrd) _ _ e1 h
      rw [this] at e
      rw [e] at k; cases k
theorem le1_total (a b : D) : (le1 a b || le1 b a) = true := by
  unfold le1
  rw [dataLe_eq]
  simp only [cond_false]
  unfold dataLt
  cases e : lexLt itemOrd (keyToks b.enc) (keyToks a.enc) with
  | false => rfl
  | true =>
    cases e1 : lexLt itemOrd (keyToks a.enc) (keyToks b.enc) with
    | false => rfl
    | true =>
      have := lex_trans (O := itemOrd) _ _ _ e e1
      rw [lex_irrefl] at this; cases this
theorem strict_anti : ∀ {r : List D}, r.Pairwise (fun a b => le1 a b = true ∧ le1 b a = false) → ∀ a ∈ r, ∀ b ∈ r, le1 a b = true → le1 b a = true → a = b
  | [], _, a, h, _, _, _, _ => nomatch h
  | x :: r, hp, a, ha, b, hb, k1, k2 => by
    cases hp with
    | cons h t =>
      rcases List.mem_cons.mp ha with ea | ha'
      · rcases List.mem_cons.mp hb with eb | hb'
        · rw [ea, eb]
        · rw [ea, (h b hb').2] at k2; cases k2
      · rcases List.mem_cons.mp hb with eb | hb'
        · rw [eb, (h a ha').2] at k1; cases k1
        · exact strict_anti t a ha' b hb' k1 k2
theorem sort_eq {l r : List D} (hp : l.Perm r) (hs : r.Pairwise fun a b => le1 a b = true ∧ le1 b a = false) : l.mergeSort (dataLe false D.enc) = r := by
  have h1 := List.mergeSort_perm l (dataLe false D.enc)
  have h2 := List.pairwise_mergeSort (le := le1) le1_trans le1_total l
  have h3 : (l.mergeSort (dataLe false D.enc)).Perm r := h1.trans hp
  refine List.Perm.eq_of_pairwise (le := fun a b => le1 a b = true) (fun a b ha hb k1 k2 => ?_) h2 (hs.imp fun h => h.1) h3
  exact strict_anti hs a (h3.mem_iff.mp ha) b hb k1 k2

/-! ### steps -/
theorem seq_ok {m m' : Ex Fl} {s s1 : AS} (h : m s = .ok .nx s1) : sSeq m m' s = m' s1 := by
  unfold sSeq bnd
  rw [h]
theorem bnd_ok' {α β : Type} {m : Ex α} {f : α → Ex β} {s s1 : AS} {a : α} (h : m s = .ok a s1) : bnd m f s = f a s1 := by
  unfold bnd
  rw [h]
/-- a comprehension of plain steps -/
theorem comp_pure {vs : List Nat} {g : D → Ex Unit} {t : Ex Bool} {me : Ex D} {f : D → Option D} {s : AS} : ∀ {ds : List D}, (∀ d ∈ ds, oneM vs g t me d s = .ok (f d) s) → compM vs g t me ds s = .ok (ds.filterMap f) s
  | [], _ => rfl
  | d :: ds, h => by
    unfold compM
    rw [bnd_ok' (h d List.mem_cons_self), bnd_ok' (comp_pure fun d hd => h d (List.mem_cons_of_mem _ hd))]
    cases e : f d with
    | none => rw [List.filterMap_cons_none e]; rfl
    | some y => rw [List.filterMap_cons_some e]; rfl
/-- with the bag turned: each item leaves the slots as they were -/
theorem comp_bag {vs : List Nat} {g : D → Ex Unit} {t : Ex Bool} {me : Ex D} {P : D → Prop} {sl : List SV} : ∀ {ds : List D} {b : Bag}, Good b → (∀ d ∈ ds, ∀ b, Good b → ∃ y b', oneM vs g t me d ⟨sl, b⟩ = .ok (some y) ⟨sl, b'⟩ ∧ P y ∧ Good b') → ∃ ys b', compM vs g t me ds ⟨sl, b⟩ = .ok ys ⟨sl, b'⟩ ∧ (∀ y ∈ ys, P y) ∧ ys.length = ds.length ∧ Good b'
  | [], b, hb, _ => ⟨[], b, rfl, (fun _ h => nomatch h), rfl, hb⟩
  | d :: ds, b, hb, h => by
    obtain ⟨y, b1, e1, p1, h1⟩ := h d List.mem_cons_self b hb
    obtain ⟨ys, b2, e2, p2, l2, h2⟩ := comp_bag h1 fun d hd => h d (List.mem_cons_of_mem _ hd)
    refine ⟨y :: ys, b2, ?_, fun z hz => ?_, by rw [List.length_cons, List.length_cons, l2], h2⟩
    · unfold compM
      rw [bnd_ok' e1, bnd_ok' e2]; rfl
    · rcases List.mem_cons.mp hz with rfl | hz
      · exact p1
      · exact p2 z hz
/-- a loop with a standing truth -/
theorem loop_inv {g : D → Ex Unit} {body : Ex Fl} {Inv : AS → Prop} : ∀ {ds : List D} {s : AS}, Inv s → (∀ d ∈ ds, ∀ s, Inv s → ∃ s1 s2, g d s = .ok () s1 ∧ body s1 = .ok .nx s2 ∧ Inv s2) → ∃ s', loopM g body ds s = .ok .nx s' ∧ Inv s'
  | [], s, h, _ => ⟨s, rfl, h⟩
  | d :: ds, s, h, k => by
    obtain ⟨s1, s2, e1, e2, h2⟩ := k d List.mem_cons_self s h
    obtain ⟨s', e3, h3⟩ := loop_inv h2 fun d hd => k d (List.mem_cons_of_mem _ hd)
    refine ⟨s', ?_, h3⟩
    unfold loopM
    rw [bnd_ok' e1, bnd_ok' e2]
    exact e3

/-! ### draws -/
theorem some_ok {g : Bag} {xs : List D} (hg : Good g) (h0 : xs ≠ []) (h1 : xs.length < 1000) : ∃ d g', M__law_some [.bag, .lst xs] g = .ok d g' ∧ d ∈ xs ∧ Good g' := by
  have hl : 0 < xs.length := List.length_pos_iff.mpr h0
  obtain ⟨v, g', e, v0, v1, hg'⟩ := take_ok g (xs.length : Int) hg (by omega) (by omega)
  have hv : v.toNat < xs.length := by omega
  refine ⟨xs[v.toNat], g', ?_, List.getElem_mem hv, hg'⟩
  have hix : gIx (.lst xs) (.int v) = some xs[v.toNat] := by
    show L2.atI xs v = _
    have := L2.atI_nat (xs := xs) (j := v.toNat) (v := xs[v.toNat]) (List.getElem?_eq_getElem hv)
    rw [show ((v.toNat : Nat) : Int) = v by omega] at this
    exact this
  have hlen : gLen (.lst xs) = some (.int (xs.length : Int)) := rfl
  unfold M__law_some m__law_some runM
  simp [sRet, f2, bnd, fSee, as0, fCall, seqM, fVar, opt, ret, lift, e, hix, hlen, List.replicate]
end Ink.K01

set_option Elab.async false
set_option maxRecDepth 1000000
set_option autoImplicit false
set_option linter.all false
namespace Ink.K01
open PySem PySem.W PyProof.Rows
theorem mixed_ok {g : Bag} (hg : Good g) (a b : D) : ∃ xs g', M__law_mixed [.bag, .lst [a, b]] g = .ok (.lst xs) g' ∧ (xs = [a, b] ∨ xs = [b, a]) ∧ Good g' := by
  obtain ⟨v1, g1, e1, p1, q1, h1⟩ := take_ok g 1 hg (by omega) (by omega)
  obtain ⟨v2, g2, e2, p2, q2, h2⟩ := take_ok g1 2 h1 (by omega) (by omega)
  have z1 : v1 = 0 := by omega
  subst z1
  have sz : (0 : Nat) < sizeLine := by rw [sizeLine_eq]; omega
  have sz1 : (1 : Nat) < sizeLine := by rw [sizeLine_eq]; omega
  have c : v2 = 0 ∨ v2 = 1 := by omega
  rcases c with rfl | rfl
  · refine ⟨[b, a], g2, ?_, .inr rfl, h2⟩
    unfold M__law_mixed m__law_mixed runM
    simp [sSeq, bnd, sPut, mOwn, seqM, ret, as0, setSl, sFor, fIt, fVar, opt, itD, loopM, gSet, sMut, fCall, lift, fAdd, fSee, gLen, addD, e1, e2, uIns, sRet, List.replicate, sz, sz1]
  · refine ⟨[a, b], g2, ?_, .inl rfl, h2⟩
    unfold M__law_mixed m__law_mixed runM
    simp [sSeq, bnd, sPut, mOwn, seqM, ret, as0, setSl, sFor, fIt, fVar, opt, itD, loopM, gSet, sMut, fCall, lift, fAdd, fSee, gLen, addD, e1, e2, uIns, sRet, List.replicate, sz, sz1]
end Ink.K01

set_option Elab.async false
set_option maxRecDepth 1000000
set_option autoImplicit false
set_option linter.all false
namespace Ink.K01
open PySem PySem.W PyProof.Rows
abbrev pt (x y : Int) : D := .tup [.int x, .int y]
abbrev pd (q : Int × Int) : D := pt q.1 q.2
theorem of_map {α β : Type} {f f' : α → β} : ∀ {l : List α}, l.map f = l.map f' → ∀ x ∈ l, f x = f' x
  | [], _, x, h => nomatch h
  | a :: l, e, x, h => by
    rw [List.map_cons, List.map_cons] at e
    injection e with e1 e2
    rcases List.mem_cons.mp h with rfl | h
    · exact e1
    · exact of_map e2 x h
def rg (n : Int) : List Int := (List.range (n.toNat + 1)).map fun (i : Nat) => Int.ofNat i
def ptsL (q : Int × Int) : List (Int × Int) := (rg q.1).flatMap fun x => (rg q.2).map fun y => (x, y)
def one5 : List Int := [1, 2, 3, 4, 5]
def shL : List (Int × Int) := one5.flatMap fun x => one5.map fun y => (x, y)
def sidesL : List Str := ["e", "n", "s", "w"]
def stp (p : Int × Int) (s : Str) : Int × Int := if s = "e" then (p.1 + 1, p.2) else if s = "n" then (p.1, p.2 + 1) else if s = "w" then (p.1 - 1, p.2) else (p.1, p.2 - 1)
def onB (q p : Int × Int) : Bool := decide (0 ≤ p.1) && decide (p.1 ≤ q.1) && decide (0 ≤ p.2) && decide (p.2 ≤ q.2)
def mvD (q p : Int × Int) (s : Str) : D := if onB q (stp p s) = true then pd (stp p s) else .non
def tmL : List ((Int × Int) × (Int × Int) × Str) := shL.flatMap fun q => (ptsL q).flatMap fun p => sidesL.map fun s => (q, p, s)
theorem tm : ∀ t ∈ tmL, M_moved [pd t.1, pd t.2.1, .str t.2.2] = fun g => .ok (mvD t.1 t.2.1 t.2.2) g := of_map (by kernel_rfl)
def absZ (i : Int) : Int := if i < 0 then -i else i
def away (a b : Int × Int) : Int := absZ (a.1 - b.1) + absZ (a.2 - b.2)
def lnD (a b : Int × Int) : D := if a.1 < b.1 ∨ (a.1 = b.1 ∧ a.2 ≤ b.2) then .tup [.int a.1, .int a.2, .int (if a.2 = b.2 then 0 else 1)] else .tup [.int b.1, .int b.2, .int (if a.2 = b.2 then 0 else 1)]
def sdS (a b : Int × Int) : Str := if a.1 < b.1 then "e" else if a.2 < b.2 then "n" else if b.1 < a.1 then "w" else "s"
def strL (a b : Int × Int) : List Str := List.replicate (α := Str) (b.1 - a.1).natAbs (if a.1 < b.1 then ("e" : Str) else "w") ++ List.replicate (α := Str) (b.2 - a.2).natAbs (if a.2 < b.2 then ("n" : Str) else "s")
def pL : List ((Int × Int) × (Int × Int)) := (ptsL (5, 5)).flatMap fun a => (ptsL (5, 5)).map fun b => (a, b)
def nothing : Exn := ⟨"Nothing", []⟩
theorem dist_eq (a b : Int × Int) (g : Bag) : M_distance [pd a, pd b] g = .ok (.int (away a b)) g := rfl
theorem lb : ∀ t ∈ pL, M_line_between [pd t.1, pd t.2] = fun g => if away t.1 t.2 = 1 then .ok (lnD t.1 t.2) g else .exn nothing g := of_map (by kernel_rfl)
theorem sb : ∀ t ∈ pL, M_side_between [pd t.1, pd t.2] = fun g => if away t.1 t.2 = 1 then .ok (.str (sdS t.1 t.2)) g else .exn nothing g := of_map (by kernel_rfl)
theorem sw : ∀ t ∈ pL, M_straight_way [pd t.1, pd t.2] = fun g => .ok (.lst ((strL t.1 t.2).map D.str)) g := of_map (by kernel_rfl)
theorem lsw : ∀ t ∈ pL, M__law_straight [pd t.1, pd t.2] = fun g => .ok (.lst ((strL t.1 t.2).map D.str)) g := of_map (by kernel_rfl)
theorem lline : ∀ t ∈ pL, M__law_line [pd t.1, pd t.2] = fun g => if away t.1 t.2 = 1 then .ok (lnD t.1 t.2) g else M__law_line [pd t.1, pd t.2] g := of_map (by kernel_rfl)
def npL : List ((Int × Int) × (Int × Int)) := shL.flatMap fun q => (ptsL q).map fun p => (q, p)
def nbD (q p : Int × Int) : D := .lst ((sidesL.filter fun s => onB q (stp p s)).map fun s => .tup [.str s, pd (stp p s)])
theorem nb : ∀ t ∈ npL, M_neighbours [pd t.1, pd t.2] = fun g => .ok (nbD t.1 t.2) g := of_map (by kernel_rfl)
theorem pts1 : ∀ q ∈ shL, M_points [pd q] = fun g => .ok (.lst ((ptsL q).map pd)) g := of_map (by kernel_rfl)
theorem pts2 : ∀ q ∈ shL, M__law_points [pd q] = fun g => .ok (.lst ((ptsL q).map pd)) g := of_map (by kernel_rfl)
end Ink.K01

set_option Elab.async false
set_option maxRecDepth 1000000
set_option autoImplicit false
set_option linter.all false
namespace Ink.K01
open PySem PySem.W PyProof.Rows
theorem seq_exn {m m' : Ex Fl} {s s1 : AS} {e : Exn} (h : m s = .exn e s1) : sSeq m m' s = .exn e s1 := by
  unfold sSeq bnd
  rw [h]
theorem seq_rt {m m' : Ex Fl} {s s1 : AS} {d : D} (h : m s = .ok (.rt d) s1) : sSeq m m' s = .ok (.rt d) s1 := by
  unfold sSeq bnd
  rw [h]
theorem mem_rg {n i : Int} (hn : 0 ≤ n) : i ∈ rg n ↔ 0 ≤ i ∧ i ≤ n := by
  unfold rg
  rw [List.mem_map]
  constructor
  · rintro ⟨a, ha, rfl⟩
    rw [List.mem_range] at ha
    show 0 ≤ (a : Int) ∧ (a : Int) ≤ n
    omega
  · rintro ⟨h1, h2⟩
    refine ⟨i.toNat, List.mem_range.mpr (by omega), ?_⟩
    show ((i.toNat : Nat) : Int) = i
    omega
theorem mem_pts {q p : Int × Int} (h1 : 0 ≤ q.1) (h2 : 0 ≤ q.2) : p ∈ ptsL q ↔ onB q p = true := by
  unfold ptsL onB
  simp only [List.mem_flatMap, List.mem_map, mem_rg h1, mem_rg h2, Bool.and_eq_true, decide_eq_true_eq]
  constructor
  · rintro ⟨x, ⟨a, b⟩, y, ⟨c, d⟩, rfl⟩
    exact ⟨⟨⟨a, b⟩, c⟩, d⟩
  · rintro ⟨⟨⟨a, b⟩, c⟩, d⟩
    exact ⟨p.1, ⟨a, b⟩, p.2, ⟨c, d⟩, rfl⟩
theorem sh_pos {q : Int × Int} (h : q ∈ shL) : 1 ≤ q.1 ∧ q.1 ≤ 5 ∧ 1 ≤ q.2 ∧ q.2 ≤ 5 := by
  have : ∀ q ∈ shL, 1 ≤ q.1 ∧ q.1 ≤ 5 ∧ 1 ≤ q.2 ∧ q.2 ≤ 5 := by decide +kernel
  exact this q h
theorem mv {q p : Int × Int} {s : Str} (hq : q ∈ shL) (hp : p ∈ ptsL q) (hs : s ∈ sidesL) : M_moved [pd q, pd p, .str s] = fun g => .ok (mvD q p s) g := by
  refine tm (q, p, s) ?_
  unfold tmL
  exact List.mem_flatMap.mpr ⟨q, hq, List.mem_flatMap.mpr ⟨p, hp, List.mem_map.mpr ⟨s, hs, rfl⟩⟩⟩
/-! ### walks -/
def wkS (q : Int × Int) : Int × Int → List Str → Option (List (Int × Int))
  | _, [] => some []
  | p, s :: ss => if onB q (stp p s) = true then (wkS q (stp p s) ss).map (stp p s :: ·) else none
theorem last_ix (fs : List D) (d : D) : gIx (.lst (fs ++ [d])) (.int (-1)) = some d := L2.atI_last fs d
theorem walk_loop {q : Int × Int} (hq : q ∈ shL) (g : Bag) (x1 x2 : SV) : ∀ (ss : List Str) (p : Int × Int) (fs : List D) (x4 x5 : SV), (∀ s ∈ ss, s ∈ sidesL) → p ∈ ptsL q → fs.length + 1 + ss.length ≤ 1000 →
    match wkS q p ss with
    | some l => ∃ y4 y5, loopM (gSet 4) (sSeq (sSet 5 (fCall M_moved [(fVar 0), (f2 gIx (fSee 3) (f1 gNeg (ret (.int 1)))), (fVar 4)])) (sSeq (sIf (fB (f2 gIs (fSee 5) (ret .non))) (sRaise "Nothing") (ret .nx)) (sMut 3 [(fVar 5)] uApp))) (ss.map D.str) ⟨[.dat (pd q), x1, x2, .own (fs ++ [pd p]), x4, x5], g⟩ = .ok .nx ⟨[.dat (pd q), x1, x2, .own (fs ++ [pd p] ++ l.map pd), y4, y5], g⟩
    | none => ∃ sl, loopM (gSet 4) (sSeq (sSet 5 (fCall M_moved [(fVar 0), (f2 gIx (fSee 3) (f1 gNeg (ret (.int 1)))), (fVar 4)])) (sSeq (sIf (fB (f2 gIs (fSee 5) (ret .non))) (sRaise "Nothing") (ret .nx)) (sMut 3 [(fVar 5)] uApp))) (ss.map D.str) ⟨[.dat (pd q), x1, x2, .own (fs ++ [pd p]), x4, x5], g⟩ = .exn nothing ⟨sl, g⟩
  | [], p, fs, x4, x5, _, _, _ => ⟨x4, x5, by simp [loopM, ret]⟩
  | s :: ss, p, fs, x4, x5, hs, hp, hl => by
    have hm := mv hq hp (hs s List.mem_cons_self)
    have sz : fs.length + 1 < sizeLine := by rw [sizeLine_eq]; simp only [List.length_cons] at hl; omega
    unfold wkS
    by_cases ho : onB q (stp p s) = true
    · rw [if_pos ho]
      have hmv : mvD q p s = pd (stp p s) := if_pos ho
      obtain ⟨h1, h2, h3, h4⟩ := sh_pos hq
      have ih := walk_loop hq g x1 x2 ss (stp p s) (fs ++ [pd p]) (.dat (.str s)) (.dat (pd (stp p s))) (fun s hs' => hs s (List.mem_cons_of_mem _ hs')) ((mem_pts (by omega) (by omega)).mpr ho) (by simp only [List.length_append, List.length_cons, List.length_nil] at hl ⊢; omega)
      have stepE : loopM (gSet 4) (sSeq (sSet 5 (fCall M_moved [(fVar 0), (f2 gIx (fSee 3) (f1 gNeg (ret (.int 1)))), (fVar 4)])) (sSeq (sIf (fB (f2 gIs (fSee 5) (ret .non))) (sRaise "Nothing") (ret .nx)) (sMut 3 [(fVar 5)] uApp))) ((s :: ss).map D.str) ⟨[.dat (pd q), x1, x2, .own (fs ++ [pd p]), x4, x5], g⟩ = loopM (gSet 4) (sSeq (sSet 5 (fCall M_moved [(fVar 0), (f2 gIx (fSee 3) (f1 gNeg (ret (.int 1)))), (fVar 4)])) (sSeq (sIf (fB (f2 gIs (fSee 5) (ret .non))) (sRaise "Nothing") (ret .nx)) (sMut 3 [(fVar 5)] uApp))) (ss.map D.str) ⟨[.dat (pd q), x1, x2, .own (fs ++ [pd p] ++ [pd (stp p s)]), .dat (.str s), .dat (pd (stp p s))], g⟩ := by
        rw [List.map_cons]
        conv => lhs; unfold loopM
        have b1 : (sSeq (sSet 5 (fCall M_moved [(fVar 0), (f2 gIx (fSee 3) (f1 gNeg (ret (.int 1)))), (fVar 4)])) (sSeq (sIf (fB (f2 gIs (fSee 5) (ret .non))) (sRaise "Nothing") (ret .nx)) (sMut 3 [(fVar 5)] uApp))) ⟨[.dat (pd q), x1, x2, .own (fs ++ [pd p]), .dat (.str s), x5], g⟩ = .ok .nx ⟨[.dat (pd q), x1, x2, .own (fs ++ [pd p] ++ [pd (stp p s)]), .dat (.str s), .dat (pd (stp p s))], g⟩ := by
          have hix := last_ix fs (pd p)
          have hn : (pd (stp p s)).isNon = false := rfl
          simp [hn, sSeq, bnd, sSet, fCall, seqM, fVar, f2, fSee, f1, gNeg, ret, opt, hix, lift, hm, hmv, gSet, setSl, sIf, fB, gIs, asB, sMut, uApp, sz]
        have b0 : gSet 4 (D.str s) ⟨[.dat (pd q), x1, x2, .own (fs ++ [pd p]), x4, x5], g⟩ = .ok () ⟨[.dat (pd q), x1, x2, .own (fs ++ [pd p]), .dat (.str s), x5], g⟩ := rfl
        rw [bnd_ok' b0, bnd_ok' b1]
      rw [stepE]
      cases hw : wkS q (stp p s) ss with
      | none => rw [hw] at ih; exact ih
      | some l =>
        rw [hw] at ih
        obtain ⟨y4, y5, e⟩ := ih
        refine ⟨y4, y5, ?_⟩
        rw [e]
        simp
    · rw [if_neg ho]
      have hmv : mvD q p s = .non := if_neg ho
      refine ⟨[.dat (pd q), x1, x2, .own (fs ++ [pd p]), .dat (.str s), .dat .non], ?_⟩
      have hix := last_ix fs (pd p)
      have hn : D.non.isNon = true := rfl
      simp [hn, loopM, sSeq, bnd, sSet, fCall, seqM, fVar, f2, fSee, f1, gNeg, ret, opt, hix, lift, hm, hmv, gSet, setSl, sIf, fB, gIs, asB, sRaise, nothing]
theorem walked_eq {q p : Int × Int} {ss : List Str} (hq : q ∈ shL) (hp : p ∈ ptsL q) (hs : ∀ s ∈ ss, s ∈ sidesL) (hl : ss.length ≤ 900) (g : Bag) : M_walked [pd q, pd p, .lst (ss.map D.str)] g = match wkS q p ss with
    | some l => .ok (.lst ((p :: l).map pd)) g
    | none => .exn nothing g := by
  have h := walk_loop hq g (.dat (pd p)) (.dat (.lst (ss.map D.str))) ss p [] .no .no hs hp (by simp only [List.length_nil]; omega)
  have e0 : sPut 3 (mOwn [(fVar 1)]) (as0 6 [pd q, pd p, .lst (ss.map D.str)] g) = .ok .nx ⟨[.dat (pd q), .dat (pd p), .dat (.lst (ss.map D.str)), .own ([] ++ [pd p]), .no, .no], g⟩ := rfl
  unfold M_walked m_walked runM
  rw [seq_ok e0]
  have e1 : ∀ m m' : Ex Fl, sSeq (sFor (fIt (fVar 2)) (gSet 4) m) m' ⟨[.dat (pd q), .dat (pd p), .dat (.lst (ss.map D.str)), .own ([] ++ [pd p]), .no, .no], g⟩ = sSeq (loopM (gSet 4) m (ss.map D.str)) m' ⟨[.dat (pd q), .dat (pd p), .dat (.lst (ss.map D.str)), .own ([] ++ [pd p]), .no, .no], g⟩ := fun _ _ => rfl
  rw [e1]
  cases hw : wkS q p ss with
  | none =>
    rw [hw] at h
    obtain ⟨sl, e⟩ := h
    rw [seq_exn e]
  | some l =>
    rw [hw] at h
    obtain ⟨y4, y5, e⟩ := h
    rw [seq_ok e]
    rfl
/-! ### lines gone over -/
def lnsW : Int × Int → List (Int × Int) → List D
  | _, [] => []
  | p, r :: l => lnD p r :: lnsW r l
theorem in_p6 {q p : Int × Int} (hq : q ∈ shL) (hp : onB q p = true) : p ∈ ptsL (5, 5) := by
  obtain ⟨h1, h2, h3, h4⟩ := sh_pos hq
  rw [mem_pts (by decide) (by decide)]
  unfold onB at hp ⊢
  simp only [Bool.and_eq_true, decide_eq_true_eq] at hp ⊢
  omega
theorem in_pL {q a b : Int × Int} (hq : q ∈ shL) (ha : onB q a = true) (hb : onB q b = true) : (a, b) ∈ pL := by
  unfold pL
  exact List.mem_flatMap.mpr ⟨a, in_p6 hq ha, List.mem_map.mpr ⟨b, in_p6 hq hb, rfl⟩⟩
theorem stp_away {p : Int × Int} {s : Str} (hs : s ∈ sidesL) : away p (stp p s) = 1 := by
  have h : s = "e" ∨ s = "n" ∨ s = "s" ∨ s = "w" := by simpa [sidesL] using hs
  have hne : ∀ a ∈ sidesL, ∀ b ∈ sidesL, True := fun _ _ _ _ => trivial
  rcases h with rfl | rfl | rfl | rfl
  · show absZ (p.1 - (p.1 + 1)) + absZ (p.2 - p.2) = 1
    unfold absZ; omega
  · show absZ (p.1 - p.1) + absZ (p.2 - (p.2 + 1)) = 1
    unfold absZ; omega
  · show absZ (p.1 - p.1) + absZ (p.2 - (p.2 - 1)) = 1
    unfold absZ; omega
  · show absZ (p.1 - (p.1 - 1)) + absZ (p.2 - p.2) = 1
    unfold absZ; omega
theorem zipW {q : Int × Int} (hq : q ∈ shL) (g : Bag) (x0 x1 x2 x3 : SV) : ∀ (ss : List Str) (p : Int × Int) (l : List (Int × Int)), (∀ s ∈ ss, s ∈ sidesL) → onB q p = true → wkS q p ss = some l →
    compM [4, 5] (gUn 2 (gsCons (gSet 4) (gsCons (gSet 5) gsNil))) (ret true) (fCall M_line_between [(fVar 4), (fVar 5)]) (zipD ((p :: l).map pd) (l.map pd)) ⟨[x0, x1, x2, x3, .no, .no], g⟩ = .ok (lnsW p l) ⟨[x0, x1, x2, x3, .no, .no], g⟩
  | [], p, l, _, _, h => by
    unfold wkS at h
    cases h
    rfl
  | s :: ss, p, l, hs, hp, h => by
    unfold wkS at h
    by_cases ho : onB q (stp p s) = true
    · rw [if_pos ho] at h
      obtain ⟨l', hl', rfl⟩ := Option.map_eq_some_iff.mp h
      have ih := zipW hq g x0 x1 x2 x3 ss (stp p s) l' (fun s hs' => hs s (List.mem_cons_of_mem _ hs')) ho hl'
      have hb := lb (p, stp p s) (in_pL hq hp ho)
      have e1 : oneM [4, 5] (gUn 2 (gsCons (gSet 4) (gsCons (gSet 5) gsNil))) (ret true) (fCall M_line_between [(fVar 4), (fVar 5)]) (.tup [pd p, pd (stp p s)]) ⟨[x0, x1, x2, x3, .no, .no], g⟩ = .ok (some (lnD p (stp p s))) ⟨[x0, x1, x2, x3, .no, .no], g⟩ := by
        have hb' : M_line_between [pd p, pd (stp p s)] = fun g => .ok (lnD p (stp p s)) g := by
          rw [hb]
          funext g
          rw [if_pos (stp_away (hs s List.mem_cons_self))]
        simp [oneM, bnd, gUn, gsCons, gSet, gsNil, ret, setSl, fCall, seqM, fVar, lift, hb', wipeS]
      show bnd (oneM _ _ _ _ (.tup [pd p, pd (stp p s)])) _ _ = _
      rw [bnd_ok' e1]
      have ih' : compM [4, 5] (gUn 2 (gsCons (gSet 4) (gsCons (gSet 5) gsNil))) (ret true) (fCall M_line_between [(fVar 4), (fVar 5)]) (List.zipWith (fun x y => D.tup [x, y]) ((stp p s :: l').map pd) (l'.map pd)) ⟨[x0, x1, x2, x3, .no, .no], g⟩ = .ok (lnsW (stp p s) l') ⟨[x0, x1, x2, x3, .no, .no], g⟩ := ih
      rw [bnd_ok' ih']
      rfl
    · rw [if_neg ho] at h; cases h
theorem on_mem {q p : Int × Int} (hq : q ∈ shL) : p ∈ ptsL q ↔ onB q p = true := by
  obtain ⟨h1, h2, h3, h4⟩ := sh_pos hq
  exact mem_pts (by omega) (by omega)
theorem lines_walked_eq {q p : Int × Int} {ss : List Str} (hq : q ∈ shL) (hp : p ∈ ptsL q) (hs : ∀ s ∈ ss, s ∈ sidesL) (hl : ss.length ≤ 900) (hz : ∀ l, wkS q p ss = some l → l.length ≤ 900) (g : Bag) : M_lines_walked [pd q, pd p, .lst (ss.map D.str)] g = match wkS q p ss with
    | some l => .ok (.lst (lnsW p l)) g
    | none => .exn nothing g := by
  have hw := walked_eq hq hp hs hl g
  unfold M_lines_walked m_lines_walked runM
  cases h : wkS q p ss with
  | none =>
    rw [h] at hw
    have e : sSet 3 (fCall M_walked [(fVar 0), (fVar 1), (fVar 2)]) (as0 6 [pd q, pd p, .lst (ss.map D.str)] g) = .exn nothing (as0 6 [pd q, pd p, .lst (ss.map D.str)] g) := by
      simp [sSet, bnd, fCall, seqM, fVar, as0, ret, lift, hw, List.replicate]
    rw [seq_exn e]
    rfl
  | some l =>
    rw [h] at hw
    have e : sSet 3 (fCall M_walked [(fVar 0), (fVar 1), (fVar 2)]) (as0 6 [pd q, pd p, .lst (ss.map D.str)] g) = .ok .nx ⟨[.dat (pd q), .dat (pd p), .dat (.lst (ss.map D.str)), .dat (.lst ((p :: l).map pd)), .no, .no], g⟩ := by
      simp [sSet, bnd, fCall, seqM, fVar, as0, ret, lift, hw, List.replicate, gSet, setSl]
    rw [seq_ok e]
    have hc := zipW hq g (.dat (pd q)) (.dat (pd p)) (.dat (.lst (ss.map D.str))) (.dat (.lst ((p :: l).map pd))) ss p l hs ((on_mem hq).mp hp) h
    have hcut : gCut ((p :: l).map pd) (some 1) none = l.map pd := by
      show ((l.map pd).take _) = _
      rw [List.take_of_length_le]
      have e1 : HT.sIx ((p :: l).map pd).length 0 (some 1) = min 1 ((p :: l).map pd).length := HT.sIx_nat _ 0 1
      rw [e1, HT.sIx_none]
      simp only [List.length_map, List.length_cons]
      omega
    have hzl : (zipD ((p :: l).map pd) (l.map pd)).length ≤ 16777216 := by
      unfold zipD
      rw [List.length_zipWith, List.length_map, List.length_map]
      have := hz l h
      omega
    have hf : fLc [4, 5] (fZip (fVar 3) (fSl (fSee 3) (fEnd (ret (.int 1))) (ret none))) (gUn 2 (gsCons (gSet 4) (gsCons (gSet 5) gsNil))) (ret true) (fCall M_line_between [(fVar 4), (fVar 5)]) ⟨[.dat (pd q), .dat (pd p), .dat (.lst (ss.map D.str)), .dat (.lst ((p :: l).map pd)), .no, .no], g⟩ = .ok (.lst (lnsW p l)) ⟨[.dat (pd q), .dat (pd p), .dat (.lst (ss.map D.str)), .dat (.lst ((p :: l).map pd)), .no, .no], g⟩ := by
      have hsrc : fZip (fVar 3) (fSl (fSee 3) (fEnd (ret (.int 1))) (ret none)) ⟨[.dat (pd q), .dat (pd p), .dat (.lst (ss.map D.str)), .dat (.lst ((p :: l).map pd)), .no, .no], g⟩ = .ok (zipD ((p :: l).map pd) (l.map pd)) ⟨[.dat (pd q), .dat (pd p), .dat (.lst (ss.map D.str)), .dat (.lst ((p :: l).map pd)), .no, .no], g⟩ := by
        show Res.ok (zipD ((p :: l).map pd) (gCut ((p :: l).map pd) (some 1) none)) _ = _
        rw [hcut]
      unfold fLc
      rw [bnd_ok' hsrc, if_pos ⟨hzl, rfl⟩]
      have hw' : wipeS [4, 5] ⟨[.dat (pd q), .dat (pd p), .dat (.lst (ss.map D.str)), .dat (.lst ((p :: l).map pd)), .no, .no], g⟩ = ⟨[.dat (pd q), .dat (pd p), .dat (.lst (ss.map D.str)), .dat (.lst ((p :: l).map pd)), .no, .no], g⟩ := rfl
      rw [hw', hc]
      rfl
    unfold sRet
    rw [bnd_ok' hf]
theorem on_eq (q p : Int × Int) (g : Bag) : M__law_on [pd q, pd p] g = .ok (.bl (onB q p)) g := by
  obtain ⟨a, b⟩ := q
  obtain ⟨x, y⟩ := p
  unfold M__law_on m__law_on runM onB
  by_cases h1 : 0 ≤ x <;> by_cases h2 : x ≤ a <;> by_cases h3 : 0 ≤ y <;> by_cases h4 : y ≤ b <;>
    simp [sRet, fAndV, fChain, bnd, ret, f2, fSee, as0, opt, gIx, L2.atI, L2.ixN, gB, asB, h1, h2, h3, h4, List.replicate]
theorem beside_eq {p : Int × Int} {s : Str} (hs : s ∈ sidesL) (g : Bag) : M__law_beside [pd p, .str s] g = .ok (pd (stp p s)) g := by
  have h : s = "e" ∨ s = "n" ∨ s = "s" ∨ s = "w" := by simpa [sidesL] using hs
  rcases h with rfl | rfl | rfl | rfl
  · show Res.ok (pt (p.1 + 1) (p.2 + 0)) g = .ok (pt (p.1 + 1) p.2) g
    rw [Int.add_zero]
  · show Res.ok (pt (p.1 + 0) (p.2 + 1)) g = .ok (pt p.1 (p.2 + 1)) g
    rw [Int.add_zero]
  · show Res.ok (pt (p.1 + 0) (p.2 + -1)) g = .ok (pt p.1 (p.2 - 1)) g
    rw [Int.add_zero]; rfl
  · show Res.ok (pt (p.1 + -1) (p.2 + 0)) g = .ok (pt (p.1 - 1) p.2) g
    rw [Int.add_zero]; rfl
end Ink.K01

set_option Elab.async false
set_option maxRecDepth 1000000
set_option autoImplicit false
set_option linter.all false
namespace Ink.K01
open PySem PySem.W PyProof.Rows
abbrev td (t : Int × Int × Int) : D := .tup [.int t.1, .int t.2.1, .int t.2.2]
def lnB (q : Int × Int) : List (Int × Int × Int) := (ptsL q).flatMap fun p => (if p.1 < q.1 then [(p.1, p.2, 0)] else []) ++ (if p.2 < q.2 then [(p.1, p.2, 1)] else [])
def lnA (q : Int × Int) : List (Int × Int × Int) := ((ptsL q).filter fun p => decide (p.1 < q.1)).map (fun p => (p.1, p.2, 0)) ++ ((ptsL q).filter fun p => decide (p.2 < q.2)).map (fun p => (p.1, p.2, 1))
def srt (l : List D) : Res Bag D → Bag → Res Bag D := fun _ g => match sortD l with
  | some zs => .ok (.lst zs) g
  | none => .bad
theorem ln1 : ∀ q ∈ shL, M_lines_of [pd q] = fun g => .ok (.lst (((lnA q).map td).mergeSort (dataLe false D.enc))) g := of_map (by kernel_rfl)
theorem ln2 : ∀ q ∈ shL, M__law_lines_of [pd q] = fun g => .ok (.lst (((lnB q).map td).mergeSort (dataLe false D.enc))) g := of_map (by kernel_rfl)
theorem ln_srt : ∀ q ∈ shL, ((lnB q).map td).Pairwise fun a b => le1 a b = true ∧ le1 b a = false := by decide +kernel
theorem ln_perm : ∀ q ∈ shL, (lnA q).Perm (lnB q) := by
  have : ∀ q ∈ shL, (lnA q).isPerm (lnB q) = true := by decide +kernel
  exact fun q h => List.isPerm_iff.mp (this q h)
theorem lines1 {q : Int × Int} (h : q ∈ shL) (g : Bag) : M_lines_of [pd q] g = .ok (.lst ((lnB q).map td)) g := by
  rw [ln1 q h, sort_eq ((ln_perm q h).map td) (ln_srt q h)]
theorem lines2 {q : Int × Int} (h : q ∈ shL) (g : Bag) : M__law_lines_of [pd q] g = .ok (.lst ((lnB q).map td)) g := by
  rw [ln2 q h, sort_eq (List.Perm.refl _) (ln_srt q h)]
theorem ends1 (t : Int × Int × Int) (h : t.2.2 = 0 ∨ t.2.2 = 1) (g : Bag) : M_ends_of [td t] g = .ok (.tup [pt t.1 t.2.1, pt (t.1 + 1 - t.2.2) (t.2.1 + t.2.2)]) g := by
  obtain ⟨x, y, k⟩ := t
  rcases h with h | h
  · dsimp only at h
    subst h
    have e1 : x + 1 - 0 = x + 1 := by omega
    have e2 : y + 0 = y := by omega
    rw [e1, e2]; rfl
  · dsimp only at h
    subst h
    have e1 : x + 1 - 1 = x := by omega
    rw [e1]; rfl
theorem ends2 (t : Int × Int × Int) (g : Bag) : M__law_ends [td t] g = .ok (.tup [pt t.1 t.2.1, pt (t.1 + 1 - t.2.2) (t.2.1 + t.2.2)]) g := rfl
end Ink.K01

set_option Elab.async false
set_option maxRecDepth 1000000
set_option autoImplicit false
set_option linter.all false
namespace Ink.K01
open PySem PySem.W PyProof.Rows
abbrev tk (s : Str) : D := .tup [.str s, .bl true]
def lwB : Ex Fl := (sSeq (sSet 7 (fCall M__law_beside [(f2 gIx (fSee 3) (f1 gNeg (ret (.int 1)))), (fVar 5)]))
  (sSeq (sIf (fNot (fB (fCall M__law_on [(fVar 0), (fVar 7)]))) (sRet (ret .non)) (ret .nx))
  (sSeq (sMut 4 [(fCall M__law_line [(f2 gIx (fSee 3) (f1 gNeg (ret (.int 1)))), (fVar 7)])] uApp)
  (sMut 3 [(fVar 7)] uApp))))
def lwG : D → Ex Unit := gUn 2 (gsCons (gSet 5) (gsCons (gSet 6) gsNil))
theorem lwalk_loop {q : Int × Int} (hq : q ∈ shL) (g : Bag) (x1 x2 : SV) : ∀ (ss : List Str) (p : Int × Int) (fs ls : List D) (x5 x6 x7 : SV), (∀ s ∈ ss, s ∈ sidesL) → onB q p = true → fs.length + 1 + ss.length ≤ 1000 → ls.length + ss.length ≤ 1000 →
    match wkS q p ss with
    | some l => ∃ y5 y6 y7, loopM lwG lwB (ss.map tk) ⟨[.dat (pd q), x1, x2, .own (fs ++ [pd p]), .own ls, x5, x6, x7], g⟩ = .ok .nx ⟨[.dat (pd q), x1, x2, .own (fs ++ [pd p] ++ l.map pd), .own (ls ++ lnsW p l), y5, y6, y7], g⟩
    | none => ∃ sl, loopM lwG lwB (ss.map tk) ⟨[.dat (pd q), x1, x2, .own (fs ++ [pd p]), .own ls, x5, x6, x7], g⟩ = .ok (.rt .non) ⟨sl, g⟩
  | [], p, fs, ls, x5, x6, x7, _, _, _, _ => ⟨x5, x6, x7, by simp [loopM, ret, lnsW]⟩
  | s :: ss, p, fs, ls, x5, x6, x7, hs, hp, hl, hl2 => by
    have hbe := fun g => beside_eq (p := p) (hs s List.mem_cons_self) g
    have hon := fun g => on_eq q (stp p s) g
    have hix := last_ix fs (pd p)
    have sz : fs.length + 1 < sizeLine := by rw [sizeLine_eq]; simp only [List.length_cons] at hl; omega
    have sz2 : ls.length < sizeLine := by rw [sizeLine_eq]; simp only [List.length_cons] at hl2; omega
    have b0 : lwG (tk s) ⟨[.dat (pd q), x1, x2, .own (fs ++ [pd p]), .own ls, x5, x6, x7], g⟩ = .ok () ⟨[.dat (pd q), x1, x2, .own (fs ++ [pd p]), .own ls, .dat (.str s), .dat (.bl true), x7], g⟩ := rfl
    have c1 : sSet 7 (fCall M__law_beside [(f2 gIx (fSee 3) (f1 gNeg (ret (.int 1)))), (fVar 5)]) ⟨[.dat (pd q), x1, x2, .own (fs ++ [pd p]), .own ls, .dat (.str s), .dat (.bl true), x7], g⟩ = .ok .nx ⟨[.dat (pd q), x1, x2, .own (fs ++ [pd p]), .own ls, .dat (.str s), .dat (.bl true), .dat (pd (stp p s))], g⟩ := by
      simp [bnd, sSet, fCall, seqM, fVar, f2, fSee, f1, gNeg, ret, opt, hix, lift, hbe, gSet, setSl]
    unfold wkS
    by_cases ho : onB q (stp p s) = true
    · rw [if_pos ho]
      have hll : ∀ g, M__law_line [pd p, pd (stp p s)] g = .ok (lnD p (stp p s)) g := fun g => by
        have := lline (p, stp p s) (in_pL hq hp ho)
        have h1 := congrFun this g
        dsimp only at h1
        rw [if_pos (stp_away (hs s List.mem_cons_self))] at h1
        exact h1
      have ih := lwalk_loop hq g x1 x2 ss (stp p s) (fs ++ [pd p]) (ls ++ [lnD p (stp p s)]) (.dat (.str s)) (.dat (.bl true)) (.dat (pd (stp p s))) (fun s hs' => hs s (List.mem_cons_of_mem _ hs')) ho (by simp only [List.length_append, List.length_cons, List.length_nil] at hl ⊢; omega) (by simp only [List.length_append, List.length_cons, List.length_nil] at hl2 ⊢; omega)
      have c2 : lwB ⟨[.dat (pd q), x1, x2, .own (fs ++ [pd p]), .own ls, .dat (.str s), .dat (.bl true), x7], g⟩ = .ok .nx ⟨[.dat (pd q), x1, x2, .own (fs ++ [pd p] ++ [pd (stp p s)]), .own (ls ++ [lnD p (stp p s)]), .dat (.str s), .dat (.bl true), .dat (pd (stp p s))], g⟩ := by
        unfold lwB
        rw [seq_ok c1]
        simp [bnd, sSeq, sIf, fNot, fB, fCall, seqM, fVar, f2, fSee, f1, gNeg, ret, opt, hix, lift, hon, ho, asB, gSet, setSl, sMut, uApp, sz, sz2, hll]
      have stepE : loopM lwG lwB ((s :: ss).map tk) ⟨[.dat (pd q), x1, x2, .own (fs ++ [pd p]), .own ls, x5, x6, x7], g⟩ = loopM lwG lwB (ss.map tk) ⟨[.dat (pd q), x1, x2, .own (fs ++ [pd p] ++ [pd (stp p s)]), .own (ls ++ [lnD p (stp p s)]), .dat (.str s), .dat (.bl true), .dat (pd (stp p s))], g⟩ := by
        rw [List.map_cons]
        conv => lhs; unfold loopM
        rw [bnd_ok' b0, bnd_ok' c2]
      rw [stepE]
      cases hw : wkS q (stp p s) ss with
      | none => rw [hw] at ih; exact ih
      | some l =>
        rw [hw] at ih
        obtain ⟨y5, y6, y7, e⟩ := ih
        refine ⟨y5, y6, y7, ?_⟩
        rw [e]
        simp [lnsW]
    · rw [if_neg ho]
      refine ⟨[.dat (pd q), x1, x2, .own (fs ++ [pd p]), .own ls, .dat (.str s), .dat (.bl true), .dat (pd (stp p s))], ?_⟩
      have ho' : onB q (stp p s) = false := by simpa using ho
      have c2 : lwB ⟨[.dat (pd q), x1, x2, .own (fs ++ [pd p]), .own ls, .dat (.str s), .dat (.bl true), x7], g⟩ = .ok (.rt .non) ⟨[.dat (pd q), x1, x2, .own (fs ++ [pd p]), .own ls, .dat (.str s), .dat (.bl true), .dat (pd (stp p s))], g⟩ := by
        unfold lwB
        rw [seq_ok c1]
        simp [bnd, sSeq, sIf, fNot, fB, fCall, seqM, fVar, ret, opt, lift, hon, ho', asB, sRet]
      rw [List.map_cons]
      unfold loopM
      rw [bnd_ok' b0, bnd_ok' c2]
theorem law_walk_eq {q p : Int × Int} {ss : List Str} (hq : q ∈ shL) (hp : p ∈ ptsL q) (hs : ∀ s ∈ ss, s ∈ sidesL) (hl : ss.length ≤ 900) (g : Bag) : M__law_walk [pd q, pd p, .lst (ss.map tk)] g = match wkS q p ss with
    | some l => .ok (.tup [.lst ((p :: l).map pd), .lst (lnsW p l)]) g
    | none => .ok .non g := by
  have h := lwalk_loop hq g (.dat (pd p)) (.dat (.lst (ss.map tk))) ss p [] [] .no .no .no hs ((on_mem hq).mp hp) (by simp only [List.length_nil]; omega) (by simp only [List.length_nil]; omega)
  have e0 : sPar 3 4 (mOwn [(fVar 1)]) (mOwn []) (as0 8 [pd q, pd p, .lst (ss.map tk)] g) = .ok .nx ⟨[.dat (pd q), .dat (pd p), .dat (.lst (ss.map tk)), .own ([] ++ [pd p]), .own [], .no, .no, .no], g⟩ := rfl
  unfold M__law_walk m__law_walk runM
  rw [seq_ok e0]
  have e1 : ∀ m' : Ex Fl, sSeq (sFor (fIt (fVar 2)) lwG lwB) m' ⟨[.dat (pd q), .dat (pd p), .dat (.lst (ss.map tk)), .own ([] ++ [pd p]), .own [], .no, .no, .no], g⟩ = sSeq (loopM lwG lwB (ss.map tk)) m' ⟨[.dat (pd q), .dat (pd p), .dat (.lst (ss.map tk)), .own ([] ++ [pd p]), .own [], .no, .no, .no], g⟩ := fun _ => rfl
  have e2 := e1 (sRet (fTup [(fVar 3), (fVar 4)]))
  unfold lwG lwB at e2
  rw [e2]
  unfold lwG lwB at h
  cases hw : wkS q p ss with
  | none =>
    rw [hw] at h
    obtain ⟨sl, e⟩ := h
    rw [seq_rt e]
  | some l =>
    rw [hw] at h
    obtain ⟨y4, y5, y6, e⟩ := h
    rw [seq_ok e]
    rfl
end Ink.K01

set_option Elab.async false
set_option maxRecDepth 1000000
set_option autoImplicit false
set_option linter.all false
namespace Ink.K01
open PySem PySem.W PyProof.Rows

def lst_0 : Ex Fl := (sSet 3 (fTup [(fAdd (ret (.int 1)) (fCall M__law_take [(fVar 1), (ret (.int 5))])), (fAdd (ret (.int 1)) (fCall M__law_take [(fVar 1), (ret (.int 5))]))]))
def lst_1 : Ex Fl := (sPar 4 5 (mDat (fCall M__law_points [(fVar 3)])) (mDat (fCall M__law_lines_of [(fVar 3)])))
def lst_2 : Ex Fl := (sIf (fNot (fB (fCall M__law_alike [(fLst [(fCall M_points [(fVar 3)]), (fCall M_lines_of [(fVar 3)]), (fLc [6] (fIt (fVar 5)) (gSet 6) (ret true) (fCall M_ends_of [(fVar 6)]))]), (fLst [(fVar 4), (fVar 5), (fLc [6] (fIt (fVar 5)) (gSet 6) (ret true) (fCall M__law_ends [(fVar 6)]))])]))) (sRet (ret (.bl false))) (ret .nx))
def lst_3 : Ex Fl := (sAsg (gUn 3 (gsCons (gSet 7) (gsCons (gSet 8) (gsCons (gSet 6) gsNil)))) (fTup [(fCall M__law_some [(fVar 1), (fVar 4)]), (fCall M__law_some [(fVar 1), (fVar 4)]), (fCall M__law_some [(fVar 1), (fVar 5)])]))
def lst_4 : Ex Fl := (sSet 9 (fAdd (bnd (f2 (gI (· - ·)) (f2 gIx (fSee 7) (ret (.int 0))) (f2 gIx (fSee 8) (ret (.int 0)))) fun d => opt (gAbs d)) (bnd (f2 (gI (· - ·)) (f2 gIx (fSee 7) (ret (.int 1))) (f2 gIx (fSee 8) (ret (.int 1)))) fun d => opt (gAbs d))))
def lst_5 : Ex Fl := (sSet 10 (fCall M__law_mixed [(fVar 1), (bnd (fCall M__law_ends [(fVar 6)]) fun d => opt (gLst d))]))
def lst_6 : Ex Fl := (sSet 11 (f2 gIx (fLc [11] (fIt (ret (.str "ensw"))) (gSet 11) (fB (f2 gEq (fCall M__law_beside [(f2 gIx (fSee 10) (ret (.int 0))), (fVar 11)]) (f2 gIx (fSee 10) (ret (.int 1))))) (fVar 11)) (ret (.int 0))))
def lst_7 : Ex Fl := (sIf (fNot (fB (fCall M__law_alike [(fLst [(fCall M_distance [(fVar 7), (fVar 8)]), (fCall M_line_between [(f2 gIx (fSee 10) (ret (.int 0))), (f2 gIx (fSee 10) (ret (.int 1)))]), (fCall M_side_between [(f2 gIx (fSee 10) (ret (.int 0))), (f2 gIx (fSee 10) (ret (.int 1)))]), (fCall M_straight_way [(fVar 7), (fVar 8)])]), (fLst [(fVar 9), (fVar 6), (fVar 11), (fCall M__law_straight [(fVar 7), (fVar 8)])])]))) (sRet (ret (.bl false))) (ret .nx))
def lst_8 : Ex Fl := (sPut 12 (mOwn [(fHeard "told" "nothing" "Nothing" (fCall M_line_between [(fVar 7), (fVar 8)]))]))
def lst_9 : Ex Fl := (sMut 12 [(fHeard "told" "nothing" "Nothing" (fCall M_side_between [(fVar 7), (fVar 8)]))] uApp)
def lst_10 : Ex Fl := (sIf (fAnd (fB (f2 gNe (fSee 9) (ret (.int 1)))) (fB (f2 gNe (fSee 12) (fMul (fLst [(fTup [(ret (.str "nothing"))])]) (ret (.int 2)))))) (sRet (ret (.bl false))) (ret .nx))
def lst_11 : Ex Fl := (sSet 13 (fLc [11] (fIt (ret (.str "ensw"))) (gSet 11) (ret true) (fTup [(fVar 11), (fCall M__law_beside [(fVar 7), (fVar 11)])])))
def lst_12 : Ex Fl := (sSet 14 (fLst [(fLc [11] (fIt (ret (.str "ensw"))) (gSet 11) (ret true) (fCall M_moved [(fVar 3), (fVar 7), (fVar 11)])), (fLc [11] (fIt (ret (.str "ensw"))) (gSet 11) (ret true) (fCall M_is_at_rim [(fVar 3), (fVar 7), (fVar 11)])), (fCall M_neighbours [(fVar 3), (fVar 7)])]))
def lst_13 : Ex Fl := (sSet 15 (fLst [(fLc [11, 16] (fIt (fVar 13)) (gUn 2 (gsCons (gSet 11) (gsCons (gSet 16) gsNil))) (ret true) (fIf (fB (fCall M__law_on [(fVar 3), (fVar 16)])) (fVar 16) (ret .non))), (fLc [11, 16] (fIt (fVar 13)) (gUn 2 (gsCons (gSet 11) (gsCons (gSet 16) gsNil))) (ret true) (fNotV (fCall M__law_on [(fVar 3), (fVar 16)])))]))
def lst_14 : Ex Fl := (sIf (fNot (fB (fCall M__law_alike [(fVar 14), (fAdd (fSee 15) (fLst [(fLc [11, 16] (fIt (fVar 13)) (gUn 2 (gsCons (gSet 11) (gsCons (gSet 16) gsNil))) (fB (fCall M__law_on [(fVar 3), (fVar 16)])) (fTup [(fVar 11), (fVar 16)]))]))]))) (sRet (ret (.bl false))) (ret .nx))
def lst_15 : Ex Fl := (sSet 17 (fLc [18] (fRng1 (fCall M__law_take [(fVar 1), (ret (.int 8))])) (gSet 18) (ret true) (fCall M__law_some [(fVar 1), (fLst [(ret (.str "e")), (ret (.str "n")), (ret (.str "s")), (ret (.str "w"))])])))
def lst_16 : Ex Fl := (sSet 19 (fCall M__law_walk [(fVar 3), (fVar 7), (fLc [11] (fIt (fVar 17)) (gSet 11) (ret true) (fTup [(fVar 11), (ret (.bl true))]))]))
def lst_17 : Ex Fl := (sPut 12 (mOwn [(fHeard "told" "nothing" "Nothing" (fCall M_walked [(fVar 3), (fVar 7), (fVar 17)]))]))
def lst_18 : Ex Fl := (sMut 12 [(fHeard "told" "nothing" "Nothing" (fCall M_lines_walked [(fVar 3), (fVar 7), (fVar 17)]))] uApp)
def lst_19 : Ex Fl := (sIf (fNot (fB (fCall M__law_alike [(fVar 12), (fIf (fB (f2 gIsN (fSee 19) (ret .non))) (fLc [20] (fIt (fVar 19)) (gSet 20) (ret true) (fTup [(ret (.str "told")), (fVar 20)])) (fMul (fLst [(fTup [(ret (.str "nothing"))])]) (ret (.int 2))))]))) (sRet (ret (.bl false))) (ret .nx))
def lst_20 : Ex Fl := (sSet 21 (fCall M__law_walk [(fVar 3), (fVar 7), (fLc [11] (fIt (fCall M__law_straight [(fVar 7), (fVar 8)])) (gSet 11) (ret true) (fTup [(fVar 11), (ret (.bl true))]))]))
def lst_21 : Ex Fl := (sIf (fOr (fB (f2 gNe (fCall M_walked [(fVar 3), (fVar 7), (fCall M_straight_way [(fVar 7), (fVar 8)])]) (f2 gIx (fSee 21) (ret (.int 0))))) (fOr (fB (f2 gNe (f2 gIx (f2 gIx (fSee 21) (ret (.int 0))) (f1 gNeg (ret (.int 1)))) (fSee 8))) (fB (f2 gNe (bnd (f2 gIx (fSee 21) (ret (.int 1))) fun d => opt (gLen d)) (fSee 9))))) (sRet (ret (.bl false))) (ret .nx))
def lst_22 : Ex Fl := (sAsg (gUn 2 (gsCons (gSet 22) (gsCons (gSet 23) gsNil))) (fTup [(fCall M__law_some [(fVar 1), (fLst [(fTup [(fAdd (f2 gIx (fSee 3) (ret (.int 0))) (ret (.int 1))), (ret (.int 0))]), (fTup [(ret (.int 0)), (fAdd (f2 gIx (fSee 3) (ret (.int 1))) (ret (.int 1)))]), (fTup [(f1 gNeg (ret (.int 1))), (ret (.int 0))]), (ret .non), (fTup [(ret (.int 0))]), (fLst [(ret (.int 0)), (ret (.int 0))]), (fTup [(ret (.bl true)), (ret (.int 0))])])]), (fCall M__law_some [(fVar 1), (fLst [(ret (.str "x")), (ret (.str "")), (ret (.str "E")), (ret (.str "ne"))])])]))
def lst_23 : Ex Fl := (sPut 12 (mOwn [(fHeard "told" "nothing" "Nothing" (fCall M_moved [(fVar 3), (fVar 22), (ret (.str "e"))]))]))
def lst_24 : Ex Fl := (sMut 12 [(fHeard "told" "nothing" "Nothing" (fCall M_moved [(fVar 3), (fVar 7), (fVar 23)]))] uApp)
def lst_25 : Ex Fl := (sMut 12 [(fHeard "told" "nothing" "Nothing" (fCall M_is_at_rim [(fVar 3), (fVar 22), (ret (.str "n"))]))] uApp)
def lst_26 : Ex Fl := (sIf (fB (f2 gNe (fSee 12) (fMul (fLst [(fTup [(ret (.str "nothing"))])]) (ret (.int 3))))) (sRet (ret (.bl false))) (ret .nx))
def lapB : Ex Fl := (sSeq lst_0 (sSeq lst_1 (sSeq lst_2 (sSeq lst_3 (sSeq lst_4 (sSeq lst_5 (sSeq lst_6 (sSeq lst_7 (sSeq lst_8 (sSeq lst_9 (sSeq lst_10 (sSeq lst_11 (sSeq lst_12 (sSeq lst_13 (sSeq lst_14 (sSeq lst_15 (sSeq lst_16 (sSeq lst_17 (sSeq lst_18 (sSeq lst_19 (sSeq lst_20 (sSeq lst_21 (sSeq lst_22 (sSeq lst_23 (sSeq lst_24 (sSeq lst_25 lst_26))))))))))))))))))))))))))
theorem law_is : m_law = sSeq (sFor (fRng1 (ret (.int 6))) (gSet 2) lapB) (sRet (ret (.bl true))) := rfl
end Ink.K01

set_option Elab.async false
set_option maxRecDepth 1000000
set_option autoImplicit false
set_option linter.all false
namespace Ink.K01
open PySem PySem.W PyProof.Rows

theorem mem_sh {x y : Int} (h1 : 1 ≤ x) (h2 : x ≤ 5) (h3 : 1 ≤ y) (h4 : y ≤ 5) : (x, y) ∈ shL := by
  have m : ∀ z : Int, 1 ≤ z → z ≤ 5 → z ∈ one5 := fun z a b => by
    have : z = 1 ∨ z = 2 ∨ z = 3 ∨ z = 4 ∨ z = 5 := by omega
    rcases this with rfl | rfl | rfl | rfl | rfl <;> decide
  unfold shL
  exact List.mem_flatMap.mpr ⟨x, m x h1 h2, List.mem_map.mpr ⟨y, m y h3 h4, rfl⟩⟩
theorem pts_len : ∀ q ∈ shL, (ptsL q).length ≤ 36 ∧ ptsL q ≠ [] := by decide +kernel
theorem lnB_len : ∀ q ∈ shL, (lnB q).length ≤ 60 ∧ lnB q ≠ [] := by decide +kernel
theorem lnB_mem : ∀ q ∈ shL, ∀ t ∈ lnB q, (t.2.2 = 0 ∨ t.2.2 = 1) ∧ onB q (t.1, t.2.1) = true ∧ onB q (t.1 + 1 - t.2.2, t.2.1 + t.2.2) = true := by decide +kernel
theorem l0 (a0 a2 a3 a4 a5 a6 a7 a8 a9 a10 a11 a12 a13 a14 a15 a16 a17 a18 a19 a20 a21 a22 a23 : SV) (g : Bag) (hg : Good g) : ∃ q g', q ∈ shL ∧ Good g' ∧ lst_0 ⟨[a0, .dat .bag, a2, a3, a4, a5, a6, a7, a8, a9, a10, a11, a12, a13, a14, a15, a16, a17, a18, a19, a20, a21, a22, a23], g⟩ = .ok .nx ⟨[a0, .dat .bag, a2, .dat (pd q), a4, a5, a6, a7, a8, a9, a10, a11, a12, a13, a14, a15, a16, a17, a18, a19, a20, a21, a22, a23], g'⟩ := by
  obtain ⟨v1, g1, e1, p1, q1, h1⟩ := take_ok g 5 hg (by omega) (by omega)
  obtain ⟨v2, g2, e2, p2, q2, h2⟩ := take_ok g1 5 h1 (by omega) (by omega)
  refine ⟨(1 + v1, 1 + v2), g2, mem_sh (by omega) (by omega) (by omega) (by omega), h2, ?_⟩
  simp [lst_0, sSet, sAsg, sPar, mDat, fTup, fLst, seqM, fAdd, bnd, ret, fCall, fVar, fSee, lift, addD, gSet, setSl, f2, opt, gUn, gsCons, gsNil, e1, e2]
theorem l1 (a0 a2 a3 a4 a5 a6 a7 a8 a9 a10 a11 a12 a13 a14 a15 a16 a17 a18 a19 a20 a21 a22 a23 : SV) {q : Int × Int} (hq : q ∈ shL) (g : Bag) : lst_1 ⟨[a0, .dat .bag, a2, .dat (pd q), a4, a5, a6, a7, a8, a9, a10, a11, a12, a13, a14, a15, a16, a17, a18, a19, a20, a21, a22, a23], g⟩ = .ok .nx ⟨[a0, .dat .bag, a2, .dat (pd q), .dat (.lst ((ptsL q).map pd)), .dat (.lst ((lnB q).map td)), a6, a7, a8, a9, a10, a11, a12, a13, a14, a15, a16, a17, a18, a19, a20, a21, a22, a23], g⟩ := by
  have h1 := congrFun (pts2 q hq) g
  have h2 := lines2 hq g
  simp [lst_1, sSet, sAsg, sPar, mDat, fTup, fLst, seqM, fAdd, bnd, ret, fCall, fVar, fSee, lift, addD, gSet, setSl, f2, opt, gUn, gsCons, gsNil, h1, h2]
theorem l3 (a0 a2 a3 a4 a5 a6 a7 a8 a9 a10 a11 a12 a13 a14 a15 a16 a17 a18 a19 a20 a21 a22 a23 : SV) {q : Int × Int} (hq : q ∈ shL) (g : Bag) (hg : Good g) : ∃ a b t g', a ∈ ptsL q ∧ b ∈ ptsL q ∧ t ∈ lnB q ∧ Good g' ∧ lst_3 ⟨[a0, .dat .bag, a2, .dat (pd q), .dat (.lst ((ptsL q).map pd)), .dat (.lst ((lnB q).map td)), a6, a7, a8, a9, a10, a11, a12, a13, a14, a15, a16, a17, a18, a19, a20, a21, a22, a23], g⟩ = .ok .nx ⟨[a0, .dat .bag, a2, .dat (pd q), .dat (.lst ((ptsL q).map pd)), .dat (.lst ((lnB q).map td)), .dat (td t), .dat (pd a), .dat (pd b), a9, a10, a11, a12, a13, a14, a15, a16, a17, a18, a19, a20, a21, a22, a23], g'⟩ := by
  obtain ⟨n1, n2⟩ := pts_len q hq
  obtain ⟨n3, n4⟩ := lnB_len q hq
  obtain ⟨d1, g1, e1, p1, h1⟩ := some_ok (xs := (ptsL q).map pd) hg (by simpa using n2) (by rw [List.length_map]; omega)
  obtain ⟨d2, g2, e2, p2, h2⟩ := some_ok (xs := (ptsL q).map pd) h1 (by simpa using n2) (by rw [List.length_map]; omega)
  obtain ⟨d3, g3, e3, p3, h3⟩ := some_ok (xs := (lnB q).map td) h2 (by simpa using n4) (by rw [List.length_map]; omega)
  obtain ⟨a, ha, rfl⟩ := List.mem_map.mp p1
  obtain ⟨b, hb, rfl⟩ := List.mem_map.mp p2
  obtain ⟨t, ht, rfl⟩ := List.mem_map.mp p3
  refine ⟨a, b, t, g3, ha, hb, ht, h3, ?_⟩
  simp [lst_3, sSet, sAsg, sPar, mDat, fTup, fLst, seqM, fAdd, bnd, ret, fCall, fVar, fSee, lift, addD, gSet, setSl, f2, opt, gUn, gsCons, gsNil, e1, e2, e3]
theorem l4 (a0 a2 a3 a4 a5 a6 a7 a8 a9 a10 a11 a12 a13 a14 a15 a16 a17 a18 a19 a20 a21 a22 a23 : SV) {q a b : Int × Int} {t : Int × Int × Int} (g : Bag) : lst_4 ⟨[a0, .dat .bag, a2, .dat (pd q), .dat (.lst ((ptsL q).map pd)), .dat (.lst ((lnB q).map td)), .dat (td t), .dat (pd a), .dat (pd b), a9, a10, a11, a12, a13, a14, a15, a16, a17, a18, a19, a20, a21, a22, a23], g⟩ = .ok .nx ⟨[a0, .dat .bag, a2, .dat (pd q), .dat (.lst ((ptsL q).map pd)), .dat (.lst ((lnB q).map td)), .dat (td t), .dat (pd a), .dat (pd b), .dat (.int (away a b)), a10, a11, a12, a13, a14, a15, a16, a17, a18, a19, a20, a21, a22, a23], g⟩ := rfl
theorem l5 (a0 a2 a3 a4 a5 a6 a7 a8 a9 a10 a11 a12 a13 a14 a15 a16 a17 a18 a19 a20 a21 a22 a23 : SV) {q a b : Int × Int} {t : Int × Int × Int} (g : Bag) (hg : Good g) : ∃ u v g', ((u = (t.1, t.2.1) ∧ v = (t.1 + 1 - t.2.2, t.2.1 + t.2.2)) ∨ (v = (t.1, t.2.1) ∧ u = (t.1 + 1 - t.2.2, t.2.1 + t.2.2))) ∧ Good g' ∧ lst_5 ⟨[a0, .dat .bag, a2, .dat (pd q), .dat (.lst ((ptsL q).map pd)), .dat (.lst ((lnB q).map td)), .dat (td t), .dat (pd a), .dat (pd b), .dat (.int (away a b)), a10, a11, a12, a13, a14, a15, a16, a17, a18, a19, a20, a21, a22, a23], g⟩ = .ok .nx ⟨[a0, .dat .bag, a2, .dat (pd q), .dat (.lst ((ptsL q).map pd)), .dat (.lst ((lnB q).map td)), .dat (td t), .dat (pd a), .dat (pd b), .dat (.int (away a b)), .dat (.lst [pd u, pd v]), a11, a12, a13, a14, a15, a16, a17, a18, a19, a20, a21, a22, a23], g'⟩ := by
  obtain ⟨xs, g1, e1, c, h1⟩ := mixed_ok hg (pt t.1 t.2.1) (pt (t.1 + 1 - t.2.2) (t.2.1 + t.2.2))
  have h2 := fun g => ends2 t g
  rcases c with rfl | rfl
  · refine ⟨(t.1, t.2.1), (t.1 + 1 - t.2.2, t.2.1 + t.2.2), g1, .inl ⟨rfl, rfl⟩, h1, ?_⟩
    simp [lst_5, sSet, sAsg, sPar, mDat, fTup, fLst, seqM, fAdd, bnd, ret, fCall, fVar, fSee, lift, addD, gSet, setSl, f2, opt, gUn, gsCons, gsNil, h2, gLst, e1]
  · refine ⟨(t.1 + 1 - t.2.2, t.2.1 + t.2.2), (t.1, t.2.1), g1, .inr ⟨rfl, rfl⟩, h1, ?_⟩
    simp [lst_5, sSet, sAsg, sPar, mDat, fTup, fLst, seqM, fAdd, bnd, ret, fCall, fVar, fSee, lift, addD, gSet, setSl, f2, opt, gUn, gsCons, gsNil, h2, gLst, e1]
end Ink.K01

set_option Elab.async false
set_option maxRecDepth 1000000
set_option autoImplicit false
set_option linter.all false
namespace Ink.K01
open PySem PySem.W PyProof.Rows
theorem comp_map {α : Type} {vs : List Nat} {g : D → Ex Unit} {t : Ex Bool} {me : Ex D} {it : α → D} {val : α → Option D} {s : AS} : ∀ {L : List α}, (∀ x ∈ L, oneM vs g t me (it x) s = .ok (val x) s) → compM vs g t me (L.map it) s = .ok (L.filterMap val) s
  | [], _ => rfl
  | x :: L, h => by
    rw [List.map_cons]
    unfold compM
    rw [bnd_ok' (h x List.mem_cons_self), bnd_ok' (comp_map fun d hd => h d (List.mem_cons_of_mem _ hd))]
    cases e : val x with
    | none => rw [List.filterMap_cons_none e]; rfl
    | some y => rw [List.filterMap_cons_some e]; rfl
theorem lc_eq {vs : List Nat} {src : Ex (List D)} {g : D → Ex Unit} {t : Ex Bool} {me : Ex D} {s s1 s2 : AS} {ds ys : List D} (hsrc : src s = .ok ds s) (hl : ds.length ≤ 16777216) (hok : okW vs s = true) (hc : compM vs g t me ds (wipeS vs s) = .ok ys s1) (hr : restS vs s s1 = s2) : fLc vs src g t me s = .ok (.lst ys) s2 := by
  unfold fLc
  rw [bnd_ok' hsrc, if_pos ⟨hl, hok⟩, hc]
  show Res.ok _ _ = _
  rw [hr]
theorem okPt {x y : Int} (h1 : -9 ≤ x) (h2 : x ≤ 9) (h3 : -9 ≤ y) (h4 : y ≤ 9) : OkW (pt x y) 13 1 := by
  refine okTup (wt := 3) (dep := 0) fun d hd => ?_
  simp only [List.mem_cons, List.not_mem_nil, or_false] at hd
  rcases hd with rfl | rfl
  · exact okInt (by omega) (by omega)
  · exact okInt (by omega) (by omega)
theorem on_bd {q p : Int × Int} (hq : q ∈ shL) (hp : onB q p = true) : 0 ≤ p.1 ∧ p.1 ≤ 5 ∧ 0 ≤ p.2 ∧ p.2 ≤ 5 := by
  obtain ⟨h1, h2, h3, h4⟩ := sh_pos hq
  unfold onB at hp
  simp only [Bool.and_eq_true, decide_eq_true_eq] at hp
  omega
theorem okPd {q p : Int × Int} (hq : q ∈ shL) (hp : onB q p = true) : OkW (pd p) 13 1 := by
  obtain ⟨h1, h2, h3, h4⟩ := on_bd hq hp
  exact okPt (by omega) (by omega) (by omega) (by omega)
def enD (t : Int × Int × Int) : D := .tup [pt t.1 t.2.1, pt (t.1 + 1 - t.2.2) (t.2.1 + t.2.2)]
theorem okTd {q : Int × Int} {t : Int × Int × Int} (hq : q ∈ shL) (ht : t ∈ lnB q) : OkW (td t) 18 1 := by
  obtain ⟨h0, h1, h2⟩ := lnB_mem q hq t ht
  obtain ⟨a1, a2, a3, a4⟩ := on_bd hq h1
  dsimp only at a1 a2 a3 a4
  refine okTup (wt := 3) (dep := 0) fun d hd => ?_
  simp only [List.mem_cons, List.not_mem_nil, or_false] at hd
  rcases hd with rfl | rfl | rfl
  · exact okInt (by omega) (by omega)
  · exact okInt (by omega) (by omega)
  · exact okInt (by omega) (by omega)
theorem okEn {q : Int × Int} {t : Int × Int × Int} (hq : q ∈ shL) (ht : t ∈ lnB q) : OkW (enD t) 33 2 := by
  obtain ⟨h0, h1, h2⟩ := lnB_mem q hq t ht
  refine okTup (wt := 13) (dep := 1) fun d hd => ?_
  simp only [List.mem_cons, List.not_mem_nil, or_false] at hd
  rcases hd with rfl | rfl
  · exact okPd hq h1
  · exact okPd hq h2
theorem okMap {α : Type} {f : α → D} {L : List α} {wt dep n : Nat} (h : ∀ x ∈ L, OkW (f x) wt dep) (hn : L.length ≤ n) : OkW (.lst (L.map f)) (2 + n * (wt + 2)) (dep + 1) := by
  have := okLst (ds := L.map f) (wt := wt) (dep := dep) fun d hd => by
    obtain ⟨x, hx, rfl⟩ := List.mem_map.mp hd
    exact h x hx
  refine this.mono ?_ (Nat.le_refl _)
  rw [List.length_map]
  have := Nat.mul_le_mul_right (wt + 2) hn
  omega
theorem alike3 {ds : List D} (g : Bag) (h : ∀ d ∈ ds, OkW d 3000 5) (hl : ds.length ≤ 12) : M__law_alike [.lst ds, .lst ds] g = .ok (.bl true) g := by
  have := okLst h
  refine alike_self g (this.mono (wt' := 100000) ?_ (Nat.le_refl _)) rfl (by omega) (by omega)
  have := Nat.mul_le_mul_right (3000 + 2) hl
  omega
theorem l2 (a0 a2 a3 a4 a5 a6 a7 a8 a9 a10 a11 a12 a13 a14 a15 a16 a17 a18 a19 a20 a21 a22 a23 : SV) {q : Int × Int} (hq : q ∈ shL) (h6 : ownAt a6 = false) (g : Bag) : lst_2 ⟨[a0, .dat .bag, a2, .dat (pd q), .dat (.lst ((ptsL q).map pd)), .dat (.lst ((lnB q).map td)), a6, a7, a8, a9, a10, a11, a12, a13, a14, a15, a16, a17, a18, a19, a20, a21, a22, a23], g⟩ = .ok .nx ⟨[a0, .dat .bag, a2, .dat (pd q), .dat (.lst ((ptsL q).map pd)), .dat (.lst ((lnB q).map td)), a6, a7, a8, a9, a10, a11, a12, a13, a14, a15, a16, a17, a18, a19, a20, a21, a22, a23], g⟩ := by
  obtain ⟨n1, n2⟩ := pts_len q hq
  obtain ⟨n3, n4⟩ := lnB_len q hq
  have h1 := fun g => congrFun (pts1 q hq) g
  have h2 := fun g => lines1 hq g
  have c1 : fLc [6] (fIt (fVar 5)) (gSet 6) (ret true) (fCall M_ends_of [(fVar 6)]) ⟨[a0, .dat .bag, a2, .dat (pd q), .dat (.lst ((ptsL q).map pd)), .dat (.lst ((lnB q).map td)), a6, a7, a8, a9, a10, a11, a12, a13, a14, a15, a16, a17, a18, a19, a20, a21, a22, a23], g⟩ = .ok (.lst ((lnB q).map enD)) ⟨[a0, .dat .bag, a2, .dat (pd q), .dat (.lst ((ptsL q).map pd)), .dat (.lst ((lnB q).map td)), a6, a7, a8, a9, a10, a11, a12, a13, a14, a15, a16, a17, a18, a19, a20, a21, a22, a23], g⟩ := by
    refine lc_eq (ds := (lnB q).map td) (s1 := ⟨[a0, .dat .bag, a2, .dat (pd q), .dat (.lst ((ptsL q).map pd)), .dat (.lst ((lnB q).map td)), .no, a7, a8, a9, a10, a11, a12, a13, a14, a15, a16, a17, a18, a19, a20, a21, a22, a23], g⟩) rfl (by rw [List.length_map]; omega) (by simp [okW, h6]) ?_ rfl
    have := comp_map (L := lnB q) (it := td) (val := fun t => some (enD t)) (vs := [6]) (g := gSet 6) (t := ret true) (me := fCall M_ends_of [(fVar 6)]) (s := ⟨[a0, .dat .bag, a2, .dat (pd q), .dat (.lst ((ptsL q).map pd)), .dat (.lst ((lnB q).map td)), .no, a7, a8, a9, a10, a11, a12, a13, a14, a15, a16, a17, a18, a19, a20, a21, a22, a23], g⟩) fun t ht => by
      have he := fun g => ends1 t (lnB_mem q hq t ht).1 g
      simp [oneM, bnd, gSet, ret, setSl, fCall, seqM, fVar, lift, he, wipeS, enD]
    rw [List.filterMap_eq_map'] at this
    exact this
  have c2 : fLc [6] (fIt (fVar 5)) (gSet 6) (ret true) (fCall M__law_ends [(fVar 6)]) ⟨[a0, .dat .bag, a2, .dat (pd q), .dat (.lst ((ptsL q).map pd)), .dat (.lst ((lnB q).map td)), a6, a7, a8, a9, a10, a11, a12, a13, a14, a15, a16, a17, a18, a19, a20, a21, a22, a23], g⟩ = .ok (.lst ((lnB q).map enD)) ⟨[a0, .dat .bag, a2, .dat (pd q), .dat (.lst ((ptsL q).map pd)), .dat (.lst ((lnB q).map td)), a6, a7, a8, a9, a10, a11, a12, a13, a14, a15, a16, a17, a18, a19, a20, a21, a22, a23], g⟩ := by
    refine lc_eq (ds := (lnB q).map td) (s1 := ⟨[a0, .dat .bag, a2, .dat (pd q), .dat (.lst ((ptsL q).map pd)), .dat (.lst ((lnB q).map td)), .no, a7, a8, a9, a10, a11, a12, a13, a14, a15, a16, a17, a18, a19, a20, a21, a22, a23], g⟩) rfl (by rw [List.length_map]; omega) (by simp [okW, h6]) ?_ rfl
    have := comp_map (L := lnB q) (it := td) (val := fun t => some (enD t)) (vs := [6]) (g := gSet 6) (t := ret true) (me := fCall M__law_ends [(fVar 6)]) (s := ⟨[a0, .dat .bag, a2, .dat (pd q), .dat (.lst ((ptsL q).map pd)), .dat (.lst ((lnB q).map td)), .no, a7, a8, a9, a10, a11, a12, a13, a14, a15, a16, a17, a18, a19, a20, a21, a22, a23], g⟩) fun t ht => by
      have he := fun g => ends2 t g
      simp [oneM, bnd, gSet, ret, setSl, fCall, seqM, fVar, lift, he, wipeS, enD]
    rw [List.filterMap_eq_map'] at this
    exact this
  have ha := alike3 (ds := [.lst ((ptsL q).map pd), .lst ((lnB q).map td), .lst ((lnB q).map enD)]) g (fun d hd => by
    simp only [List.mem_cons, List.not_mem_nil, or_false] at hd
    rcases hd with rfl | rfl | rfl
    · exact (okMap (fun p hp => okPd hq ((on_mem hq).mp hp)) n1).mono (by omega) (by omega)
    · exact (okMap (fun t ht => okTd hq ht) n3).mono (by omega) (by omega)
    · exact (okMap (fun t ht => okEn hq ht) n3).mono (by omega) (by omega)) (by simp)
  unfold lst_2
  generalize fLc [6] (fIt (fVar 5)) (gSet 6) (ret true) (fCall M_ends_of [(fVar 6)]) = X1 at c1 ⊢
  generalize fLc [6] (fIt (fVar 5)) (gSet 6) (ret true) (fCall M__law_ends [(fVar 6)]) = X2 at c2 ⊢
  simp [sIf, fNot, fB, fLst, sSet, sAsg, sPar, mDat, fTup, fLst, seqM, fAdd, bnd, ret, fCall, fVar, fSee, lift, addD, gSet, setSl, f2, opt, gUn, gsCons, gsNil, h1, h2, c1, c2, ha, asB]
end Ink.K01

set_option Elab.async false
set_option maxRecDepth 1000000
set_option autoImplicit false
set_option linter.all false
namespace Ink.K01
open PySem PySem.W PyProof.Rows
theorem ensw : chD "ensw" = sidesL.map D.str := by kernel_rfl
theorem eqP (a b : Int × Int) : gEq (pd a) (pd b) = some (.bl (decide (a = b))) := by
  have e : gEq (pd a) (pd b) = some (.bl (a.1 == b.1 && (a.2 == b.2 && true))) := rfl
  rw [e]
  congr 2
  obtain ⟨x, y⟩ := a
  obtain ⟨z, w⟩ := b
  simp only [Bool.and_true, Prod.mk.injEq]
  by_cases h1 : x = z <;> by_cases h2 : y = w <;> simp [h1, h2]
theorem fm_sd (u : Int × Int) {s0 : Str} (hs : s0 ∈ sidesL) : sidesL.filterMap (fun s => if stp u s = stp u s0 then some (D.str s) else none) = [D.str s0] := by
  have e1 : stp u "e" = (u.1 + 1, u.2) := rfl
  have e2 : stp u "n" = (u.1, u.2 + 1) := rfl
  have e3 : stp u "s" = (u.1, u.2 - 1) := rfl
  have e4 : stp u "w" = (u.1 - 1, u.2) := rfl
  have h : s0 = "e" ∨ s0 = "n" ∨ s0 = "s" ∨ s0 = "w" := by simpa [sidesL] using hs
  have n1 : ¬ (u.1 = u.1 + 1) := by omega
  have n2 : ¬ (u.1 = u.1 - 1) := by omega
  have n3 : ¬ (u.1 - 1 = u.1 + 1) := by omega
  have n4 : ¬ (u.1 + 1 = u.1) := by omega
  have n5 : ¬ (u.1 - 1 = u.1) := by omega
  have n6 : ¬ (u.1 + 1 = u.1 - 1) := by omega
  have m1 : ¬ (u.2 = u.2 + 1) := by omega
  have m2 : ¬ (u.2 = u.2 - 1) := by omega
  have m3 : ¬ (u.2 - 1 = u.2 + 1) := by omega
  have m4 : ¬ (u.2 + 1 = u.2) := by omega
  have m5 : ¬ (u.2 - 1 = u.2) := by omega
  have m6 : ¬ (u.2 + 1 = u.2 - 1) := by omega
  rcases h with rfl | rfl | rfl | rfl <;> simp only [sidesL, List.filterMap_cons, List.filterMap_nil, e1, e2, e3, e4, Prod.mk.injEq, n1, n2, n3, n4, n5, n6, m1, m2, m3, m4, m5, m6, and_self, and_false, false_and, if_true, if_false]
/-- the two ends of a line, in either order -/
theorem adj_of {t : Int × Int × Int} {u v : Int × Int} (h0 : t.2.2 = 0 ∨ t.2.2 = 1) (h : (u = (t.1, t.2.1) ∧ v = (t.1 + 1 - t.2.2, t.2.1 + t.2.2)) ∨ (v = (t.1, t.2.1) ∧ u = (t.1 + 1 - t.2.2, t.2.1 + t.2.2))) :
    ∃ s ∈ sidesL, v = stp u s ∧ sdS u v = s ∧ lnD u v = td t := by
  obtain ⟨x, y, k⟩ := t
  dsimp only at h h0
  rcases h with ⟨rfl, rfl⟩ | ⟨rfl, rfl⟩ <;> rcases h0 with rfl | rfl
  · refine ⟨"e", by simp [sidesL], ?_, ?_, ?_⟩
    · show (x + 1 - 0, y + 0) = (x + 1, y); simp
    · unfold sdS; dsimp only; rw [if_pos (by omega)]
    · unfold lnD; dsimp only; rw [if_pos (by omega), if_pos (by omega)]
  · refine ⟨"n", by simp [sidesL], ?_, ?_, ?_⟩
    · show (x + 1 - 1, y + 1) = (x, y + 1); simp
    · unfold sdS; dsimp only; rw [if_neg (by omega), if_pos (by omega)]
    · unfold lnD; dsimp only; rw [if_pos (by omega), if_neg (by omega)]
  · refine ⟨"w", by simp [sidesL], ?_, ?_, ?_⟩
    · show (x, y) = (x + 1 - 0 - 1, y + 0); simp
    · unfold sdS; dsimp only; rw [if_neg (by omega), if_neg (by omega), if_pos (by omega)]
    · unfold lnD; dsimp only; rw [if_neg (by omega), if_pos (by omega)]
  · refine ⟨"s", by simp [sidesL], ?_, ?_, ?_⟩
    · show (x, y) = (x + 1 - 1, y + 1 - 1); simp
    · unfold sdS; dsimp only; rw [if_neg (by omega), if_neg (by omega), if_neg (by omega)]
    · unfold lnD; dsimp only; rw [if_neg (by omega), if_neg (by omega)]
theorem okSide {s : Str} (hs : s ∈ sidesL) : OkW (.str s) 3 0 := by
  have h : s = "e" ∨ s = "n" ∨ s = "s" ∨ s = "w" := by simpa [sidesL] using hs
  rcases h with rfl | rfl | rfl | rfl
  · exact okStr (by decide +kernel) (by decide +kernel) (by decide +kernel)
  · exact okStr (by decide +kernel) (by decide +kernel) (by decide +kernel)
  · exact okStr (by decide +kernel) (by decide +kernel) (by decide +kernel)
  · exact okStr (by decide +kernel) (by decide +kernel) (by decide +kernel)
theorem l6 (a0 a2 a3 a4 a5 a6 a7 a8 a9 a10 a11 a12 a13 a14 a15 a16 a17 a18 a19 a20 a21 a22 a23 : SV) {q a b u v : Int × Int} {t : Int × Int × Int} {s : Str} (h11 : ownAt a11 = false) (hs : s ∈ sidesL) (hv : v = stp u s) (g : Bag) : lst_6 ⟨[a0, .dat .bag, a2, .dat (pd q), .dat (.lst ((ptsL q).map pd)), .dat (.lst ((lnB q).map td)), .dat (td t), .dat (pd a), .dat (pd b), .dat (.int (away a b)), .dat (.lst [pd u, pd v]), a11, a12, a13, a14, a15, a16, a17, a18, a19, a20, a21, a22, a23], g⟩ = .ok .nx ⟨[a0, .dat .bag, a2, .dat (pd q), .dat (.lst ((ptsL q).map pd)), .dat (.lst ((lnB q).map td)), .dat (td t), .dat (pd a), .dat (pd b), .dat (.int (away a b)), .dat (.lst [pd u, pd v]), .dat (.str s), a12, a13, a14, a15, a16, a17, a18, a19, a20, a21, a22, a23], g⟩ := by
  subst hv
  have c1 : fLc [11] (fIt (ret (.str "ensw"))) (gSet 11) (fB (f2 gEq (fCall M__law_beside [(f2 gIx (fSee 10) (ret (.int 0))), (fVar 11)]) (f2 gIx (fSee 10) (ret (.int 1))))) (fVar 11) ⟨[a0, .dat .bag, a2, .dat (pd q), .dat (.lst ((ptsL q).map pd)), .dat (.lst ((lnB q).map td)), .dat (td t), .dat (pd a), .dat (pd b), .dat (.int (away a b)), .dat (.lst [pd u, pd (stp u s)]), a11, a12, a13, a14, a15, a16, a17, a18, a19, a20, a21, a22, a23], g⟩ = .ok (.lst [.str s]) ⟨[a0, .dat .bag, a2, .dat (pd q), .dat (.lst ((ptsL q).map pd)), .dat (.lst ((lnB q).map td)), .dat (td t), .dat (pd a), .dat (pd b), .dat (.int (away a b)), .dat (.lst [pd u, pd (stp u s)]), a11, a12, a13, a14, a15, a16, a17, a18, a19, a20, a21, a22, a23], g⟩ := by
    refine lc_eq (ds := sidesL.map D.str) (s1 := ⟨[a0, .dat .bag, a2, .dat (pd q), .dat (.lst ((ptsL q).map pd)), .dat (.lst ((lnB q).map td)), .dat (td t), .dat (pd a), .dat (pd b), .dat (.int (away a b)), .dat (.lst [pd u, pd (stp u s)]), .no, a12, a13, a14, a15, a16, a17, a18, a19, a20, a21, a22, a23], g⟩) (by rw [← ensw]; rfl) (by simp [sidesL]) (by simp [okW, h11]) ?_ rfl
    have := comp_map (L := sidesL) (it := D.str) (val := fun z => if stp u z = stp u s then some (D.str z) else none) (vs := [11]) (g := gSet 11) (t := fB (f2 gEq (fCall M__law_beside [(f2 gIx (fSee 10) (ret (.int 0))), (fVar 11)]) (f2 gIx (fSee 10) (ret (.int 1))))) (me := fVar 11) (s := ⟨[a0, .dat .bag, a2, .dat (pd q), .dat (.lst ((ptsL q).map pd)), .dat (.lst ((lnB q).map td)), .dat (td t), .dat (pd a), .dat (pd b), .dat (.int (away a b)), .dat (.lst [pd u, pd (stp u s)]), .no, a12, a13, a14, a15, a16, a17, a18, a19, a20, a21, a22, a23], g⟩) fun z hz => by
      have hb := fun g => beside_eq (p := u) hz g
      have he := eqP (stp u z) (stp u s)
      have i0 : gIx (.lst [pd u, pd (stp u s)]) (.int 0) = some (pd u) := rfl
      have i1 : gIx (.lst [pd u, pd (stp u s)]) (.int 1) = some (pd (stp u s)) := rfl
      by_cases hz2 : stp u z = stp u s
      · rw [decide_eq_true hz2] at he
        rw [if_pos hz2]
        clear hz2
        simp [oneM, gSet, setSl, fB, f2, bnd, fCall, seqM, fVar, fSee, ret, opt, lift, hb, he, i0, i1, asB, wipeS]
      · simp [oneM, gSet, setSl, fB, f2, bnd, fCall, seqM, fVar, fSee, ret, opt, lift, hb, he, i0, i1, asB, wipeS, hz2]
    rw [fm_sd u hs] at this
    exact this
  unfold lst_6
  generalize fLc [11] (fIt (ret (.str "ensw"))) (gSet 11) (fB (f2 gEq (fCall M__law_beside [(f2 gIx (fSee 10) (ret (.int 0))), (fVar 11)]) (f2 gIx (fSee 10) (ret (.int 1))))) (fVar 11) = X1 at c1 ⊢
  have i0 : gIx (.lst [.str s]) (.int 0) = some (.str s) := rfl
  simp [sSet, sAsg, sPar, mDat, fTup, fLst, seqM, fAdd, bnd, ret, fCall, fVar, fSee, lift, addD, gSet, setSl, f2, opt, gUn, gsCons, gsNil, c1, i0]
theorem str_ok {a b : Int × Int} : ∀ z ∈ strL a b, z ∈ sidesL := fun z hz => by
  unfold strL at hz
  rcases List.mem_append.mp hz with h | h
  · have := (List.mem_replicate.mp h).2
    subst this
    split <;> simp [sidesL]
  · have := (List.mem_replicate.mp h).2
    subst this
    split <;> simp [sidesL]
theorem str_len {q a b : Int × Int} (hq : q ∈ shL) (ha : onB q a = true) (hb : onB q b = true) : (strL a b).length ≤ 10 := by
  obtain ⟨h1, h2, h3, h4⟩ := on_bd hq ha
  obtain ⟨k1, k2, k3, k4⟩ := on_bd hq hb
  unfold strL
  rw [List.length_append, List.length_replicate, List.length_replicate]
  omega
theorem away_bd {q a b : Int × Int} (hq : q ∈ shL) (ha : onB q a = true) (hb : onB q b = true) : 0 ≤ away a b ∧ away a b ≤ 10 := by
  obtain ⟨h1, h2, h3, h4⟩ := on_bd hq ha
  obtain ⟨k1, k2, k3, k4⟩ := on_bd hq hb
  unfold away absZ
  split <;> split <;> omega
theorem l7 (a0 a2 a3 a4 a5 a6 a7 a8 a9 a10 a11 a12 a13 a14 a15 a16 a17 a18 a19 a20 a21 a22 a23 : SV) {q a b u v : Int × Int} {t : Int × Int × Int} {s : Str} (hq : q ∈ shL) (ha : onB q a = true) (hb : onB q b = true) (ht : t ∈ lnB q) (hu : onB q u = true) (hw : onB q v = true) (hs : s ∈ sidesL) (hv : v = stp u s) (hsd : sdS u v = s) (hln : lnD u v = td t) (g : Bag) : lst_7 ⟨[a0, .dat .bag, a2, .dat (pd q), .dat (.lst ((ptsL q).map pd)), .dat (.lst ((lnB q).map td)), .dat (td t), .dat (pd a), .dat (pd b), .dat (.int (away a b)), .dat (.lst [pd u, pd v]), .dat (.str s), a12, a13, a14, a15, a16, a17, a18, a19, a20, a21, a22, a23], g⟩ = .ok .nx ⟨[a0, .dat .bag, a2, .dat (pd q), .dat (.lst ((ptsL q).map pd)), .dat (.lst ((lnB q).map td)), .dat (td t), .dat (pd a), .dat (pd b), .dat (.int (away a b)), .dat (.lst [pd u, pd v]), .dat (.str s), a12, a13, a14, a15, a16, a17, a18, a19, a20, a21, a22, a23], g⟩ := by
  have e1 := fun g => dist_eq a b g
  have ad : away u v = 1 := by rw [hv]; exact stp_away hs
  have e2 : ∀ g, M_line_between [pd u, pd v] g = .ok (td t) g := fun g => by rw [lb (u, v) (in_pL hq hu hw)]; dsimp only; rw [if_pos ad, hln]
  have e3 : ∀ g, M_side_between [pd u, pd v] g = .ok (.str s) g := fun g => by rw [sb (u, v) (in_pL hq hu hw)]; dsimp only; rw [if_pos ad, hsd]
  have e4 : ∀ g, M_straight_way [pd a, pd b] g = .ok (.lst ((strL a b).map D.str)) g := fun g => by rw [sw (a, b) (in_pL hq ha hb)]
  have e5 : ∀ g, M__law_straight [pd a, pd b] g = .ok (.lst ((strL a b).map D.str)) g := fun g => by rw [lsw (a, b) (in_pL hq ha hb)]
  have i0 : gIx (.lst [pd u, pd v]) (.int 0) = some (pd u) := rfl
  have i1 : gIx (.lst [pd u, pd v]) (.int 1) = some (pd v) := rfl
  have al := alike3 (ds := [.int (away a b), td t, .str s, .lst ((strL a b).map D.str)]) g (fun d hd => by
    simp only [List.mem_cons, List.not_mem_nil, or_false] at hd
    obtain ⟨w1, w2⟩ := away_bd hq ha hb
    rcases hd with rfl | rfl | rfl | rfl
    · exact (okInt (by omega) (by omega)).mono (by omega) (by omega)
    · exact (okTd hq ht).mono (by omega) (by omega)
    · exact (okSide hs).mono (by omega) (by omega)
    · exact (okMap (fun z hz => okSide (str_ok z hz)) (str_len hq ha hb)).mono (by omega) (by omega)) (by simp)
  unfold lst_7
  simp [sIf, fNot, fB, fLst, sSet, sAsg, sPar, mDat, fTup, fLst, seqM, fAdd, bnd, ret, fCall, fVar, fSee, lift, addD, gSet, setSl, f2, opt, gUn, gsCons, gsNil, e1, e2, e3, e4, e5, i0, i1, al, asB]
end Ink.K01

set_option Elab.async false
set_option maxRecDepth 1000000
set_option autoImplicit false
set_option linter.all false
namespace Ink.K01
open PySem PySem.W PyProof.Rows
theorem heard_exn {m : Ex D} {s : AS} (h : m s = .exn nothing s) : fHeard "told" "nothing" "Nothing" m s = .ok (.tup [.str "nothing"]) s := by
  unfold fHeard
  rw [h]
  dsimp only
  rw [if_pos (show nothing.cls = Str.ofString "Nothing" from rfl), cut_eq rfl (OwnLe.refl s)]
theorem heard_ok {m : Ex D} {s : AS} {d : D} (h : m s = .ok d s) : fHeard "told" "nothing" "Nothing" m s = .ok (.tup [.str "told", d]) s := by
  unfold fHeard
  rw [h]
abbrev nN : D := .tup [.str "nothing"]
theorem mul2 (s : AS) : fMul (fLst [(fTup [(ret (.str "nothing"))])]) (ret (.int 2)) s = .ok (.lst [nN, nN]) s := by kernel_rfl
theorem mul3 (s : AS) : fMul (fLst [(fTup [(ret (.str "nothing"))])]) (ret (.int 3)) s = .ok (.lst [nN, nN, nN]) s := by kernel_rfl
theorem ne2 : gNe (.lst [nN, nN]) (.lst [nN, nN]) = some (.bl false) := by kernel_rfl
theorem ne3 : gNe (.lst [nN, nN, nN]) (.lst [nN, nN, nN]) = some (.bl false) := by kernel_rfl
theorem neI (i j : Int) : gNe (.int i) (.int j) = some (.bl (!(i == j))) := rfl
theorem call_same {M : List D → M D} {ms : List (Ex D)} {ds : List D} {d : D} {s : AS} (h1 : seqM ms s = .ok ds s) (h2 : M ds s.bag = .ok d s.bag) : fCall M ms s = .ok d s := by
  unfold fCall
  rw [bnd_ok' h1]
  unfold lift
  rw [h2]
theorem call_exn {M : List D → M D} {ms : List (Ex D)} {ds : List D} {e : Exn} {s : AS} (h1 : seqM ms s = .ok ds s) (h2 : M ds s.bag = .exn e s.bag) : fCall M ms s = .exn e s := by
  unfold fCall
  rw [bnd_ok' h1]
  unfold lift
  rw [h2]
theorem put_own {i : Nat} {m : Ex D} {d : D} {s : AS} (h : m s = .ok d s) : sPut i (mOwn [m]) s = .ok .nx (setSl i (.own [d]) s) := by
  unfold sPut mOwn seqM
  rw [bnd_ok' (a := SV.own [d]) (s1 := s)]
  rw [bnd_ok' (a := [d]) (s1 := s)]
  rw [bnd_ok' h]
  rfl
theorem app_own {i : Nat} {m : Ex D} {d : D} {xs : List D} {s : AS} (ho : s.sl[i]? = some (.own xs)) (hl : xs.length < 1000) (h : m s = .ok d s) : sMut i [m] uApp s = .ok .nx (setSl i (.own (xs ++ [d])) s) := by
  have sz : xs.length < sizeLine := by rw [sizeLine_eq]; omega
  have h1 : seqM [m] s = .ok [d] s := by
    show bnd m _ s = _
    rw [bnd_ok' h]
    rfl
  unfold sMut
  rw [ho]
  dsimp only
  rw [bnd_ok' h1]
  rw [ho]
  dsimp only [uApp]
  rw [if_pos sz]
theorem l8 (a0 a2 a3 a4 a5 a6 a7 a8 a9 a10 a11 a12 a13 a14 a15 a16 a17 a18 a19 a20 a21 a22 a23 : SV) {q a b u v : Int × Int} {t : Int × Int × Int} {s : Str} (hq : q ∈ shL) (ha : onB q a = true) (hb : onB q b = true) (g : Bag) : ∃ h1, (away a b = 1 ∨ h1 = nN) ∧ lst_8 ⟨[a0, .dat .bag, a2, .dat (pd q), .dat (.lst ((ptsL q).map pd)), .dat (.lst ((lnB q).map td)), .dat (td t), .dat (pd a), .dat (pd b), .dat (.int (away a b)), .dat (.lst [pd u, pd v]), .dat (.str s), a12, a13, a14, a15, a16, a17, a18, a19, a20, a21, a22, a23], g⟩ = .ok .nx ⟨[a0, .dat .bag, a2, .dat (pd q), .dat (.lst ((ptsL q).map pd)), .dat (.lst ((lnB q).map td)), .dat (td t), .dat (pd a), .dat (pd b), .dat (.int (away a b)), .dat (.lst [pd u, pd v]), .dat (.str s), .own [h1], a13, a14, a15, a16, a17, a18, a19, a20, a21, a22, a23], g⟩ := by
  have e := congrFun (lb (a, b) (in_pL hq ha hb)) g
  dsimp only at e
  by_cases h : away a b = 1
  · rw [if_pos h] at e
    exact ⟨.tup [.str "told", lnD a b], .inl h, put_own (heard_ok (call_same rfl e))⟩
  · rw [if_neg h] at e
    exact ⟨nN, .inr rfl, put_own (heard_exn (call_exn rfl e))⟩
theorem l9 (a0 a2 a3 a4 a5 a6 a7 a8 a9 a10 a11 a12 a13 a14 a15 a16 a17 a18 a19 a20 a21 a22 a23 : SV) {q a b u v : Int × Int} {t : Int × Int × Int} {s : Str} {h1 : D} (hq : q ∈ shL) (ha : onB q a = true) (hb : onB q b = true) (g : Bag) : ∃ h2, (away a b = 1 ∨ h2 = nN) ∧ lst_9 ⟨[a0, .dat .bag, a2, .dat (pd q), .dat (.lst ((ptsL q).map pd)), .dat (.lst ((lnB q).map td)), .dat (td t), .dat (pd a), .dat (pd b), .dat (.int (away a b)), .dat (.lst [pd u, pd v]), .dat (.str s), .own [h1], a13, a14, a15, a16, a17, a18, a19, a20, a21, a22, a23], g⟩ = .ok .nx ⟨[a0, .dat .bag, a2, .dat (pd q), .dat (.lst ((ptsL q).map pd)), .dat (.lst ((lnB q).map td)), .dat (td t), .dat (pd a), .dat (pd b), .dat (.int (away a b)), .dat (.lst [pd u, pd v]), .dat (.str s), .own [h1, h2], a13, a14, a15, a16, a17, a18, a19, a20, a21, a22, a23], g⟩ := by
  have e := congrFun (sb (a, b) (in_pL hq ha hb)) g
  dsimp only at e
  by_cases h : away a b = 1
  · rw [if_pos h] at e
    exact ⟨.tup [.str "told", .str (sdS a b)], .inl h, app_own (i := 12) (xs := [h1]) (s := ⟨[a0, .dat .bag, a2, .dat (pd q), .dat (.lst ((ptsL q).map pd)), .dat (.lst ((lnB q).map td)), .dat (td t), .dat (pd a), .dat (pd b), .dat (.int (away a b)), .dat (.lst [pd u, pd v]), .dat (.str s), .own [h1], a13, a14, a15, a16, a17, a18, a19, a20, a21, a22, a23], g⟩) rfl (by show 1 < 1000; omega) (heard_ok (call_same (ds := [pd a, pd b]) rfl e))⟩
  · rw [if_neg h] at e
    exact ⟨nN, .inr rfl, app_own (i := 12) (xs := [h1]) (s := ⟨[a0, .dat .bag, a2, .dat (pd q), .dat (.lst ((ptsL q).map pd)), .dat (.lst ((lnB q).map td)), .dat (td t), .dat (pd a), .dat (pd b), .dat (.int (away a b)), .dat (.lst [pd u, pd v]), .dat (.str s), .own [h1], a13, a14, a15, a16, a17, a18, a19, a20, a21, a22, a23], g⟩) rfl (by show 1 < 1000; omega) (heard_exn (call_exn (ds := [pd a, pd b]) rfl e))⟩
theorem l10 (a0 a2 a3 a4 a5 a6 a7 a8 a9 a10 a11 a12 a13 a14 a15 a16 a17 a18 a19 a20 a21 a22 a23 : SV) {q a b u v : Int × Int} {t : Int × Int × Int} {s : Str} {h1 h2 : D} (c1 : away a b = 1 ∨ h1 = nN) (c2 : away a b = 1 ∨ h2 = nN) (g : Bag) : lst_10 ⟨[a0, .dat .bag, a2, .dat (pd q), .dat (.lst ((ptsL q).map pd)), .dat (.lst ((lnB q).map td)), .dat (td t), .dat (pd a), .dat (pd b), .dat (.int (away a b)), .dat (.lst [pd u, pd v]), .dat (.str s), .own [h1, h2], a13, a14, a15, a16, a17, a18, a19, a20, a21, a22, a23], g⟩ = .ok .nx ⟨[a0, .dat .bag, a2, .dat (pd q), .dat (.lst ((ptsL q).map pd)), .dat (.lst ((lnB q).map td)), .dat (td t), .dat (pd a), .dat (pd b), .dat (.int (away a b)), .dat (.lst [pd u, pd v]), .dat (.str s), .own [h1, h2], a13, a14, a15, a16, a17, a18, a19, a20, a21, a22, a23], g⟩ := by
  unfold lst_10
  by_cases h : away a b = 1
  · have e := neI (away a b) 1
    have hb : (away a b == 1) = true := beq_iff_eq.mpr h
    rw [hb] at e
    simp [sIf, fAnd, fB, f2, bnd, fSee, ret, opt, e, asB]
  · have hb : (away a b == 1) = false := by simpa using h
    have e := neI (away a b) 1
    rw [hb] at e
    have d1 : h1 = nN := c1.resolve_left h
    have d2 : h2 = nN := c2.resolve_left h
    subst d1 d2
    have m2 := mul2
    generalize fMul (fLst [(fTup [(ret (.str "nothing"))])]) (ret (.int 2)) = X at m2 ⊢
    simp [sIf, fAnd, fB, f2, bnd, fSee, ret, opt, e, asB, m2, ne2]
end Ink.K01

set_option Elab.async false
set_option maxRecDepth 1000000
set_option autoImplicit false
set_option linter.all false
namespace Ink.K01
open PySem PySem.W PyProof.Rows
def nrD (a : Int × Int) (s : Str) : D := .tup [.str s, pd (stp a s)]
def rmD (q a : Int × Int) (s : Str) : D := .bl (!onB q (stp a s))
theorem rim_eq {q p : Int × Int} {s : Str} (hq : q ∈ shL) (hp : p ∈ ptsL q) (hs : s ∈ sidesL) (g : Bag) : M_is_at_rim [pd q, pd p, .str s] g = .ok (rmD q p s) g := by
  have hm := fun g => congrFun (mv hq hp hs) g
  unfold M_is_at_rim m_is_at_rim runM rmD
  by_cases ho : onB q (stp p s) = true
  · have e : mvD q p s = pd (stp p s) := if_pos ho
    rw [e] at hm
    have i : gIs (pd (stp p s)) .non = some (.bl false) := rfl
    simp [sRet, f2, bnd, fCall, seqM, fVar, ret, opt, as0, lift, hm, i, ho, List.replicate]
  · have e : mvD q p s = .non := if_neg ho
    rw [e] at hm
    have i : gIs .non .non = some (.bl true) := rfl
    simp [sRet, f2, bnd, fCall, seqM, fVar, ret, opt, as0, lift, hm, i, ho, List.replicate]
theorem fmap_some {α : Type} (L : List α) (f : α → D) : L.filterMap (fun x => some (f x)) = L.map f := congrFun List.filterMap_eq_map' L 
theorem l11 (a0 a2 a3 a4 a5 a6 a7 a8 a9 a10 a11 a12 a13 a14 a15 a16 a17 a18 a19 a20 a21 a22 a23 : SV) {q a b u v : Int × Int} {t : Int × Int × Int} {s : Str} {h1 h2 : D} (g : Bag) : lst_11 ⟨[a0, .dat .bag, a2, .dat (pd q), .dat (.lst ((ptsL q).map pd)), .dat (.lst ((lnB q).map td)), .dat (td t), .dat (pd a), .dat (pd b), .dat (.int (away a b)), .dat (.lst [pd u, pd v]), .dat (.str s), .own [h1, h2], a13, a14, a15, a16, a17, a18, a19, a20, a21, a22, a23], g⟩ = .ok .nx ⟨[a0, .dat .bag, a2, .dat (pd q), .dat (.lst ((ptsL q).map pd)), .dat (.lst ((lnB q).map td)), .dat (td t), .dat (pd a), .dat (pd b), .dat (.int (away a b)), .dat (.lst [pd u, pd v]), .dat (.str s), .own [h1, h2], .dat (.lst (sidesL.map (nrD a))), a14, a15, a16, a17, a18, a19, a20, a21, a22, a23], g⟩ := by
  have c1 : fLc [11] (fIt (ret (.str "ensw"))) (gSet 11) (ret true) (fTup [(fVar 11), (fCall M__law_beside [(fVar 7), (fVar 11)])]) ⟨[a0, .dat .bag, a2, .dat (pd q), .dat (.lst ((ptsL q).map pd)), .dat (.lst ((lnB q).map td)), .dat (td t), .dat (pd a), .dat (pd b), .dat (.int (away a b)), .dat (.lst [pd u, pd v]), .dat (.str s), .own [h1, h2], a13, a14, a15, a16, a17, a18, a19, a20, a21, a22, a23], g⟩ = .ok (.lst (sidesL.map (nrD a))) ⟨[a0, .dat .bag, a2, .dat (pd q), .dat (.lst ((ptsL q).map pd)), .dat (.lst ((lnB q).map td)), .dat (td t), .dat (pd a), .dat (pd b), .dat (.int (away a b)), .dat (.lst [pd u, pd v]), .dat (.str s), .own [h1, h2], a13, a14, a15, a16, a17, a18, a19, a20, a21, a22, a23], g⟩ := by
    refine lc_eq (ds := sidesL.map D.str) (s1 := ⟨[a0, .dat .bag, a2, .dat (pd q), .dat (.lst ((ptsL q).map pd)), .dat (.lst ((lnB q).map td)), .dat (td t), .dat (pd a), .dat (pd b), .dat (.int (away a b)), .dat (.lst [pd u, pd v]), .no, .own [h1, h2], a13, a14, a15, a16, a17, a18, a19, a20, a21, a22, a23], g⟩) (by rw [← ensw]; rfl) (by simp [sidesL]) rfl ?_ rfl
    have := comp_map (L := sidesL) (it := D.str) (val := fun z => some ((nrD a) z)) (vs := [11]) (g := gSet 11) (t := ret true) (me := fTup [(fVar 11), (fCall M__law_beside [(fVar 7), (fVar 11)])]) (s := ⟨[a0, .dat .bag, a2, .dat (pd q), .dat (.lst ((ptsL q).map pd)), .dat (.lst ((lnB q).map td)), .dat (td t), .dat (pd a), .dat (pd b), .dat (.int (away a b)), .dat (.lst [pd u, pd v]), .no, .own [h1, h2], a13, a14, a15, a16, a17, a18, a19, a20, a21, a22, a23], g⟩) fun z hz => by
      have hb := fun g => beside_eq (p := a) hz g
      simp [oneM, gSet, setSl, bnd, fCall, seqM, fVar, ret, lift, wipeS, fTup, hb, nrD]
    rw [fmap_some] at this
    exact this
  unfold lst_11
  generalize fLc [11] (fIt (ret (.str "ensw"))) (gSet 11) (ret true) (fTup [(fVar 11), (fCall M__law_beside [(fVar 7), (fVar 11)])]) = X1 at c1 ⊢
  simp [sSet, bnd, c1, gSet, setSl, ret]
theorem np_mem {q a : Int × Int} (hq : q ∈ shL) (ha : onB q a = true) : (q, a) ∈ npL := by
  unfold npL
  exact List.mem_flatMap.mpr ⟨q, hq, List.mem_map.mpr ⟨a, (on_mem hq).mpr ha, rfl⟩⟩
theorem l12 (a0 a2 a3 a4 a5 a6 a7 a8 a9 a10 a11 a12 a13 a14 a15 a16 a17 a18 a19 a20 a21 a22 a23 : SV) {q a b u v : Int × Int} {t : Int × Int × Int} {s : Str} {h1 h2 : D} (hq : q ∈ shL) (ha : onB q a = true) (g : Bag) : lst_12 ⟨[a0, .dat .bag, a2, .dat (pd q), .dat (.lst ((ptsL q).map pd)), .dat (.lst ((lnB q).map td)), .dat (td t), .dat (pd a), .dat (pd b), .dat (.int (away a b)), .dat (.lst [pd u, pd v]), .dat (.str s), .own [h1, h2], .dat (.lst (sidesL.map (nrD a))), a14, a15, a16, a17, a18, a19, a20, a21, a22, a23], g⟩ = .ok .nx ⟨[a0, .dat .bag, a2, .dat (pd q), .dat (.lst ((ptsL q).map pd)), .dat (.lst ((lnB q).map td)), .dat (td t), .dat (pd a), .dat (pd b), .dat (.int (away a b)), .dat (.lst [pd u, pd v]), .dat (.str s), .own [h1, h2], .dat (.lst (sidesL.map (nrD a))), .dat (.lst [.lst (sidesL.map (mvD q a)), .lst (sidesL.map (rmD q a)), nbD q a]), a15, a16, a17, a18, a19, a20, a21, a22, a23], g⟩ := by
  have c1 : fLc [11] (fIt (ret (.str "ensw"))) (gSet 11) (ret true) (fCall M_moved [(fVar 3), (fVar 7), (fVar 11)]) ⟨[a0, .dat .bag, a2, .dat (pd q), .dat (.lst ((ptsL q).map pd)), .dat (.lst ((lnB q).map td)), .dat (td t), .dat (pd a), .dat (pd b), .dat (.int (away a b)), .dat (.lst [pd u, pd v]), .dat (.str s), .own [h1, h2], .dat (.lst (sidesL.map (nrD a))), a14, a15, a16, a17, a18, a19, a20, a21, a22, a23], g⟩ = .ok (.lst (sidesL.map (mvD q a))) ⟨[a0, .dat .bag, a2, .dat (pd q), .dat (.lst ((ptsL q).map pd)), .dat (.lst ((lnB q).map td)), .dat (td t), .dat (pd a), .dat (pd b), .dat (.int (away a b)), .dat (.lst [pd u, pd v]), .dat (.str s), .own [h1, h2], .dat (.lst (sidesL.map (nrD a))), a14, a15, a16, a17, a18, a19, a20, a21, a22, a23], g⟩ := by
    refine lc_eq (ds := sidesL.map D.str) (s1 := ⟨[a0, .dat .bag, a2, .dat (pd q), .dat (.lst ((ptsL q).map pd)), .dat (.lst ((lnB q).map td)), .dat (td t), .dat (pd a), .dat (pd b), .dat (.int (away a b)), .dat (.lst [pd u, pd v]), .no, .own [h1, h2], .dat (.lst (sidesL.map (nrD a))), a14, a15, a16, a17, a18, a19, a20, a21, a22, a23], g⟩) (by rw [← ensw]; rfl) (by simp [sidesL]) rfl ?_ rfl
    have := comp_map (L := sidesL) (it := D.str) (val := fun z => some ((mvD q a) z)) (vs := [11]) (g := gSet 11) (t := ret true) (me := fCall M_moved [(fVar 3), (fVar 7), (fVar 11)]) (s := ⟨[a0, .dat .bag, a2, .dat (pd q), .dat (.lst ((ptsL q).map pd)), .dat (.lst ((lnB q).map td)), .dat (td t), .dat (pd a), .dat (pd b), .dat (.int (away a b)), .dat (.lst [pd u, pd v]), .no, .own [h1, h2], .dat (.lst (sidesL.map (nrD a))), a14, a15, a16, a17, a18, a19, a20, a21, a22, a23], g⟩) fun z hz => by
      have hb := fun g => congrFun (mv hq ((on_mem hq).mpr ha) hz) g
      simp [oneM, gSet, setSl, bnd, fCall, seqM, fVar, ret, lift, wipeS, fTup, hb]
    rw [fmap_some] at this
    exact this
  have c2 : fLc [11] (fIt (ret (.str "ensw"))) (gSet 11) (ret true) (fCall M_is_at_rim [(fVar 3), (fVar 7), (fVar 11)]) ⟨[a0, .dat .bag, a2, .dat (pd q), .dat (.lst ((ptsL q).map pd)), .dat (.lst ((lnB q).map td)), .dat (td t), .dat (pd a), .dat (pd b), .dat (.int (away a b)), .dat (.lst [pd u, pd v]), .dat (.str s), .own [h1, h2], .dat (.lst (sidesL.map (nrD a))), a14, a15, a16, a17, a18, a19, a20, a21, a22, a23], g⟩ = .ok (.lst (sidesL.map (rmD q a))) ⟨[a0, .dat .bag, a2, .dat (pd q), .dat (.lst ((ptsL q).map pd)), .dat (.lst ((lnB q).map td)), .dat (td t), .dat (pd a), .dat (pd b), .dat (.int (away a b)), .dat (.lst [pd u, pd v]), .dat (.str s), .own [h1, h2], .dat (.lst (sidesL.map (nrD a))), a14, a15, a16, a17, a18, a19, a20, a21, a22, a23], g⟩ := by
    refine lc_eq (ds := sidesL.map D.str) (s1 := ⟨[a0, .dat .bag, a2, .dat (pd q), .dat (.lst ((ptsL q).map pd)), .dat (.lst ((lnB q).map td)), .dat (td t), .dat (pd a), .dat (pd b), .dat (.int (away a b)), .dat (.lst [pd u, pd v]), .no, .own [h1, h2], .dat (.lst (sidesL.map (nrD a))), a14, a15, a16, a17, a18, a19, a20, a21, a22, a23], g⟩) (by rw [← ensw]; rfl) (by simp [sidesL]) rfl ?_ rfl
    have := comp_map (L := sidesL) (it := D.str) (val := fun z => some ((rmD q a) z)) (vs := [11]) (g := gSet 11) (t := ret true) (me := fCall M_is_at_rim [(fVar 3), (fVar 7), (fVar 11)]) (s := ⟨[a0, .dat .bag, a2, .dat (pd q), .dat (.lst ((ptsL q).map pd)), .dat (.lst ((lnB q).map td)), .dat (td t), .dat (pd a), .dat (pd b), .dat (.int (away a b)), .dat (.lst [pd u, pd v]), .no, .own [h1, h2], .dat (.lst (sidesL.map (nrD a))), a14, a15, a16, a17, a18, a19, a20, a21, a22, a23], g⟩) fun z hz => by
      have hb := fun g => rim_eq hq ((on_mem hq).mpr ha) hz g
      simp [oneM, gSet, setSl, bnd, fCall, seqM, fVar, ret, lift, wipeS, fTup, hb]
    rw [fmap_some] at this
    exact this
  have hn := fun g => congrFun (nb (q, a) (np_mem hq ha)) g
  dsimp only at hn
  unfold lst_12
  generalize fLc [11] (fIt (ret (.str "ensw"))) (gSet 11) (ret true) (fCall M_moved [(fVar 3), (fVar 7), (fVar 11)]) = X1 at c1 ⊢
  generalize fLc [11] (fIt (ret (.str "ensw"))) (gSet 11) (ret true) (fCall M_is_at_rim [(fVar 3), (fVar 7), (fVar 11)]) = X2 at c2 ⊢
  simp [fLst, sSet, sAsg, sPar, mDat, fTup, fLst, seqM, fAdd, bnd, ret, fCall, fVar, fSee, lift, addD, gSet, setSl, f2, opt, gUn, gsCons, gsNil, c1, c2, hn]
theorem l13 (a0 a2 a3 a4 a5 a6 a7 a8 a9 a10 a11 a12 a13 a14 a15 a16 a17 a18 a19 a20 a21 a22 a23 : SV) {q a b u v : Int × Int} {t : Int × Int × Int} {s : Str} {h1 h2 : D} (hq : q ∈ shL) (ha : onB q a = true) (h16 : ownAt a16 = false) (g : Bag) : lst_13 ⟨[a0, .dat .bag, a2, .dat (pd q), .dat (.lst ((ptsL q).map pd)), .dat (.lst ((lnB q).map td)), .dat (td t), .dat (pd a), .dat (pd b), .dat (.int (away a b)), .dat (.lst [pd u, pd v]), .dat (.str s), .own [h1, h2], .dat (.lst (sidesL.map (nrD a))), .dat (.lst [.lst (sidesL.map (mvD q a)), .lst (sidesL.map (rmD q a)), nbD q a]), a15, a16, a17, a18, a19, a20, a21, a22, a23], g⟩ = .ok .nx ⟨[a0, .dat .bag, a2, .dat (pd q), .dat (.lst ((ptsL q).map pd)), .dat (.lst ((lnB q).map td)), .dat (td t), .dat (pd a), .dat (pd b), .dat (.int (away a b)), .dat (.lst [pd u, pd v]), .dat (.str s), .own [h1, h2], .dat (.lst (sidesL.map (nrD a))), .dat (.lst [.lst (sidesL.map (mvD q a)), .lst (sidesL.map (rmD q a)), nbD q a]), .dat (.lst [.lst (sidesL.map (mvD q a)), .lst (sidesL.map (rmD q a))]), a16, a17, a18, a19, a20, a21, a22, a23], g⟩ := by
  have c1 : fLc [11, 16] (fIt (fVar 13)) (gUn 2 (gsCons (gSet 11) (gsCons (gSet 16) gsNil))) (ret true) (fIf (fB (fCall M__law_on [(fVar 3), (fVar 16)])) (fVar 16) (ret .non)) ⟨[a0, .dat .bag, a2, .dat (pd q), .dat (.lst ((ptsL q).map pd)), .dat (.lst ((lnB q).map td)), .dat (td t), .dat (pd a), .dat (pd b), .dat (.int (away a b)), .dat (.lst [pd u, pd v]), .dat (.str s), .own [h1, h2], .dat (.lst (sidesL.map (nrD a))), .dat (.lst [.lst (sidesL.map (mvD q a)), .lst (sidesL.map (rmD q a)), nbD q a]), a15, a16, a17, a18, a19, a20, a21, a22, a23], g⟩ = .ok (.lst (sidesL.map (mvD q a))) ⟨[a0, .dat .bag, a2, .dat (pd q), .dat (.lst ((ptsL q).map pd)), .dat (.lst ((lnB q).map td)), .dat (td t), .dat (pd a), .dat (pd b), .dat (.int (away a b)), .dat (.lst [pd u, pd v]), .dat (.str s), .own [h1, h2], .dat (.lst (sidesL.map (nrD a))), .dat (.lst [.lst (sidesL.map (mvD q a)), .lst (sidesL.map (rmD q a)), nbD q a]), a15, a16, a17, a18, a19, a20, a21, a22, a23], g⟩ := by
    refine lc_eq (ds := sidesL.map (nrD a)) (s1 := ⟨[a0, .dat .bag, a2, .dat (pd q), .dat (.lst ((ptsL q).map pd)), .dat (.lst ((lnB q).map td)), .dat (td t), .dat (pd a), .dat (pd b), .dat (.int (away a b)), .dat (.lst [pd u, pd v]), .no, .own [h1, h2], .dat (.lst (sidesL.map (nrD a))), .dat (.lst [.lst (sidesL.map (mvD q a)), .lst (sidesL.map (rmD q a)), nbD q a]), a15, .no, a17, a18, a19, a20, a21, a22, a23], g⟩) rfl (by simp [sidesL]) (by show (!false && (!ownAt a16 && true)) = true; rw [h16]; rfl) ?_ rfl
    have := comp_map (L := sidesL) (it := nrD a) (val := fun z => some ((mvD q a) z)) (vs := [11, 16]) (g := (gUn 2 (gsCons (gSet 11) (gsCons (gSet 16) gsNil)))) (t := (ret true)) (me := (fIf (fB (fCall M__law_on [(fVar 3), (fVar 16)])) (fVar 16) (ret .non))) (s := ⟨[a0, .dat .bag, a2, .dat (pd q), .dat (.lst ((ptsL q).map pd)), .dat (.lst ((lnB q).map td)), .dat (td t), .dat (pd a), .dat (pd b), .dat (.int (away a b)), .dat (.lst [pd u, pd v]), .no, .own [h1, h2], .dat (.lst (sidesL.map (nrD a))), .dat (.lst [.lst (sidesL.map (mvD q a)), .lst (sidesL.map (rmD q a)), nbD q a]), a15, .no, a17, a18, a19, a20, a21, a22, a23], g⟩) fun z hz => by
      have hb := fun g => on_eq q (stp a z) g
      by_cases ho : onB q (stp a z) = true
      · simp [oneM, gUn, gsCons, gsNil, gSet, setSl, bnd, fCall, seqM, fVar, ret, lift, wipeS, nrD, fTup, fIf, fB, opt, asB, fNotV, hb, ho, mvD]
      · simp [oneM, gUn, gsCons, gsNil, gSet, setSl, bnd, fCall, seqM, fVar, ret, lift, wipeS, nrD, fTup, fIf, fB, opt, asB, fNotV, hb, ho, mvD]
    rw [fmap_some] at this
    exact this
  have c2 : fLc [11, 16] (fIt (fVar 13)) (gUn 2 (gsCons (gSet 11) (gsCons (gSet 16) gsNil))) (ret true) (fNotV (fCall M__law_on [(fVar 3), (fVar 16)])) ⟨[a0, .dat .bag, a2, .dat (pd q), .dat (.lst ((ptsL q).map pd)), .dat (.lst ((lnB q).map td)), .dat (td t), .dat (pd a), .dat (pd b), .dat (.int (away a b)), .dat (.lst [pd u, pd v]), .dat (.str s), .own [h1, h2], .dat (.lst (sidesL.map (nrD a))), .dat (.lst [.lst (sidesL.map (mvD q a)), .lst (sidesL.map (rmD q a)), nbD q a]), a15, a16, a17, a18, a19, a20, a21, a22, a23], g⟩ = .ok (.lst (sidesL.map (rmD q a))) ⟨[a0, .dat .bag, a2, .dat (pd q), .dat (.lst ((ptsL q).map pd)), .dat (.lst ((lnB q).map td)), .dat (td t), .dat (pd a), .dat (pd b), .dat (.int (away a b)), .dat (.lst [pd u, pd v]), .dat (.str s), .own [h1, h2], .dat (.lst (sidesL.map (nrD a))), .dat (.lst [.lst (sidesL.map (mvD q a)), .lst (sidesL.map (rmD q a)), nbD q a]), a15, a16, a17, a18, a19, a20, a21, a22, a23], g⟩ := by
    refine lc_eq (ds := sidesL.map (nrD a)) (s1 := ⟨[a0, .dat .bag, a2, .dat (pd q), .dat (.lst ((ptsL q).map pd)), .dat (.lst ((lnB q).map td)), .dat (td t), .dat (pd a), .dat (pd b), .dat (.int (away a b)), .dat (.lst [pd u, pd v]), .no, .own [h1, h2], .dat (.lst (sidesL.map (nrD a))), .dat (.lst [.lst (sidesL.map (mvD q a)), .lst (sidesL.map (rmD q a)), nbD q a]), a15, .no, a17, a18, a19, a20, a21, a22, a23], g⟩) rfl (by simp [sidesL]) (by show (!false && (!ownAt a16 && true)) = true; rw [h16]; rfl) ?_ rfl
    have := comp_map (L := sidesL) (it := nrD a) (val := fun z => some ((rmD q a) z)) (vs := [11, 16]) (g := (gUn 2 (gsCons (gSet 11) (gsCons (gSet 16) gsNil)))) (t := (ret true)) (me := (fNotV (fCall M__law_on [(fVar 3), (fVar 16)]))) (s := ⟨[a0, .dat .bag, a2, .dat (pd q), .dat (.lst ((ptsL q).map pd)), .dat (.lst ((lnB q).map td)), .dat (td t), .dat (pd a), .dat (pd b), .dat (.int (away a b)), .dat (.lst [pd u, pd v]), .no, .own [h1, h2], .dat (.lst (sidesL.map (nrD a))), .dat (.lst [.lst (sidesL.map (mvD q a)), .lst (sidesL.map (rmD q a)), nbD q a]), a15, .no, a17, a18, a19, a20, a21, a22, a23], g⟩) fun z hz => by
      have hb := fun g => on_eq q (stp a z) g
      by_cases ho : onB q (stp a z) = true
      · simp [oneM, gUn, gsCons, gsNil, gSet, setSl, bnd, fCall, seqM, fVar, ret, lift, wipeS, nrD, fTup, fIf, fB, opt, asB, fNotV, hb, ho, rmD]
      · simp [oneM, gUn, gsCons, gsNil, gSet, setSl, bnd, fCall, seqM, fVar, ret, lift, wipeS, nrD, fTup, fIf, fB, opt, asB, fNotV, hb, ho, rmD]
    rw [fmap_some] at this
    exact this
  unfold lst_13
  generalize fLc [11, 16] (fIt (fVar 13)) (gUn 2 (gsCons (gSet 11) (gsCons (gSet 16) gsNil))) (ret true) (fIf (fB (fCall M__law_on [(fVar 3), (fVar 16)])) (fVar 16) (ret .non)) = X1 at c1 ⊢
  generalize fLc [11, 16] (fIt (fVar 13)) (gUn 2 (gsCons (gSet 11) (gsCons (gSet 16) gsNil))) (ret true) (fNotV (fCall M__law_on [(fVar 3), (fVar 16)])) = X2 at c2 ⊢
  simp [fLst, sSet, sAsg, sPar, mDat, fTup, fLst, seqM, fAdd, bnd, ret, fCall, fVar, fSee, lift, addD, gSet, setSl, f2, opt, gUn, gsCons, gsNil, c1, c2]
theorem fm_nb (q a : Int × Int) : ∀ L : List Str, L.filterMap (fun z => if onB q (stp a z) = true then some (nrD a z) else none) = (L.filter fun s => onB q (stp a s)).map fun s => .tup [.str s, pd (stp a s)]
  | [] => rfl
  | z :: L => by
    by_cases h : onB q (stp a z) = true
    · rw [List.filterMap_cons, if_pos h, List.filter_cons, if_pos h, List.map_cons, ← fm_nb q a L]; rfl
    · rw [List.filterMap_cons, if_neg h, List.filter_cons, if_neg h, ← fm_nb q a L]
theorem okMv {q a : Int × Int} (hq : q ∈ shL) (z : Str) : OkW (mvD q a z) 13 1 := by
  unfold mvD
  split
  · rename_i h; exact okPd hq h
  · exact okNon.mono (by omega) (by omega)
theorem okNb {q a : Int × Int} (hq : q ∈ shL) : OkW (nbD q a) 3000 5 := by
  unfold nbD
  refine (okMap (n := 4) (wt := 33) (dep := 2) (fun z hz => ?_) ?_).mono (by omega) (by omega)
  · obtain ⟨h1, h2⟩ := List.mem_filter.mp hz
    refine (okTup (wt := 13) (dep := 1) fun d hd => ?_).mono (by simp) (by omega)
    simp only [List.mem_cons, List.not_mem_nil, or_false] at hd
    rcases hd with rfl | rfl
    · exact (okSide h1).mono (by omega) (by omega)
    · exact okPd hq h2
  · exact Nat.le_trans (List.length_filter_le _ _) (by simp [sidesL])
theorem l14 (a0 a2 a3 a4 a5 a6 a7 a8 a9 a10 a11 a12 a13 a14 a15 a16 a17 a18 a19 a20 a21 a22 a23 : SV) {q a b u v : Int × Int} {t : Int × Int × Int} {s : Str} {h1 h2 : D} (hq : q ∈ shL) (ha : onB q a = true) (h16 : ownAt a16 = false) (g : Bag) : lst_14 ⟨[a0, .dat .bag, a2, .dat (pd q), .dat (.lst ((ptsL q).map pd)), .dat (.lst ((lnB q).map td)), .dat (td t), .dat (pd a), .dat (pd b), .dat (.int (away a b)), .dat (.lst [pd u, pd v]), .dat (.str s), .own [h1, h2], .dat (.lst (sidesL.map (nrD a))), .dat (.lst [.lst (sidesL.map (mvD q a)), .lst (sidesL.map (rmD q a)), nbD q a]), .dat (.lst [.lst (sidesL.map (mvD q a)), .lst (sidesL.map (rmD q a))]), a16, a17, a18, a19, a20, a21, a22, a23], g⟩ = .ok .nx ⟨[a0, .dat .bag, a2, .dat (pd q), .dat (.lst ((ptsL q).map pd)), .dat (.lst ((lnB q).map td)), .dat (td t), .dat (pd a), .dat (pd b), .dat (.int (away a b)), .dat (.lst [pd u, pd v]), .dat (.str s), .own [h1, h2], .dat (.lst (sidesL.map (nrD a))), .dat (.lst [.lst (sidesL.map (mvD q a)), .lst (sidesL.map (rmD q a)), nbD q a]), .dat (.lst [.lst (sidesL.map (mvD q a)), .lst (sidesL.map (rmD q a))]), a16, a17, a18, a19, a20, a21, a22, a23], g⟩ := by
  have c1 : fLc [11, 16] (fIt (fVar 13)) (gUn 2 (gsCons (gSet 11) (gsCons (gSet 16) gsNil))) (fB (fCall M__law_on [(fVar 3), (fVar 16)])) (fTup [(fVar 11), (fVar 16)]) ⟨[a0, .dat .bag, a2, .dat (pd q), .dat (.lst ((ptsL q).map pd)), .dat (.lst ((lnB q).map td)), .dat (td t), .dat (pd a), .dat (pd b), .dat (.int (away a b)), .dat (.lst [pd u, pd v]), .dat (.str s), .own [h1, h2], .dat (.lst (sidesL.map (nrD a))), .dat (.lst [.lst (sidesL.map (mvD q a)), .lst (sidesL.map (rmD q a)), nbD q a]), .dat (.lst [.lst (sidesL.map (mvD q a)), .lst (sidesL.map (rmD q a))]), a16, a17, a18, a19, a20, a21, a22, a23], g⟩ = .ok (.lst (sidesL.filterMap (fun z => if onB q (stp a z) = true then some (nrD a z) else none))) ⟨[a0, .dat .bag, a2, .dat (pd q), .dat (.lst ((ptsL q).map pd)), .dat (.lst ((lnB q).map td)), .dat (td t), .dat (pd a), .dat (pd b), .dat (.int (away a b)), .dat (.lst [pd u, pd v]), .dat (.str s), .own [h1, h2], .dat (.lst (sidesL.map (nrD a))), .dat (.lst [.lst (sidesL.map (mvD q a)), .lst (sidesL.map (rmD q a)), nbD q a]), .dat (.lst [.lst (sidesL.map (mvD q a)), .lst (sidesL.map (rmD q a))]), a16, a17, a18, a19, a20, a21, a22, a23], g⟩ := by
    refine lc_eq (ds := sidesL.map (nrD a)) (s1 := ⟨[a0, .dat .bag, a2, .dat (pd q), .dat (.lst ((ptsL q).map pd)), .dat (.lst ((lnB q).map td)), .dat (td t), .dat (pd a), .dat (pd b), .dat (.int (away a b)), .dat (.lst [pd u, pd v]), .no, .own [h1, h2], .dat (.lst (sidesL.map (nrD a))), .dat (.lst [.lst (sidesL.map (mvD q a)), .lst (sidesL.map (rmD q a)), nbD q a]), .dat (.lst [.lst (sidesL.map (mvD q a)), .lst (sidesL.map (rmD q a))]), .no, a17, a18, a19, a20, a21, a22, a23], g⟩) rfl (by simp [sidesL]) (by show (!false && (!ownAt a16 && true)) = true; rw [h16]; rfl) ?_ rfl
    have := comp_map (L := sidesL) (it := nrD a) (val := (fun z => if onB q (stp a z) = true then some (nrD a z) else none)) (vs := [11, 16]) (g := (gUn 2 (gsCons (gSet 11) (gsCons (gSet 16) gsNil)))) (t := (fB (fCall M__law_on [(fVar 3), (fVar 16)]))) (me := (fTup [(fVar 11), (fVar 16)])) (s := ⟨[a0, .dat .bag, a2, .dat (pd q), .dat (.lst ((ptsL q).map pd)), .dat (.lst ((lnB q).map td)), .dat (td t), .dat (pd a), .dat (pd b), .dat (.int (away a b)), .dat (.lst [pd u, pd v]), .no, .own [h1, h2], .dat (.lst (sidesL.map (nrD a))), .dat (.lst [.lst (sidesL.map (mvD q a)), .lst (sidesL.map (rmD q a)), nbD q a]), .dat (.lst [.lst (sidesL.map (mvD q a)), .lst (sidesL.map (rmD q a))]), .no, a17, a18, a19, a20, a21, a22, a23], g⟩) fun z hz => by
      have hb := fun g => on_eq q (stp a z) g
      by_cases ho : onB q (stp a z) = true
      · simp [oneM, gUn, gsCons, gsNil, gSet, setSl, bnd, fCall, seqM, fVar, ret, lift, wipeS, nrD, fTup, fIf, fB, opt, asB, fNotV, hb, ho, asB]
      · simp [oneM, gUn, gsCons, gsNil, gSet, setSl, bnd, fCall, seqM, fVar, ret, lift, wipeS, nrD, fTup, fIf, fB, opt, asB, fNotV, hb, ho, asB]
    exact this
  rw [fm_nb] at c1
  change _ = Res.ok (nbD q a) _ at c1
  have al := alike3 (ds := [.lst (sidesL.map (mvD q a)), .lst (sidesL.map (rmD q a)), nbD q a]) g (fun d hd => by
    simp only [List.mem_cons, List.not_mem_nil, or_false] at hd
    rcases hd with rfl | rfl | rfl
    · exact (okMap (n := 4) (fun z hz => okMv hq z) (by simp [sidesL])).mono (by omega) (by omega)
    · exact (okMap (n := 4) (fun z hz => okBl _) (by simp [sidesL])).mono (by omega) (by omega)
    · exact okNb hq) (by simp)
  have sz : (3 : Nat) ≤ sizeLine := by rw [sizeLine_eq]; omega
  unfold lst_14
  generalize fLc [11, 16] (fIt (fVar 13)) (gUn 2 (gsCons (gSet 11) (gsCons (gSet 16) gsNil))) (fB (fCall M__law_on [(fVar 3), (fVar 16)])) (fTup [(fVar 11), (fVar 16)]) = X1 at c1 ⊢
  simp [sIf, fNot, fB, fLst, sSet, sAsg, sPar, mDat, fTup, fLst, seqM, fAdd, bnd, ret, fCall, fVar, fSee, lift, addD, gSet, setSl, f2, opt, gUn, gsCons, gsNil, c1, sz, al, asB]
end Ink.K01

set_option Elab.async false
set_option maxRecDepth 1000000
set_option autoImplicit false
set_option linter.all false
namespace Ink.K01
open PySem PySem.W PyProof.Rows
theorem lc_eqb {vs : List Nat} {src : Ex (List D)} {g : D → Ex Unit} {t : Ex Bool} {me : Ex D} {s s0 s1 s2 : AS} {ds ys : List D} (hsrc : src s = .ok ds s0) (hl : ds.length ≤ 16777216) (hok : okW vs s0 = true) (hc : compM vs g t me ds (wipeS vs s0) = .ok ys s1) (hr : restS vs s0 s1 = s2) : fLc vs src g t me s = .ok (.lst ys) s2 := by
  unfold fLc
  rw [bnd_ok' hsrc, if_pos ⟨hl, hok⟩, hc]
  show Res.ok _ _ = _
  rw [hr]
theorem ex_map {α : Type} {f : α → D} {L : List α} : ∀ {ys : List D}, (∀ y ∈ ys, ∃ z ∈ L, y = f z) → ∃ ss : List α, ys = ss.map f ∧ ∀ z ∈ ss, z ∈ L
  | [], _ => ⟨[], rfl, fun _ h => nomatch h⟩
  | y :: ys, h => by
    obtain ⟨z, hz, e⟩ := h y List.mem_cons_self
    obtain ⟨ss, e2, h2⟩ := ex_map fun y hy => h y (List.mem_cons_of_mem _ hy)
    refine ⟨z :: ss, by rw [e, e2, List.map_cons], fun x hx => ?_⟩
    rcases List.mem_cons.mp hx with ex | hx
    · rw [ex]; exact hz
    · exact h2 x hx
def wkD (q a : Int × Int) (ss : List Str) : D := match wkS q a ss with
  | some l => .tup [.lst ((a :: l).map pd), .lst (lnsW a l)]
  | none => .non
def w1 (q a : Int × Int) (ss : List Str) : D := match wkS q a ss with
  | some l => .tup [.str "told", .lst ((a :: l).map pd)]
  | none => nN
def w2 (q a : Int × Int) (ss : List Str) : D := match wkS q a ss with
  | some l => .tup [.str "told", .lst (lnsW a l)]
  | none => nN
theorem wk_on {q : Int × Int} : ∀ {ss : List Str} {p : Int × Int} {l : List (Int × Int)}, wkS q p ss = some l → (∀ r ∈ l, onB q r = true) ∧ l.length = ss.length
  | [], p, l, h => by
    unfold wkS at h
    cases h
    exact ⟨(fun _ h => nomatch h), rfl⟩
  | s :: ss, p, l, h => by
    unfold wkS at h
    by_cases ho : onB q (stp p s) = true
    · rw [if_pos ho] at h
      obtain ⟨l', hl', rfl⟩ := Option.map_eq_some_iff.mp h
      obtain ⟨i1, i2⟩ := wk_on hl'
      refine ⟨fun r hr => ?_, by rw [List.length_cons, List.length_cons, i2]⟩
      rcases List.mem_cons.mp hr with e | hr
      · rw [e]; exact ho
      · exact i1 r hr
    · rw [if_neg ho] at h; cases h
theorem okLn {q a b : Int × Int} (hq : q ∈ shL) (ha : onB q a = true) (hb : onB q b = true) : OkW (lnD a b) 18 1 := by
  obtain ⟨a1, a2, a3, a4⟩ := on_bd hq ha
  obtain ⟨b1, b2, b3, b4⟩ := on_bd hq hb
  unfold lnD
  split
  · refine okTup (wt := 3) (dep := 0) fun d hd => ?_
    simp only [List.mem_cons, List.not_mem_nil, or_false] at hd
    rcases hd with rfl | rfl | rfl
    · exact okInt (by omega) (by omega)
    · exact okInt (by omega) (by omega)
    · exact okInt (by split <;> omega) (by split <;> omega)
  · refine okTup (wt := 3) (dep := 0) fun d hd => ?_
    simp only [List.mem_cons, List.not_mem_nil, or_false] at hd
    rcases hd with rfl | rfl | rfl
    · exact okInt (by omega) (by omega)
    · exact okInt (by omega) (by omega)
    · exact okInt (by split <;> omega) (by split <;> omega)
theorem okLns {q : Int × Int} (hq : q ∈ shL) : ∀ {l : List (Int × Int)} {p : Int × Int}, onB q p = true → (∀ r ∈ l, onB q r = true) → (∀ d ∈ lnsW p l, OkW d 18 1) ∧ (lnsW p l).length = l.length
  | [], p, _, _ => ⟨(fun _ h => nomatch h), rfl⟩
  | r :: l, p, hp, h => by
    obtain ⟨i1, i2⟩ := okLns hq (l := l) (p := r) (h r List.mem_cons_self) fun x hx => h x (List.mem_cons_of_mem _ hx)
    refine ⟨fun d hd => ?_, by show _ + 1 = _ + 1; rw [i2]⟩
    rcases List.mem_cons.mp hd with e | hd
    · rw [e]; exact okLn hq hp (h r List.mem_cons_self)
    · exact i1 d hd
theorem okR {q a : Int × Int} {ss : List Str} {l : List (Int × Int)} (hq : q ∈ shL) (ha : onB q a = true) (hw : wkS q a ss = some l) (hn : ss.length ≤ 20) : OkW (.lst ((a :: l).map pd)) 400 2 ∧ OkW (.lst (lnsW a l)) 500 2 := by
  obtain ⟨h1, h2⟩ := wk_on hw
  obtain ⟨h3, h4⟩ := okLns hq ha h1
  refine ⟨(okMap (n := 21) (fun p hp => okPd hq ?_) (by rw [List.length_cons]; omega)).mono (by omega) (by omega), (okLst h3).mono ?_ (by omega)⟩
  · rcases List.mem_cons.mp hp with e | hp
    · rw [e]; exact ha
    · exact h1 p hp
  · rw [h4, h2]; omega
theorem okTold : OkW (.str "told") 6 0 := okStr (by decide +kernel) (by decide +kernel) (by decide +kernel)
theorem okNoth : OkW (.str "nothing") 9 0 := okStr (by decide +kernel) (by decide +kernel) (by decide +kernel)
theorem okNN : OkW nN 3000 5 := (okTup (wt := 9) (dep := 0) fun d hd => by
  simp only [List.mem_cons, List.not_mem_nil, or_false] at hd
  rw [hd]; exact okNoth).mono (by simp) (by omega)
theorem okW1 {q a : Int × Int} {ss : List Str} (hq : q ∈ shL) (ha : onB q a = true) (hn : ss.length ≤ 20) : OkW (w1 q a ss) 3000 5 ∧ OkW (w2 q a ss) 3000 5 := by
  unfold w1 w2
  cases h : wkS q a ss with
  | none => exact ⟨okNN, okNN⟩
  | some l =>
    obtain ⟨r1, r2⟩ := okR hq ha h hn
    refine ⟨(okTup (wt := 500) (dep := 2) fun d hd => ?_).mono (by simp) (by omega), (okTup (wt := 500) (dep := 2) fun d hd => ?_).mono (by simp) (by omega)⟩
    · simp only [List.mem_cons, List.not_mem_nil, or_false] at hd
      rcases hd with rfl | rfl
      · exact okTold.mono (by omega) (by omega)
      · exact r1.mono (by omega) (by omega)
    · simp only [List.mem_cons, List.not_mem_nil, or_false] at hd
      rcases hd with rfl | rfl
      · exact okTold.mono (by omega) (by omega)
      · exact r2.mono (by omega) (by omega)
theorem l15 (a0 a2 a3 a4 a5 a6 a7 a8 a9 a10 a11 a12 a13 a14 a15 a16 a17 a18 a19 a20 a21 a22 a23 : SV) {q a b u v : Int × Int} {t : Int × Int × Int} {s : Str} {h1 h2 : D} (h18 : ownAt a18 = false) (g : Bag) (hg : Good g) : ∃ (ss : List Str) (g' : Bag), (∀ z ∈ ss, z ∈ sidesL) ∧ ss.length ≤ 8 ∧ Good g' ∧ lst_15 ⟨[a0, .dat .bag, a2, .dat (pd q), .dat (.lst ((ptsL q).map pd)), .dat (.lst ((lnB q).map td)), .dat (td t), .dat (pd a), .dat (pd b), .dat (.int (away a b)), .dat (.lst [pd u, pd v]), .dat (.str s), .own [h1, h2], .dat (.lst (sidesL.map (nrD a))), .dat (.lst [.lst (sidesL.map (mvD q a)), .lst (sidesL.map (rmD q a)), nbD q a]), .dat (.lst [.lst (sidesL.map (mvD q a)), .lst (sidesL.map (rmD q a))]), a16, a17, a18, a19, a20, a21, a22, a23], g⟩ = .ok .nx ⟨[a0, .dat .bag, a2, .dat (pd q), .dat (.lst ((ptsL q).map pd)), .dat (.lst ((lnB q).map td)), .dat (td t), .dat (pd a), .dat (pd b), .dat (.int (away a b)), .dat (.lst [pd u, pd v]), .dat (.str s), .own [h1, h2], .dat (.lst (sidesL.map (nrD a))), .dat (.lst [.lst (sidesL.map (mvD q a)), .lst (sidesL.map (rmD q a)), nbD q a]), .dat (.lst [.lst (sidesL.map (mvD q a)), .lst (sidesL.map (rmD q a))]), a16, .dat (.lst (ss.map D.str)), a18, a19, a20, a21, a22, a23], g'⟩ := by
  obtain ⟨v1, g1, e1, p1, q1, k1⟩ := take_ok g 8 hg (by omega) (by omega)
  have hr : rngD 0 v1 = some ((List.range (v1 - 0).toNat).map fun i => D.int (0 + (i : Nat))) := by
    unfold rngD
    rw [if_pos (by omega)]
  generalize hds : (List.range (v1 - 0).toNat).map (fun i => D.int (0 + ((i : Nat) : Int))) = ds at hr
  have hdl : ds.length ≤ 8 := by rw [← hds, List.length_map, List.length_range]; omega
  have hsrc : fRng1 (fCall M__law_take [(fVar 1), (ret (.int 8))]) ⟨[a0, .dat .bag, a2, .dat (pd q), .dat (.lst ((ptsL q).map pd)), .dat (.lst ((lnB q).map td)), .dat (td t), .dat (pd a), .dat (pd b), .dat (.int (away a b)), .dat (.lst [pd u, pd v]), .dat (.str s), .own [h1, h2], .dat (.lst (sidesL.map (nrD a))), .dat (.lst [.lst (sidesL.map (mvD q a)), .lst (sidesL.map (rmD q a)), nbD q a]), .dat (.lst [.lst (sidesL.map (mvD q a)), .lst (sidesL.map (rmD q a))]), a16, a17, a18, a19, a20, a21, a22, a23], g⟩ = .ok ds ⟨[a0, .dat .bag, a2, .dat (pd q), .dat (.lst ((ptsL q).map pd)), .dat (.lst ((lnB q).map td)), .dat (td t), .dat (pd a), .dat (pd b), .dat (.int (away a b)), .dat (.lst [pd u, pd v]), .dat (.str s), .own [h1, h2], .dat (.lst (sidesL.map (nrD a))), .dat (.lst [.lst (sidesL.map (mvD q a)), .lst (sidesL.map (rmD q a)), nbD q a]), .dat (.lst [.lst (sidesL.map (mvD q a)), .lst (sidesL.map (rmD q a))]), a16, a17, a18, a19, a20, a21, a22, a23], g1⟩ := by
    simp [fRng1, bnd, fCall, seqM, fVar, ret, opt, lift, e1, asI, hr]
  obtain ⟨ys, g2, e2, p2, l2, k2⟩ := comp_bag (vs := [18]) (g := gSet 18) (t := ret true) (me := (fCall M__law_some [(fVar 1), (fLst [(ret (.str "e")), (ret (.str "n")), (ret (.str "s")), (ret (.str "w"))])])) (P := fun y => ∃ z ∈ sidesL, y = D.str z) (sl := (⟨[a0, .dat .bag, a2, .dat (pd q), .dat (.lst ((ptsL q).map pd)), .dat (.lst ((lnB q).map td)), .dat (td t), .dat (pd a), .dat (pd b), .dat (.int (away a b)), .dat (.lst [pd u, pd v]), .dat (.str s), .own [h1, h2], .dat (.lst (sidesL.map (nrD a))), .dat (.lst [.lst (sidesL.map (mvD q a)), .lst (sidesL.map (rmD q a)), nbD q a]), .dat (.lst [.lst (sidesL.map (mvD q a)), .lst (sidesL.map (rmD q a))]), a16, a17, .no, a19, a20, a21, a22, a23], g⟩ : AS).sl) (ds := ds) k1 fun d hd b hb => by
    obtain ⟨y, b', e, hy, hb'⟩ := some_ok (xs := [.str "e", .str "n", .str "s", .str "w"]) hb (by simp) (by simp)
    refine ⟨y, b', ?_, ?_, hb'⟩
    · simp [oneM, bnd, gSet, ret, setSl, fCall, seqM, fVar, fLst, lift, e, wipeS]
    · simp only [List.mem_cons, List.not_mem_nil, or_false] at hy
      rcases hy with rfl | rfl | rfl | rfl
      · exact ⟨"e", by simp [sidesL], rfl⟩
      · exact ⟨"n", by simp [sidesL], rfl⟩
      · exact ⟨"s", by simp [sidesL], rfl⟩
      · exact ⟨"w", by simp [sidesL], rfl⟩
  obtain ⟨ss, rfl, hss⟩ := ex_map p2
  have c1 : fLc [18] (fRng1 (fCall M__law_take [(fVar 1), (ret (.int 8))])) (gSet 18) (ret true) (fCall M__law_some [(fVar 1), (fLst [(ret (.str "e")), (ret (.str "n")), (ret (.str "s")), (ret (.str "w"))])]) ⟨[a0, .dat .bag, a2, .dat (pd q), .dat (.lst ((ptsL q).map pd)), .dat (.lst ((lnB q).map td)), .dat (td t), .dat (pd a), .dat (pd b), .dat (.int (away a b)), .dat (.lst [pd u, pd v]), .dat (.str s), .own [h1, h2], .dat (.lst (sidesL.map (nrD a))), .dat (.lst [.lst (sidesL.map (mvD q a)), .lst (sidesL.map (rmD q a)), nbD q a]), .dat (.lst [.lst (sidesL.map (mvD q a)), .lst (sidesL.map (rmD q a))]), a16, a17, a18, a19, a20, a21, a22, a23], g⟩ = .ok (.lst (ss.map D.str)) ⟨[a0, .dat .bag, a2, .dat (pd q), .dat (.lst ((ptsL q).map pd)), .dat (.lst ((lnB q).map td)), .dat (td t), .dat (pd a), .dat (pd b), .dat (.int (away a b)), .dat (.lst [pd u, pd v]), .dat (.str s), .own [h1, h2], .dat (.lst (sidesL.map (nrD a))), .dat (.lst [.lst (sidesL.map (mvD q a)), .lst (sidesL.map (rmD q a)), nbD q a]), .dat (.lst [.lst (sidesL.map (mvD q a)), .lst (sidesL.map (rmD q a))]), a16, a17, a18, a19, a20, a21, a22, a23], g2⟩ := lc_eqb hsrc (by omega) (by show (!ownAt a18 && true) = true; rw [h18]; rfl) e2 rfl
  refine ⟨ss, g2, hss, by rw [List.length_map] at l2; omega, k2, ?_⟩
  unfold lst_15
  generalize fLc [18] (fRng1 (fCall M__law_take [(fVar 1), (ret (.int 8))])) (gSet 18) (ret true) (fCall M__law_some [(fVar 1), (fLst [(ret (.str "e")), (ret (.str "n")), (ret (.str "s")), (ret (.str "w"))])]) = X1 at c1 ⊢
  simp [sSet, bnd, c1, gSet, setSl, ret]
theorem l16 (a0 a2 a3 a4 a5 a6 a7 a8 a9 a10 a11 a12 a13 a14 a15 a16 a17 a18 a19 a20 a21 a22 a23 : SV) {q a b u v : Int × Int} {t : Int × Int × Int} {s : Str} {h1 h2 : D} {ss : List Str} (hq : q ∈ shL) (ha : onB q a = true) (hb : onB q b = true) (hss : ∀ z ∈ ss, z ∈ sidesL) (hn : ss.length ≤ 8) (g : Bag) : lst_16 ⟨[a0, .dat .bag, a2, .dat (pd q), .dat (.lst ((ptsL q).map pd)), .dat (.lst ((lnB q).map td)), .dat (td t), .dat (pd a), .dat (pd b), .dat (.int (away a b)), .dat (.lst [pd u, pd v]), .dat (.str s), .own [h1, h2], .dat (.lst (sidesL.map (nrD a))), .dat (.lst [.lst (sidesL.map (mvD q a)), .lst (sidesL.map (rmD q a)), nbD q a]), .dat (.lst [.lst (sidesL.map (mvD q a)), .lst (sidesL.map (rmD q a))]), a16, .dat (.lst (ss.map D.str)), a18, a19, a20, a21, a22, a23], g⟩ = .ok .nx ⟨[a0, .dat .bag, a2, .dat (pd q), .dat (.lst ((ptsL q).map pd)), .dat (.lst ((lnB q).map td)), .dat (td t), .dat (pd a), .dat (pd b), .dat (.int (away a b)), .dat (.lst [pd u, pd v]), .dat (.str s), .own [h1, h2], .dat (.lst (sidesL.map (nrD a))), .dat (.lst [.lst (sidesL.map (mvD q a)), .lst (sidesL.map (rmD q a)), nbD q a]), .dat (.lst [.lst (sidesL.map (mvD q a)), .lst (sidesL.map (rmD q a))]), a16, .dat (.lst (ss.map D.str)), a18, .dat (wkD q a ss), a20, a21, a22, a23], g⟩ := by
  have c1 : fLc [11] (fIt (fVar 17)) (gSet 11) (ret true) (fTup [(fVar 11), (ret (.bl true))]) ⟨[a0, .dat .bag, a2, .dat (pd q), .dat (.lst ((ptsL q).map pd)), .dat (.lst ((lnB q).map td)), .dat (td t), .dat (pd a), .dat (pd b), .dat (.int (away a b)), .dat (.lst [pd u, pd v]), .dat (.str s), .own [h1, h2], .dat (.lst (sidesL.map (nrD a))), .dat (.lst [.lst (sidesL.map (mvD q a)), .lst (sidesL.map (rmD q a)), nbD q a]), .dat (.lst [.lst (sidesL.map (mvD q a)), .lst (sidesL.map (rmD q a))]), a16, .dat (.lst (ss.map D.str)), a18, a19, a20, a21, a22, a23], g⟩ = .ok (.lst (ss.map tk)) ⟨[a0, .dat .bag, a2, .dat (pd q), .dat (.lst ((ptsL q).map pd)), .dat (.lst ((lnB q).map td)), .dat (td t), .dat (pd a), .dat (pd b), .dat (.int (away a b)), .dat (.lst [pd u, pd v]), .dat (.str s), .own [h1, h2], .dat (.lst (sidesL.map (nrD a))), .dat (.lst [.lst (sidesL.map (mvD q a)), .lst (sidesL.map (rmD q a)), nbD q a]), .dat (.lst [.lst (sidesL.map (mvD q a)), .lst (sidesL.map (rmD q a))]), a16, .dat (.lst (ss.map D.str)), a18, a19, a20, a21, a22, a23], g⟩ := by
    refine lc_eq (ds := ss.map D.str) (s1 := ⟨[a0, .dat .bag, a2, .dat (pd q), .dat (.lst ((ptsL q).map pd)), .dat (.lst ((lnB q).map td)), .dat (td t), .dat (pd a), .dat (pd b), .dat (.int (away a b)), .dat (.lst [pd u, pd v]), .no, .own [h1, h2], .dat (.lst (sidesL.map (nrD a))), .dat (.lst [.lst (sidesL.map (mvD q a)), .lst (sidesL.map (rmD q a)), nbD q a]), .dat (.lst [.lst (sidesL.map (mvD q a)), .lst (sidesL.map (rmD q a))]), a16, .dat (.lst (ss.map D.str)), a18, a19, a20, a21, a22, a23], g⟩) rfl (by rw [List.length_map]; omega) rfl ?_ rfl
    have := comp_map (L := ss) (it := D.str) (val := fun z => some (tk z)) (vs := [11]) (g := gSet 11) (t := ret true) (me := fTup [(fVar 11), (ret (.bl true))]) (s := ⟨[a0, .dat .bag, a2, .dat (pd q), .dat (.lst ((ptsL q).map pd)), .dat (.lst ((lnB q).map td)), .dat (td t), .dat (pd a), .dat (pd b), .dat (.int (away a b)), .dat (.lst [pd u, pd v]), .no, .own [h1, h2], .dat (.lst (sidesL.map (nrD a))), .dat (.lst [.lst (sidesL.map (mvD q a)), .lst (sidesL.map (rmD q a)), nbD q a]), .dat (.lst [.lst (sidesL.map (mvD q a)), .lst (sidesL.map (rmD q a))]), a16, .dat (.lst (ss.map D.str)), a18, a19, a20, a21, a22, a23], g⟩) fun z hz => by
      simp [oneM, gSet, setSl, bnd, seqM, fVar, ret, wipeS, fTup]
    rw [fmap_some] at this
    exact this
  have hw : ∀ g, M__law_walk [pd q, pd a, .lst (ss.map tk)] g = .ok (wkD q a ss) g := fun g => by
    rw [law_walk_eq hq ((on_mem hq).mpr ha) hss (by omega) g]
    unfold wkD
    cases wkS q a ss <;> rfl
  unfold lst_16
  generalize fLc [11] (fIt (fVar 17)) (gSet 11) (ret true) (fTup [(fVar 11), (ret (.bl true))]) = X1 at c1 ⊢
  simp [sSet, bnd, fCall, seqM, fVar, ret, c1, lift, hw, gSet, setSl]
theorem l17 (a0 a2 a3 a4 a5 a6 a7 a8 a9 a10 a11 a12 a13 a14 a15 a16 a17 a18 a19 a20 a21 a22 a23 : SV) {q a b u v : Int × Int} {t : Int × Int × Int} {s : Str} {h1 h2 : D} {ss : List Str} (hq : q ∈ shL) (ha : onB q a = true) (hb : onB q b = true) (hss : ∀ z ∈ ss, z ∈ sidesL) (hn : ss.length ≤ 8) (g : Bag) : lst_17 ⟨[a0, .dat .bag, a2, .dat (pd q), .dat (.lst ((ptsL q).map pd)), .dat (.lst ((lnB q).map td)), .dat (td t), .dat (pd a), .dat (pd b), .dat (.int (away a b)), .dat (.lst [pd u, pd v]), .dat (.str s), .own [h1, h2], .dat (.lst (sidesL.map (nrD a))), .dat (.lst [.lst (sidesL.map (mvD q a)), .lst (sidesL.map (rmD q a)), nbD q a]), .dat (.lst [.lst (sidesL.map (mvD q a)), .lst (sidesL.map (rmD q a))]), a16, .dat (.lst (ss.map D.str)), a18, .dat (wkD q a ss), a20, a21, a22, a23], g⟩ = .ok .nx ⟨[a0, .dat .bag, a2, .dat (pd q), .dat (.lst ((ptsL q).map pd)), .dat (.lst ((lnB q).map td)), .dat (td t), .dat (pd a), .dat (pd b), .dat (.int (away a b)), .dat (.lst [pd u, pd v]), .dat (.str s), .own [w1 q a ss], .dat (.lst (sidesL.map (nrD a))), .dat (.lst [.lst (sidesL.map (mvD q a)), .lst (sidesL.map (rmD q a)), nbD q a]), .dat (.lst [.lst (sidesL.map (mvD q a)), .lst (sidesL.map (rmD q a))]), a16, .dat (.lst (ss.map D.str)), a18, .dat (wkD q a ss), a20, a21, a22, a23], g⟩ := by
  have e := walked_eq hq ((on_mem hq).mpr ha) hss (by omega) g
  unfold lst_17 w1
  cases h : wkS q a ss with
  | none => rw [h] at e; exact put_own (i := 12) (heard_exn (call_exn (ds := [pd q, pd a, .lst (ss.map D.str)]) rfl e))
  | some l => rw [h] at e; exact put_own (i := 12) (heard_ok (call_same (ds := [pd q, pd a, .lst (ss.map D.str)]) rfl e))
theorem l18 (a0 a2 a3 a4 a5 a6 a7 a8 a9 a10 a11 a12 a13 a14 a15 a16 a17 a18 a19 a20 a21 a22 a23 : SV) {q a b u v : Int × Int} {t : Int × Int × Int} {s : Str} {h1 h2 : D} {ss : List Str} (hq : q ∈ shL) (ha : onB q a = true) (hb : onB q b = true) (hss : ∀ z ∈ ss, z ∈ sidesL) (hn : ss.length ≤ 8) (g : Bag) : lst_18 ⟨[a0, .dat .bag, a2, .dat (pd q), .dat (.lst ((ptsL q).map pd)), .dat (.lst ((lnB q).map td)), .dat (td t), .dat (pd a), .dat (pd b), .dat (.int (away a b)), .dat (.lst [pd u, pd v]), .dat (.str s), .own [w1 q a ss], .dat (.lst (sidesL.map (nrD a))), .dat (.lst [.lst (sidesL.map (mvD q a)), .lst (sidesL.map (rmD q a)), nbD q a]), .dat (.lst [.lst (sidesL.map (mvD q a)), .lst (sidesL.map (rmD q a))]), a16, .dat (.lst (ss.map D.str)), a18, .dat (wkD q a ss), a20, a21, a22, a23], g⟩ = .ok .nx ⟨[a0, .dat .bag, a2, .dat (pd q), .dat (.lst ((ptsL q).map pd)), .dat (.lst ((lnB q).map td)), .dat (td t), .dat (pd a), .dat (pd b), .dat (.int (away a b)), .dat (.lst [pd u, pd v]), .dat (.str s), .own [w1 q a ss, w2 q a ss], .dat (.lst (sidesL.map (nrD a))), .dat (.lst [.lst (sidesL.map (mvD q a)), .lst (sidesL.map (rmD q a)), nbD q a]), .dat (.lst [.lst (sidesL.map (mvD q a)), .lst (sidesL.map (rmD q a))]), a16, .dat (.lst (ss.map D.str)), a18, .dat (wkD q a ss), a20, a21, a22, a23], g⟩ := by
  have e := lines_walked_eq hq ((on_mem hq).mpr ha) hss (by omega) (fun l hl => by rw [(wk_on hl).2]; omega) g
  unfold lst_18
  have hw2 : w2 q a ss = match wkS q a ss with | some l => .tup [.str "told", .lst (lnsW a l)] | none => nN := rfl
  cases h : wkS q a ss with
  | none =>
    rw [h] at e hw2
    have := app_own (i := 12) (xs := [w1 q a ss]) (s := ⟨[a0, .dat .bag, a2, .dat (pd q), .dat (.lst ((ptsL q).map pd)), .dat (.lst ((lnB q).map td)), .dat (td t), .dat (pd a), .dat (pd b), .dat (.int (away a b)), .dat (.lst [pd u, pd v]), .dat (.str s), .own [w1 q a ss], .dat (.lst (sidesL.map (nrD a))), .dat (.lst [.lst (sidesL.map (mvD q a)), .lst (sidesL.map (rmD q a)), nbD q a]), .dat (.lst [.lst (sidesL.map (mvD q a)), .lst (sidesL.map (rmD q a))]), a16, .dat (.lst (ss.map D.str)), a18, .dat (wkD q a ss), a20, a21, a22, a23], g⟩) rfl (by show 1 < 1000; omega) (heard_exn (call_exn (M := M_lines_walked) (ms := [(fVar 3), (fVar 7), (fVar 17)]) (ds := [pd q, pd a, .lst (ss.map D.str)]) rfl e))
    rw [hw2]; exact this
  | some l =>
    rw [h] at e hw2
    have := app_own (i := 12) (xs := [w1 q a ss]) (s := ⟨[a0, .dat .bag, a2, .dat (pd q), .dat (.lst ((ptsL q).map pd)), .dat (.lst ((lnB q).map td)), .dat (td t), .dat (pd a), .dat (pd b), .dat (.int (away a b)), .dat (.lst [pd u, pd v]), .dat (.str s), .own [w1 q a ss], .dat (.lst (sidesL.map (nrD a))), .dat (.lst [.lst (sidesL.map (mvD q a)), .lst (sidesL.map (rmD q a)), nbD q a]), .dat (.lst [.lst (sidesL.map (mvD q a)), .lst (sidesL.map (rmD q a))]), a16, .dat (.lst (ss.map D.str)), a18, .dat (wkD q a ss), a20, a21, a22, a23], g⟩) rfl (by show 1 < 1000; omega) (heard_ok (call_same (M := M_lines_walked) (ms := [(fVar 3), (fVar 7), (fVar 17)]) (ds := [pd q, pd a, .lst (ss.map D.str)]) rfl e))
    rw [hw2]; exact this
theorem l19 (a0 a2 a3 a4 a5 a6 a7 a8 a9 a10 a11 a12 a13 a14 a15 a16 a17 a18 a19 a20 a21 a22 a23 : SV) {q a b u v : Int × Int} {t : Int × Int × Int} {s : Str} {h1 h2 : D} {ss : List Str} (hq : q ∈ shL) (ha : onB q a = true) (hb : onB q b = true) (hss : ∀ z ∈ ss, z ∈ sidesL) (hn : ss.length ≤ 8) (h20 : ownAt a20 = false) (g : Bag) : lst_19 ⟨[a0, .dat .bag, a2, .dat (pd q), .dat (.lst ((ptsL q).map pd)), .dat (.lst ((lnB q).map td)), .dat (td t), .dat (pd a), .dat (pd b), .dat (.int (away a b)), .dat (.lst [pd u, pd v]), .dat (.str s), .own [w1 q a ss, w2 q a ss], .dat (.lst (sidesL.map (nrD a))), .dat (.lst [.lst (sidesL.map (mvD q a)), .lst (sidesL.map (rmD q a)), nbD q a]), .dat (.lst [.lst (sidesL.map (mvD q a)), .lst (sidesL.map (rmD q a))]), a16, .dat (.lst (ss.map D.str)), a18, .dat (wkD q a ss), a20, a21, a22, a23], g⟩ = .ok .nx ⟨[a0, .dat .bag, a2, .dat (pd q), .dat (.lst ((ptsL q).map pd)), .dat (.lst ((lnB q).map td)), .dat (td t), .dat (pd a), .dat (pd b), .dat (.int (away a b)), .dat (.lst [pd u, pd v]), .dat (.str s), .dat (.lst [w1 q a ss, w2 q a ss]), .dat (.lst (sidesL.map (nrD a))), .dat (.lst [.lst (sidesL.map (mvD q a)), .lst (sidesL.map (rmD q a)), nbD q a]), .dat (.lst [.lst (sidesL.map (mvD q a)), .lst (sidesL.map (rmD q a))]), a16, .dat (.lst (ss.map D.str)), a18, .dat (wkD q a ss), a20, a21, a22, a23], g⟩ := by
  obtain ⟨o1, o2⟩ := okW1 (ss := ss) hq ha (by omega)
  have al := alike3 (ds := [w1 q a ss, w2 q a ss]) g (fun d hd => by
    simp only [List.mem_cons, List.not_mem_nil, or_false] at hd
    rcases hd with rfl | rfl
    · exact o1
    · exact o2) (by simp)
  have m2 := mul2
  unfold lst_19
  have hw1 : w1 q a ss = match wkS q a ss with | some l => .tup [.str "told", .lst ((a :: l).map pd)] | none => nN := rfl
  have hw2 : w2 q a ss = match wkS q a ss with | some l => .tup [.str "told", .lst (lnsW a l)] | none => nN := rfl
  have hwd : wkD q a ss = match wkS q a ss with | some l => .tup [.lst ((a :: l).map pd), .lst (lnsW a l)] | none => .non := rfl
  generalize w1 q a ss = W1 at *
  generalize w2 q a ss = W2 at *
  generalize wkD q a ss = WD at *
  cases h : wkS q a ss with
  | none =>
    rw [h] at hw1 hw2 hwd
    dsimp only at hw1 hw2 hwd
    subst hw1 hw2 hwd
    have i : gIsN .non .non = some (.bl false) := rfl
    generalize fMul (fLst [(fTup [(ret (.str "nothing"))])]) (ret (.int 2)) = X at m2 ⊢
    simp [sIf, fNot, fB, fIf, bnd, fCall, seqM, fVar, fSee, ret, opt, f2, i, asB, setSl, m2, lift, al]
  | some l =>
    rw [h] at hw1 hw2 hwd
    dsimp only at hw1 hw2 hwd
    subst hw1 hw2 hwd
    have i : gIsN (.tup [.lst ((a :: l).map pd), .lst (lnsW a l)]) .non = some (.bl true) := rfl
    generalize D.lst ((a :: l).map pd) = R1 at *
    generalize D.lst (lnsW a l) = R2 at *
    have c1 : fLc [20] (fIt (fVar 19)) (gSet 20) (ret true) (fTup [(ret (.str "told")), (fVar 20)]) ⟨[a0, .dat .bag, a2, .dat (pd q), .dat (.lst ((ptsL q).map pd)), .dat (.lst ((lnB q).map td)), .dat (td t), .dat (pd a), .dat (pd b), .dat (.int (away a b)), .dat (.lst [pd u, pd v]), .dat (.str s), .dat (.lst [.tup [.str "told", R1], .tup [.str "told", R2]]), .dat (.lst (sidesL.map (nrD a))), .dat (.lst [.lst (sidesL.map (mvD q a)), .lst (sidesL.map (rmD q a)), nbD q a]), .dat (.lst [.lst (sidesL.map (mvD q a)), .lst (sidesL.map (rmD q a))]), a16, .dat (.lst (ss.map D.str)), a18, .dat (.tup [R1, R2]), a20, a21, a22, a23], g⟩ = .ok (.lst [.tup [.str "told", R1], .tup [.str "told", R2]]) ⟨[a0, .dat .bag, a2, .dat (pd q), .dat (.lst ((ptsL q).map pd)), .dat (.lst ((lnB q).map td)), .dat (td t), .dat (pd a), .dat (pd b), .dat (.int (away a b)), .dat (.lst [pd u, pd v]), .dat (.str s), .dat (.lst [.tup [.str "told", R1], .tup [.str "told", R2]]), .dat (.lst (sidesL.map (nrD a))), .dat (.lst [.lst (sidesL.map (mvD q a)), .lst (sidesL.map (rmD q a)), nbD q a]), .dat (.lst [.lst (sidesL.map (mvD q a)), .lst (sidesL.map (rmD q a))]), a16, .dat (.lst (ss.map D.str)), a18, .dat (.tup [R1, R2]), a20, a21, a22, a23], g⟩ := by
      refine lc_eq (ds := [R1, R2]) (s1 := ⟨[a0, .dat .bag, a2, .dat (pd q), .dat (.lst ((ptsL q).map pd)), .dat (.lst ((lnB q).map td)), .dat (td t), .dat (pd a), .dat (pd b), .dat (.int (away a b)), .dat (.lst [pd u, pd v]), .dat (.str s), .dat (.lst [.tup [.str "told", R1], .tup [.str "told", R2]]), .dat (.lst (sidesL.map (nrD a))), .dat (.lst [.lst (sidesL.map (mvD q a)), .lst (sidesL.map (rmD q a)), nbD q a]), .dat (.lst [.lst (sidesL.map (mvD q a)), .lst (sidesL.map (rmD q a))]), a16, .dat (.lst (ss.map D.str)), a18, .dat (.tup [R1, R2]), .no, a21, a22, a23], g⟩) rfl (by simp) (by show (!ownAt a20 && true) = true; rw [h20]; rfl) ?_ rfl
      simp [compM, oneM, gSet, setSl, bnd, seqM, fVar, ret, wipeS, fTup]
    generalize fLc [20] (fIt (fVar 19)) (gSet 20) (ret true) (fTup [(ret (.str "told")), (fVar 20)]) = X at c1 ⊢
    simp [sIf, fNot, fB, fIf, bnd, fCall, seqM, fVar, fSee, ret, opt, f2, i, asB, setSl, c1, lift, al]
end Ink.K01

set_option Elab.async false
set_option maxRecDepth 1000000
set_option autoImplicit false
set_option linter.all false
namespace Ink.K01
open PySem PySem.W PyProof.Rows
def oddL (q : Int × Int) : List D := [pt (q.1 + 1) 0, pt 0 (q.2 + 1), pt (-1) 0, .non, .tup [.int 0], .lst [.int 0, .int 0], .tup [.bl true, .int 0]]
def badL : List Str := ["x", "", "E", "ne"]
def odL : List ((Int × Int) × D) := shL.flatMap fun q => (oddL q).map fun o => (q, o)
def bdL : List ((Int × Int) × (Int × Int) × Str) := shL.flatMap fun q => (ptsL q).flatMap fun p => badL.map fun s => (q, p, s)
theorem od1 : ∀ t ∈ odL, M_moved [pd t.1, t.2, .str "e"] = fun g => .exn nothing g := of_map (by kernel_rfl)
theorem od2 : ∀ t ∈ odL, M_is_at_rim [pd t.1, t.2, .str "n"] = fun g => .exn nothing g := of_map (by kernel_rfl)
theorem bd1 : ∀ t ∈ bdL, M_moved [pd t.1, pd t.2.1, .str t.2.2] = fun g => .exn nothing g := of_map (by kernel_rfl)
def strB (q a b : Int × Int) : Bool := match wkS q a (strL a b) with
  | some l => decide ((a :: l).getLast? = some b) && decide ((l.length : Int) = away a b)
  | none => false
theorem strT : ∀ q ∈ shL, ∀ a ∈ ptsL q, ∀ b ∈ ptsL q, strB q a b = true := by decide +kernel
end Ink.K01

set_option Elab.async false
set_option maxRecDepth 1000000
set_option autoImplicit false
set_option linter.all false
namespace Ink.K01
open PySem PySem.W PyProof.Rows
theorem ne_self {d : D} {wt dep : Nat} (h : OkW d wt dep) (h3 : dep ≤ 64) : gNe d d = some (.bl false) := by
  obtain ⟨q, a1, a2, a3, a4, a5, a6⟩ := h
  have hs := shaped_of a3 a4 h3
  unfold gNe eqD
  rw [a1]
  dsimp only
  rw [if_pos ⟨hs, hs⟩, SeqAt.eqv_refl q a3]; rfl
theorem call_ok {M : List D → M D} {ms : List (Ex D)} {ds : List D} {d : D} {s : AS} {g' : Bag} (h1 : seqM ms s = .ok ds s) (h2 : M ds s.bag = .ok d g') : fCall M ms s = .ok d ⟨s.sl, g'⟩ := by
  unfold fCall
  rw [bnd_ok' h1]
  unfold lift
  rw [h2]
theorem str_walk {q a b : Int × Int} (hq : q ∈ shL) (ha : onB q a = true) (hb : onB q b = true) : ∃ l, wkS q a (strL a b) = some l ∧ (a :: l).getLast? = some b ∧ (l.length : Int) = away a b := by
  have h := strT q hq a ((on_mem hq).mpr ha) b ((on_mem hq).mpr hb)
  unfold strB at h
  cases e : wkS q a (strL a b) with
  | none => rw [e] at h; cases h
  | some l =>
    rw [e] at h
    obtain ⟨h1, h2⟩ := (Bool.and_eq_true _ _).mp h
    exact ⟨l, rfl, of_decide_eq_true h1, of_decide_eq_true h2⟩
theorem l20 (a0 a2 a3 a4 a5 a6 a7 a8 a9 a10 a11 a12 a13 a14 a15 a16 a17 a18 a19 a20 a21 a22 a23 : SV) {q a b u v : Int × Int} {t : Int × Int × Int} {s : Str} {h1 h2 : D} {ss : List Str} (hq : q ∈ shL) (ha : onB q a = true) (hb : onB q b = true) (g : Bag) : lst_20 ⟨[a0, .dat .bag, a2, .dat (pd q), .dat (.lst ((ptsL q).map pd)), .dat (.lst ((lnB q).map td)), .dat (td t), .dat (pd a), .dat (pd b), .dat (.int (away a b)), .dat (.lst [pd u, pd v]), .dat (.str s), .dat (.lst [w1 q a ss, w2 q a ss]), .dat (.lst (sidesL.map (nrD a))), .dat (.lst [.lst (sidesL.map (mvD q a)), .lst (sidesL.map (rmD q a)), nbD q a]), .dat (.lst [.lst (sidesL.map (mvD q a)), .lst (sidesL.map (rmD q a))]), a16, .dat (.lst (ss.map D.str)), a18, .dat (wkD q a ss), a20, a21, a22, a23], g⟩ = .ok .nx ⟨[a0, .dat .bag, a2, .dat (pd q), .dat (.lst ((ptsL q).map pd)), .dat (.lst ((lnB q).map td)), .dat (td t), .dat (pd a), .dat (pd b), .dat (.int (away a b)), .dat (.lst [pd u, pd v]), .dat (.str s), .dat (.lst [w1 q a ss, w2 q a ss]), .dat (.lst (sidesL.map (nrD a))), .dat (.lst [.lst (sidesL.map (mvD q a)), .lst (sidesL.map (rmD q a)), nbD q a]), .dat (.lst [.lst (sidesL.map (mvD q a)), .lst (sidesL.map (rmD q a))]), a16, .dat (.lst (ss.map D.str)), a18, .dat (wkD q a ss), a20, .dat (wkD q a (strL a b)), a22, a23], g⟩ := by
  have e5 : M__law_straight [pd a, pd b] g = .ok (.lst ((strL a b).map D.str)) g := by rw [lsw (a, b) (in_pL hq ha hb)]
  have c1 : fLc [11] (fIt (fCall M__law_straight [(fVar 7), (fVar 8)])) (gSet 11) (ret true) (fTup [(fVar 11), (ret (.bl true))]) ⟨[a0, .dat .bag, a2, .dat (pd q), .dat (.lst ((ptsL q).map pd)), .dat (.lst ((lnB q).map td)), .dat (td t), .dat (pd a), .dat (pd b), .dat (.int (away a b)), .dat (.lst [pd u, pd v]), .dat (.str s), .dat (.lst [w1 q a ss, w2 q a ss]), .dat (.lst (sidesL.map (nrD a))), .dat (.lst [.lst (sidesL.map (mvD q a)), .lst (sidesL.map (rmD q a)), nbD q a]), .dat (.lst [.lst (sidesL.map (mvD q a)), .lst (sidesL.map (rmD q a))]), a16, .dat (.lst (ss.map D.str)), a18, .dat (wkD q a ss), a20, a21, a22, a23], g⟩ = .ok (.lst ((strL a b).map tk)) ⟨[a0, .dat .bag, a2, .dat (pd q), .dat (.lst ((ptsL q).map pd)), .dat (.lst ((lnB q).map td)), .dat (td t), .dat (pd a), .dat (pd b), .dat (.int (away a b)), .dat (.lst [pd u, pd v]), .dat (.str s), .dat (.lst [w1 q a ss, w2 q a ss]), .dat (.lst (sidesL.map (nrD a))), .dat (.lst [.lst (sidesL.map (mvD q a)), .lst (sidesL.map (rmD q a)), nbD q a]), .dat (.lst [.lst (sidesL.map (mvD q a)), .lst (sidesL.map (rmD q a))]), a16, .dat (.lst (ss.map D.str)), a18, .dat (wkD q a ss), a20, a21, a22, a23], g⟩ := by
    refine lc_eq (ds := (strL a b).map D.str) (s1 := ⟨[a0, .dat .bag, a2, .dat (pd q), .dat (.lst ((ptsL q).map pd)), .dat (.lst ((lnB q).map td)), .dat (td t), .dat (pd a), .dat (pd b), .dat (.int (away a b)), .dat (.lst [pd u, pd v]), .no, .dat (.lst [w1 q a ss, w2 q a ss]), .dat (.lst (sidesL.map (nrD a))), .dat (.lst [.lst (sidesL.map (mvD q a)), .lst (sidesL.map (rmD q a)), nbD q a]), .dat (.lst [.lst (sidesL.map (mvD q a)), .lst (sidesL.map (rmD q a))]), a16, .dat (.lst (ss.map D.str)), a18, .dat (wkD q a ss), a20, a21, a22, a23], g⟩) ?_ (by rw [List.length_map]; have := str_len hq ha hb; omega) rfl ?_ rfl
    · unfold fIt
      rw [bnd_ok' (call_same (ds := [pd a, pd b]) rfl e5)]
      rfl
    · have := comp_map (L := strL a b) (it := D.str) (val := fun z => some (tk z)) (vs := [11]) (g := gSet 11) (t := ret true) (me := fTup [(fVar 11), (ret (.bl true))]) (s := ⟨[a0, .dat .bag, a2, .dat (pd q), .dat (.lst ((ptsL q).map pd)), .dat (.lst ((lnB q).map td)), .dat (td t), .dat (pd a), .dat (pd b), .dat (.int (away a b)), .dat (.lst [pd u, pd v]), .no, .dat (.lst [w1 q a ss, w2 q a ss]), .dat (.lst (sidesL.map (nrD a))), .dat (.lst [.lst (sidesL.map (mvD q a)), .lst (sidesL.map (rmD q a)), nbD q a]), .dat (.lst [.lst (sidesL.map (mvD q a)), .lst (sidesL.map (rmD q a))]), a16, .dat (.lst (ss.map D.str)), a18, .dat (wkD q a ss), a20, a21, a22, a23], g⟩) fun z hz => by
        simp [oneM, gSet, setSl, bnd, seqM, fVar, ret, wipeS, fTup]
      rw [fmap_some] at this
      exact this
  have hl := str_len hq ha hb
  have hw : ∀ g, M__law_walk [pd q, pd a, .lst ((strL a b).map tk)] g = .ok (wkD q a (strL a b)) g := fun g => by
    rw [law_walk_eq hq ((on_mem hq).mpr ha) str_ok (by omega) g]
    unfold wkD
    cases wkS q a (strL a b) <;> rfl
  unfold lst_20
  generalize fLc [11] (fIt (fCall M__law_straight [(fVar 7), (fVar 8)])) (gSet 11) (ret true) (fTup [(fVar 11), (ret (.bl true))]) = X1 at c1 ⊢
  simp [sSet, bnd, fCall, seqM, fVar, ret, c1, lift, hw, gSet, setSl]
theorem l21 (a0 a2 a3 a4 a5 a6 a7 a8 a9 a10 a11 a12 a13 a14 a15 a16 a17 a18 a19 a20 a21 a22 a23 : SV) {q a b u v : Int × Int} {t : Int × Int × Int} {s : Str} {h1 h2 : D} {ss : List Str} (hq : q ∈ shL) (ha : onB q a = true) (hb : onB q b = true) (g : Bag) : lst_21 ⟨[a0, .dat .bag, a2, .dat (pd q), .dat (.lst ((ptsL q).map pd)), .dat (.lst ((lnB q).map td)), .dat (td t), .dat (pd a), .dat (pd b), .dat (.int (away a b)), .dat (.lst [pd u, pd v]), .dat (.str s), .dat (.lst [w1 q a ss, w2 q a ss]), .dat (.lst (sidesL.map (nrD a))), .dat (.lst [.lst (sidesL.map (mvD q a)), .lst (sidesL.map (rmD q a)), nbD q a]), .dat (.lst [.lst (sidesL.map (mvD q a)), .lst (sidesL.map (rmD q a))]), a16, .dat (.lst (ss.map D.str)), a18, .dat (wkD q a ss), a20, .dat (wkD q a (strL a b)), a22, a23], g⟩ = .ok .nx ⟨[a0, .dat .bag, a2, .dat (pd q), .dat (.lst ((ptsL q).map pd)), .dat (.lst ((lnB q).map td)), .dat (td t), .dat (pd a), .dat (pd b), .dat (.int (away a b)), .dat (.lst [pd u, pd v]), .dat (.str s), .dat (.lst [w1 q a ss, w2 q a ss]), .dat (.lst (sidesL.map (nrD a))), .dat (.lst [.lst (sidesL.map (mvD q a)), .lst (sidesL.map (rmD q a)), nbD q a]), .dat (.lst [.lst (sidesL.map (mvD q a)), .lst (sidesL.map (rmD q a))]), a16, .dat (.lst (ss.map D.str)), a18, .dat (wkD q a ss), a20, .dat (wkD q a (strL a b)), a22, a23], g⟩ := by
  obtain ⟨l, hw, hlast, hlen⟩ := str_walk hq ha hb
  have hl := str_len hq ha hb
  have e1 : ∀ g, M_walked [pd q, pd a, .lst ((strL a b).map D.str)] g = .ok (.lst ((a :: l).map pd)) g := fun g => by
    rw [walked_eq hq ((on_mem hq).mpr ha) str_ok (by omega) g, hw]
  have e2 : ∀ g, M_straight_way [pd a, pd b] g = .ok (.lst ((strL a b).map D.str)) g := fun g => by rw [sw (a, b) (in_pL hq ha hb)]
  obtain ⟨r1, r2⟩ := okR hq ha hw (by omega)
  have n1 := ne_self r1 (by omega)
  have n2 := ne_self (okPd hq hb) (by omega)
  have n3 := neI (away a b) (away a b)
  have hwd : (wkD q a (strL a b)) = .tup [.lst ((a :: l).map pd), .lst (lnsW a l)] := by unfold wkD; rw [hw]
  have ix : gIx (.lst ((a :: l).map pd)) (.int (-1)) = some (pd b) := by
    obtain ⟨ys, hy⟩ := List.getLast?_eq_some_iff.mp hlast
    rw [hy, List.map_append]
    exact last_ix _ _
  have ln : gLen (.lst (lnsW a l)) = some (.int (away a b)) := by
    rw [← hlen, ← (okLns hq ha (wk_on hw).1).2]; rfl
  rw [hwd]
  generalize D.lst ((a :: l).map pd) = R1 at *
  generalize D.lst (lnsW a l) = R2 at *
  have i0 : gIx (.tup [R1, R2]) (.int 0) = some R1 := rfl
  have i1 : gIx (.tup [R1, R2]) (.int 1) = some R2 := rfl
  have ng : gNeg (.int 1) = some (.int (-1)) := rfl
  rw [show (away a b == away a b) = true from beq_self_eq_true _] at n3
  unfold lst_21
  simp [sIf, fOr, fB, f2, f1, bnd, fCall, seqM, fVar, fSee, ret, opt, lift, e1, e2, i0, i1, ng, ix, ln, n1, n2, n3, asB]
theorem l22 (a0 a2 a3 a4 a5 a6 a7 a8 a9 a10 a11 a12 a13 a14 a15 a16 a17 a18 a19 a20 a21 a22 a23 : SV) {q a b u v : Int × Int} {t : Int × Int × Int} {s : Str} {h1 h2 : D} {ss : List Str} (g : Bag) (hg : Good g) : ∃ (o : D) (z : Str) (g' : Bag), o ∈ oddL q ∧ z ∈ badL ∧ Good g' ∧ lst_22 ⟨[a0, .dat .bag, a2, .dat (pd q), .dat (.lst ((ptsL q).map pd)), .dat (.lst ((lnB q).map td)), .dat (td t), .dat (pd a), .dat (pd b), .dat (.int (away a b)), .dat (.lst [pd u, pd v]), .dat (.str s), .dat (.lst [w1 q a ss, w2 q a ss]), .dat (.lst (sidesL.map (nrD a))), .dat (.lst [.lst (sidesL.map (mvD q a)), .lst (sidesL.map (rmD q a)), nbD q a]), .dat (.lst [.lst (sidesL.map (mvD q a)), .lst (sidesL.map (rmD q a))]), a16, .dat (.lst (ss.map D.str)), a18, .dat (wkD q a ss), a20, .dat (wkD q a (strL a b)), a22, a23], g⟩ = .ok .nx ⟨[a0, .dat .bag, a2, .dat (pd q), .dat (.lst ((ptsL q).map pd)), .dat (.lst ((lnB q).map td)), .dat (td t), .dat (pd a), .dat (pd b), .dat (.int (away a b)), .dat (.lst [pd u, pd v]), .dat (.str s), .dat (.lst [w1 q a ss, w2 q a ss]), .dat (.lst (sidesL.map (nrD a))), .dat (.lst [.lst (sidesL.map (mvD q a)), .lst (sidesL.map (rmD q a)), nbD q a]), .dat (.lst [.lst (sidesL.map (mvD q a)), .lst (sidesL.map (rmD q a))]), a16, .dat (.lst (ss.map D.str)), a18, .dat (wkD q a ss), a20, .dat (wkD q a (strL a b)), .dat o, .dat (.str z)], g'⟩ := by
  obtain ⟨o, g1, e1, p1, k1⟩ := some_ok (xs := oddL q) hg (by simp [oddL]) (by simp [oddL])
  obtain ⟨y, g2, e2, p2, k2⟩ := some_ok (xs := badL.map D.str) k1 (by simp [badL]) (by simp [badL])
  obtain ⟨z, hz, rfl⟩ := List.mem_map.mp p2
  refine ⟨o, z, g2, p1, hz, k2, ?_⟩
  have c1 : fCall M__law_some [(fVar 1), (fLst [(fTup [(fAdd (f2 gIx (fSee 3) (ret (.int 0))) (ret (.int 1))), (ret (.int 0))]), (fTup [(ret (.int 0)), (fAdd (f2 gIx (fSee 3) (ret (.int 1))) (ret (.int 1)))]), (fTup [(f1 gNeg (ret (.int 1))), (ret (.int 0))]), (ret .non), (fTup [(ret (.int 0))]), (fLst [(ret (.int 0)), (ret (.int 0))]), (fTup [(ret (.bl true)), (ret (.int 0))])])] ⟨[a0, .dat .bag, a2, .dat (pd q), .dat (.lst ((ptsL q).map pd)), .dat (.lst ((lnB q).map td)), .dat (td t), .dat (pd a), .dat (pd b), .dat (.int (away a b)), .dat (.lst [pd u, pd v]), .dat (.str s), .dat (.lst [w1 q a ss, w2 q a ss]), .dat (.lst (sidesL.map (nrD a))), .dat (.lst [.lst (sidesL.map (mvD q a)), .lst (sidesL.map (rmD q a)), nbD q a]), .dat (.lst [.lst (sidesL.map (mvD q a)), .lst (sidesL.map (rmD q a))]), a16, .dat (.lst (ss.map D.str)), a18, .dat (wkD q a ss), a20, .dat (wkD q a (strL a b)), a22, a23], g⟩ = .ok o ⟨[a0, .dat .bag, a2, .dat (pd q), .dat (.lst ((ptsL q).map pd)), .dat (.lst ((lnB q).map td)), .dat (td t), .dat (pd a), .dat (pd b), .dat (.int (away a b)), .dat (.lst [pd u, pd v]), .dat (.str s), .dat (.lst [w1 q a ss, w2 q a ss]), .dat (.lst (sidesL.map (nrD a))), .dat (.lst [.lst (sidesL.map (mvD q a)), .lst (sidesL.map (rmD q a)), nbD q a]), .dat (.lst [.lst (sidesL.map (mvD q a)), .lst (sidesL.map (rmD q a))]), a16, .dat (.lst (ss.map D.str)), a18, .dat (wkD q a ss), a20, .dat (wkD q a (strL a b)), a22, a23], g1⟩ := by
    exact call_ok (ds := [.bag, .lst (oddL q)]) rfl e1
  have c2 : fCall M__law_some [(fVar 1), (fLst [(ret (.str "x")), (ret (.str "")), (ret (.str "E")), (ret (.str "ne"))])] ⟨[a0, .dat .bag, a2, .dat (pd q), .dat (.lst ((ptsL q).map pd)), .dat (.lst ((lnB q).map td)), .dat (td t), .dat (pd a), .dat (pd b), .dat (.int (away a b)), .dat (.lst [pd u, pd v]), .dat (.str s), .dat (.lst [w1 q a ss, w2 q a ss]), .dat (.lst (sidesL.map (nrD a))), .dat (.lst [.lst (sidesL.map (mvD q a)), .lst (sidesL.map (rmD q a)), nbD q a]), .dat (.lst [.lst (sidesL.map (mvD q a)), .lst (sidesL.map (rmD q a))]), a16, .dat (.lst (ss.map D.str)), a18, .dat (wkD q a ss), a20, .dat (wkD q a (strL a b)), a22, a23], g1⟩ = .ok (.str z) ⟨[a0, .dat .bag, a2, .dat (pd q), .dat (.lst ((ptsL q).map pd)), .dat (.lst ((lnB q).map td)), .dat (td t), .dat (pd a), .dat (pd b), .dat (.int (away a b)), .dat (.lst [pd u, pd v]), .dat (.str s), .dat (.lst [w1 q a ss, w2 q a ss]), .dat (.lst (sidesL.map (nrD a))), .dat (.lst [.lst (sidesL.map (mvD q a)), .lst (sidesL.map (rmD q a)), nbD q a]), .dat (.lst [.lst (sidesL.map (mvD q a)), .lst (sidesL.map (rmD q a))]), a16, .dat (.lst (ss.map D.str)), a18, .dat (wkD q a ss), a20, .dat (wkD q a (strL a b)), a22, a23], g2⟩ := by
    exact call_ok (ds := [.bag, .lst (badL.map D.str)]) rfl e2
  unfold lst_22
  generalize fCall M__law_some [(fVar 1), (fLst [(fTup [(fAdd (f2 gIx (fSee 3) (ret (.int 0))) (ret (.int 1))), (ret (.int 0))]), (fTup [(ret (.int 0)), (fAdd (f2 gIx (fSee 3) (ret (.int 1))) (ret (.int 1)))]), (fTup [(f1 gNeg (ret (.int 1))), (ret (.int 0))]), (ret .non), (fTup [(ret (.int 0))]), (fLst [(ret (.int 0)), (ret (.int 0))]), (fTup [(ret (.bl true)), (ret (.int 0))])])] = X1 at c1 ⊢
  generalize fCall M__law_some [(fVar 1), (fLst [(ret (.str "x")), (ret (.str "")), (ret (.str "E")), (ret (.str "ne"))])] = X2 at c2 ⊢
  simp [sAsg, fTup, seqM, bnd, ret, c1, c2, gUn, gsCons, gsNil, gSet, setSl]
theorem l23 (a0 a2 a3 a4 a5 a6 a7 a8 a9 a10 a11 a12 a13 a14 a15 a16 a17 a18 a19 a20 a21 a22 a23 : SV) {q a b u v : Int × Int} {t : Int × Int × Int} {s : Str} {h1 h2 : D} {ss : List Str} {o : D} {z : Str} (hq : q ∈ shL) (ho : o ∈ oddL q) (g : Bag) : lst_23 ⟨[a0, .dat .bag, a2, .dat (pd q), .dat (.lst ((ptsL q).map pd)), .dat (.lst ((lnB q).map td)), .dat (td t), .dat (pd a), .dat (pd b), .dat (.int (away a b)), .dat (.lst [pd u, pd v]), .dat (.str s), .dat (.lst [w1 q a ss, w2 q a ss]), .dat (.lst (sidesL.map (nrD a))), .dat (.lst [.lst (sidesL.map (mvD q a)), .lst (sidesL.map (rmD q a)), nbD q a]), .dat (.lst [.lst (sidesL.map (mvD q a)), .lst (sidesL.map (rmD q a))]), a16, .dat (.lst (ss.map D.str)), a18, .dat (wkD q a ss), a20, .dat (wkD q a (strL a b)), .dat o, .dat (.str z)], g⟩ = .ok .nx ⟨[a0, .dat .bag, a2, .dat (pd q), .dat (.lst ((ptsL q).map pd)), .dat (.lst ((lnB q).map td)), .dat (td t), .dat (pd a), .dat (pd b), .dat (.int (away a b)), .dat (.lst [pd u, pd v]), .dat (.str s), .own [nN], .dat (.lst (sidesL.map (nrD a))), .dat (.lst [.lst (sidesL.map (mvD q a)), .lst (sidesL.map (rmD q a)), nbD q a]), .dat (.lst [.lst (sidesL.map (mvD q a)), .lst (sidesL.map (rmD q a))]), a16, .dat (.lst (ss.map D.str)), a18, .dat (wkD q a ss), a20, .dat (wkD q a (strL a b)), .dat o, .dat (.str z)], g⟩ := by
  have e := congrFun (od1 (q, o) (List.mem_flatMap.mpr ⟨q, hq, List.mem_map.mpr ⟨o, ho, rfl⟩⟩)) g
  exact put_own (i := 12) (heard_exn (call_exn (ds := [pd q, o, .str "e"]) rfl e))
theorem l24 (a0 a2 a3 a4 a5 a6 a7 a8 a9 a10 a11 a12 a13 a14 a15 a16 a17 a18 a19 a20 a21 a22 a23 : SV) {q a b u v : Int × Int} {t : Int × Int × Int} {s : Str} {h1 h2 : D} {ss : List Str} {o : D} {z : Str} (hq : q ∈ shL) (ha : onB q a = true) (hz : z ∈ badL) (g : Bag) : lst_24 ⟨[a0, .dat .bag, a2, .dat (pd q), .dat (.lst ((ptsL q).map pd)), .dat (.lst ((lnB q).map td)), .dat (td t), .dat (pd a), .dat (pd b), .dat (.int (away a b)), .dat (.lst [pd u, pd v]), .dat (.str s), .own [nN], .dat (.lst (sidesL.map (nrD a))), .dat (.lst [.lst (sidesL.map (mvD q a)), .lst (sidesL.map (rmD q a)), nbD q a]), .dat (.lst [.lst (sidesL.map (mvD q a)), .lst (sidesL.map (rmD q a))]), a16, .dat (.lst (ss.map D.str)), a18, .dat (wkD q a ss), a20, .dat (wkD q a (strL a b)), .dat o, .dat (.str z)], g⟩ = .ok .nx ⟨[a0, .dat .bag, a2, .dat (pd q), .dat (.lst ((ptsL q).map pd)), .dat (.lst ((lnB q).map td)), .dat (td t), .dat (pd a), .dat (pd b), .dat (.int (away a b)), .dat (.lst [pd u, pd v]), .dat (.str s), .own [nN, nN], .dat (.lst (sidesL.map (nrD a))), .dat (.lst [.lst (sidesL.map (mvD q a)), .lst (sidesL.map (rmD q a)), nbD q a]), .dat (.lst [.lst (sidesL.map (mvD q a)), .lst (sidesL.map (rmD q a))]), a16, .dat (.lst (ss.map D.str)), a18, .dat (wkD q a ss), a20, .dat (wkD q a (strL a b)), .dat o, .dat (.str z)], g⟩ := by
  have e := congrFun (bd1 (q, a, z) (List.mem_flatMap.mpr ⟨q, hq, List.mem_flatMap.mpr ⟨a, (on_mem hq).mpr ha, List.mem_map.mpr ⟨z, hz, rfl⟩⟩⟩)) g
  exact app_own (i := 12) (xs := [nN]) (s := ⟨[a0, .dat .bag, a2, .dat (pd q), .dat (.lst ((ptsL q).map pd)), .dat (.lst ((lnB q).map td)), .dat (td t), .dat (pd a), .dat (pd b), .dat (.int (away a b)), .dat (.lst [pd u, pd v]), .dat (.str s), .own [nN], .dat (.lst (sidesL.map (nrD a))), .dat (.lst [.lst (sidesL.map (mvD q a)), .lst (sidesL.map (rmD q a)), nbD q a]), .dat (.lst [.lst (sidesL.map (mvD q a)), .lst (sidesL.map (rmD q a))]), a16, .dat (.lst (ss.map D.str)), a18, .dat (wkD q a ss), a20, .dat (wkD q a (strL a b)), .dat o, .dat (.str z)], g⟩) rfl (by show 1 < 1000; omega) (heard_exn (call_exn (ds := [pd q, pd a, .str z]) rfl e))
theorem l25 (a0 a2 a3 a4 a5 a6 a7 a8 a9 a10 a11 a12 a13 a14 a15 a16 a17 a18 a19 a20 a21 a22 a23 : SV) {q a b u v : Int × Int} {t : Int × Int × Int} {s : Str} {h1 h2 : D} {ss : List Str} {o : D} {z : Str} (hq : q ∈ shL) (ho : o ∈ oddL q) (g : Bag) : lst_25 ⟨[a0, .dat .bag, a2, .dat (pd q), .dat (.lst ((ptsL q).map pd)), .dat (.lst ((lnB q).map td)), .dat (td t), .dat (pd a), .dat (pd b), .dat (.int (away a b)), .dat (.lst [pd u, pd v]), .dat (.str s), .own [nN, nN], .dat (.lst (sidesL.map (nrD a))), .dat (.lst [.lst (sidesL.map (mvD q a)), .lst (sidesL.map (rmD q a)), nbD q a]), .dat (.lst [.lst (sidesL.map (mvD q a)), .lst (sidesL.map (rmD q a))]), a16, .dat (.lst (ss.map D.str)), a18, .dat (wkD q a ss), a20, .dat (wkD q a (strL a b)), .dat o, .dat (.str z)], g⟩ = .ok .nx ⟨[a0, .dat .bag, a2, .dat (pd q), .dat (.lst ((ptsL q).map pd)), .dat (.lst ((lnB q).map td)), .dat (td t), .dat (pd a), .dat (pd b), .dat (.int (away a b)), .dat (.lst [pd u, pd v]), .dat (.str s), .own [nN, nN, nN], .dat (.lst (sidesL.map (nrD a))), .dat (.lst [.lst (sidesL.map (mvD q a)), .lst (sidesL.map (rmD q a)), nbD q a]), .dat (.lst [.lst (sidesL.map (mvD q a)), .lst (sidesL.map (rmD q a))]), a16, .dat (.lst (ss.map D.str)), a18, .dat (wkD q a ss), a20, .dat (wkD q a (strL a b)), .dat o, .dat (.str z)], g⟩ := by
  have e := congrFun (od2 (q, o) (List.mem_flatMap.mpr ⟨q, hq, List.mem_map.mpr ⟨o, ho, rfl⟩⟩)) g
  exact app_own (i := 12) (xs := [nN, nN]) (s := ⟨[a0, .dat .bag, a2, .dat (pd q), .dat (.lst ((ptsL q).map pd)), .dat (.lst ((lnB q).map td)), .dat (td t), .dat (pd a), .dat (pd b), .dat (.int (away a b)), .dat (.lst [pd u, pd v]), .dat (.str s), .own [nN, nN], .dat (.lst (sidesL.map (nrD a))), .dat (.lst [.lst (sidesL.map (mvD q a)), .lst (sidesL.map (rmD q a)), nbD q a]), .dat (.lst [.lst (sidesL.map (mvD q a)), .lst (sidesL.map (rmD q a))]), a16, .dat (.lst (ss.map D.str)), a18, .dat (wkD q a ss), a20, .dat (wkD q a (strL a b)), .dat o, .dat (.str z)], g⟩) rfl (by show 2 < 1000; omega) (heard_exn (call_exn (ds := [pd q, o, .str "n"]) rfl e))
theorem l26 (a0 a2 a3 a4 a5 a6 a7 a8 a9 a10 a11 a12 a13 a14 a15 a16 a17 a18 a19 a20 a21 a22 a23 : SV) {q a b u v : Int × Int} {t : Int × Int × Int} {s : Str} {h1 h2 : D} {ss : List Str} {o : D} {z : Str} (g : Bag) : lst_26 ⟨[a0, .dat .bag, a2, .dat (pd q), .dat (.lst ((ptsL q).map pd)), .dat (.lst ((lnB q).map td)), .dat (td t), .dat (pd a), .dat (pd b), .dat (.int (away a b)), .dat (.lst [pd u, pd v]), .dat (.str s), .own [nN, nN, nN], .dat (.lst (sidesL.map (nrD a))), .dat (.lst [.lst (sidesL.map (mvD q a)), .lst (sidesL.map (rmD q a)), nbD q a]), .dat (.lst [.lst (sidesL.map (mvD q a)), .lst (sidesL.map (rmD q a))]), a16, .dat (.lst (ss.map D.str)), a18, .dat (wkD q a ss), a20, .dat (wkD q a (strL a b)), .dat o, .dat (.str z)], g⟩ = .ok .nx ⟨[a0, .dat .bag, a2, .dat (pd q), .dat (.lst ((ptsL q).map pd)), .dat (.lst ((lnB q).map td)), .dat (td t), .dat (pd a), .dat (pd b), .dat (.int (away a b)), .dat (.lst [pd u, pd v]), .dat (.str s), .own [nN, nN, nN], .dat (.lst (sidesL.map (nrD a))), .dat (.lst [.lst (sidesL.map (mvD q a)), .lst (sidesL.map (rmD q a)), nbD q a]), .dat (.lst [.lst (sidesL.map (mvD q a)), .lst (sidesL.map (rmD q a))]), a16, .dat (.lst (ss.map D.str)), a18, .dat (wkD q a ss), a20, .dat (wkD q a (strL a b)), .dat o, .dat (.str z)], g⟩ := by
  have m3 := mul3
  unfold lst_26
  generalize fMul (fLst [(fTup [(ret (.str "nothing"))])]) (ret (.int 3)) = X at m3 ⊢
  simp [sIf, fB, f2, bnd, fSee, ret, opt, asB, m3, ne3]
theorem lap_one (a0 a2 a3 a4 a5 a6 a7 a8 a9 a10 a11 a12 a13 a14 a15 a16 a17 a18 a19 a20 a21 a22 a23 : SV) (h6 : ownAt a6 = false) (h11 : ownAt a11 = false) (h16 : ownAt a16 = false) (h18 : ownAt a18 = false) (h20 : ownAt a20 = false) (g : Bag) (hg : Good g) : ∃ (q a b u v : Int × Int) (t : Int × Int × Int) (s : Str) (ss : List Str) (o : D) (z : Str) (g' : Bag), Good g' ∧ lapB ⟨[a0, .dat .bag, a2, a3, a4, a5, a6, a7, a8, a9, a10, a11, a12, a13, a14, a15, a16, a17, a18, a19, a20, a21, a22, a23], g⟩ = .ok .nx ⟨[a0, .dat .bag, a2, .dat (pd q), .dat (.lst ((ptsL q).map pd)), .dat (.lst ((lnB q).map td)), .dat (td t), .dat (pd a), .dat (pd b), .dat (.int (away a b)), .dat (.lst [pd u, pd v]), .dat (.str s), .own [nN, nN, nN], .dat (.lst (sidesL.map (nrD a))), .dat (.lst [.lst (sidesL.map (mvD q a)), .lst (sidesL.map (rmD q a)), nbD q a]), .dat (.lst [.lst (sidesL.map (mvD q a)), .lst (sidesL.map (rmD q a))]), a16, .dat (.lst (ss.map D.str)), a18, .dat (wkD q a ss), a20, .dat (wkD q a (strL a b)), .dat o, .dat (.str z)], g'⟩ := by
  obtain ⟨q, g0, hq, k0, e0⟩ := l0 a0 a2 a3 a4 a5 a6 a7 a8 a9 a10 a11 a12 a13 a14 a15 a16 a17 a18 a19 a20 a21 a22 a23 g hg
  have e1 : lst_1 ⟨[a0, .dat .bag, a2, .dat (pd q), a4, a5, a6, a7, a8, a9, a10, a11, a12, a13, a14, a15, a16, a17, a18, a19, a20, a21, a22, a23], g0⟩ = .ok .nx ⟨[a0, .dat .bag, a2, .dat (pd q), .dat (.lst ((ptsL q).map pd)), .dat (.lst ((lnB q).map td)), a6, a7, a8, a9, a10, a11, a12, a13, a14, a15, a16, a17, a18, a19, a20, a21, a22, a23], g0⟩ := l1 a0 a2 a3 a4 a5 a6 a7 a8 a9 a10 a11 a12 a13 a14 a15 a16 a17 a18 a19 a20 a21 a22 a23 hq g0
  have e2 : lst_2 ⟨[a0, .dat .bag, a2, .dat (pd q), .dat (.lst ((ptsL q).map pd)), .dat (.lst ((lnB q).map td)), a6, a7, a8, a9, a10, a11, a12, a13, a14, a15, a16, a17, a18, a19, a20, a21, a22, a23], g0⟩ = .ok .nx ⟨[a0, .dat .bag, a2, .dat (pd q), .dat (.lst ((ptsL q).map pd)), .dat (.lst ((lnB q).map td)), a6, a7, a8, a9, a10, a11, a12, a13, a14, a15, a16, a17, a18, a19, a20, a21, a22, a23], g0⟩ := l2 a0 a2 a3 a4 a5 a6 a7 a8 a9 a10 a11 a12 a13 a14 a15 a16 a17 a18 a19 a20 a21 a22 a23 hq h6 g0
  obtain ⟨a, b, t, g3, ha0, hb0, ht, k3, e3⟩ := l3 a0 a2 a3 a4 a5 a6 a7 a8 a9 a10 a11 a12 a13 a14 a15 a16 a17 a18 a19 a20 a21 a22 a23 hq g0 k0
  have ha := (on_mem hq).mp ha0
  have hb := (on_mem hq).mp hb0
  have e4 : lst_4 ⟨[a0, .dat .bag, a2, .dat (pd q), .dat (.lst ((ptsL q).map pd)), .dat (.lst ((lnB q).map td)), .dat (td t), .dat (pd a), .dat (pd b), a9, a10, a11, a12, a13, a14, a15, a16, a17, a18, a19, a20, a21, a22, a23], g3⟩ = .ok .nx ⟨[a0, .dat .bag, a2, .dat (pd q), .dat (.lst ((ptsL q).map pd)), .dat (.lst ((lnB q).map td)), .dat (td t), .dat (pd a), .dat (pd b), .dat (.int (away a b)), a10, a11, a12, a13, a14, a15, a16, a17, a18, a19, a20, a21, a22, a23], g3⟩ := l4 a0 a2 a3 a4 a5 a6 a7 a8 a9 a10 a11 a12 a13 a14 a15 a16 a17 a18 a19 a20 a21 a22 a23 g3
  obtain ⟨u, v, g5, adj, k5, e5⟩ := l5 a0 a2 a3 a4 a5 a6 a7 a8 a9 a10 a11 a12 a13 a14 a15 a16 a17 a18 a19 a20 a21 a22 a23 (q := q) (a := a) (b := b) (t := t) g3 k3
  obtain ⟨t0, tA, tB⟩ := lnB_mem q hq t ht
  obtain ⟨s, hs, hv, hsd, hln⟩ := adj_of t0 adj
  have hu : onB q u = true := by rcases adj with h | h
                                 · rw [h.1]; exact tA
                                 · rw [h.2]; exact tB
  have hvv : onB q v = true := by rcases adj with h | h
                                  · rw [h.2]; exact tB
                                  · rw [h.1]; exact tA
  have e6 : lst_6 ⟨[a0, .dat .bag, a2, .dat (pd q), .dat (.lst ((ptsL q).map pd)), .dat (.lst ((lnB q).map td)), .dat (td t), .dat (pd a), .dat (pd b), .dat (.int (away a b)), .dat (.lst [pd u, pd v]), a11, a12, a13, a14, a15, a16, a17, a18, a19, a20, a21, a22, a23], g5⟩ = .ok .nx ⟨[a0, .dat .bag, a2, .dat (pd q), .dat (.lst ((ptsL q).map pd)), .dat (.lst ((lnB q).map td)), .dat (td t), .dat (pd a), .dat (pd b), .dat (.int (away a b)), .dat (.lst [pd u, pd v]), .dat (.str s), a12, a13, a14, a15, a16, a17, a18, a19, a20, a21, a22, a23], g5⟩ := l6 a0 a2 a3 a4 a5 a6 a7 a8 a9 a10 a11 a12 a13 a14 a15 a16 a17 a18 a19 a20 a21 a22 a23 h11 hs hv g5
  have e7 : lst_7 ⟨[a0, .dat .bag, a2, .dat (pd q), .dat (.lst ((ptsL q).map pd)), .dat (.lst ((lnB q).map td)), .dat (td t), .dat (pd a), .dat (pd b), .dat (.int (away a b)), .dat (.lst [pd u, pd v]), .dat (.str s), a12, a13, a14, a15, a16, a17, a18, a19, a20, a21, a22, a23], g5⟩ = .ok .nx ⟨[a0, .dat .bag, a2, .dat (pd q), .dat (.lst ((ptsL q).map pd)), .dat (.lst ((lnB q).map td)), .dat (td t), .dat (pd a), .dat (pd b), .dat (.int (away a b)), .dat (.lst [pd u, pd v]), .dat (.str s), a12, a13, a14, a15, a16, a17, a18, a19, a20, a21, a22, a23], g5⟩ := l7 a0 a2 a3 a4 a5 a6 a7 a8 a9 a10 a11 a12 a13 a14 a15 a16 a17 a18 a19 a20 a21 a22 a23 hq ha hb ht hu hvv hs hv hsd hln g5
  obtain ⟨h1, c1, e8⟩ := l8 a0 a2 a3 a4 a5 a6 a7 a8 a9 a10 a11 a12 a13 a14 a15 a16 a17 a18 a19 a20 a21 a22 a23 (q := q) (a := a) (b := b) (u := u) (v := v) (t := t) (s := s) hq ha hb g5
  obtain ⟨h2, c2, e9⟩ := l9 a0 a2 a3 a4 a5 a6 a7 a8 a9 a10 a11 a12 a13 a14 a15 a16 a17 a18 a19 a20 a21 a22 a23 (q := q) (a := a) (b := b) (u := u) (v := v) (t := t) (s := s) (h1 := h1) hq ha hb g5
  have e10 : lst_10 ⟨[a0, .dat .bag, a2, .dat (pd q), .dat (.lst ((ptsL q).map pd)), .dat (.lst ((lnB q).map td)), .dat (td t), .dat (pd a), .dat (pd b), .dat (.int (away a b)), .dat (.lst [pd u, pd v]), .dat (.str s), .own [h1, h2], a13, a14, a15, a16, a17, a18, a19, a20, a21, a22, a23], g5⟩ = .ok .nx ⟨[a0, .dat .bag, a2, .dat (pd q), .dat (.lst ((ptsL q).map pd)), .dat (.lst ((lnB q).map td)), .dat (td t), .dat (pd a), .dat (pd b), .dat (.int (away a b)), .dat (.lst [pd u, pd v]), .dat (.str s), .own [h1, h2], a13, a14, a15, a16, a17, a18, a19, a20, a21, a22, a23], g5⟩ := l10 a0 a2 a3 a4 a5 a6 a7 a8 a9 a10 a11 a12 a13 a14 a15 a16 a17 a18 a19 a20 a21 a22 a23 c1 c2 g5
  have e11 : lst_11 ⟨[a0, .dat .bag, a2, .dat (pd q), .dat (.lst ((ptsL q).map pd)), .dat (.lst ((lnB q).map td)), .dat (td t), .dat (pd a), .dat (pd b), .dat (.int (away a b)), .dat (.lst [pd u, pd v]), .dat (.str s), .own [h1, h2], a13, a14, a15, a16, a17, a18, a19, a20, a21, a22, a23], g5⟩ = .ok .nx ⟨[a0, .dat .bag, a2, .dat (pd q), .dat (.lst ((ptsL q).map pd)), .dat (.lst ((lnB q).map td)), .dat (td t), .dat (pd a), .dat (pd b), .dat (.int (away a b)), .dat (.lst [pd u, pd v]), .dat (.str s), .own [h1, h2], .dat (.lst (sidesL.map (nrD a))), a14, a15, a16, a17, a18, a19, a20, a21, a22, a23], g5⟩ := l11 a0 a2 a3 a4 a5 a6 a7 a8 a9 a10 a11 a12 a13 a14 a15 a16 a17 a18 a19 a20 a21 a22 a23 g5
  have e12 : lst_12 ⟨[a0, .dat .bag, a2, .dat (pd q), .dat (.lst ((ptsL q).map pd)), .dat (.lst ((lnB q).map td)), .dat (td t), .dat (pd a), .dat (pd b), .dat (.int (away a b)), .dat (.lst [pd u, pd v]), .dat (.str s), .own [h1, h2], .dat (.lst (sidesL.map (nrD a))), a14, a15, a16, a17, a18, a19, a20, a21, a22, a23], g5⟩ = .ok .nx ⟨[a0, .dat .bag, a2, .dat (pd q), .dat (.lst ((ptsL q).map pd)), .dat (.lst ((lnB q).map td)), .dat (td t), .dat (pd a), .dat (pd b), .dat (.int (away a b)), .dat (.lst [pd u, pd v]), .dat (.str s), .own [h1, h2], .dat (.lst (sidesL.map (nrD a))), .dat (.lst [.lst (sidesL.map (mvD q a)), .lst (sidesL.map (rmD q a)), nbD q a]), a15, a16, a17, a18, a19, a20, a21, a22, a23], g5⟩ := l12 a0 a2 a3 a4 a5 a6 a7 a8 a9 a10 a11 a12 a13 a14 a15 a16 a17 a18 a19 a20 a21 a22 a23 hq ha g5
  have e13 : lst_13 ⟨[a0, .dat .bag, a2, .dat (pd q), .dat (.lst ((ptsL q).map pd)), .dat (.lst ((lnB q).map td)), .dat (td t), .dat (pd a), .dat (pd b), .dat (.int (away a b)), .dat (.lst [pd u, pd v]), .dat (.str s), .own [h1, h2], .dat (.lst (sidesL.map (nrD a))), .dat (.lst [.lst (sidesL.map (mvD q a)), .lst (sidesL.map (rmD q a)), nbD q a]), a15, a16, a17, a18, a19, a20, a21, a22, a23], g5⟩ = .ok .nx ⟨[a0, .dat .bag, a2, .dat (pd q), .dat (.lst ((ptsL q).map pd)), .dat (.lst ((lnB q).map td)), .dat (td t), .dat (pd a), .dat (pd b), .dat (.int (away a b)), .dat (.lst [pd u, pd v]), .dat (.str s), .own [h1, h2], .dat (.lst (sidesL.map (nrD a))), .dat (.lst [.lst (sidesL.map (mvD q a)), .lst (sidesL.map (rmD q a)), nbD q a]), .dat (.lst [.lst (sidesL.map (mvD q a)), .lst (sidesL.map (rmD q a))]), a16, a17, a18, a19, a20, a21, a22, a23], g5⟩ := l13 a0 a2 a3 a4 a5 a6 a7 a8 a9 a10 a11 a12 a13 a14 a15 a16 a17 a18 a19 a20 a21 a22 a23 hq ha h16 g5
  have e14 : lst_14 ⟨[a0, .dat .bag, a2, .dat (pd q), .dat (.lst ((ptsL q).map pd)), .dat (.lst ((lnB q).map td)), .dat (td t), .dat (pd a), .dat (pd b), .dat (.int (away a b)), .dat (.lst [pd u, pd v]), .dat (.str s), .own [h1, h2], .dat (.lst (sidesL.map (nrD a))), .dat (.lst [.lst (sidesL.map (mvD q a)), .lst (sidesL.map (rmD q a)), nbD q a]), .dat (.lst [.lst (sidesL.map (mvD q a)), .lst (sidesL.map (rmD q a))]), a16, a17, a18, a19, a20, a21, a22, a23], g5⟩ = .ok .nx ⟨[a0, .dat .bag, a2, .dat (pd q), .dat (.lst ((ptsL q).map pd)), .dat (.lst ((lnB q).map td)), .dat (td t), .dat (pd a), .dat (pd b), .dat (.int (away a b)), .dat (.lst [pd u, pd v]), .dat (.str s), .own [h1, h2], .dat (.lst (sidesL.map (nrD a))), .dat (.lst [.lst (sidesL.map (mvD q a)), .lst (sidesL.map (rmD q a)), nbD q a]), .dat (.lst [.lst (sidesL.map (mvD q a)), .lst (sidesL.map (rmD q a))]), a16, a17, a18, a19, a20, a21, a22, a23], g5⟩ := l14 a0 a2 a3 a4 a5 a6 a7 a8 a9 a10 a11 a12 a13 a14 a15 a16 a17 a18 a19 a20 a21 a22 a23 hq ha h16 g5
  obtain ⟨ss, g15, hss, hn, k15, e15⟩ := l15 a0 a2 a3 a4 a5 a6 a7 a8 a9 a10 a11 a12 a13 a14 a15 a16 a17 a18 a19 a20 a21 a22 a23 (q := q) (a := a) (b := b) (u := u) (v := v) (t := t) (s := s) (h1 := h1) (h2 := h2) h18 g5 k5
  have e16 : lst_16 ⟨[a0, .dat .bag, a2, .dat (pd q), .dat (.lst ((ptsL q).map pd)), .dat (.lst ((lnB q).map td)), .dat (td t), .dat (pd a), .dat (pd b), .dat (.int (away a b)), .dat (.lst [pd u, pd v]), .dat (.str s), .own [h1, h2], .dat (.lst (sidesL.map (nrD a))), .dat (.lst [.lst (sidesL.map (mvD q a)), .lst (sidesL.map (rmD q a)), nbD q a]), .dat (.lst [.lst (sidesL.map (mvD q a)), .lst (sidesL.map (rmD q a))]), a16, .dat (.lst (ss.map D.str)), a18, a19, a20, a21, a22, a23], g15⟩ = .ok .nx ⟨[a0, .dat .bag, a2, .dat (pd q), .dat (.lst ((ptsL q).map pd)), .dat (.lst ((lnB q).map td)), .dat (td t), .dat (pd a), .dat (pd b), .dat (.int (away a b)), .dat (.lst [pd u, pd v]), .dat (.str s), .own [h1, h2], .dat (.lst (sidesL.map (nrD a))), .dat (.lst [.lst (sidesL.map (mvD q a)), .lst (sidesL.map (rmD q a)), nbD q a]), .dat (.lst [.lst (sidesL.map (mvD q a)), .lst (sidesL.map (rmD q a))]), a16, .dat (.lst (ss.map D.str)), a18, .dat (wkD q a ss), a20, a21, a22, a23], g15⟩ := l16 a0 a2 a3 a4 a5 a6 a7 a8 a9 a10 a11 a12 a13 a14 a15 a16 a17 a18 a19 a20 a21 a22 a23 hq ha hb hss hn g15
  have e17 : lst_17 ⟨[a0, .dat .bag, a2, .dat (pd q), .dat (.lst ((ptsL q).map pd)), .dat (.lst ((lnB q).map td)), .dat (td t), .dat (pd a), .dat (pd b), .dat (.int (away a b)), .dat (.lst [pd u, pd v]), .dat (.str s), .own [h1, h2], .dat (.lst (sidesL.map (nrD a))), .dat (.lst [.lst (sidesL.map (mvD q a)), .lst (sidesL.map (rmD q a)), nbD q a]), .dat (.lst [.lst (sidesL.map (mvD q a)), .lst (sidesL.map (rmD q a))]), a16, .dat (.lst (ss.map D.str)), a18, .dat (wkD q a ss), a20, a21, a22, a23], g15⟩ = .ok .nx ⟨[a0, .dat .bag, a2, .dat (pd q), .dat (.lst ((ptsL q).map pd)), .dat (.lst ((lnB q).map td)), .dat (td t), .dat (pd a), .dat (pd b), .dat (.int (away a b)), .dat (.lst [pd u, pd v]), .dat (.str s), .own [w1 q a ss], .dat (.lst (sidesL.map (nrD a))), .dat (.lst [.lst (sidesL.map (mvD q a)), .lst (sidesL.map (rmD q a)), nbD q a]), .dat (.lst [.lst (sidesL.map (mvD q a)), .lst (sidesL.map (rmD q a))]), a16, .dat (.lst (ss.map D.str)), a18, .dat (wkD q a ss), a20, a21, a22, a23], g15⟩ := l17 a0 a2 a3 a4 a5 a6 a7 a8 a9 a10 a11 a12 a13 a14 a15 a16 a17 a18 a19 a20 a21 a22 a23 hq ha hb hss hn g15
  have e18 : lst_18 ⟨[a0, .dat .bag, a2, .dat (pd q), .dat (.lst ((ptsL q).map pd)), .dat (.lst ((lnB q).map td)), .dat (td t), .dat (pd a), .dat (pd b), .dat (.int (away a b)), .dat (.lst [pd u, pd v]), .dat (.str s), .own [w1 q a ss], .dat (.lst (sidesL.map (nrD a))), .dat (.lst [.lst (sidesL.map (mvD q a)), .lst (sidesL.map (rmD q a)), nbD q a]), .dat (.lst [.lst (sidesL.map (mvD q a)), .lst (sidesL.map (rmD q a))]), a16, .dat (.lst (ss.map D.str)), a18, .dat (wkD q a ss), a20, a21, a22, a23], g15⟩ = .ok .nx ⟨[a0, .dat .bag, a2, .dat (pd q), .dat (.lst ((ptsL q).map pd)), .dat (.lst ((lnB q).map td)), .dat (td t), .dat (pd a), .dat (pd b), .dat (.int (away a b)), .dat (.lst [pd u, pd v]), .dat (.str s), .own [w1 q a ss, w2 q a ss], .dat (.lst (sidesL.map (nrD a))), .dat (.lst [.lst (sidesL.map (mvD q a)), .lst (sidesL.map (rmD q a)), nbD q a]), .dat (.lst [.lst (sidesL.map (mvD q a)), .lst (sidesL.map (rmD q a))]), a16, .dat (.lst (ss.map D.str)), a18, .dat (wkD q a ss), a20, a21, a22, a23], g15⟩ := l18 a0 a2 a3 a4 a5 a6 a7 a8 a9 a10 a11 a12 a13 a14 a15 a16 a17 a18 a19 a20 a21 a22 a23 (h1 := h1) (h2 := h2) hq ha hb hss hn g15
  have e19 : lst_19 ⟨[a0, .dat .bag, a2, .dat (pd q), .dat (.lst ((ptsL q).map pd)), .dat (.lst ((lnB q).map td)), .dat (td t), .dat (pd a), .dat (pd b), .dat (.int (away a b)), .dat (.lst [pd u, pd v]), .dat (.str s), .own [w1 q a ss, w2 q a ss], .dat (.lst (sidesL.map (nrD a))), .dat (.lst [.lst (sidesL.map (mvD q a)), .lst (sidesL.map (rmD q a)), nbD q a]), .dat (.lst [.lst (sidesL.map (mvD q a)), .lst (sidesL.map (rmD q a))]), a16, .dat (.lst (ss.map D.str)), a18, .dat (wkD q a ss), a20, a21, a22, a23], g15⟩ = .ok .nx ⟨[a0, .dat .bag, a2, .dat (pd q), .dat (.lst ((ptsL q).map pd)), .dat (.lst ((lnB q).map td)), .dat (td t), .dat (pd a), .dat (pd b), .dat (.int (away a b)), .dat (.lst [pd u, pd v]), .dat (.str s), .dat (.lst [w1 q a ss, w2 q a ss]), .dat (.lst (sidesL.map (nrD a))), .dat (.lst [.lst (sidesL.map (mvD q a)), .lst (sidesL.map (rmD q a)), nbD q a]), .dat (.lst [.lst (sidesL.map (mvD q a)), .lst (sidesL.map (rmD q a))]), a16, .dat (.lst (ss.map D.str)), a18, .dat (wkD q a ss), a20, a21, a22, a23], g15⟩ := l19 a0 a2 a3 a4 a5 a6 a7 a8 a9 a10 a11 a12 a13 a14 a15 a16 a17 a18 a19 a20 a21 a22 a23 (h1 := h1) (h2 := h2) hq ha hb hss hn h20 g15
  have e20 : lst_20 ⟨[a0, .dat .bag, a2, .dat (pd q), .dat (.lst ((ptsL q).map pd)), .dat (.lst ((lnB q).map td)), .dat (td t), .dat (pd a), .dat (pd b), .dat (.int (away a b)), .dat (.lst [pd u, pd v]), .dat (.str s), .dat (.lst [w1 q a ss, w2 q a ss]), .dat (.lst (sidesL.map (nrD a))), .dat (.lst [.lst (sidesL.map (mvD q a)), .lst (sidesL.map (rmD q a)), nbD q a]), .dat (.lst [.lst (sidesL.map (mvD q a)), .lst (sidesL.map (rmD q a))]), a16, .dat (.lst (ss.map D.str)), a18, .dat (wkD q a ss), a20, a21, a22, a23], g15⟩ = .ok .nx ⟨[a0, .dat .bag, a2, .dat (pd q), .dat (.lst ((ptsL q).map pd)), .dat (.lst ((lnB q).map td)), .dat (td t), .dat (pd a), .dat (pd b), .dat (.int (away a b)), .dat (.lst [pd u, pd v]), .dat (.str s), .dat (.lst [w1 q a ss, w2 q a ss]), .dat (.lst (sidesL.map (nrD a))), .dat (.lst [.lst (sidesL.map (mvD q a)), .lst (sidesL.map (rmD q a)), nbD q a]), .dat (.lst [.lst (sidesL.map (mvD q a)), .lst (sidesL.map (rmD q a))]), a16, .dat (.lst (ss.map D.str)), a18, .dat (wkD q a ss), a20, .dat (wkD q a (strL a b)), a22, a23], g15⟩ := l20 a0 a2 a3 a4 a5 a6 a7 a8 a9 a10 a11 a12 a13 a14 a15 a16 a17 a18 a19 a20 a21 a22 a23 (h1 := h1) (h2 := h2) hq ha hb g15
  have e21 : lst_21 ⟨[a0, .dat .bag, a2, .dat (pd q), .dat (.lst ((ptsL q).map pd)), .dat (.lst ((lnB q).map td)), .dat (td t), .dat (pd a), .dat (pd b), .dat (.int (away a b)), .dat (.lst [pd u, pd v]), .dat (.str s), .dat (.lst [w1 q a ss, w2 q a ss]), .dat (.lst (sidesL.map (nrD a))), .dat (.lst [.lst (sidesL.map (mvD q a)), .lst (sidesL.map (rmD q a)), nbD q a]), .dat (.lst [.lst (sidesL.map (mvD q a)), .lst (sidesL.map (rmD q a))]), a16, .dat (.lst (ss.map D.str)), a18, .dat (wkD q a ss), a20, .dat (wkD q a (strL a b)), a22, a23], g15⟩ = .ok .nx ⟨[a0, .dat .bag, a2, .dat (pd q), .dat (.lst ((ptsL q).map pd)), .dat (.lst ((lnB q).map td)), .dat (td t), .dat (pd a), .dat (pd b), .dat (.int (away a b)), .dat (.lst [pd u, pd v]), .dat (.str s), .dat (.lst [w1 q a ss, w2 q a ss]), .dat (.lst (sidesL.map (nrD a))), .dat (.lst [.lst (sidesL.map (mvD q a)), .lst (sidesL.map (rmD q a)), nbD q a]), .dat (.lst [.lst (sidesL.map (mvD q a)), .lst (sidesL.map (rmD q a))]), a16, .dat (.lst (ss.map D.str)), a18, .dat (wkD q a ss), a20, .dat (wkD q a (strL a b)), a22, a23], g15⟩ := l21 a0 a2 a3 a4 a5 a6 a7 a8 a9 a10 a11 a12 a13 a14 a15 a16 a17 a18 a19 a20 a21 a22 a23 (h1 := h1) (h2 := h2) hq ha hb g15
  obtain ⟨o, z, g22, ho, hz, k22, e22⟩ := l22 a0 a2 a3 a4 a5 a6 a7 a8 a9 a10 a11 a12 a13 a14 a15 a16 a17 a18 a19 a20 a21 a22 a23 (q := q) (a := a) (b := b) (u := u) (v := v) (t := t) (s := s) (ss := ss) (h1 := h1) (h2 := h2) g15 k15
  have e23 : lst_23 ⟨[a0, .dat .bag, a2, .dat (pd q), .dat (.lst ((ptsL q).map pd)), .dat (.lst ((lnB q).map td)), .dat (td t), .dat (pd a), .dat (pd b), .dat (.int (away a b)), .dat (.lst [pd u, pd v]), .dat (.str s), .dat (.lst [w1 q a ss, w2 q a ss]), .dat (.lst (sidesL.map (nrD a))), .dat (.lst [.lst (sidesL.map (mvD q a)), .lst (sidesL.map (rmD q a)), nbD q a]), .dat (.lst [.lst (sidesL.map (mvD q a)), .lst (sidesL.map (rmD q a))]), a16, .dat (.lst (ss.map D.str)), a18, .dat (wkD q a ss), a20, .dat (wkD q a (strL a b)), .dat o, .dat (.str z)], g22⟩ = .ok .nx ⟨[a0, .dat .bag, a2, .dat (pd q), .dat (.lst ((ptsL q).map pd)), .dat (.lst ((lnB q).map td)), .dat (td t), .dat (pd a), .dat (pd b), .dat (.int (away a b)), .dat (.lst [pd u, pd v]), .dat (.str s), .own [nN], .dat (.lst (sidesL.map (nrD a))), .dat (.lst [.lst (sidesL.map (mvD q a)), .lst (sidesL.map (rmD q a)), nbD q a]), .dat (.lst [.lst (sidesL.map (mvD q a)), .lst (sidesL.map (rmD q a))]), a16, .dat (.lst (ss.map D.str)), a18, .dat (wkD q a ss), a20, .dat (wkD q a (strL a b)), .dat o, .dat (.str z)], g22⟩ := l23 a0 a2 a3 a4 a5 a6 a7 a8 a9 a10 a11 a12 a13 a14 a15 a16 a17 a18 a19 a20 a21 a22 a23 (h1 := h1) (h2 := h2) hq ho g22
  have e24 : lst_24 ⟨[a0, .dat .bag, a2, .dat (pd q), .dat (.lst ((ptsL q).map pd)), .dat (.lst ((lnB q).map td)), .dat (td t), .dat (pd a), .dat (pd b), .dat (.int (away a b)), .dat (.lst [pd u, pd v]), .dat (.str s), .own [nN], .dat (.lst (sidesL.map (nrD a))), .dat (.lst [.lst (sidesL.map (mvD q a)), .lst (sidesL.map (rmD q a)), nbD q a]), .dat (.lst [.lst (sidesL.map (mvD q a)), .lst (sidesL.map (rmD q a))]), a16, .dat (.lst (ss.map D.str)), a18, .dat (wkD q a ss), a20, .dat (wkD q a (strL a b)), .dat o, .dat (.str z)], g22⟩ = .ok .nx ⟨[a0, .dat .bag, a2, .dat (pd q), .dat (.lst ((ptsL q).map pd)), .dat (.lst ((lnB q).map td)), .dat (td t), .dat (pd a), .dat (pd b), .dat (.int (away a b)), .dat (.lst [pd u, pd v]), .dat (.str s), .own [nN, nN], .dat (.lst (sidesL.map (nrD a))), .dat (.lst [.lst (sidesL.map (mvD q a)), .lst (sidesL.map (rmD q a)), nbD q a]), .dat (.lst [.lst (sidesL.map (mvD q a)), .lst (sidesL.map (rmD q a))]), a16, .dat (.lst (ss.map D.str)), a18, .dat (wkD q a ss), a20, .dat (wkD q a (strL a b)), .dat o, .dat (.str z)], g22⟩ := l24 a0 a2 a3 a4 a5 a6 a7 a8 a9 a10 a11 a12 a13 a14 a15 a16 a17 a18 a19 a20 a21 a22 a23 (h1 := h1) (h2 := h2) hq ha hz g22
  have e25 : lst_25 ⟨[a0, .dat .bag, a2, .dat (pd q), .dat (.lst ((ptsL q).map pd)), .dat (.lst ((lnB q).map td)), .dat (td t), .dat (pd a), .dat (pd b), .dat (.int (away a b)), .dat (.lst [pd u, pd v]), .dat (.str s), .own [nN, nN], .dat (.lst (sidesL.map (nrD a))), .dat (.lst [.lst (sidesL.map (mvD q a)), .lst (sidesL.map (rmD q a)), nbD q a]), .dat (.lst [.lst (sidesL.map (mvD q a)), .lst (sidesL.map (rmD q a))]), a16, .dat (.lst (ss.map D.str)), a18, .dat (wkD q a ss), a20, .dat (wkD q a (strL a b)), .dat o, .dat (.str z)], g22⟩ = .ok .nx ⟨[a0, .dat .bag, a2, .dat (pd q), .dat (.lst ((ptsL q).map pd)), .dat (.lst ((lnB q).map td)), .dat (td t), .dat (pd a), .dat (pd b), .dat (.int (away a b)), .dat (.lst [pd u, pd v]), .dat (.str s), .own [nN, nN, nN], .dat (.lst (sidesL.map (nrD a))), .dat (.lst [.lst (sidesL.map (mvD q a)), .lst (sidesL.map (rmD q a)), nbD q a]), .dat (.lst [.lst (sidesL.map (mvD q a)), .lst (sidesL.map (rmD q a))]), a16, .dat (.lst (ss.map D.str)), a18, .dat (wkD q a ss), a20, .dat (wkD q a (strL a b)), .dat o, .dat (.str z)], g22⟩ := l25 a0 a2 a3 a4 a5 a6 a7 a8 a9 a10 a11 a12 a13 a14 a15 a16 a17 a18 a19 a20 a21 a22 a23 (h1 := h1) (h2 := h2) hq ho g22
  have e26 : lst_26 ⟨[a0, .dat .bag, a2, .dat (pd q), .dat (.lst ((ptsL q).map pd)), .dat (.lst ((lnB q).map td)), .dat (td t), .dat (pd a), .dat (pd b), .dat (.int (away a b)), .dat (.lst [pd u, pd v]), .dat (.str s), .own [nN, nN, nN], .dat (.lst (sidesL.map (nrD a))), .dat (.lst [.lst (sidesL.map (mvD q a)), .lst (sidesL.map (rmD q a)), nbD q a]), .dat (.lst [.lst (sidesL.map (mvD q a)), .lst (sidesL.map (rmD q a))]), a16, .dat (.lst (ss.map D.str)), a18, .dat (wkD q a ss), a20, .dat (wkD q a (strL a b)), .dat o, .dat (.str z)], g22⟩ = .ok .nx ⟨[a0, .dat .bag, a2, .dat (pd q), .dat (.lst ((ptsL q).map pd)), .dat (.lst ((lnB q).map td)), .dat (td t), .dat (pd a), .dat (pd b), .dat (.int (away a b)), .dat (.lst [pd u, pd v]), .dat (.str s), .own [nN, nN, nN], .dat (.lst (sidesL.map (nrD a))), .dat (.lst [.lst (sidesL.map (mvD q a)), .lst (sidesL.map (rmD q a)), nbD q a]), .dat (.lst [.lst (sidesL.map (mvD q a)), .lst (sidesL.map (rmD q a))]), a16, .dat (.lst (ss.map D.str)), a18, .dat (wkD q a ss), a20, .dat (wkD q a (strL a b)), .dat o, .dat (.str z)], g22⟩ := l26 a0 a2 a3 a4 a5 a6 a7 a8 a9 a10 a11 a12 a13 a14 a15 a16 a17 a18 a19 a20 a21 a22 a23 (h1 := h1) (h2 := h2) g22
  refine ⟨q, a, b, u, v, t, s, ss, o, z, g22, k22, ?_⟩
  unfold lapB
  rw [seq_ok e0, seq_ok e1, seq_ok e2, seq_ok e3, seq_ok e4, seq_ok e5, seq_ok e6, seq_ok e7, seq_ok e8, seq_ok e9, seq_ok e10, seq_ok e11, seq_ok e12, seq_ok e13, seq_ok e14, seq_ok e15, seq_ok e16, seq_ok e17, seq_ok e18, seq_ok e19, seq_ok e20, seq_ok e21, seq_ok e22, seq_ok e23, seq_ok e24, seq_ok e25]
  exact e26
def Inv (s : AS) : Prop := ∃ a0 a2 a3 a4 a5 a6 a7 a8 a9 a10 a11 a12 a13 a14 a15 a16 a17 a18 a19 a20 a21 a22 a23 : SV, ∃ g : Bag, s = ⟨[a0, .dat .bag, a2, a3, a4, a5, a6, a7, a8, a9, a10, a11, a12, a13, a14, a15, a16, a17, a18, a19, a20, a21, a22, a23], g⟩ ∧ ownAt a6 = false ∧ ownAt a11 = false ∧ ownAt a16 = false ∧ ownAt a18 = false ∧ ownAt a20 = false ∧ Good g
theorem law_good (ns : List Int) (h : ns.length ≤ 63) : ∃ s, m_law (asL N_law.length 1 ns) = .ok (.rt (.bl true)) s := by
  have hc : ∀ c ∈ cellsOf ns, 0 ≤ c := fun c hc => by
    unfold cellsOf at hc
    obtain ⟨n, _, rfl⟩ := List.mem_map.mp hc
    unfold absI
    first | omega | (split <;> omega)
  have hl : (cellsOf ns).length ≤ 63 := by
    unfold cellsOf
    rw [List.length_map, List.length_take]; omega
  have i0 : Inv (asL N_law.length 1 ns) := ⟨.no, .no, .no, .no, .no, .no, .no, .no, .no, .no, .no, .no, .no, .no, .no, .no, .no, .no, .no, .no, .no, .no, .no, _, rfl, rfl, rfl, rfl, rfl, rfl, ⟨Int.le_refl 0, show (0 : Int) ≤ 1234567891 by decide, show (1234567891 : Int) < 2147483647 by decide, Int.le_refl 0, hc, hl⟩⟩
  have hr : fRng1 (ret (.int 6)) (asL N_law.length 1 ns) = .ok ((List.range 6).map fun i => D.int (0 + ((i : Nat) : Int))) (asL N_law.length 1 ns) := rfl
  obtain ⟨s', e, _⟩ := loop_inv (g := gSet 2) (body := lapB) (Inv := Inv) (ds := (List.range 6).map fun i => D.int (0 + ((i : Nat) : Int))) i0 fun d hd s hs => by
    obtain ⟨a0, a2, a3, a4, a5, a6, a7, a8, a9, a10, a11, a12, a13, a14, a15, a16, a17, a18, a19, a20, a21, a22, a23, g, rfl, h6, h11, h16, h18, h20, hg⟩ := hs
    obtain ⟨q, a, b, u, v, t, s, ss, o, z, g', k, e⟩ := lap_one a0 (.dat d) a3 a4 a5 a6 a7 a8 a9 a10 a11 a12 a13 a14 a15 a16 a17 a18 a19 a20 a21 a22 a23 h6 h11 h16 h18 h20 g hg
    refine ⟨_, _, rfl, e, ?_⟩
    exact ⟨_, _, _, _, _, _, _, _, _, _, _, _, _, _, _, _, _, _, _, _, _, _, _, g', rfl, rfl, rfl, h16, h18, h20, k⟩
  refine ⟨s', ?_⟩
  rw [law_is]
  have e1 : sFor (fRng1 (ret (.int 6))) (gSet 2) lapB (asL N_law.length 1 ns) = .ok .nx s' := by
    unfold sFor
    rw [bnd_ok' hr]
    exact e
  rw [seq_ok e1]
  rfl
end Ink.K01

set_option maxRecDepth 100000
set_option autoImplicit true
namespace Ink.K01
open PySem PySem.Spec PyProof.Rows L2 PySem.W
theorem dgoes {K : PySem.W.Frag} {w : World} {a e n wa s : Addr} {es : Array DictEntry} {nn : Nat} {us : List (Key × Value)} (lG : K.lookup a = some ⟨.type "dict", none, .dict es nn, #[]⟩) (kl : PySem.W.KeysLit w.params es.toList) (low : (a == sysModules) = false)
    (hu : us = [(.inr "e", .ref e), (.inr "n", .ref n), (.inr "w", .ref wa), (.inr "s", .ref s)]) (pr : ∀ prog, Pairs (mixKind prog w) es.toList us)
    {oe : Option Addr} {me : Nat} {ze : Array (Option Value)} {te re : Tok} (le : K.lookup e = some ⟨.type "tuple", oe, .seq #[.int (1) te, .int (0) re] me, ze⟩)
    {on : Option Addr} {mn : Nat} {zn : Array (Option Value)} {tn rn : Tok} (ln : K.lookup n = some ⟨.type "tuple", on, .seq #[.int (0) tn, .int (1) rn] mn, zn⟩)
    {owa : Option Addr} {mwa : Nat} {zwa : Array (Option Value)} {twa rwa : Tok} (lwa : K.lookup wa = some ⟨.type "tuple", owa, .seq #[.int (-1) twa, .int (0) rwa] mwa, zwa⟩)
    {os : Option Addr} {ms : Nat} {zs : Array (Option Value)} {ts rs : Tok} (ls : K.lookup s = some ⟨.type "tuple", os, .seq #[.int (0) ts, .int (-1) rs] ms, zs⟩)
    (mg : Str → Option Value) (b1 b2 : Addr) (tb : List (Addr × Str)) (F : Hp) : DR ⟨K, mg, b1, b2, w, tb⟩ F (.ref a) Ink.K01.dGOES := by
  have tup : ∀ {q : Addr} {o : Option Addr} {m : Nat} {z : Array (Option Value)} {i j : Int} {t u : Tok}, K.lookup q = some ⟨.type "tuple", o, .seq #[.int i t, .int j u] m, z⟩ → DR ⟨K, mg, b1, b2, w, tb⟩ F (.ref q) (.tup [.int i, .int j]) := fun {q o m z i j t u} h =>
    .tup (xs := [.int i, .int j]) (.inr ⟨_, _, _, h, rfl, rfl, (by show 2 ≤ sizeLine; rw [sizeLine_eq]; omega), .cons ⟨t, rfl⟩ (.cons ⟨u, rfl⟩ .nil)⟩) (.cons (.int i) (.cons (.int j) .nil))
  refine .kd (kvs := [(.inr "e", .ref e), (.inr "n", .ref n), (.inr "w", .ref wa), (.inr "s", .ref s)]) (ks := [.inr "e", .inr "n", .inr "w", .inr "s"]) (xs := [.ref e, .ref n, .ref wa, .ref s]) (ds := [.tup [.int 1, .int 0], .tup [.int 0, .int 1], .tup [.int (-1), .int 0], .tup [.int 0, .int (-1)]]) ⟨es, nn, us, lG, kl, low, ?_, pr, ?_⟩ rfl rfl (.cons (tup le) (.cons (tup ln) (.cons (tup lwa) (.cons (tup ls) .nil))))
  · rw [hu]
    exact .cons ⟨rfl, rfl⟩ (.cons ⟨rfl, rfl⟩ (.cons ⟨rfl, rfl⟩ (.cons ⟨rfl, rfl⟩ .nil)))
  · rw [hu]
    show ([.inr "e", .inr "n", .inr "w", .inr "s"] : List Key).Nodup
    decide +kernel
theorem exm_of {K : PySem.W.Frag} {S : Addr} (h1 : PySem.W.subIn K (.ref S) (.type "BaseException") = some true) (h2 : PySem.W.isClsIn K S = true) (h3 : PySem.W.typeIn K (.ref S) = some (.type "type")) (h4 : PySem.W.subIn K (.ref S) (.ref S) = some true) : PySem.W.exmOne K (.ref S) (.ref S) = some true := by
  have e1 : (PySem.W.subIn K (.ref S) (.type "BaseException") == some true) = true := by rw [h1] <;> rfl
  have e2 : ((PySem.W.clsIn K S).isSome && PySem.W.typeIn K (.ref S) == some (.type "type")) = true := by
    have h2' : (PySem.W.clsIn K S).isSome = true := h2
    rw [h2', h3] <;> rfl
  show (if (PySem.W.subIn K (.ref S) (.type "BaseException") == some true) = true then (if ((PySem.W.clsIn K S).isSome && PySem.W.typeIn K (.ref S) == some (.type "type")) = true then PySem.W.subIn K (.ref S) (.ref S) else none) else none) = some true
  rw [if_pos e1, if_pos e2]
  exact h4
theorem all_mk {P : Program} {w : World} {K : PySem.W.Frag} {h : Heap} {mg : Str → Option Value} {fa : Addr} (X : K.In h) (G : h.Ns mainGlobals mg) (hfa : mg "law" = some (.ref fa))
    {cL tP CS aG e n wa s : Addr} {es : Array DictEntry} {nn : Nat} {us : List (Key × Value)} {oe on owa os : Option Addr} {me mn mwa ms : Nat} {ze zn zwa zs : Array (Option Value)} {te ue tn un twa uwa ts us2 : Tok}
    {f0 : Addr} {oc0 kV0 dc0 pm0 cd0 ct0 : Value} {od0 an0 : Option Addr} {sl0 : Array (Option Value)}
    {f1 : Addr} {oc1 kV1 dc1 pm1 cd1 ct1 : Value} {od1 an1 : Option Addr} {sl1 : Array (Option Value)}
    {f2 : Addr} {oc2 kV2 dc2 pm2 cd2 ct2 : Value} {od2 an2 : Option Addr} {sl2 : Array (Option Value)}
    {f3 : Addr} {oc3 kV3 dc3 pm3 cd3 ct3 : Value} {od3 an3 : Option Addr} {sl3 : Array (Option Value)}
    {f4 : Addr} {oc4 kV4 dc4 pm4 cd4 ct4 : Value} {od4 an4 : Option Addr} {sl4 : Array (Option Value)}
    {f5 : Addr} {oc5 kV5 dc5 pm5 cd5 ct5 : Value} {od5 an5 : Option Addr} {sl5 : Array (Option Value)}
    {f6 : Addr} {oc6 kV6 dc6 pm6 cd6 ct6 : Value} {od6 an6 : Option Addr} {sl6 : Array (Option Value)}
    {f7 : Addr} {oc7 kV7 dc7 pm7 cd7 ct7 : Value} {od7 an7 : Option Addr} {sl7 : Array (Option Value)}
    {f8 : Addr} {oc8 kV8 dc8 pm8 cd8 ct8 : Value} {od8 an8 : Option Addr} {sl8 : Array (Option Value)}
    {f9 : Addr} {oc9 kV9 dc9 pm9 cd9 ct9 : Value} {od9 an9 : Option Addr} {sl9 : Array (Option Value)}
    {f10 : Addr} {oc10 kV10 dc10 pm10 cd10 ct10 : Value} {od10 an10 : Option Addr} {sl10 : Array (Option Value)}
    {f11 : Addr} {oc11 kV11 dc11 pm11 cd11 ct11 : Value} {od11 an11 : Option Addr} {sl11 : Array (Option Value)}
    {f12 : Addr} {oc12 kV12 dc12 pm12 cd12 ct12 : Value} {od12 an12 : Option Addr} {sl12 : Array (Option Value)}
    {f13 : Addr} {oc13 kV13 dc13 pm13 cd13 ct13 : Value} {od13 an13 : Option Addr} {sl13 : Array (Option Value)}
    {f14 : Addr} {oc14 kV14 dc14 pm14 cd14 ct14 : Value} {od14 an14 : Option Addr} {sl14 : Array (Option Value)}
    {f15 : Addr} {oc15 kV15 dc15 pm15 cd15 ct15 : Value} {od15 an15 : Option Addr} {sl15 : Array (Option Value)}
    {f16 : Addr} {oc16 kV16 dc16 pm16 cd16 ct16 : Value} {od16 an16 : Option Addr} {sl16 : Array (Option Value)}
    {f17 : Addr} {oc17 kV17 dc17 pm17 cd17 ct17 : Value} {od17 an17 : Option Addr} {sl17 : Array (Option Value)}
    {f18 : Addr} {oc18 kV18 dc18 pm18 cd18 ct18 : Value} {od18 an18 : Option Addr} {sl18 : Array (Option Value)}
    {f19 : Addr} {oc19 kV19 dc19 pm19 cd19 ct19 : Value} {od19 an19 : Option Addr} {sl19 : Array (Option Value)}
    {f20 : Addr} {oc20 kV20 dc20 pm20 cd20 ct20 : Value} {od20 an20 : Option Addr} {sl20 : Array (Option Value)}
    {f21 : Addr} {oc21 kV21 dc21 pm21 cd21 ct21 : Value} {od21 an21 : Option Addr} {sl21 : Array (Option Value)}
    {f22 : Addr} {oc22 kV22 dc22 pm22 cd22 ct22 : Value} {od22 an22 : Option Addr} {sl22 : Array (Option Value)}
    {f23 : Addr} {oc23 kV23 dc23 pm23 cd23 ct23 : Value} {od23 an23 : Option Addr} {sl23 : Array (Option Value)}
    {f24 : Addr} {oc24 kV24 dc24 pm24 cd24 ct24 : Value} {od24 an24 : Option Addr} {sl24 : Array (Option Value)}
    {f25 : Addr} {oc25 kV25 dc25 pm25 cd25 ct25 : Value} {od25 an25 : Option Addr} {sl25 : Array (Option Value)}
    {f26 : Addr} {oc26 kV26 dc26 pm26 cd26 ct26 : Value} {od26 an26 : Option Addr} {sl26 : Array (Option Value)}
    {f27 : Addr} {oc27 kV27 dc27 pm27 cd27 ct27 : Value} {od27 an27 : Option Addr} {sl27 : Array (Option Value)}
    {f28 : Addr} {oc28 kV28 dc28 pm28 cd28 ct28 : Value} {od28 an28 : Option Addr} {sl28 : Array (Option Value)}
    {f29 : Addr} {oc29 kV29 dc29 pm29 cd29 ct29 : Value} {od29 an29 : Option Addr} {sl29 : Array (Option Value)}
    {f30 : Addr} {oc30 kV30 dc30 pm30 cd30 ct30 : Value} {od30 an30 : Option Addr} {sl30 : Array (Option Value)}
    {f31 : Addr} {oc31 kV31 dc31 pm31 ct31 : Value} {od31 an31 : Option Addr} {sl31 : Array (Option Value)}
    (a0 : PySem.W.nsIn K mainGlobals "is_number" = some (some (.ref f0)))
    (l0 : K.lookup f0 = some ⟨oc0, od0, .func (PySem.W.fnOf "is_number" "is_number" (defArgs st_is_number) (defBody st_is_number) (defScope st_is_number) .none kV0 dc0 pm0 an0 cd0 ct0), sl0⟩)
    (c0 : PySem.W.codeIn K cd0 "is_number" = true)
    (k0 : PySem.W.keepIn K (.ref f0) = true)
    (a1 : PySem.W.nsIn K mainGlobals "is_index" = some (some (.ref f1)))
    (l1 : K.lookup f1 = some ⟨oc1, od1, .func (PySem.W.fnOf "is_index" "is_index" (defArgs st_is_index) (defBody st_is_index) (defScope st_is_index) .none kV1 dc1 pm1 an1 cd1 ct1), sl1⟩)
    (c1 : PySem.W.codeIn K cd1 "is_index" = true)
    (k1 : PySem.W.keepIn K (.ref f1) = true)
    (a2 : PySem.W.nsIn K mainGlobals "is_sized" = some (some (.ref f2)))
    (l2 : K.lookup f2 = some ⟨oc2, od2, .func (PySem.W.fnOf "is_sized" "is_sized" (defArgs st_is_sized) (defBody st_is_sized) (defScope st_is_sized) .none kV2 dc2 pm2 an2 cd2 ct2), sl2⟩)
    (c2 : PySem.W.codeIn K cd2 "is_sized" = true)
    (k2 : PySem.W.keepIn K (.ref f2) = true)
    (a3 : PySem.W.nsIn K mainGlobals "is_couple" = some (some (.ref f3)))
    (l3 : K.lookup f3 = some ⟨oc3, od3, .func (PySem.W.fnOf "is_couple" "is_couple" (defArgs st_is_couple) (defBody st_is_couple) (defScope st_is_couple) .none kV3 dc3 pm3 an3 cd3 ct3), sl3⟩)
    (c3 : PySem.W.codeIn K cd3 "is_couple" = true)
    (k3 : PySem.W.keepIn K (.ref f3) = true)
    (a4 : PySem.W.nsIn K mainGlobals "is_point" = some (some (.ref f4)))
    (l4 : K.lookup f4 = some ⟨oc4, od4, .func (PySem.W.fnOf "is_point" "is_point" (defArgs st_is_point) (defBody st_is_point) (defScope st_is_point) .none kV4 dc4 pm4 an4 cd4 ct4), sl4⟩)
    (c4 : PySem.W.codeIn K cd4 "is_point" = true)
    (k4 : PySem.W.keepIn K (.ref f4) = true)
    (a5 : PySem.W.nsIn K mainGlobals "points" = some (some (.ref f5)))
    (l5 : K.lookup f5 = some ⟨oc5, od5, .func (PySem.W.fnOf "points" "points" (defArgs st_points) (defBody st_points) (defScope st_points) .none kV5 dc5 pm5 an5 cd5 ct5), sl5⟩)
    (c5 : PySem.W.codeIn K cd5 "points" = true)
    (k5 : PySem.W.keepIn K (.ref f5) = true)
    (a6 : PySem.W.nsIn K mainGlobals "lines_of" = some (some (.ref f6)))
    (l6 : K.lookup f6 = some ⟨oc6, od6, .func (PySem.W.fnOf "lines_of" "lines_of" (defArgs st_lines_of) (defBody st_lines_of) (defScope st_lines_of) .none kV6 dc6 pm6 an6 cd6 ct6), sl6⟩)
    (c6 : PySem.W.codeIn K cd6 "lines_of" = true)
    (k6 : PySem.W.keepIn K (.ref f6) = true)
    (a7 : PySem.W.nsIn K mainGlobals "ends_of" = some (some (.ref f7)))
    (l7 : K.lookup f7 = some ⟨oc7, od7, .func (PySem.W.fnOf "ends_of" "ends_of" (defArgs st_ends_of) (defBody st_ends_of) (defScope st_ends_of) .none kV7 dc7 pm7 an7 cd7 ct7), sl7⟩)
    (c7 : PySem.W.codeIn K cd7 "ends_of" = true)
    (k7 : PySem.W.keepIn K (.ref f7) = true)
    (a8 : PySem.W.nsIn K mainGlobals "moved" = some (some (.ref f8)))
    (l8 : K.lookup f8 = some ⟨oc8, od8, .func (PySem.W.fnOf "moved" "moved" (defArgs st_moved) (defBody st_moved) (defScope st_moved) .none kV8 dc8 pm8 an8 cd8 ct8), sl8⟩)
    (c8 : PySem.W.codeIn K cd8 "moved" = true)
    (k8 : PySem.W.keepIn K (.ref f8) = true)
    (a9 : PySem.W.nsIn K mainGlobals "distance" = some (some (.ref f9)))
    (l9 : K.lookup f9 = some ⟨oc9, od9, .func (PySem.W.fnOf "distance" "distance" (defArgs st_distance) (defBody st_distance) (defScope st_distance) .none kV9 dc9 pm9 an9 cd9 ct9), sl9⟩)
    (c9 : PySem.W.codeIn K cd9 "distance" = true)
    (k9 : PySem.W.keepIn K (.ref f9) = true)
    (a10 : PySem.W.nsIn K mainGlobals "line_between" = some (some (.ref f10)))
    (l10 : K.lookup f10 = some ⟨oc10, od10, .func (PySem.W.fnOf "line_between" "line_between" (defArgs st_line_between) (defBody st_line_between) (defScope st_line_between) .none kV10 dc10 pm10 an10 cd10 ct10), sl10⟩)
    (c10 : PySem.W.codeIn K cd10 "line_between" = true)
    (k10 : PySem.W.keepIn K (.ref f10) = true)
    (a11 : PySem.W.nsIn K mainGlobals "side_between" = some (some (.ref f11)))
    (l11 : K.lookup f11 = some ⟨oc11, od11, .func (PySem.W.fnOf "side_between" "side_between" (defArgs st_side_between) (defBody st_side_between) (defScope st_side_between) .none kV11 dc11 pm11 an11 cd11 ct11), sl11⟩)
    (c11 : PySem.W.codeIn K cd11 "side_between" = true)
    (k11 : PySem.W.keepIn K (.ref f11) = true)
    (a12 : PySem.W.nsIn K mainGlobals "neighbours" = some (some (.ref f12)))
    (l12 : K.lookup f12 = some ⟨oc12, od12, .func (PySem.W.fnOf "neighbours" "neighbours" (defArgs st_neighbours) (defBody st_neighbours) (defScope st_neighbours) .none kV12 dc12 pm12 an12 cd12 ct12), sl12⟩)
    (c12 : PySem.W.codeIn K cd12 "neighbours" = true)
    (k12 : PySem.W.keepIn K (.ref f12) = true)
    (a13 : PySem.W.nsIn K mainGlobals "is_at_rim" = some (some (.ref f13)))
    (l13 : K.lookup f13 = some ⟨oc13, od13, .func (PySem.W.fnOf "is_at_rim" "is_at_rim" (defArgs st_is_at_rim) (defBody st_is_at_rim) (defScope st_is_at_rim) .none kV13 dc13 pm13 an13 cd13 ct13), sl13⟩)
    (c13 : PySem.W.codeIn K cd13 "is_at_rim" = true)
    (k13 : PySem.W.keepIn K (.ref f13) = true)
    (a14 : PySem.W.nsIn K mainGlobals "straight_way" = some (some (.ref f14)))
    (l14 : K.lookup f14 = some ⟨oc14, od14, .func (PySem.W.fnOf "straight_way" "straight_way" (defArgs st_straight_way) (defBody st_straight_way) (defScope st_straight_way) .none kV14 dc14 pm14 an14 cd14 ct14), sl14⟩)
    (c14 : PySem.W.codeIn K cd14 "straight_way" = true)
    (k14 : PySem.W.keepIn K (.ref f14) = true)
    (a15 : PySem.W.nsIn K mainGlobals "walked" = some (some (.ref f15)))
    (l15 : K.lookup f15 = some ⟨oc15, od15, .func (PySem.W.fnOf "walked" "walked" (defArgs st_walked) (defBody st_walked) (defScope st_walked) .none kV15 dc15 pm15 an15 cd15 ct15), sl15⟩)
    (c15 : PySem.W.codeIn K cd15 "walked" = true)
    (k15 : PySem.W.keepIn K (.ref f15) = true)
    (a16 : PySem.W.nsIn K mainGlobals "lines_walked" = some (some (.ref f16)))
    (l16 : K.lookup f16 = some ⟨oc16, od16, .func (PySem.W.fnOf "lines_walked" "lines_walked" (defArgs st_lines_walked) (defBody st_lines_walked) (defScope st_lines_walked) .none kV16 dc16 pm16 an16 cd16 ct16), sl16⟩)
    (c16 : PySem.W.codeIn K cd16 "lines_walked" = true)
    (k16 : PySem.W.keepIn K (.ref f16) = true)
    (a17 : PySem.W.nsIn K mainGlobals "_law_take" = some (some (.ref f17)))
    (l17 : K.lookup f17 = some ⟨oc17, od17, .func (PySem.W.fnOf "_law_take" "_law_take" (defArgs st__law_take) (defBody st__law_take) (defScope st__law_take) .none kV17 dc17 pm17 an17 cd17 ct17), sl17⟩)
    (c17 : PySem.W.codeIn K cd17 "_law_take" = true)
    (k17 : PySem.W.keepIn K (.ref f17) = true)
    (a18 : PySem.W.nsIn K mainGlobals "_law_some" = some (some (.ref f18)))
    (l18 : K.lookup f18 = some ⟨oc18, od18, .func (PySem.W.fnOf "_law_some" "_law_some" (defArgs st__law_some) (defBody st__law_some) (defScope st__law_some) .none kV18 dc18 pm18 an18 cd18 ct18), sl18⟩)
    (c18 : PySem.W.codeIn K cd18 "_law_some" = true)
    (k18 : PySem.W.keepIn K (.ref f18) = true)
    (a19 : PySem.W.nsIn K mainGlobals "_law_mixed" = some (some (.ref f19)))
    (l19 : K.lookup f19 = some ⟨oc19, od19, .func (PySem.W.fnOf "_law_mixed" "_law_mixed" (defArgs st__law_mixed) (defBody st__law_mixed) (defScope st__law_mixed) .none kV19 dc19 pm19 an19 cd19 ct19), sl19⟩)
    (c19 : PySem.W.codeIn K cd19 "_law_mixed" = true)
    (k19 : PySem.W.keepIn K (.ref f19) = true)
    (a20 : PySem.W.nsIn K mainGlobals "_law_alike" = some (some (.ref f20)))
    (l20 : K.lookup f20 = some ⟨oc20, od20, .func (PySem.W.fnOf "_law_alike" "_law_alike" (defArgs st__law_alike) (defBody st__law_alike) (defScope st__law_alike) .none kV20 dc20 pm20 an20 cd20 ct20), sl20⟩)
    (c20 : PySem.W.codeIn K cd20 "_law_alike" = true)
    (k20 : PySem.W.keepIn K (.ref f20) = true)
    (a21 : PySem.W.nsIn K mainGlobals "_law_points" = some (some (.ref f21)))
    (l21 : K.lookup f21 = some ⟨oc21, od21, .func (PySem.W.fnOf "_law_points" "_law_points" (defArgs st__law_points) (defBody st__law_points) (defScope st__law_points) .none kV21 dc21 pm21 an21 cd21 ct21), sl21⟩)
    (c21 : PySem.W.codeIn K cd21 "_law_points" = true)
    (k21 : PySem.W.keepIn K (.ref f21) = true)
    (a22 : PySem.W.nsIn K mainGlobals "_law_ends" = some (some (.ref f22)))
    (l22 : K.lookup f22 = some ⟨oc22, od22, .func (PySem.W.fnOf "_law_ends" "_law_ends" (defArgs st__law_ends) (defBody st__law_ends) (defScope st__law_ends) .none kV22 dc22 pm22 an22 cd22 ct22), sl22⟩)
    (c22 : PySem.W.codeIn K cd22 "_law_ends" = true)
    (k22 : PySem.W.keepIn K (.ref f22) = true)
    (a23 : PySem.W.nsIn K mainGlobals "_law_on" = some (some (.ref f23)))
    (l23 : K.lookup f23 = some ⟨oc23, od23, .func (PySem.W.fnOf "_law_on" "_law_on" (defArgs st__law_on) (defBody st__law_on) (defScope st__law_on) .none kV23 dc23 pm23 an23 cd23 ct23), sl23⟩)
    (c23 : PySem.W.codeIn K cd23 "_law_on" = true)
    (k23 : PySem.W.keepIn K (.ref f23) = true)
    (a24 : PySem.W.nsIn K mainGlobals "_law_lines_of" = some (some (.ref f24)))
    (l24 : K.lookup f24 = some ⟨oc24, od24, .func (PySem.W.fnOf "_law_lines_of" "_law_lines_of" (defArgs st__law_lines_of) (defBody st__law_lines_of) (defScope st__law_lines_of) .none kV24 dc24 pm24 an24 cd24 ct24), sl24⟩)
    (c24 : PySem.W.codeIn K cd24 "_law_lines_of" = true)
    (k24 : PySem.W.keepIn K (.ref f24) = true)
    (a25 : PySem.W.nsIn K mainGlobals "_law_beside" = some (some (.ref f25)))
    (l25 : K.lookup f25 = some ⟨oc25, od25, .func (PySem.W.fnOf "_law_beside" "_law_beside" (defArgs st__law_beside) (defBody st__law_beside) (defScope st__law_beside) .none kV25 dc25 pm25 an25 cd25 ct25), sl25⟩)
    (c25 : PySem.W.codeIn K cd25 "_law_beside" = true)
    (k25 : PySem.W.keepIn K (.ref f25) = true)
    (a26 : PySem.W.nsIn K mainGlobals "_law_line" = some (some (.ref f26)))
    (l26 : K.lookup f26 = some ⟨oc26, od26, .func (PySem.W.fnOf "_law_line" "_law_line" (defArgs st__law_line) (defBody st__law_line) (defScope st__law_line) .none kV26 dc26 pm26 an26 cd26 ct26), sl26⟩)
    (c26 : PySem.W.codeIn K cd26 "_law_line" = true)
    (k26 : PySem.W.keepIn K (.ref f26) = true)
    (a27 : PySem.W.nsIn K mainGlobals "_law_straight" = some (some (.ref f27)))
    (l27 : K.lookup f27 = some ⟨oc27, od27, .func (PySem.W.fnOf "_law_straight" "_law_straight" (defArgs st__law_straight) (defBody st__law_straight) (defScope st__law_straight) .none kV27 dc27 pm27 an27 cd27 ct27), sl27⟩)
    (c27 : PySem.W.codeIn K cd27 "_law_straight" = true)
    (k27 : PySem.W.keepIn K (.ref f27) = true)
    (a28 : PySem.W.nsIn K mainGlobals "_law_walk" = some (some (.ref f28)))
    (l28 : K.lookup f28 = some ⟨oc28, od28, .func (PySem.W.fnOf "_law_walk" "_law_walk" (defArgs st__law_walk) (defBody st__law_walk) (defScope st__law_walk) .none kV28 dc28 pm28 an28 cd28 ct28), sl28⟩)
    (c28 : PySem.W.codeIn K cd28 "_law_walk" = true)
    (k28 : PySem.W.keepIn K (.ref f28) = true)
    (a29 : PySem.W.nsIn K mainGlobals "_law_bag" = some (some (.ref f29)))
    (l29 : K.lookup f29 = some ⟨oc29, od29, .func (PySem.W.fnOf "_law_bag" "_law_bag" (defArgs st__law_bag) (defBody st__law_bag) (defScope st__law_bag) .none kV29 dc29 pm29 an29 cd29 ct29), sl29⟩)
    (c29 : PySem.W.codeIn K cd29 "_law_bag" = true)
    (k29 : PySem.W.keepIn K (.ref f29) = true)
    (a30 : PySem.W.nsIn K mainGlobals "_law_heard" = some (some (.ref f30)))
    (l30 : K.lookup f30 = some ⟨oc30, od30, .func (PySem.W.fnOf "_law_heard" "_law_heard" (defArgs st__law_heard) (defBody st__law_heard) (defScope st__law_heard) .none kV30 dc30 pm30 an30 cd30 ct30), sl30⟩)
    (c30 : PySem.W.codeIn K cd30 "_law_heard" = true)
    (k30 : PySem.W.keepIn K (.ref f30) = true)
    (a31 : PySem.W.nsIn K mainGlobals "law" = some (some (.ref f31)))
    (l31 : K.lookup f31 = some ⟨oc31, od31, .func (PySem.W.fnOf "law" "law" (defArgs st_law) (defBody st_law) (defScope st_law) .none kV31 dc31 pm31 an31 (.ref cL) ct31), sl31⟩)
    (c31 : PySem.W.codeIn K (.ref cL) "law" = true)
    (z_abs : PySem.W.nsIn K mainGlobals "abs" = some none)
    (z_bool : PySem.W.nsIn K mainGlobals "bool" = some none)
    (z_int : PySem.W.nsIn K mainGlobals "int" = some none)
    (z_isinstance : PySem.W.nsIn K mainGlobals "isinstance" = some none)
    (z_len : PySem.W.nsIn K mainGlobals "len" = some none)
    (z_list : PySem.W.nsIn K mainGlobals "list" = some none)
    (z_min : PySem.W.nsIn K mainGlobals "min" = some none)
    (z_range : PySem.W.nsIn K mainGlobals "range" = some none)
    (z_repr : PySem.W.nsIn K mainGlobals "repr" = some none)
    (z_sorted : PySem.W.nsIn K mainGlobals "sorted" = some none)
    (z_tuple : PySem.W.nsIn K mainGlobals "tuple" = some none)
    (z_zip : PySem.W.nsIn K mainGlobals "zip" = some none)
    (aGd : PySem.W.nsIn K mainGlobals "GOES" = some (some (.ref aG)))
    (lG : K.lookup aG = some ⟨.type "dict", none, .dict es nn, #[]⟩)
    (kl : PySem.W.KeysLit w.params es.toList)
    (low : (aG == sysModules) = false)
    (hu : us = [(.inr "e", .ref e), (.inr "n", .ref n), (.inr "w", .ref wa), (.inr "s", .ref s)])
    (pr : ∀ prog, Pairs (mixKind prog w) es.toList us)
    (qe : K.lookup e = some ⟨.type "tuple", oe, .seq #[.int (1) te, .int (0) ue] me, ze⟩)
    (qn : K.lookup n = some ⟨.type "tuple", on, .seq #[.int (0) tn, .int (1) un] mn, zn⟩)
    (qwa : K.lookup wa = some ⟨.type "tuple", owa, .seq #[.int (-1) twa, .int (0) uwa] mwa, zwa⟩)
    (qs : K.lookup s = some ⟨.type "tuple", os, .seq #[.int (0) ts, .int (-1) us2] ms, zs⟩)
    (aC : PySem.W.nsIn K mainGlobals "Nothing" = some (some (.ref CS)))
    (xC : PySem.W.excIn K CS [.type "ValueError", .type "Exception", .type "BaseException", .type "object"] "ValueError.__new__" = true)
    (kC : PySem.W.keepIn K (.ref CS) = true)
    (bC : PySem.W.subIn K (.ref CS) (.type "BaseException") = some true)
    (tC : PySem.W.typeIn K (.ref CS) = some (.type "type"))
    (iC : PySem.W.isClsIn K CS = true)
    (sC : PySem.W.subIn K (.ref CS) (.ref CS) = some true)
    (hTab : h.get? tP = some { cls := .none, data := .fields #[] })
    (nT : K.lookup tP = none)
    (hC : PySem.W.codeHdIn K cL tP = true)
    :
    ∃ (fd : FuncData) (cs : List (Addr × Addr)) (sp : Sp), (∀ c ∈ cs, h.get? c.2 = some { cls := .none, data := .fields #[] }) ∧ (∀ c ∈ cs, K.lookup c.2 = none) ∧ (∀ c ∈ cs, PySem.W.CodeHd h c.1 c.2) ∧ (∀ (s : Shared) (u : Value), BindsTo s fd ⟨[u], []⟩ [("script", u)]) ∧
      (∀ (H : Hp) (a : Addr) (ns : List Int), ns.length ≤ 63 → (∀ z ∈ ns, Builtin.Int.intBits z ≤ 1048576) → (∀ c ∈ cs, H c.2 = some (.tbl #[])) → SqL K H a (ns.map V.int) → sp [.ref a] H (fun v _ => v = .bl true) fun _ _ _ => False) ∧
      ∀ base : Heap, K.In base → base.Ns mainGlobals mg → (∀ c ∈ cs, LamX.TabB base mg c.1 c.2) → FnG P w K mg base true 10 fa fd ["script"] sp := by
  have e0 := hfa.symm.trans (PySem.W.mg_of X G a31)
  cases e0
  have F0 := fun_mk (st := st_is_number) l0 c0 k0
  have F1 := fun_mk (st := st_is_index) l1 c1 k1
  have F2 := fun_mk (st := st_is_sized) l2 c2 k2
  have F3 := fun_mk (st := st_is_couple) l3 c3 k3
  have F4 := fun_mk (st := st_is_point) l4 c4 k4
  have F5 := fun_mk (st := st_points) l5 c5 k5
  have F6 := fun_mk (st := st_lines_of) l6 c6 k6
  have F7 := fun_mk (st := st_ends_of) l7 c7 k7
  have F8 := fun_mk (st := st_moved) l8 c8 k8
  have F9 := fun_mk (st := st_distance) l9 c9 k9
  have F10 := fun_mk (st := st_line_between) l10 c10 k10
  have F11 := fun_mk (st := st_side_between) l11 c11 k11
  have F12 := fun_mk (st := st_neighbours) l12 c12 k12
  have F13 := fun_mk (st := st_is_at_rim) l13 c13 k13
  have F14 := fun_mk (st := st_straight_way) l14 c14 k14
  have F15 := fun_mk (st := st_walked) l15 c15 k15
  have F16 := fun_mk (st := st_lines_walked) l16 c16 k16
  have F17 := fun_mk (st := st__law_take) l17 c17 k17
  have F18 := fun_mk (st := st__law_some) l18 c18 k18
  have F19 := fun_mk (st := st__law_mixed) l19 c19 k19
  have F20 := fun_mk (st := st__law_alike) l20 c20 k20
  have F21 := fun_mk (st := st__law_points) l21 c21 k21
  have F22 := fun_mk (st := st__law_ends) l22 c22 k22
  have F23 := fun_mk (st := st__law_on) l23 c23 k23
  have F24 := fun_mk (st := st__law_lines_of) l24 c24 k24
  have F25 := fun_mk (st := st__law_beside) l25 c25 k25
  have F26 := fun_mk (st := st__law_line) l26 c26 k26
  have F27 := fun_mk (st := st__law_straight) l27 c27 k27
  have F28 := fun_mk (st := st__law_walk) l28 c28 k28
  have F29 := fun_mk (st := st__law_bag) l29 c29 k29
  have F30 := fun_mk (st := st__law_heard) l30 c30 k30
  have b0 := F0.binds (ps := ["thing"]) fun _ _ _ _ _ _ us hl => match us, hl with | [_], _ => rfl
  have b1 := F1.binds (ps := ["thing"]) fun _ _ _ _ _ _ us hl => match us, hl with | [_], _ => rfl
  have b2 := F2.binds (ps := ["thing", "many"]) fun _ _ _ _ _ _ us hl => match us, hl with | [_, _], _ => rfl
  have b3 := F3.binds (ps := ["thing"]) fun _ _ _ _ _ _ us hl => match us, hl with | [_], _ => rfl
  have b4 := F4.binds (ps := ["sheet", "thing"]) fun _ _ _ _ _ _ us hl => match us, hl with | [_, _], _ => rfl
  have b5 := F5.binds (ps := ["sheet"]) fun _ _ _ _ _ _ us hl => match us, hl with | [_], _ => rfl
  have b6 := F6.binds (ps := ["sheet"]) fun _ _ _ _ _ _ us hl => match us, hl with | [_], _ => rfl
  have b7 := F7.binds (ps := ["line"]) fun _ _ _ _ _ _ us hl => match us, hl with | [_], _ => rfl
  have b8 := F8.binds (ps := ["sheet", "point", "side"]) fun _ _ _ _ _ _ us hl => match us, hl with | [_, _, _], _ => rfl
  have b9 := F9.binds (ps := ["one", "other"]) fun _ _ _ _ _ _ us hl => match us, hl with | [_, _], _ => rfl
  have b10 := F10.binds (ps := ["one", "other"]) fun _ _ _ _ _ _ us hl => match us, hl with | [_, _], _ => rfl
  have b11 := F11.binds (ps := ["one", "other"]) fun _ _ _ _ _ _ us hl => match us, hl with | [_, _], _ => rfl
  have b12 := F12.binds (ps := ["sheet", "point"]) fun _ _ _ _ _ _ us hl => match us, hl with | [_, _], _ => rfl
  have b13 := F13.binds (ps := ["sheet", "point", "side"]) fun _ _ _ _ _ _ us hl => match us, hl with | [_, _, _], _ => rfl
  have b14 := F14.binds (ps := ["one", "other"]) fun _ _ _ _ _ _ us hl => match us, hl with | [_, _], _ => rfl
  have b15 := F15.binds (ps := ["sheet", "point", "sides"]) fun _ _ _ _ _ _ us hl => match us, hl with | [_, _, _], _ => rfl
  have b16 := F16.binds (ps := ["sheet", "point", "sides"]) fun _ _ _ _ _ _ us hl => match us, hl with | [_, _, _], _ => rfl
  have b17 := F17.binds (ps := ["bag", "many"]) fun _ _ _ _ _ _ us hl => match us, hl with | [_, _], _ => rfl
  have b18 := F18.binds (ps := ["bag", "things"]) fun _ _ _ _ _ _ us hl => match us, hl with | [_, _], _ => rfl
  have b19 := F19.binds (ps := ["bag", "things"]) fun _ _ _ _ _ _ us hl => match us, hl with | [_, _], _ => rfl
  have b20 := F20.binds (ps := ["found", "due"]) fun _ _ _ _ _ _ us hl => match us, hl with | [_, _], _ => rfl
  have b21 := F21.binds (ps := ["sheet"]) fun _ _ _ _ _ _ us hl => match us, hl with | [_], _ => rfl
  have b22 := F22.binds (ps := ["line"]) fun _ _ _ _ _ _ us hl => match us, hl with | [_], _ => rfl
  have b23 := F23.binds (ps := ["sheet", "point"]) fun _ _ _ _ _ _ us hl => match us, hl with | [_, _], _ => rfl
  have b24 := F24.binds (ps := ["sheet"]) fun _ _ _ _ _ _ us hl => match us, hl with | [_], _ => rfl
  have b25 := F25.binds (ps := ["point", "side"]) fun _ _ _ _ _ _ us hl => match us, hl with | [_, _], _ => rfl
  have b26 := F26.binds (ps := ["one", "other"]) fun _ _ _ _ _ _ us hl => match us, hl with | [_, _], _ => rfl
  have b27 := F27.binds (ps := ["one", "other"]) fun _ _ _ _ _ _ us hl => match us, hl with | [_, _], _ => rfl
  have b28 := F28.binds (ps := ["sheet", "point", "plot"]) fun _ _ _ _ _ _ us hl => match us, hl with | [_, _, _], _ => rfl
  have b29 := F29.binds (ps := ["script"]) fun _ _ _ _ _ _ us hl => match us, hl with | [_], _ => rfl
  have b30 := F30.binds (ps := ["act"]) fun _ _ _ _ _ _ us hl => match us, hl with | [_], _ => rfl
  have B : Bs K mg w aG := ⟨PySem.W.mg_none_of X G z_abs, PySem.W.mg_none_of X G z_bool, PySem.W.mg_none_of X G z_int, PySem.W.mg_none_of X G z_isinstance, PySem.W.mg_none_of X G z_len, PySem.W.mg_none_of X G z_list, PySem.W.mg_none_of X G z_min, PySem.W.mg_none_of X G z_range, PySem.W.mg_none_of X G z_repr, PySem.W.mg_none_of X G z_sorted, PySem.W.mg_none_of X G z_tuple, PySem.W.mg_none_of X G z_zip, PySem.W.mg_of X G aGd, fun b1 b2 tb F => dgoes lG kl low hu pr qe qn qwa qs mg b1 b2 tb F⟩
  have L : Lh K mg f30 CS _ := ⟨F30, PySem.W.mg_of X G a30, b30, PySem.W.mg_of X G aC, exm_of bC iC tC sC, xC, kC, bC, tC⟩
  refine ⟨PySem.W.fnOf "law" "law" (defArgs st_law) (defBody st_law) (defScope st_law) .none kV31 dc31 pm31 an31 (.ref cL) ct31, [(cL, tP)], spLaw K tP, ?_, ?_, ?_, fun s u => .of_eq rfl, fun H a ns hl hb hc hs => ?_, fun base hKb hNs hTB => ?_⟩
  · intro c hc; rw [List.mem_singleton.mp hc]; exact hTab
  · intro c hc; rw [List.mem_singleton.mp hc]; exact nT
  · intro c hc; rw [List.mem_singleton.mp hc]; exact PySem.W.codeHd_of_K X hC
  · exact ⟨a, ns, rfl, hs, hc (cL, tP) (List.mem_singleton_self _), law_good ns hl, fun _ => rfl⟩
  · have TB := hTB (cL, tP) (List.mem_singleton_self _)
    have d_is_number := cal_is_number (P := P) (base := base) B L F0 (PySem.W.mg_of X G a0) b0 
    have d_is_index := cal_is_index (P := P) (base := base) B L F1 (PySem.W.mg_of X G a1) b1 d_is_number
    have d_is_sized := cal_is_sized (P := P) (base := base) B L F2 (PySem.W.mg_of X G a2) b2 
    have d_is_couple := cal_is_couple (P := P) (base := base) B L F3 (PySem.W.mg_of X G a3) b3 d_is_index d_is_sized
    have d_is_point := cal_is_point (P := P) (base := base) B L F4 (PySem.W.mg_of X G a4) b4 d_is_couple
    have d_points := cal_points (P := P) (base := base) B L F5 (PySem.W.mg_of X G a5) b5 
    have d_lines_of := cal_lines_of (P := P) (base := base) B L F6 (PySem.W.mg_of X G a6) b6 d_points
    have d_ends_of := cal_ends_of (P := P) (base := base) B L F7 (PySem.W.mg_of X G a7) b7 
    have d_moved := cal_moved (P := P) (base := base) B L F8 (PySem.W.mg_of X G a8) b8 d_is_point
    have d_distance := cal_distance (P := P) (base := base) B L F9 (PySem.W.mg_of X G a9) b9 
    have d_line_between := cal_line_between (P := P) (base := base) B L F10 (PySem.W.mg_of X G a10) b10 d_distance
    have d_side_between := cal_side_between (P := P) (base := base) B L F11 (PySem.W.mg_of X G a11) b11 
    have d_neighbours := cal_neighbours (P := P) (base := base) B L F12 (PySem.W.mg_of X G a12) b12 d_moved
    have d_is_at_rim := cal_is_at_rim (P := P) (base := base) B L F13 (PySem.W.mg_of X G a13) b13 d_moved
    have d_straight_way := cal_straight_way (P := P) (base := base) B L F14 (PySem.W.mg_of X G a14) b14 
    have d_walked := cal_walked (P := P) (base := base) B L F15 (PySem.W.mg_of X G a15) b15 d_moved
    have d_lines_walked := cal_lines_walked (P := P) (base := base) B L F16 (PySem.W.mg_of X G a16) b16 d_line_between d_walked
    have d__law_take := cal__law_take (P := P) (base := base) B L F17 (PySem.W.mg_of X G a17) b17 
    have d__law_some := cal__law_some (P := P) (base := base) B L F18 (PySem.W.mg_of X G a18) b18 d__law_take
    have d__law_mixed := cal__law_mixed (P := P) (base := base) B L F19 (PySem.W.mg_of X G a19) b19 d__law_take
    have d__law_alike := cal__law_alike (P := P) (base := base) B L F20 (PySem.W.mg_of X G a20) b20 
    have d__law_points := cal__law_points (P := P) (base := base) B L F21 (PySem.W.mg_of X G a21) b21 
    have d__law_ends := cal__law_ends (P := P) (base := base) B L F22 (PySem.W.mg_of X G a22) b22 
    have d__law_on := cal__law_on (P := P) (base := base) B L F23 (PySem.W.mg_of X G a23) b23 
    have d__law_lines_of := cal__law_lines_of (P := P) (base := base) B L F24 (PySem.W.mg_of X G a24) b24 d__law_ends d__law_on d__law_points
    have d__law_beside := cal__law_beside (P := P) (base := base) B L F25 (PySem.W.mg_of X G a25) b25 
    have d__law_line := cal__law_line (P := P) (base := base) B L F26 (PySem.W.mg_of X G a26) b26 
    have d__law_straight := cal__law_straight (P := P) (base := base) B L F27 (PySem.W.mg_of X G a27) b27 
    have d__law_walk := cal__law_walk (P := P) (base := base) B L F28 (PySem.W.mg_of X G a28) b28 d__law_beside d__law_line d__law_on
    exact law_fn B L l31 c31 F29 (PySem.W.mg_of X G a29) b29 TB d__law_alike d__law_beside d__law_ends d__law_lines_of d__law_mixed d__law_on d__law_points d__law_some d__law_straight d__law_take d__law_walk d_distance d_ends_of d_is_at_rim d_line_between d_lines_of d_lines_walked d_moved d_neighbours d_points d_side_between d_straight_way d_walked
end Ink.K01
open PySem PySem.W PyProof.Rows
set_option maxRecDepth 100000 in
set_option maxHeartbeats 0 in
theorem PySem.Challenge.cw_inkwalk_k01_points_lines_and_sides_holds : PySem.Challenge.rw_inkwalk_k01_points_lines_and_sides.Holds := by
  w_on; o_law; k_head; (case hw => w_witness2)
  k_fill
  refine Ink.walk_ink (l := PySem.Challenge.rw_inkwalk_k01_points_lines_and_sides) (n := 63) (k := 10) (x := "script") rfl (by decide) rfl ⟨rfl, by decide, by decide⟩ (fun w h Y => PySem.W.km_in_of Y) ?F
  case F =>
    intro w mg fa h Y KX G hmg
    have hT := PySem.W.km_tabs_of Y
    refine' Ink.K01.all_mk (w := w) KX G hmg ?a0 ?l0 ?c0 ?k0 ?a1 ?l1 ?c1 ?k1 ?a2 ?l2 ?c2 ?k2 ?a3 ?l3 ?c3 ?k3 ?a4 ?l4 ?c4 ?k4 ?a5 ?l5 ?c5 ?k5 ?a6 ?l6 ?c6 ?k6 ?a7 ?l7 ?c7 ?k7 ?a8 ?l8 ?c8 ?k8 ?a9 ?l9 ?c9 ?k9 ?a10 ?l10 ?c10 ?k10 ?a11 ?l11 ?c11 ?k11 ?a12 ?l12 ?c12 ?k12 ?a13 ?l13 ?c13 ?k13 ?a14 ?l14 ?c14 ?k14 ?a15 ?l15 ?c15 ?k15 ?a16 ?l16 ?c16 ?k16 ?a17 ?l17 ?c17 ?k17 ?a18 ?l18 ?c18 ?k18 ?a19 ?l19 ?c19 ?k19 ?a20 ?l20 ?c20 ?k20 ?a21 ?l21 ?c21 ?k21 ?a22 ?l22 ?c22 ?k22 ?a23 ?l23 ?c23 ?k23 ?a24 ?l24 ?c24 ?k24 ?a25 ?l25 ?c25 ?k25 ?a26 ?l26 ?c26 ?k26 ?a27 ?l27 ?c27 ?k27 ?a28 ?l28 ?c28 ?k28 ?a29 ?l29 ?c29 ?k29 ?a30 ?l30 ?c30 ?k30 ?a31 ?l31 ?c31 ?z_abs ?z_bool ?z_int ?z_isinstance ?z_len ?z_list ?z_min ?z_range ?z_repr ?z_sorted ?z_tuple ?z_zip ?aGd ?lG ?kl ?low ?hu ?pr ?qe ?qn ?qwa ?qs ?aC ?xC ?kC ?bC ?tC ?iC ?sC ?hTab ?nT ?hC
    (case a0 => k_is)
    (case l0 => k_is)
    (case c0 => k_is)
    (case k0 => k_is)
    (case a1 => k_is)
    (case l1 => k_is)
    (case c1 => k_is)
    (case k1 => k_is)
    (case a2 => k_is)
    (case l2 => k_is)
    (case c2 => k_is)
    (case k2 => k_is)
    (case a3 => k_is)
    (case l3 => k_is)
    (case c3 => k_is)
    (case k3 => k_is)
    (case a4 => k_is)
    (case l4 => k_is)
    (case c4 => k_is)
    (case k4 => k_is)
    (case a5 => k_is)
    (case l5 => k_is)
    (case c5 => k_is)
    (case k5 => k_is)
    (case a6 => k_is)
    (case l6 => k_is)
    (case c6 => k_is)
    (case k6 => k_is)
    (case a7 => k_is)
    (case l7 => k_is)
    (case c7 => k_is)
    (case k7 => k_is)
    (case a8 => k_is)
    (case l8 => k_is)
    (case c8 => k_is)
    (case k8 => k_is)
    (case a9 => k_is)
    (case l9 => k_is)
    (case c9 => k_is)
    (case k9 => k_is)
    (case a10 => k_is)
    (case l10 => k_is)
    (case c10 => k_is)
    (case k10 => k_is)
    (case a11 => k_is)
    (case l11 => k_is)
    (case c11 => k_is)
    (case k11 => k_is)
    (case a12 => k_is)
    (case l12 => k_is)
    (case c12 => k_is)
    (case k12 => k_is)
    (case a13 => k_is)
    (case l13 => k_is)
    (case c13 => k_is)
    (case k13 => k_is)
    (case a14 => k_is)
    (case l14 => k_is)
    (case c14 => k_is)
    (case k14 => k_is)
    (case a15 => k_is)
    (case l15 => k_is)
    (case c15 => k_is)
    (case k15 => k_is)
    (case a16 => k_is)
    (case l16 => k_is)
    (case c16 => k_is)
    (case k16 => k_is)
    (case a17 => k_is)
    (case l17 => k_is)
    (case c17 => k_is)
    (case k17 => k_is)
    (case a18 => k_is)
    (case l18 => k_is)
    (case c18 => k_is)
    (case k18 => k_is)
    (case a19 => k_is)
    (case l19 => k_is)
    (case c19 => k_is)
    (case k19 => k_is)
    (case a20 => k_is)
    (case l20 => k_is)
    (case c20 => k_is)
    (case k20 => k_is)
    (case a21 => k_is)
    (case l21 => k_is)
    (case c21 => k_is)
    (case k21 => k_is)
    (case a22 => k_is)
    (case l22 => k_is)
    (case c22 => k_is)
    (case k22 => k_is)
    (case a23 => k_is)
    (case l23 => k_is)
    (case c23 => k_is)
    (case k23 => k_is)
    (case a24 => k_is)
    (case l24 => k_is)
    (case c24 => k_is)
    (case k24 => k_is)
    (case a25 => k_is)
    (case l25 => k_is)
    (case c25 => k_is)
    (case k25 => k_is)
    (case a26 => k_is)
    (case l26 => k_is)
    (case c26 => k_is)
    (case k26 => k_is)
    (case a27 => k_is)
    (case l27 => k_is)
    (case c27 => k_is)
    (case k27 => k_is)
    (case a28 => k_is)
    (case l28 => k_is)
    (case c28 => k_is)
    (case k28 => k_is)
    (case a29 => k_is)
    (case l29 => k_is)
    (case c29 => k_is)
    (case k29 => k_is)
    (case a30 => k_is)
    (case l30 => k_is)
    (case c30 => k_is)
    (case k30 => k_is)
    (case a31 => k_is)
    (case l31 => k_is)
    (case c31 => k_is)
    (case z_abs => k_is)
    (case z_bool => k_is)
    (case z_int => k_is)
    (case z_isinstance => k_is)
    (case z_len => k_is)
    (case z_list => k_is)
    (case z_min => k_is)
    (case z_range => k_is)
    (case z_repr => k_is)
    (case z_sorted => k_is)
    (case z_tuple => k_is)
    (case z_zip => k_is)
    (case aGd => k_is)
    (case lG => k_is)
    (case kl => exact ⟨⟨_, _, rfl, rfl⟩, ⟨_, _, rfl, rfl⟩, ⟨_, _, rfl, rfl⟩, ⟨_, _, rfl, rfl⟩, True.intro⟩)
    (case low => first | rfl | decide +kernel | k_is)
    (case hu => exact rfl)
    (case pr => intro prog; exact .cons rfl rfl (.cons rfl rfl (.cons rfl rfl (.cons rfl rfl .nil))))
    (case qe => k_is)
    (case qn => k_is)
    (case qwa => k_is)
    (case qs => k_is)
    (case aC => k_is)
    (case xC => first | k_is | kernel_rfl)
    (case kC => k_is)
    (case bC => k_is)
    (case tC => k_is)
    (case iC => k_is)
    (case sC => first | rfl | k_is)
    (case hTab => exact hT _ (List.mem_singleton_self _))
    (case nT => first | k_is | rfl)
    (case hC => first | k_is | kernel_rfl)

